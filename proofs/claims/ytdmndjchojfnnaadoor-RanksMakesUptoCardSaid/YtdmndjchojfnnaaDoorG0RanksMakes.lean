/- The law RanksMakes, a part of its proof: what the functions that it reaches compute. -/
import Derived.Test.YtdmndjchojfnnaaDoorDx7c821a46
import Derived.Test.YtdmndjchojfnnaaDoorW07RanksMakes
set_option linter.unusedVariables false
namespace Go.Vm
open Go
structure S_api_Span where
  Lo:Int
  Hi:Int
  deriving DecidableEq,Inhabited
abbrev c_S_api_Span (x:S_api_Span):List AV:=[iv x.Lo,iv x.Hi]
theorem ni_S_api_Span (x:S_api_Span):NoIds (c_S_api_Span x):=noids_cons (noid_s _) (noids_cons (noid_s _) (noids_nil))
theorem fz_S_api_Span (x:S_api_Span):Frz (c_S_api_Span x):=frz_s (frz_s (frz_nil))
set_option maxRecDepth 100000
set_option maxHeartbeats 0
set_option linter.unusedSimpArgs false
abbrev ranks_All_r1:List LO:=[lo 2 (.assign (.const (.slice none 0 0))) 22]
abbrev ranks_All_r2:List LO:=[lm 3 0 3,lo 4 (.binOp .lss 3 (.tmp 3) (.const (.int .i64 1)) 3) 4]
abbrev ranks_All_r3:List LO:=[lo 2 (.assign (.const (.slice none 0 0))) 22]
abbrev ranks_All_r4:List LO:=[lm 5 0 3,lo 6 (.call ⟨.builtin .min,#[.tmp 5,.const (.int .i64 65536)],#[3,3]⟩) 3,lo 7 (.build 45 #[(1,.tmp 6)]) 45,lo 8 (.buildSlice 22 1 #[(0,.tmp 7)]) 22,lo 2 (.assign (.tmp 8)) 22]
abbrev ranks_All_c:LC:=.seq (.reg false ranks_All_r1) (.seq (.seq (.reg false ranks_All_r2) (.cond (.tmp 4) (.seq (.reg false ranks_All_r3) .ret) .skip)) (.seq (.reg false ranks_All_r4) .ret))
theorem ranks_All_k:FnOk E 14 9 [.tmp 2] ranks_All_c:=⟨⟨Go.Proofs.Tryd.f14,by kernel_rfl,by kernel_rfl,by kernel_rfl,by kernel_rfl,by kernel_rfl⟩,rfl,rfl⟩
noncomputable def ranks_All (a0:Int):Option ((List S_api_Span)):=(if (decide (a0 < 1))=true then some [] else some [(S_api_Span.mk 0 (if 65536 < a0 then 65536 else a0))])
theorem ranks_All_ok (a0:Int):Ct E 14 [iv a0] (ranks_All a0) (fun r:(List S_api_Span)=>.fsl 2 (List.map c_S_api_Span r)):=ct_intro (N:=9) (L:=ranks_All_c) ranks_All_k rfl (Nat.le_of_ble_eq_true rfl) (by kernel_rfl) (by
 unfold ranks_All
 refine jS ⟨[V 0 (iv a0)],[],0⟩ ?_
 refine jc_seq ?_
 refine jS ⟨[V 0 (iv a0),V 4 (bv (decide (a0 < 1)))],[],0⟩ ?_
 refine jIf ?_ ?_
 ·refine jS ⟨[V 2 (nilS)],[],0⟩ ?_
  refine jc_ret ?_
  refine jx_seqR ?_
  exact jx_retF (.inr rfl) (v:=nilS) (by kernel_rfl) rfl (fle_nil _)
 refine jc_skip ?_
 refine jx_seqN ?_
 refine jS ⟨[V 2 (.osl 0 0 (List.length [(S_api_Span.mk 0 (if 65536 < a0 then 65536 else a0))]) 2)],[(0,.rows 2 (List.map c_S_api_Span [(S_api_Span.mk 0 (if 65536 < a0 then 65536 else a0))]))],1⟩ ?_
 refine jc_ret ?_
 exact jx_retF (.inr rfl) (v:=.osl 0 0 (List.length [(S_api_Span.mk 0 (if 65536 < a0 then 65536 else a0))]) 2) (by kernel_rfl) (snapc_own fz_S_api_Span (by kernel_rfl)) (fle_refl _))
abbrev ranks_Fit_r1:List LO:=[lo 4 (.assign (.const (.bool false))) 4]
abbrev ranks_Fit_r2:List LO:=[lm 8 0 3,lo 9 (.binOp .lss 3 (.tmp 8) (.const (.int .i64 0)) 3) 4,lm 10 9 4,lmg 11 0 3 10 false,lg 12 (.binOp .gtr 3 (.tmp 11) (.const (.int .i64 65536)) 3) 4 10 false,lo 13 (.pick (.tmp 10) (.const (.bool true)) (.tmp 12)) 4]
abbrev ranks_Fit_r3:List LO:=[lo 4 (.assign (.const (.bool false))) 4]
abbrev ranks_Fit_r4:List LO:=[lo 5 (.assign (.const (.int .i64 (-1)))) 3]
abbrev ranks_Fit_r5:List LO:=[lm 14 1 22,lo 15 (.call ⟨.builtin .len,#[.tmp 14],#[22]⟩) 3,lo 16 (.move (.const (.int .i64 0))) 3]
abbrev ranks_Fit_r6:List LO:=[lo 17 (.binOp .lss 3 (.tmp 16) (.tmp 15) 3) 0]
abbrev ranks_Fit_r7:List LO:=[lo 18 (.indexAddr 22 (.tmp 14) (.tmp 16)) 0,lo 19 (.load 45 (.tmp 18)) 45,lo 7 (.alloc 45) 0,ln (.store 45 (.tmp 7) (.tmp 19)) 0]
abbrev ranks_Fit_r8:List LO:=[lo 20 (.fieldAddr 45 (.tmp 7) 0) 0,lo 21 (.load 3 (.tmp 20)) 3,lm 22 5 3,lo 23 (.binOp .leq 3 (.tmp 21) (.tmp 22) 3) 4,lm 24 23 4,lg 25 (.fieldAddr 45 (.tmp 7) 0) 0 24 false,lg 26 (.load 3 (.tmp 25)) 3 24 false,lg 27 (.binOp .lss 3 (.tmp 26) (.const (.int .i64 0)) 3) 4 24 false,lo 28 (.pick (.tmp 24) (.const (.bool true)) (.tmp 27)) 4,lm 29 28 4,lg 30 (.fieldAddr 45 (.tmp 7) 1) 0 29 false,lg 31 (.load 3 (.tmp 30)) 3 29 false,lg 32 (.fieldAddr 45 (.tmp 7) 0) 0 29 false,lg 33 (.load 3 (.tmp 32)) 3 29 false,lg 34 (.binOp .leq 3 (.tmp 31) (.tmp 33) 3) 4 29 false,lo 35 (.pick (.tmp 29) (.const (.bool true)) (.tmp 34)) 4,lm 36 35 4,lg 37 (.fieldAddr 45 (.tmp 7) 1) 0 36 false,lg 38 (.load 3 (.tmp 37)) 3 36 false,lmg 39 0 3 36 false,lg 40 (.binOp .gtr 3 (.tmp 38) (.tmp 39) 3) 4 36 false,lo 41 (.pick (.tmp 36) (.const (.bool true)) (.tmp 40)) 4]
abbrev ranks_Fit_r9:List LO:=[lo 4 (.assign (.const (.bool false))) 4]
abbrev ranks_Fit_r10:List LO:=[lo 42 (.fieldAddr 45 (.tmp 7) 1) 0,lo 43 (.load 3 (.tmp 42)) 3,lo 5 (.assign (.tmp 43)) 3]
abbrev ranks_Fit_r11:List LO:=[lo 44 (.binOp .add 3 (.tmp 16) (.const (.int .i64 1)) 3) 3,lm 16 44 3]
abbrev ranks_Fit_r12:List LO:=[lo 4 (.assign (.const (.bool true))) 4]
abbrev ranks_Fit_c:LC:=.seq (.reg false ranks_Fit_r1) (.seq (.seq (.reg false ranks_Fit_r2) (.cond (.tmp 13) (.seq (.reg false ranks_Fit_r3) .ret) .skip)) (.seq (.reg false ranks_Fit_r4) (.seq (.seq (.reg false ranks_Fit_r5) (.block 0 (.loop (.seq (.reg false ranks_Fit_r6) (.seq (.cond (.tmp 17) .skip (.exit 0)) (.seq (.block 1 (.seq (.reg false ranks_Fit_r7) (.seq (.seq (.reg false ranks_Fit_r8) (.cond (.tmp 41) (.seq (.reg false ranks_Fit_r9) .ret) .skip)) (.reg false ranks_Fit_r10)))) (.reg false ranks_Fit_r11))))))) (.seq (.reg false ranks_Fit_r12) .ret))))
theorem ranks_Fit_k:FnOk E 16 45 [.tmp 4] ranks_Fit_c:=⟨⟨Go.Proofs.Tryd.f16,by kernel_rfl,by kernel_rfl,by kernel_rfl,by kernel_rfl,by kernel_rfl⟩,rfl,rfl⟩
noncomputable def ranks_Fit_l1 (a0:Int) (a1:(List S_api_Span)):(Int × Int)→Option (Step (Int × Int) ((Unit) ⊕ (Unit))):=fun (x2,x3)=>(if (decide (x3 < (List.length a1:Int)))=true then Option.bind (ixl a1 x3) (fun x7=>(if ((((decide (x7.Lo≤x2)) || (decide (x7.Lo < 0))) || (decide (x7.Hi≤x7.Lo))) || (decide (x7.Hi > a0)))=true then some (Step.done (Sum.inl ())) else some (Step.next (x7.Hi,(w64 (x3 + 1)))))) else some (Step.done (Sum.inr ())))
noncomputable def ranks_Fit (a0:Int) (a1:(List S_api_Span)):Option (Bool):=(if ((decide (a0 < 0)) || (decide (a0 > 65536)))=true then some false else Option.bind (loopC (ranks_Fit_l1 a0 a1) ((-1),0)) (fun y=>match y with | Sum.inl _=>some false | Sum.inr _=>some true))
theorem ranks_Fit_ok (a0:Int) (a1:(List S_api_Span)):Ct E 16 [iv a0,.fsl 2 (List.map c_S_api_Span a1)] (ranks_Fit a0 a1) (fun r:Bool=>bv r):=ct_intro (N:=45) (L:=ranks_Fit_c) ranks_Fit_k rfl (Nat.le_of_ble_eq_true rfl) (by kernel_rfl) (by
 unfold ranks_Fit
 refine jS ⟨[V 0 (iv a0),V 1 (.fsl 2 (List.map c_S_api_Span a1))],[],0⟩ ?_
 refine jc_seq ?_
 refine jS ⟨[V 0 (iv a0),V 1 (.fsl 2 (List.map c_S_api_Span a1)),V 13 (bv ((decide (a0 < 0)) || (decide (a0 > 65536))))],[],0⟩ ?_
 refine jIf ?_ ?_
 ·refine jS ⟨[V 4 (bv false)],[],0⟩ ?_
  refine jc_ret ?_
  refine jx_seqR ?_
  exact jx_retF (.inr rfl) (v:=bv false) (by kernel_rfl) rfl (fle_refl _)
 refine jc_skip ?_
 refine jx_seqN ?_
 refine jS ⟨[V 0 (iv a0),V 1 (.fsl 2 (List.map c_S_api_Span a1)),V 5 (iv (-1))],[],0⟩ ?_
 refine jc_seq ?_
 refine jR ?_
 refine jG 0 3 ⟨[V 0 (iv a0),V 5 (iv (-1)),V 14 (.fsl 2 (List.map c_S_api_Span a1)),V 15 (iv (List.length (List.map c_S_api_Span a1):Int)),V 16 (iv 0)],[],0⟩ ?_
 simp only[List.length_map]
 refine jN ?_
 refine jc_block ?_
 refine jc_bind (fun y=>match y with | Sum.inl _=>⟨[V 4 (bv false)],[],0⟩ | Sum.inr _=>⟨[],[],0⟩) (fun y=>match y with | Sum.inl _=>.ret | Sum.inr _=>(.exit 0)) (jc_loop (fun (x2,x3)=>⟨[V 0 (iv a0),V 5 (iv x2),V 14 (.fsl 2 (List.map c_S_api_Span a1)),V 15 (iv (List.length a1:Int)),V 16 (iv x3)],[],0⟩) (wkR [] (fix_nil _) allp_nil) ?_) ?_
 ·rintro⟨x2,x3⟩
  unfold ranks_Fit_l1
  refine jS ⟨[V 0 (iv a0),V 5 (iv x2),V 14 (.fsl 2 (List.map c_S_api_Span a1)),V 15 (iv (List.length a1:Int)),V 16 (iv x3),V 17 (bv (decide (x3 < (List.length a1:Int))))],[],0⟩ ?_
  refine jc_seq ?_
  refine jIf ?_ ?_
  ·refine jc_skip ?_
   refine jx_seqN ?_
   refine jc_seq ?_
   refine jc_block ?_
   refine jR ?_
   refine jr_part (i:=0) (mo:=ixl a1 x3) rfl rfl rfl rfl (fun _ hc=>aop_ixf (c:=c_S_api_Span) (sz:=2) (e:=45) (kk:=.i64) (by kernel_rfl) (by kernel_rfl) (by kernel_rfl) (by kernel_rfl) hc) (fun _=>rfl) ?_
   intro x7 h7
   refine jG 1 3 ⟨[V 0 (iv a0),V 5 (iv x2),V 7 (pt 0 2),V 14 (.fsl 2 (List.map c_S_api_Span a1)),V 15 (iv (List.length a1:Int)),V 16 (iv x3)],[W 0 2 [iv x7.Lo,iv x7.Hi]],1⟩ ?_
   refine jN ?_
   refine jc_seq ?_
   refine jS ⟨[V 0 (iv a0),V 7 (pt 0 2),V 14 (.fsl 2 (List.map c_S_api_Span a1)),V 15 (iv (List.length a1:Int)),V 16 (iv x3),V 41 (bv ((((decide (x7.Lo≤x2)) || (decide (x7.Lo < 0))) || (decide (x7.Hi≤x7.Lo))) || (decide (x7.Hi > a0))))],[W 0 2 [iv x7.Lo,iv x7.Hi]],1⟩ ?_
   refine jIf ?_ ?_
   ·refine jS ⟨[V 4 (bv false)],[],1⟩ ?_
    refine jc_ret ?_
    refine jx_seqR ?_
    refine jx_blkR ?_
    refine jx_seqR ?_
    exact jx_done rfl nofun (wkR [] (fix_nil _) allp_nil)
   refine jc_skip ?_
   refine jx_seqN ?_
   refine jT ⟨[V 0 (iv a0),V 5 (iv x7.Hi),V 14 (.fsl 2 (List.map c_S_api_Span a1)),V 15 (iv (List.length a1:Int)),V 16 (iv x3)],[],1⟩ ?_
   refine jx_blkN ?_
   refine jx_seqN ?_
   refine jT ⟨[V 0 (iv a0),V 5 (iv x7.Hi),V 14 (.fsl 2 (List.map c_S_api_Span a1)),V 15 (iv (List.length a1:Int)),V 16 (iv (w64 (x3 + 1)))],[],1⟩ ?_
   exact jx_next (wkR [] (fix_nil _) allp_nil)
  refine jc_exit ?_
  refine jx_seqE ?_
  exact jx_done rfl nofun (wkR [] (fix_nil _) allp_nil)
 rintro (_ | _)
 ·refine jx_blkR ?_
  refine jx_seqR ?_
  exact jx_retF (.inr rfl) (v:=bv false) (by kernel_rfl) rfl (fle_refl _)
 refine jx_blkE ?_
 refine jx_seqN ?_
 refine jS ⟨[V 4 (bv true)],[],0⟩ ?_
 refine jc_ret ?_
 exact jx_retF (.inr rfl) (v:=bv true) (by kernel_rfl) rfl (fle_refl _))
abbrev ranks_add_maa59_r1:List LO:=[lo 3 (.box 45 (.tmp 1)) 0,lo 4 (.assign (.const (.slice none 0 0))) 22]
abbrev ranks_add_maa59_r2:List LO:=[lm 6 0 22,lo 7 (.call ⟨.builtin .len,#[.tmp 6],#[22]⟩) 3,lo 8 (.binOp .sub 3 (.tmp 7) (.const (.int .i64 1)) 3) 3,lo 5 (.assign (.tmp 8)) 3]
abbrev ranks_add_maa59_r3:List LO:=[lm 9 5 3,lo 10 (.binOp .geq 3 (.tmp 9) (.const (.int .i64 0)) 3) 4,lm 11 10 4,lmg 12 0 22 11 true,lmg 13 5 3 11 true,lg 14 (.indexAddr 22 (.tmp 12) (.tmp 13)) 0 11 true,lg 15 (.fieldAddr 45 (.tmp 14) 1) 0 11 true,lg 16 (.load 3 (.tmp 15)) 3 11 true,lg 17 (.fieldAddr 45 (.tmp 3) 0) 0 11 true,lg 18 (.load 3 (.tmp 17)) 3 11 true,lg 19 (.binOp .eql 3 (.tmp 16) (.tmp 18) 3) 4 11 true,lo 20 (.pick (.tmp 11) (.tmp 19) (.const (.bool false))) 4]
abbrev ranks_add_maa59_r4:List LO:=[lm 21 0 22,lm 22 5 3,lo 23 (.fieldAddr 45 (.tmp 3) 1) 0,lo 24 (.load 3 (.tmp 23)) 3,lo 25 (.indexAddr 22 (.tmp 21) (.tmp 22)) 0,lo 26 (.fieldAddr 45 (.tmp 25) 1) 0,ln (.store 3 (.tmp 26) (.tmp 24)) 0]
abbrev ranks_add_maa59_r5:List LO:=[lm 27 0 22,lo 4 (.assign (.tmp 27)) 22]
abbrev ranks_add_maa59_r6:List LO:=[lm 28 0 22,lo 29 (.load 45 (.tmp 3)) 45,lo 30 (.buildSlice 22 1 #[(0,.tmp 29)]) 22,lo 31 (.call ⟨.builtin .append,#[.tmp 28,.tmp 30],#[22,22]⟩) 22,lo 4 (.assign (.tmp 31)) 22]
abbrev ranks_add_maa59_c:LC:=.seq (.reg false ranks_add_maa59_r1) (.seq (.seq (.reg false ranks_add_maa59_r2) (.seq (.reg true ranks_add_maa59_r3) (.cond (.tmp 20) (.seq (.reg false ranks_add_maa59_r4) (.seq (.reg false ranks_add_maa59_r5) .ret)) .skip))) (.seq (.reg false ranks_add_maa59_r6) .ret))
theorem ranks_add_maa59_k:FnOk E 48 32 [.tmp 4] ranks_add_maa59_c:=⟨⟨Go.Proofs.Tryd.f48,by kernel_rfl,by kernel_rfl,by kernel_rfl,by kernel_rfl,by kernel_rfl⟩,rfl,rfl⟩
abbrev ranks_add_maa59_T (a0:List S_api_Span) (a1:Int) (a2:Int) (r:List S_api_Span):CS:=⟨[V 4 (.osl 1 0 (List.length r) 2)],[(1,.rows 2 (List.map c_S_api_Span r))],2⟩
noncomputable def ranks_add_maa59 (a0:List S_api_Span) (a1:Int) (a2:Int):Option (List S_api_Span):=Option.bind (if (decide ((w64 ((List.length a0:Int) - 1))≥0))=true then Option.bind (ixl a0 (w64 ((List.length a0:Int) - 1))) (fun x8=>some (x8.Hi == a1)) else some false:Option (Bool)) (fun x7=>(if x7=true then Option.bind (ixl a0 (w64 ((List.length a0:Int) - 1))) (fun x9=>some (List.set a0 (Int.toNat (w64 ((List.length a0:Int) - 1))) (S_api_Span.mk x9.Lo a2))) else Option.bind (app 16 a0 [(S_api_Span.mk a1 a2)]) (fun x10=>some x10)))
theorem ranks_add_maa59_ok (a0:List S_api_Span) (a1:Int) (a2:Int):CtM E 48 [.osl 0 0 (List.length a0) 2,.agg [iv a1,iv a2]] [(0,.rows 2 (List.map c_S_api_Span a0))] 1 (ranks_add_maa59 a0 a1 a2) (fun r:List S_api_Span=>.osl 1 0 (List.length r) 2) (fun r:List S_api_Span=>[(1,.rows 2 (List.map c_S_api_Span r))]) 2:=ctm_intro (N:=32) (L:=ranks_add_maa59_c) ranks_add_maa59_k rfl (Nat.le_of_ble_eq_true rfl) (fun F hF=>by
 unfold ranks_add_maa59
 refine jS ⟨[V 0 (.osl 0 0 (List.length a0) 2),V 3 (pt 1 2)],[(0,.rows 2 (List.map c_S_api_Span a0)),W 1 2 [iv a1,iv a2]],2⟩ ?_
 refine jc_seq ?_
 refine jS ⟨[V 0 (.osl 0 0 (List.length a0) 2),V 3 (pt 1 2),V 5 (iv (w64 ((List.length a0:Int) - 1)))],[(0,.rows 2 (List.map c_S_api_Span a0)),W 1 2 [iv a1,iv a2]],2⟩ ?_
 refine jR ?_
 refine jG 0 3 ⟨[V 0 (.osl 0 0 (List.length a0) 2),V 3 (pt 1 2),V 5 (iv (w64 ((List.length a0:Int) - 1))),V 11 (bv (decide ((w64 ((List.length a0:Int) - 1))≥0)))],[(0,.rows 2 (List.map c_S_api_Span a0)),W 1 2 [iv a1,iv a2]],2⟩ ?_
 refine jr_bind 3 9 (fun x7=>⟨[V 0 (.osl 0 0 (List.length a0) 2),V 3 (pt 1 2),V 5 (iv (w64 ((List.length a0:Int) - 1))),V 20 (bv x7)],[(0,.rows 2 (List.map c_S_api_Span a0)),W 1 2 [iv a1,iv a2]],2⟩) ?_ ?_
 ·refine jSp 11 ?_ ?_
  ·refine jG 0 2 ⟨[V 0 (.osl 0 0 (List.length a0) 2),V 3 (pt 1 2),V 5 (iv (w64 ((List.length a0:Int) - 1))),(11,.lit true),V 12 (.osl 0 0 (List.length a0) 2),V 13 (iv (w64 ((List.length a0:Int) - 1)))],[(0,.rows 2 (List.map c_S_api_Span a0)),W 1 2 [iv a1,iv a2]],2⟩ ?_
   refine jr_part (i:=2) (mo:=ixl a0 (w64 ((List.length a0:Int) - 1))) rfl rfl rfl rfl (fun _ hc=>aop_ixo0 (sz:=2) (e:=45) (kk:=.i64) (id:=0) (by kernel_rfl) (by kernel_rfl) (by kernel_rfl) (by kernel_rfl) hc) (fun _=>rfl) ?_
   intro x8 h8
   refine jG 3 1 ⟨[V 0 (.osl 0 0 (List.length a0) 2),V 3 (pt 1 2),V 5 (iv (w64 ((List.length a0:Int) - 1))),(11,.lit true),V 15 (.ptr 0 (Int.toNat (w64 ((List.length a0:Int) - 1))) 2 1)],[(0,.rows 2 (List.map c_S_api_Span a0)),W 1 2 [iv a1,iv a2]],2⟩ ?_
   refine jr_one (i:=4) (v:=iv x8.Hi) rfl rfl rfl rfl (aop_ldo (l:=a0) (c:=c_S_api_Span) (id:=0) (k:=(Int.toNat (w64 ((List.length a0:Int) - 1)))) (sz:=2) (off:=1) (a:=x8) (by kernel_rfl) (by kernel_rfl) (ixl_lt h8).2.2 (by kernel_rfl)) rfl ?_
   refine jG 5 4 ⟨[V 0 (.osl 0 0 (List.length a0) 2),V 3 (pt 1 2),V 5 (iv (w64 ((List.length a0:Int) - 1))),V 20 (bv (x8.Hi == a1))],[(0,.rows 2 (List.map c_S_api_Span a0)),W 1 2 [iv a1,iv a2]],2⟩ ?_
   refine jr_nil rfl ?_
   exact jx_mid rfl (wkR [(0,some 0),(1,some 1)] (fix_of hF (k:=1) rfl) (pc (hL 0 (noid_map ni_S_api_Span _)) (pc (hC 1) allp_nil)))
  refine jG 0 9 ⟨[V 0 (.osl 0 0 (List.length a0) 2),V 3 (pt 1 2),V 5 (iv (w64 ((List.length a0:Int) - 1))),V 20 (bv false)],[(0,.rows 2 (List.map c_S_api_Span a0)),W 1 2 [iv a1,iv a2]],2⟩ ?_
  refine jr_nil rfl ?_
  exact jx_mid rfl (wkR [(0,some 0),(1,some 1)] (fix_of hF (k:=1) rfl) (pc (hL 0 (noid_map ni_S_api_Span _)) (pc (hC 1) allp_nil)))
 intro x7
 refine jN ?_
 refine jIf ?_ ?_
 ·refine jR ?_
  refine jG 0 4 ⟨[V 0 (.osl 0 0 (List.length a0) 2),V 21 (.osl 0 0 (List.length a0) 2),V 22 (iv (w64 ((List.length a0:Int) - 1))),V 24 (iv a2)],[(0,.rows 2 (List.map c_S_api_Span a0))],2⟩ ?_
  refine jr_part (i:=4) (mo:=ixl a0 (w64 ((List.length a0:Int) - 1))) rfl rfl rfl rfl (fun _ hc=>aop_ixo0 (sz:=2) (e:=45) (kk:=.i64) (id:=0) (by kernel_rfl) (by kernel_rfl) (by kernel_rfl) (by kernel_rfl) hc) (fun _=>rfl) ?_
  intro x9 h9
  refine jG 5 1 ⟨[V 0 (.osl 0 0 (List.length a0) 2),V 24 (iv a2),V 26 (.ptr 0 (Int.toNat (w64 ((List.length a0:Int) - 1))) 2 1)],[(0,.rows 2 (List.map c_S_api_Span a0))],2⟩ ?_
  refine jr_sto (i:=6) [0] [0] (st1:=⟨[V 0 (.osl 0 0 (List.length (List.set a0 (Int.toNat (w64 ((List.length a0:Int) - 1))) (S_api_Span.mk x9.Lo a2))) 2)],[(0,.rows 2 (List.map c_S_api_Span (List.set a0 (Int.toNat (w64 ((List.length a0:Int) - 1))) (S_api_Span.mk x9.Lo a2))))],2⟩) rfl rfl rfl rfl (aop_sto (l:=a0) (c:=c_S_api_Span) (id:=0) (k:=(Int.toNat (w64 ((List.length a0:Int) - 1)))) (sz:=2) (off:=1) (a:=x9) (a':=(S_api_Span.mk x9.Lo a2)) (w:=iv a2) (cs:=[iv a2]) (by kernel_rfl) (by kernel_rfl) (by kernel_rfl) (by kernel_rfl) (by kernel_rfl) (ixl_lt h9).2.2 (Nat.le_of_ble_eq_true rfl) (by kernel_rfl)) (by simp only[List.length_set]; kernel_rfl) ?_
  refine jN ?_
  refine jS ⟨[V 4 (.osl 0 0 (List.length (List.set a0 (Int.toNat (w64 ((List.length a0:Int) - 1))) (S_api_Span.mk x9.Lo a2))) 2)],[(0,.rows 2 (List.map c_S_api_Span (List.set a0 (Int.toNat (w64 ((List.length a0:Int) - 1))) (S_api_Span.mk x9.Lo a2))))],2⟩ ?_
  refine jc_ret ?_
  refine jx_seqR ?_
  exact jx_retM (ranks_add_maa59_T a0 a1 a2 (List.set a0 (Int.toNat (w64 ((List.length a0:Int) - 1))) (S_api_Span.mk x9.Lo a2))) (.inr rfl) (wkR [(0,some 0),(1,some 0)] (fix_of hF (k:=1) rfl) (pc (hL 0 (noid_map ni_S_api_Span _)) allp_nil))
 refine jc_skip ?_
 refine jx_seqN ?_
 refine jR ?_
 refine jG 0 3 ⟨[V 28 (.osl 0 0 (List.length a0) 2),V 30 (.osl 2 0 (List.length [(S_api_Span.mk a1 a2)]) 2)],[(0,.rows 2 (List.map c_S_api_Span a0)),(2,.rows 2 (List.map c_S_api_Span [(S_api_Span.mk a1 a2)]))],3⟩ ?_
 refine jr_part (i:=3) (mo:=app 16 a0 [(S_api_Span.mk a1 a2)]) rfl rfl rfl rfl (fun _ hc=>aop_app (u:=.osl 0 0 (List.length a0) 2) (w:=.osl 2 0 (List.length [(S_api_Span.mk a1 a2)]) 2) (e:=45) (td:=.slice 45) (by kernel_rfl) (by kernel_rfl) (by kernel_rfl) (by kernel_rfl) (.inl ⟨_,rfl⟩) (appendOf_own (c:=c_S_api_Span) (sz:=2) (b:=16) (id:=0) (by kernel_rfl) (by kernel_rfl) (rows_own (by kernel_rfl)) (List.cons_ne_nil _ _) hc)) (fun _=>rfl) ?_
 intro x10 h10
 refine jG 4 1 ⟨[V 4 (.osl 3 0 (List.length x10) 2)],[(3,.rows 2 (List.map c_S_api_Span x10))],4⟩ ?_
 refine jN ?_
 refine jc_ret ?_
 exact jx_retM (ranks_add_maa59_T a0 a1 a2 x10) (.inr rfl) (wkR [(0,some 0),(1,some 3)] (fix_of hF (k:=1) rfl) (pc (hL 3 (noid_map ni_S_api_Span _)) allp_nil)))
abbrev ranks_Where_r1:List LO:=[lo 2 (.assign (.const (.slice none 0 0))) 22]
abbrev ranks_Where_r2:List LO:=[lo 3 (.assign (.const (.slice none 0 0))) 22]
abbrev ranks_Where_r3:List LO:=[lm 6 0 32,lm 7 0 32,lo 8 (.call ⟨.builtin .len,#[.tmp 7],#[32]⟩) 3,lo 9 (.call ⟨.builtin .min,#[.tmp 8,.const (.int .i64 65536)],#[3,3]⟩) 3,lo 10 (.slice 32 (.tmp 6) none (some (.tmp 9)) none) 32,lo 11 (.call ⟨.builtin .len,#[.tmp 10],#[32]⟩) 3,lo 12 (.move (.const (.int .i64 0))) 3]
abbrev ranks_Where_r4:List LO:=[lo 13 (.binOp .lss 3 (.tmp 12) (.tmp 11) 3) 0]
abbrev ranks_Where_r5:List LO:=[lm 14 12 3,lo 15 (.indexAddr 32 (.tmp 10) (.tmp 12)) 0,lo 16 (.load 4 (.tmp 15)) 4,lo 4 (.assign (.tmp 14)) 3,lo 5 (.assign (.tmp 16)) 4]
abbrev ranks_Where_r6:List LO:=[lm 17 5 4]
abbrev ranks_Where_r7:List LO:=[lm 18 3 22,lm 19 4 3,lm 20 4 3,lo 21 (.binOp .add 3 (.tmp 20) (.const (.int .i64 1)) 3) 3,lo 22 (.build 45 #[(0,.tmp 19),(1,.tmp 21)]) 45,lo 23 (.call ⟨.value (.func 48),#[.tmp 18,.tmp 22],#[22,45]⟩) 22,lo 3 (.assign (.tmp 23)) 22]
abbrev ranks_Where_r8:List LO:=[lo 24 (.binOp .add 3 (.tmp 12) (.const (.int .i64 1)) 3) 3,lm 12 24 3]
abbrev ranks_Where_r9:List LO:=[lm 25 3 22,lo 2 (.assign (.tmp 25)) 22]
abbrev ranks_Where_c:LC:=.seq (.reg false ranks_Where_r1) (.seq (.reg false ranks_Where_r2) (.seq (.seq (.reg false ranks_Where_r3) (.block 0 (.loop (.seq (.reg false ranks_Where_r4) (.seq (.cond (.tmp 13) .skip (.exit 0)) (.seq (.block 1 (.seq (.reg false ranks_Where_r5) (.seq (.reg false ranks_Where_r6) (.cond (.tmp 17) (.reg false ranks_Where_r7) .skip)))) (.reg false ranks_Where_r8))))))) (.seq (.reg false ranks_Where_r9) .ret)))
theorem ranks_Where_k:FnOk E 19 26 [.tmp 2] ranks_Where_c:=⟨⟨Go.Proofs.Tryd.f19,by kernel_rfl,by kernel_rfl,by kernel_rfl,by kernel_rfl,by kernel_rfl⟩,rfl,rfl⟩
noncomputable def ranks_Where_l1 (x1:List Bool):(List S_api_Span × Int)→Option (Step (List S_api_Span × Int) (List S_api_Span)):=fun (x5,x6)=>(if (decide (x6 < (List.length x1:Int)))=true then Option.bind (Option.bind (ixl x1 x6) (fun x16=>(if x16=true then Option.bind (ranks_add_maa59 x5 x6 (w64 (x6 + 1))) (fun x17=>some x17) else some x5)):Option (List S_api_Span)) (fun x15=>some (Step.next (x15,(w64 (x6 + 1))))) else some (Step.done x5))
noncomputable def ranks_Where (a0:(List Bool)):Option ((List S_api_Span)):=Option.bind (subl a0 0 (if 65536 < (List.length a0:Int) then 65536 else (List.length a0:Int))) (fun x1=>Option.bind (loopC (ranks_Where_l1 x1) ([],0)) (fun x12=>some x12))
theorem ranks_Where_ok (a0:(List Bool)):Ct E 19 [.fsl 1 (List.map cT a0)] (ranks_Where a0) (fun r:(List S_api_Span)=>.fsl 2 (List.map c_S_api_Span r)):=ct_intro (N:=26) (L:=ranks_Where_c) ranks_Where_k rfl (Nat.le_of_ble_eq_true rfl) (by kernel_rfl) (by
 unfold ranks_Where
 refine jS ⟨[V 0 (.fsl 1 (List.map cT a0))],[],0⟩ ?_
 refine jS ⟨[V 0 (.fsl 1 (List.map cT a0)),V 3 (nilS)],[],0⟩ ?_
 refine jc_seq ?_
 refine jR ?_
 refine jG 0 4 ⟨[V 3 (nilS),V 6 (.fsl 1 (List.map cT a0)),V 9 (iv (if 65536 < (List.length (List.map cT a0):Int) then 65536 else (List.length (List.map cT a0):Int)))],[],0⟩ ?_
 simp only[List.length_map]
 refine jr_part (i:=4) (mo:=subl a0 0 (if 65536 < (List.length a0:Int) then 65536 else (List.length a0:Int))) rfl rfl rfl rfl (fun _ hc=>aop_subf (c:=cT) (sz:=1) (e:=4) (by kernel_rfl) (by kernel_rfl) (by kernel_rfl) (by kernel_rfl) (by kernel_rfl) hc) (fun _=>rfl) ?_
 intro x1 h1
 refine jG 5 2 ⟨[V 3 (nilS),V 10 (.fsl 1 (List.map cT x1)),V 11 (iv (List.length (List.map cT x1):Int)),V 12 (iv 0)],[],0⟩ ?_
 simp only[List.length_map]
 refine jN ?_
 refine jc_block ?_
 refine jc_bind (fun x12=>⟨[V 3 (.osl 0 0 (List.length x12) 2)],[(0,.rows 2 (List.map c_S_api_Span x12))],1⟩) (fun x12=>(.exit 0)) (jc_loop (fun (x5,x6)=>⟨[V 3 (.osl 0 0 (List.length x5) 2),V 10 (.fsl 1 (List.map cT x1)),V 11 (iv (List.length x1:Int)),V 12 (iv x6)],[(0,.rows 2 (List.map c_S_api_Span x5))],1⟩) (wkR [(0,none)] (fix_nil _) (pc hZ allp_nil)) ?_) ?_
 ·rintro⟨x5,x6⟩
  unfold ranks_Where_l1
  refine jS ⟨[V 3 (.osl 0 0 (List.length x5) 2),V 10 (.fsl 1 (List.map cT x1)),V 11 (iv (List.length x1:Int)),V 12 (iv x6),V 13 (bv (decide (x6 < (List.length x1:Int))))],[(0,.rows 2 (List.map c_S_api_Span x5))],1⟩ ?_
  refine jc_seq ?_
  refine jIf ?_ ?_
  ·refine jc_skip ?_
   refine jx_seqN ?_
   refine jc_seq ?_
   refine jc_bind (fun x15=>⟨[V 3 (.osl 0 0 (List.length x15) 2),V 10 (.fsl 1 (List.map cT x1)),V 11 (iv (List.length x1:Int)),V 12 (iv x6)],[(0,.rows 2 (List.map c_S_api_Span x15))],1⟩) (fun x15=>.normal) ?_ ?_
   ·refine jc_block ?_
    refine jR ?_
    refine jG 0 1 ⟨[V 3 (.osl 0 0 (List.length x5) 2),V 10 (.fsl 1 (List.map cT x1)),V 11 (iv (List.length x1:Int)),V 12 (iv x6),V 14 (iv x6)],[(0,.rows 2 (List.map c_S_api_Span x5))],1⟩ ?_
    refine jr_part (i:=1) (mo:=ixl x1 x6) rfl rfl rfl rfl (fun _ hc=>aop_ixf (c:=cT) (sz:=1) (e:=4) (kk:=.i64) (by kernel_rfl) (by kernel_rfl) (by kernel_rfl) (by kernel_rfl) hc) (fun _=>rfl) ?_
    intro x16 h16
    refine jG 2 3 ⟨[V 3 (.osl 0 0 (List.length x5) 2),V 4 (iv x6),V 5 (bv x16),V 10 (.fsl 1 (List.map cT x1)),V 11 (iv (List.length x1:Int)),V 12 (iv x6)],[(0,.rows 2 (List.map c_S_api_Span x5))],1⟩ ?_
    refine jN ?_
    refine jS ⟨[V 3 (.osl 0 0 (List.length x5) 2),V 4 (iv x6),V 10 (.fsl 1 (List.map cT x1)),V 11 (iv (List.length x1:Int)),V 12 (iv x6),V 17 (bv x16)],[(0,.rows 2 (List.map c_S_api_Span x5))],1⟩ ?_
    refine jIf ?_ ?_
    ·refine jc_reg ?_
     refine jG 0 5 ⟨[V 10 (.fsl 1 (List.map cT x1)),V 11 (iv (List.length x1:Int)),V 12 (iv x6),V 18 (.osl 0 0 (List.length x5) 2),V 22 (.agg [iv x6,iv (w64 (x6 + 1))])],[(0,.rows 2 (List.map c_S_api_Span x5))],1⟩ ?_
     refine jr_callM 5 [(0,some 0)] [(1,some 1)] (fun r:List S_api_Span=>[(1,.rows 2 (List.map c_S_api_Span r))]) (fun r:List S_api_Span=>.osl 1 0 (List.length r) 2) 2 (ranks_add_maa59_ok x5 x6 (w64 (x6 + 1))) (pc (hL 0 (noid_map ni_S_api_Span _)) allp_nil) (fun r=>(pc (.inr (hL 1 (noid_map ni_S_api_Span _))) allp_nil)) ?_
     rintro x17 hm4
     refine jG 6 1 ⟨[V 3 (.osl 1 0 (List.length x17) 2),V 10 (.fsl 1 (List.map cT x1)),V 11 (iv (List.length x1:Int)),V 12 (iv x6)],[(1,.rows 2 (List.map c_S_api_Span x17))],2⟩ ?_
     refine jr_nil rfl ?_
     refine jx_blkN ?_
     exact jx_mid rfl (wkR [(0,some 1)] (fix_nil _) (pc (hL 1 (noid_map ni_S_api_Span _)) allp_nil))
    refine jc_skip ?_
    refine jx_blkN ?_
    exact jx_mid rfl (wkR [(0,some 0)] (fix_nil _) (pc (hL 0 (noid_map ni_S_api_Span _)) allp_nil))
   intro x15
   refine jx_seqN ?_
   refine jT ⟨[V 3 (.osl 0 0 (List.length x15) 2),V 10 (.fsl 1 (List.map cT x1)),V 11 (iv (List.length x1:Int)),V 12 (iv (w64 (x6 + 1)))],[(0,.rows 2 (List.map c_S_api_Span x15))],1⟩ ?_
   exact jx_next (wkR [(0,some 0)] (fix_nil _) (pc (hL 0 (noid_map ni_S_api_Span _)) allp_nil))
  refine jc_exit ?_
  refine jx_seqE ?_
  exact jx_done rfl nofun (wkR [(0,some 0)] (fix_nil _) (pc (hL 0 (noid_map ni_S_api_Span _)) allp_nil))
 intro x12
 refine jx_blkE ?_
 refine jx_seqN ?_
 refine jS ⟨[V 2 (.osl 0 0 (List.length x12) 2)],[(0,.rows 2 (List.map c_S_api_Span x12))],1⟩ ?_
 refine jc_ret ?_
 exact jx_retF (.inr rfl) (v:=.osl 0 0 (List.length x12) 2) (by kernel_rfl) (snapc_own fz_S_api_Span (by kernel_rfl)) (fle_refl _))
abbrev ref07_bounded_r1:List LO:=[lo 2 (.assign (.const (.int .i64 0))) 3]
abbrev ref07_bounded_r2:List LO:=[lm 3 0 3,lo 4 (.call ⟨.builtin .max,#[.tmp 3,.const (.int .i64 0)],#[3,3]⟩) 3,lo 5 (.call ⟨.builtin .min,#[.tmp 4,.const (.int .i64 65536)],#[3,3]⟩) 3,lo 2 (.assign (.tmp 5)) 3]
abbrev ref07_bounded_c:LC:=.seq (.reg false ref07_bounded_r1) (.seq (.reg false ref07_bounded_r2) .ret)
theorem ref07_bounded_k:FnOk E 49 6 [.tmp 2] ref07_bounded_c:=⟨⟨Go.Proofs.Tryd.f49,by kernel_rfl,by kernel_rfl,by kernel_rfl,by kernel_rfl,by kernel_rfl⟩,rfl,rfl⟩
noncomputable def ref07_bounded (a0:Int):Option (Int):=some (if 65536 < (if 0 > a0 then 0 else a0) then 65536 else (if 0 > a0 then 0 else a0))
theorem ref07_bounded_ok (a0:Int):Ct E 49 [iv a0] (ref07_bounded a0) (fun r:Int=>iv r):=ct_intro (N:=6) (L:=ref07_bounded_c) ref07_bounded_k rfl (Nat.le_of_ble_eq_true rfl) (by kernel_rfl) (by
 unfold ref07_bounded
 refine jS ⟨[V 0 (iv a0)],[],0⟩ ?_
 refine jS ⟨[V 2 (iv (if 65536 < (if 0 > a0 then 0 else a0) then 65536 else (if 0 > a0 then 0 else a0)))],[],0⟩ ?_
 refine jc_ret ?_
 exact jx_retF (.inr rfl) (v:=iv (if 65536 < (if 0 > a0 then 0 else a0) then 65536 else (if 0 > a0 then 0 else a0))) (by kernel_rfl) rfl (fle_refl _))
abbrev ref07_All_r1:List LO:=[lo 2 (.assign (.const (.slice none 0 0))) 22]
abbrev ref07_All_r2:List LO:=[lm 3 0 3,lo 4 (.binOp .lss 3 (.tmp 3) (.const (.int .i64 1)) 3) 4]
abbrev ref07_All_r3:List LO:=[lo 2 (.assign (.const (.slice none 0 0))) 22]
abbrev ref07_All_r4:List LO:=[lm 5 0 3,lo 6 (.call ⟨.value (.func 49),#[.tmp 5],#[3]⟩) 3,lo 7 (.build 45 #[(0,.const (.int .i64 0)),(1,.tmp 6)]) 45,lo 8 (.buildSlice 22 1 #[(0,.tmp 7)]) 22,lo 2 (.assign (.tmp 8)) 22]
abbrev ref07_All_c:LC:=.seq (.reg false ref07_All_r1) (.seq (.seq (.reg false ref07_All_r2) (.cond (.tmp 4) (.seq (.reg false ref07_All_r3) .ret) .skip)) (.seq (.reg false ref07_All_r4) .ret))
theorem ref07_All_k:FnOk E 21 9 [.tmp 2] ref07_All_c:=⟨⟨Go.Proofs.Tryd.f21,by kernel_rfl,by kernel_rfl,by kernel_rfl,by kernel_rfl,by kernel_rfl⟩,rfl,rfl⟩
noncomputable def ref07_All (a0:Int):Option ((List S_api_Span)):=(if (decide (a0 < 1))=true then some [] else Option.bind (ref07_bounded a0) (fun x1=>some [(S_api_Span.mk 0 x1)]))
theorem ref07_All_ok (a0:Int):Ct E 21 [iv a0] (ref07_All a0) (fun r:(List S_api_Span)=>.fsl 2 (List.map c_S_api_Span r)):=ct_intro (N:=9) (L:=ref07_All_c) ref07_All_k rfl (Nat.le_of_ble_eq_true rfl) (by kernel_rfl) (by
 unfold ref07_All
 refine jS ⟨[V 0 (iv a0)],[],0⟩ ?_
 refine jc_seq ?_
 refine jS ⟨[V 0 (iv a0),V 4 (bv (decide (a0 < 1)))],[],0⟩ ?_
 refine jIf ?_ ?_
 ·refine jS ⟨[V 2 (nilS)],[],0⟩ ?_
  refine jc_ret ?_
  refine jx_seqR ?_
  exact jx_retF (.inr rfl) (v:=nilS) (by kernel_rfl) rfl (fle_nil _)
 refine jc_skip ?_
 refine jx_seqN ?_
 refine jR ?_
 refine jG 0 1 ⟨[V 5 (iv a0)],[],0⟩ ?_
 refine jK 1 (ref07_bounded_ok a0) ?_
 intro x1 h1
 refine jG 2 3 ⟨[V 2 (.osl 0 0 (List.length [(S_api_Span.mk 0 x1)]) 2)],[(0,.rows 2 (List.map c_S_api_Span [(S_api_Span.mk 0 x1)]))],1⟩ ?_
 refine jN ?_
 refine jc_ret ?_
 exact jx_retF (.inr rfl) (v:=.osl 0 0 (List.length [(S_api_Span.mk 0 x1)]) 2) (by kernel_rfl) (snapc_own fz_S_api_Span (by kernel_rfl)) (fle_refl _))
abbrev ref07_Fit_r1:List LO:=[lo 4 (.assign (.const (.bool false))) 4]
abbrev ref07_Fit_r2:List LO:=[lm 7 0 3,lo 8 (.binOp .lss 3 (.tmp 7) (.const (.int .i64 0)) 3) 4,lm 9 8 4,lmg 10 0 3 9 false,lg 11 (.binOp .gtr 3 (.tmp 10) (.const (.int .i64 65536)) 3) 4 9 false,lo 12 (.pick (.tmp 9) (.const (.bool true)) (.tmp 11)) 4]
abbrev ref07_Fit_r3:List LO:=[lo 4 (.assign (.const (.bool false))) 4]
abbrev ref07_Fit_r4:List LO:=[lo 5 (.assign (.const (.int .i64 (-1)))) 3]
abbrev ref07_Fit_r5:List LO:=[lo 6 (.assign (.const (.int .i64 0))) 3]
abbrev ref07_Fit_r6:List LO:=[lm 13 6 3,lm 14 1 22,lo 15 (.call ⟨.builtin .len,#[.tmp 14],#[22]⟩) 3,lo 16 (.binOp .lss 3 (.tmp 13) (.tmp 15) 3) 4]
abbrev ref07_Fit_r7:List LO:=[lm 19 1 22,lm 20 6 3,lo 21 (.indexAddr 22 (.tmp 19) (.tmp 20)) 0,lo 22 (.fieldAddr 45 (.tmp 21) 0) 0,lo 23 (.load 3 (.tmp 22)) 3,lo 24 (.binOp .lss 3 (.tmp 23) (.const (.int .i64 0)) 3) 4,lm 25 24 4,lmg 26 1 22 25 false,lmg 27 6 3 25 false,lg 28 (.indexAddr 22 (.tmp 26) (.tmp 27)) 0 25 false,lg 29 (.fieldAddr 45 (.tmp 28) 0) 0 25 false,lg 30 (.load 3 (.tmp 29)) 3 25 false,lmg 31 5 3 25 false,lg 32 (.binOp .leq 3 (.tmp 30) (.tmp 31) 3) 4 25 false,lo 33 (.pick (.tmp 25) (.const (.bool true)) (.tmp 32)) 4,lm 34 33 4,lmg 35 1 22 34 false,lmg 36 6 3 34 false,lg 37 (.indexAddr 22 (.tmp 35) (.tmp 36)) 0 34 false,lg 38 (.fieldAddr 45 (.tmp 37) 0) 0 34 false,lg 39 (.load 3 (.tmp 38)) 3 34 false,lmg 40 1 22 34 false,lmg 41 6 3 34 false,lg 42 (.indexAddr 22 (.tmp 40) (.tmp 41)) 0 34 false,lg 43 (.fieldAddr 45 (.tmp 42) 1) 0 34 false,lg 44 (.load 3 (.tmp 43)) 3 34 false,lg 45 (.binOp .geq 3 (.tmp 39) (.tmp 44) 3) 4 34 false,lo 46 (.pick (.tmp 34) (.const (.bool true)) (.tmp 45)) 4,lm 47 46 4,lmg 48 1 22 47 false,lmg 49 6 3 47 false,lg 50 (.indexAddr 22 (.tmp 48) (.tmp 49)) 0 47 false,lg 51 (.fieldAddr 45 (.tmp 50) 1) 0 47 false,lg 52 (.load 3 (.tmp 51)) 3 47 false,lmg 53 0 3 47 false,lg 54 (.binOp .gtr 3 (.tmp 52) (.tmp 53) 3) 4 47 false,lo 55 (.pick (.tmp 47) (.const (.bool true)) (.tmp 54)) 4]
abbrev ref07_Fit_r8:List LO:=[lo 4 (.assign (.const (.bool false))) 4]
abbrev ref07_Fit_r9:List LO:=[lm 56 1 22,lm 57 6 3,lo 58 (.indexAddr 22 (.tmp 56) (.tmp 57)) 0,lo 59 (.fieldAddr 45 (.tmp 58) 1) 0,lo 60 (.load 3 (.tmp 59)) 3,lo 5 (.assign (.tmp 60)) 3]
abbrev ref07_Fit_r10:List LO:=[lm 17 6 3,lo 18 (.binOp .add 3 (.tmp 17) (.const (.int .i64 1)) 3) 3,lo 6 (.assign (.tmp 18)) 3]
abbrev ref07_Fit_r11:List LO:=[lo 4 (.assign (.const (.bool true))) 4]
abbrev ref07_Fit_c:LC:=.seq (.reg false ref07_Fit_r1) (.seq (.seq (.reg false ref07_Fit_r2) (.cond (.tmp 12) (.seq (.reg false ref07_Fit_r3) .ret) .skip)) (.seq (.reg false ref07_Fit_r4) (.seq (.seq (.reg false ref07_Fit_r5) (.block 0 (.loop (.seq (.seq (.reg false ref07_Fit_r6) (.cond (.tmp 16) .skip (.exit 0))) (.seq (.block 1 (.seq (.seq (.reg true ref07_Fit_r7) (.cond (.tmp 55) (.seq (.reg false ref07_Fit_r8) .ret) .skip)) (.reg false ref07_Fit_r9))) (.reg false ref07_Fit_r10)))))) (.seq (.reg false ref07_Fit_r11) .ret))))
theorem ref07_Fit_k:FnOk E 7 61 [.tmp 4] ref07_Fit_c:=⟨⟨Go.Proofs.Tryd.f7,by kernel_rfl,by kernel_rfl,by kernel_rfl,by kernel_rfl,by kernel_rfl⟩,rfl,rfl⟩
noncomputable def ref07_Fit_l1 (a0:Int) (a1:(List S_api_Span)):(Int × Int)→Option (Step (Int × Int) ((Unit) ⊕ (Unit))):=fun (x10,x11)=>(if (decide (x11 < (List.length a1:Int)))=true then Option.bind (ixl a1 x11) (fun x23=>Option.bind (if (decide (x23.Lo < 0))=true then some true else Option.bind (ixl a1 x11) (fun x26=>some (decide (x26.Lo≤x10))):Option (Bool)) (fun x25=>Option.bind (if x25=true then some true else Option.bind (ixl a1 x11) (fun x30=>Option.bind (ixl a1 x11) (fun x31=>some (decide (x30.Lo≥x31.Hi)))):Option (Bool)) (fun x29=>Option.bind (if x29=true then some true else Option.bind (ixl a1 x11) (fun x34=>some (decide (x34.Hi > a0))):Option (Bool)) (fun x33=>(if x33=true then some (Step.done (Sum.inl ())) else Option.bind (ixl a1 x11) (fun x35=>some (Step.next (x35.Hi,(w64 (x11 + 1)))))))))) else some (Step.done (Sum.inr ())))
noncomputable def ref07_Fit (a0:Int) (a1:(List S_api_Span)):Option (Bool):=(if ((decide (a0 < 0)) || (decide (a0 > 65536)))=true then some false else Option.bind (loopC (ref07_Fit_l1 a0 a1) ((-1),0)) (fun y=>match y with | Sum.inl _=>some false | Sum.inr _=>some true))
theorem ref07_Fit_ok (a0:Int) (a1:(List S_api_Span)):Ct E 7 [iv a0,.fsl 2 (List.map c_S_api_Span a1)] (ref07_Fit a0 a1) (fun r:Bool=>bv r):=ct_intro (N:=61) (L:=ref07_Fit_c) ref07_Fit_k rfl (Nat.le_of_ble_eq_true rfl) (by kernel_rfl) (by
 unfold ref07_Fit
 refine jS ⟨[V 0 (iv a0),V 1 (.fsl 2 (List.map c_S_api_Span a1))],[],0⟩ ?_
 refine jc_seq ?_
 refine jS ⟨[V 0 (iv a0),V 1 (.fsl 2 (List.map c_S_api_Span a1)),V 12 (bv ((decide (a0 < 0)) || (decide (a0 > 65536))))],[],0⟩ ?_
 refine jIf ?_ ?_
 ·refine jS ⟨[V 4 (bv false)],[],0⟩ ?_
  refine jc_ret ?_
  refine jx_seqR ?_
  exact jx_retF (.inr rfl) (v:=bv false) (by kernel_rfl) rfl (fle_refl _)
 refine jc_skip ?_
 refine jx_seqN ?_
 refine jS ⟨[V 0 (iv a0),V 1 (.fsl 2 (List.map c_S_api_Span a1)),V 5 (iv (-1))],[],0⟩ ?_
 refine jc_seq ?_
 refine jS ⟨[V 0 (iv a0),V 1 (.fsl 2 (List.map c_S_api_Span a1)),V 5 (iv (-1)),V 6 (iv 0)],[],0⟩ ?_
 refine jc_block ?_
 refine jc_bind (fun y=>match y with | Sum.inl _=>⟨[V 4 (bv false)],[],0⟩ | Sum.inr _=>⟨[],[],0⟩) (fun y=>match y with | Sum.inl _=>.ret | Sum.inr _=>(.exit 0)) (jc_loop (fun (x10,x11)=>⟨[V 0 (iv a0),V 1 (.fsl 2 (List.map c_S_api_Span a1)),V 5 (iv x10),V 6 (iv x11)],[],0⟩) (wkR [] (fix_nil _) allp_nil) ?_) ?_
 ·rintro⟨x10,x11⟩
  unfold ref07_Fit_l1
  refine jc_seq ?_
  refine jR ?_
  refine jG 0 4 ⟨[V 0 (iv a0),V 1 (.fsl 2 (List.map c_S_api_Span a1)),V 5 (iv x10),V 6 (iv x11),V 16 (bv (decide (x11 < (List.length (List.map c_S_api_Span a1):Int))))],[],0⟩ ?_
  simp only[List.length_map]
  refine jN ?_
  refine jIf ?_ ?_
  ·refine jc_skip ?_
   refine jx_seqN ?_
   refine jc_seq ?_
   refine jc_block ?_
   refine jc_seq ?_
   refine jR ?_
   refine jG 0 2 ⟨[V 0 (iv a0),V 1 (.fsl 2 (List.map c_S_api_Span a1)),V 5 (iv x10),V 6 (iv x11),V 19 (.fsl 2 (List.map c_S_api_Span a1)),V 20 (iv x11)],[],0⟩ ?_
   refine jr_part (i:=2) (mo:=ixl a1 x11) rfl rfl rfl rfl (fun _ hc=>aop_ixf (c:=c_S_api_Span) (sz:=2) (e:=45) (kk:=.i64) (by kernel_rfl) (by kernel_rfl) (by kernel_rfl) (by kernel_rfl) hc) (fun _=>rfl) ?_
   intro x23 h23
   refine jG 3 4 ⟨[V 0 (iv a0),V 1 (.fsl 2 (List.map c_S_api_Span a1)),V 5 (iv x10),V 6 (iv x11),V 25 (bv (decide (x23.Lo < 0)))],[],0⟩ ?_
   refine jr_bind 7 8 (fun x25=>⟨[V 0 (iv a0),V 1 (.fsl 2 (List.map c_S_api_Span a1)),V 6 (iv x11),V 33 (bv x25)],[],0⟩) ?_ ?_
   ·refine jSp 25 ?_ ?_
    ·refine jG 0 8 ⟨[V 0 (iv a0),V 1 (.fsl 2 (List.map c_S_api_Span a1)),V 6 (iv x11),V 33 (bv true)],[],0⟩ ?_
     refine jr_nil rfl ?_
     exact jx_mid rfl (wkR [] (fix_nil _) allp_nil)
    refine jG 0 2 ⟨[V 0 (iv a0),V 1 (.fsl 2 (List.map c_S_api_Span a1)),V 5 (iv x10),V 6 (iv x11),(25,.lit false),V 26 (.fsl 2 (List.map c_S_api_Span a1)),V 27 (iv x11)],[],0⟩ ?_
    refine jr_part (i:=2) (mo:=ixl a1 x11) rfl rfl rfl rfl (fun _ hc=>aop_ixf (c:=c_S_api_Span) (sz:=2) (e:=45) (kk:=.i64) (by kernel_rfl) (by kernel_rfl) (by kernel_rfl) (by kernel_rfl) hc) (fun _=>rfl) ?_
    intro x26 h26
    refine jG 3 5 ⟨[V 0 (iv a0),V 1 (.fsl 2 (List.map c_S_api_Span a1)),V 6 (iv x11),V 33 (bv (decide (x26.Lo≤x10)))],[],0⟩ ?_
    refine jr_nil rfl ?_
    exact jx_mid rfl (wkR [] (fix_nil _) allp_nil)
   intro x25
   refine jG 15 1 ⟨[V 0 (iv a0),V 1 (.fsl 2 (List.map c_S_api_Span a1)),V 6 (iv x11),V 34 (bv x25)],[],0⟩ ?_
   refine jr_bind 16 12 (fun x29=>⟨[V 0 (iv a0),V 1 (.fsl 2 (List.map c_S_api_Span a1)),V 6 (iv x11),V 46 (bv x29)],[],0⟩) ?_ ?_
   ·refine jSp 34 ?_ ?_
    ·refine jG 0 12 ⟨[V 0 (iv a0),V 1 (.fsl 2 (List.map c_S_api_Span a1)),V 6 (iv x11),V 46 (bv true)],[],0⟩ ?_
     refine jr_nil rfl ?_
     exact jx_mid rfl (wkR [] (fix_nil _) allp_nil)
    refine jG 0 2 ⟨[V 0 (iv a0),V 1 (.fsl 2 (List.map c_S_api_Span a1)),V 6 (iv x11),(34,.lit false),V 35 (.fsl 2 (List.map c_S_api_Span a1)),V 36 (iv x11)],[],0⟩ ?_
    refine jr_part (i:=2) (mo:=ixl a1 x11) rfl rfl rfl rfl (fun _ hc=>aop_ixf (c:=c_S_api_Span) (sz:=2) (e:=45) (kk:=.i64) (by kernel_rfl) (by kernel_rfl) (by kernel_rfl) (by kernel_rfl) hc) (fun _=>rfl) ?_
    intro x30 h30
    refine jG 3 4 ⟨[V 0 (iv a0),V 1 (.fsl 2 (List.map c_S_api_Span a1)),V 6 (iv x11),(34,.lit false),V 39 (iv x30.Lo),V 40 (.fsl 2 (List.map c_S_api_Span a1)),V 41 (iv x11)],[],0⟩ ?_
    refine jr_part (i:=7) (mo:=ixl a1 x11) rfl rfl rfl rfl (fun _ hc=>aop_ixf (c:=c_S_api_Span) (sz:=2) (e:=45) (kk:=.i64) (by kernel_rfl) (by kernel_rfl) (by kernel_rfl) (by kernel_rfl) hc) (fun _=>rfl) ?_
    intro x31 h31
    refine jG 8 4 ⟨[V 0 (iv a0),V 1 (.fsl 2 (List.map c_S_api_Span a1)),V 6 (iv x11),V 46 (bv (decide (x30.Lo≥x31.Hi)))],[],0⟩ ?_
    refine jr_nil rfl ?_
    exact jx_mid rfl (wkR [] (fix_nil _) allp_nil)
   intro x29
   refine jG 28 1 ⟨[V 0 (iv a0),V 1 (.fsl 2 (List.map c_S_api_Span a1)),V 6 (iv x11),V 47 (bv x29)],[],0⟩ ?_
   refine jr_bind 29 8 (fun x33=>⟨[V 0 (iv a0),V 1 (.fsl 2 (List.map c_S_api_Span a1)),V 6 (iv x11),V 55 (bv x33)],[],0⟩) ?_ ?_
   ·refine jSp 47 ?_ ?_
    ·refine jG 0 8 ⟨[V 0 (iv a0),V 1 (.fsl 2 (List.map c_S_api_Span a1)),V 6 (iv x11),V 55 (bv true)],[],0⟩ ?_
     refine jr_nil rfl ?_
     exact jx_mid rfl (wkR [] (fix_nil _) allp_nil)
    refine jG 0 2 ⟨[V 0 (iv a0),V 1 (.fsl 2 (List.map c_S_api_Span a1)),V 6 (iv x11),(47,.lit false),V 48 (.fsl 2 (List.map c_S_api_Span a1)),V 49 (iv x11)],[],0⟩ ?_
    refine jr_part (i:=2) (mo:=ixl a1 x11) rfl rfl rfl rfl (fun _ hc=>aop_ixf (c:=c_S_api_Span) (sz:=2) (e:=45) (kk:=.i64) (by kernel_rfl) (by kernel_rfl) (by kernel_rfl) (by kernel_rfl) hc) (fun _=>rfl) ?_
    intro x34 h34
    refine jG 3 5 ⟨[V 0 (iv a0),V 1 (.fsl 2 (List.map c_S_api_Span a1)),V 6 (iv x11),V 55 (bv (decide (x34.Hi > a0)))],[],0⟩ ?_
    refine jr_nil rfl ?_
    exact jx_mid rfl (wkR [] (fix_nil _) allp_nil)
   intro x33
   refine jN ?_
   refine jIf ?_ ?_
   ·refine jS ⟨[V 4 (bv false)],[],0⟩ ?_
    refine jc_ret ?_
    refine jx_seqR ?_
    refine jx_blkR ?_
    refine jx_seqR ?_
    exact jx_done rfl nofun (wkR [] (fix_nil _) allp_nil)
   refine jc_skip ?_
   refine jx_seqN ?_
   refine jc_reg ?_
   refine jG 0 2 ⟨[V 0 (iv a0),V 1 (.fsl 2 (List.map c_S_api_Span a1)),V 6 (iv x11),V 56 (.fsl 2 (List.map c_S_api_Span a1)),V 57 (iv x11)],[],0⟩ ?_
   refine jr_part (i:=2) (mo:=ixl a1 x11) rfl rfl rfl rfl (fun _ hc=>aop_ixf (c:=c_S_api_Span) (sz:=2) (e:=45) (kk:=.i64) (by kernel_rfl) (by kernel_rfl) (by kernel_rfl) (by kernel_rfl) hc) (fun _=>rfl) ?_
   intro x35 h35
   refine jG 3 3 ⟨[V 0 (iv a0),V 1 (.fsl 2 (List.map c_S_api_Span a1)),V 5 (iv x35.Hi),V 6 (iv x11)],[],0⟩ ?_
   refine jr_nil rfl ?_
   refine jx_blkN ?_
   refine jx_seqN ?_
   refine jT ⟨[V 0 (iv a0),V 1 (.fsl 2 (List.map c_S_api_Span a1)),V 5 (iv x35.Hi),V 6 (iv (w64 (x11 + 1)))],[],0⟩ ?_
   exact jx_next (wkR [] (fix_nil _) allp_nil)
  refine jc_exit ?_
  refine jx_seqE ?_
  exact jx_done rfl nofun (wkR [] (fix_nil _) allp_nil)
 rintro (_ | _)
 ·refine jx_blkR ?_
  refine jx_seqR ?_
  exact jx_retF (.inr rfl) (v:=bv false) (by kernel_rfl) rfl (fle_refl _)
 refine jx_blkE ?_
 refine jx_seqN ?_
 refine jS ⟨[V 4 (bv true)],[],0⟩ ?_
 refine jc_ret ?_
 exact jx_retF (.inr rfl) (v:=bv true) (by kernel_rfl) rfl (fle_refl _))
abbrev ref07_Where_r1:List LO:=[lo 2 (.assign (.const (.slice none 0 0))) 22]
abbrev ref07_Where_r2:List LO:=[lo 3 (.assign (.const (.slice none 0 0))) 22]
abbrev ref07_Where_r3:List LO:=[lo 4 (.assign (.const (.int .i64 0))) 3]
abbrev ref07_Where_r4:List LO:=[lm 6 4 3,lm 7 0 32,lo 8 (.call ⟨.builtin .len,#[.tmp 7],#[32]⟩) 3,lo 9 (.binOp .lss 3 (.tmp 6) (.tmp 8) 3) 4,lm 10 9 4,lmg 11 4 3 10 true,lg 12 (.binOp .lss 3 (.tmp 11) (.const (.int .i64 65536)) 3) 4 10 true,lo 13 (.pick (.tmp 10) (.tmp 12) (.const (.bool false))) 4]
abbrev ref07_Where_r5:List LO:=[lm 16 0 32,lm 17 4 3,lo 18 (.indexAddr 32 (.tmp 16) (.tmp 17)) 0,lo 19 (.load 4 (.tmp 18)) 4,lo 20 (.unOp .not 4 (.tmp 19)) 4]
abbrev ref07_Where_r6:List LO:=[lm 21 3 22,lo 22 (.call ⟨.builtin .len,#[.tmp 21],#[22]⟩) 3,lo 23 (.binOp .sub 3 (.tmp 22) (.const (.int .i64 1)) 3) 3,lo 5 (.assign (.tmp 23)) 3]
abbrev ref07_Where_r7:List LO:=[lm 24 5 3,lo 25 (.binOp .geq 3 (.tmp 24) (.const (.int .i64 0)) 3) 4,lm 26 25 4,lmg 27 3 22 26 true,lmg 28 5 3 26 true,lg 29 (.indexAddr 22 (.tmp 27) (.tmp 28)) 0 26 true,lg 30 (.fieldAddr 45 (.tmp 29) 1) 0 26 true,lg 31 (.load 3 (.tmp 30)) 3 26 true,lmg 32 4 3 26 true,lg 33 (.binOp .eql 3 (.tmp 31) (.tmp 32) 3) 4 26 true,lo 34 (.pick (.tmp 26) (.tmp 33) (.const (.bool false))) 4]
abbrev ref07_Where_r8:List LO:=[lm 35 3 22,lm 36 5 3,lm 37 4 3,lo 38 (.binOp .add 3 (.tmp 37) (.const (.int .i64 1)) 3) 3,lo 39 (.indexAddr 22 (.tmp 35) (.tmp 36)) 0,lo 40 (.fieldAddr 45 (.tmp 39) 1) 0,ln (.store 3 (.tmp 40) (.tmp 38)) 0]
abbrev ref07_Where_r9:List LO:=[lm 41 3 22,lm 42 4 3,lm 43 4 3,lo 44 (.binOp .add 3 (.tmp 43) (.const (.int .i64 1)) 3) 3,lo 45 (.build 45 #[(0,.tmp 42),(1,.tmp 44)]) 45,lo 46 (.buildSlice 22 1 #[(0,.tmp 45)]) 22,lo 47 (.call ⟨.builtin .append,#[.tmp 41,.tmp 46],#[22,22]⟩) 22,lo 3 (.assign (.tmp 47)) 22]
abbrev ref07_Where_r10:List LO:=[lm 14 4 3,lo 15 (.binOp .add 3 (.tmp 14) (.const (.int .i64 1)) 3) 3,lo 4 (.assign (.tmp 15)) 3]
abbrev ref07_Where_r11:List LO:=[lm 48 3 22,lo 2 (.assign (.tmp 48)) 22]
abbrev ref07_Where_c:LC:=.seq (.reg false ref07_Where_r1) (.seq (.reg false ref07_Where_r2) (.seq (.seq (.reg false ref07_Where_r3) (.block 0 (.loop (.seq (.seq (.reg false ref07_Where_r4) (.cond (.tmp 13) .skip (.exit 0))) (.seq (.block 1 (.seq (.seq (.reg false ref07_Where_r5) (.cond (.tmp 20) (.exit 1) .skip)) (.seq (.reg false ref07_Where_r6) (.seq (.reg false ref07_Where_r7) (.cond (.tmp 34) (.reg false ref07_Where_r8) (.reg false ref07_Where_r9)))))) (.reg false ref07_Where_r10)))))) (.seq (.reg false ref07_Where_r11) .ret)))
theorem ref07_Where_k:FnOk E 20 49 [.tmp 2] ref07_Where_c:=⟨⟨Go.Proofs.Tryd.f20,by kernel_rfl,by kernel_rfl,by kernel_rfl,by kernel_rfl,by kernel_rfl⟩,rfl,rfl⟩
noncomputable def ref07_Where_l1 (a0:List Bool):(List S_api_Span × Int)→Option (Step (List S_api_Span × Int) (List S_api_Span)):=fun (x19,x20)=>(if ((decide (x20 < (List.length a0:Int))) && (decide (x20 < 65536)))=true then Option.bind (Option.bind (ixl a0 x20) (fun x36=>(if (!x36)=true then some x19 else Option.bind (if (decide ((w64 ((List.length x19:Int) - 1))≥0))=true then Option.bind (ixl x19 (w64 ((List.length x19:Int) - 1))) (fun x39=>some (x39.Hi == x20)) else some false:Option (Bool)) (fun x38=>(if x38=true then Option.bind (ixl x19 (w64 ((List.length x19:Int) - 1))) (fun x40=>some (List.set x19 (Int.toNat (w64 ((List.length x19:Int) - 1))) (S_api_Span.mk x40.Lo (w64 (x20 + 1))))) else Option.bind (app 16 x19 [(S_api_Span.mk x20 (w64 (x20 + 1)))]) (fun x41=>some x41))))):Option (List S_api_Span)) (fun x35=>some (Step.next (x35,(w64 (x20 + 1))))) else some (Step.done x19))
abbrev ref07_Where_T (a0:List Bool) (r:List S_api_Span):CS:=⟨[V 2 (.osl 1 0 (List.length r) 2)],[(0,.rows 1 (List.map cT a0)),(1,.rows 2 (List.map c_S_api_Span r))],2⟩
noncomputable def ref07_Where (a0:List Bool):Option (List S_api_Span):=Option.bind (loopC (ref07_Where_l1 a0) ([],0)) (fun x29=>some x29)
theorem ref07_Where_ok (a0:List Bool):CtM E 20 [.osl 0 0 (List.length a0) 1] [(0,.rows 1 (List.map cT a0))] 1 (ref07_Where a0) (fun r:List S_api_Span=>.osl 1 0 (List.length r) 2) (fun r:List S_api_Span=>[(0,.rows 1 (List.map cT a0)),(1,.rows 2 (List.map c_S_api_Span r))]) 2:=ctm_intro (N:=49) (L:=ref07_Where_c) ref07_Where_k rfl (Nat.le_of_ble_eq_true rfl) (fun F hF=>by
 unfold ref07_Where
 refine jS ⟨[V 0 (.osl 0 0 (List.length a0) 1)],[(0,.rows 1 (List.map cT a0))],1⟩ ?_
 refine jS ⟨[V 0 (.osl 0 0 (List.length a0) 1),V 3 (nilS)],[(0,.rows 1 (List.map cT a0))],1⟩ ?_
 refine jc_seq ?_
 refine jS ⟨[V 0 (.osl 0 0 (List.length a0) 1),V 3 (nilS),V 4 (iv 0)],[(0,.rows 1 (List.map cT a0))],1⟩ ?_
 refine jc_block ?_
 refine jc_bind (fun x29=>⟨[V 3 (.osl 1 0 (List.length x29) 2)],[(0,.rows 1 (List.map cT a0)),(1,.rows 2 (List.map c_S_api_Span x29))],2⟩) (fun x29=>(.exit 0)) (jc_loop (fun (x19,x20)=>⟨[V 0 (.osl 0 0 (List.length a0) 1),V 3 (.osl 1 0 (List.length x19) 2),V 4 (iv x20)],[(0,.rows 1 (List.map cT a0)),(1,.rows 2 (List.map c_S_api_Span x19))],2⟩) (wkR [(0,some 0),(1,none)] (fix_of hF (k:=1) rfl) (pc (hL 0 (noid_map ni_T _)) (pc hZ allp_nil))) ?_) ?_
 ·rintro⟨x19,x20⟩
  unfold ref07_Where_l1
  refine jc_seq ?_
  refine jS ⟨[V 0 (.osl 0 0 (List.length a0) 1),V 3 (.osl 1 0 (List.length x19) 2),V 4 (iv x20),V 13 (bv ((decide (x20 < (List.length a0:Int))) && (decide (x20 < 65536))))],[(0,.rows 1 (List.map cT a0)),(1,.rows 2 (List.map c_S_api_Span x19))],2⟩ ?_
  refine jIf ?_ ?_
  ·refine jc_skip ?_
   refine jx_seqN ?_
   refine jc_seq ?_
   refine jc_bind (fun x35=>⟨[V 0 (.osl 0 0 (List.length a0) 1),V 3 (.osl 1 0 (List.length x35) 2),V 4 (iv x20)],[(0,.rows 1 (List.map cT a0)),(1,.rows 2 (List.map c_S_api_Span x35))],2⟩) (fun x35=>.normal) ?_ ?_
   ·refine jc_block ?_
    refine jc_seq ?_
    refine jR ?_
    refine jG 0 2 ⟨[V 0 (.osl 0 0 (List.length a0) 1),V 3 (.osl 1 0 (List.length x19) 2),V 4 (iv x20),V 16 (.osl 0 0 (List.length a0) 1),V 17 (iv x20)],[(0,.rows 1 (List.map cT a0)),(1,.rows 2 (List.map c_S_api_Span x19))],2⟩ ?_
    refine jr_part (i:=2) (mo:=ixl a0 x20) rfl rfl rfl rfl (fun _ hc=>aop_ixo0 (sz:=1) (e:=4) (kk:=.i64) (id:=0) (by kernel_rfl) (by kernel_rfl) (by kernel_rfl) (by kernel_rfl) hc) (fun _=>rfl) ?_
    intro x36 h36
    refine jr_one (i:=3) (v:=bv x36) rfl rfl rfl rfl (aop_ldo (l:=a0) (c:=cT) (id:=0) (k:=(Int.toNat x20)) (sz:=1) (off:=0) (a:=x36) (by kernel_rfl) (by kernel_rfl) (ixl_lt h36).2.2 (by kernel_rfl)) rfl ?_
    refine jG 4 1 ⟨[V 0 (.osl 0 0 (List.length a0) 1),V 3 (.osl 1 0 (List.length x19) 2),V 4 (iv x20),V 20 (bv (!x36))],[(0,.rows 1 (List.map cT a0)),(1,.rows 2 (List.map c_S_api_Span x19))],2⟩ ?_
    refine jN ?_
    refine jIf ?_ ?_
    ·refine jc_exit ?_
     refine jx_seqE ?_
     refine jx_blkE ?_
     exact jx_mid rfl (wkR [(0,some 0),(1,some 1)] (fix_of hF (k:=1) rfl) (pc (hL 0 (noid_map ni_T _)) (pc (hL 1 (noid_map ni_S_api_Span _)) allp_nil)))
    refine jc_skip ?_
    refine jx_seqN ?_
    refine jS ⟨[V 0 (.osl 0 0 (List.length a0) 1),V 3 (.osl 1 0 (List.length x19) 2),V 4 (iv x20),V 5 (iv (w64 ((List.length x19:Int) - 1)))],[(0,.rows 1 (List.map cT a0)),(1,.rows 2 (List.map c_S_api_Span x19))],2⟩ ?_
    refine jR ?_
    refine jG 0 3 ⟨[V 0 (.osl 0 0 (List.length a0) 1),V 3 (.osl 1 0 (List.length x19) 2),V 4 (iv x20),V 5 (iv (w64 ((List.length x19:Int) - 1))),V 26 (bv (decide ((w64 ((List.length x19:Int) - 1))≥0)))],[(0,.rows 1 (List.map cT a0)),(1,.rows 2 (List.map c_S_api_Span x19))],2⟩ ?_
    refine jr_bind 3 8 (fun x38=>⟨[V 0 (.osl 0 0 (List.length a0) 1),V 3 (.osl 1 0 (List.length x19) 2),V 4 (iv x20),V 5 (iv (w64 ((List.length x19:Int) - 1))),V 34 (bv x38)],[(0,.rows 1 (List.map cT a0)),(1,.rows 2 (List.map c_S_api_Span x19))],2⟩) ?_ ?_
    ·refine jSp 26 ?_ ?_
     ·refine jG 0 2 ⟨[V 0 (.osl 0 0 (List.length a0) 1),V 3 (.osl 1 0 (List.length x19) 2),V 4 (iv x20),V 5 (iv (w64 ((List.length x19:Int) - 1))),(26,.lit true),V 27 (.osl 1 0 (List.length x19) 2),V 28 (iv (w64 ((List.length x19:Int) - 1)))],[(0,.rows 1 (List.map cT a0)),(1,.rows 2 (List.map c_S_api_Span x19))],2⟩ ?_
      refine jr_part (i:=2) (mo:=ixl x19 (w64 ((List.length x19:Int) - 1))) rfl rfl rfl rfl (fun _ hc=>aop_ixo0 (sz:=2) (e:=45) (kk:=.i64) (id:=1) (by kernel_rfl) (by kernel_rfl) (by kernel_rfl) (by kernel_rfl) hc) (fun _=>rfl) ?_
      intro x39 h39
      refine jG 3 1 ⟨[V 0 (.osl 0 0 (List.length a0) 1),V 3 (.osl 1 0 (List.length x19) 2),V 4 (iv x20),V 5 (iv (w64 ((List.length x19:Int) - 1))),(26,.lit true),V 30 (.ptr 1 (Int.toNat (w64 ((List.length x19:Int) - 1))) 2 1)],[(0,.rows 1 (List.map cT a0)),(1,.rows 2 (List.map c_S_api_Span x19))],2⟩ ?_
      refine jr_one (i:=4) (v:=iv x39.Hi) rfl rfl rfl rfl (aop_ldo (l:=x19) (c:=c_S_api_Span) (id:=1) (k:=(Int.toNat (w64 ((List.length x19:Int) - 1)))) (sz:=2) (off:=1) (a:=x39) (by kernel_rfl) (by kernel_rfl) (ixl_lt h39).2.2 (by kernel_rfl)) rfl ?_
      refine jG 5 3 ⟨[V 0 (.osl 0 0 (List.length a0) 1),V 3 (.osl 1 0 (List.length x19) 2),V 4 (iv x20),V 5 (iv (w64 ((List.length x19:Int) - 1))),V 34 (bv (x39.Hi == x20))],[(0,.rows 1 (List.map cT a0)),(1,.rows 2 (List.map c_S_api_Span x19))],2⟩ ?_
      refine jr_nil rfl ?_
      exact jx_mid rfl (wkR [(0,some 0),(1,some 1)] (fix_of hF (k:=1) rfl) (pc (hL 0 (noid_map ni_T _)) (pc (hL 1 (noid_map ni_S_api_Span _)) allp_nil)))
     refine jG 0 8 ⟨[V 0 (.osl 0 0 (List.length a0) 1),V 3 (.osl 1 0 (List.length x19) 2),V 4 (iv x20),V 5 (iv (w64 ((List.length x19:Int) - 1))),V 34 (bv false)],[(0,.rows 1 (List.map cT a0)),(1,.rows 2 (List.map c_S_api_Span x19))],2⟩ ?_
     refine jr_nil rfl ?_
     exact jx_mid rfl (wkR [(0,some 0),(1,some 1)] (fix_of hF (k:=1) rfl) (pc (hL 0 (noid_map ni_T _)) (pc (hL 1 (noid_map ni_S_api_Span _)) allp_nil)))
    intro x38
    refine jN ?_
    refine jIf ?_ ?_
    ·refine jc_reg ?_
     refine jG 0 4 ⟨[V 0 (.osl 0 0 (List.length a0) 1),V 3 (.osl 1 0 (List.length x19) 2),V 4 (iv x20),V 35 (.osl 1 0 (List.length x19) 2),V 36 (iv (w64 ((List.length x19:Int) - 1))),V 38 (iv (w64 (x20 + 1)))],[(0,.rows 1 (List.map cT a0)),(1,.rows 2 (List.map c_S_api_Span x19))],2⟩ ?_
     refine jr_part (i:=4) (mo:=ixl x19 (w64 ((List.length x19:Int) - 1))) rfl rfl rfl rfl (fun _ hc=>aop_ixo0 (sz:=2) (e:=45) (kk:=.i64) (id:=1) (by kernel_rfl) (by kernel_rfl) (by kernel_rfl) (by kernel_rfl) hc) (fun _=>rfl) ?_
     intro x40 h40
     refine jG 5 1 ⟨[V 0 (.osl 0 0 (List.length a0) 1),V 3 (.osl 1 0 (List.length x19) 2),V 4 (iv x20),V 38 (iv (w64 (x20 + 1))),V 40 (.ptr 1 (Int.toNat (w64 ((List.length x19:Int) - 1))) 2 1)],[(0,.rows 1 (List.map cT a0)),(1,.rows 2 (List.map c_S_api_Span x19))],2⟩ ?_
     refine jr_sto (i:=6) [0,3,4] [0,1] (st1:=⟨[V 0 (.osl 0 0 (List.length a0) 1),V 3 (.osl 1 0 (List.length (List.set x19 (Int.toNat (w64 ((List.length x19:Int) - 1))) (S_api_Span.mk x40.Lo (w64 (x20 + 1))))) 2),V 4 (iv x20)],[(0,.rows 1 (List.map cT a0)),(1,.rows 2 (List.map c_S_api_Span (List.set x19 (Int.toNat (w64 ((List.length x19:Int) - 1))) (S_api_Span.mk x40.Lo (w64 (x20 + 1))))))],2⟩) rfl rfl rfl rfl (aop_sto (l:=x19) (c:=c_S_api_Span) (id:=1) (k:=(Int.toNat (w64 ((List.length x19:Int) - 1)))) (sz:=2) (off:=1) (a:=x40) (a':=(S_api_Span.mk x40.Lo (w64 (x20 + 1)))) (w:=iv (w64 (x20 + 1))) (cs:=[iv (w64 (x20 + 1))]) (by kernel_rfl) (by kernel_rfl) (by kernel_rfl) (by kernel_rfl) (by kernel_rfl) (ixl_lt h40).2.2 (Nat.le_of_ble_eq_true rfl) (by kernel_rfl)) (by simp only[List.length_set]; kernel_rfl) ?_
     refine jr_nil rfl ?_
     refine jx_blkN ?_
     exact jx_mid rfl (wkR [(0,some 0),(1,some 1)] (fix_of hF (k:=1) rfl) (pc (hL 0 (noid_map ni_T _)) (pc (hL 1 (noid_map ni_S_api_Span _)) allp_nil)))
    refine jc_reg ?_
    refine jG 0 6 ⟨[V 0 (.osl 0 0 (List.length a0) 1),V 4 (iv x20),V 41 (.osl 1 0 (List.length x19) 2),V 46 (.osl 2 0 (List.length [(S_api_Span.mk x20 (w64 (x20 + 1)))]) 2)],[(0,.rows 1 (List.map cT a0)),(1,.rows 2 (List.map c_S_api_Span x19)),(2,.rows 2 (List.map c_S_api_Span [(S_api_Span.mk x20 (w64 (x20 + 1)))]))],3⟩ ?_
    refine jr_part (i:=6) (mo:=app 16 x19 [(S_api_Span.mk x20 (w64 (x20 + 1)))]) rfl rfl rfl rfl (fun _ hc=>aop_app (u:=.osl 1 0 (List.length x19) 2) (w:=.osl 2 0 (List.length [(S_api_Span.mk x20 (w64 (x20 + 1)))]) 2) (e:=45) (td:=.slice 45) (by kernel_rfl) (by kernel_rfl) (by kernel_rfl) (by kernel_rfl) (.inl ⟨_,rfl⟩) (appendOf_own (c:=c_S_api_Span) (sz:=2) (b:=16) (id:=1) (by kernel_rfl) (by kernel_rfl) (rows_own (by kernel_rfl)) (List.cons_ne_nil _ _) hc)) (fun _=>rfl) ?_
    intro x41 h41
    refine jG 7 1 ⟨[V 0 (.osl 0 0 (List.length a0) 1),V 3 (.osl 3 0 (List.length x41) 2),V 4 (iv x20)],[(0,.rows 1 (List.map cT a0)),(3,.rows 2 (List.map c_S_api_Span x41))],4⟩ ?_
    refine jr_nil rfl ?_
    refine jx_blkN ?_
    exact jx_mid rfl (wkR [(0,some 0),(1,some 3)] (fix_of hF (k:=1) rfl) (pc (hL 0 (noid_map ni_T _)) (pc (hL 3 (noid_map ni_S_api_Span _)) allp_nil)))
   intro x35
   refine jx_seqN ?_
   refine jT ⟨[V 0 (.osl 0 0 (List.length a0) 1),V 3 (.osl 1 0 (List.length x35) 2),V 4 (iv (w64 (x20 + 1)))],[(0,.rows 1 (List.map cT a0)),(1,.rows 2 (List.map c_S_api_Span x35))],2⟩ ?_
   exact jx_next (wkR [(0,some 0),(1,some 1)] (fix_of hF (k:=1) rfl) (pc (hL 0 (noid_map ni_T _)) (pc (hL 1 (noid_map ni_S_api_Span _)) allp_nil)))
  refine jc_exit ?_
  refine jx_seqE ?_
  exact jx_done rfl nofun (wkR [(0,some 0),(1,some 1)] (fix_of hF (k:=1) rfl) (pc (hL 0 (noid_map ni_T _)) (pc (hL 1 (noid_map ni_S_api_Span _)) allp_nil)))
 intro x29
 refine jx_blkE ?_
 refine jx_seqN ?_
 refine jS ⟨[V 2 (.osl 1 0 (List.length x29) 2)],[(0,.rows 1 (List.map cT a0)),(1,.rows 2 (List.map c_S_api_Span x29))],2⟩ ?_
 refine jc_ret ?_
 exact jx_retM (ref07_Where_T a0 x29) (.inr rfl) (wkR [(0,some 0),(1,some 1)] (fix_of hF (k:=1) rfl) (pc (hL 0 (noid_map ni_T _)) (pc (hL 1 (noid_map ni_S_api_Span _)) allp_nil))))
abbrev ref07_Of_r1:List LO:=[lo 4 (.assign (.const (.slice none 0 0))) 22]
abbrev ref07_Of_r2:List LO:=[lm 7 0 3,lo 8 (.call ⟨.value (.func 49),#[.tmp 7],#[3]⟩) 3,lo 9 (.makeSlice 32 (.tmp 8) (.tmp 8)) 32,lo 5 (.assign (.tmp 9)) 32]
abbrev ref07_Of_r3:List LO:=[lo 6 (.assign (.const (.int .i64 0))) 3]
abbrev ref07_Of_r4:List LO:=[lm 10 6 3,lm 11 1 31,lo 12 (.call ⟨.builtin .len,#[.tmp 11],#[31]⟩) 3,lo 13 (.binOp .lss 3 (.tmp 10) (.tmp 12) 3) 4]
abbrev ref07_Of_r5:List LO:=[lm 16 1 31,lm 17 6 3,lo 18 (.indexAddr 31 (.tmp 16) (.tmp 17)) 0,lo 19 (.load 3 (.tmp 18)) 3,lo 20 (.binOp .geq 3 (.tmp 19) (.const (.int .i64 0)) 3) 4,lm 21 20 4,lmg 22 1 31 21 true,lmg 23 6 3 21 true,lg 24 (.indexAddr 31 (.tmp 22) (.tmp 23)) 0 21 true,lg 25 (.load 3 (.tmp 24)) 3 21 true,lmg 26 5 32 21 true,lg 27 (.call ⟨.builtin .len,#[.tmp 26],#[32]⟩) 3 21 true,lg 28 (.binOp .lss 3 (.tmp 25) (.tmp 27) 3) 4 21 true,lo 29 (.pick (.tmp 21) (.tmp 28) (.const (.bool false))) 4]
abbrev ref07_Of_r6:List LO:=[lm 30 5 32,lm 31 1 31,lm 32 6 3,lo 33 (.indexAddr 31 (.tmp 31) (.tmp 32)) 0,lo 34 (.load 3 (.tmp 33)) 3,lo 35 (.indexAddr 32 (.tmp 30) (.tmp 34)) 0,ln (.store 4 (.tmp 35) (.const (.bool true))) 0]
abbrev ref07_Of_r7:List LO:=[lm 14 6 3,lo 15 (.binOp .add 3 (.tmp 14) (.const (.int .i64 1)) 3) 3,lo 6 (.assign (.tmp 15)) 3]
abbrev ref07_Of_r8:List LO:=[lm 36 5 32,lo 37 (.call ⟨.value (.func 20),#[.tmp 36],#[32]⟩) 22,lo 4 (.assign (.tmp 37)) 22]
abbrev ref07_Of_c:LC:=.seq (.reg false ref07_Of_r1) (.seq (.reg false ref07_Of_r2) (.seq (.seq (.reg false ref07_Of_r3) (.block 0 (.loop (.seq (.seq (.reg false ref07_Of_r4) (.cond (.tmp 13) .skip (.exit 0))) (.seq (.block 1 (.seq (.reg false ref07_Of_r5) (.cond (.tmp 29) (.reg false ref07_Of_r6) .skip))) (.reg false ref07_Of_r7)))))) (.seq (.reg false ref07_Of_r8) .ret)))
theorem ref07_Of_k:FnOk E 18 38 [.tmp 4] ref07_Of_c:=⟨⟨Go.Proofs.Tryd.f18,by kernel_rfl,by kernel_rfl,by kernel_rfl,by kernel_rfl,by kernel_rfl⟩,rfl,rfl⟩
noncomputable def ref07_Of_l1 (a1:(List Int)):(List Bool × Int)→Option (Step (List Bool × Int) (List Bool)):=fun (x9,x10)=>(if (decide (x10 < (List.length a1:Int)))=true then Option.bind (Option.bind (ixl a1 x10) (fun x26=>Option.bind (if (decide (x26≥0))=true then Option.bind (ixl a1 x10) (fun x29=>some (decide (x29 < (List.length x9:Int)))) else some false:Option (Bool)) (fun x28=>(if x28=true then Option.bind (ixl a1 x10) (fun x30=>Option.bind (ixl x9 x30) (fun x31=>some (List.set x9 (Int.toNat x30) true))) else some x9))):Option (List Bool)) (fun x25=>some (Step.next (x25,(w64 (x10 + 1))))) else some (Step.done x9))
noncomputable def ref07_Of (a0:Int) (a1:(List Int)):Option ((List S_api_Span)):=Option.bind (ref07_bounded a0) (fun x1=>Option.bind (mkl 1 (false:Bool) x1 x1) (fun x2=>Option.bind (loopC (ref07_Of_l1 a1) (x2,0)) (fun x19=>Option.bind (ref07_Where x19) (fun x32=>some x32))))
theorem ref07_Of_ok (a0:Int) (a1:(List Int)):Ct E 18 [iv a0,.fsl 1 (List.map cI a1)] (ref07_Of a0 a1) (fun r:(List S_api_Span)=>.fsl 2 (List.map c_S_api_Span r)):=ct_intro (N:=38) (L:=ref07_Of_c) ref07_Of_k rfl (Nat.le_of_ble_eq_true rfl) (by kernel_rfl) (by
 unfold ref07_Of
 refine jS ⟨[V 0 (iv a0),V 1 (.fsl 1 (List.map cI a1))],[],0⟩ ?_
 refine jR ?_
 refine jG 0 1 ⟨[V 1 (.fsl 1 (List.map cI a1)),V 7 (iv a0)],[],0⟩ ?_
 refine jK 1 (ref07_bounded_ok a0) ?_
 intro x1 h1
 refine jr_part (i:=2) (mo:=mkl 1 (false:Bool) x1 x1) rfl rfl rfl rfl (fun _ hc=>aop_mks (e:=4) (sz:=1) (b:=1) (cc:=cT) (kk:=.i64) (kc:=.i64) (by kernel_rfl) (by kernel_rfl) (by kernel_rfl) (by kernel_rfl) (by kernel_rfl) hc) (fun _=>rfl) ?_
 intro x2 h2
 refine jG 3 1 ⟨[V 1 (.fsl 1 (List.map cI a1)),V 5 (.osl 0 0 (List.length x2) 1)],[(0,.rows 1 (List.map cT x2))],1⟩ ?_
 refine jN ?_
 refine jc_seq ?_
 refine jS ⟨[V 1 (.fsl 1 (List.map cI a1)),V 5 (.osl 0 0 (List.length x2) 1),V 6 (iv 0)],[(0,.rows 1 (List.map cT x2))],1⟩ ?_
 refine jc_block ?_
 refine jc_bind (fun x19=>⟨[V 5 (.osl 0 0 (List.length x19) 1)],[(0,.rows 1 (List.map cT x19))],1⟩) (fun x19=>(.exit 0)) (jc_loop (fun (x9,x10)=>⟨[V 1 (.fsl 1 (List.map cI a1)),V 5 (.osl 0 0 (List.length x9) 1),V 6 (iv x10)],[(0,.rows 1 (List.map cT x9))],1⟩) (wkR [(0,some 0)] (fix_nil _) (pc (hL 0 (noid_map ni_T _)) allp_nil)) ?_) ?_
 ·rintro⟨x9,x10⟩
  unfold ref07_Of_l1
  refine jc_seq ?_
  refine jR ?_
  refine jG 0 4 ⟨[V 1 (.fsl 1 (List.map cI a1)),V 5 (.osl 0 0 (List.length x9) 1),V 6 (iv x10),V 13 (bv (decide (x10 < (List.length (List.map cI a1):Int))))],[(0,.rows 1 (List.map cT x9))],1⟩ ?_
  simp only[List.length_map]
  refine jN ?_
  refine jIf ?_ ?_
  ·refine jc_skip ?_
   refine jx_seqN ?_
   refine jc_seq ?_
   refine jc_bind (fun x25=>⟨[V 1 (.fsl 1 (List.map cI a1)),V 5 (.osl 0 0 (List.length x25) 1),V 6 (iv x10)],[(0,.rows 1 (List.map cT x25))],1⟩) (fun x25=>.normal) ?_ ?_
   ·refine jc_block ?_
    refine jR ?_
    refine jG 0 2 ⟨[V 1 (.fsl 1 (List.map cI a1)),V 5 (.osl 0 0 (List.length x9) 1),V 6 (iv x10),V 16 (.fsl 1 (List.map cI a1)),V 17 (iv x10)],[(0,.rows 1 (List.map cT x9))],1⟩ ?_
    refine jr_part (i:=2) (mo:=ixl a1 x10) rfl rfl rfl rfl (fun _ hc=>aop_ixf (c:=cI) (sz:=1) (e:=3) (kk:=.i64) (by kernel_rfl) (by kernel_rfl) (by kernel_rfl) (by kernel_rfl) hc) (fun _=>rfl) ?_
    intro x26 h26
    refine jG 3 3 ⟨[V 1 (.fsl 1 (List.map cI a1)),V 5 (.osl 0 0 (List.length x9) 1),V 6 (iv x10),V 21 (bv (decide (x26≥0)))],[(0,.rows 1 (List.map cT x9))],1⟩ ?_
    refine jr_bind 6 8 (fun x28=>⟨[V 1 (.fsl 1 (List.map cI a1)),V 5 (.osl 0 0 (List.length x9) 1),V 6 (iv x10),V 29 (bv x28)],[(0,.rows 1 (List.map cT x9))],1⟩) ?_ ?_
    ·refine jSp 21 ?_ ?_
     ·refine jG 0 2 ⟨[V 1 (.fsl 1 (List.map cI a1)),V 5 (.osl 0 0 (List.length x9) 1),V 6 (iv x10),(21,.lit true),V 22 (.fsl 1 (List.map cI a1)),V 23 (iv x10)],[(0,.rows 1 (List.map cT x9))],1⟩ ?_
      refine jr_part (i:=2) (mo:=ixl a1 x10) rfl rfl rfl rfl (fun _ hc=>aop_ixf (c:=cI) (sz:=1) (e:=3) (kk:=.i64) (by kernel_rfl) (by kernel_rfl) (by kernel_rfl) (by kernel_rfl) hc) (fun _=>rfl) ?_
      intro x29 h29
      refine jG 3 5 ⟨[V 1 (.fsl 1 (List.map cI a1)),V 5 (.osl 0 0 (List.length x9) 1),V 6 (iv x10),V 29 (bv (decide (x29 < (List.length x9:Int))))],[(0,.rows 1 (List.map cT x9))],1⟩ ?_
      refine jr_nil rfl ?_
      exact jx_mid rfl (wkR [(0,some 0)] (fix_nil _) (pc (hL 0 (noid_map ni_T _)) allp_nil))
     refine jG 0 8 ⟨[V 1 (.fsl 1 (List.map cI a1)),V 5 (.osl 0 0 (List.length x9) 1),V 6 (iv x10),V 29 (bv false)],[(0,.rows 1 (List.map cT x9))],1⟩ ?_
     refine jr_nil rfl ?_
     exact jx_mid rfl (wkR [(0,some 0)] (fix_nil _) (pc (hL 0 (noid_map ni_T _)) allp_nil))
    intro x28
    refine jN ?_
    refine jIf ?_ ?_
    ·refine jc_reg ?_
     refine jG 0 3 ⟨[V 1 (.fsl 1 (List.map cI a1)),V 5 (.osl 0 0 (List.length x9) 1),V 6 (iv x10),V 30 (.osl 0 0 (List.length x9) 1),V 31 (.fsl 1 (List.map cI a1)),V 32 (iv x10)],[(0,.rows 1 (List.map cT x9))],1⟩ ?_
     refine jr_part (i:=3) (mo:=ixl a1 x10) rfl rfl rfl rfl (fun _ hc=>aop_ixf (c:=cI) (sz:=1) (e:=3) (kk:=.i64) (by kernel_rfl) (by kernel_rfl) (by kernel_rfl) (by kernel_rfl) hc) (fun _=>rfl) ?_
     intro x30 h30
     refine jG 4 1 ⟨[V 1 (.fsl 1 (List.map cI a1)),V 5 (.osl 0 0 (List.length x9) 1),V 6 (iv x10),V 30 (.osl 0 0 (List.length x9) 1),V 34 (iv x30)],[(0,.rows 1 (List.map cT x9))],1⟩ ?_
     refine jr_part (i:=5) (mo:=ixl x9 x30) rfl rfl rfl rfl (fun _ hc=>aop_ixo0 (sz:=1) (e:=4) (kk:=.i64) (id:=0) (by kernel_rfl) (by kernel_rfl) (by kernel_rfl) (by kernel_rfl) hc) (fun _=>rfl) ?_
     intro x31 h31
     refine jr_sto (i:=6) [1,5,6] [0] (st1:=⟨[V 1 (.fsl 1 (List.map cI a1)),V 5 (.osl 0 0 (List.length (List.set x9 (Int.toNat x30) true)) 1),V 6 (iv x10)],[(0,.rows 1 (List.map cT (List.set x9 (Int.toNat x30) true)))],1⟩) rfl rfl rfl rfl (aop_sto (l:=x9) (c:=cT) (id:=0) (k:=(Int.toNat x30)) (sz:=1) (off:=0) (a:=x31) (a':=true) (w:=bv true) (cs:=[bv true]) (by kernel_rfl) (by kernel_rfl) (by kernel_rfl) (by kernel_rfl) (by kernel_rfl) (ixl_lt h31).2.2 (Nat.le_of_ble_eq_true rfl) (by kernel_rfl)) (by simp only[List.length_set]; kernel_rfl) ?_
     refine jr_nil rfl ?_
     refine jx_blkN ?_
     exact jx_mid rfl (wkR [(0,some 0)] (fix_nil _) (pc (hL 0 (noid_map ni_T _)) allp_nil))
    refine jc_skip ?_
    refine jx_blkN ?_
    exact jx_mid rfl (wkR [(0,some 0)] (fix_nil _) (pc (hL 0 (noid_map ni_T _)) allp_nil))
   intro x25
   refine jx_seqN ?_
   refine jT ⟨[V 1 (.fsl 1 (List.map cI a1)),V 5 (.osl 0 0 (List.length x25) 1),V 6 (iv (w64 (x10 + 1)))],[(0,.rows 1 (List.map cT x25))],1⟩ ?_
   exact jx_next (wkR [(0,some 0)] (fix_nil _) (pc (hL 0 (noid_map ni_T _)) allp_nil))
  refine jc_exit ?_
  refine jx_seqE ?_
  exact jx_done rfl nofun (wkR [(0,some 0)] (fix_nil _) (pc (hL 0 (noid_map ni_T _)) allp_nil))
 intro x19
 refine jx_blkE ?_
 refine jx_seqN ?_
 refine jR ?_
 refine jG 0 1 ⟨[V 36 (.osl 0 0 (List.length x19) 1)],[(0,.rows 1 (List.map cT x19))],1⟩ ?_
 refine jr_callM 1 [(0,some 0)] [(0,some 0),(1,some 1)] (fun r:List S_api_Span=>[(0,.rows 1 (List.map cT x19)),(1,.rows 2 (List.map c_S_api_Span r))]) (fun r:List S_api_Span=>.osl 1 0 (List.length r) 2) 2 (ref07_Where_ok x19) (pc (hL 0 (noid_map ni_T _)) allp_nil) (fun r=>(pc (.inr (hL 0 (noid_map ni_T _))) (pc (.inr (hL 1 (noid_map ni_S_api_Span _))) allp_nil))) ?_
 rintro x32 hm1
 refine jG 2 1 ⟨[V 4 (.osl 1 0 (List.length x32) 2)],[(1,.rows 2 (List.map c_S_api_Span x32))],2⟩ ?_
 refine jN ?_
 refine jc_ret ?_
 exact jx_retF (.inr rfl) (v:=.osl 1 0 (List.length x32) 2) (by kernel_rfl) (snapc_own fz_S_api_Span (by kernel_rfl)) (fle_refl _))
abbrev ref07_Same_r1:List LO:=[lo 4 (.assign (.const (.bool false))) 4]
abbrev ref07_Same_r2:List LO:=[lm 6 0 22,lo 7 (.call ⟨.builtin .len,#[.tmp 6],#[22]⟩) 3,lm 8 1 22,lo 9 (.call ⟨.builtin .len,#[.tmp 8],#[22]⟩) 3,lo 10 (.binOp .neq 3 (.tmp 7) (.tmp 9) 3) 4]
abbrev ref07_Same_r3:List LO:=[lo 4 (.assign (.const (.bool false))) 4]
abbrev ref07_Same_r4:List LO:=[lo 5 (.assign (.const (.int .i64 0))) 3]
abbrev ref07_Same_r5:List LO:=[lm 11 5 3,lm 12 0 22,lo 13 (.call ⟨.builtin .len,#[.tmp 12],#[22]⟩) 3,lo 14 (.binOp .lss 3 (.tmp 11) (.tmp 13) 3) 4]
abbrev ref07_Same_r6:List LO:=[lm 17 0 22,lm 18 5 3,lo 19 (.indexAddr 22 (.tmp 17) (.tmp 18)) 0,lo 20 (.load 45 (.tmp 19)) 45,lm 21 1 22,lm 22 5 3,lo 23 (.indexAddr 22 (.tmp 21) (.tmp 22)) 0,lo 24 (.load 45 (.tmp 23)) 45,lo 25 (.binOp .neq 45 (.tmp 20) (.tmp 24) 45) 4]
abbrev ref07_Same_r7:List LO:=[lo 4 (.assign (.const (.bool false))) 4]
abbrev ref07_Same_r8:List LO:=[lm 15 5 3,lo 16 (.binOp .add 3 (.tmp 15) (.const (.int .i64 1)) 3) 3,lo 5 (.assign (.tmp 16)) 3]
abbrev ref07_Same_r9:List LO:=[lo 4 (.assign (.const (.bool true))) 4]
abbrev ref07_Same_c:LC:=.seq (.reg false ref07_Same_r1) (.seq (.seq (.reg false ref07_Same_r2) (.cond (.tmp 10) (.seq (.reg false ref07_Same_r3) .ret) .skip)) (.seq (.seq (.reg false ref07_Same_r4) (.block 0 (.loop (.seq (.seq (.reg false ref07_Same_r5) (.cond (.tmp 14) .skip (.exit 0))) (.seq (.block 1 (.seq (.reg true ref07_Same_r6) (.cond (.tmp 25) (.seq (.reg false ref07_Same_r7) .ret) .skip))) (.reg false ref07_Same_r8)))))) (.seq (.reg false ref07_Same_r9) .ret)))
theorem ref07_Same_k:FnOk E 13 26 [.tmp 4] ref07_Same_c:=⟨⟨Go.Proofs.Tryd.f13,by kernel_rfl,by kernel_rfl,by kernel_rfl,by kernel_rfl,by kernel_rfl⟩,rfl,rfl⟩
noncomputable def ref07_Same_l1 (a0:(List S_api_Span)) (a1:(List S_api_Span)):Int→Option (Step (Int) ((Unit) ⊕ (Unit))):=fun x3=>(if (decide (x3 < (List.length a0:Int)))=true then Option.bind (ixl a0 x3) (fun x7=>Option.bind (ixl a1 x3) (fun x8=>(if (!((x7.Lo == x8.Lo) && (x7.Hi == x8.Hi)))=true then some (Step.done (Sum.inl ())) else some (Step.next (w64 (x3 + 1)))))) else some (Step.done (Sum.inr ())))
noncomputable def ref07_Same (a0:(List S_api_Span)) (a1:(List S_api_Span)):Option (Bool):=(if ((List.length a0:Int) != (List.length a1:Int))=true then some false else Option.bind (loopC (ref07_Same_l1 a0 a1) 0) (fun y=>match y with | Sum.inl _=>some false | Sum.inr _=>some true))
theorem ref07_Same_ok (a0:(List S_api_Span)) (a1:(List S_api_Span)):Ct E 13 [.fsl 2 (List.map c_S_api_Span a0),.fsl 2 (List.map c_S_api_Span a1)] (ref07_Same a0 a1) (fun r:Bool=>bv r):=ct_intro (N:=26) (L:=ref07_Same_c) ref07_Same_k rfl (Nat.le_of_ble_eq_true rfl) (by kernel_rfl) (by
 unfold ref07_Same
 refine jS ⟨[V 0 (.fsl 2 (List.map c_S_api_Span a0)),V 1 (.fsl 2 (List.map c_S_api_Span a1))],[],0⟩ ?_
 refine jc_seq ?_
 refine jR ?_
 refine jG 0 5 ⟨[V 0 (.fsl 2 (List.map c_S_api_Span a0)),V 1 (.fsl 2 (List.map c_S_api_Span a1)),V 10 (bv ((List.length (List.map c_S_api_Span a0):Int) != (List.length (List.map c_S_api_Span a1):Int)))],[],0⟩ ?_
 simp only[List.length_map]
 refine jN ?_
 refine jIf ?_ ?_
 ·refine jS ⟨[V 4 (bv false)],[],0⟩ ?_
  refine jc_ret ?_
  refine jx_seqR ?_
  exact jx_retF (.inr rfl) (v:=bv false) (by kernel_rfl) rfl (fle_refl _)
 refine jc_skip ?_
 refine jx_seqN ?_
 refine jc_seq ?_
 refine jS ⟨[V 0 (.fsl 2 (List.map c_S_api_Span a0)),V 1 (.fsl 2 (List.map c_S_api_Span a1)),V 5 (iv 0)],[],0⟩ ?_
 refine jc_block ?_
 refine jc_bind (fun y=>match y with | Sum.inl _=>⟨[V 4 (bv false)],[],0⟩ | Sum.inr _=>⟨[],[],0⟩) (fun y=>match y with | Sum.inl _=>.ret | Sum.inr _=>(.exit 0)) (jc_loop (fun x3=>⟨[V 0 (.fsl 2 (List.map c_S_api_Span a0)),V 1 (.fsl 2 (List.map c_S_api_Span a1)),V 5 (iv x3)],[],0⟩) (wkR [] (fix_nil _) allp_nil) ?_) ?_
 ·intro x3
  unfold ref07_Same_l1
  refine jc_seq ?_
  refine jR ?_
  refine jG 0 4 ⟨[V 0 (.fsl 2 (List.map c_S_api_Span a0)),V 1 (.fsl 2 (List.map c_S_api_Span a1)),V 5 (iv x3),V 14 (bv (decide (x3 < (List.length (List.map c_S_api_Span a0):Int))))],[],0⟩ ?_
  simp only[List.length_map]
  refine jN ?_
  refine jIf ?_ ?_
  ·refine jc_skip ?_
   refine jx_seqN ?_
   refine jc_seq ?_
   refine jc_block ?_
   refine jR ?_
   refine jG 0 2 ⟨[V 0 (.fsl 2 (List.map c_S_api_Span a0)),V 1 (.fsl 2 (List.map c_S_api_Span a1)),V 5 (iv x3),V 17 (.fsl 2 (List.map c_S_api_Span a0)),V 18 (iv x3)],[],0⟩ ?_
   refine jr_part (i:=2) (mo:=ixl a0 x3) rfl rfl rfl rfl (fun _ hc=>aop_ixf (c:=c_S_api_Span) (sz:=2) (e:=45) (kk:=.i64) (by kernel_rfl) (by kernel_rfl) (by kernel_rfl) (by kernel_rfl) hc) (fun _=>rfl) ?_
   intro x7 h7
   refine jG 3 3 ⟨[V 0 (.fsl 2 (List.map c_S_api_Span a0)),V 1 (.fsl 2 (List.map c_S_api_Span a1)),V 5 (iv x3),V 20 (.agg [iv x7.Lo,iv x7.Hi]),V 21 (.fsl 2 (List.map c_S_api_Span a1)),V 22 (iv x3)],[],0⟩ ?_
   refine jr_part (i:=6) (mo:=ixl a1 x3) rfl rfl rfl rfl (fun _ hc=>aop_ixf (c:=c_S_api_Span) (sz:=2) (e:=45) (kk:=.i64) (by kernel_rfl) (by kernel_rfl) (by kernel_rfl) (by kernel_rfl) hc) (fun _=>rfl) ?_
   intro x8 h8
   refine jG 7 2 ⟨[V 0 (.fsl 2 (List.map c_S_api_Span a0)),V 1 (.fsl 2 (List.map c_S_api_Span a1)),V 5 (iv x3),V 25 (bv (!((x7.Lo == x8.Lo) && (x7.Hi == x8.Hi))))],[],0⟩ ?_
   refine jN ?_
   refine jIf ?_ ?_
   ·refine jS ⟨[V 4 (bv false)],[],0⟩ ?_
    refine jc_ret ?_
    refine jx_blkR ?_
    refine jx_seqR ?_
    exact jx_done rfl nofun (wkR [] (fix_nil _) allp_nil)
   refine jc_skip ?_
   refine jx_blkN ?_
   refine jx_seqN ?_
   refine jT ⟨[V 0 (.fsl 2 (List.map c_S_api_Span a0)),V 1 (.fsl 2 (List.map c_S_api_Span a1)),V 5 (iv (w64 (x3 + 1)))],[],0⟩ ?_
   exact jx_next (wkR [] (fix_nil _) allp_nil)
  refine jc_exit ?_
  refine jx_seqE ?_
  exact jx_done rfl nofun (wkR [] (fix_nil _) allp_nil)
 rintro (_ | _)
 ·refine jx_blkR ?_
  refine jx_seqR ?_
  exact jx_retF (.inr rfl) (v:=bv false) (by kernel_rfl) rfl (fle_refl _)
 refine jx_blkE ?_
 refine jx_seqN ?_
 refine jS ⟨[V 4 (bv true)],[],0⟩ ?_
 refine jc_ret ?_
 exact jx_retF (.inr rfl) (v:=bv true) (by kernel_rfl) rfl (fle_refl _))
abbrev ranks_Of_1_s64b3_r1:List LO:=[lo 3 (.assign (.const (.bool false))) 4]
abbrev ranks_Of_1_s64b3_r2:List LO:=[lm 4 0 3,lo 5 (.binOp .lss 3 (.tmp 4) (.const (.int .i64 0)) 3) 4,lm 6 5 4,lmg 7 0 3 6 false,lg 8 (.load 3 (.tmp 1)) 3 6 false,lg 9 (.call ⟨.builtin .min,#[.tmp 8,.const (.int .i64 65536)],#[3,3]⟩) 3 6 false,lg 10 (.binOp .geq 3 (.tmp 7) (.tmp 9) 3) 4 6 false,lo 11 (.pick (.tmp 6) (.const (.bool true)) (.tmp 10)) 4,lo 3 (.assign (.tmp 11)) 4]
abbrev ranks_Of_1_s64b3_c:LC:=.seq (.reg false ranks_Of_1_s64b3_r1) (.seq (.reg false ranks_Of_1_s64b3_r2) .ret)
theorem ranks_Of_1_s64b3_k:FnOk E 45 12 [.tmp 3] ranks_Of_1_s64b3_c:=⟨⟨Go.Proofs.Tryd.f45,by kernel_rfl,by kernel_rfl,by kernel_rfl,by kernel_rfl,by kernel_rfl⟩,rfl,rfl⟩
noncomputable def ranks_Of_1_s64b3 (a0:Int) (a1:Int):Option (Bool):=some ((decide (a0 < 0)) || (decide (a0≥(if 65536 < a1 then 65536 else a1))))
theorem ranks_Of_1_s64b3_ok (a0:Int) (a1:Int):Ct E 45 [iv a0,.fptr [iv a1] 0] (ranks_Of_1_s64b3 a0 a1) (fun r:Bool=>bv r):=ct_intro (N:=12) (L:=ranks_Of_1_s64b3_c) ranks_Of_1_s64b3_k rfl (Nat.le_of_ble_eq_true rfl) (by kernel_rfl) (by
 unfold ranks_Of_1_s64b3
 refine jS ⟨[V 0 (iv a0),V 1 (.fptr [iv a1] 0)],[],0⟩ ?_
 refine jS ⟨[V 3 (bv ((decide (a0 < 0)) || (decide (a0≥(if 65536 < a1 then 65536 else a1)))))],[],0⟩ ?_
 refine jc_ret ?_
 exact jx_retF (.inr rfl) (v:=bv ((decide (a0 < 0)) || (decide (a0≥(if 65536 < a1 then 65536 else a1))))) (by kernel_rfl) rfl (fle_refl _))
abbrev slices_IndexFunc_int_int_s0c9a_r1:List LO:=[lo 4 (.assign (.const (.int .i64 0))) 3]
abbrev slices_IndexFunc_int_int_s0c9a_r2:List LO:=[lm 6 0 31,lo 7 (.call ⟨.builtin .len,#[.tmp 6],#[31]⟩) 3,lo 8 (.move (.const (.int .i64 0))) 3]
abbrev slices_IndexFunc_int_int_s0c9a_r3:List LO:=[lo 9 (.binOp .lss 3 (.tmp 8) (.tmp 7) 3) 0]
abbrev slices_IndexFunc_int_int_s0c9a_r4:List LO:=[lm 10 8 3,lo 5 (.assign (.tmp 10)) 3]
abbrev slices_IndexFunc_int_int_s0c9a_r5:List LO:=[lm 11 1 50,lm 12 0 31,lm 13 5 3,lo 14 (.indexAddr 31 (.tmp 12) (.tmp 13)) 0,lo 15 (.load 3 (.tmp 14)) 3,lo 16 (.call ⟨.value (.tmp 11),#[.tmp 15],#[3]⟩) 4]
abbrev slices_IndexFunc_int_int_s0c9a_r6:List LO:=[lm 17 5 3,lo 4 (.assign (.tmp 17)) 3]
abbrev slices_IndexFunc_int_int_s0c9a_r7:List LO:=[lo 18 (.binOp .add 3 (.tmp 8) (.const (.int .i64 1)) 3) 3,lm 8 18 3]
abbrev slices_IndexFunc_int_int_s0c9a_r8:List LO:=[lo 4 (.assign (.const (.int .i64 (-1)))) 3]
abbrev slices_IndexFunc_int_int_s0c9a_c:LC:=.seq (.reg false slices_IndexFunc_int_int_s0c9a_r1) (.seq (.seq (.reg false slices_IndexFunc_int_int_s0c9a_r2) (.block 0 (.loop (.seq (.reg false slices_IndexFunc_int_int_s0c9a_r3) (.seq (.cond (.tmp 9) .skip (.exit 0)) (.seq (.block 1 (.seq (.reg false slices_IndexFunc_int_int_s0c9a_r4) (.seq (.reg false slices_IndexFunc_int_int_s0c9a_r5) (.cond (.tmp 16) (.seq (.reg false slices_IndexFunc_int_int_s0c9a_r6) .ret) .skip)))) (.reg false slices_IndexFunc_int_int_s0c9a_r7))))))) (.seq (.reg false slices_IndexFunc_int_int_s0c9a_r8) .ret))
theorem slices_IndexFunc_int_int_s0c9a_k:FnOk E 57 19 [.tmp 4] slices_IndexFunc_int_int_s0c9a_c:=⟨⟨Go.Proofs.Tryd.f57,by kernel_rfl,by kernel_rfl,by kernel_rfl,by kernel_rfl,by kernel_rfl⟩,rfl,rfl⟩
noncomputable def slices_IndexFunc_int_int_s0c9a_l1 (a0:(List Int)) (a1:Int):Int→Option (Step (Int) ((Int) ⊕ (Unit))):=fun x3=>(if (decide (x3 < (List.length a0:Int)))=true then Option.bind (ixl a0 x3) (fun x8=>Option.bind (ranks_Of_1_s64b3 x8 a1) (fun x9=>(if x9=true then some (Step.done (Sum.inl x3)) else some (Step.next (w64 (x3 + 1)))))) else some (Step.done (Sum.inr ())))
noncomputable def slices_IndexFunc_int_int_s0c9a (a0:(List Int)) (a1:Int):Option (Int):=Option.bind (loopC (slices_IndexFunc_int_int_s0c9a_l1 a0 a1) 0) (fun y=>match y with | Sum.inl x7=>some x7 | Sum.inr _=>some (-1))
theorem slices_IndexFunc_int_int_s0c9a_ok (a0:(List Int)) (a1:Int):Ct E 57 [.fsl 1 (List.map cI a0),.fn 45 [.fptr [iv a1] 0]] (slices_IndexFunc_int_int_s0c9a a0 a1) (fun r:Int=>iv r):=ct_intro (N:=19) (L:=slices_IndexFunc_int_int_s0c9a_c) slices_IndexFunc_int_int_s0c9a_k rfl (Nat.le_of_ble_eq_true rfl) (by kernel_rfl) (by
 unfold slices_IndexFunc_int_int_s0c9a
 refine jS ⟨[V 0 (.fsl 1 (List.map cI a0)),V 1 (.fn 45 [.fptr [iv a1] 0])],[],0⟩ ?_
 refine jc_seq ?_
 refine jR ?_
 refine jG 0 3 ⟨[V 0 (.fsl 1 (List.map cI a0)),V 1 (.fn 45 [.fptr [iv a1] 0]),V 7 (iv (List.length (List.map cI a0):Int)),V 8 (iv 0)],[],0⟩ ?_
 simp only[List.length_map]
 refine jN ?_
 refine jc_block ?_
 refine jc_bind (fun y=>match y with | Sum.inl x7=>⟨[V 4 (iv x7)],[],0⟩ | Sum.inr _=>⟨[],[],0⟩) (fun y=>match y with | Sum.inl x7=>.ret | Sum.inr _=>(.exit 0)) (jc_loop (fun x3=>⟨[V 0 (.fsl 1 (List.map cI a0)),V 1 (.fn 45 [.fptr [iv a1] 0]),V 7 (iv (List.length a0:Int)),V 8 (iv x3)],[],0⟩) (wkR [] (fix_nil _) allp_nil) ?_) ?_
 ·intro x3
  unfold slices_IndexFunc_int_int_s0c9a_l1
  refine jS ⟨[V 0 (.fsl 1 (List.map cI a0)),V 1 (.fn 45 [.fptr [iv a1] 0]),V 7 (iv (List.length a0:Int)),V 8 (iv x3),V 9 (bv (decide (x3 < (List.length a0:Int))))],[],0⟩ ?_
  refine jc_seq ?_
  refine jIf ?_ ?_
  ·refine jc_skip ?_
   refine jx_seqN ?_
   refine jc_seq ?_
   refine jc_block ?_
   refine jS ⟨[V 0 (.fsl 1 (List.map cI a0)),V 1 (.fn 45 [.fptr [iv a1] 0]),V 5 (iv x3),V 7 (iv (List.length a0:Int)),V 8 (iv x3)],[],0⟩ ?_
   refine jR ?_
   refine jG 0 3 ⟨[V 0 (.fsl 1 (List.map cI a0)),V 1 (.fn 45 [.fptr [iv a1] 0]),V 5 (iv x3),V 7 (iv (List.length a0:Int)),V 8 (iv x3),V 11 (.fn 45 [.fptr [iv a1] 0]),V 12 (.fsl 1 (List.map cI a0)),V 13 (iv x3)],[],0⟩ ?_
   refine jr_part (i:=3) (mo:=ixl a0 x3) rfl rfl rfl rfl (fun _ hc=>aop_ixf (c:=cI) (sz:=1) (e:=3) (kk:=.i64) (by kernel_rfl) (by kernel_rfl) (by kernel_rfl) (by kernel_rfl) hc) (fun _=>rfl) ?_
   intro x8 h8
   refine jG 4 1 ⟨[V 0 (.fsl 1 (List.map cI a0)),V 1 (.fn 45 [.fptr [iv a1] 0]),V 5 (iv x3),V 7 (iv (List.length a0:Int)),V 8 (iv x3),V 11 (.fn 45 [.fptr [iv a1] 0]),V 15 (iv x8)],[],0⟩ ?_
   refine jr_callV (i:=5) rfl rfl rfl rfl (g:=45) (caps:=[.fptr [iv a1] 0]) (avs:=[iv x8]) (vs:=[iv x8,.fptr [iv a1] 0]) (by kernel_rfl) (by kernel_rfl) rfl (snapL_cons rfl (snapL_cons rfl (snapL_nil _))) (all2_cons (fle_refl _) (all2_cons (fle_refl _) all2_nil)) (ranks_Of_1_s64b3_ok x8 a1) (fun _=>rfl) (fun _=>rfl) ?_
   intro x9 h9
   refine jN ?_
   refine jIf ?_ ?_
   ·refine jS ⟨[V 4 (iv x3)],[],0⟩ ?_
    refine jc_ret ?_
    refine jx_blkR ?_
    refine jx_seqR ?_
    exact jx_done rfl nofun (wkR [] (fix_nil _) allp_nil)
   refine jc_skip ?_
   refine jx_blkN ?_
   refine jx_seqN ?_
   refine jT ⟨[V 0 (.fsl 1 (List.map cI a0)),V 1 (.fn 45 [.fptr [iv a1] 0]),V 7 (iv (List.length a0:Int)),V 8 (iv (w64 (x3 + 1)))],[],0⟩ ?_
   exact jx_next (wkR [] (fix_nil _) allp_nil)
  refine jc_exit ?_
  refine jx_seqE ?_
  exact jx_done rfl nofun (wkR [] (fix_nil _) allp_nil)
 rintro (x7 | _)
 ·refine jx_blkR ?_
  refine jx_seqR ?_
  exact jx_retF (.inr rfl) (v:=iv x7) (by kernel_rfl) rfl (fle_refl _)
 refine jx_blkE ?_
 refine jx_seqN ?_
 refine jS ⟨[V 4 (iv (-1))],[],0⟩ ?_
 refine jc_ret ?_
 exact jx_retF (.inr rfl) (v:=iv (-1)) (by kernel_rfl) rfl (fle_refl _))
abbrev slices_DeleteFunc_int_int_r1:List LO:=[lo 4 (.assign (.const (.slice none 0 0))) 31]
abbrev slices_DeleteFunc_int_int_r2:List LO:=[lm 8 0 31,lm 9 1 50,lo 10 (.call ⟨.value (.func 57),#[.tmp 8,.tmp 9],#[31,50]⟩) 3,lo 5 (.assign (.tmp 10)) 3]
abbrev slices_DeleteFunc_int_int_r3:List LO:=[lm 11 5 3,lo 12 (.binOp .eql 3 (.tmp 11) (.const (.int .i64 (-1))) 3) 4]
abbrev slices_DeleteFunc_int_int_r4:List LO:=[lm 13 0 31,lo 4 (.assign (.tmp 13)) 31]
abbrev slices_DeleteFunc_int_int_r5:List LO:=[lm 14 5 3,lo 15 (.binOp .add 3 (.tmp 14) (.const (.int .i64 1)) 3) 3,lo 6 (.assign (.tmp 15)) 3]
abbrev slices_DeleteFunc_int_int_r6:List LO:=[lm 16 6 3,lm 17 0 31,lo 18 (.call ⟨.builtin .len,#[.tmp 17],#[31]⟩) 3,lo 19 (.binOp .lss 3 (.tmp 16) (.tmp 18) 3) 4]
abbrev slices_DeleteFunc_int_int_r7:List LO:=[lm 22 0 31,lm 23 6 3,lo 24 (.indexAddr 31 (.tmp 22) (.tmp 23)) 0,lo 25 (.load 3 (.tmp 24)) 3,lo 7 (.assign (.tmp 25)) 3]
abbrev slices_DeleteFunc_int_int_r8:List LO:=[lm 26 1 50,lm 27 7 3,lo 28 (.call ⟨.value (.tmp 26),#[.tmp 27],#[3]⟩) 4,lo 29 (.unOp .not 4 (.tmp 28)) 4]
abbrev slices_DeleteFunc_int_int_r9:List LO:=[lm 30 0 31,lm 31 5 3,lm 32 7 3,lo 33 (.indexAddr 31 (.tmp 30) (.tmp 31)) 0,ln (.store 3 (.tmp 33) (.tmp 32)) 0]
abbrev slices_DeleteFunc_int_int_r10:List LO:=[lm 34 5 3,lo 35 (.binOp .add 3 (.tmp 34) (.const (.int .i64 1)) 3) 3,lo 5 (.assign (.tmp 35)) 3]
abbrev slices_DeleteFunc_int_int_r11:List LO:=[lm 20 6 3,lo 21 (.binOp .add 3 (.tmp 20) (.const (.int .i64 1)) 3) 3,lo 6 (.assign (.tmp 21)) 3]
abbrev slices_DeleteFunc_int_int_r12:List LO:=[lm 36 0 31,lm 37 5 3,lo 38 (.slice 31 (.tmp 36) (some (.tmp 37)) none none) 31,ln (.call ⟨.builtin .clear,#[.tmp 38],#[31]⟩) 0]
abbrev slices_DeleteFunc_int_int_r13:List LO:=[lm 39 0 31,lm 40 5 3,lo 41 (.slice 31 (.tmp 39) none (some (.tmp 40)) none) 31,lo 4 (.assign (.tmp 41)) 31]
abbrev slices_DeleteFunc_int_int_c:LC:=.seq (.reg false slices_DeleteFunc_int_int_r1) (.seq (.reg false slices_DeleteFunc_int_int_r2) (.seq (.seq (.reg false slices_DeleteFunc_int_int_r3) (.cond (.tmp 12) (.seq (.reg false slices_DeleteFunc_int_int_r4) .ret) .skip)) (.seq (.seq (.reg false slices_DeleteFunc_int_int_r5) (.block 0 (.loop (.seq (.seq (.reg false slices_DeleteFunc_int_int_r6) (.cond (.tmp 19) .skip (.exit 0))) (.seq (.block 1 (.seq (.reg false slices_DeleteFunc_int_int_r7) (.seq (.reg false slices_DeleteFunc_int_int_r8) (.cond (.tmp 29) (.seq (.reg false slices_DeleteFunc_int_int_r9) (.reg false slices_DeleteFunc_int_int_r10)) .skip)))) (.reg false slices_DeleteFunc_int_int_r11)))))) (.seq (.reg false slices_DeleteFunc_int_int_r12) (.seq (.reg false slices_DeleteFunc_int_int_r13) .ret)))))
theorem slices_DeleteFunc_int_int_k:FnOk E 43 42 [.tmp 4] slices_DeleteFunc_int_int_c:=⟨⟨Go.Proofs.Tryd.f43,by kernel_rfl,by kernel_rfl,by kernel_rfl,by kernel_rfl,by kernel_rfl⟩,rfl,rfl⟩
noncomputable def slices_DeleteFunc_int_int_l1 (a1:Int):(List Int × Int × Int)→Option (Step (List Int × Int × Int) (List Int × Int)):=fun (x29,x30,x31)=>(if (decide (x31 < (List.length x29:Int)))=true then Option.bind (Option.bind (ixl x29 x31) (fun x47=>Option.bind (ranks_Of_1_s64b3 x47 a1) (fun x48=>(if (!x48)=true then Option.bind (ixl x29 x30) (fun x49=>some ((List.set x29 (Int.toNat x30) x47),(w64 (x30 + 1)))) else some (x29,x30)))):Option (List Int × Int)) (fun (x45,x46)=>some (Step.next (x45,x46,(w64 (x31 + 1))))) else some (Step.done (x29,x30)))
abbrev slices_DeleteFunc_int_int_T (a0:List Int) (a1:Int) (r:List Int):CS:=⟨[V 4 (.osl 2 0 (List.length r) 1)],[W 1 1 [iv a1],(2,.rows 1 (List.map cI r))],3⟩
noncomputable def slices_DeleteFunc_int_int (a0:List Int) (a1:Int):Option (List Int):=Option.bind (slices_IndexFunc_int_int_s0c9a a0 a1) (fun x23=>(if (x23 == (-1))=true then some a0 else Option.bind (loopC (slices_DeleteFunc_int_int_l1 a1) (a0,x23,(w64 (x23 + 1)))) (fun (x40,x41)=>Option.bind (subl x40 x41 (List.length x40:Int)) (fun x50=>Option.bind (subl (clrF 0 x41 x40) 0 x41) (fun x51=>some x51)))))
theorem slices_DeleteFunc_int_int_ok (a0:List Int) (a1:Int):CtM E 43 [.osl 0 0 (List.length a0) 1,.fn 45 [pt 1 1]] [(0,.rows 1 (List.map cI a0)),W 1 1 [iv a1]] 2 (slices_DeleteFunc_int_int a0 a1) (fun r:List Int=>.osl 2 0 (List.length r) 1) (fun r:List Int=>[W 1 1 [iv a1],(2,.rows 1 (List.map cI r))]) 3:=ctm_intro (N:=42) (L:=slices_DeleteFunc_int_int_c) slices_DeleteFunc_int_int_k rfl (Nat.le_of_ble_eq_true rfl) (fun F hF=>by
 unfold slices_DeleteFunc_int_int
 refine jS ⟨[V 0 (.osl 0 0 (List.length a0) 1),V 1 (.fn 45 [pt 1 1])],[(0,.rows 1 (List.map cI a0)),W 1 1 [iv a1]],2⟩ ?_
 refine jR ?_
 refine jG 0 2 ⟨[V 0 (.osl 0 0 (List.length a0) 1),V 1 (.fn 45 [pt 1 1]),V 8 (.osl 0 0 (List.length a0) 1),V 9 (.fn 45 [pt 1 1])],[(0,.rows 1 (List.map cI a0)),W 1 1 [iv a1]],2⟩ ?_
 refine jr_callF (i:=2) rfl rfl rfl rfl (vs:=[.osl 0 0 (List.length a0) 1,.fn 45 [pt 1 1]]) (by kernel_rfl) (snapL_cons (snapc_own fz_I (by kernel_rfl)) (snapL_cons rfl (snapL_nil _))) (all2_cons (fle_refl _) (all2_cons (fle_refl _) all2_nil)) (slices_IndexFunc_int_int_s0c9a_ok a0 a1) (fun _=>rfl) (fun _=>rfl) ?_
 intro x23 h23
 refine jG 3 1 ⟨[V 0 (.osl 0 0 (List.length a0) 1),V 1 (.fn 45 [pt 1 1]),V 5 (iv x23)],[(0,.rows 1 (List.map cI a0)),W 1 1 [iv a1]],2⟩ ?_
 refine jN ?_
 refine jc_seq ?_
 refine jS ⟨[V 0 (.osl 0 0 (List.length a0) 1),V 1 (.fn 45 [pt 1 1]),V 5 (iv x23),V 12 (bv (x23 == (-1)))],[(0,.rows 1 (List.map cI a0)),W 1 1 [iv a1]],2⟩ ?_
 refine jIf ?_ ?_
 ·refine jS ⟨[V 4 (.osl 0 0 (List.length a0) 1)],[(0,.rows 1 (List.map cI a0)),W 1 1 [iv a1]],2⟩ ?_
  refine jc_ret ?_
  refine jx_seqR ?_
  exact jx_retM (slices_DeleteFunc_int_int_T a0 a1 a0) (.inr rfl) (wkR [(0,some 0),(1,some 1),(2,some 0)] (fix_of hF (k:=2) rfl) (pc (hC 1) (pc (hL 0 (noid_map ni_I _)) allp_nil)))
 refine jc_skip ?_
 refine jx_seqN ?_
 refine jc_seq ?_
 refine jS ⟨[V 0 (.osl 0 0 (List.length a0) 1),V 1 (.fn 45 [pt 1 1]),V 5 (iv x23),V 6 (iv (w64 (x23 + 1)))],[(0,.rows 1 (List.map cI a0)),W 1 1 [iv a1]],2⟩ ?_
 refine jc_block ?_
 refine jc_bind (fun (x40,x41)=>⟨[V 0 (.osl 0 0 (List.length x40) 1),V 5 (iv x41)],[(0,.rows 1 (List.map cI x40)),W 1 1 [iv a1]],2⟩) (fun (x40,x41)=>(.exit 0)) (jc_loop (fun (x29,x30,x31)=>⟨[V 0 (.osl 0 0 (List.length x29) 1),V 1 (.fn 45 [pt 1 1]),V 5 (iv x30),V 6 (iv x31)],[(0,.rows 1 (List.map cI x29)),W 1 1 [iv a1]],2⟩) (wkR [(0,some 0),(1,some 1)] (fix_of hF (k:=2) rfl) (pc (hL 0 (noid_map ni_I _)) (pc (hC 1) allp_nil))) ?_) ?_
 ·rintro⟨x29,x30,x31⟩
  unfold slices_DeleteFunc_int_int_l1
  refine jc_seq ?_
  refine jS ⟨[V 0 (.osl 0 0 (List.length x29) 1),V 1 (.fn 45 [pt 1 1]),V 5 (iv x30),V 6 (iv x31),V 19 (bv (decide (x31 < (List.length x29:Int))))],[(0,.rows 1 (List.map cI x29)),W 1 1 [iv a1]],2⟩ ?_
  refine jIf ?_ ?_
  ·refine jc_skip ?_
   refine jx_seqN ?_
   refine jc_seq ?_
   refine jc_bind (fun (x45,x46)=>⟨[V 0 (.osl 0 0 (List.length x45) 1),V 1 (.fn 45 [pt 1 1]),V 5 (iv x46),V 6 (iv x31)],[(0,.rows 1 (List.map cI x45)),W 1 1 [iv a1]],2⟩) (fun (x45,x46)=>.normal) ?_ ?_
   ·refine jc_block ?_
    refine jR ?_
    refine jG 0 2 ⟨[V 0 (.osl 0 0 (List.length x29) 1),V 1 (.fn 45 [pt 1 1]),V 5 (iv x30),V 6 (iv x31),V 22 (.osl 0 0 (List.length x29) 1),V 23 (iv x31)],[(0,.rows 1 (List.map cI x29)),W 1 1 [iv a1]],2⟩ ?_
    refine jr_part (i:=2) (mo:=ixl x29 x31) rfl rfl rfl rfl (fun _ hc=>aop_ixo0 (sz:=1) (e:=3) (kk:=.i64) (id:=0) (by kernel_rfl) (by kernel_rfl) (by kernel_rfl) (by kernel_rfl) hc) (fun _=>rfl) ?_
    intro x47 h47
    refine jr_one (i:=3) (v:=iv x47) rfl rfl rfl rfl (aop_ldo (l:=x29) (c:=cI) (id:=0) (k:=(Int.toNat x31)) (sz:=1) (off:=0) (a:=x47) (by kernel_rfl) (by kernel_rfl) (ixl_lt h47).2.2 (by kernel_rfl)) rfl ?_
    refine jG 4 1 ⟨[V 0 (.osl 0 0 (List.length x29) 1),V 1 (.fn 45 [pt 1 1]),V 5 (iv x30),V 6 (iv x31),V 7 (iv x47)],[(0,.rows 1 (List.map cI x29)),W 1 1 [iv a1]],2⟩ ?_
    refine jN ?_
    refine jR ?_
    refine jG 0 2 ⟨[V 0 (.osl 0 0 (List.length x29) 1),V 1 (.fn 45 [pt 1 1]),V 5 (iv x30),V 6 (iv x31),V 7 (iv x47),V 26 (.fn 45 [pt 1 1]),V 27 (iv x47)],[(0,.rows 1 (List.map cI x29)),W 1 1 [iv a1]],2⟩ ?_
    refine jr_callV (i:=2) rfl rfl rfl rfl (g:=45) (caps:=[pt 1 1]) (avs:=[iv x47]) (vs:=[iv x47,pt 1 1]) (vs0:=[iv x47,.fptr [iv a1] 0]) (b:=true) (by kernel_rfl) (by kernel_rfl) rfl (by kernel_rfl) (all2_cons (fle_refl _) (all2_cons (fle_refl _) all2_nil)) (ranks_Of_1_s64b3_ok x47 a1) (fun _=>rfl) (fun _=>rfl) ?_
    intro x48 h48
    refine jG 3 1 ⟨[V 0 (.osl 0 0 (List.length x29) 1),V 1 (.fn 45 [pt 1 1]),V 5 (iv x30),V 6 (iv x31),V 7 (iv x47),V 29 (bv (!x48))],[(0,.rows 1 (List.map cI x29)),W 1 1 [iv a1]],2⟩ ?_
    refine jN ?_
    refine jIf ?_ ?_
    ·refine jR ?_
     refine jG 0 3 ⟨[V 0 (.osl 0 0 (List.length x29) 1),V 1 (.fn 45 [pt 1 1]),V 5 (iv x30),V 6 (iv x31),V 30 (.osl 0 0 (List.length x29) 1),V 31 (iv x30),V 32 (iv x47)],[(0,.rows 1 (List.map cI x29)),W 1 1 [iv a1]],2⟩ ?_
     refine jr_part (i:=3) (mo:=ixl x29 x30) rfl rfl rfl rfl (fun _ hc=>aop_ixo0 (sz:=1) (e:=3) (kk:=.i64) (id:=0) (by kernel_rfl) (by kernel_rfl) (by kernel_rfl) (by kernel_rfl) hc) (fun _=>rfl) ?_
     intro x49 h49
     refine jr_sto (i:=4) [0,1,5,6] [0,1] (st1:=⟨[V 0 (.osl 0 0 (List.length (List.set x29 (Int.toNat x30) x47)) 1),V 1 (.fn 45 [pt 1 1]),V 5 (iv x30),V 6 (iv x31)],[(0,.rows 1 (List.map cI (List.set x29 (Int.toNat x30) x47))),W 1 1 [iv a1]],2⟩) rfl rfl rfl rfl (aop_sto (l:=x29) (c:=cI) (id:=0) (k:=(Int.toNat x30)) (sz:=1) (off:=0) (a:=x49) (a':=x47) (w:=iv x47) (cs:=[iv x47]) (by kernel_rfl) (by kernel_rfl) (by kernel_rfl) (by kernel_rfl) (by kernel_rfl) (ixl_lt h49).2.2 (Nat.le_of_ble_eq_true rfl) (by kernel_rfl)) (by simp only[List.length_set]; kernel_rfl) ?_
     refine jN ?_
     refine jT ⟨[V 0 (.osl 0 0 (List.length (List.set x29 (Int.toNat x30) x47)) 1),V 1 (.fn 45 [pt 1 1]),V 5 (iv (w64 (x30 + 1))),V 6 (iv x31)],[(0,.rows 1 (List.map cI (List.set x29 (Int.toNat x30) x47))),W 1 1 [iv a1]],2⟩ ?_
     refine jx_blkN ?_
     exact jx_mid rfl (wkR [(0,some 0),(1,some 1)] (fix_of hF (k:=2) rfl) (pc (hL 0 (noid_map ni_I _)) (pc (hC 1) allp_nil)))
    refine jc_skip ?_
    refine jx_blkN ?_
    exact jx_mid rfl (wkR [(0,some 0),(1,some 1)] (fix_of hF (k:=2) rfl) (pc (hL 0 (noid_map ni_I _)) (pc (hC 1) allp_nil)))
   rintro⟨x45,x46⟩
   refine jx_seqN ?_
   refine jT ⟨[V 0 (.osl 0 0 (List.length x45) 1),V 1 (.fn 45 [pt 1 1]),V 5 (iv x46),V 6 (iv (w64 (x31 + 1)))],[(0,.rows 1 (List.map cI x45)),W 1 1 [iv a1]],2⟩ ?_
   exact jx_next (wkR [(0,some 0),(1,some 1)] (fix_of hF (k:=2) rfl) (pc (hL 0 (noid_map ni_I _)) (pc (hC 1) allp_nil)))
  refine jc_exit ?_
  refine jx_seqE ?_
  exact jx_done rfl nofun (wkR [(0,some 0),(1,some 1)] (fix_of hF (k:=2) rfl) (pc (hL 0 (noid_map ni_I _)) (pc (hC 1) allp_nil)))
 rintro⟨x40,x41⟩
 refine jx_blkE ?_
 refine jx_seqN ?_
 refine jR ?_
 refine jG 0 2 ⟨[V 0 (.osl 0 0 (List.length x40) 1),V 5 (iv x41),V 36 (.osl 0 0 (List.length x40) 1),V 37 (iv x41)],[(0,.rows 1 (List.map cI x40)),W 1 1 [iv a1]],2⟩ ?_
 refine jr_part (i:=2) (mo:=subl x40 x41 (List.length x40:Int)) rfl rfl rfl rfl (fun _ hc=>aop_subo (l:=x40) (e:=3) (id:=0) (off:=0) (sz:=1) (by kernel_rfl) (by kernel_rfl) (by kernel_rfl) (by kernel_rfl) (by kernel_rfl) hc) (fun _=>rfl) ?_
 intro x50 h50
 refine jr_sto (i:=3) [0,5] [0,1] (st1:=⟨[V 0 (.osl 0 0 (List.length (clrF 0 x41 x40)) 1),V 5 (iv x41)],[(0,.rows 1 (List.map cI (clrF 0 x41 x40))),W 1 1 [iv a1]],2⟩) rfl rfl rfl rfl (aop_clr (l:=x40) (z:=x50) (c:=cI) (zv:=0) (id:=0) (k:=x41) (sz:=1) (e:=3) (by kernel_rfl) (by kernel_rfl) (by kernel_rfl) (by kernel_rfl) (by kernel_rfl) (by kernel_rfl) h50) (by simp only[length_clrF]; kernel_rfl) ?_
 refine jN ?_
 refine jR ?_
 refine jG 0 2 ⟨[V 39 (.osl 0 0 (List.length (clrF 0 x41 x40)) 1),V 40 (iv x41)],[(0,.rows 1 (List.map cI (clrF 0 x41 x40))),W 1 1 [iv a1]],2⟩ ?_
 refine jr_part (i:=2) (mo:=subl (clrF 0 x41 x40) 0 x41) rfl rfl rfl rfl (fun _ hc=>aop_subo (l:=(clrF 0 x41 x40)) (e:=3) (id:=0) (off:=0) (sz:=1) (by kernel_rfl) (by kernel_rfl) (by kernel_rfl) (by kernel_rfl) (by kernel_rfl) hc) (fun _=>rfl) ?_
 intro x51 h51
 refine jr_root (d:=41) (j:=0) (k:=0 + Int.toNat 0) (len:=List.length x51) (sz:=1) (rows:=List.map cI (clrF 0 x41 x40)) (rows':=List.map cI x51) (by kernel_rfl) (by kernel_rfl) (subl_kle h51) (subl_rows0 h51) ?_
 refine jG 3 1 ⟨[V 4 (.osl 2 0 (List.length x51) 1)],[W 1 1 [iv a1],(2,.rows 1 (List.map cI x51))],3⟩ ?_
 refine jN ?_
 refine jc_ret ?_
 exact jx_retM (slices_DeleteFunc_int_int_T a0 a1 x51) (.inr rfl) (wkR [(0,some 0),(1,some 1),(2,some 2)] (fix_of hF (k:=2) rfl) (pc (hC 1) (pc (hL 2 (noid_map ni_I _)) allp_nil))))
abbrev slices_Clone_int_int_r1:List LO:=[lo 2 (.assign (.const (.slice none 0 0))) 31]
abbrev slices_Clone_int_int_r2:List LO:=[lm 3 0 31,lo 4 (.binOp .eql 31 (.tmp 3) (.const (.slice none 0 0)) 31) 4]
abbrev slices_Clone_int_int_r3:List LO:=[lo 2 (.assign (.const (.slice none 0 0))) 31]
abbrev slices_Clone_int_int_r4:List LO:=[lo 5 (.buildSlice 31 0 #[]) 31,lm 6 0 31,lo 7 (.call ⟨.builtin .append,#[.tmp 5,.tmp 6],#[31,31]⟩) 31,lo 2 (.assign (.tmp 7)) 31]
abbrev slices_Clone_int_int_c:LC:=.seq (.reg false slices_Clone_int_int_r1) (.seq (.seq (.reg false slices_Clone_int_int_r2) (.cond (.tmp 4) (.seq (.reg false slices_Clone_int_int_r3) .ret) .skip)) (.seq (.reg false slices_Clone_int_int_r4) .ret))
theorem slices_Clone_int_int_k:FnOk E 44 8 [.tmp 2] slices_Clone_int_int_c:=⟨⟨Go.Proofs.Tryd.f44,by kernel_rfl,by kernel_rfl,by kernel_rfl,by kernel_rfl,by kernel_rfl⟩,rfl,rfl⟩
abbrev slices_Clone_int_int_T (a0:List Int) (r:List Int):CS:=⟨[V 2 (.osl 0 0 (List.length r) 1)],[(0,.rows 1 (List.map cI r))],1⟩
noncomputable def slices_Clone_int_int (a0:List Int):Option (List Int):=Option.bind (app 8 ([]:List Int) a0) (fun x3=>some x3)
theorem slices_Clone_int_int_ok (a0:List Int):CtM E 44 [.fsl 1 (List.map cI a0)] [] 0 (slices_Clone_int_int a0) (fun r:List Int=>.osl 0 0 (List.length r) 1) (fun r:List Int=>[(0,.rows 1 (List.map cI r))]) 1:=ctm_intro (N:=8) (L:=slices_Clone_int_int_c) slices_Clone_int_int_k rfl (Nat.le_of_ble_eq_true rfl) (fun F hF=>by
 unfold slices_Clone_int_int
 refine jS ⟨[V 0 (.fsl 1 (List.map cI a0))],[],0⟩ ?_
 refine jc_seq ?_
 refine jR ?_
 refine jG 0 1 ⟨[V 0 (.fsl 1 (List.map cI a0)),V 3 (.fsl 1 (List.map cI a0))],[],0⟩ ?_
 refine jr_isnil 1 (v:=.fsl 1 (List.map cI a0)) (C:=a0=[]) (mA:=(some [])) (b:=false) mayF (fun h=>by first | (rw[h]; rfl) | simp[h,app]) (fun _=>?_) ?_ (hr:=.inr ⟨_,_,rfl⟩)
 ·refine jN ?_
  refine jc_condK (c:=true) (by kernel_rfl) ?_
  refine jS ⟨[V 2 (nilS)],[],0⟩ ?_
  refine jc_ret ?_
  refine jx_seqR ?_
  exact jx_retM (slices_Clone_int_int_T a0 []) (.inr rfl) (wkR [(0,none)] (fix_of hF (k:=0) rfl) (pc hZ allp_nil))
 refine jN ?_
 refine jc_condK (c:=false) (by kernel_rfl) ?_
 refine jc_skip ?_
 refine jx_seqN ?_
 refine jR ?_
 refine jG 0 2 ⟨[V 5 (.osl 0 0 (List.length ([]:List Int)) 1),V 6 (.fsl 1 (List.map cI a0))],[(0,.rows 1 (List.map cI ([]:List Int)))],1⟩ ?_
 refine jr_two (i:=2) (C:=a0=[]) (st1:=fun x3=>⟨[V 7 (.osl 1 0 (List.length x3) 1)],[(1,.rows 1 (List.map cI x3))],2⟩) rfl rfl rfl rfl (fun q _ hc=>aop_app (u:=.osl 0 0 (List.length ([]:List Int)) 1) (w:=.fsl 1 (List.map cI a0)) (e:=3) (td:=.slice 3) (by kernel_rfl) (by kernel_rfl) (by kernel_rfl) (by kernel_rfl) (.inl ⟨_,rfl⟩) (appendOf_own (c:=cI) (sz:=1) (b:=8) (id:=0) (by kernel_rfl) (by kernel_rfl) rows_fsl q hc)) (fun q _ hc=>aop_app (u:=.osl 0 0 (List.length ([]:List Int)) 1) (w:=.fsl 1 (List.map cI a0)) (e:=3) (td:=.slice 3) (by kernel_rfl) (by kernel_rfl) (by kernel_rfl) (by kernel_rfl) (.inl ⟨_,rfl⟩) (appendOf_same (c:=cI) (sz:=1) (b:=8) (m:=a0) (by kernel_rfl) (.inr (.inr ⟨_,_,_,_,rfl⟩)) rows_fsl q)) (fun _=>rfl) (fun _=>rfl) (fun _=>wkR [(1,some 1)] (fix_of hF (k:=0) rfl) (pc (hL 1 (noid_map ni_I _)) allp_nil)) (fun q _ hc=>by cases app_same q hc; exact wkR [(1,some 0)] (fix_of hF (k:=0) rfl) (pc (hL 0 (noid_map ni_I _)) allp_nil)) ?_
 intro x3 h3
 refine jG 3 1 ⟨[V 2 (.osl 1 0 (List.length x3) 1)],[(1,.rows 1 (List.map cI x3))],2⟩ ?_
 refine jN ?_
 refine jc_ret ?_
 exact jx_retM (slices_Clone_int_int_T a0 x3) (.inr rfl) (wkR [(0,some 1)] (fix_of hF (k:=0) rfl) (pc (hL 1 (noid_map ni_I _)) allp_nil)))
abbrev ranks_Of_r1:List LO:=[lo 2 (.box 3 (.tmp 0)) 0,lo 4 (.assign (.const (.slice none 0 0))) 22]
abbrev ranks_Of_r2:List LO:=[lm 9 1 31,lo 10 (.call ⟨.value (.func 44),#[.tmp 9],#[31]⟩) 31,lo 11 (.makeFunc (Fn.func 45) #[] #[.tmp 2]) 50,lo 12 (.call ⟨.value (.func 43),#[.tmp 10,.tmp 11],#[31,50]⟩) 31,lo 5 (.assign (.tmp 12)) 31]
abbrev ranks_Of_r3:List LO:=[lm 13 5 31,lo 14 (.call ⟨.value (.func 46),#[.tmp 13],#[31]⟩) 0]
abbrev ranks_Of_r4:List LO:=[lo 6 (.assign (.const (.slice none 0 0))) 22]
abbrev ranks_Of_r5:List LO:=[lm 15 5 31,lo 16 (.call ⟨.value (.func 47),#[.tmp 15],#[31]⟩) 31,lo 17 (.call ⟨.builtin .len,#[.tmp 16],#[31]⟩) 3,lo 18 (.move (.const (.int .i64 0))) 3]
abbrev ranks_Of_r6:List LO:=[lo 19 (.binOp .lss 3 (.tmp 18) (.tmp 17) 3) 0]
abbrev ranks_Of_r7:List LO:=[lo 20 (.indexAddr 31 (.tmp 16) (.tmp 18)) 0,lo 21 (.load 3 (.tmp 20)) 3,lo 8 (.assign (.tmp 21)) 3]
abbrev ranks_Of_r8:List LO:=[lm 22 6 22,lm 23 8 3,lm 24 8 3,lo 25 (.binOp .add 3 (.tmp 24) (.const (.int .i64 1)) 3) 3,lo 26 (.build 45 #[(0,.tmp 23),(1,.tmp 25)]) 45,lo 27 (.call ⟨.value (.func 48),#[.tmp 22,.tmp 26],#[22,45]⟩) 22,lo 6 (.assign (.tmp 27)) 22]
abbrev ranks_Of_r9:List LO:=[lo 28 (.binOp .add 3 (.tmp 18) (.const (.int .i64 1)) 3) 3,lm 18 28 3]
abbrev ranks_Of_r10:List LO:=[lm 29 6 22,lo 4 (.assign (.tmp 29)) 22]
abbrev ranks_Of_c:LC:=.seq (.reg false ranks_Of_r1) (.seq (.reg false ranks_Of_r2) (.seq (.reg false ranks_Of_r3) (.seq (.reg false ranks_Of_r4) (.seq (.seq (.reg false ranks_Of_r5) (.block 0 (.loop (.seq (.reg false ranks_Of_r6) (.seq (.cond (.tmp 19) .skip (.exit 0)) (.seq (.block 1 (.seq (.reg false ranks_Of_r7) (.reg false ranks_Of_r8))) (.reg false ranks_Of_r9))))))) (.seq (.reg false ranks_Of_r10) .ret)))))
theorem ranks_Of_k:FnOk E 17 30 [.tmp 4] ranks_Of_c:=⟨⟨Go.Proofs.Tryd.f17,by kernel_rfl,by kernel_rfl,by kernel_rfl,by kernel_rfl,by kernel_rfl⟩,rfl,rfl⟩
noncomputable def ranks_Of_l1 (x4:List Int):(List S_api_Span × Int)→Option (Step (List S_api_Span × Int) (List S_api_Span)):=fun (x7,x8)=>(if (decide (x8 < (List.length x4:Int)))=true then Option.bind (ixl x4 x8) (fun x14=>Option.bind (ranks_add_maa59 x7 x14 (w64 (x14 + 1))) (fun x15=>some (Step.next (x15,(w64 (x8 + 1)))))) else some (Step.done x7))
noncomputable def ranks_Of (a0:Int) (a1:(List Int)):Option ((List S_api_Span)):=Option.bind (slices_Clone_int_int a1) (fun x1=>Option.bind (slices_DeleteFunc_int_int x1 a0) (fun x2=>Option.bind (slices_SortI x2) (fun x3=>Option.bind (slices_CompactI x3) (fun x4=>Option.bind (loopC (ranks_Of_l1 x4) ([],0)) (fun x13=>some x13)))))
theorem ranks_Of_ok (a0:Int) (a1:(List Int)):Ct E 17 [iv a0,.fsl 1 (List.map cI a1)] (ranks_Of a0 a1) (fun r:(List S_api_Span)=>.fsl 2 (List.map c_S_api_Span r)):=ct_intro (N:=30) (L:=ranks_Of_c) ranks_Of_k rfl (Nat.le_of_ble_eq_true rfl) (by kernel_rfl) (by
 unfold ranks_Of
 refine jS ⟨[V 1 (.fsl 1 (List.map cI a1)),V 2 (pt 0 1)],[W 0 1 [iv a0]],1⟩ ?_
 refine jR ?_
 refine jG 0 1 ⟨[V 2 (pt 0 1),V 9 (.fsl 1 (List.map cI a1))],[W 0 1 [iv a0]],1⟩ ?_
 refine jr_callM 1 [] [(1,some 0)] (fun r:List Int=>[W 0 1 [iv a0],(1,.rows 1 (List.map cI r))]) (fun r:List Int=>.osl 1 0 (List.length r) 1) 2 (slices_Clone_int_int_ok a1) allp_nil (fun r=>(pc (.inl ⟨rfl,rfl⟩) (pc (.inr (hL 0 (noid_map ni_I _))) allp_nil))) ?_
 rintro x1 hm7
 refine jG 2 1 ⟨[V 10 (.osl 1 0 (List.length x1) 1),V 11 (.fn 45 [pt 0 1])],[W 0 1 [iv a0],(1,.rows 1 (List.map cI x1))],2⟩ ?_
 refine jr_callM 3 [(0,some 1),(1,some 0)] [(0,some 1),(2,some 2)] (fun r:List Int=>[W 0 1 [iv a0],(2,.rows 1 (List.map cI r))]) (fun r:List Int=>.osl 2 0 (List.length r) 1) 3 (slices_DeleteFunc_int_int_ok x1 a0) (pc (hL 1 (noid_map ni_I _)) (pc (hC 0) allp_nil)) (fun r=>(pc (.inr (hC 1)) (pc (.inr (hL 2 (noid_map ni_I _))) allp_nil))) ?_
 rintro x2 hm6
 refine jG 4 1 ⟨[V 5 (.osl 2 0 (List.length x2) 1)],[(2,.rows 1 (List.map cI x2))],3⟩ ?_
 refine jN ?_
 refine jR ?_
 refine jG 0 1 ⟨[V 5 (.osl 2 0 (List.length x2) 1),V 13 (.osl 2 0 (List.length x2) 1)],[(2,.rows 1 (List.map cI x2))],3⟩ ?_
 refine jr_callM 1 [(0,some 2)] [(2,some 0)] (fun r:List Int=>[(2,.rows 1 (List.map cI r))]) (fun r:List Int=>.tup []) 3 (slices_SortI_ok x2) (pc (hL 2 (noid_map ni_I _)) allp_nil) (fun r=>(pc (.inr (hL 0 (noid_map ni_I _))) allp_nil)) ?_
 rintro x3 hm5
 try rw[← slices_SortI_len hm5]
 refine jN ?_
 refine jS ⟨[V 5 (.osl 2 0 (List.length x3) 1),V 6 (nilS)],[(2,.rows 1 (List.map cI x3))],3⟩ ?_
 refine jc_seq ?_
 refine jR ?_
 refine jG 0 1 ⟨[V 6 (nilS),V 15 (.osl 2 0 (List.length x3) 1)],[(2,.rows 1 (List.map cI x3))],3⟩ ?_
 refine jr_callM 1 [(0,some 2)] [(2,some 0)] (fun r:List Int=>[(2,.rows 1 (List.map cI r))]) (fun r:List Int=>.osl 2 0 (List.length r) 1) 3 (slices_CompactI_ok x3) (pc (hL 2 (noid_map ni_I _)) allp_nil) (fun r=>(pc (.inr (hL 0 (noid_map ni_I _))) allp_nil)) ?_
 rintro x4 hm4
 refine jG 2 2 ⟨[V 6 (nilS),V 16 (.osl 2 0 (List.length x4) 1),V 17 (iv (List.length x4:Int)),V 18 (iv 0)],[(2,.rows 1 (List.map cI x4))],3⟩ ?_
 refine jN ?_
 refine jc_block ?_
 refine jc_bind (fun x13=>⟨[V 6 (.osl 0 0 (List.length x13) 2)],[(0,.rows 2 (List.map c_S_api_Span x13))],1⟩) (fun x13=>(.exit 0)) (jc_loop (fun (x7,x8)=>⟨[V 6 (.osl 0 0 (List.length x7) 2),V 16 (.osl 1 0 (List.length x4) 1),V 17 (iv (List.length x4:Int)),V 18 (iv x8)],[(0,.rows 2 (List.map c_S_api_Span x7)),(1,.rows 1 (List.map cI x4))],2⟩) (wkR [(0,none),(1,some 2)] (fix_nil _) (pc hZ (pc (hL 2 (noid_map ni_I _)) allp_nil))) ?_) ?_
 ·rintro⟨x7,x8⟩
  unfold ranks_Of_l1
  refine jS ⟨[V 6 (.osl 0 0 (List.length x7) 2),V 16 (.osl 1 0 (List.length x4) 1),V 17 (iv (List.length x4:Int)),V 18 (iv x8),V 19 (bv (decide (x8 < (List.length x4:Int))))],[(0,.rows 2 (List.map c_S_api_Span x7)),(1,.rows 1 (List.map cI x4))],2⟩ ?_
  refine jc_seq ?_
  refine jIf ?_ ?_
  ·refine jc_skip ?_
   refine jx_seqN ?_
   refine jc_seq ?_
   refine jc_block ?_
   refine jR ?_
   refine jr_part (i:=0) (mo:=ixl x4 x8) rfl rfl rfl rfl (fun _ hc=>aop_ixo0 (sz:=1) (e:=3) (kk:=.i64) (id:=1) (by kernel_rfl) (by kernel_rfl) (by kernel_rfl) (by kernel_rfl) hc) (fun _=>rfl) ?_
   intro x14 h14
   refine jr_one (i:=1) (v:=iv x14) rfl rfl rfl rfl (aop_ldo (l:=x4) (c:=cI) (id:=1) (k:=(Int.toNat x8)) (sz:=1) (off:=0) (a:=x14) (by kernel_rfl) (by kernel_rfl) (ixl_lt h14).2.2 (by kernel_rfl)) rfl ?_
   refine jG 2 1 ⟨[V 6 (.osl 0 0 (List.length x7) 2),V 8 (iv x14),V 16 (.osl 1 0 (List.length x4) 1),V 17 (iv (List.length x4:Int)),V 18 (iv x8)],[(0,.rows 2 (List.map c_S_api_Span x7)),(1,.rows 1 (List.map cI x4))],2⟩ ?_
   refine jN ?_
   refine jc_reg ?_
   refine jG 0 5 ⟨[V 16 (.osl 1 0 (List.length x4) 1),V 17 (iv (List.length x4:Int)),V 18 (iv x8),V 22 (.osl 0 0 (List.length x7) 2),V 26 (.agg [iv x14,iv (w64 (x14 + 1))])],[(0,.rows 2 (List.map c_S_api_Span x7)),(1,.rows 1 (List.map cI x4))],2⟩ ?_
   refine jr_callM 5 [(0,some 0)] [(2,some 1)] (fun r:List S_api_Span=>[(1,.rows 1 (List.map cI x4)),(2,.rows 2 (List.map c_S_api_Span r))]) (fun r:List S_api_Span=>.osl 2 0 (List.length r) 2) 3 (ranks_add_maa59_ok x7 x14 (w64 (x14 + 1))) (pc (hL 0 (noid_map ni_S_api_Span _)) allp_nil) (fun r=>(pc (.inl ⟨rfl,rfl⟩) (pc (.inr (hL 1 (noid_map ni_S_api_Span _))) allp_nil))) ?_
   rintro x15 hm3
   refine jG 6 1 ⟨[V 6 (.osl 2 0 (List.length x15) 2),V 16 (.osl 1 0 (List.length x4) 1),V 17 (iv (List.length x4:Int)),V 18 (iv x8)],[(1,.rows 1 (List.map cI x4)),(2,.rows 2 (List.map c_S_api_Span x15))],3⟩ ?_
   refine jr_nil rfl ?_
   refine jx_blkN ?_
   refine jx_seqN ?_
   refine jT ⟨[V 6 (.osl 2 0 (List.length x15) 2),V 16 (.osl 1 0 (List.length x4) 1),V 17 (iv (List.length x4:Int)),V 18 (iv (w64 (x8 + 1)))],[(1,.rows 1 (List.map cI x4)),(2,.rows 2 (List.map c_S_api_Span x15))],3⟩ ?_
   exact jx_next (wkR [(0,some 2),(1,some 1)] (fix_nil _) (pc (hL 2 (noid_map ni_S_api_Span _)) (pc (hL 1 (noid_map ni_I _)) allp_nil)))
  refine jc_exit ?_
  refine jx_seqE ?_
  exact jx_done rfl nofun (wkR [(0,some 0)] (fix_nil _) (pc (hL 0 (noid_map ni_S_api_Span _)) allp_nil))
 intro x13
 refine jx_blkE ?_
 refine jx_seqN ?_
 refine jS ⟨[V 4 (.osl 0 0 (List.length x13) 2)],[(0,.rows 2 (List.map c_S_api_Span x13))],1⟩ ?_
 refine jc_ret ?_
 exact jx_retF (.inr rfl) (v:=.osl 0 0 (List.length x13) 2) (by kernel_rfl) (snapc_own fz_S_api_Span (by kernel_rfl)) (fle_refl _))
abbrev ref07_Where_mf501_r1:List LO:=[lo 2 (.assign (.const (.slice none 0 0))) 22]
abbrev ref07_Where_mf501_r2:List LO:=[lo 3 (.assign (.const (.slice none 0 0))) 22]
abbrev ref07_Where_mf501_r3:List LO:=[lo 4 (.assign (.const (.int .i64 0))) 3]
abbrev ref07_Where_mf501_r4:List LO:=[lm 6 4 3,lm 7 0 32,lo 8 (.call ⟨.builtin .len,#[.tmp 7],#[32]⟩) 3,lo 9 (.binOp .lss 3 (.tmp 6) (.tmp 8) 3) 4,lm 10 9 4,lmg 11 4 3 10 true,lg 12 (.binOp .lss 3 (.tmp 11) (.const (.int .i64 65536)) 3) 4 10 true,lo 13 (.pick (.tmp 10) (.tmp 12) (.const (.bool false))) 4]
abbrev ref07_Where_mf501_r5:List LO:=[lm 16 0 32,lm 17 4 3,lo 18 (.indexAddr 32 (.tmp 16) (.tmp 17)) 0,lo 19 (.load 4 (.tmp 18)) 4,lo 20 (.unOp .not 4 (.tmp 19)) 4]
abbrev ref07_Where_mf501_r6:List LO:=[lm 21 3 22,lo 22 (.call ⟨.builtin .len,#[.tmp 21],#[22]⟩) 3,lo 23 (.binOp .sub 3 (.tmp 22) (.const (.int .i64 1)) 3) 3,lo 5 (.assign (.tmp 23)) 3]
abbrev ref07_Where_mf501_r7:List LO:=[lm 24 5 3,lo 25 (.binOp .geq 3 (.tmp 24) (.const (.int .i64 0)) 3) 4,lm 26 25 4,lmg 27 3 22 26 true,lmg 28 5 3 26 true,lg 29 (.indexAddr 22 (.tmp 27) (.tmp 28)) 0 26 true,lg 30 (.fieldAddr 45 (.tmp 29) 1) 0 26 true,lg 31 (.load 3 (.tmp 30)) 3 26 true,lmg 32 4 3 26 true,lg 33 (.binOp .eql 3 (.tmp 31) (.tmp 32) 3) 4 26 true,lo 34 (.pick (.tmp 26) (.tmp 33) (.const (.bool false))) 4]
abbrev ref07_Where_mf501_r8:List LO:=[lm 35 3 22,lm 36 5 3,lm 37 4 3,lo 38 (.binOp .add 3 (.tmp 37) (.const (.int .i64 1)) 3) 3,lo 39 (.indexAddr 22 (.tmp 35) (.tmp 36)) 0,lo 40 (.fieldAddr 45 (.tmp 39) 1) 0,ln (.store 3 (.tmp 40) (.tmp 38)) 0]
abbrev ref07_Where_mf501_r9:List LO:=[lm 41 3 22,lm 42 4 3,lm 43 4 3,lo 44 (.binOp .add 3 (.tmp 43) (.const (.int .i64 1)) 3) 3,lo 45 (.build 45 #[(0,.tmp 42),(1,.tmp 44)]) 45,lo 46 (.buildSlice 22 1 #[(0,.tmp 45)]) 22,lo 47 (.call ⟨.builtin .append,#[.tmp 41,.tmp 46],#[22,22]⟩) 22,lo 3 (.assign (.tmp 47)) 22]
abbrev ref07_Where_mf501_r10:List LO:=[lm 14 4 3,lo 15 (.binOp .add 3 (.tmp 14) (.const (.int .i64 1)) 3) 3,lo 4 (.assign (.tmp 15)) 3]
abbrev ref07_Where_mf501_r11:List LO:=[lm 48 3 22,lo 2 (.assign (.tmp 48)) 22]
abbrev ref07_Where_mf501_c:LC:=.seq (.reg false ref07_Where_mf501_r1) (.seq (.reg false ref07_Where_mf501_r2) (.seq (.seq (.reg false ref07_Where_mf501_r3) (.block 0 (.loop (.seq (.seq (.reg false ref07_Where_mf501_r4) (.cond (.tmp 13) .skip (.exit 0))) (.seq (.block 1 (.seq (.seq (.reg false ref07_Where_mf501_r5) (.cond (.tmp 20) (.exit 1) .skip)) (.seq (.reg false ref07_Where_mf501_r6) (.seq (.reg false ref07_Where_mf501_r7) (.cond (.tmp 34) (.reg false ref07_Where_mf501_r8) (.reg false ref07_Where_mf501_r9)))))) (.reg false ref07_Where_mf501_r10)))))) (.seq (.reg false ref07_Where_mf501_r11) .ret)))
theorem ref07_Where_mf501_k:FnOk E 20 49 [.tmp 2] ref07_Where_mf501_c:=⟨⟨Go.Proofs.Tryd.f20,by kernel_rfl,by kernel_rfl,by kernel_rfl,by kernel_rfl,by kernel_rfl⟩,rfl,rfl⟩
noncomputable def ref07_Where_mf501_l1 (a0:List Bool):(List S_api_Span × Int)→Option (Step (List S_api_Span × Int) (List S_api_Span)):=fun (x19,x20)=>(if ((decide (x20 < (List.length a0:Int))) && (decide (x20 < 65536)))=true then Option.bind (Option.bind (ixl a0 x20) (fun x36=>(if (!x36)=true then some x19 else Option.bind (if (decide ((w64 ((List.length x19:Int) - 1))≥0))=true then Option.bind (ixl x19 (w64 ((List.length x19:Int) - 1))) (fun x39=>some (x39.Hi == x20)) else some false:Option (Bool)) (fun x38=>(if x38=true then Option.bind (ixl x19 (w64 ((List.length x19:Int) - 1))) (fun x40=>some (List.set x19 (Int.toNat (w64 ((List.length x19:Int) - 1))) (S_api_Span.mk x40.Lo (w64 (x20 + 1))))) else Option.bind (app 16 x19 [(S_api_Span.mk x20 (w64 (x20 + 1)))]) (fun x41=>some x41))))):Option (List S_api_Span)) (fun x35=>some (Step.next (x35,(w64 (x20 + 1))))) else some (Step.done x19))
abbrev ref07_Where_mf501_T (a0:List Bool) (r:List S_api_Span):CS:=⟨[V 2 (.osl 0 0 (List.length r) 2)],[(0,.rows 2 (List.map c_S_api_Span r))],1⟩
noncomputable def ref07_Where_mf501 (a0:List Bool):Option (List S_api_Span):=Option.bind (loopC (ref07_Where_mf501_l1 a0) ([],0)) (fun x29=>some x29)
theorem ref07_Where_mf501_ok (a0:List Bool):CtM E 20 [.fsl 1 (List.map cT a0)] [] 0 (ref07_Where_mf501 a0) (fun r:List S_api_Span=>.osl 0 0 (List.length r) 2) (fun r:List S_api_Span=>[(0,.rows 2 (List.map c_S_api_Span r))]) 1:=ctm_intro (N:=49) (L:=ref07_Where_mf501_c) ref07_Where_mf501_k rfl (Nat.le_of_ble_eq_true rfl) (fun F hF=>by
 unfold ref07_Where_mf501
 refine jS ⟨[V 0 (.fsl 1 (List.map cT a0))],[],0⟩ ?_
 refine jS ⟨[V 0 (.fsl 1 (List.map cT a0)),V 3 (nilS)],[],0⟩ ?_
 refine jc_seq ?_
 refine jS ⟨[V 0 (.fsl 1 (List.map cT a0)),V 3 (nilS),V 4 (iv 0)],[],0⟩ ?_
 refine jc_block ?_
 refine jc_bind (fun x29=>⟨[V 3 (.osl 0 0 (List.length x29) 2)],[(0,.rows 2 (List.map c_S_api_Span x29))],1⟩) (fun x29=>(.exit 0)) (jc_loop (fun (x19,x20)=>⟨[V 0 (.fsl 1 (List.map cT a0)),V 3 (.osl 0 0 (List.length x19) 2),V 4 (iv x20)],[(0,.rows 2 (List.map c_S_api_Span x19))],1⟩) (wkR [(0,none)] (fix_of hF (k:=0) rfl) (pc hZ allp_nil)) ?_) ?_
 ·rintro⟨x19,x20⟩
  unfold ref07_Where_mf501_l1
  refine jc_seq ?_
  refine jR ?_
  refine jG 0 8 ⟨[V 0 (.fsl 1 (List.map cT a0)),V 3 (.osl 0 0 (List.length x19) 2),V 4 (iv x20),V 13 (bv ((decide (x20 < (List.length (List.map cT a0):Int))) && (decide (x20 < 65536))))],[(0,.rows 2 (List.map c_S_api_Span x19))],1⟩ ?_
  simp only[List.length_map]
  refine jN ?_
  refine jIf ?_ ?_
  ·refine jc_skip ?_
   refine jx_seqN ?_
   refine jc_seq ?_
   refine jc_bind (fun x35=>⟨[V 0 (.fsl 1 (List.map cT a0)),V 3 (.osl 0 0 (List.length x35) 2),V 4 (iv x20)],[(0,.rows 2 (List.map c_S_api_Span x35))],1⟩) (fun x35=>.normal) ?_ ?_
   ·refine jc_block ?_
    refine jc_seq ?_
    refine jR ?_
    refine jG 0 2 ⟨[V 0 (.fsl 1 (List.map cT a0)),V 3 (.osl 0 0 (List.length x19) 2),V 4 (iv x20),V 16 (.fsl 1 (List.map cT a0)),V 17 (iv x20)],[(0,.rows 2 (List.map c_S_api_Span x19))],1⟩ ?_
    refine jr_part (i:=2) (mo:=ixl a0 x20) rfl rfl rfl rfl (fun _ hc=>aop_ixf (c:=cT) (sz:=1) (e:=4) (kk:=.i64) (by kernel_rfl) (by kernel_rfl) (by kernel_rfl) (by kernel_rfl) hc) (fun _=>rfl) ?_
    intro x36 h36
    refine jG 3 2 ⟨[V 0 (.fsl 1 (List.map cT a0)),V 3 (.osl 0 0 (List.length x19) 2),V 4 (iv x20),V 20 (bv (!x36))],[(0,.rows 2 (List.map c_S_api_Span x19))],1⟩ ?_
    refine jN ?_
    refine jIf ?_ ?_
    ·refine jc_exit ?_
     refine jx_seqE ?_
     refine jx_blkE ?_
     exact jx_mid rfl (wkR [(0,some 0)] (fix_of hF (k:=0) rfl) (pc (hL 0 (noid_map ni_S_api_Span _)) allp_nil))
    refine jc_skip ?_
    refine jx_seqN ?_
    refine jS ⟨[V 0 (.fsl 1 (List.map cT a0)),V 3 (.osl 0 0 (List.length x19) 2),V 4 (iv x20),V 5 (iv (w64 ((List.length x19:Int) - 1)))],[(0,.rows 2 (List.map c_S_api_Span x19))],1⟩ ?_
    refine jR ?_
    refine jG 0 3 ⟨[V 0 (.fsl 1 (List.map cT a0)),V 3 (.osl 0 0 (List.length x19) 2),V 4 (iv x20),V 5 (iv (w64 ((List.length x19:Int) - 1))),V 26 (bv (decide ((w64 ((List.length x19:Int) - 1))≥0)))],[(0,.rows 2 (List.map c_S_api_Span x19))],1⟩ ?_
    refine jr_bind 3 8 (fun x38=>⟨[V 0 (.fsl 1 (List.map cT a0)),V 3 (.osl 0 0 (List.length x19) 2),V 4 (iv x20),V 5 (iv (w64 ((List.length x19:Int) - 1))),V 34 (bv x38)],[(0,.rows 2 (List.map c_S_api_Span x19))],1⟩) ?_ ?_
    ·refine jSp 26 ?_ ?_
     ·refine jG 0 2 ⟨[V 0 (.fsl 1 (List.map cT a0)),V 3 (.osl 0 0 (List.length x19) 2),V 4 (iv x20),V 5 (iv (w64 ((List.length x19:Int) - 1))),(26,.lit true),V 27 (.osl 0 0 (List.length x19) 2),V 28 (iv (w64 ((List.length x19:Int) - 1)))],[(0,.rows 2 (List.map c_S_api_Span x19))],1⟩ ?_
      refine jr_part (i:=2) (mo:=ixl x19 (w64 ((List.length x19:Int) - 1))) rfl rfl rfl rfl (fun _ hc=>aop_ixo0 (sz:=2) (e:=45) (kk:=.i64) (id:=0) (by kernel_rfl) (by kernel_rfl) (by kernel_rfl) (by kernel_rfl) hc) (fun _=>rfl) ?_
      intro x39 h39
      refine jG 3 1 ⟨[V 0 (.fsl 1 (List.map cT a0)),V 3 (.osl 0 0 (List.length x19) 2),V 4 (iv x20),V 5 (iv (w64 ((List.length x19:Int) - 1))),(26,.lit true),V 30 (.ptr 0 (Int.toNat (w64 ((List.length x19:Int) - 1))) 2 1)],[(0,.rows 2 (List.map c_S_api_Span x19))],1⟩ ?_
      refine jr_one (i:=4) (v:=iv x39.Hi) rfl rfl rfl rfl (aop_ldo (l:=x19) (c:=c_S_api_Span) (id:=0) (k:=(Int.toNat (w64 ((List.length x19:Int) - 1)))) (sz:=2) (off:=1) (a:=x39) (by kernel_rfl) (by kernel_rfl) (ixl_lt h39).2.2 (by kernel_rfl)) rfl ?_
      refine jG 5 3 ⟨[V 0 (.fsl 1 (List.map cT a0)),V 3 (.osl 0 0 (List.length x19) 2),V 4 (iv x20),V 5 (iv (w64 ((List.length x19:Int) - 1))),V 34 (bv (x39.Hi == x20))],[(0,.rows 2 (List.map c_S_api_Span x19))],1⟩ ?_
      refine jr_nil rfl ?_
      exact jx_mid rfl (wkR [(0,some 0)] (fix_of hF (k:=0) rfl) (pc (hL 0 (noid_map ni_S_api_Span _)) allp_nil))
     refine jG 0 8 ⟨[V 0 (.fsl 1 (List.map cT a0)),V 3 (.osl 0 0 (List.length x19) 2),V 4 (iv x20),V 5 (iv (w64 ((List.length x19:Int) - 1))),V 34 (bv false)],[(0,.rows 2 (List.map c_S_api_Span x19))],1⟩ ?_
     refine jr_nil rfl ?_
     exact jx_mid rfl (wkR [(0,some 0)] (fix_of hF (k:=0) rfl) (pc (hL 0 (noid_map ni_S_api_Span _)) allp_nil))
    intro x38
    refine jN ?_
    refine jIf ?_ ?_
    ·refine jc_reg ?_
     refine jG 0 4 ⟨[V 0 (.fsl 1 (List.map cT a0)),V 3 (.osl 0 0 (List.length x19) 2),V 4 (iv x20),V 35 (.osl 0 0 (List.length x19) 2),V 36 (iv (w64 ((List.length x19:Int) - 1))),V 38 (iv (w64 (x20 + 1)))],[(0,.rows 2 (List.map c_S_api_Span x19))],1⟩ ?_
     refine jr_part (i:=4) (mo:=ixl x19 (w64 ((List.length x19:Int) - 1))) rfl rfl rfl rfl (fun _ hc=>aop_ixo0 (sz:=2) (e:=45) (kk:=.i64) (id:=0) (by kernel_rfl) (by kernel_rfl) (by kernel_rfl) (by kernel_rfl) hc) (fun _=>rfl) ?_
     intro x40 h40
     refine jG 5 1 ⟨[V 0 (.fsl 1 (List.map cT a0)),V 3 (.osl 0 0 (List.length x19) 2),V 4 (iv x20),V 38 (iv (w64 (x20 + 1))),V 40 (.ptr 0 (Int.toNat (w64 ((List.length x19:Int) - 1))) 2 1)],[(0,.rows 2 (List.map c_S_api_Span x19))],1⟩ ?_
     refine jr_sto (i:=6) [0,3,4] [0] (st1:=⟨[V 0 (.fsl 1 (List.map cT a0)),V 3 (.osl 0 0 (List.length (List.set x19 (Int.toNat (w64 ((List.length x19:Int) - 1))) (S_api_Span.mk x40.Lo (w64 (x20 + 1))))) 2),V 4 (iv x20)],[(0,.rows 2 (List.map c_S_api_Span (List.set x19 (Int.toNat (w64 ((List.length x19:Int) - 1))) (S_api_Span.mk x40.Lo (w64 (x20 + 1))))))],1⟩) rfl rfl rfl rfl (aop_sto (l:=x19) (c:=c_S_api_Span) (id:=0) (k:=(Int.toNat (w64 ((List.length x19:Int) - 1)))) (sz:=2) (off:=1) (a:=x40) (a':=(S_api_Span.mk x40.Lo (w64 (x20 + 1)))) (w:=iv (w64 (x20 + 1))) (cs:=[iv (w64 (x20 + 1))]) (by kernel_rfl) (by kernel_rfl) (by kernel_rfl) (by kernel_rfl) (by kernel_rfl) (ixl_lt h40).2.2 (Nat.le_of_ble_eq_true rfl) (by kernel_rfl)) (by simp only[List.length_set]; kernel_rfl) ?_
     refine jr_nil rfl ?_
     refine jx_blkN ?_
     exact jx_mid rfl (wkR [(0,some 0)] (fix_of hF (k:=0) rfl) (pc (hL 0 (noid_map ni_S_api_Span _)) allp_nil))
    refine jc_reg ?_
    refine jG 0 6 ⟨[V 0 (.fsl 1 (List.map cT a0)),V 4 (iv x20),V 41 (.osl 0 0 (List.length x19) 2),V 46 (.osl 1 0 (List.length [(S_api_Span.mk x20 (w64 (x20 + 1)))]) 2)],[(0,.rows 2 (List.map c_S_api_Span x19)),(1,.rows 2 (List.map c_S_api_Span [(S_api_Span.mk x20 (w64 (x20 + 1)))]))],2⟩ ?_
    refine jr_part (i:=6) (mo:=app 16 x19 [(S_api_Span.mk x20 (w64 (x20 + 1)))]) rfl rfl rfl rfl (fun _ hc=>aop_app (u:=.osl 0 0 (List.length x19) 2) (w:=.osl 1 0 (List.length [(S_api_Span.mk x20 (w64 (x20 + 1)))]) 2) (e:=45) (td:=.slice 45) (by kernel_rfl) (by kernel_rfl) (by kernel_rfl) (by kernel_rfl) (.inl ⟨_,rfl⟩) (appendOf_own (c:=c_S_api_Span) (sz:=2) (b:=16) (id:=0) (by kernel_rfl) (by kernel_rfl) (rows_own (by kernel_rfl)) (List.cons_ne_nil _ _) hc)) (fun _=>rfl) ?_
    intro x41 h41
    refine jG 7 1 ⟨[V 0 (.fsl 1 (List.map cT a0)),V 3 (.osl 2 0 (List.length x41) 2),V 4 (iv x20)],[(2,.rows 2 (List.map c_S_api_Span x41))],3⟩ ?_
    refine jr_nil rfl ?_
    refine jx_blkN ?_
    exact jx_mid rfl (wkR [(0,some 2)] (fix_of hF (k:=0) rfl) (pc (hL 2 (noid_map ni_S_api_Span _)) allp_nil))
   intro x35
   refine jx_seqN ?_
   refine jT ⟨[V 0 (.fsl 1 (List.map cT a0)),V 3 (.osl 0 0 (List.length x35) 2),V 4 (iv (w64 (x20 + 1)))],[(0,.rows 2 (List.map c_S_api_Span x35))],1⟩ ?_
   exact jx_next (wkR [(0,some 0)] (fix_of hF (k:=0) rfl) (pc (hL 0 (noid_map ni_S_api_Span _)) allp_nil))
  refine jc_exit ?_
  refine jx_seqE ?_
  exact jx_done rfl nofun (wkR [(0,some 0)] (fix_of hF (k:=0) rfl) (pc (hL 0 (noid_map ni_S_api_Span _)) allp_nil))
 intro x29
 refine jx_blkE ?_
 refine jx_seqN ?_
 refine jS ⟨[V 2 (.osl 0 0 (List.length x29) 2)],[(0,.rows 2 (List.map c_S_api_Span x29))],1⟩ ?_
 refine jc_ret ?_
 exact jx_retM (ref07_Where_mf501_T a0 x29) (.inr rfl) (wkR [(0,some 0)] (fix_of hF (k:=0) rfl) (pc (hL 0 (noid_map ni_S_api_Span _)) allp_nil)))
abbrev law07_RanksMakes_r1:List LO:=[lo 8 (.assign (.const (.bool false))) 4]
abbrev law07_RanksMakes_r2:List LO:=[lm 9 0 3,lm 10 1 22,lo 11 (.call ⟨.value (.func 16),#[.tmp 9,.tmp 10],#[3,22]⟩) 4,lm 12 0 3,lm 13 1 22,lo 14 (.call ⟨.value (.func 7),#[.tmp 12,.tmp 13],#[3,22]⟩) 4,lo 15 (.binOp .eql 4 (.tmp 11) (.tmp 14) 4) 4,lm 16 15 4,lmg 17 0 3 16 true,lmg 18 2 31 16 true,lg 19 (.call ⟨.value (.func 17),#[.tmp 17,.tmp 18],#[3,31]⟩) 22 16 true,lmg 20 0 3 16 true,lmg 21 2 31 16 true,lg 22 (.call ⟨.value (.func 18),#[.tmp 20,.tmp 21],#[3,31]⟩) 22 16 true,lg 23 (.call ⟨.value (.func 13),#[.tmp 19,.tmp 22],#[22,22]⟩) 4 16 true,lo 24 (.pick (.tmp 16) (.tmp 23) (.const (.bool false))) 4,lm 25 24 4,lmg 26 3 32 25 true,lg 27 (.call ⟨.value (.func 19),#[.tmp 26],#[32]⟩) 22 25 true,lmg 28 3 32 25 true,lg 29 (.call ⟨.value (.func 20),#[.tmp 28],#[32]⟩) 22 25 true,lg 30 (.call ⟨.value (.func 13),#[.tmp 27,.tmp 29],#[22,22]⟩) 4 25 true,lo 31 (.pick (.tmp 25) (.tmp 30) (.const (.bool false))) 4,lm 32 31 4,lmg 33 0 3 32 true,lg 34 (.call ⟨.value (.func 14),#[.tmp 33],#[3]⟩) 22 32 true,lmg 35 0 3 32 true,lg 36 (.call ⟨.value (.func 21),#[.tmp 35],#[3]⟩) 22 32 true,lg 37 (.call ⟨.value (.func 13),#[.tmp 34,.tmp 36],#[22,22]⟩) 4 32 true,lo 38 (.pick (.tmp 32) (.tmp 37) (.const (.bool false))) 4,lm 39 38 4,lg 40 (.call ⟨.value (.func 8),#[],#[]⟩) 4 39 true,lo 41 (.pick (.tmp 39) (.tmp 40) (.const (.bool false))) 4,lo 8 (.assign (.tmp 41)) 4]
abbrev law07_RanksMakes_c:LC:=.seq (.reg false law07_RanksMakes_r1) (.seq (.reg false law07_RanksMakes_r2) .ret)
theorem law07_RanksMakes_k:FnOk E 4 42 [.tmp 8] law07_RanksMakes_c:=⟨⟨Go.Proofs.Tryd.f4,by kernel_rfl,by kernel_rfl,by kernel_rfl,by kernel_rfl,by kernel_rfl⟩,rfl,rfl⟩
noncomputable def law07_RanksMakes (a0:Int) (a1:(List S_api_Span)) (a2:(List Int)) (a3:(List Bool)):Option (Bool):=Option.bind (ranks_Fit a0 a1) (fun x1=>Option.bind (ref07_Fit a0 a1) (fun x2=>Option.bind (if (x1 == x2)=true then Option.bind (ranks_Of a0 a2) (fun x7=>Option.bind (ref07_Of a0 a2) (fun x8=>Option.bind (ref07_Same x7 x8) (fun x9=>some x9))) else some false:Option (Bool)) (fun x6=>Option.bind (if x6=true then Option.bind (ranks_Where a3) (fun x14=>Option.bind (ref07_Where_mf501 a3) (fun x15=>Option.bind (ref07_Same x14 x15) (fun x16=>some x16))) else some false:Option (Bool)) (fun x13=>Option.bind (if x13=true then Option.bind (ranks_All a0) (fun x21=>Option.bind (ref07_All a0) (fun x22=>Option.bind (ref07_Same x21 x22) (fun x23=>some x23))) else some false:Option (Bool)) (fun x20=>Option.bind (if x20=true then Option.bind (law07_awake) (fun x26=>some x26) else some false:Option (Bool)) (fun x25=>some x25))))))
theorem law07_RanksMakes_ok (a0:Int) (a1:(List S_api_Span)) (a2:(List Int)) (a3:(List Bool)):Ct E 4 [iv a0,.fsl 2 (List.map c_S_api_Span a1),.fsl 1 (List.map cI a2),.fsl 1 (List.map cT a3)] (law07_RanksMakes a0 a1 a2 a3) (fun r:Bool=>bv r):=ct_intro (N:=42) (L:=law07_RanksMakes_c) law07_RanksMakes_k rfl (Nat.le_of_ble_eq_true rfl) (by kernel_rfl) (by
 unfold law07_RanksMakes
 refine jS ⟨[V 0 (iv a0),V 1 (.fsl 2 (List.map c_S_api_Span a1)),V 2 (.fsl 1 (List.map cI a2)),V 3 (.fsl 1 (List.map cT a3))],[],0⟩ ?_
 refine jR ?_
 refine jG 0 2 ⟨[V 0 (iv a0),V 1 (.fsl 2 (List.map c_S_api_Span a1)),V 2 (.fsl 1 (List.map cI a2)),V 3 (.fsl 1 (List.map cT a3)),V 9 (iv a0),V 10 (.fsl 2 (List.map c_S_api_Span a1))],[],0⟩ ?_
 refine jK 2 (ranks_Fit_ok a0 a1) ?_
 intro x1 h1
 refine jG 3 2 ⟨[V 0 (iv a0),V 2 (.fsl 1 (List.map cI a2)),V 3 (.fsl 1 (List.map cT a3)),V 11 (bv x1),V 12 (iv a0),V 13 (.fsl 2 (List.map c_S_api_Span a1))],[],0⟩ ?_
 refine jK 5 (ref07_Fit_ok a0 a1) ?_
 intro x2 h2
 refine jG 6 2 ⟨[V 0 (iv a0),V 2 (.fsl 1 (List.map cI a2)),V 3 (.fsl 1 (List.map cT a3)),V 16 (bv (x1 == x2))],[],0⟩ ?_
 refine jr_bind 8 8 (fun x6=>⟨[V 0 (iv a0),V 3 (.fsl 1 (List.map cT a3)),V 24 (bv x6)],[],0⟩) ?_ ?_
 ·refine jSp 16 ?_ ?_
  ·refine jG 0 2 ⟨[V 0 (iv a0),V 2 (.fsl 1 (List.map cI a2)),V 3 (.fsl 1 (List.map cT a3)),(16,.lit true),V 17 (iv a0),V 18 (.fsl 1 (List.map cI a2))],[],0⟩ ?_
   refine jK 2 (ranks_Of_ok a0 a2) ?_
   intro x7 h7
   refine jG 3 2 ⟨[V 0 (iv a0),V 3 (.fsl 1 (List.map cT a3)),(16,.lit true),V 19 (.fsl 2 (List.map c_S_api_Span x7)),V 20 (iv a0),V 21 (.fsl 1 (List.map cI a2))],[],0⟩ ?_
   refine jK 5 (ref07_Of_ok a0 a2) ?_
   intro x8 h8
   refine jK 6 (ref07_Same_ok x7 x8) ?_
   intro x9 h9
   refine jG 7 1 ⟨[V 0 (iv a0),V 3 (.fsl 1 (List.map cT a3)),V 24 (bv x9)],[],0⟩ ?_
   refine jr_nil rfl ?_
   exact jx_mid rfl (wkR [] (fix_nil _) allp_nil)
  refine jG 0 8 ⟨[V 0 (iv a0),V 3 (.fsl 1 (List.map cT a3)),V 24 (bv false)],[],0⟩ ?_
  refine jr_nil rfl ?_
  exact jx_mid rfl (wkR [] (fix_nil _) allp_nil)
 intro x6
 refine jG 16 1 ⟨[V 0 (iv a0),V 3 (.fsl 1 (List.map cT a3)),V 25 (bv x6)],[],0⟩ ?_
 refine jr_bind 17 6 (fun x13=>⟨[V 0 (iv a0),V 31 (bv x13)],[],0⟩) ?_ ?_
 ·refine jSp 25 ?_ ?_
  ·refine jG 0 1 ⟨[V 0 (iv a0),V 3 (.fsl 1 (List.map cT a3)),(25,.lit true),V 26 (.fsl 1 (List.map cT a3))],[],0⟩ ?_
   refine jK 1 (ranks_Where_ok a3) ?_
   intro x14 h14
   refine jG 2 1 ⟨[V 0 (iv a0),(25,.lit true),V 27 (.fsl 2 (List.map c_S_api_Span x14)),V 28 (.fsl 1 (List.map cT a3))],[],0⟩ ?_
   refine jr_callM 3 [] [(0,some 0)] (fun r:List S_api_Span=>[(0,.rows 2 (List.map c_S_api_Span r))]) (fun r:List S_api_Span=>.osl 0 0 (List.length r) 2) 1 (ref07_Where_mf501_ok a3) allp_nil (fun r=>(pc (.inr (hL 0 (noid_map ni_S_api_Span _))) allp_nil)) ?_
   rintro x15 hm2
   refine jr_callF (i:=4) rfl rfl rfl rfl (vs:=[.fsl 2 (List.map c_S_api_Span x14),.osl 0 0 (List.length x15) 2]) (by kernel_rfl) (snapL_cons rfl (snapL_cons (snapc_own fz_S_api_Span (by kernel_rfl)) (snapL_nil _))) (all2_cons (fle_refl _) (all2_cons (fle_refl _) all2_nil)) (ref07_Same_ok x14 x15) (fun _=>rfl) (fun _=>rfl) ?_
   intro x16 h16
   refine jG 5 1 ⟨[V 0 (iv a0),V 31 (bv x16)],[],1⟩ ?_
   refine jr_nil rfl ?_
   exact jx_mid rfl (wkR [] (fix_nil _) allp_nil)
  refine jG 0 6 ⟨[V 0 (iv a0),V 31 (bv false)],[],0⟩ ?_
  refine jr_nil rfl ?_
  exact jx_mid rfl (wkR [] (fix_nil _) allp_nil)
 intro x13
 refine jG 23 1 ⟨[V 0 (iv a0),V 32 (bv x13)],[],0⟩ ?_
 refine jr_bind 24 6 (fun x20=>⟨[V 38 (bv x20)],[],0⟩) ?_ ?_
 ·refine jSp 32 ?_ ?_
  ·refine jG 0 1 ⟨[V 0 (iv a0),(32,.lit true),V 33 (iv a0)],[],0⟩ ?_
   refine jK 1 (ranks_All_ok a0) ?_
   intro x21 h21
   refine jG 2 1 ⟨[(32,.lit true),V 34 (.fsl 2 (List.map c_S_api_Span x21)),V 35 (iv a0)],[],0⟩ ?_
   refine jK 3 (ref07_All_ok a0) ?_
   intro x22 h22
   refine jK 4 (ref07_Same_ok x21 x22) ?_
   intro x23 h23
   refine jG 5 1 ⟨[V 38 (bv x23)],[],0⟩ ?_
   refine jr_nil rfl ?_
   exact jx_mid rfl (wkR [] (fix_nil _) allp_nil)
  refine jG 0 6 ⟨[V 38 (bv false)],[],0⟩ ?_
  refine jr_nil rfl ?_
  exact jx_mid rfl (wkR [] (fix_nil _) allp_nil)
 intro x20
 refine jG 30 1 ⟨[V 39 (bv x20)],[],0⟩ ?_
 refine jr_bind 31 2 (fun x25=>⟨[V 41 (bv x25)],[],0⟩) ?_ ?_
 ·refine jSp 39 ?_ ?_
  ·refine jK 0 (law07_awake_ok) ?_
   intro x26 h26
   refine jG 1 1 ⟨[V 41 (bv x26)],[],0⟩ ?_
   refine jr_nil rfl ?_
   exact jx_mid rfl (wkR [] (fix_nil _) allp_nil)
  refine jG 0 2 ⟨[V 41 (bv false)],[],0⟩ ?_
  refine jr_nil rfl ?_
  exact jx_mid rfl (wkR [] (fix_nil _) allp_nil)
 intro x25
 refine jG 33 1 ⟨[V 8 (bv x25)],[],0⟩ ?_
 refine jN ?_
 refine jc_ret ?_
 exact jx_retF (.inr rfl) (v:=bv x25) (by kernel_rfl) rfl (fle_refl _))
end Go.Vm

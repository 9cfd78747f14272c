/- The law PropTells, a part of its proof: what the functions that it reaches compute. -/
import Derived.Test.YtegkglnbjbaibaaG0PropTells
import Derived.Test.YtegkglnbjbaibaaW26PropTells
set_option linter.unusedVariables false
set_option linter.unusedSimpArgs false
set_option maxRecDepth 100000
set_option maxHeartbeats 0
set_option linter.unusedVariables false
set_option linter.unusedSimpArgs false
namespace Go.Vm
open Go
abbrev ref26_Close_r1:List LO:=[lo 4 (.assign (.const (.slice none 0 0))) 23,lo 5 (.assign (.const (.bool false))) 4]
abbrev ref26_Close_r2:List LO:=[lm 13 0 22,lm 14 1 23,lo 15 (.call ⟨.value (.func 19),#[.tmp 13,.tmp 14],#[22,23]⟩) 33,lm 12 15 33,lo 16 (.extract (.tmp 12) 0) 24,lo 17 (.extract (.tmp 12) 1) 3,lo 6 (.assign (.tmp 16)) 24,lo 7 (.assign (.tmp 17)) 3]
abbrev ref26_Close_r3:List LO:=[lm 18 7 3,lo 19 (.binOp .neq 3 (.tmp 18) (.const (.int .i64 (-1))) 3) 4]
abbrev ref26_Close_r4:List LO:=[lo 4 (.assign (.const (.slice none 0 0))) 23,lo 5 (.assign (.const (.bool false))) 4]
abbrev ref26_Close_r5:List LO:=[lo 8 (.assign (.const (.slice none 0 0))) 23]
abbrev ref26_Close_r6:List LO:=[lo 9 (.assign (.const (.int .i64 0))) 3]
abbrev ref26_Close_r7:List LO:=[lm 20 9 3,lm 21 6 24,lo 22 (.call ⟨.builtin .len,#[.tmp 21],#[24]⟩) 3,lo 23 (.binOp .lss 3 (.tmp 20) (.tmp 22) 3) 4]
abbrev ref26_Close_r8:List LO:=[lm 26 8 23,lo 27 (.call ⟨.builtin .len,#[.tmp 26],#[23]⟩) 3,lo 10 (.assign (.tmp 27)) 3]
abbrev ref26_Close_r9:List LO:=[lm 28 10 3,lo 29 (.binOp .gtr 3 (.tmp 28) (.const (.int .i64 0)) 3) 4,lm 30 29 4,lmg 31 8 23 30 true,lmg 32 10 3 30 true,lg 33 (.binOp .sub 3 (.tmp 32) (.const (.int .i64 1)) 3) 3 30 true,lg 34 (.indexAddr 23 (.tmp 31) (.tmp 33)) 0 30 true,lg 35 (.load 3 (.tmp 34)) 3 30 true,lg 36 (.call ⟨.value (.func 20),#[.tmp 35],#[3]⟩) 3 30 true,lmg 37 6 24 30 true,lmg 38 9 3 30 true,lg 39 (.indexAddr 24 (.tmp 37) (.tmp 38)) 0 30 true,lg 40 (.fieldAddr 41 (.tmp 39) 0) 0 30 true,lg 41 (.load 3 (.tmp 40)) 3 30 true,lg 42 (.call ⟨.value (.func 20),#[.tmp 41],#[3]⟩) 3 30 true,lg 43 (.binOp .gtr 3 (.tmp 36) (.tmp 42) 3) 4 30 true,lo 44 (.pick (.tmp 30) (.tmp 43) (.const (.bool false))) 4]
abbrev ref26_Close_r10:List LO:=[lm 45 10 3,lo 46 (.binOp .sub 3 (.tmp 45) (.const (.int .i64 1)) 3) 3,lo 10 (.assign (.tmp 46)) 3]
abbrev ref26_Close_r11:List LO:=[lo 11 (.assign (.const (.slice none 0 0))) 23]
abbrev ref26_Close_r12:List LO:=[lm 47 11 23,lm 48 8 23,lm 49 10 3,lo 50 (.slice 23 (.tmp 48) none (some (.tmp 49)) none) 23,lo 51 (.call ⟨.builtin .append,#[.tmp 47,.tmp 50],#[23,23]⟩) 23,lo 11 (.assign (.tmp 51)) 23]
abbrev ref26_Close_r13:List LO:=[lm 52 11 23,lm 53 6 24,lm 54 9 3,lo 55 (.indexAddr 24 (.tmp 53) (.tmp 54)) 0,lo 56 (.fieldAddr 41 (.tmp 55) 0) 0,lo 57 (.load 3 (.tmp 56)) 3,lo 58 (.buildSlice 23 1 #[(0,.tmp 57)]) 23,lo 59 (.call ⟨.builtin .append,#[.tmp 52,.tmp 58],#[23,23]⟩) 23,lo 11 (.assign (.tmp 59)) 23]
abbrev ref26_Close_r14:List LO:=[lm 60 11 23,lm 61 8 23,lm 62 10 3,lo 63 (.slice 23 (.tmp 61) (some (.tmp 62)) none none) 23,lo 64 (.call ⟨.builtin .append,#[.tmp 60,.tmp 63],#[23,23]⟩) 23,lo 8 (.assign (.tmp 64)) 23]
abbrev ref26_Close_r15:List LO:=[lm 24 9 3,lo 25 (.binOp .add 3 (.tmp 24) (.const (.int .i64 1)) 3) 3,lo 9 (.assign (.tmp 25)) 3]
abbrev ref26_Close_r16:List LO:=[lm 65 8 23,lo 4 (.assign (.tmp 65)) 23,lo 5 (.assign (.const (.bool true))) 4]
abbrev ref26_Close_c:LC:=.seq (.reg false ref26_Close_r1) (.seq (.reg false ref26_Close_r2) (.seq (.seq (.reg false ref26_Close_r3) (.cond (.tmp 19) (.seq (.reg false ref26_Close_r4) .ret) .skip)) (.seq (.reg false ref26_Close_r5) (.seq (.seq (.reg false ref26_Close_r6) (.block 0 (.loop (.seq (.seq (.reg false ref26_Close_r7) (.cond (.tmp 23) .skip (.exit 0))) (.seq (.block 1 (.seq (.reg false ref26_Close_r8) (.seq (.block 2 (.loop (.seq (.seq (.reg true ref26_Close_r9) (.cond (.tmp 44) .skip (.exit 2))) (.block 3 (.reg false ref26_Close_r10))))) (.seq (.reg false ref26_Close_r11) (.seq (.reg false ref26_Close_r12) (.seq (.reg false ref26_Close_r13) (.reg false ref26_Close_r14))))))) (.reg false ref26_Close_r15)))))) (.seq (.reg false ref26_Close_r16) .ret)))))
theorem ref26_Close_k:FnOk E 7 66 [.tmp 4,.tmp 5] ref26_Close_c:=⟨⟨Go.Proofs.Try.f7,by kernel_rfl,by kernel_rfl,by kernel_rfl,by kernel_rfl,by kernel_rfl⟩,rfl,rfl⟩
noncomputable def ref26_Close_l1 (x31:List S_api_Deduced) (x35:List Int) (x36:Int):Int→Option (Step (Int) (Int)):=fun x64=>Option.bind (if (decide (x64 > 0))=true then Option.bind (ixl x35 (w64 (x64 - 1))) (fun x77=>Option.bind (ref26_abs x77) (fun x78=>Option.bind (ixl x31 x36) (fun x79=>Option.bind (ref26_abs x79.Lit) (fun x80=>some (decide (x78 > x80)))))) else some false:Option (Bool)) (fun x76=>(if x76=true then some (Step.next (w64 (x64 - 1))) else some (Step.done x64)))
noncomputable def ref26_Close_l2 (x31:List S_api_Deduced):(List Int × Int)→Option (Step (List Int × Int) (List Int)):=fun (x35,x36)=>(if (decide (x36 < (List.length x31:Int)))=true then Option.bind (loopC (ref26_Close_l1 x31 x35 x36) (List.length x35:Int)) (fun x71=>Option.bind (subl x35 0 x71) (fun x81=>Option.bind (app 8 ([]:List Int) x81) (fun x82=>Option.bind (ixl x31 x36) (fun x83=>Option.bind (app 8 x82 [x83.Lit]) (fun x84=>Option.bind (subl x35 x71 (List.length x35:Int)) (fun x85=>Option.bind (app 8 x84 x85) (fun x86=>some (Step.next (x86,(w64 (x36 + 1))))))))))) else some (Step.done x35))
abbrev ref26_Close_T (a0:List (List Int)) (a1:List Int) (r:List Int × Bool):CS:=⟨[V 4 (.osl 0 0 (List.length r.1) 1),V 5 (bv r.2)],[(0,.rows 1 (List.map cI r.1))],1⟩
noncomputable def ref26_Close (a0:List (List Int)) (a1:List Int):Option (List Int × Bool):=Option.bind (ref26_Run a0 a1) (fun (x31,x32)=>(if (x32 != (-1))=true then some ([],false) else Option.bind (loopC (ref26_Close_l2 x31) ([],0)) (fun x58=>some (x58,true))))
theorem ref26_Close_ok (a0:List (List Int)) (a1:List Int):CtM E 7 [.fsl 1 (List.map c_L3 a0),.fsl 1 (List.map cI a1)] [] 0 (ref26_Close a0 a1) (fun r:List Int × Bool=>.tup [.osl 0 0 (List.length r.1) 1,bv r.2]) (fun r:List Int × Bool=>[(0,.rows 1 (List.map cI r.1))]) 1:=ctm_intro (N:=66) (L:=ref26_Close_c) ref26_Close_k rfl (Nat.le_of_ble_eq_true rfl) (fun F hF=>by
 unfold ref26_Close
 refine jS ⟨[V 0 (.fsl 1 (List.map c_L3 a0)),V 1 (.fsl 1 (List.map cI a1))],[],0⟩ ?_
 refine jR ?_
 refine jG 0 2 ⟨[V 13 (.fsl 1 (List.map c_L3 a0)),V 14 (.fsl 1 (List.map cI a1))],[],0⟩ ?_
 refine jr_callM 2 [] [(0,some 0)] (fun r:List S_api_Deduced × Int=>[(0,.rows 2 (List.map c_S_api_Deduced r.1))]) (fun r:List S_api_Deduced × Int=>.tup [.osl 0 0 (List.length r.1) 2,iv r.2]) 1 (ref26_Run_ok a0 a1) allp_nil (fun r=>(pc (.inr (hL 0 (noid_map ni_S_api_Deduced _))) allp_nil)) ?_
 rintro⟨x31,x32⟩ hm2
 refine jG 3 5 ⟨[V 6 (.osl 0 0 (List.length x31) 2),V 7 (iv x32)],[(0,.rows 2 (List.map c_S_api_Deduced x31))],1⟩ ?_
 refine jN ?_
 refine jc_seq ?_
 refine jS ⟨[V 6 (.osl 0 0 (List.length x31) 2),V 19 (bv (x32 != (-1)))],[(0,.rows 2 (List.map c_S_api_Deduced x31))],1⟩ ?_
 refine jIf ?_ ?_
 ·refine jS ⟨[V 4 (nilS),V 5 (bv false)],[],1⟩ ?_
  refine jc_ret ?_
  refine jx_seqR ?_
  exact jx_retM (ref26_Close_T a0 a1 ([],false)) (.inr rfl) (wkR [(0,none)] (fix_of hF (k:=0) rfl) (pc hZ allp_nil))
 refine jc_skip ?_
 refine jx_seqN ?_
 refine jS ⟨[V 6 (.osl 0 0 (List.length x31) 2),V 8 (nilS)],[(0,.rows 2 (List.map c_S_api_Deduced x31))],1⟩ ?_
 refine jc_seq ?_
 refine jS ⟨[V 6 (.osl 0 0 (List.length x31) 2),V 8 (nilS),V 9 (iv 0)],[(0,.rows 2 (List.map c_S_api_Deduced x31))],1⟩ ?_
 refine jc_block ?_
 refine jc_bind (fun x58=>⟨[V 8 (.osl 0 0 (List.length x58) 1)],[(0,.rows 1 (List.map cI x58))],1⟩) (fun x58=>(.exit 0)) (jc_loop (fun (x35,x36)=>⟨[V 6 (.osl 0 0 (List.length x31) 2),V 8 (.osl 1 0 (List.length x35) 1),V 9 (iv x36)],[(0,.rows 2 (List.map c_S_api_Deduced x31)),(1,.rows 1 (List.map cI x35))],2⟩) (wkR [(0,some 0),(1,none)] (fix_of hF (k:=0) rfl) (pc (hL 0 (noid_map ni_S_api_Deduced _)) (pc hZ allp_nil))) ?_) ?_
 ·rintro⟨x35,x36⟩
  unfold ref26_Close_l2
  refine jc_seq ?_
  refine jS ⟨[V 6 (.osl 0 0 (List.length x31) 2),V 8 (.osl 1 0 (List.length x35) 1),V 9 (iv x36),V 23 (bv (decide (x36 < (List.length x31:Int))))],[(0,.rows 2 (List.map c_S_api_Deduced x31)),(1,.rows 1 (List.map cI x35))],2⟩ ?_
  refine jIf ?_ ?_
  ·refine jc_skip ?_
   refine jx_seqN ?_
   refine jc_seq ?_
   refine jc_block ?_
   refine jS ⟨[V 6 (.osl 0 0 (List.length x31) 2),V 8 (.osl 1 0 (List.length x35) 1),V 9 (iv x36),V 10 (iv (List.length x35:Int))],[(0,.rows 2 (List.map c_S_api_Deduced x31)),(1,.rows 1 (List.map cI x35))],2⟩ ?_
   refine jc_seq ?_
   refine jc_block ?_
   refine jc_bind (fun x71=>⟨[V 6 (.osl 0 0 (List.length x31) 2),V 8 (.osl 1 0 (List.length x35) 1),V 9 (iv x36),V 10 (iv x71)],[(0,.rows 2 (List.map c_S_api_Deduced x31)),(1,.rows 1 (List.map cI x35))],2⟩) (fun x71=>(.exit 2)) (jc_loop (fun x64=>⟨[V 6 (.osl 0 0 (List.length x31) 2),V 8 (.osl 1 0 (List.length x35) 1),V 9 (iv x36),V 10 (iv x64)],[(0,.rows 2 (List.map c_S_api_Deduced x31)),(1,.rows 1 (List.map cI x35))],2⟩) (wkR [(0,some 0),(1,some 1)] (fix_of hF (k:=0) rfl) (pc (hL 0 (noid_map ni_S_api_Deduced _)) (pc (hL 1 (noid_map ni_I _)) allp_nil))) ?_) ?_
   ·intro x64
    unfold ref26_Close_l1
    refine jc_seq ?_
    refine jR ?_
    refine jG 0 3 ⟨[V 6 (.osl 0 0 (List.length x31) 2),V 8 (.osl 1 0 (List.length x35) 1),V 9 (iv x36),V 10 (iv x64),V 30 (bv (decide (x64 > 0)))],[(0,.rows 2 (List.map c_S_api_Deduced x31)),(1,.rows 1 (List.map cI x35))],2⟩ ?_
    refine jr_bind 3 14 (fun x76=>⟨[V 6 (.osl 0 0 (List.length x31) 2),V 8 (.osl 1 0 (List.length x35) 1),V 9 (iv x36),V 10 (iv x64),V 44 (bv x76)],[(0,.rows 2 (List.map c_S_api_Deduced x31)),(1,.rows 1 (List.map cI x35))],2⟩) ?_ ?_
    ·refine jSp 30 ?_ ?_
     ·refine jG 0 3 ⟨[V 6 (.osl 0 0 (List.length x31) 2),V 8 (.osl 1 0 (List.length x35) 1),V 9 (iv x36),V 10 (iv x64),(30,.lit true),V 31 (.osl 1 0 (List.length x35) 1),V 33 (iv (w64 (x64 - 1)))],[(0,.rows 2 (List.map c_S_api_Deduced x31)),(1,.rows 1 (List.map cI x35))],2⟩ ?_
      refine jr_part (i:=3) (mo:=ixl x35 (w64 (x64 - 1))) rfl rfl rfl rfl (fun _ hc=>aop_ixo0 (sz:=1) (e:=3) (kk:=.i64) (id:=1) (by kernel_rfl) (by kernel_rfl) (by kernel_rfl) (by kernel_rfl) hc) (fun _=>rfl) ?_
      intro x77 h77
      refine jr_one (i:=4) (v:=iv x77) rfl rfl rfl rfl (aop_ldo (l:=x35) (c:=cI) (id:=1) (k:=(Int.toNat (w64 (x64 - 1)))) (sz:=1) (off:=0) (a:=x77) (by kernel_rfl) (by kernel_rfl) (ixl_lt h77).2.2 (by kernel_rfl)) rfl ?_
      refine jK 5 (ref26_abs_ok x77) ?_
      intro x78 h78
      refine jG 6 2 ⟨[V 6 (.osl 0 0 (List.length x31) 2),V 8 (.osl 1 0 (List.length x35) 1),V 9 (iv x36),V 10 (iv x64),(30,.lit true),V 36 (iv x78),V 37 (.osl 0 0 (List.length x31) 2),V 38 (iv x36)],[(0,.rows 2 (List.map c_S_api_Deduced x31)),(1,.rows 1 (List.map cI x35))],2⟩ ?_
      refine jr_part (i:=8) (mo:=ixl x31 x36) rfl rfl rfl rfl (fun _ hc=>aop_ixo0 (sz:=2) (e:=41) (kk:=.i64) (id:=0) (by kernel_rfl) (by kernel_rfl) (by kernel_rfl) (by kernel_rfl) hc) (fun _=>rfl) ?_
      intro x79 h79
      refine jG 9 1 ⟨[V 6 (.osl 0 0 (List.length x31) 2),V 8 (.osl 1 0 (List.length x35) 1),V 9 (iv x36),V 10 (iv x64),(30,.lit true),V 36 (iv x78),V 40 (.ptr 0 (Int.toNat x36) 2 0)],[(0,.rows 2 (List.map c_S_api_Deduced x31)),(1,.rows 1 (List.map cI x35))],2⟩ ?_
      refine jr_one (i:=10) (v:=iv x79.Lit) rfl rfl rfl rfl (aop_ldo (l:=x31) (c:=c_S_api_Deduced) (id:=0) (k:=(Int.toNat x36)) (sz:=2) (off:=0) (a:=x79) (by kernel_rfl) (by kernel_rfl) (ixl_lt h79).2.2 (by kernel_rfl)) rfl ?_
      refine jK 11 (ref26_abs_ok x79.Lit) ?_
      intro x80 h80
      refine jG 12 2 ⟨[V 6 (.osl 0 0 (List.length x31) 2),V 8 (.osl 1 0 (List.length x35) 1),V 9 (iv x36),V 10 (iv x64),V 44 (bv (decide (x78 > x80)))],[(0,.rows 2 (List.map c_S_api_Deduced x31)),(1,.rows 1 (List.map cI x35))],2⟩ ?_
      refine jr_nil rfl ?_
      exact jx_mid rfl (wkR [(0,some 0),(1,some 1)] (fix_of hF (k:=0) rfl) (pc (hL 0 (noid_map ni_S_api_Deduced _)) (pc (hL 1 (noid_map ni_I _)) allp_nil)))
     refine jG 0 14 ⟨[V 6 (.osl 0 0 (List.length x31) 2),V 8 (.osl 1 0 (List.length x35) 1),V 9 (iv x36),V 10 (iv x64),V 44 (bv false)],[(0,.rows 2 (List.map c_S_api_Deduced x31)),(1,.rows 1 (List.map cI x35))],2⟩ ?_
     refine jr_nil rfl ?_
     exact jx_mid rfl (wkR [(0,some 0),(1,some 1)] (fix_of hF (k:=0) rfl) (pc (hL 0 (noid_map ni_S_api_Deduced _)) (pc (hL 1 (noid_map ni_I _)) allp_nil)))
    intro x76
    refine jN ?_
    refine jIf ?_ ?_
    ·refine jc_skip ?_
     refine jx_seqN ?_
     refine jc_block ?_
     refine jT ⟨[V 6 (.osl 0 0 (List.length x31) 2),V 8 (.osl 1 0 (List.length x35) 1),V 9 (iv x36),V 10 (iv (w64 (x64 - 1)))],[(0,.rows 2 (List.map c_S_api_Deduced x31)),(1,.rows 1 (List.map cI x35))],2⟩ ?_
     refine jx_blkN ?_
     exact jx_next (wkR [(0,some 0),(1,some 1)] (fix_of hF (k:=0) rfl) (pc (hL 0 (noid_map ni_S_api_Deduced _)) (pc (hL 1 (noid_map ni_I _)) allp_nil)))
    refine jc_exit ?_
    refine jx_seqE ?_
    exact jx_done rfl nofun (wkR [(0,some 0),(1,some 1)] (fix_of hF (k:=0) rfl) (pc (hL 0 (noid_map ni_S_api_Deduced _)) (pc (hL 1 (noid_map ni_I _)) allp_nil)))
   intro x71
   refine jx_blkE ?_
   refine jx_seqN ?_
   refine jS ⟨[V 6 (.osl 0 0 (List.length x31) 2),V 8 (.osl 1 0 (List.length x35) 1),V 9 (iv x36),V 10 (iv x71),V 11 (nilS)],[(0,.rows 2 (List.map c_S_api_Deduced x31)),(1,.rows 1 (List.map cI x35))],2⟩ ?_
   refine jR ?_
   refine jG 0 3 ⟨[V 6 (.osl 0 0 (List.length x31) 2),V 8 (.osl 1 0 (List.length x35) 1),V 9 (iv x36),V 10 (iv x71),V 47 (nilS),V 48 (.osl 1 0 (List.length x35) 1),V 49 (iv x71)],[(0,.rows 2 (List.map c_S_api_Deduced x31)),(1,.rows 1 (List.map cI x35))],2⟩ ?_
   refine jr_part (i:=3) (mo:=subl x35 0 x71) rfl rfl rfl rfl (fun _ hc=>aop_subo (l:=x35) (e:=3) (id:=1) (off:=0) (sz:=1) (by kernel_rfl) (by kernel_rfl) (by kernel_rfl) (by kernel_rfl) (by kernel_rfl) hc) (fun _=>rfl) ?_
   intro x81 h81
   refine jr_two (i:=4) (C:=x81=[]) (st1:=fun x82=>⟨[V 6 (.osl 0 0 (List.length x31) 2),V 8 (.osl 1 0 (List.length x35) 1),V 9 (iv x36),V 10 (iv x71),V 51 (.osl 2 0 (List.length x82) 1)],[(0,.rows 2 (List.map c_S_api_Deduced x31)),(1,.rows 1 (List.map cI x35)),(2,.rows 1 (List.map cI x82))],3⟩) rfl rfl rfl rfl (fun q _ hc=>aop_app (u:=nilS) (w:=.osl 1 (0 + Int.toNat 0) (List.length x81) 1) (e:=3) (td:=.slice 3) (by kernel_rfl) (by kernel_rfl) (by kernel_rfl) (by kernel_rfl) (.inl ⟨_,rfl⟩) (appendOf_nil (c:=cI) (sz:=1) (b:=8) (by kernel_rfl) (.inl rfl) (rows_os (l:=x35) (by kernel_rfl) h81) q hc)) (fun q _ hc=>aop_app (u:=nilS) (w:=.osl 1 (0 + Int.toNat 0) (List.length x81) 1) (e:=3) (td:=.slice 3) (by kernel_rfl) (by kernel_rfl) (by kernel_rfl) (by kernel_rfl) (.inl ⟨_,rfl⟩) (appendOf_same (c:=cI) (sz:=1) (b:=8) (m:=x81) (by kernel_rfl) (.inl rfl) (rows_os (l:=x35) (by kernel_rfl) h81) q)) (fun _=>rfl) (fun _=>rfl) (fun _=>wkR [(0,some 0),(1,some 1),(2,some 2)] (fix_of hF (k:=0) rfl) (pc (hL 0 (noid_map ni_S_api_Deduced _)) (pc (hL 1 (noid_map ni_I _)) (pc (hL 2 (noid_map ni_I _)) allp_nil)))) (fun q _ hc=>by cases app_same q hc; exact wkR [(0,some 0),(1,some 1),(2,none)] (fix_of hF (k:=0) rfl) (pc (hL 0 (noid_map ni_S_api_Deduced _)) (pc (hL 1 (noid_map ni_I _)) (pc hZ allp_nil)))) ?_
   intro x82 h82
   refine jG 5 1 ⟨[V 6 (.osl 0 0 (List.length x31) 2),V 8 (.osl 1 0 (List.length x35) 1),V 9 (iv x36),V 10 (iv x71),V 11 (.osl 2 0 (List.length x82) 1)],[(0,.rows 2 (List.map c_S_api_Deduced x31)),(1,.rows 1 (List.map cI x35)),(2,.rows 1 (List.map cI x82))],3⟩ ?_
   refine jN ?_
   refine jR ?_
   refine jG 0 3 ⟨[V 6 (.osl 0 0 (List.length x31) 2),V 8 (.osl 1 0 (List.length x35) 1),V 9 (iv x36),V 10 (iv x71),V 52 (.osl 2 0 (List.length x82) 1),V 53 (.osl 0 0 (List.length x31) 2),V 54 (iv x36)],[(0,.rows 2 (List.map c_S_api_Deduced x31)),(1,.rows 1 (List.map cI x35)),(2,.rows 1 (List.map cI x82))],3⟩ ?_
   refine jr_part (i:=3) (mo:=ixl x31 x36) rfl rfl rfl rfl (fun _ hc=>aop_ixo0 (sz:=2) (e:=41) (kk:=.i64) (id:=0) (by kernel_rfl) (by kernel_rfl) (by kernel_rfl) (by kernel_rfl) hc) (fun _=>rfl) ?_
   intro x83 h83
   refine jG 4 1 ⟨[V 6 (.osl 0 0 (List.length x31) 2),V 8 (.osl 1 0 (List.length x35) 1),V 9 (iv x36),V 10 (iv x71),V 52 (.osl 2 0 (List.length x82) 1),V 56 (.ptr 0 (Int.toNat x36) 2 0)],[(0,.rows 2 (List.map c_S_api_Deduced x31)),(1,.rows 1 (List.map cI x35)),(2,.rows 1 (List.map cI x82))],3⟩ ?_
   refine jr_one (i:=5) (v:=iv x83.Lit) rfl rfl rfl rfl (aop_ldo (l:=x31) (c:=c_S_api_Deduced) (id:=0) (k:=(Int.toNat x36)) (sz:=2) (off:=0) (a:=x83) (by kernel_rfl) (by kernel_rfl) (ixl_lt h83).2.2 (by kernel_rfl)) rfl ?_
   refine jG 6 1 ⟨[V 6 (.osl 0 0 (List.length x31) 2),V 8 (.osl 1 0 (List.length x35) 1),V 9 (iv x36),V 10 (iv x71),V 52 (.osl 2 0 (List.length x82) 1),V 58 (.osl 3 0 (List.length [x83.Lit]) 1)],[(0,.rows 2 (List.map c_S_api_Deduced x31)),(1,.rows 1 (List.map cI x35)),(2,.rows 1 (List.map cI x82)),(3,.rows 1 (List.map cI [x83.Lit]))],4⟩ ?_
   refine jr_part (i:=7) (mo:=app 8 x82 [x83.Lit]) rfl rfl rfl rfl (fun _ hc=>aop_app (u:=.osl 2 0 (List.length x82) 1) (w:=.osl 3 0 (List.length [x83.Lit]) 1) (e:=3) (td:=.slice 3) (by kernel_rfl) (by kernel_rfl) (by kernel_rfl) (by kernel_rfl) (.inl ⟨_,rfl⟩) (appendOf_own (c:=cI) (sz:=1) (b:=8) (id:=2) (by kernel_rfl) (by kernel_rfl) (rows_own (by kernel_rfl)) (List.cons_ne_nil _ _) hc)) (fun _=>rfl) ?_
   intro x84 h84
   refine jG 8 1 ⟨[V 6 (.osl 0 0 (List.length x31) 2),V 8 (.osl 1 0 (List.length x35) 1),V 9 (iv x36),V 10 (iv x71),V 11 (.osl 4 0 (List.length x84) 1)],[(0,.rows 2 (List.map c_S_api_Deduced x31)),(1,.rows 1 (List.map cI x35)),(4,.rows 1 (List.map cI x84))],5⟩ ?_
   refine jN ?_
   refine jc_reg ?_
   refine jG 0 3 ⟨[V 6 (.osl 0 0 (List.length x31) 2),V 9 (iv x36),V 60 (.osl 4 0 (List.length x84) 1),V 61 (.osl 1 0 (List.length x35) 1),V 62 (iv x71)],[(0,.rows 2 (List.map c_S_api_Deduced x31)),(1,.rows 1 (List.map cI x35)),(4,.rows 1 (List.map cI x84))],5⟩ ?_
   refine jr_part (i:=3) (mo:=subl x35 x71 (List.length x35:Int)) rfl rfl rfl rfl (fun _ hc=>aop_subo (l:=x35) (e:=3) (id:=1) (off:=0) (sz:=1) (by kernel_rfl) (by kernel_rfl) (by kernel_rfl) (by kernel_rfl) (by kernel_rfl) hc) (fun _=>rfl) ?_
   intro x85 h85
   refine jr_two (i:=4) (C:=x85=[]) (st1:=fun x86=>⟨[V 6 (.osl 0 0 (List.length x31) 2),V 9 (iv x36),V 64 (.osl 5 0 (List.length x86) 1)],[(0,.rows 2 (List.map c_S_api_Deduced x31)),(5,.rows 1 (List.map cI x86))],6⟩) rfl rfl rfl rfl (fun q _ hc=>aop_app (u:=.osl 4 0 (List.length x84) 1) (w:=.osl 1 (0 + Int.toNat x71) (List.length x85) 1) (e:=3) (td:=.slice 3) (by kernel_rfl) (by kernel_rfl) (by kernel_rfl) (by kernel_rfl) (.inl ⟨_,rfl⟩) (appendOf_own (c:=cI) (sz:=1) (b:=8) (id:=4) (by kernel_rfl) (by kernel_rfl) (rows_os (l:=x35) (by kernel_rfl) h85) q hc)) (fun q _ hc=>aop_app (u:=.osl 4 0 (List.length x84) 1) (w:=.osl 1 (0 + Int.toNat x71) (List.length x85) 1) (e:=3) (td:=.slice 3) (by kernel_rfl) (by kernel_rfl) (by kernel_rfl) (by kernel_rfl) (.inl ⟨_,rfl⟩) (appendOf_same (c:=cI) (sz:=1) (b:=8) (m:=x85) (by kernel_rfl) (.inr (.inr ⟨_,_,_,_,rfl⟩)) (rows_os (l:=x35) (by kernel_rfl) h85) q)) (fun _=>rfl) (fun _=>rfl) (fun _=>wkR [(0,some 0),(5,some 5)] (fix_of hF (k:=0) rfl) (pc (hL 0 (noid_map ni_S_api_Deduced _)) (pc (hL 5 (noid_map ni_I _)) allp_nil))) (fun q _ hc=>by cases app_same q hc; exact wkR [(0,some 0),(5,some 4)] (fix_of hF (k:=0) rfl) (pc (hL 0 (noid_map ni_S_api_Deduced _)) (pc (hL 4 (noid_map ni_I _)) allp_nil))) ?_
   intro x86 h86
   refine jG 5 1 ⟨[V 6 (.osl 0 0 (List.length x31) 2),V 8 (.osl 5 0 (List.length x86) 1),V 9 (iv x36)],[(0,.rows 2 (List.map c_S_api_Deduced x31)),(5,.rows 1 (List.map cI x86))],6⟩ ?_
   refine jr_nil rfl ?_
   refine jx_blkN ?_
   refine jx_seqN ?_
   refine jT ⟨[V 6 (.osl 0 0 (List.length x31) 2),V 8 (.osl 5 0 (List.length x86) 1),V 9 (iv (w64 (x36 + 1)))],[(0,.rows 2 (List.map c_S_api_Deduced x31)),(5,.rows 1 (List.map cI x86))],6⟩ ?_
   exact jx_next (wkR [(0,some 0),(1,some 5)] (fix_of hF (k:=0) rfl) (pc (hL 0 (noid_map ni_S_api_Deduced _)) (pc (hL 5 (noid_map ni_I _)) allp_nil)))
  refine jc_exit ?_
  refine jx_seqE ?_
  exact jx_done rfl nofun (wkR [(0,some 1)] (fix_of hF (k:=0) rfl) (pc (hL 1 (noid_map ni_I _)) allp_nil))
 intro x58
 refine jx_blkE ?_
 refine jx_seqN ?_
 refine jS ⟨[V 4 (.osl 0 0 (List.length x58) 1),V 5 (bv true)],[(0,.rows 1 (List.map cI x58))],1⟩ ?_
 refine jc_ret ?_
 exact jx_retM (ref26_Close_T a0 a1 (x58,true)) (.inr rfl) (wkR [(0,some 0)] (fix_of hF (k:=0) rfl) (pc (hL 0 (noid_map ni_I _)) allp_nil)))
abbrev prop_Run_m8296_r1:List LO:=[lo 4 (.alloc 24) 0,lo 5 (.alloc 3) 0]
abbrev prop_Run_m8296_r2:List LO:=[lo 13 (.build 50 #[]) 50,lo 14 (.box 50 (.tmp 13)) 46,lo 6 (.alloc 46) 0,ln (.store 46 (.tmp 6) (.tmp 14)) 0]
abbrev prop_Run_m8296_r3:List LO:=[lm 15 1 23,lo 16 (.call ⟨.builtin .len,#[.tmp 15],#[23]⟩) 3,lo 17 (.move (.const (.int .i64 0))) 3]
abbrev prop_Run_m8296_r4:List LO:=[lo 18 (.binOp .lss 3 (.tmp 17) (.tmp 16) 3) 0]
abbrev prop_Run_m8296_r5:List LO:=[lo 19 (.indexAddr 23 (.tmp 15) (.tmp 17)) 0,lo 20 (.load 3 (.tmp 19)) 3,lo 8 (.assign (.tmp 20)) 3]
abbrev prop_Run_m8296_r6:List LO:=[lm 21 8 3,lo 22 (.call ⟨.value (.func 21),#[.tmp 21],#[3]⟩) 4,lo 23 (.unOp .not 4 (.tmp 22)) 4]
abbrev prop_Run_m8296_r7:List LO:=[lo 24 (.load 46 (.tmp 6)) 46,lm 25 8 3,lo 26 (.call ⟨.value (.func 27),#[.tmp 24,.tmp 25],#[46,3]⟩) 3]
abbrev prop_Run_m8296_r8:List LO:=[lo 28 (.binOp .eql 3 (.tmp 26) (.const (.int .i64 (-1))) 3) 4,lo 27 (.assign (.tmp 28)) 4]
abbrev prop_Run_m8296_r9:List LO:=[lo 29 (.load 46 (.tmp 6)) 46,lo 30 (.nilCheck (.tmp 29)) 0,lo 31 (.fieldAddr 50 (.tmp 30) 1) 0,lo 32 (.load 24 (.tmp 31)) 24,ln (.store 24 (.tmp 4) (.tmp 32)) 0,ln (.store 3 (.tmp 5) (.const (.int .i64 (-2)))) 0]
abbrev prop_Run_m8296_r10:List LO:=[lo 34 (.binOp .eql 3 (.tmp 26) (.const (.int .i64 0)) 3) 4,lo 33 (.assign (.tmp 34)) 4]
abbrev prop_Run_m8296_r11:List LO:=[lo 35 (.load 46 (.tmp 6)) 46,lm 36 8 3,lo 37 (.call ⟨.value (.func 28),#[.tmp 35,.tmp 36,.const (.int .i64 (-1))],#[46,3,3]⟩) 0]
abbrev prop_Run_m8296_r12:List LO:=[lo 38 (.binOp .add 3 (.tmp 17) (.const (.int .i64 1)) 3) 3,lm 17 38 3]
abbrev prop_Run_m8296_r13:List LO:=[lo 9 (.alloc 3) 0,lo 10 (.alloc 3) 0,ln (.store 3 (.tmp 9) (.const (.int .i64 (-1)))) 0,ln (.store 3 (.tmp 10) (.const (.int .i64 0))) 0]
abbrev prop_Run_m8296_r14:List LO:=[lo 39 (.load 46 (.tmp 6)) 46,lm 40 0 22,lo 41 (.call ⟨.value (.func 29),#[.tmp 39,.tmp 40],#[46,22]⟩) 53]
abbrev prop_Run_m8296_r15:List LO:=[lo 11 (.assign (.tmp 42)) 3]
abbrev prop_Run_m8296_r16:List LO:=[lo 12 (.assign (.tmp 43)) 3]
abbrev prop_Run_m8296_r17:List LO:=[lm 44 12 3,lo 45 (.binOp .eql 3 (.tmp 44) (.const (.int .i64 0)) 3) 4]
abbrev prop_Run_m8296_r18:List LO:=[lo 46 (.load 46 (.tmp 6)) 46,lo 47 (.nilCheck (.tmp 46)) 0,lo 48 (.fieldAddr 50 (.tmp 47) 1) 0,lo 49 (.load 24 (.tmp 48)) 24,lm 50 11 3,ln (.store 24 (.tmp 4) (.tmp 49)) 0,ln (.store 3 (.tmp 5) (.tmp 50)) 0]
abbrev prop_Run_m8296_r19:List LO:=[lo 51 (.load 3 (.tmp 9)) 3,lo 52 (.binOp .lss 3 (.tmp 51) (.const (.int .i64 0)) 3) 4]
abbrev prop_Run_m8296_r20:List LO:=[lm 53 11 3,lm 54 12 3,ln (.store 3 (.tmp 9) (.tmp 53)) 0,ln (.store 3 (.tmp 10) (.tmp 54)) 0]
noncomputable def prop_Run_m8296_y21_a0:Code:=codeSub (bodyOf Go.Proofs.Try.f14) [1,0,1,1,1,0,0,0,0,1,0,1,0,0]
theorem prop_Run_m8296_y21_aw:lower E prop_Run_m8296_y21_a0=some (.seq (.reg false prop_Run_m8296_r15) (.reg false prop_Run_m8296_r16)):=by kernel_rfl
noncomputable def prop_Run_m8296_y21_b0:Code:=codeSub (bodyOf Go.Proofs.Try.f14) [1,0,1,1,1,0,0,0,0,1,0,1,0,1]
theorem prop_Run_m8296_y21_bw:lower E prop_Run_m8296_y21_b0=some (.block 6 (.seq (.seq (.reg false prop_Run_m8296_r17) (.cond (.tmp 45) (.seq (.reg false prop_Run_m8296_r18) .ret) .skip)) (.seq (.reg false prop_Run_m8296_r19) (.cond (.tmp 52) (.reg false prop_Run_m8296_r20) .skip)))):=by kernel_rfl
abbrev prop_Run_m8296_r22:List LO:=[lo 55 (.load 3 (.tmp 9)) 3,lo 56 (.binOp .lss 3 (.tmp 55) (.const (.int .i64 0)) 3) 4]
abbrev prop_Run_m8296_r23:List LO:=[lo 57 (.load 46 (.tmp 6)) 46,lo 58 (.load 3 (.tmp 10)) 3,lo 59 (.load 3 (.tmp 9)) 3,lo 60 (.call ⟨.value (.func 28),#[.tmp 57,.tmp 58,.tmp 59],#[46,3,3]⟩) 0]
abbrev prop_Run_m8296_r24:List LO:=[lo 61 (.load 46 (.tmp 6)) 46,lo 62 (.nilCheck (.tmp 61)) 0,lo 63 (.fieldAddr 50 (.tmp 62) 1) 0,lo 64 (.load 24 (.tmp 63)) 24,ln (.store 24 (.tmp 4) (.tmp 64)) 0,ln (.store 3 (.tmp 5) (.const (.int .i64 (-1)))) 0]
noncomputable abbrev prop_Run_m8296_c:LC:=.seq (.reg false prop_Run_m8296_r1) (.scope (.seq (.reg false prop_Run_m8296_r2) (.seq (.seq (.reg false prop_Run_m8296_r3) (.block 0 (.loop (.seq (.reg false prop_Run_m8296_r4) (.seq (.cond (.tmp 18) .skip (.exit 0)) (.seq (.block 1 (.seq (.reg false prop_Run_m8296_r5) (.seq (.seq (.reg false prop_Run_m8296_r6) (.cond (.tmp 23) (.exit 1) .skip)) (.seq (.reg false prop_Run_m8296_r7) (.block 2 (.seq (.reg false prop_Run_m8296_r8) (.cond (.tmp 27) (.seq (.reg false prop_Run_m8296_r9) .ret) (.seq (.reg false prop_Run_m8296_r10) (.cond (.tmp 33) (.reg false prop_Run_m8296_r11) .skip))))))))) (.reg false prop_Run_m8296_r12))))))) (.seq .label (.seq (.block 3 (.loop (.block 4 (.seq (.reg false prop_Run_m8296_r13) (.seq (.seq (.reg false prop_Run_m8296_r14) (.block 5 (.rng (.tmp 41) [42,43] prop_Run_m8296_y21_a0 prop_Run_m8296_y21_b0))) (.seq (.seq (.reg false prop_Run_m8296_r22) (.cond (.tmp 56) (.exit 3) .skip)) (.reg false prop_Run_m8296_r23))))))) (.seq (.reg false prop_Run_m8296_r24) .ret))))))
theorem prop_Run_m8296_k:FnOk E 14 65 [.cell 4 24,.cell 5 3] prop_Run_m8296_c:=⟨⟨Go.Proofs.Try.f14,by kernel_rfl,by kernel_rfl,by kernel_rfl,by kernel_rfl,by kernel_rfl⟩,rfl,rfl⟩
noncomputable def prop_Run_m8296_l1 (a1:List Int):(List Int × List S_api_Deduced × Int)→Option (Step (List Int × List S_api_Deduced × Int) ((List S_api_Deduced) ⊕ (List Int × List S_api_Deduced))):=fun (x99,x100,x101)=>(if (decide (x101 < (List.length a1:Int)))=true then Option.bind (Option.bind (ixl a1 x101) (fun x124=>Option.bind (prop_literal x124) (fun x125=>(if (!x125)=true then some (Sum.inl (x99,x100)) else Option.bind (prop_sheet_of x99 x100 x124) (fun x126=>(if (x126 == (-1))=true then Option.bind (lenA 4097 x99) (fun x127=>some (Sum.inr ())) else (if (x126 == 0)=true then Option.bind (prop_sheet_set x99 x100 x124 (-1)) (fun (x128,x129)=>some (Sum.inl (x128,x129))) else some (Sum.inl (x99,x100)))))))):Option ((List Int × List S_api_Deduced) ⊕ (Unit))) (fun y=>match y with | Sum.inl (x122,x123)=>some (Step.next (x122,x123,(w64 (x101 + 1)))) | Sum.inr _=>some (Step.done (Sum.inl x100))) else some (Step.done (Sum.inr (x99,x100))))
noncomputable abbrev prop_Run_m8296_lp41 (a0:List (List Int)) (q:LoopState) (p:Option Code):AObj:=.loop { state:=q,pending:=p,tmps:=tl 65 [V 0 (.fsl 1 (List.map c_L3 a0)),V 4 (pt 1 1),V 5 (pt 2 1),V 6 (pt 3 1),V 9 (pt 6 1),V 10 (pt 7 1),V 41 (.fn 38 [pt 8 1,pt 9 1])] none,params:=[42,43],assign:=prop_Run_m8296_y21_a0,body:=prop_Run_m8296_y21_b0 }
noncomputable def prop_Run_m8296_l2 (a0:List (List Int)) (x157:List Int) (x158:List S_api_Deduced):(Int × Int × Int)→Option (Step (Int × Int × Int) ((Int × Int × Int) ⊕ (Int × Int))):=fun (x198,x199,x200)=>(if (decide (x198 < (List.length a0:Int)))=true then Option.bind (ixl a0 x198) (fun x217=>Option.bind (prop_sheet_look x157 x158 x217) (fun (x218,x219)=>Option.bind (if (x218 || (x219 != 0))=true then Option.bind ((if (x219 == 0)=true then Option.bind (lenA 4097 x157) (fun x228=>some (Sum.inl ())) else (if (decide (x199 < 0))=true then some (Sum.inr (x198,x219)) else some (Sum.inr (x199,x200)))):Option ((Unit) ⊕ (Int × Int))) (fun y=>match y with | Sum.inl _=>some (Sum.inl ()) | Sum.inr (x226,x227)=>some (Sum.inr (x226,x227))) else some (Sum.inr (x199,x200)):Option ((Unit) ⊕ (Int × Int))) (fun y=>match y with | Sum.inl _=>some (Step.done (Sum.inl (x198,x199,x200))) | Sum.inr (x223,x224)=>some (Step.next ((w64 (x198 + 1)),x223,x224))))) else some (Step.done (Sum.inr (x199,x200))))
noncomputable def prop_Run_m8296_l3 (a0:List (List Int)):(List Int × List S_api_Deduced)→Option (Step (List Int × List S_api_Deduced) ((List S_api_Deduced × Int) ⊕ (List Int × List S_api_Deduced))):=fun (x157,x158)=>Option.bind (prop_sheet_counts x157 x158 a0) (fun _=>Option.bind (loopC (prop_Run_m8296_l2 a0 x157 x158) (0,(-1),0)) (fun y=>match y with | Sum.inl (x212,x213,x214)=>some (Step.done (Sum.inl (x158,x212))) | Sum.inr (x215,x216)=>(if (decide (x215 < 0))=true then some (Step.done (Sum.inr (x157,x158))) else Option.bind (prop_sheet_set x157 x158 x216 x215) (fun (x229,x230)=>some (Step.next (x229,x230))))))
abbrev prop_Run_m8296_T (a0:List (List Int)) (a1:List Int) (r:List S_api_Deduced × Int):CS:=⟨[V 4 (pt 1 1),V 5 (pt 3 1)],[(0,.rows 1 (List.map cI a1)),W 1 1 [.osl 2 0 (List.length r.1) 2],(2,.rows 2 (List.map c_S_api_Deduced r.1)),W 3 1 [iv r.2]],4⟩
noncomputable def prop_Run_m8296 (a0:List (List Int)) (a1:List Int):Option (List S_api_Deduced × Int):=Option.bind (loopC (prop_Run_m8296_l1 a1) ((List.replicate 4097 (0:Int)),[],0)) (fun y=>match y with | Sum.inl x113=>some (x113,(-2)) | Sum.inr (x114,x115)=>Option.bind (loopC (prop_Run_m8296_l3 a0) (x114,x115)) (fun y=>match y with | Sum.inl (x188,x189)=>some (x188,x189) | Sum.inr (x190,x191)=>Option.bind (lenA 4097 x190) (fun x231=>some (x191,(-1)))))
theorem prop_Run_m8296_ok (a0:List (List Int)) (a1:List Int):CtM E 14 [.fsl 1 (List.map c_L3 a0),.osl 0 0 (List.length a1) 1] [(0,.rows 1 (List.map cI a1))] 1 (prop_Run_m8296 a0 a1) (fun r:List S_api_Deduced × Int=>.tup [.osl 2 0 (List.length r.1) 2,iv r.2]) (fun r:List S_api_Deduced × Int=>[(0,.rows 1 (List.map cI a1)),(2,.rows 2 (List.map c_S_api_Deduced r.1))]) 4:=ctm_intro (N:=65) (L:=prop_Run_m8296_c) prop_Run_m8296_k rfl (Nat.le_of_ble_eq_true rfl) (fun F hF=>by
 unfold prop_Run_m8296
 refine jS ⟨[V 0 (.fsl 1 (List.map c_L3 a0)),V 1 (.osl 0 0 (List.length a1) 1),V 4 (pt 1 1),V 5 (pt 2 1)],[(0,.rows 1 (List.map cI a1)),W 1 1 [nilS],W 2 1 [iv 0]],3⟩ ?_
 refine jc_scope ?_
 refine jS ⟨[V 0 (.fsl 1 (List.map c_L3 a0)),V 1 (.osl 0 0 (List.length a1) 1),V 4 (pt 1 1),V 5 (pt 2 1),V 6 (pt 4 1)],[(0,.rows 1 (List.map cI a1)),W 1 1 [nilS],W 2 1 [iv 0],(3,.rows 4098 [List.map aI8 (List.replicate 4097 (0:Int)) ++ [nilS]]),W 4 1 [pt 3 4098]],5⟩ ?_
 refine jc_seq ?_
 refine jS ⟨[V 0 (.fsl 1 (List.map c_L3 a0)),V 4 (pt 1 1),V 5 (pt 2 1),V 6 (pt 4 1),V 15 (.osl 0 0 (List.length a1) 1),V 16 (iv (List.length a1:Int)),V 17 (iv 0)],[(0,.rows 1 (List.map cI a1)),W 1 1 [nilS],W 2 1 [iv 0],(3,.rows 4098 [List.map aI8 (List.replicate 4097 (0:Int)) ++ [nilS]]),W 4 1 [pt 3 4098]],5⟩ ?_
 refine jc_block ?_
 refine jc_bind (fun y=>match y with | Sum.inl x113=>⟨[V 4 (pt 1 1),V 5 (pt 3 1)],[(0,.rows 1 (List.map cI a1)),W 1 1 [.osl 2 0 (List.length x113) 2],(2,.rows 2 (List.map c_S_api_Deduced x113)),W 3 1 [iv (-2)]],4⟩ | Sum.inr (x114,x115)=>⟨[V 0 (.fsl 1 (List.map c_L3 a0)),V 4 (pt 1 1),V 5 (pt 2 1),V 6 (pt 3 1)],[(0,.rows 1 (List.map cI a1)),W 1 1 [nilS],W 2 1 [iv 0],W 3 1 [pt 4 4098],(4,.rows 4098 [List.map aI8 x114 ++ [.osl 5 0 (List.length x115) 2]]),(5,.rows 2 (List.map c_S_api_Deduced x115))],6⟩) (fun y=>match y with | Sum.inl x113=>.ret | Sum.inr (x114,x115)=>(.exit 0)) (jc_loop (fun (x99,x100,x101)=>⟨[V 0 (.fsl 1 (List.map c_L3 a0)),V 4 (pt 1 1),V 5 (pt 2 1),V 6 (pt 3 1),V 15 (.osl 0 0 (List.length a1) 1),V 16 (iv (List.length a1:Int)),V 17 (iv x101)],[(0,.rows 1 (List.map cI a1)),W 1 1 [nilS],W 2 1 [iv 0],W 3 1 [pt 4 4098],(4,.rows 4098 [List.map aI8 x99 ++ [.osl 5 0 (List.length x100) 2]]),(5,.rows 2 (List.map c_S_api_Deduced x100))],6⟩) (wkR [(0,some 0),(1,some 1),(2,some 2),(3,some 4),(4,some 3),(5,none)] (fix_of hF (k:=1) rfl) (pc (hL 0 (noid_map ni_I _)) (pc (hC 1) (pc (hC 2) (pc (hC 4) (pc (hA 3) (pc hZ allp_nil))))))) ?_) ?_
 ·rintro⟨x99,x100,x101⟩
  unfold prop_Run_m8296_l1
  refine jS ⟨[V 0 (.fsl 1 (List.map c_L3 a0)),V 4 (pt 1 1),V 5 (pt 2 1),V 6 (pt 3 1),V 15 (.osl 0 0 (List.length a1) 1),V 16 (iv (List.length a1:Int)),V 17 (iv x101),V 18 (bv (decide (x101 < (List.length a1:Int))))],[(0,.rows 1 (List.map cI a1)),W 1 1 [nilS],W 2 1 [iv 0],W 3 1 [pt 4 4098],(4,.rows 4098 [List.map aI8 x99 ++ [.osl 5 0 (List.length x100) 2]]),(5,.rows 2 (List.map c_S_api_Deduced x100))],6⟩ ?_
  refine jc_seq ?_
  refine jIf ?_ ?_
  ·refine jc_skip ?_
   refine jx_seqN ?_
   refine jc_seq ?_
   refine jc_bind (fun y=>match y with | Sum.inl (x122,x123)=>⟨[V 0 (.fsl 1 (List.map c_L3 a0)),V 4 (pt 1 1),V 5 (pt 2 1),V 6 (pt 3 1),V 15 (.osl 0 0 (List.length a1) 1),V 16 (iv (List.length a1:Int)),V 17 (iv x101)],[(0,.rows 1 (List.map cI a1)),W 1 1 [nilS],W 2 1 [iv 0],W 3 1 [pt 4 4098],(4,.rows 4098 [List.map aI8 x122 ++ [.osl 5 0 (List.length x123) 2]]),(5,.rows 2 (List.map c_S_api_Deduced x123))],6⟩ | Sum.inr _=>⟨[V 4 (pt 1 1),V 5 (pt 3 1)],[(0,.rows 1 (List.map cI a1)),W 1 1 [.osl 2 0 (List.length x100) 2],(2,.rows 2 (List.map c_S_api_Deduced x100)),W 3 1 [iv (-2)]],4⟩) (fun y=>match y with | Sum.inl (x122,x123)=>.normal | Sum.inr _=>.ret) ?_ ?_
   ·refine jc_block ?_
    refine jR ?_
    refine jr_part (i:=0) (mo:=ixl a1 x101) rfl rfl rfl rfl (fun _ hc=>aop_ixo0 (sz:=1) (e:=3) (kk:=.i64) (id:=0) (by kernel_rfl) (by kernel_rfl) (by kernel_rfl) (by kernel_rfl) hc) (fun _=>rfl) ?_
    intro x124 h124
    refine jr_one (i:=1) (v:=iv x124) rfl rfl rfl rfl (aop_ldo (l:=a1) (c:=cI) (id:=0) (k:=(Int.toNat x101)) (sz:=1) (off:=0) (a:=x124) (by kernel_rfl) (by kernel_rfl) (ixl_lt h124).2.2 (by kernel_rfl)) rfl ?_
    refine jG 2 1 ⟨[V 0 (.fsl 1 (List.map c_L3 a0)),V 4 (pt 1 1),V 5 (pt 2 1),V 6 (pt 3 1),V 8 (iv x124),V 15 (.osl 0 0 (List.length a1) 1),V 16 (iv (List.length a1:Int)),V 17 (iv x101)],[(0,.rows 1 (List.map cI a1)),W 1 1 [nilS],W 2 1 [iv 0],W 3 1 [pt 4 4098],(4,.rows 4098 [List.map aI8 x99 ++ [.osl 5 0 (List.length x100) 2]]),(5,.rows 2 (List.map c_S_api_Deduced x100))],6⟩ ?_
    refine jN ?_
    refine jc_seq ?_
    refine jR ?_
    refine jG 0 1 ⟨[V 0 (.fsl 1 (List.map c_L3 a0)),V 4 (pt 1 1),V 5 (pt 2 1),V 6 (pt 3 1),V 8 (iv x124),V 15 (.osl 0 0 (List.length a1) 1),V 16 (iv (List.length a1:Int)),V 17 (iv x101),V 21 (iv x124)],[(0,.rows 1 (List.map cI a1)),W 1 1 [nilS],W 2 1 [iv 0],W 3 1 [pt 4 4098],(4,.rows 4098 [List.map aI8 x99 ++ [.osl 5 0 (List.length x100) 2]]),(5,.rows 2 (List.map c_S_api_Deduced x100))],6⟩ ?_
    refine jK 1 (prop_literal_ok x124) ?_
    intro x125 h125
    refine jG 2 1 ⟨[V 0 (.fsl 1 (List.map c_L3 a0)),V 4 (pt 1 1),V 5 (pt 2 1),V 6 (pt 3 1),V 8 (iv x124),V 15 (.osl 0 0 (List.length a1) 1),V 16 (iv (List.length a1:Int)),V 17 (iv x101),V 23 (bv (!x125))],[(0,.rows 1 (List.map cI a1)),W 1 1 [nilS],W 2 1 [iv 0],W 3 1 [pt 4 4098],(4,.rows 4098 [List.map aI8 x99 ++ [.osl 5 0 (List.length x100) 2]]),(5,.rows 2 (List.map c_S_api_Deduced x100))],6⟩ ?_
    refine jN ?_
    refine jIf ?_ ?_
    ·refine jc_exit ?_
     refine jx_seqE ?_
     refine jx_blkE ?_
     exact jx_mid rfl (wkR [(0,some 0),(1,some 1),(2,some 2),(3,some 3),(4,some 4),(5,some 5)] (fix_of hF (k:=1) rfl) (pc (hL 0 (noid_map ni_I _)) (pc (hC 1) (pc (hC 2) (pc (hC 3) (pc (hA 4) (pc (hL 5 (noid_map ni_S_api_Deduced _)) allp_nil)))))))
    refine jc_skip ?_
    refine jx_seqN ?_
    refine jR ?_
    refine jG 0 2 ⟨[V 0 (.fsl 1 (List.map c_L3 a0)),V 4 (pt 1 1),V 5 (pt 2 1),V 6 (pt 3 1),V 8 (iv x124),V 15 (.osl 0 0 (List.length a1) 1),V 16 (iv (List.length a1:Int)),V 17 (iv x101),V 24 (pt 4 4098),V 25 (iv x124)],[(0,.rows 1 (List.map cI a1)),W 1 1 [nilS],W 2 1 [iv 0],W 3 1 [pt 4 4098],(4,.rows 4098 [List.map aI8 x99 ++ [.osl 5 0 (List.length x100) 2]]),(5,.rows 2 (List.map c_S_api_Deduced x100))],6⟩ ?_
    refine jr_callM 2 [(0,some 4),(1,some 5)] [(4,some 0),(5,some 1)] (fun r:Int=>[(0,.rows 1 (List.map cI a1)),W 1 1 [nilS],W 2 1 [iv 0],W 3 1 [pt 4 4098],(4,.rows 4098 [List.map aI8 x99 ++ [.osl 5 0 (List.length x100) 2]]),(5,.rows 2 (List.map c_S_api_Deduced x100))]) (fun r:Int=>iv r) 6 (prop_sheet_of_ok x99 x100 x124) (pc (hA 4) (pc (hL 5 (noid_map ni_S_api_Deduced _)) allp_nil)) (fun r=>(pc (.inl ⟨rfl,rfl⟩) (pc (.inl ⟨rfl,rfl⟩) (pc (.inl ⟨rfl,rfl⟩) (pc (.inl ⟨rfl,rfl⟩) (pc (.inr (hA 0)) (pc (.inr (hL 1 (noid_map ni_S_api_Deduced _))) allp_nil))))))) ?_
    rintro x126 hm26
    refine jN ?_
    refine jc_block ?_
    refine jS ⟨[V 0 (.fsl 1 (List.map c_L3 a0)),V 4 (pt 1 1),V 5 (pt 2 1),V 6 (pt 3 1),V 8 (iv x124),V 15 (.osl 0 0 (List.length a1) 1),V 16 (iv (List.length a1:Int)),V 17 (iv x101),V 26 (iv x126),V 27 (bv (x126 == (-1)))],[(0,.rows 1 (List.map cI a1)),W 1 1 [nilS],W 2 1 [iv 0],W 3 1 [pt 4 4098],(4,.rows 4098 [List.map aI8 x99 ++ [.osl 5 0 (List.length x100) 2]]),(5,.rows 2 (List.map c_S_api_Deduced x100))],6⟩ ?_
    refine jIf ?_ ?_
    ·refine jR ?_
     refine jG 0 3 ⟨[V 4 (pt 1 1),V 5 (pt 2 1),V 31 (.ptr 4 0 4098 4097)],[(0,.rows 1 (List.map cI a1)),W 1 1 [nilS],W 2 1 [iv 0],(4,.rows 4098 [List.map aI8 x99 ++ [.osl 5 0 (List.length x100) 2]]),(5,.rows 2 (List.map c_S_api_Deduced x100))],6⟩ ?_
     refine jr_guard ?_
     intro x127 h127
     refine jr_one (i:=3) (v:=.osl 5 0 (List.length x100) 2) (us:=[]) rfl rfl rfl rfl (aop_ldr (l:=x99) (c:=aI8) (rest:=[.osl 5 0 (List.length x100) 2]) (id:=4) (sz:=4098) (m:=4097) (q:=0) (by kernel_rfl) (by kernel_rfl) (by kernel_rfl) (by kernel_rfl) (lenA_iff h127) (by kernel_rfl)) rfl ?_
     refine jG 4 2 ⟨[V 4 (pt 1 1),V 5 (pt 2 1)],[(0,.rows 1 (List.map cI a1)),W 1 1 [.osl 5 0 (List.length x100) 2],W 2 1 [iv (-2)],(5,.rows 2 (List.map c_S_api_Deduced x100))],6⟩ ?_
     refine jN ?_
     refine jc_ret ?_
     refine jx_blkR ?_
     refine jx_blkR ?_
     exact jx_mid rfl (wkR [(0,some 0),(1,some 1),(2,some 5),(3,some 2)] (fix_of hF (k:=1) rfl) (pc (hL 0 (noid_map ni_I _)) (pc (hC 1) (pc (hL 5 (noid_map ni_S_api_Deduced _)) (pc (hC 2) allp_nil)))))
    refine jS ⟨[V 0 (.fsl 1 (List.map c_L3 a0)),V 4 (pt 1 1),V 5 (pt 2 1),V 6 (pt 3 1),V 8 (iv x124),V 15 (.osl 0 0 (List.length a1) 1),V 16 (iv (List.length a1:Int)),V 17 (iv x101),V 33 (bv (x126 == 0))],[(0,.rows 1 (List.map cI a1)),W 1 1 [nilS],W 2 1 [iv 0],W 3 1 [pt 4 4098],(4,.rows 4098 [List.map aI8 x99 ++ [.osl 5 0 (List.length x100) 2]]),(5,.rows 2 (List.map c_S_api_Deduced x100))],6⟩ ?_
    refine jIf ?_ ?_
    ·refine jc_reg ?_
     refine jG 0 2 ⟨[V 0 (.fsl 1 (List.map c_L3 a0)),V 4 (pt 1 1),V 5 (pt 2 1),V 6 (pt 3 1),V 15 (.osl 0 0 (List.length a1) 1),V 16 (iv (List.length a1:Int)),V 17 (iv x101),V 35 (pt 4 4098),V 36 (iv x124)],[(0,.rows 1 (List.map cI a1)),W 1 1 [nilS],W 2 1 [iv 0],W 3 1 [pt 4 4098],(4,.rows 4098 [List.map aI8 x99 ++ [.osl 5 0 (List.length x100) 2]]),(5,.rows 2 (List.map c_S_api_Deduced x100))],6⟩ ?_
     refine jr_callM 2 [(0,some 4),(1,some 5)] [(4,some 0),(6,some 2)] (fun r:List Int × List S_api_Deduced=>[(0,.rows 1 (List.map cI a1)),W 1 1 [nilS],W 2 1 [iv 0],W 3 1 [pt 4 4098],(4,.rows 4098 [List.map aI8 r.1 ++ [.osl 6 0 (List.length r.2) 2]]),(6,.rows 2 (List.map c_S_api_Deduced r.2))]) (fun r:List Int × List S_api_Deduced=>.tup []) 7 (prop_sheet_set_ok x99 x100 x124 (-1)) (pc (hA 4) (pc (hL 5 (noid_map ni_S_api_Deduced _)) allp_nil)) (fun r=>(pc (.inl ⟨rfl,rfl⟩) (pc (.inl ⟨rfl,rfl⟩) (pc (.inl ⟨rfl,rfl⟩) (pc (.inl ⟨rfl,rfl⟩) (pc (.inr (hA 0)) (pc (.inr (hL 2 (noid_map ni_S_api_Deduced _))) allp_nil))))))) ?_
     rintro⟨x128,x129⟩ hm25
     refine jr_nil rfl ?_
     refine jx_blkN ?_
     refine jx_blkN ?_
     exact jx_mid rfl (wkR [(0,some 0),(1,some 1),(2,some 2),(3,some 3),(4,some 4),(5,some 6)] (fix_of hF (k:=1) rfl) (pc (hL 0 (noid_map ni_I _)) (pc (hC 1) (pc (hC 2) (pc (hC 3) (pc (hA 4) (pc (hL 6 (noid_map ni_S_api_Deduced _)) allp_nil)))))))
    refine jc_skip ?_
    refine jx_blkN ?_
    refine jx_blkN ?_
    exact jx_mid rfl (wkR [(0,some 0),(1,some 1),(2,some 2),(3,some 3),(4,some 4),(5,some 5)] (fix_of hF (k:=1) rfl) (pc (hL 0 (noid_map ni_I _)) (pc (hC 1) (pc (hC 2) (pc (hC 3) (pc (hA 4) (pc (hL 5 (noid_map ni_S_api_Deduced _)) allp_nil)))))))
   rintro (⟨x122,x123⟩ | _)
   ·refine jx_seqN ?_
    refine jT ⟨[V 0 (.fsl 1 (List.map c_L3 a0)),V 4 (pt 1 1),V 5 (pt 2 1),V 6 (pt 3 1),V 15 (.osl 0 0 (List.length a1) 1),V 16 (iv (List.length a1:Int)),V 17 (iv (w64 (x101 + 1)))],[(0,.rows 1 (List.map cI a1)),W 1 1 [nilS],W 2 1 [iv 0],W 3 1 [pt 4 4098],(4,.rows 4098 [List.map aI8 x122 ++ [.osl 5 0 (List.length x123) 2]]),(5,.rows 2 (List.map c_S_api_Deduced x123))],6⟩ ?_
    exact jx_next (wkR [(0,some 0),(1,some 1),(2,some 2),(3,some 3),(4,some 4),(5,some 5)] (fix_of hF (k:=1) rfl) (pc (hL 0 (noid_map ni_I _)) (pc (hC 1) (pc (hC 2) (pc (hC 3) (pc (hA 4) (pc (hL 5 (noid_map ni_S_api_Deduced _)) allp_nil)))))))
   refine jx_seqR ?_
   exact jx_done rfl nofun (wkR [(0,some 0),(1,some 1),(2,some 2),(3,some 3)] (fix_of hF (k:=1) rfl) (pc (hL 0 (noid_map ni_I _)) (pc (hC 1) (pc (hL 2 (noid_map ni_S_api_Deduced _)) (pc (hC 3) allp_nil)))))
  refine jc_exit ?_
  refine jx_seqE ?_
  exact jx_done rfl nofun (wkR [(0,some 0),(1,some 1),(2,some 2),(3,some 3),(4,some 4),(5,some 5)] (fix_of hF (k:=1) rfl) (pc (hL 0 (noid_map ni_I _)) (pc (hC 1) (pc (hC 2) (pc (hC 3) (pc (hA 4) (pc (hL 5 (noid_map ni_S_api_Deduced _)) allp_nil)))))))
 rintro (x113 | ⟨x114,x115⟩)
 ·refine jx_blkR ?_
  refine jx_seqR ?_
  refine jx_scopeR ?_
  exact jx_retM (prop_Run_m8296_T a0 a1 (x113,(-2))) (.inr rfl) (wkR [(0,some 0),(1,some 1),(2,some 2),(3,some 3)] (fix_of hF (k:=1) rfl) (pc (hL 0 (noid_map ni_I _)) (pc (hC 1) (pc (hL 2 (noid_map ni_S_api_Deduced _)) (pc (hC 3) allp_nil)))))
 refine jx_blkE ?_
 refine jx_seqN ?_
 refine jc_seq ?_
 refine jc_label ?_
 refine jx_seqN ?_
 refine jc_seq ?_
 refine jc_block ?_
 refine jc_bind (fun y=>match y with | Sum.inl (x188,x189)=>⟨[V 4 (pt 1 1),V 5 (pt 3 1)],[(0,.rows 1 (List.map cI a1)),W 1 1 [.osl 2 0 (List.length x188) 2],(2,.rows 2 (List.map c_S_api_Deduced x188)),W 3 1 [iv x189]],4⟩ | Sum.inr (x190,x191)=>⟨[V 4 (pt 1 1),V 5 (pt 2 1),V 6 (pt 3 1)],[(0,.rows 1 (List.map cI a1)),W 1 1 [nilS],W 2 1 [iv 0],W 3 1 [pt 4 4098],(4,.rows 4098 [List.map aI8 x190 ++ [.osl 5 0 (List.length x191) 2]]),(5,.rows 2 (List.map c_S_api_Deduced x191))],6⟩) (fun y=>match y with | Sum.inl (x188,x189)=>.ret | Sum.inr (x190,x191)=>(.exit 3)) (jc_loop (fun (x157,x158)=>⟨[V 0 (.fsl 1 (List.map c_L3 a0)),V 4 (pt 1 1),V 5 (pt 2 1),V 6 (pt 3 1)],[(0,.rows 1 (List.map cI a1)),W 1 1 [nilS],W 2 1 [iv 0],W 3 1 [pt 4 4098],(4,.rows 4098 [List.map aI8 x157 ++ [.osl 5 0 (List.length x158) 2]]),(5,.rows 2 (List.map c_S_api_Deduced x158))],6⟩) (wkR [(0,some 0),(1,some 1),(2,some 2),(3,some 3),(4,some 4),(5,some 5)] (fix_of hF (k:=1) rfl) (pc (hL 0 (noid_map ni_I _)) (pc (hC 1) (pc (hC 2) (pc (hC 3) (pc (hA 4) (pc (hL 5 (noid_map ni_S_api_Deduced _)) allp_nil))))))) ?_) ?_
 ·rintro⟨x157,x158⟩
  unfold prop_Run_m8296_l3
  refine jc_block ?_
  refine jS ⟨[V 0 (.fsl 1 (List.map c_L3 a0)),V 4 (pt 1 1),V 5 (pt 2 1),V 6 (pt 3 1),V 9 (pt 6 1),V 10 (pt 7 1)],[(0,.rows 1 (List.map cI a1)),W 1 1 [nilS],W 2 1 [iv 0],W 3 1 [pt 4 4098],(4,.rows 4098 [List.map aI8 x157 ++ [.osl 5 0 (List.length x158) 2]]),(5,.rows 2 (List.map c_S_api_Deduced x158)),W 6 1 [iv (-1)],W 7 1 [iv 0]],8⟩ ?_
  refine jc_seq ?_
  refine jR ?_
  refine jG 0 2 ⟨[V 0 (.fsl 1 (List.map c_L3 a0)),V 4 (pt 1 1),V 5 (pt 2 1),V 6 (pt 3 1),V 9 (pt 6 1),V 10 (pt 7 1),V 39 (pt 4 4098),V 40 (.fsl 1 (List.map c_L3 a0))],[(0,.rows 1 (List.map cI a1)),W 1 1 [nilS],W 2 1 [iv 0],W 3 1 [pt 4 4098],(4,.rows 4098 [List.map aI8 x157 ++ [.osl 5 0 (List.length x158) 2]]),(5,.rows 2 (List.map c_S_api_Deduced x158)),W 6 1 [iv (-1)],W 7 1 [iv 0]],8⟩ ?_
  refine jr_callM 2 [(0,some 4),(1,some 5)] [(4,some 0),(5,some 1),(8,some 2),(9,some 3)] (fun r:Unit=>[(0,.rows 1 (List.map cI a1)),W 1 1 [nilS],W 2 1 [iv 0],W 3 1 [pt 4 4098],(4,.rows 4098 [List.map aI8 x157 ++ [.osl 5 0 (List.length x158) 2]]),(5,.rows 2 (List.map c_S_api_Deduced x158)),W 6 1 [iv (-1)],W 7 1 [iv 0],W 8 1 [.fsl 1 (List.map c_L3 a0)],W 9 1 [pt 4 4098]]) (fun r:Unit=>.fn 38 [pt 8 1,pt 9 1]) 10 (prop_sheet_counts_ok x157 x158 a0) (pc (hA 4) (pc (hL 5 (noid_map ni_S_api_Deduced _)) allp_nil)) (fun r=>(pc (.inl ⟨rfl,rfl⟩) (pc (.inl ⟨rfl,rfl⟩) (pc (.inl ⟨rfl,rfl⟩) (pc (.inl ⟨rfl,rfl⟩) (pc (.inr (hA 0)) (pc (.inr (hL 1 (noid_map ni_S_api_Deduced _))) (pc (.inl ⟨rfl,rfl⟩) (pc (.inl ⟨rfl,rfl⟩) (pc (.inr (hC 2)) (pc (.inr (hC 3)) allp_nil))))))))))) ?_
  rintro⟨⟩ hm50
  refine jN ?_
  refine jc_block ?_
  refine jc_keep [0,4,5,6,9,10,41] [0,1,2,3,4,5,6,7,8,9] (st1:=⟨[V 0 (.fsl 1 (List.map c_L3 a0)),V 4 (pt 1 1),V 5 (pt 2 1),V 6 (pt 3 1),V 9 (pt 6 1),V 10 (pt 7 1),V 41 (.fn 38 [pt 8 1,pt 9 1])],[(0,.rows 1 (List.map cI a1)),W 1 1 [nilS],W 2 1 [iv 0],W 3 1 [pt 4 4098],(4,.rows 4098 [List.map aI8 x157 ++ [.osl 5 0 (List.length x158) 2]]),(5,.rows 2 (List.map c_S_api_Deduced x158)),W 6 1 [iv (-1)],W 7 1 [iv 0],W 8 1 [.fsl 1 (List.map c_L3 a0)],W 9 1 [pt 4 4098]],10⟩) (by kernel_rfl) ?_
  refine jc_rng (g:=38) (caps:=[pt 8 1,pt 9 1]) (by kernel_rfl) prop_sheet_counts_1_it_k (Nat.le_of_ble_eq_true rfl) ?_
  intro F41 hc41
  refine jR ?_
  refine jG 0 3 ⟨[V 0 (.yld 10),V 2 (pt 9 1),V 8 (.fsl 1 (List.map c_L3 a0)),V 9 (iv (List.length (List.map c_L3 a0):Int)),V 10 (iv 0)],[(0,.rows 1 (List.map cI a1)),W 1 1 [nilS],W 2 1 [iv 0],W 3 1 [pt 4 4098],(4,.rows 4098 [List.map aI8 x157 ++ [.osl 5 0 (List.length x158) 2]]),(5,.rows 2 (List.map c_S_api_Deduced x158)),W 6 1 [iv (-1)],W 7 1 [iv 0],W 8 1 [.fsl 1 (List.map c_L3 a0)],W 9 1 [pt 4 4098],(10,prop_Run_m8296_lp41 a0 .ready none)],11⟩ ?_
  simp only[List.length_map]
  refine jN ?_
  refine jc_block ?_
  refine jc_bind (fun y=>match y with | Sum.inl (x212,x213,x214)=>⟨[],[(0,.rows 1 (List.map cI a1)),W 1 1 [.osl 5 0 (List.length x158) 2],W 2 1 [iv x212],W 3 1 [pt 4 4098],(4,.rows 4098 [List.map aI8 x157 ++ [.osl 5 0 (List.length x158) 2]]),(5,.rows 2 (List.map c_S_api_Deduced x158)),W 6 1 [iv x213],W 7 1 [iv x214],W 8 1 [.fsl 1 (List.map c_L3 a0)],W 9 1 [pt 4 4098],(10,prop_Run_m8296_lp41 a0 .done (some .ret))],11⟩ | Sum.inr (x215,x216)=>⟨[],[(0,.rows 1 (List.map cI a1)),W 1 1 [nilS],W 2 1 [iv 0],W 3 1 [pt 4 4098],(4,.rows 4098 [List.map aI8 x157 ++ [.osl 5 0 (List.length x158) 2]]),(5,.rows 2 (List.map c_S_api_Deduced x158)),W 6 1 [iv x215],W 7 1 [iv x216],W 8 1 [.fsl 1 (List.map c_L3 a0)],W 9 1 [pt 4 4098],(10,prop_Run_m8296_lp41 a0 .ready none)],11⟩) (fun y=>match y with | Sum.inl (x212,x213,x214)=>.ret | Sum.inr (x215,x216)=>(.exit 0)) (jc_loop (fun (x198,x199,x200)=>⟨[V 0 (.yld 10),V 2 (pt 9 1),V 8 (.fsl 1 (List.map c_L3 a0)),V 9 (iv (List.length a0:Int)),V 10 (iv x198)],[(0,.rows 1 (List.map cI a1)),W 1 1 [nilS],W 2 1 [iv 0],W 3 1 [pt 4 4098],(4,.rows 4098 [List.map aI8 x157 ++ [.osl 5 0 (List.length x158) 2]]),(5,.rows 2 (List.map c_S_api_Deduced x158)),W 6 1 [iv x199],W 7 1 [iv x200],W 8 1 [.fsl 1 (List.map c_L3 a0)],W 9 1 [pt 4 4098],(10,prop_Run_m8296_lp41 a0 .ready none)],11⟩) (wkR [(0,some 0),(1,some 1),(2,some 2),(3,some 3),(4,some 4),(5,some 5),(6,some 6),(7,some 7),(8,some 8),(9,some 9),(10,some 10)] (fix_of hc41.2.2 (k:=11) rfl) (pc (hL 0 (noid_map ni_I _)) (pc (hC 1) (pc (hC 2) (pc (hC 3) (pc (hA 4) (pc (hL 5 (noid_map ni_S_api_Deduced _)) (pc (hC 6) (pc (hC 7) (pc (hC 8) (pc (hC 9) (pc (.inr (.inr ⟨10,_,_,rfl,rfl,rfl,by kernel_rfl⟩)) allp_nil)))))))))))) ?_) ?_
  ·rintro⟨x198,x199,x200⟩
   unfold prop_Run_m8296_l2
   refine jS ⟨[V 0 (.yld 10),V 2 (pt 9 1),V 8 (.fsl 1 (List.map c_L3 a0)),V 9 (iv (List.length a0:Int)),V 10 (iv x198),V 11 (bv (decide (x198 < (List.length a0:Int))))],[(0,.rows 1 (List.map cI a1)),W 1 1 [nilS],W 2 1 [iv 0],W 3 1 [pt 4 4098],(4,.rows 4098 [List.map aI8 x157 ++ [.osl 5 0 (List.length x158) 2]]),(5,.rows 2 (List.map c_S_api_Deduced x158)),W 6 1 [iv x199],W 7 1 [iv x200],W 8 1 [.fsl 1 (List.map c_L3 a0)],W 9 1 [pt 4 4098],(10,prop_Run_m8296_lp41 a0 .ready none)],11⟩ ?_
   refine jc_seq ?_
   refine jIf ?_ ?_
   ·refine jc_skip ?_
    refine jx_seqN ?_
    refine jc_seq ?_
    refine jc_block ?_
    refine jR ?_
    refine jG 0 1 ⟨[V 0 (.yld 10),V 2 (pt 9 1),V 8 (.fsl 1 (List.map c_L3 a0)),V 9 (iv (List.length a0:Int)),V 10 (iv x198),V 12 (iv x198)],[(0,.rows 1 (List.map cI a1)),W 1 1 [nilS],W 2 1 [iv 0],W 3 1 [pt 4 4098],(4,.rows 4098 [List.map aI8 x157 ++ [.osl 5 0 (List.length x158) 2]]),(5,.rows 2 (List.map c_S_api_Deduced x158)),W 6 1 [iv x199],W 7 1 [iv x200],W 8 1 [.fsl 1 (List.map c_L3 a0)],W 9 1 [pt 4 4098],(10,prop_Run_m8296_lp41 a0 .ready none)],11⟩ ?_
    refine jr_part (i:=1) (mo:=ixl a0 x198) rfl rfl rfl rfl (fun _ hc=>aop_ixf (c:=c_L3) (sz:=1) (e:=23) (kk:=.i64) (by kernel_rfl) (by kernel_rfl) (by kernel_rfl) (by kernel_rfl) hc) (fun _=>rfl) ?_
    intro x217 h217
    refine jG 2 3 ⟨[V 0 (.yld 10),V 2 (pt 9 1),V 4 (iv x198),V 5 (.fsl 1 (List.map cI x217)),V 8 (.fsl 1 (List.map c_L3 a0)),V 9 (iv (List.length a0:Int)),V 10 (iv x198)],[(0,.rows 1 (List.map cI a1)),W 1 1 [nilS],W 2 1 [iv 0],W 3 1 [pt 4 4098],(4,.rows 4098 [List.map aI8 x157 ++ [.osl 5 0 (List.length x158) 2]]),(5,.rows 2 (List.map c_S_api_Deduced x158)),W 6 1 [iv x199],W 7 1 [iv x200],W 8 1 [.fsl 1 (List.map c_L3 a0)],W 9 1 [pt 4 4098],(10,prop_Run_m8296_lp41 a0 .ready none)],11⟩ ?_
    refine jN ?_
    refine jR ?_
    refine jG 0 2 ⟨[V 0 (.yld 10),V 2 (pt 9 1),V 4 (iv x198),V 8 (.fsl 1 (List.map c_L3 a0)),V 9 (iv (List.length a0:Int)),V 10 (iv x198),V 16 (pt 4 4098),V 17 (.fsl 1 (List.map cI x217))],[(0,.rows 1 (List.map cI a1)),W 1 1 [nilS],W 2 1 [iv 0],W 3 1 [pt 4 4098],(4,.rows 4098 [List.map aI8 x157 ++ [.osl 5 0 (List.length x158) 2]]),(5,.rows 2 (List.map c_S_api_Deduced x158)),W 6 1 [iv x199],W 7 1 [iv x200],W 8 1 [.fsl 1 (List.map c_L3 a0)],W 9 1 [pt 4 4098],(10,prop_Run_m8296_lp41 a0 .ready none)],11⟩ ?_
    refine jr_callM 2 [(0,some 4),(1,some 5)] [(4,some 0),(5,some 1)] (fun r:Bool × Int=>[(0,.rows 1 (List.map cI a1)),W 1 1 [nilS],W 2 1 [iv 0],W 3 1 [pt 4 4098],(4,.rows 4098 [List.map aI8 x157 ++ [.osl 5 0 (List.length x158) 2]]),(5,.rows 2 (List.map c_S_api_Deduced x158)),W 6 1 [iv x199],W 7 1 [iv x200],W 8 1 [.fsl 1 (List.map c_L3 a0)],W 9 1 [pt 4 4098],(10,prop_Run_m8296_lp41 a0 .ready none)]) (fun r:Bool × Int=>.tup [bv r.1,iv r.2]) 11 (prop_sheet_look_ok x157 x158 x217) (pc (hA 4) (pc (hL 5 (noid_map ni_S_api_Deduced _)) allp_nil)) (fun r=>(pc (.inl ⟨rfl,rfl⟩) (pc (.inl ⟨rfl,rfl⟩) (pc (.inl ⟨rfl,rfl⟩) (pc (.inl ⟨rfl,rfl⟩) (pc (.inr (hA 0)) (pc (.inr (hL 1 (noid_map ni_S_api_Deduced _))) (pc (.inl ⟨rfl,rfl⟩) (pc (.inl ⟨rfl,rfl⟩) (pc (.inl ⟨rfl,rfl⟩) (pc (.inl ⟨rfl,rfl⟩) (pc (.inl ⟨rfl,rfl⟩) allp_nil)))))))))))) ?_
    rintro⟨x218,x219⟩ hm48
    refine jG 3 5 ⟨[V 0 (.yld 10),V 2 (pt 9 1),V 4 (iv x198),V 6 (bv x218),V 7 (iv x219),V 8 (.fsl 1 (List.map c_L3 a0)),V 9 (iv (List.length a0:Int)),V 10 (iv x198)],[(0,.rows 1 (List.map cI a1)),W 1 1 [nilS],W 2 1 [iv 0],W 3 1 [pt 4 4098],(4,.rows 4098 [List.map aI8 x157 ++ [.osl 5 0 (List.length x158) 2]]),(5,.rows 2 (List.map c_S_api_Deduced x158)),W 6 1 [iv x199],W 7 1 [iv x200],W 8 1 [.fsl 1 (List.map c_L3 a0)],W 9 1 [pt 4 4098],(10,prop_Run_m8296_lp41 a0 .ready none)],11⟩ ?_
    refine jN ?_
    refine jR ?_
    refine jG 0 6 ⟨[V 0 (.yld 10),V 2 (pt 9 1),V 4 (iv x198),V 7 (iv x219),V 8 (.fsl 1 (List.map c_L3 a0)),V 9 (iv (List.length a0:Int)),V 10 (iv x198),V 26 (bv (x218 || (x219 != 0)))],[(0,.rows 1 (List.map cI a1)),W 1 1 [nilS],W 2 1 [iv 0],W 3 1 [pt 4 4098],(4,.rows 4098 [List.map aI8 x157 ++ [.osl 5 0 (List.length x158) 2]]),(5,.rows 2 (List.map c_S_api_Deduced x158)),W 6 1 [iv x199],W 7 1 [iv x200],W 8 1 [.fsl 1 (List.map c_L3 a0)],W 9 1 [pt 4 4098],(10,prop_Run_m8296_lp41 a0 .ready none)],11⟩ ?_
    refine jr_bind 6 6 (fun y=>match y with | Sum.inl _=>⟨[V 0 (.yld 10),V 2 (pt 9 1),V 8 (.fsl 1 (List.map c_L3 a0)),V 9 (iv (List.length a0:Int)),V 10 (iv x198),V 32 (bv true)],[(0,.rows 1 (List.map cI a1)),W 1 1 [.osl 5 0 (List.length x158) 2],W 2 1 [iv x198],W 3 1 [pt 4 4098],(4,.rows 4098 [List.map aI8 x157 ++ [.osl 5 0 (List.length x158) 2]]),(5,.rows 2 (List.map c_S_api_Deduced x158)),W 6 1 [iv x199],W 7 1 [iv x200],W 8 1 [.fsl 1 (List.map c_L3 a0)],W 9 1 [pt 4 4098],(10,prop_Run_m8296_lp41 a0 .done (some .ret))],11⟩ | Sum.inr (x223,x224)=>⟨[V 0 (.yld 10),V 2 (pt 9 1),V 8 (.fsl 1 (List.map c_L3 a0)),V 9 (iv (List.length a0:Int)),V 10 (iv x198),V 32 (bv false)],[(0,.rows 1 (List.map cI a1)),W 1 1 [nilS],W 2 1 [iv 0],W 3 1 [pt 4 4098],(4,.rows 4098 [List.map aI8 x157 ++ [.osl 5 0 (List.length x158) 2]]),(5,.rows 2 (List.map c_S_api_Deduced x158)),W 6 1 [iv x223],W 7 1 [iv x224],W 8 1 [.fsl 1 (List.map c_L3 a0)],W 9 1 [pt 4 4098],(10,prop_Run_m8296_lp41 a0 .ready none)],11⟩) ?_ ?_
    ·refine jSp 26 ?_ ?_
     ·refine jG 0 3 ⟨[V 0 (.yld 10),V 2 (pt 9 1),V 8 (.fsl 1 (List.map c_L3 a0)),V 9 (iv (List.length a0:Int)),V 10 (iv x198),(26,.lit true),V 27 (.yld 10),V 28 (iv x198),V 29 (iv x219)],[(0,.rows 1 (List.map cI a1)),W 1 1 [nilS],W 2 1 [iv 0],W 3 1 [pt 4 4098],(4,.rows 4098 [List.map aI8 x157 ++ [.osl 5 0 (List.length x158) 2]]),(5,.rows 2 (List.map c_S_api_Deduced x158)),W 6 1 [iv x199],W 7 1 [iv x200],W 8 1 [.fsl 1 (List.map c_L3 a0)],W 9 1 [pt 4 4098],(10,prop_Run_m8296_lp41 a0 .ready none)],11⟩ ?_
      refine jr_yield (i:=3) (l:=10) (Nc:=65) (Kc:=[V 0 (.fsl 1 (List.map c_L3 a0)),V 4 (pt 1 1),V 5 (pt 2 1),V 6 (pt 3 1),V 9 (pt 6 1),V 10 (pt 7 1),V 41 (.fn 38 [pt 8 1,pt 9 1])]) (ps:=[42,43]) (vs:=[iv x198,iv x219]) (fun y=>match y with | Sum.inl _=>⟨[],[(0,.rows 1 (List.map cI a1)),W 1 1 [.osl 5 0 (List.length x158) 2],W 2 1 [iv x198],W 3 1 [pt 4 4098],(4,.rows 4098 [List.map aI8 x157 ++ [.osl 5 0 (List.length x158) 2]]),(5,.rows 2 (List.map c_S_api_Deduced x158)),W 6 1 [iv x199],W 7 1 [iv x200],W 8 1 [.fsl 1 (List.map c_L3 a0)],W 9 1 [pt 4 4098],(10,prop_Run_m8296_lp41 a0 .busy none)],11⟩ | Sum.inr (x226,x227)=>⟨[],[(0,.rows 1 (List.map cI a1)),W 1 1 [nilS],W 2 1 [iv 0],W 3 1 [pt 4 4098],(4,.rows 4098 [List.map aI8 x157 ++ [.osl 5 0 (List.length x158) 2]]),(5,.rows 2 (List.map c_S_api_Deduced x158)),W 6 1 [iv x226],W 7 1 [iv x227],W 8 1 [.fsl 1 (List.map c_L3 a0)],W 9 1 [pt 4 4098],(10,prop_Run_m8296_lp41 a0 .busy none)],11⟩) (fun y=>match y with | Sum.inl _=>.ret | Sum.inr (x226,x227)=>.normal) [0,2,8,9,10,26,30] [0,1,2,3,4,5,6,7,8,9,10] (after:=(fun y=>match y with | Sum.inl _=>⟨[V 0 (.yld 10),V 2 (pt 9 1),V 8 (.fsl 1 (List.map c_L3 a0)),V 9 (iv (List.length a0:Int)),V 10 (iv x198),(26,.lit true),V 30 (bv false)],[(0,.rows 1 (List.map cI a1)),W 1 1 [.osl 5 0 (List.length x158) 2],W 2 1 [iv x198],W 3 1 [pt 4 4098],(4,.rows 4098 [List.map aI8 x157 ++ [.osl 5 0 (List.length x158) 2]]),(5,.rows 2 (List.map c_S_api_Deduced x158)),W 6 1 [iv x199],W 7 1 [iv x200],W 8 1 [.fsl 1 (List.map c_L3 a0)],W 9 1 [pt 4 4098],(10,prop_Run_m8296_lp41 a0 .done (some .ret))],11⟩ | Sum.inr (x226,x227)=>⟨[V 0 (.yld 10),V 2 (pt 9 1),V 8 (.fsl 1 (List.map c_L3 a0)),V 9 (iv (List.length a0:Int)),V 10 (iv x198),(26,.lit true),V 30 (bv true)],[(0,.rows 1 (List.map cI a1)),W 1 1 [nilS],W 2 1 [iv 0],W 3 1 [pt 4 4098],(4,.rows 4098 [List.map aI8 x157 ++ [.osl 5 0 (List.length x158) 2]]),(5,.rows 2 (List.map c_S_api_Deduced x158)),W 6 1 [iv x226],W 7 1 [iv x227],W 8 1 [.fsl 1 (List.map c_L3 a0)],W 9 1 [pt 4 4098],(10,prop_Run_m8296_lp41 a0 .ready none)],11⟩)) rfl rfl prop_Run_m8296_y21_aw prop_Run_m8296_y21_bw (by kernel_rfl) (by kernel_rfl) (yctx_of hc41 rfl) rfl (by kernel_rfl) rfl ?_ (by rintro (_ | ⟨x226,x227⟩) <;> exact⟨none,by kernel_rfl⟩) (by rintro (_ | ⟨x226,x227⟩) <;> kernel_rfl) ?_
      ·intro F47 hy47
       refine jS ⟨[V 4 (pt 1 1),V 5 (pt 2 1),V 6 (pt 3 1),V 9 (pt 6 1),V 10 (pt 7 1),V 11 (iv x198),V 43 (iv x219)],[(0,.rows 1 (List.map cI a1)),W 1 1 [nilS],W 2 1 [iv 0],W 3 1 [pt 4 4098],(4,.rows 4098 [List.map aI8 x157 ++ [.osl 5 0 (List.length x158) 2]]),(5,.rows 2 (List.map c_S_api_Deduced x158)),W 6 1 [iv x199],W 7 1 [iv x200],W 8 1 [.fsl 1 (List.map c_L3 a0)],W 9 1 [pt 4 4098],(10,prop_Run_m8296_lp41 a0 .ready none)],11⟩ ?_
       refine jT ⟨[V 4 (pt 1 1),V 5 (pt 2 1),V 6 (pt 3 1),V 9 (pt 6 1),V 10 (pt 7 1),V 11 (iv x198),V 12 (iv x219)],[(0,.rows 1 (List.map cI a1)),W 1 1 [nilS],W 2 1 [iv 0],W 3 1 [pt 4 4098],(4,.rows 4098 [List.map aI8 x157 ++ [.osl 5 0 (List.length x158) 2]]),(5,.rows 2 (List.map c_S_api_Deduced x158)),W 6 1 [iv x199],W 7 1 [iv x200],W 8 1 [.fsl 1 (List.map c_L3 a0)],W 9 1 [pt 4 4098],(10,prop_Run_m8296_lp41 a0 .ready none)],11⟩ ?_
       refine jx_asg hy47 rfl ?_
       refine jc_block ?_
       refine jc_seq ?_
       refine jS ⟨[V 4 (pt 1 1),V 5 (pt 2 1),V 6 (pt 3 1),V 9 (pt 6 1),V 10 (pt 7 1),V 11 (iv x198),V 12 (iv x219),V 45 (bv (x219 == 0))],[(0,.rows 1 (List.map cI a1)),W 1 1 [nilS],W 2 1 [iv 0],W 3 1 [pt 4 4098],(4,.rows 4098 [List.map aI8 x157 ++ [.osl 5 0 (List.length x158) 2]]),(5,.rows 2 (List.map c_S_api_Deduced x158)),W 6 1 [iv x199],W 7 1 [iv x200],W 8 1 [.fsl 1 (List.map c_L3 a0)],W 9 1 [pt 4 4098],(10,prop_Run_m8296_lp41 a0 .busy none)],11⟩ ?_
       refine jIf ?_ ?_
       ·refine jR ?_
        refine jG 0 3 ⟨[V 4 (pt 1 1),V 5 (pt 2 1),V 11 (iv x198),V 48 (.ptr 4 0 4098 4097)],[(0,.rows 1 (List.map cI a1)),W 1 1 [nilS],W 2 1 [iv 0],W 3 1 [pt 4 4098],(4,.rows 4098 [List.map aI8 x157 ++ [.osl 5 0 (List.length x158) 2]]),(5,.rows 2 (List.map c_S_api_Deduced x158)),W 6 1 [iv x199],W 7 1 [iv x200],W 8 1 [.fsl 1 (List.map c_L3 a0)],W 9 1 [pt 4 4098],(10,prop_Run_m8296_lp41 a0 .busy none)],11⟩ ?_
        refine jr_guard ?_
        intro x228 h228
        refine jr_one (i:=3) (v:=.osl 5 0 (List.length x158) 2) (us:=[]) rfl rfl rfl rfl (aop_ldr (l:=x157) (c:=aI8) (rest:=[.osl 5 0 (List.length x158) 2]) (id:=4) (sz:=4098) (m:=4097) (q:=0) (by kernel_rfl) (by kernel_rfl) (by kernel_rfl) (by kernel_rfl) (lenA_iff h228) (by kernel_rfl)) rfl ?_
        refine jG 4 3 ⟨[],[(0,.rows 1 (List.map cI a1)),W 1 1 [.osl 5 0 (List.length x158) 2],W 2 1 [iv x198],W 3 1 [pt 4 4098],(4,.rows 4098 [List.map aI8 x157 ++ [.osl 5 0 (List.length x158) 2]]),(5,.rows 2 (List.map c_S_api_Deduced x158)),W 6 1 [iv x199],W 7 1 [iv x200],W 8 1 [.fsl 1 (List.map c_L3 a0)],W 9 1 [pt 4 4098],(10,prop_Run_m8296_lp41 a0 .busy none)],11⟩ ?_
        refine jN ?_
        refine jc_ret ?_
        refine jx_seqR ?_
        refine jx_blkR ?_
        exact jx_mid rfl (wkR [(0,some 0),(1,some 1),(2,some 2),(3,some 3),(4,some 4),(5,some 5),(6,some 6),(7,some 7),(8,some 8),(9,some 9),(10,some 10)] (fix_of hy47.2 (k:=11) rfl) (pc (hL 0 (noid_map ni_I _)) (pc (hC 1) (pc (hC 2) (pc (hC 3) (pc (hA 4) (pc (hL 5 (noid_map ni_S_api_Deduced _)) (pc (hC 6) (pc (hC 7) (pc (hC 8) (pc (hC 9) (pc (.inr (.inr ⟨10,_,_,rfl,rfl,rfl,by kernel_rfl⟩)) allp_nil))))))))))))
       refine jc_skip ?_
       refine jx_seqN ?_
       refine jS ⟨[V 9 (pt 6 1),V 10 (pt 7 1),V 11 (iv x198),V 12 (iv x219),V 52 (bv (decide (x199 < 0)))],[(0,.rows 1 (List.map cI a1)),W 1 1 [nilS],W 2 1 [iv 0],W 3 1 [pt 4 4098],(4,.rows 4098 [List.map aI8 x157 ++ [.osl 5 0 (List.length x158) 2]]),(5,.rows 2 (List.map c_S_api_Deduced x158)),W 6 1 [iv x199],W 7 1 [iv x200],W 8 1 [.fsl 1 (List.map c_L3 a0)],W 9 1 [pt 4 4098],(10,prop_Run_m8296_lp41 a0 .busy none)],11⟩ ?_
       refine jIf ?_ ?_
       ·refine jT ⟨[],[(0,.rows 1 (List.map cI a1)),W 1 1 [nilS],W 2 1 [iv 0],W 3 1 [pt 4 4098],(4,.rows 4098 [List.map aI8 x157 ++ [.osl 5 0 (List.length x158) 2]]),(5,.rows 2 (List.map c_S_api_Deduced x158)),W 6 1 [iv x198],W 7 1 [iv x219],W 8 1 [.fsl 1 (List.map c_L3 a0)],W 9 1 [pt 4 4098],(10,prop_Run_m8296_lp41 a0 .busy none)],11⟩ ?_
        refine jx_blkN ?_
        exact jx_mid rfl (wkR [(0,some 0),(1,some 1),(2,some 2),(3,some 3),(4,some 4),(5,some 5),(6,some 6),(7,some 7),(8,some 8),(9,some 9),(10,some 10)] (fix_of hy47.2 (k:=11) rfl) (pc (hL 0 (noid_map ni_I _)) (pc (hC 1) (pc (hC 2) (pc (hC 3) (pc (hA 4) (pc (hL 5 (noid_map ni_S_api_Deduced _)) (pc (hC 6) (pc (hC 7) (pc (hC 8) (pc (hC 9) (pc (.inr (.inr ⟨10,_,_,rfl,rfl,rfl,by kernel_rfl⟩)) allp_nil))))))))))))
       refine jc_skip ?_
       refine jx_blkN ?_
       exact jx_mid rfl (wkR [(0,some 0),(1,some 1),(2,some 2),(3,some 3),(4,some 4),(5,some 5),(6,some 6),(7,some 7),(8,some 8),(9,some 9),(10,some 10)] (fix_of hy47.2 (k:=11) rfl) (pc (hL 0 (noid_map ni_I _)) (pc (hC 1) (pc (hC 2) (pc (hC 3) (pc (hA 4) (pc (hL 5 (noid_map ni_S_api_Deduced _)) (pc (hC 6) (pc (hC 7) (pc (hC 8) (pc (hC 9) (pc (.inr (.inr ⟨10,_,_,rfl,rfl,rfl,by kernel_rfl⟩)) allp_nil))))))))))))
      rintro (_ | ⟨x226,x227⟩)
      ·refine jG 4 2 ⟨[V 0 (.yld 10),V 2 (pt 9 1),V 8 (.fsl 1 (List.map c_L3 a0)),V 9 (iv (List.length a0:Int)),V 10 (iv x198),V 32 (bv true)],[(0,.rows 1 (List.map cI a1)),W 1 1 [.osl 5 0 (List.length x158) 2],W 2 1 [iv x198],W 3 1 [pt 4 4098],(4,.rows 4098 [List.map aI8 x157 ++ [.osl 5 0 (List.length x158) 2]]),(5,.rows 2 (List.map c_S_api_Deduced x158)),W 6 1 [iv x199],W 7 1 [iv x200],W 8 1 [.fsl 1 (List.map c_L3 a0)],W 9 1 [pt 4 4098],(10,prop_Run_m8296_lp41 a0 .done (some .ret))],11⟩ ?_
       refine jr_nil rfl ?_
       exact jx_mid rfl (wkR [(0,some 0),(1,some 1),(2,some 2),(3,some 3),(4,some 4),(5,some 5),(6,some 6),(7,some 7),(8,some 8),(9,some 9),(10,some 10)] (fix_of hc41.2.2 (k:=11) rfl) (pc (hL 0 (noid_map ni_I _)) (pc (hC 1) (pc (hC 2) (pc (hC 3) (pc (hA 4) (pc (hL 5 (noid_map ni_S_api_Deduced _)) (pc (hC 6) (pc (hC 7) (pc (hC 8) (pc (hC 9) (pc (.inr (.inr ⟨10,_,_,rfl,rfl,rfl,by kernel_rfl⟩)) allp_nil))))))))))))
      refine jG 4 2 ⟨[V 0 (.yld 10),V 2 (pt 9 1),V 8 (.fsl 1 (List.map c_L3 a0)),V 9 (iv (List.length a0:Int)),V 10 (iv x198),V 32 (bv false)],[(0,.rows 1 (List.map cI a1)),W 1 1 [nilS],W 2 1 [iv 0],W 3 1 [pt 4 4098],(4,.rows 4098 [List.map aI8 x157 ++ [.osl 5 0 (List.length x158) 2]]),(5,.rows 2 (List.map c_S_api_Deduced x158)),W 6 1 [iv x226],W 7 1 [iv x227],W 8 1 [.fsl 1 (List.map c_L3 a0)],W 9 1 [pt 4 4098],(10,prop_Run_m8296_lp41 a0 .ready none)],11⟩ ?_
      refine jr_nil rfl ?_
      exact jx_mid rfl (wkR [(0,some 0),(1,some 1),(2,some 2),(3,some 3),(4,some 4),(5,some 5),(6,some 6),(7,some 7),(8,some 8),(9,some 9),(10,some 10)] (fix_of hc41.2.2 (k:=11) rfl) (pc (hL 0 (noid_map ni_I _)) (pc (hC 1) (pc (hC 2) (pc (hC 3) (pc (hA 4) (pc (hL 5 (noid_map ni_S_api_Deduced _)) (pc (hC 6) (pc (hC 7) (pc (hC 8) (pc (hC 9) (pc (.inr (.inr ⟨10,_,_,rfl,rfl,rfl,by kernel_rfl⟩)) allp_nil))))))))))))
     refine jG 0 6 ⟨[V 0 (.yld 10),V 2 (pt 9 1),V 8 (.fsl 1 (List.map c_L3 a0)),V 9 (iv (List.length a0:Int)),V 10 (iv x198),V 32 (bv false)],[(0,.rows 1 (List.map cI a1)),W 1 1 [nilS],W 2 1 [iv 0],W 3 1 [pt 4 4098],(4,.rows 4098 [List.map aI8 x157 ++ [.osl 5 0 (List.length x158) 2]]),(5,.rows 2 (List.map c_S_api_Deduced x158)),W 6 1 [iv x199],W 7 1 [iv x200],W 8 1 [.fsl 1 (List.map c_L3 a0)],W 9 1 [pt 4 4098],(10,prop_Run_m8296_lp41 a0 .ready none)],11⟩ ?_
     refine jr_nil rfl ?_
     exact jx_mid rfl (wkR [(0,some 0),(1,some 1),(2,some 2),(3,some 3),(4,some 4),(5,some 5),(6,some 6),(7,some 7),(8,some 8),(9,some 9),(10,some 10)] (fix_of hc41.2.2 (k:=11) rfl) (pc (hL 0 (noid_map ni_I _)) (pc (hC 1) (pc (hC 2) (pc (hC 3) (pc (hA 4) (pc (hL 5 (noid_map ni_S_api_Deduced _)) (pc (hC 6) (pc (hC 7) (pc (hC 8) (pc (hC 9) (pc (.inr (.inr ⟨10,_,_,rfl,rfl,rfl,by kernel_rfl⟩)) allp_nil))))))))))))
    rintro (_ | ⟨x223,x224⟩)
    ·refine jN ?_
     refine jc_condK (c:=true) (by kernel_rfl) ?_
     refine jc_ret ?_
     refine jx_blkR ?_
     refine jx_seqR ?_
     exact jx_done rfl nofun (wkR [(0,some 0),(1,some 1),(2,some 2),(3,some 3),(4,some 4),(5,some 5),(6,some 6),(7,some 7),(8,some 8),(9,some 9),(10,some 10)] (fix_of hc41.2.2 (k:=11) rfl) (pc (hL 0 (noid_map ni_I _)) (pc (hC 1) (pc (hC 2) (pc (hC 3) (pc (hA 4) (pc (hL 5 (noid_map ni_S_api_Deduced _)) (pc (hC 6) (pc (hC 7) (pc (hC 8) (pc (hC 9) (pc (.inr (.inr ⟨10,_,_,rfl,rfl,rfl,by kernel_rfl⟩)) allp_nil))))))))))))
    refine jN ?_
    refine jc_condK (c:=false) (by kernel_rfl) ?_
    refine jc_skip ?_
    refine jx_blkN ?_
    refine jx_seqN ?_
    refine jT ⟨[V 0 (.yld 10),V 2 (pt 9 1),V 8 (.fsl 1 (List.map c_L3 a0)),V 9 (iv (List.length a0:Int)),V 10 (iv (w64 (x198 + 1)))],[(0,.rows 1 (List.map cI a1)),W 1 1 [nilS],W 2 1 [iv 0],W 3 1 [pt 4 4098],(4,.rows 4098 [List.map aI8 x157 ++ [.osl 5 0 (List.length x158) 2]]),(5,.rows 2 (List.map c_S_api_Deduced x158)),W 6 1 [iv x223],W 7 1 [iv x224],W 8 1 [.fsl 1 (List.map c_L3 a0)],W 9 1 [pt 4 4098],(10,prop_Run_m8296_lp41 a0 .ready none)],11⟩ ?_
    exact jx_next (wkR [(0,some 0),(1,some 1),(2,some 2),(3,some 3),(4,some 4),(5,some 5),(6,some 6),(7,some 7),(8,some 8),(9,some 9),(10,some 10)] (fix_of hc41.2.2 (k:=11) rfl) (pc (hL 0 (noid_map ni_I _)) (pc (hC 1) (pc (hC 2) (pc (hC 3) (pc (hA 4) (pc (hL 5 (noid_map ni_S_api_Deduced _)) (pc (hC 6) (pc (hC 7) (pc (hC 8) (pc (hC 9) (pc (.inr (.inr ⟨10,_,_,rfl,rfl,rfl,by kernel_rfl⟩)) allp_nil))))))))))))
   refine jc_exit ?_
   refine jx_seqE ?_
   exact jx_done rfl nofun (wkR [(0,some 0),(1,some 1),(2,some 2),(3,some 3),(4,some 4),(5,some 5),(6,some 6),(7,some 7),(8,some 8),(9,some 9),(10,some 10)] (fix_of hc41.2.2 (k:=11) rfl) (pc (hL 0 (noid_map ni_I _)) (pc (hC 1) (pc (hC 2) (pc (hC 3) (pc (hA 4) (pc (hL 5 (noid_map ni_S_api_Deduced _)) (pc (hC 6) (pc (hC 7) (pc (hC 8) (pc (hC 9) (pc (.inr (.inr ⟨10,_,_,rfl,rfl,rfl,by kernel_rfl⟩)) allp_nil))))))))))))
  rintro (⟨x212,x213,x214⟩ | ⟨x215,x216⟩)
  ·refine jx_blkR ?_
   refine jx_rng hc41 (.inr rfl) rfl nofun rfl ?_
   refine jx_blkR ?_
   refine jx_seqR ?_
   refine jx_blkR ?_
   exact jx_done rfl nofun (wkR [(0,some 0),(1,some 1),(2,some 5),(3,some 2)] (fix_of hF (k:=1) rfl) (pc (hL 0 (noid_map ni_I _)) (pc (hC 1) (pc (hL 5 (noid_map ni_S_api_Deduced _)) (pc (hC 2) allp_nil)))))
  refine jx_blkE ?_
  refine jx_rng hc41 (.inl rfl) rfl nofun rfl ?_
  refine jx_blkN ?_
  refine jx_seqN ?_
  refine jc_seq ?_
  refine jS ⟨[V 0 (.fsl 1 (List.map c_L3 a0)),V 4 (pt 1 1),V 5 (pt 2 1),V 6 (pt 3 1),V 9 (pt 6 1),V 10 (pt 7 1),V 56 (bv (decide (x215 < 0)))],[(0,.rows 1 (List.map cI a1)),W 1 1 [nilS],W 2 1 [iv 0],W 3 1 [pt 4 4098],(4,.rows 4098 [List.map aI8 x157 ++ [.osl 5 0 (List.length x158) 2]]),(5,.rows 2 (List.map c_S_api_Deduced x158)),W 6 1 [iv x215],W 7 1 [iv x216]],11⟩ ?_
  refine jIf ?_ ?_
  ·refine jc_exit ?_
   refine jx_seqE ?_
   refine jx_blkX rfl ?_
   exact jx_done rfl nofun (wkR [(0,some 0),(1,some 1),(2,some 2),(3,some 3),(4,some 4),(5,some 5)] (fix_of hF (k:=1) rfl) (pc (hL 0 (noid_map ni_I _)) (pc (hC 1) (pc (hC 2) (pc (hC 3) (pc (hA 4) (pc (hL 5 (noid_map ni_S_api_Deduced _)) allp_nil)))))))
  refine jc_skip ?_
  refine jx_seqN ?_
  refine jc_reg ?_
  refine jG 0 3 ⟨[V 0 (.fsl 1 (List.map c_L3 a0)),V 4 (pt 1 1),V 5 (pt 2 1),V 6 (pt 3 1),V 57 (pt 4 4098),V 58 (iv x216),V 59 (iv x215)],[(0,.rows 1 (List.map cI a1)),W 1 1 [nilS],W 2 1 [iv 0],W 3 1 [pt 4 4098],(4,.rows 4098 [List.map aI8 x157 ++ [.osl 5 0 (List.length x158) 2]]),(5,.rows 2 (List.map c_S_api_Deduced x158))],11⟩ ?_
  refine jr_callM 3 [(0,some 4),(1,some 5)] [(4,some 0),(11,some 2)] (fun r:List Int × List S_api_Deduced=>[(0,.rows 1 (List.map cI a1)),W 1 1 [nilS],W 2 1 [iv 0],W 3 1 [pt 4 4098],(4,.rows 4098 [List.map aI8 r.1 ++ [.osl 11 0 (List.length r.2) 2]]),(11,.rows 2 (List.map c_S_api_Deduced r.2))]) (fun r:List Int × List S_api_Deduced=>.tup []) 12 (prop_sheet_set_ok x157 x158 x216 x215) (pc (hA 4) (pc (hL 5 (noid_map ni_S_api_Deduced _)) allp_nil)) (fun r=>(pc (.inl ⟨rfl,rfl⟩) (pc (.inl ⟨rfl,rfl⟩) (pc (.inl ⟨rfl,rfl⟩) (pc (.inl ⟨rfl,rfl⟩) (pc (.inr (hA 0)) (pc (.inr (hL 2 (noid_map ni_S_api_Deduced _))) allp_nil))))))) ?_
  rintro⟨x229,x230⟩ hm49
  refine jr_nil rfl ?_
  refine jx_blkN ?_
  exact jx_next (wkR [(0,some 0),(1,some 1),(2,some 2),(3,some 3),(4,some 4),(5,some 11)] (fix_of hF (k:=1) rfl) (pc (hL 0 (noid_map ni_I _)) (pc (hC 1) (pc (hC 2) (pc (hC 3) (pc (hA 4) (pc (hL 11 (noid_map ni_S_api_Deduced _)) allp_nil)))))))
 rintro (⟨x188,x189⟩ | ⟨x190,x191⟩)
 ·refine jx_blkR ?_
  refine jx_seqR ?_
  refine jx_scopeR ?_
  exact jx_retM (prop_Run_m8296_T a0 a1 (x188,x189)) (.inr rfl) (wkR [(0,some 0),(1,some 1),(2,some 2),(3,some 3)] (fix_of hF (k:=1) rfl) (pc (hL 0 (noid_map ni_I _)) (pc (hC 1) (pc (hL 2 (noid_map ni_S_api_Deduced _)) (pc (hC 3) allp_nil)))))
 refine jx_blkE ?_
 refine jx_seqN ?_
 refine jR ?_
 refine jG 0 3 ⟨[V 4 (pt 1 1),V 5 (pt 2 1),V 63 (.ptr 4 0 4098 4097)],[(0,.rows 1 (List.map cI a1)),W 1 1 [nilS],W 2 1 [iv 0],(4,.rows 4098 [List.map aI8 x190 ++ [.osl 5 0 (List.length x191) 2]]),(5,.rows 2 (List.map c_S_api_Deduced x191))],6⟩ ?_
 refine jr_guard ?_
 intro x231 h231
 refine jr_one (i:=3) (v:=.osl 5 0 (List.length x191) 2) (us:=[]) rfl rfl rfl rfl (aop_ldr (l:=x190) (c:=aI8) (rest:=[.osl 5 0 (List.length x191) 2]) (id:=4) (sz:=4098) (m:=4097) (q:=0) (by kernel_rfl) (by kernel_rfl) (by kernel_rfl) (by kernel_rfl) (lenA_iff h231) (by kernel_rfl)) rfl ?_
 refine jG 4 2 ⟨[V 4 (pt 1 1),V 5 (pt 2 1)],[(0,.rows 1 (List.map cI a1)),W 1 1 [.osl 5 0 (List.length x191) 2],W 2 1 [iv (-1)],(5,.rows 2 (List.map c_S_api_Deduced x191))],6⟩ ?_
 refine jN ?_
 refine jc_ret ?_
 refine jx_scopeR ?_
 exact jx_retM (prop_Run_m8296_T a0 a1 (x191,(-1))) (.inr rfl) (wkR [(0,some 0),(1,some 1),(2,some 5),(3,some 2)] (fix_of hF (k:=1) rfl) (pc (hL 0 (noid_map ni_I _)) (pc (hC 1) (pc (hL 5 (noid_map ni_S_api_Deduced _)) (pc (hC 2) allp_nil))))))
abbrev prop_Follows_r1:List LO:=[lo 4 (.assign (.const (.bool false))) 4]
abbrev prop_Follows_r2:List LO:=[lo 5 (.assign (.const (.slice none 0 0))) 23]
abbrev prop_Follows_r3:List LO:=[lm 10 1 23,lo 11 (.call ⟨.builtin .len,#[.tmp 10],#[23]⟩) 3,lo 12 (.move (.const (.int .i64 0))) 3]
abbrev prop_Follows_r4:List LO:=[lo 13 (.binOp .lss 3 (.tmp 12) (.tmp 11) 3) 0]
abbrev prop_Follows_r5:List LO:=[lo 14 (.indexAddr 23 (.tmp 10) (.tmp 12)) 0,lo 15 (.load 3 (.tmp 14)) 3,lo 7 (.assign (.tmp 15)) 3]
abbrev prop_Follows_r6:List LO:=[lm 16 7 3,lo 17 (.call ⟨.value (.func 21),#[.tmp 16],#[3]⟩) 4,lo 18 (.unOp .not 4 (.tmp 17)) 4]
abbrev prop_Follows_r7:List LO:=[lo 4 (.assign (.const (.bool false))) 4]
abbrev prop_Follows_r8:List LO:=[lm 19 5 23,lm 20 7 3,lo 21 (.unOp .neg 3 (.tmp 20)) 3,lo 22 (.buildSlice 23 1 #[(0,.tmp 21)]) 23,lo 23 (.call ⟨.builtin .append,#[.tmp 19,.tmp 22],#[23,23]⟩) 23,lo 5 (.assign (.tmp 23)) 23]
abbrev prop_Follows_r9:List LO:=[lo 24 (.binOp .add 3 (.tmp 12) (.const (.int .i64 1)) 3) 3,lm 12 24 3]
abbrev prop_Follows_r10:List LO:=[lm 26 0 22,lm 27 5 23,lo 28 (.call ⟨.value (.func 14),#[.tmp 26,.tmp 27],#[22,23]⟩) 33,lm 25 28 33,lo 29 (.extract (.tmp 25) 0) 24,lo 30 (.extract (.tmp 25) 1) 3,lo 8 (.assign (.tmp 29)) 24,lo 9 (.assign (.tmp 30)) 3]
abbrev prop_Follows_r11:List LO:=[lm 31 9 3,lo 32 (.binOp .neq 3 (.tmp 31) (.const (.int .i64 (-1))) 3) 4,lo 4 (.assign (.tmp 32)) 4]
abbrev prop_Follows_c:LC:=.seq (.reg false prop_Follows_r1) (.seq (.reg false prop_Follows_r2) (.seq (.seq (.reg false prop_Follows_r3) (.block 0 (.loop (.seq (.reg false prop_Follows_r4) (.seq (.cond (.tmp 13) .skip (.exit 0)) (.seq (.block 1 (.seq (.reg false prop_Follows_r5) (.seq (.seq (.reg false prop_Follows_r6) (.cond (.tmp 18) (.seq (.reg false prop_Follows_r7) .ret) .skip)) (.reg false prop_Follows_r8)))) (.reg false prop_Follows_r9))))))) (.seq (.reg false prop_Follows_r10) (.seq (.reg false prop_Follows_r11) .ret))))
theorem prop_Follows_k:FnOk E 8 33 [.tmp 4] prop_Follows_c:=⟨⟨Go.Proofs.Try.f8,by kernel_rfl,by kernel_rfl,by kernel_rfl,by kernel_rfl,by kernel_rfl⟩,rfl,rfl⟩
noncomputable def prop_Follows_l1 (a1:(List Int)):(List Int × Int)→Option (Step (List Int × Int) ((Unit) ⊕ (List Int))):=fun (x4,x5)=>(if (decide (x5 < (List.length a1:Int)))=true then Option.bind (ixl a1 x5) (fun x12=>Option.bind (prop_literal x12) (fun x13=>(if (!x13)=true then some (Step.done (Sum.inl ())) else Option.bind (app 8 x4 [(w64 (0 - x12))]) (fun x14=>some (Step.next (x14,(w64 (x5 + 1)))))))) else some (Step.done (Sum.inr x4)))
noncomputable def prop_Follows (a0:(List (List Int))) (a1:(List Int)):Option (Bool):=Option.bind (loopC (prop_Follows_l1 a1) ([],0)) (fun y=>match y with | Sum.inl _=>some false | Sum.inr x11=>Option.bind (prop_Run_m8296 a0 x11) (fun (x15,x16)=>some (x16 != (-1))))
theorem prop_Follows_ok (a0:(List (List Int))) (a1:(List Int)):Ct E 8 [.fsl 1 (List.map c_L3 a0),.fsl 1 (List.map cI a1)] (prop_Follows a0 a1) (fun r:Bool=>bv r):=ct_intro (N:=33) (L:=prop_Follows_c) prop_Follows_k rfl (Nat.le_of_ble_eq_true rfl) (by kernel_rfl) (by
 unfold prop_Follows
 refine jS ⟨[V 0 (.fsl 1 (List.map c_L3 a0)),V 1 (.fsl 1 (List.map cI a1))],[],0⟩ ?_
 refine jS ⟨[V 0 (.fsl 1 (List.map c_L3 a0)),V 1 (.fsl 1 (List.map cI a1)),V 5 (nilS)],[],0⟩ ?_
 refine jc_seq ?_
 refine jR ?_
 refine jG 0 3 ⟨[V 0 (.fsl 1 (List.map c_L3 a0)),V 5 (nilS),V 10 (.fsl 1 (List.map cI a1)),V 11 (iv (List.length (List.map cI a1):Int)),V 12 (iv 0)],[],0⟩ ?_
 simp only[List.length_map]
 refine jN ?_
 refine jc_block ?_
 refine jc_bind (fun y=>match y with | Sum.inl _=>⟨[V 4 (bv false)],[],0⟩ | Sum.inr x11=>⟨[V 0 (.fsl 1 (List.map c_L3 a0)),V 5 (.osl 0 0 (List.length x11) 1)],[(0,.rows 1 (List.map cI x11))],1⟩) (fun y=>match y with | Sum.inl _=>.ret | Sum.inr x11=>(.exit 0)) (jc_loop (fun (x4,x5)=>⟨[V 0 (.fsl 1 (List.map c_L3 a0)),V 5 (.osl 0 0 (List.length x4) 1),V 10 (.fsl 1 (List.map cI a1)),V 11 (iv (List.length a1:Int)),V 12 (iv x5)],[(0,.rows 1 (List.map cI x4))],1⟩) (wkR [(0,none)] (fix_nil _) (pc hZ allp_nil)) ?_) ?_
 ·rintro⟨x4,x5⟩
  unfold prop_Follows_l1
  refine jS ⟨[V 0 (.fsl 1 (List.map c_L3 a0)),V 5 (.osl 0 0 (List.length x4) 1),V 10 (.fsl 1 (List.map cI a1)),V 11 (iv (List.length a1:Int)),V 12 (iv x5),V 13 (bv (decide (x5 < (List.length a1:Int))))],[(0,.rows 1 (List.map cI x4))],1⟩ ?_
  refine jc_seq ?_
  refine jIf ?_ ?_
  ·refine jc_skip ?_
   refine jx_seqN ?_
   refine jc_seq ?_
   refine jc_block ?_
   refine jR ?_
   refine jr_part (i:=0) (mo:=ixl a1 x5) rfl rfl rfl rfl (fun _ hc=>aop_ixf (c:=cI) (sz:=1) (e:=3) (kk:=.i64) (by kernel_rfl) (by kernel_rfl) (by kernel_rfl) (by kernel_rfl) hc) (fun _=>rfl) ?_
   intro x12 h12
   refine jG 1 2 ⟨[V 0 (.fsl 1 (List.map c_L3 a0)),V 5 (.osl 0 0 (List.length x4) 1),V 7 (iv x12),V 10 (.fsl 1 (List.map cI a1)),V 11 (iv (List.length a1:Int)),V 12 (iv x5)],[(0,.rows 1 (List.map cI x4))],1⟩ ?_
   refine jN ?_
   refine jc_seq ?_
   refine jR ?_
   refine jG 0 1 ⟨[V 0 (.fsl 1 (List.map c_L3 a0)),V 5 (.osl 0 0 (List.length x4) 1),V 7 (iv x12),V 10 (.fsl 1 (List.map cI a1)),V 11 (iv (List.length a1:Int)),V 12 (iv x5),V 16 (iv x12)],[(0,.rows 1 (List.map cI x4))],1⟩ ?_
   refine jK 1 (prop_literal_ok x12) ?_
   intro x13 h13
   refine jG 2 1 ⟨[V 0 (.fsl 1 (List.map c_L3 a0)),V 5 (.osl 0 0 (List.length x4) 1),V 7 (iv x12),V 10 (.fsl 1 (List.map cI a1)),V 11 (iv (List.length a1:Int)),V 12 (iv x5),V 18 (bv (!x13))],[(0,.rows 1 (List.map cI x4))],1⟩ ?_
   refine jN ?_
   refine jIf ?_ ?_
   ·refine jS ⟨[V 4 (bv false)],[],1⟩ ?_
    refine jc_ret ?_
    refine jx_seqR ?_
    refine jx_blkR ?_
    refine jx_seqR ?_
    exact jx_done rfl nofun (wkR [] (fix_nil _) allp_nil)
   refine jc_skip ?_
   refine jx_seqN ?_
   refine jc_reg ?_
   refine jG 0 4 ⟨[V 0 (.fsl 1 (List.map c_L3 a0)),V 10 (.fsl 1 (List.map cI a1)),V 11 (iv (List.length a1:Int)),V 12 (iv x5),V 19 (.osl 0 0 (List.length x4) 1),V 22 (.osl 1 0 (List.length [(w64 (0 - x12))]) 1)],[(0,.rows 1 (List.map cI x4)),(1,.rows 1 (List.map cI [(w64 (0 - x12))]))],2⟩ ?_
   refine jr_part (i:=4) (mo:=app 8 x4 [(w64 (0 - x12))]) rfl rfl rfl rfl (fun _ hc=>aop_app (u:=.osl 0 0 (List.length x4) 1) (w:=.osl 1 0 (List.length [(w64 (0 - x12))]) 1) (e:=3) (td:=.slice 3) (by kernel_rfl) (by kernel_rfl) (by kernel_rfl) (by kernel_rfl) (.inl ⟨_,rfl⟩) (appendOf_own (c:=cI) (sz:=1) (b:=8) (id:=0) (by kernel_rfl) (by kernel_rfl) (rows_own (by kernel_rfl)) (List.cons_ne_nil _ _) hc)) (fun _=>rfl) ?_
   intro x14 h14
   refine jG 5 1 ⟨[V 0 (.fsl 1 (List.map c_L3 a0)),V 5 (.osl 2 0 (List.length x14) 1),V 10 (.fsl 1 (List.map cI a1)),V 11 (iv (List.length a1:Int)),V 12 (iv x5)],[(2,.rows 1 (List.map cI x14))],3⟩ ?_
   refine jr_nil rfl ?_
   refine jx_blkN ?_
   refine jx_seqN ?_
   refine jT ⟨[V 0 (.fsl 1 (List.map c_L3 a0)),V 5 (.osl 2 0 (List.length x14) 1),V 10 (.fsl 1 (List.map cI a1)),V 11 (iv (List.length a1:Int)),V 12 (iv (w64 (x5 + 1)))],[(2,.rows 1 (List.map cI x14))],3⟩ ?_
   exact jx_next (wkR [(0,some 2)] (fix_nil _) (pc (hL 2 (noid_map ni_I _)) allp_nil))
  refine jc_exit ?_
  refine jx_seqE ?_
  exact jx_done rfl nofun (wkR [(0,some 0)] (fix_nil _) (pc (hL 0 (noid_map ni_I _)) allp_nil))
 rintro (_ | x11)
 ·refine jx_blkR ?_
  refine jx_seqR ?_
  exact jx_retF (.inr rfl) (v:=bv false) (by kernel_rfl) rfl (fle_refl _)
 refine jx_blkE ?_
 refine jx_seqN ?_
 refine jR ?_
 refine jG 0 2 ⟨[V 26 (.fsl 1 (List.map c_L3 a0)),V 27 (.osl 0 0 (List.length x11) 1)],[(0,.rows 1 (List.map cI x11))],1⟩ ?_
 refine jr_callM 2 [(0,some 0)] [(0,some 0),(2,some 2)] (fun r:List S_api_Deduced × Int=>[(0,.rows 1 (List.map cI x11)),(2,.rows 2 (List.map c_S_api_Deduced r.1))]) (fun r:List S_api_Deduced × Int=>.tup [.osl 2 0 (List.length r.1) 2,iv r.2]) 4 (prop_Run_m8296_ok a0 x11) (pc (hL 0 (noid_map ni_I _)) allp_nil) (fun r=>(pc (.inr (hL 0 (noid_map ni_I _))) (pc (.inr (hL 2 (noid_map ni_S_api_Deduced _))) allp_nil))) ?_
 rintro⟨x15,x16⟩ hm1
 refine jG 3 5 ⟨[V 9 (iv x16)],[],4⟩ ?_
 refine jN ?_
 refine jS ⟨[V 4 (bv (x16 != (-1)))],[],4⟩ ?_
 refine jc_ret ?_
 exact jx_retF (.inr rfl) (v:=bv (x16 != (-1))) (by kernel_rfl) rfl (fle_refl _))
abbrev ref26_Run_m8296_r1:List LO:=[lo 4 (.assign (.const (.slice none 0 0))) 24,lo 5 (.assign (.const (.int .i64 0))) 3]
abbrev ref26_Run_m8296_r2:List LO:=[lo 10 (.build 61 #[]) 61,lo 11 (.box 61 (.tmp 10)) 58,lo 6 (.assign (.tmp 11)) 58]
abbrev ref26_Run_m8296_r3:List LO:=[lo 7 (.assign (.const (.int .i64 0))) 3]
abbrev ref26_Run_m8296_r4:List LO:=[lm 12 7 3,lm 13 1 23,lo 14 (.call ⟨.builtin .len,#[.tmp 13],#[23]⟩) 3,lo 15 (.binOp .lss 3 (.tmp 12) (.tmp 14) 3) 4]
abbrev ref26_Run_m8296_r5:List LO:=[lm 18 1 23,lm 19 7 3,lo 20 (.indexAddr 23 (.tmp 18) (.tmp 19)) 0,lo 21 (.load 3 (.tmp 20)) 3,lo 8 (.assign (.tmp 21)) 3]
abbrev ref26_Run_m8296_r6:List LO:=[lm 26 8 3,lo 27 (.call ⟨.value (.func 24),#[.tmp 26],#[3]⟩) 4,lo 28 (.unOp .not 4 (.tmp 27)) 4,lm 29 28 4,lmg 30 6 58 29 false,lmg 31 8 3 29 false,lg 32 (.call ⟨.value (.func 32),#[.tmp 30,.tmp 31],#[58,3]⟩) 4 29 false,lo 33 (.pick (.tmp 29) (.const (.bool true)) (.tmp 32)) 4,lo 25 (.assign (.tmp 33)) 4]
abbrev ref26_Run_m8296_r7:List LO:=[lm 35 6 58,lm 36 8 3,lo 37 (.unOp .neg 3 (.tmp 36)) 3,lo 38 (.call ⟨.value (.func 32),#[.tmp 35,.tmp 37],#[58,3]⟩) 4,lo 34 (.assign (.tmp 38)) 4]
abbrev ref26_Run_m8296_r8:List LO:=[lm 39 6 58,lo 40 (.nilCheck (.tmp 39)) 0,lo 41 (.fieldAddr 61 (.tmp 40) 1) 0,lo 42 (.load 24 (.tmp 41)) 24,lo 4 (.assign (.tmp 42)) 24,lo 5 (.assign (.const (.int .i64 (-2)))) 3]
abbrev ref26_Run_m8296_r9:List LO:=[lm 22 6 58,lm 23 8 3,lo 24 (.call ⟨.value (.func 33),#[.tmp 22,.tmp 23,.const (.int .i64 (-1))],#[58,3,3]⟩) 0]
abbrev ref26_Run_m8296_r10:List LO:=[lm 16 7 3,lo 17 (.binOp .add 3 (.tmp 16) (.const (.int .i64 1)) 3) 3,lo 7 (.assign (.tmp 17)) 3]
abbrev ref26_Run_m8296_r11:List LO:=[lm 43 6 58,lm 44 0 22,lo 45 (.call ⟨.value (.func 34),#[.tmp 43,.tmp 44],#[58,22]⟩) 3,lo 9 (.assign (.tmp 45)) 3]
abbrev ref26_Run_m8296_r12:List LO:=[lm 46 9 3,lo 47 (.binOp .neq 3 (.tmp 46) (.const (.int .i64 (-3))) 3) 4]
abbrev ref26_Run_m8296_r13:List LO:=[lm 48 6 58,lo 49 (.nilCheck (.tmp 48)) 0,lo 50 (.fieldAddr 61 (.tmp 49) 1) 0,lo 51 (.load 24 (.tmp 50)) 24,lm 52 9 3,lo 4 (.assign (.tmp 51)) 24,lo 5 (.assign (.tmp 52)) 3]
abbrev ref26_Run_m8296_c:LC:=.seq (.reg false ref26_Run_m8296_r1) (.seq (.reg false ref26_Run_m8296_r2) (.seq (.seq (.reg false ref26_Run_m8296_r3) (.block 0 (.loop (.seq (.seq (.reg false ref26_Run_m8296_r4) (.cond (.tmp 15) .skip (.exit 0))) (.seq (.block 1 (.seq (.reg false ref26_Run_m8296_r5) (.block 2 (.seq (.reg false ref26_Run_m8296_r6) (.cond (.tmp 25) .skip (.seq (.reg false ref26_Run_m8296_r7) (.cond (.tmp 34) (.seq (.reg false ref26_Run_m8296_r8) .ret) (.reg false ref26_Run_m8296_r9)))))))) (.reg false ref26_Run_m8296_r10)))))) (.block 3 (.loop (.block 4 (.seq (.reg false ref26_Run_m8296_r11) (.seq (.reg false ref26_Run_m8296_r12) (.cond (.tmp 47) (.seq (.reg false ref26_Run_m8296_r13) .ret) .skip))))))))
theorem ref26_Run_m8296_k:FnOk E 19 53 [.tmp 4,.tmp 5] ref26_Run_m8296_c:=⟨⟨Go.Proofs.Try.f19,by kernel_rfl,by kernel_rfl,by kernel_rfl,by kernel_rfl,by kernel_rfl⟩,rfl,rfl⟩
noncomputable def ref26_Run_m8296_l1 (a1:List Int):(List Bool × List S_api_Deduced × Int)→Option (Step (List Bool × List S_api_Deduced × Int) ((List S_api_Deduced) ⊕ (List Bool × List S_api_Deduced))):=fun (x57,x58,x59)=>(if (decide (x59 < (List.length a1:Int)))=true then Option.bind (Option.bind (ixl a1 x59) (fun x84=>Option.bind (ref26_good x84) (fun x85=>Option.bind (if (!x85)=true then some true else Option.bind (ref26_Board_is x57 x58 x84) (fun x88=>some x88):Option (Bool)) (fun x87=>(if x87=true then some (Sum.inl (x57,x58)) else Option.bind (ref26_Board_is x57 x58 (w64 (0 - x84))) (fun x89=>(if x89=true then Option.bind (lenA 8193 x57) (fun x90=>some (Sum.inr ())) else Option.bind (ref26_Board_add x57 x58 x84 (-1)) (fun x91=>some (Sum.inl ((List.set x57 (Int.toNat (w64 (x84 + 4096))) true),x91))))))))):Option ((List Bool × List S_api_Deduced) ⊕ (Unit))) (fun y=>match y with | Sum.inl (x82,x83)=>some (Step.next (x82,x83,(w64 (x59 + 1)))) | Sum.inr _=>some (Step.done (Sum.inl x58))) else some (Step.done (Sum.inr (x57,x58))))
noncomputable def ref26_Run_m8296_l2 (a0:List (List Int)):(List Bool × List S_api_Deduced)→Option (Step (List Bool × List S_api_Deduced) (List S_api_Deduced × Int)):=fun (x96,x97)=>Option.bind (ref26_Board_step x96 x97 a0) (fun (x106,x107,x108)=>(if (x106 != (-3))=true then Option.bind (lenA 8193 x107) (fun x109=>some (Step.done (x108,x106))) else some (Step.next (x107,x108))))
abbrev ref26_Run_m8296_T (a0:List (List Int)) (a1:List Int) (r:List S_api_Deduced × Int):CS:=⟨[V 4 (.osl 1 0 (List.length r.1) 2),V 5 (iv r.2)],[(0,.rows 1 (List.map cI a1)),(1,.rows 2 (List.map c_S_api_Deduced r.1))],2⟩
noncomputable def ref26_Run_m8296 (a0:List (List Int)) (a1:List Int):Option (List S_api_Deduced × Int):=Option.bind (loopC (ref26_Run_m8296_l1 a1) ((List.replicate 8193 false),[],0)) (fun y=>match y with | Sum.inl x72=>some (x72,(-2)) | Sum.inr (x73,x74)=>Option.bind (loopC (ref26_Run_m8296_l2 a0) (x73,x74)) (fun (x104,x105)=>some (x104,x105)))
theorem ref26_Run_m8296_ok (a0:List (List Int)) (a1:List Int):CtM E 19 [.fsl 1 (List.map c_L3 a0),.osl 0 0 (List.length a1) 1] [(0,.rows 1 (List.map cI a1))] 1 (ref26_Run_m8296 a0 a1) (fun r:List S_api_Deduced × Int=>.tup [.osl 1 0 (List.length r.1) 2,iv r.2]) (fun r:List S_api_Deduced × Int=>[(0,.rows 1 (List.map cI a1)),(1,.rows 2 (List.map c_S_api_Deduced r.1))]) 2:=ctm_intro (N:=53) (L:=ref26_Run_m8296_c) ref26_Run_m8296_k rfl (Nat.le_of_ble_eq_true rfl) (fun F hF=>by
 unfold ref26_Run_m8296
 refine jS ⟨[V 0 (.fsl 1 (List.map c_L3 a0)),V 1 (.osl 0 0 (List.length a1) 1)],[(0,.rows 1 (List.map cI a1))],1⟩ ?_
 refine jS ⟨[V 0 (.fsl 1 (List.map c_L3 a0)),V 1 (.osl 0 0 (List.length a1) 1),V 6 (pt 1 8194)],[(0,.rows 1 (List.map cI a1)),(1,.rows 8194 [List.map aB (List.replicate 8193 false) ++ [nilS]])],2⟩ ?_
 refine jc_seq ?_
 refine jS ⟨[V 0 (.fsl 1 (List.map c_L3 a0)),V 1 (.osl 0 0 (List.length a1) 1),V 6 (pt 1 8194),V 7 (iv 0)],[(0,.rows 1 (List.map cI a1)),(1,.rows 8194 [List.map aB (List.replicate 8193 false) ++ [nilS]])],2⟩ ?_
 refine jc_block ?_
 refine jc_bind (fun y=>match y with | Sum.inl x72=>⟨[V 4 (.osl 1 0 (List.length x72) 2),V 5 (iv (-2))],[(0,.rows 1 (List.map cI a1)),(1,.rows 2 (List.map c_S_api_Deduced x72))],2⟩ | Sum.inr (x73,x74)=>⟨[V 0 (.fsl 1 (List.map c_L3 a0)),V 6 (pt 1 8194)],[(0,.rows 1 (List.map cI a1)),(1,.rows 8194 [List.map aB x73 ++ [.osl 2 0 (List.length x74) 2]]),(2,.rows 2 (List.map c_S_api_Deduced x74))],3⟩) (fun y=>match y with | Sum.inl x72=>.ret | Sum.inr (x73,x74)=>(.exit 0)) (jc_loop (fun (x57,x58,x59)=>⟨[V 0 (.fsl 1 (List.map c_L3 a0)),V 1 (.osl 0 0 (List.length a1) 1),V 6 (pt 1 8194),V 7 (iv x59)],[(0,.rows 1 (List.map cI a1)),(1,.rows 8194 [List.map aB x57 ++ [.osl 2 0 (List.length x58) 2]]),(2,.rows 2 (List.map c_S_api_Deduced x58))],3⟩) (wkR [(0,some 0),(1,some 1),(2,none)] (fix_of hF (k:=1) rfl) (pc (hL 0 (noid_map ni_I _)) (pc (hA 1) (pc hZ allp_nil)))) ?_) ?_
 ·rintro⟨x57,x58,x59⟩
  unfold ref26_Run_m8296_l1
  refine jc_seq ?_
  refine jS ⟨[V 0 (.fsl 1 (List.map c_L3 a0)),V 1 (.osl 0 0 (List.length a1) 1),V 6 (pt 1 8194),V 7 (iv x59),V 15 (bv (decide (x59 < (List.length a1:Int))))],[(0,.rows 1 (List.map cI a1)),(1,.rows 8194 [List.map aB x57 ++ [.osl 2 0 (List.length x58) 2]]),(2,.rows 2 (List.map c_S_api_Deduced x58))],3⟩ ?_
  refine jIf ?_ ?_
  ·refine jc_skip ?_
   refine jx_seqN ?_
   refine jc_seq ?_
   refine jc_bind (fun y=>match y with | Sum.inl (x82,x83)=>⟨[V 0 (.fsl 1 (List.map c_L3 a0)),V 1 (.osl 0 0 (List.length a1) 1),V 6 (pt 1 8194),V 7 (iv x59)],[(0,.rows 1 (List.map cI a1)),(1,.rows 8194 [List.map aB x82 ++ [.osl 2 0 (List.length x83) 2]]),(2,.rows 2 (List.map c_S_api_Deduced x83))],3⟩ | Sum.inr _=>⟨[V 4 (.osl 1 0 (List.length x58) 2),V 5 (iv (-2))],[(0,.rows 1 (List.map cI a1)),(1,.rows 2 (List.map c_S_api_Deduced x58))],2⟩) (fun y=>match y with | Sum.inl (x82,x83)=>.normal | Sum.inr _=>.ret) ?_ ?_
   ·refine jc_block ?_
    refine jR ?_
    refine jG 0 2 ⟨[V 0 (.fsl 1 (List.map c_L3 a0)),V 1 (.osl 0 0 (List.length a1) 1),V 6 (pt 1 8194),V 7 (iv x59),V 18 (.osl 0 0 (List.length a1) 1),V 19 (iv x59)],[(0,.rows 1 (List.map cI a1)),(1,.rows 8194 [List.map aB x57 ++ [.osl 2 0 (List.length x58) 2]]),(2,.rows 2 (List.map c_S_api_Deduced x58))],3⟩ ?_
    refine jr_part (i:=2) (mo:=ixl a1 x59) rfl rfl rfl rfl (fun _ hc=>aop_ixo0 (sz:=1) (e:=3) (kk:=.i64) (id:=0) (by kernel_rfl) (by kernel_rfl) (by kernel_rfl) (by kernel_rfl) hc) (fun _=>rfl) ?_
    intro x84 h84
    refine jr_one (i:=3) (v:=iv x84) rfl rfl rfl rfl (aop_ldo (l:=a1) (c:=cI) (id:=0) (k:=(Int.toNat x59)) (sz:=1) (off:=0) (a:=x84) (by kernel_rfl) (by kernel_rfl) (ixl_lt h84).2.2 (by kernel_rfl)) rfl ?_
    refine jG 4 1 ⟨[V 0 (.fsl 1 (List.map c_L3 a0)),V 1 (.osl 0 0 (List.length a1) 1),V 6 (pt 1 8194),V 7 (iv x59),V 8 (iv x84)],[(0,.rows 1 (List.map cI a1)),(1,.rows 8194 [List.map aB x57 ++ [.osl 2 0 (List.length x58) 2]]),(2,.rows 2 (List.map c_S_api_Deduced x58))],3⟩ ?_
    refine jN ?_
    refine jc_block ?_
    refine jR ?_
    refine jG 0 1 ⟨[V 0 (.fsl 1 (List.map c_L3 a0)),V 1 (.osl 0 0 (List.length a1) 1),V 6 (pt 1 8194),V 7 (iv x59),V 8 (iv x84),V 26 (iv x84)],[(0,.rows 1 (List.map cI a1)),(1,.rows 8194 [List.map aB x57 ++ [.osl 2 0 (List.length x58) 2]]),(2,.rows 2 (List.map c_S_api_Deduced x58))],3⟩ ?_
    refine jK 1 (ref26_good_ok x84) ?_
    intro x85 h85
    refine jG 2 2 ⟨[V 0 (.fsl 1 (List.map c_L3 a0)),V 1 (.osl 0 0 (List.length a1) 1),V 6 (pt 1 8194),V 7 (iv x59),V 8 (iv x84),V 29 (bv (!x85))],[(0,.rows 1 (List.map cI a1)),(1,.rows 8194 [List.map aB x57 ++ [.osl 2 0 (List.length x58) 2]]),(2,.rows 2 (List.map c_S_api_Deduced x58))],3⟩ ?_
    refine jr_bind 4 4 (fun x87=>⟨[V 0 (.fsl 1 (List.map c_L3 a0)),V 1 (.osl 0 0 (List.length a1) 1),V 6 (pt 1 8194),V 7 (iv x59),V 8 (iv x84),V 33 (bv x87)],[(0,.rows 1 (List.map cI a1)),(1,.rows 8194 [List.map aB x57 ++ [.osl 2 0 (List.length x58) 2]]),(2,.rows 2 (List.map c_S_api_Deduced x58))],3⟩) ?_ ?_
    ·refine jSp 29 ?_ ?_
     ·refine jG 0 4 ⟨[V 0 (.fsl 1 (List.map c_L3 a0)),V 1 (.osl 0 0 (List.length a1) 1),V 6 (pt 1 8194),V 7 (iv x59),V 8 (iv x84),V 33 (bv true)],[(0,.rows 1 (List.map cI a1)),(1,.rows 8194 [List.map aB x57 ++ [.osl 2 0 (List.length x58) 2]]),(2,.rows 2 (List.map c_S_api_Deduced x58))],3⟩ ?_
      refine jr_nil rfl ?_
      exact jx_mid rfl (wkR [(0,some 0),(1,some 1),(2,some 2)] (fix_of hF (k:=1) rfl) (pc (hL 0 (noid_map ni_I _)) (pc (hA 1) (pc (hL 2 (noid_map ni_S_api_Deduced _)) allp_nil))))
     refine jG 0 2 ⟨[V 0 (.fsl 1 (List.map c_L3 a0)),V 1 (.osl 0 0 (List.length a1) 1),V 6 (pt 1 8194),V 7 (iv x59),V 8 (iv x84),(29,.lit false),V 30 (pt 1 8194),V 31 (iv x84)],[(0,.rows 1 (List.map cI a1)),(1,.rows 8194 [List.map aB x57 ++ [.osl 2 0 (List.length x58) 2]]),(2,.rows 2 (List.map c_S_api_Deduced x58))],3⟩ ?_
     refine jr_callM 2 [(0,some 1),(1,some 2)] [(1,some 0),(2,some 1)] (fun r:Bool=>[(0,.rows 1 (List.map cI a1)),(1,.rows 8194 [List.map aB x57 ++ [.osl 2 0 (List.length x58) 2]]),(2,.rows 2 (List.map c_S_api_Deduced x58))]) (fun r:Bool=>bv r) 3 (ref26_Board_is_ok x57 x58 x84) (pc (hA 1) (pc (hL 2 (noid_map ni_S_api_Deduced _)) allp_nil)) (fun r=>(pc (.inl ⟨rfl,rfl⟩) (pc (.inr (hA 0)) (pc (.inr (hL 1 (noid_map ni_S_api_Deduced _))) allp_nil)))) ?_
     rintro x88 hm19
     refine jG 3 1 ⟨[V 0 (.fsl 1 (List.map c_L3 a0)),V 1 (.osl 0 0 (List.length a1) 1),V 6 (pt 1 8194),V 7 (iv x59),V 8 (iv x84),V 33 (bv x88)],[(0,.rows 1 (List.map cI a1)),(1,.rows 8194 [List.map aB x57 ++ [.osl 2 0 (List.length x58) 2]]),(2,.rows 2 (List.map c_S_api_Deduced x58))],3⟩ ?_
     refine jr_nil rfl ?_
     exact jx_mid rfl (wkR [(0,some 0),(1,some 1),(2,some 2)] (fix_of hF (k:=1) rfl) (pc (hL 0 (noid_map ni_I _)) (pc (hA 1) (pc (hL 2 (noid_map ni_S_api_Deduced _)) allp_nil))))
    intro x87
    refine jG 8 1 ⟨[V 0 (.fsl 1 (List.map c_L3 a0)),V 1 (.osl 0 0 (List.length a1) 1),V 6 (pt 1 8194),V 7 (iv x59),V 8 (iv x84),V 25 (bv x87)],[(0,.rows 1 (List.map cI a1)),(1,.rows 8194 [List.map aB x57 ++ [.osl 2 0 (List.length x58) 2]]),(2,.rows 2 (List.map c_S_api_Deduced x58))],3⟩ ?_
    refine jN ?_
    refine jIf ?_ ?_
    ·refine jc_skip ?_
     refine jx_blkN ?_
     refine jx_blkN ?_
     exact jx_mid rfl (wkR [(0,some 0),(1,some 1),(2,some 2)] (fix_of hF (k:=1) rfl) (pc (hL 0 (noid_map ni_I _)) (pc (hA 1) (pc (hL 2 (noid_map ni_S_api_Deduced _)) allp_nil))))
    refine jR ?_
    refine jG 0 3 ⟨[V 0 (.fsl 1 (List.map c_L3 a0)),V 1 (.osl 0 0 (List.length a1) 1),V 6 (pt 1 8194),V 7 (iv x59),V 8 (iv x84),V 35 (pt 1 8194),V 37 (iv (w64 (0 - x84)))],[(0,.rows 1 (List.map cI a1)),(1,.rows 8194 [List.map aB x57 ++ [.osl 2 0 (List.length x58) 2]]),(2,.rows 2 (List.map c_S_api_Deduced x58))],3⟩ ?_
    refine jr_callM 3 [(0,some 1),(1,some 2)] [(1,some 0),(2,some 1)] (fun r:Bool=>[(0,.rows 1 (List.map cI a1)),(1,.rows 8194 [List.map aB x57 ++ [.osl 2 0 (List.length x58) 2]]),(2,.rows 2 (List.map c_S_api_Deduced x58))]) (fun r:Bool=>bv r) 3 (ref26_Board_is_ok x57 x58 (w64 (0 - x84))) (pc (hA 1) (pc (hL 2 (noid_map ni_S_api_Deduced _)) allp_nil)) (fun r=>(pc (.inl ⟨rfl,rfl⟩) (pc (.inr (hA 0)) (pc (.inr (hL 1 (noid_map ni_S_api_Deduced _))) allp_nil)))) ?_
    rintro x89 hm21
    refine jG 4 1 ⟨[V 0 (.fsl 1 (List.map c_L3 a0)),V 1 (.osl 0 0 (List.length a1) 1),V 6 (pt 1 8194),V 7 (iv x59),V 8 (iv x84),V 34 (bv x89)],[(0,.rows 1 (List.map cI a1)),(1,.rows 8194 [List.map aB x57 ++ [.osl 2 0 (List.length x58) 2]]),(2,.rows 2 (List.map c_S_api_Deduced x58))],3⟩ ?_
    refine jN ?_
    refine jIf ?_ ?_
    ·refine jR ?_
     refine jG 0 3 ⟨[V 41 (.ptr 1 0 8194 8193)],[(0,.rows 1 (List.map cI a1)),(1,.rows 8194 [List.map aB x57 ++ [.osl 2 0 (List.length x58) 2]]),(2,.rows 2 (List.map c_S_api_Deduced x58))],3⟩ ?_
     refine jr_guard ?_
     intro x90 h90
     refine jr_one (i:=3) (v:=.osl 2 0 (List.length x58) 2) (us:=[]) rfl rfl rfl rfl (aop_ldr (l:=x57) (c:=aB) (rest:=[.osl 2 0 (List.length x58) 2]) (id:=1) (sz:=8194) (m:=8193) (q:=0) (by kernel_rfl) (by kernel_rfl) (by kernel_rfl) (by kernel_rfl) (lenA_iff h90) (by kernel_rfl)) rfl ?_
     refine jG 4 2 ⟨[V 4 (.osl 2 0 (List.length x58) 2),V 5 (iv (-2))],[(0,.rows 1 (List.map cI a1)),(2,.rows 2 (List.map c_S_api_Deduced x58))],3⟩ ?_
     refine jN ?_
     refine jc_ret ?_
     refine jx_blkR ?_
     refine jx_blkR ?_
     exact jx_mid rfl (wkR [(0,some 0),(1,some 2)] (fix_of hF (k:=1) rfl) (pc (hL 0 (noid_map ni_I _)) (pc (hL 2 (noid_map ni_S_api_Deduced _)) allp_nil)))
    refine jc_reg ?_
    refine jG 0 2 ⟨[V 0 (.fsl 1 (List.map c_L3 a0)),V 1 (.osl 0 0 (List.length a1) 1),V 6 (pt 1 8194),V 7 (iv x59),V 22 (pt 1 8194),V 23 (iv x84)],[(0,.rows 1 (List.map cI a1)),(1,.rows 8194 [List.map aB x57 ++ [.osl 2 0 (List.length x58) 2]]),(2,.rows 2 (List.map c_S_api_Deduced x58))],3⟩ ?_
    refine jr_callM 2 [(0,some 1),(1,some 2)] [(1,some 0),(3,some 2)] (fun r:List S_api_Deduced=>[(0,.rows 1 (List.map cI a1)),(1,.rows 8194 [List.map aB (List.set x57 (Int.toNat (w64 (x84 + 4096))) true) ++ [.osl 3 0 (List.length r) 2]]),(3,.rows 2 (List.map c_S_api_Deduced r))]) (fun r:List S_api_Deduced=>.tup []) 4 (ref26_Board_add_ok x57 x58 x84 (-1)) (pc (hA 1) (pc (hL 2 (noid_map ni_S_api_Deduced _)) allp_nil)) (fun r=>(pc (.inl ⟨rfl,rfl⟩) (pc (.inr (hA 0)) (pc (.inr (hL 2 (noid_map ni_S_api_Deduced _))) allp_nil)))) ?_
    rintro x91 hm20
    refine jr_nil rfl ?_
    refine jx_blkN ?_
    refine jx_blkN ?_
    exact jx_mid rfl (wkR [(0,some 0),(1,some 1),(2,some 3)] (fix_of hF (k:=1) rfl) (pc (hL 0 (noid_map ni_I _)) (pc (hA 1) (pc (hL 3 (noid_map ni_S_api_Deduced _)) allp_nil))))
   rintro (⟨x82,x83⟩ | _)
   ·refine jx_seqN ?_
    refine jT ⟨[V 0 (.fsl 1 (List.map c_L3 a0)),V 1 (.osl 0 0 (List.length a1) 1),V 6 (pt 1 8194),V 7 (iv (w64 (x59 + 1)))],[(0,.rows 1 (List.map cI a1)),(1,.rows 8194 [List.map aB x82 ++ [.osl 2 0 (List.length x83) 2]]),(2,.rows 2 (List.map c_S_api_Deduced x83))],3⟩ ?_
    exact jx_next (wkR [(0,some 0),(1,some 1),(2,some 2)] (fix_of hF (k:=1) rfl) (pc (hL 0 (noid_map ni_I _)) (pc (hA 1) (pc (hL 2 (noid_map ni_S_api_Deduced _)) allp_nil))))
   refine jx_seqR ?_
   exact jx_done rfl nofun (wkR [(0,some 0),(1,some 1)] (fix_of hF (k:=1) rfl) (pc (hL 0 (noid_map ni_I _)) (pc (hL 1 (noid_map ni_S_api_Deduced _)) allp_nil)))
  refine jc_exit ?_
  refine jx_seqE ?_
  exact jx_done rfl nofun (wkR [(0,some 0),(1,some 1),(2,some 2)] (fix_of hF (k:=1) rfl) (pc (hL 0 (noid_map ni_I _)) (pc (hA 1) (pc (hL 2 (noid_map ni_S_api_Deduced _)) allp_nil))))
 rintro (x72 | ⟨x73,x74⟩)
 ·refine jx_blkR ?_
  refine jx_seqR ?_
  exact jx_retM (ref26_Run_m8296_T a0 a1 (x72,(-2))) (.inr rfl) (wkR [(0,some 0),(1,some 1)] (fix_of hF (k:=1) rfl) (pc (hL 0 (noid_map ni_I _)) (pc (hL 1 (noid_map ni_S_api_Deduced _)) allp_nil)))
 refine jx_blkE ?_
 refine jx_seqN ?_
 refine jc_block ?_
 refine jc_bind (fun (x104,x105)=>⟨[V 4 (.osl 1 0 (List.length x104) 2),V 5 (iv x105)],[(0,.rows 1 (List.map cI a1)),(1,.rows 2 (List.map c_S_api_Deduced x104))],2⟩) (fun (x104,x105)=>.ret) (jc_loop (fun (x96,x97)=>⟨[V 0 (.fsl 1 (List.map c_L3 a0)),V 6 (pt 1 8194)],[(0,.rows 1 (List.map cI a1)),(1,.rows 8194 [List.map aB x96 ++ [.osl 2 0 (List.length x97) 2]]),(2,.rows 2 (List.map c_S_api_Deduced x97))],3⟩) (wkR [(0,some 0),(1,some 1),(2,some 2)] (fix_of hF (k:=1) rfl) (pc (hL 0 (noid_map ni_I _)) (pc (hA 1) (pc (hL 2 (noid_map ni_S_api_Deduced _)) allp_nil)))) ?_) ?_
 ·rintro⟨x96,x97⟩
  unfold ref26_Run_m8296_l2
  refine jc_block ?_
  refine jR ?_
  refine jG 0 2 ⟨[V 0 (.fsl 1 (List.map c_L3 a0)),V 6 (pt 1 8194),V 43 (pt 1 8194),V 44 (.fsl 1 (List.map c_L3 a0))],[(0,.rows 1 (List.map cI a1)),(1,.rows 8194 [List.map aB x96 ++ [.osl 2 0 (List.length x97) 2]]),(2,.rows 2 (List.map c_S_api_Deduced x97))],3⟩ ?_
  refine jr_callM 2 [(0,some 1),(1,some 2)] [(1,some 0),(3,some 2)] (fun r:Int × List Bool × List S_api_Deduced=>[(0,.rows 1 (List.map cI a1)),(1,.rows 8194 [List.map aB r.2.1 ++ [.osl 3 0 (List.length r.2.2) 2]]),(3,.rows 2 (List.map c_S_api_Deduced r.2.2))]) (fun r:Int × List Bool × List S_api_Deduced=>iv r.1) 4 (ref26_Board_step_ok x96 x97 a0) (pc (hA 1) (pc (hL 2 (noid_map ni_S_api_Deduced _)) allp_nil)) (fun r=>(pc (.inl ⟨rfl,rfl⟩) (pc (.inr (hA 0)) (pc (.inr (hL 2 (noid_map ni_S_api_Deduced _))) allp_nil)))) ?_
  rintro⟨x106,x107,x108⟩ hm24
  refine jG 3 1 ⟨[V 0 (.fsl 1 (List.map c_L3 a0)),V 6 (pt 1 8194),V 9 (iv x106)],[(0,.rows 1 (List.map cI a1)),(1,.rows 8194 [List.map aB x107 ++ [.osl 3 0 (List.length x108) 2]]),(3,.rows 2 (List.map c_S_api_Deduced x108))],4⟩ ?_
  refine jN ?_
  refine jS ⟨[V 0 (.fsl 1 (List.map c_L3 a0)),V 6 (pt 1 8194),V 9 (iv x106),V 47 (bv (x106 != (-3)))],[(0,.rows 1 (List.map cI a1)),(1,.rows 8194 [List.map aB x107 ++ [.osl 3 0 (List.length x108) 2]]),(3,.rows 2 (List.map c_S_api_Deduced x108))],4⟩ ?_
  refine jIf ?_ ?_
  ·refine jR ?_
   refine jG 0 3 ⟨[V 9 (iv x106),V 50 (.ptr 1 0 8194 8193)],[(0,.rows 1 (List.map cI a1)),(1,.rows 8194 [List.map aB x107 ++ [.osl 3 0 (List.length x108) 2]]),(3,.rows 2 (List.map c_S_api_Deduced x108))],4⟩ ?_
   refine jr_guard ?_
   intro x109 h109
   refine jr_one (i:=3) (v:=.osl 3 0 (List.length x108) 2) (us:=[]) rfl rfl rfl rfl (aop_ldr (l:=x107) (c:=aB) (rest:=[.osl 3 0 (List.length x108) 2]) (id:=1) (sz:=8194) (m:=8193) (q:=0) (by kernel_rfl) (by kernel_rfl) (by kernel_rfl) (by kernel_rfl) (lenA_iff h109) (by kernel_rfl)) rfl ?_
   refine jG 4 3 ⟨[V 4 (.osl 3 0 (List.length x108) 2),V 5 (iv x106)],[(0,.rows 1 (List.map cI a1)),(3,.rows 2 (List.map c_S_api_Deduced x108))],4⟩ ?_
   refine jN ?_
   refine jc_ret ?_
   refine jx_blkR ?_
   exact jx_done rfl nofun (wkR [(0,some 0),(1,some 3)] (fix_of hF (k:=1) rfl) (pc (hL 0 (noid_map ni_I _)) (pc (hL 3 (noid_map ni_S_api_Deduced _)) allp_nil)))
  refine jc_skip ?_
  refine jx_blkN ?_
  exact jx_next (wkR [(0,some 0),(1,some 1),(2,some 3)] (fix_of hF (k:=1) rfl) (pc (hL 0 (noid_map ni_I _)) (pc (hA 1) (pc (hL 3 (noid_map ni_S_api_Deduced _)) allp_nil))))
 rintro⟨x104,x105⟩
 refine jx_blkR ?_
 exact jx_retM (ref26_Run_m8296_T a0 a1 (x104,x105)) (.inr rfl) (wkR [(0,some 0),(1,some 1)] (fix_of hF (k:=1) rfl) (pc (hL 0 (noid_map ni_I _)) (pc (hL 1 (noid_map ni_S_api_Deduced _)) allp_nil))))
abbrev ref26_Follows_r1:List LO:=[lo 4 (.assign (.const (.bool false))) 4]
abbrev ref26_Follows_r2:List LO:=[lm 9 1 23,lo 10 (.call ⟨.value (.func 22),#[.tmp 9],#[23]⟩) 4,lo 11 (.unOp .not 4 (.tmp 10)) 4]
abbrev ref26_Follows_r3:List LO:=[lo 4 (.assign (.const (.bool false))) 4]
abbrev ref26_Follows_r4:List LO:=[lo 5 (.assign (.const (.slice none 0 0))) 23]
abbrev ref26_Follows_r5:List LO:=[lo 6 (.assign (.const (.int .i64 0))) 3]
abbrev ref26_Follows_r6:List LO:=[lm 12 6 3,lm 13 1 23,lo 14 (.call ⟨.builtin .len,#[.tmp 13],#[23]⟩) 3,lo 15 (.binOp .lss 3 (.tmp 12) (.tmp 14) 3) 4]
abbrev ref26_Follows_r7:List LO:=[lm 18 5 23,lm 19 1 23,lm 20 6 3,lo 21 (.indexAddr 23 (.tmp 19) (.tmp 20)) 0,lo 22 (.load 3 (.tmp 21)) 3,lo 23 (.unOp .neg 3 (.tmp 22)) 3,lo 24 (.buildSlice 23 1 #[(0,.tmp 23)]) 23,lo 25 (.call ⟨.builtin .append,#[.tmp 18,.tmp 24],#[23,23]⟩) 23,lo 5 (.assign (.tmp 25)) 23]
abbrev ref26_Follows_r8:List LO:=[lm 16 6 3,lo 17 (.binOp .add 3 (.tmp 16) (.const (.int .i64 1)) 3) 3,lo 6 (.assign (.tmp 17)) 3]
abbrev ref26_Follows_r9:List LO:=[lm 27 0 22,lm 28 5 23,lo 29 (.call ⟨.value (.func 19),#[.tmp 27,.tmp 28],#[22,23]⟩) 33,lm 26 29 33,lo 30 (.extract (.tmp 26) 0) 24,lo 31 (.extract (.tmp 26) 1) 3,lo 7 (.assign (.tmp 30)) 24,lo 8 (.assign (.tmp 31)) 3]
abbrev ref26_Follows_r10:List LO:=[lm 32 8 3,lo 33 (.binOp .neq 3 (.tmp 32) (.const (.int .i64 (-1))) 3) 4,lo 4 (.assign (.tmp 33)) 4]
abbrev ref26_Follows_c:LC:=.seq (.reg false ref26_Follows_r1) (.seq (.seq (.reg false ref26_Follows_r2) (.cond (.tmp 11) (.seq (.reg false ref26_Follows_r3) .ret) .skip)) (.seq (.reg false ref26_Follows_r4) (.seq (.seq (.reg false ref26_Follows_r5) (.block 0 (.loop (.seq (.seq (.reg false ref26_Follows_r6) (.cond (.tmp 15) .skip (.exit 0))) (.seq (.block 1 (.reg false ref26_Follows_r7)) (.reg false ref26_Follows_r8)))))) (.seq (.reg false ref26_Follows_r9) (.seq (.reg false ref26_Follows_r10) .ret)))))
theorem ref26_Follows_k:FnOk E 9 34 [.tmp 4] ref26_Follows_c:=⟨⟨Go.Proofs.Try.f9,by kernel_rfl,by kernel_rfl,by kernel_rfl,by kernel_rfl,by kernel_rfl⟩,rfl,rfl⟩
noncomputable def ref26_Follows_l1 (a1:(List Int)):(List Int × Int)→Option (Step (List Int × Int) (List Int)):=fun (x4,x5)=>(if (decide (x5 < (List.length a1:Int)))=true then Option.bind (ixl a1 x5) (fun x11=>Option.bind (app 8 x4 [(w64 (0 - x11))]) (fun x12=>some (Step.next (x12,(w64 (x5 + 1)))))) else some (Step.done x4))
noncomputable def ref26_Follows (a0:(List (List Int))) (a1:(List Int)):Option (Bool):=Option.bind (ref26_clean a1) (fun x1=>(if (!x1)=true then some false else Option.bind (loopC (ref26_Follows_l1 a1) ([],0)) (fun x10=>Option.bind (ref26_Run_m8296 a0 x10) (fun (x13,x14)=>some (x14 != (-1))))))
theorem ref26_Follows_ok (a0:(List (List Int))) (a1:(List Int)):Ct E 9 [.fsl 1 (List.map c_L3 a0),.fsl 1 (List.map cI a1)] (ref26_Follows a0 a1) (fun r:Bool=>bv r):=ct_intro (N:=34) (L:=ref26_Follows_c) ref26_Follows_k rfl (Nat.le_of_ble_eq_true rfl) (by kernel_rfl) (by
 unfold ref26_Follows
 refine jS ⟨[V 0 (.fsl 1 (List.map c_L3 a0)),V 1 (.fsl 1 (List.map cI a1))],[],0⟩ ?_
 refine jc_seq ?_
 refine jR ?_
 refine jG 0 1 ⟨[V 0 (.fsl 1 (List.map c_L3 a0)),V 1 (.fsl 1 (List.map cI a1)),V 9 (.fsl 1 (List.map cI a1))],[],0⟩ ?_
 refine jK 1 (ref26_clean_ok a1) ?_
 intro x1 h1
 refine jG 2 1 ⟨[V 0 (.fsl 1 (List.map c_L3 a0)),V 1 (.fsl 1 (List.map cI a1)),V 11 (bv (!x1))],[],0⟩ ?_
 refine jN ?_
 refine jIf ?_ ?_
 ·refine jS ⟨[V 4 (bv false)],[],0⟩ ?_
  refine jc_ret ?_
  refine jx_seqR ?_
  exact jx_retF (.inr rfl) (v:=bv false) (by kernel_rfl) rfl (fle_refl _)
 refine jc_skip ?_
 refine jx_seqN ?_
 refine jS ⟨[V 0 (.fsl 1 (List.map c_L3 a0)),V 1 (.fsl 1 (List.map cI a1)),V 5 (nilS)],[],0⟩ ?_
 refine jc_seq ?_
 refine jS ⟨[V 0 (.fsl 1 (List.map c_L3 a0)),V 1 (.fsl 1 (List.map cI a1)),V 5 (nilS),V 6 (iv 0)],[],0⟩ ?_
 refine jc_block ?_
 refine jc_bind (fun x10=>⟨[V 0 (.fsl 1 (List.map c_L3 a0)),V 5 (.osl 0 0 (List.length x10) 1)],[(0,.rows 1 (List.map cI x10))],1⟩) (fun x10=>(.exit 0)) (jc_loop (fun (x4,x5)=>⟨[V 0 (.fsl 1 (List.map c_L3 a0)),V 1 (.fsl 1 (List.map cI a1)),V 5 (.osl 0 0 (List.length x4) 1),V 6 (iv x5)],[(0,.rows 1 (List.map cI x4))],1⟩) (wkR [(0,none)] (fix_nil _) (pc hZ allp_nil)) ?_) ?_
 ·rintro⟨x4,x5⟩
  unfold ref26_Follows_l1
  refine jc_seq ?_
  refine jR ?_
  refine jG 0 4 ⟨[V 0 (.fsl 1 (List.map c_L3 a0)),V 1 (.fsl 1 (List.map cI a1)),V 5 (.osl 0 0 (List.length x4) 1),V 6 (iv x5),V 15 (bv (decide (x5 < (List.length (List.map cI a1):Int))))],[(0,.rows 1 (List.map cI x4))],1⟩ ?_
  simp only[List.length_map]
  refine jN ?_
  refine jIf ?_ ?_
  ·refine jc_skip ?_
   refine jx_seqN ?_
   refine jc_seq ?_
   refine jc_block ?_
   refine jc_reg ?_
   refine jG 0 3 ⟨[V 0 (.fsl 1 (List.map c_L3 a0)),V 1 (.fsl 1 (List.map cI a1)),V 6 (iv x5),V 18 (.osl 0 0 (List.length x4) 1),V 19 (.fsl 1 (List.map cI a1)),V 20 (iv x5)],[(0,.rows 1 (List.map cI x4))],1⟩ ?_
   refine jr_part (i:=3) (mo:=ixl a1 x5) rfl rfl rfl rfl (fun _ hc=>aop_ixf (c:=cI) (sz:=1) (e:=3) (kk:=.i64) (by kernel_rfl) (by kernel_rfl) (by kernel_rfl) (by kernel_rfl) hc) (fun _=>rfl) ?_
   intro x11 h11
   refine jG 4 3 ⟨[V 0 (.fsl 1 (List.map c_L3 a0)),V 1 (.fsl 1 (List.map cI a1)),V 6 (iv x5),V 18 (.osl 0 0 (List.length x4) 1),V 24 (.osl 1 0 (List.length [(w64 (0 - x11))]) 1)],[(0,.rows 1 (List.map cI x4)),(1,.rows 1 (List.map cI [(w64 (0 - x11))]))],2⟩ ?_
   refine jr_part (i:=7) (mo:=app 8 x4 [(w64 (0 - x11))]) rfl rfl rfl rfl (fun _ hc=>aop_app (u:=.osl 0 0 (List.length x4) 1) (w:=.osl 1 0 (List.length [(w64 (0 - x11))]) 1) (e:=3) (td:=.slice 3) (by kernel_rfl) (by kernel_rfl) (by kernel_rfl) (by kernel_rfl) (.inl ⟨_,rfl⟩) (appendOf_own (c:=cI) (sz:=1) (b:=8) (id:=0) (by kernel_rfl) (by kernel_rfl) (rows_own (by kernel_rfl)) (List.cons_ne_nil _ _) hc)) (fun _=>rfl) ?_
   intro x12 h12
   refine jG 8 1 ⟨[V 0 (.fsl 1 (List.map c_L3 a0)),V 1 (.fsl 1 (List.map cI a1)),V 5 (.osl 2 0 (List.length x12) 1),V 6 (iv x5)],[(2,.rows 1 (List.map cI x12))],3⟩ ?_
   refine jr_nil rfl ?_
   refine jx_blkN ?_
   refine jx_seqN ?_
   refine jT ⟨[V 0 (.fsl 1 (List.map c_L3 a0)),V 1 (.fsl 1 (List.map cI a1)),V 5 (.osl 2 0 (List.length x12) 1),V 6 (iv (w64 (x5 + 1)))],[(2,.rows 1 (List.map cI x12))],3⟩ ?_
   exact jx_next (wkR [(0,some 2)] (fix_nil _) (pc (hL 2 (noid_map ni_I _)) allp_nil))
  refine jc_exit ?_
  refine jx_seqE ?_
  exact jx_done rfl nofun (wkR [(0,some 0)] (fix_nil _) (pc (hL 0 (noid_map ni_I _)) allp_nil))
 intro x10
 refine jx_blkE ?_
 refine jx_seqN ?_
 refine jR ?_
 refine jG 0 2 ⟨[V 27 (.fsl 1 (List.map c_L3 a0)),V 28 (.osl 0 0 (List.length x10) 1)],[(0,.rows 1 (List.map cI x10))],1⟩ ?_
 refine jr_callM 2 [(0,some 0)] [(0,some 0),(1,some 1)] (fun r:List S_api_Deduced × Int=>[(0,.rows 1 (List.map cI x10)),(1,.rows 2 (List.map c_S_api_Deduced r.1))]) (fun r:List S_api_Deduced × Int=>.tup [.osl 1 0 (List.length r.1) 2,iv r.2]) 2 (ref26_Run_m8296_ok a0 x10) (pc (hL 0 (noid_map ni_I _)) allp_nil) (fun r=>(pc (.inr (hL 0 (noid_map ni_I _))) (pc (.inr (hL 1 (noid_map ni_S_api_Deduced _))) allp_nil))) ?_
 rintro⟨x13,x14⟩ hm1
 refine jG 3 5 ⟨[V 8 (iv x14)],[],2⟩ ?_
 refine jN ?_
 refine jS ⟨[V 4 (bv (x14 != (-1)))],[],2⟩ ?_
 refine jc_ret ?_
 exact jx_retF (.inr rfl) (v:=bv (x14 != (-1))) (by kernel_rfl) rfl (fle_refl _))
abbrev law26_PropTells_r1:List LO:=[lo 6 (.assign (.const (.bool false))) 4]
abbrev law26_PropTells_r2:List LO:=[lm 13 0 22,lo 14 (.call ⟨.value (.func 5),#[.tmp 13],#[22]⟩) 22,lm 15 1 23,lm 16 1 23,lo 17 (.call ⟨.builtin .len,#[.tmp 16],#[23]⟩) 3,lo 18 (.call ⟨.builtin .min,#[.tmp 17,.const (.int .i64 30)],#[3,3]⟩) 3,lo 19 (.slice 23 (.tmp 15) none (some (.tmp 18)) none) 23,lo 7 (.assign (.tmp 14)) 22,lo 8 (.assign (.tmp 19)) 23]
abbrev law26_PropTells_r3:List LO:=[lm 21 7 22,lm 22 8 23,lo 23 (.call ⟨.value (.func 6),#[.tmp 21,.tmp 22],#[22,23]⟩) 26,lm 20 23 26,lo 24 (.extract (.tmp 20) 0) 23,lo 25 (.extract (.tmp 20) 1) 4,lo 9 (.assign (.tmp 24)) 23,lo 10 (.assign (.tmp 25)) 4]
abbrev law26_PropTells_r4:List LO:=[lm 27 7 22,lm 28 8 23,lo 29 (.call ⟨.value (.func 7),#[.tmp 27,.tmp 28],#[22,23]⟩) 26,lm 26 29 26,lo 30 (.extract (.tmp 26) 0) 23,lo 31 (.extract (.tmp 26) 1) 4,lo 11 (.assign (.tmp 30)) 23,lo 12 (.assign (.tmp 31)) 4]
abbrev law26_PropTells_r5:List LO:=[lm 32 7 22,lm 33 8 23,lo 34 (.call ⟨.value (.func 8),#[.tmp 32,.tmp 33],#[22,23]⟩) 4,lm 35 7 22,lm 36 8 23,lo 37 (.call ⟨.value (.func 9),#[.tmp 35,.tmp 36],#[22,23]⟩) 4,lo 38 (.binOp .eql 4 (.tmp 34) (.tmp 37) 4) 4,lm 39 38 4,lmg 40 7 22 39 true,lmg 41 2 24 39 true,lg 42 (.call ⟨.value (.func 10),#[.tmp 40,.tmp 41],#[22,24]⟩) 4 39 true,lmg 43 7 22 39 true,lmg 44 2 24 39 true,lg 45 (.call ⟨.value (.func 11),#[.tmp 43,.tmp 44],#[22,24]⟩) 4 39 true,lg 46 (.binOp .eql 4 (.tmp 42) (.tmp 45) 4) 4 39 true,lo 47 (.pick (.tmp 39) (.tmp 46) (.const (.bool false))) 4,lm 48 47 4,lmg 49 9 23 48 true,lmg 50 11 23 48 true,lg 51 (.call ⟨.value (.func 12),#[.tmp 49,.tmp 50],#[23,23]⟩) 4 48 true,lo 52 (.pick (.tmp 48) (.tmp 51) (.const (.bool false))) 4,lm 53 52 4,lmg 54 10 4 53 true,lmg 55 12 4 53 true,lg 56 (.binOp .eql 4 (.tmp 54) (.tmp 55) 4) 4 53 true,lo 57 (.pick (.tmp 53) (.tmp 56) (.const (.bool false))) 4,lm 58 57 4,lg 59 (.call ⟨.value (.func 13),#[],#[]⟩) 4 58 true,lo 60 (.pick (.tmp 58) (.tmp 59) (.const (.bool false))) 4,lo 6 (.assign (.tmp 60)) 4]
abbrev law26_PropTells_c:LC:=.seq (.reg false law26_PropTells_r1) (.seq (.reg true law26_PropTells_r2) (.seq (.reg false law26_PropTells_r3) (.seq (.reg false law26_PropTells_r4) (.seq (.reg false law26_PropTells_r5) .ret))))
theorem law26_PropTells_k:FnOk E 3 61 [.tmp 6] law26_PropTells_c:=⟨⟨Go.Proofs.Try.f3,by kernel_rfl,by kernel_rfl,by kernel_rfl,by kernel_rfl,by kernel_rfl⟩,rfl,rfl⟩
noncomputable def law26_PropTells (a0:(List (List Int))) (a1:(List Int)) (a2:(List S_api_Deduced)):Option (Bool):=Option.bind (law26_few a0) (fun x1=>Option.bind (subl a1 0 (if 30 < (List.length a1:Int) then 30 else (List.length a1:Int))) (fun x2=>Option.bind (prop_Close x1 x2) (fun (x3,x4)=>Option.bind (ref26_Close x1 x2) (fun (x5,x6)=>Option.bind (prop_Follows x1 x2) (fun x7=>Option.bind (ref26_Follows x1 x2) (fun x8=>Option.bind (if (x7 == x8)=true then Option.bind (prop_Right x1 a2) (fun x12=>Option.bind (ref26_Right x1 a2) (fun x13=>some (x12 == x13))) else some false:Option (Bool)) (fun x11=>Option.bind (if x11=true then Option.bind (ref26_Ints x3 x5) (fun x16=>some x16) else some false:Option (Bool)) (fun x15=>Option.bind (if (x15 && (x4 == x6))=true then Option.bind (law26_awake) (fun x19=>some x19) else some false:Option (Bool)) (fun x18=>some x18)))))))))
theorem law26_PropTells_ok (a0:(List (List Int))) (a1:(List Int)) (a2:(List S_api_Deduced)):Ct E 3 [.fsl 1 (List.map c_L3 a0),.fsl 1 (List.map cI a1),.fsl 2 (List.map c_S_api_Deduced a2)] (law26_PropTells a0 a1 a2) (fun r:Bool=>bv r):=ct_intro (N:=61) (L:=law26_PropTells_c) law26_PropTells_k rfl (Nat.le_of_ble_eq_true rfl) (by kernel_rfl) (by
 unfold law26_PropTells
 refine jS ⟨[V 0 (.fsl 1 (List.map c_L3 a0)),V 1 (.fsl 1 (List.map cI a1)),V 2 (.fsl 2 (List.map c_S_api_Deduced a2))],[],0⟩ ?_
 refine jR ?_
 refine jG 0 1 ⟨[V 1 (.fsl 1 (List.map cI a1)),V 2 (.fsl 2 (List.map c_S_api_Deduced a2)),V 13 (.fsl 1 (List.map c_L3 a0))],[],0⟩ ?_
 refine jK 1 (law26_few_ok a0) ?_
 intro x1 h1
 refine jG 2 4 ⟨[V 2 (.fsl 2 (List.map c_S_api_Deduced a2)),V 14 (.fsl 1 (List.map c_L3 x1)),V 15 (.fsl 1 (List.map cI a1)),V 18 (iv (if 30 < (List.length (List.map cI a1):Int) then 30 else (List.length (List.map cI a1):Int)))],[],0⟩ ?_
 simp only[List.length_map]
 refine jr_part (i:=6) (mo:=subl a1 0 (if 30 < (List.length a1:Int) then 30 else (List.length a1:Int))) rfl rfl rfl rfl (fun _ hc=>aop_subf (c:=cI) (sz:=1) (e:=3) (by kernel_rfl) (by kernel_rfl) (by kernel_rfl) (by kernel_rfl) (by kernel_rfl) hc) (fun _=>rfl) ?_
 intro x2 h2
 refine jG 7 2 ⟨[V 2 (.fsl 2 (List.map c_S_api_Deduced a2)),V 7 (.fsl 1 (List.map c_L3 x1)),V 8 (.fsl 1 (List.map cI x2))],[],0⟩ ?_
 refine jN ?_
 refine jR ?_
 refine jG 0 2 ⟨[V 2 (.fsl 2 (List.map c_S_api_Deduced a2)),V 7 (.fsl 1 (List.map c_L3 x1)),V 8 (.fsl 1 (List.map cI x2)),V 21 (.fsl 1 (List.map c_L3 x1)),V 22 (.fsl 1 (List.map cI x2))],[],0⟩ ?_
 refine jr_callM 2 [] [(0,some 0)] (fun r:List Int × Bool=>[(0,.rows 1 (List.map cI r.1))]) (fun r:List Int × Bool=>.tup [.osl 0 0 (List.length r.1) 1,bv r.2]) 1 (prop_Close_ok x1 x2) allp_nil (fun r=>(pc (.inr (hL 0 (noid_map ni_I _))) allp_nil)) ?_
 rintro⟨x3,x4⟩ hm2
 refine jG 3 5 ⟨[V 2 (.fsl 2 (List.map c_S_api_Deduced a2)),V 7 (.fsl 1 (List.map c_L3 x1)),V 8 (.fsl 1 (List.map cI x2)),V 9 (.osl 0 0 (List.length x3) 1),V 10 (bv x4)],[(0,.rows 1 (List.map cI x3))],1⟩ ?_
 refine jN ?_
 refine jR ?_
 refine jG 0 2 ⟨[V 2 (.fsl 2 (List.map c_S_api_Deduced a2)),V 7 (.fsl 1 (List.map c_L3 x1)),V 8 (.fsl 1 (List.map cI x2)),V 9 (.osl 0 0 (List.length x3) 1),V 10 (bv x4),V 27 (.fsl 1 (List.map c_L3 x1)),V 28 (.fsl 1 (List.map cI x2))],[(0,.rows 1 (List.map cI x3))],1⟩ ?_
 refine jr_callM 2 [] [(1,some 0)] (fun r:List Int × Bool=>[(0,.rows 1 (List.map cI x3)),(1,.rows 1 (List.map cI r.1))]) (fun r:List Int × Bool=>.tup [.osl 1 0 (List.length r.1) 1,bv r.2]) 2 (ref26_Close_ok x1 x2) allp_nil (fun r=>(pc (.inl ⟨rfl,rfl⟩) (pc (.inr (hL 0 (noid_map ni_I _))) allp_nil))) ?_
 rintro⟨x5,x6⟩ hm1
 refine jG 3 5 ⟨[V 2 (.fsl 2 (List.map c_S_api_Deduced a2)),V 7 (.fsl 1 (List.map c_L3 x1)),V 8 (.fsl 1 (List.map cI x2)),V 9 (.osl 0 0 (List.length x3) 1),V 10 (bv x4),V 11 (.osl 1 0 (List.length x5) 1),V 12 (bv x6)],[(0,.rows 1 (List.map cI x3)),(1,.rows 1 (List.map cI x5))],2⟩ ?_
 refine jN ?_
 refine jR ?_
 refine jG 0 2 ⟨[V 2 (.fsl 2 (List.map c_S_api_Deduced a2)),V 7 (.fsl 1 (List.map c_L3 x1)),V 8 (.fsl 1 (List.map cI x2)),V 9 (.osl 0 0 (List.length x3) 1),V 10 (bv x4),V 11 (.osl 1 0 (List.length x5) 1),V 12 (bv x6),V 32 (.fsl 1 (List.map c_L3 x1)),V 33 (.fsl 1 (List.map cI x2))],[(0,.rows 1 (List.map cI x3)),(1,.rows 1 (List.map cI x5))],2⟩ ?_
 refine jK 2 (prop_Follows_ok x1 x2) ?_
 intro x7 h7
 refine jG 3 2 ⟨[V 2 (.fsl 2 (List.map c_S_api_Deduced a2)),V 7 (.fsl 1 (List.map c_L3 x1)),V 9 (.osl 0 0 (List.length x3) 1),V 10 (bv x4),V 11 (.osl 1 0 (List.length x5) 1),V 12 (bv x6),V 34 (bv x7),V 35 (.fsl 1 (List.map c_L3 x1)),V 36 (.fsl 1 (List.map cI x2))],[(0,.rows 1 (List.map cI x3)),(1,.rows 1 (List.map cI x5))],2⟩ ?_
 refine jK 5 (ref26_Follows_ok x1 x2) ?_
 intro x8 h8
 refine jG 6 2 ⟨[V 2 (.fsl 2 (List.map c_S_api_Deduced a2)),V 7 (.fsl 1 (List.map c_L3 x1)),V 9 (.osl 0 0 (List.length x3) 1),V 10 (bv x4),V 11 (.osl 1 0 (List.length x5) 1),V 12 (bv x6),V 39 (bv (x7 == x8))],[(0,.rows 1 (List.map cI x3)),(1,.rows 1 (List.map cI x5))],2⟩ ?_
 refine jr_bind 8 8 (fun x11=>⟨[V 9 (.osl 0 0 (List.length x3) 1),V 10 (bv x4),V 11 (.osl 1 0 (List.length x5) 1),V 12 (bv x6),V 47 (bv x11)],[(0,.rows 1 (List.map cI x3)),(1,.rows 1 (List.map cI x5))],2⟩) ?_ ?_
 ·refine jSp 39 ?_ ?_
  ·refine jG 0 2 ⟨[V 2 (.fsl 2 (List.map c_S_api_Deduced a2)),V 7 (.fsl 1 (List.map c_L3 x1)),V 9 (.osl 0 0 (List.length x3) 1),V 10 (bv x4),V 11 (.osl 1 0 (List.length x5) 1),V 12 (bv x6),(39,.lit true),V 40 (.fsl 1 (List.map c_L3 x1)),V 41 (.fsl 2 (List.map c_S_api_Deduced a2))],[(0,.rows 1 (List.map cI x3)),(1,.rows 1 (List.map cI x5))],2⟩ ?_
   refine jK 2 (prop_Right_ok x1 a2) ?_
   intro x12 h12
   refine jG 3 2 ⟨[V 9 (.osl 0 0 (List.length x3) 1),V 10 (bv x4),V 11 (.osl 1 0 (List.length x5) 1),V 12 (bv x6),(39,.lit true),V 42 (bv x12),V 43 (.fsl 1 (List.map c_L3 x1)),V 44 (.fsl 2 (List.map c_S_api_Deduced a2))],[(0,.rows 1 (List.map cI x3)),(1,.rows 1 (List.map cI x5))],2⟩ ?_
   refine jK 5 (ref26_Right_ok x1 a2) ?_
   intro x13 h13
   refine jG 6 2 ⟨[V 9 (.osl 0 0 (List.length x3) 1),V 10 (bv x4),V 11 (.osl 1 0 (List.length x5) 1),V 12 (bv x6),V 47 (bv (x12 == x13))],[(0,.rows 1 (List.map cI x3)),(1,.rows 1 (List.map cI x5))],2⟩ ?_
   refine jr_nil rfl ?_
   exact jx_mid rfl (wkR [(0,some 0),(1,some 1)] (fix_nil _) (pc (hL 0 (noid_map ni_I _)) (pc (hL 1 (noid_map ni_I _)) allp_nil)))
  refine jG 0 8 ⟨[V 9 (.osl 0 0 (List.length x3) 1),V 10 (bv x4),V 11 (.osl 1 0 (List.length x5) 1),V 12 (bv x6),V 47 (bv false)],[(0,.rows 1 (List.map cI x3)),(1,.rows 1 (List.map cI x5))],2⟩ ?_
  refine jr_nil rfl ?_
  exact jx_mid rfl (wkR [(0,some 0),(1,some 1)] (fix_nil _) (pc (hL 0 (noid_map ni_I _)) (pc (hL 1 (noid_map ni_I _)) allp_nil)))
 intro x11
 refine jG 16 1 ⟨[V 9 (.osl 0 0 (List.length x3) 1),V 10 (bv x4),V 11 (.osl 1 0 (List.length x5) 1),V 12 (bv x6),V 48 (bv x11)],[(0,.rows 1 (List.map cI x3)),(1,.rows 1 (List.map cI x5))],2⟩ ?_
 refine jr_bind 17 4 (fun x15=>⟨[V 10 (bv x4),V 12 (bv x6),V 52 (bv x15)],[],0⟩) ?_ ?_
 ·refine jSp 48 ?_ ?_
  ·refine jG 0 2 ⟨[V 10 (bv x4),V 12 (bv x6),(48,.lit true),V 49 (.osl 0 0 (List.length x3) 1),V 50 (.osl 1 0 (List.length x5) 1)],[(0,.rows 1 (List.map cI x3)),(1,.rows 1 (List.map cI x5))],2⟩ ?_
   refine jr_callF (i:=2) rfl rfl rfl rfl (vs:=[.osl 0 0 (List.length x3) 1,.osl 1 0 (List.length x5) 1]) (by kernel_rfl) (snapL_cons (snapc_own fz_I (by kernel_rfl)) (snapL_cons (snapc_own fz_I (by kernel_rfl)) (snapL_nil _))) (all2_cons (fle_refl _) (all2_cons (fle_refl _) all2_nil)) (ref26_Ints_ok x3 x5) (fun _=>rfl) (fun _=>rfl) ?_
   intro x16 h16
   refine jG 3 1 ⟨[V 10 (bv x4),V 12 (bv x6),V 52 (bv x16)],[],2⟩ ?_
   refine jr_nil rfl ?_
   exact jx_mid rfl (wkR [] (fix_nil _) allp_nil)
  refine jG 0 4 ⟨[V 10 (bv x4),V 12 (bv x6),V 52 (bv false)],[],2⟩ ?_
  refine jr_nil rfl ?_
  exact jx_mid rfl (wkR [] (fix_nil _) allp_nil)
 intro x15
 refine jG 21 6 ⟨[V 58 (bv (x15 && (x4 == x6)))],[],0⟩ ?_
 refine jr_bind 27 2 (fun x18=>⟨[V 60 (bv x18)],[],0⟩) ?_ ?_
 ·refine jSp 58 ?_ ?_
  ·refine jK 0 (law26_awake_ok) ?_
   intro x19 h19
   refine jG 1 1 ⟨[V 60 (bv x19)],[],0⟩ ?_
   refine jr_nil rfl ?_
   exact jx_mid rfl (wkR [] (fix_nil _) allp_nil)
  refine jG 0 2 ⟨[V 60 (bv false)],[],0⟩ ?_
  refine jr_nil rfl ?_
  exact jx_mid rfl (wkR [] (fix_nil _) allp_nil)
 intro x18
 refine jG 29 1 ⟨[V 6 (bv x18)],[],0⟩ ?_
 refine jN ?_
 refine jc_ret ?_
 exact jx_retF (.inr rfl) (v:=bv x18) (by kernel_rfl) rfl (fle_refl _))
end Go.Vm

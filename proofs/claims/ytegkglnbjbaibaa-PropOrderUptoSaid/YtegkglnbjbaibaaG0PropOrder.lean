/- The law PropOrder, a part of its proof: what the functions that it reaches compute. -/
import Derived.Test.YtegkglnbjbaibaaDx2f8c66e6
set_option linter.unusedVariables false
set_option linter.unusedSimpArgs false
set_option linter.unusedVariables false
namespace Go.Vm
open Go
structure S_api_Deduced where
  Lit:Int
  Reason:Int
  deriving DecidableEq,Inhabited
abbrev c_S_api_Deduced (x:S_api_Deduced):List AV:=[iv x.Lit,iv x.Reason]
theorem ni_S_api_Deduced (x:S_api_Deduced):NoIds (c_S_api_Deduced x):=noids_cons (noid_s _) (noids_cons (noid_s _) (noids_nil))
theorem fz_S_api_Deduced (x:S_api_Deduced):Frz (c_S_api_Deduced x):=frz_s (frz_s (frz_nil))
abbrev c_L3 (x:List Int):List AV:=[.fsl 1 (List.map cI x)]
theorem ni_L3 (x:List Int):NoIds (c_L3 x):=noids_cons (noid_fsl _ _) noids_nil
set_option maxRecDepth 100000
set_option maxHeartbeats 0
set_option linter.unusedSimpArgs false
abbrev prop_literal_r1:List LO:=[lo 2 (.assign (.const (.bool false))) 4]
abbrev prop_literal_r2:List LO:=[lm 3 0 3,lo 4 (.binOp .neq 3 (.tmp 3) (.const (.int .i64 0)) 3) 4,lm 5 4 4,lmg 6 0 3 5 true,lg 7 (.binOp .leq 3 (.tmp 6) (.const (.int .i64 4096)) 3) 4 5 true,lo 8 (.pick (.tmp 5) (.tmp 7) (.const (.bool false))) 4,lm 9 8 4,lmg 10 0 3 9 true,lg 11 (.binOp .geq 3 (.tmp 10) (.const (.int .i64 (-4096))) 3) 4 9 true,lo 12 (.pick (.tmp 9) (.tmp 11) (.const (.bool false))) 4,lo 2 (.assign (.tmp 12)) 4]
abbrev prop_literal_c:LC:=.seq (.reg false prop_literal_r1) (.seq (.reg false prop_literal_r2) .ret)
theorem prop_literal_k:FnOk E 21 13 [.tmp 2] prop_literal_c:=⟨⟨Go.Proofs.Try.f21,by kernel_rfl,by kernel_rfl,by kernel_rfl,by kernel_rfl,by kernel_rfl⟩,rfl,rfl⟩
noncomputable def prop_literal (a0:Int):Option (Bool):=some (((a0 != 0) && (decide (a0≤4096))) && (decide (a0≥(-4096))))
theorem prop_literal_ok (a0:Int):Ct E 21 [iv a0] (prop_literal a0) (fun r:Bool=>bv r):=ct_intro (N:=13) (L:=prop_literal_c) prop_literal_k rfl (Nat.le_of_ble_eq_true rfl) (by kernel_rfl) (by
 unfold prop_literal
 refine jS ⟨[V 0 (iv a0)],[],0⟩ ?_
 refine jS ⟨[V 2 (bv (((a0 != 0) && (decide (a0≤4096))) && (decide (a0≥(-4096)))))],[],0⟩ ?_
 refine jc_ret ?_
 exact jx_retF (.inr rfl) (v:=bv (((a0 != 0) && (decide (a0≤4096))) && (decide (a0≥(-4096))))) (by kernel_rfl) rfl (fle_refl _))
abbrev prop_size_r1:List LO:=[lo 2 (.assign (.const (.int .i64 0))) 3]
abbrev prop_size_r2:List LO:=[lm 3 0 3,lm 4 0 3,lo 5 (.unOp .neg 3 (.tmp 4)) 3,lo 6 (.call ⟨.builtin .max,#[.tmp 3,.tmp 5],#[3,3]⟩) 3,lo 2 (.assign (.tmp 6)) 3]
abbrev prop_size_c:LC:=.seq (.reg false prop_size_r1) (.seq (.reg false prop_size_r2) .ret)
theorem prop_size_k:FnOk E 18 7 [.tmp 2] prop_size_c:=⟨⟨Go.Proofs.Try.f18,by kernel_rfl,by kernel_rfl,by kernel_rfl,by kernel_rfl,by kernel_rfl⟩,rfl,rfl⟩
noncomputable def prop_size (a0:Int):Option (Int):=some (if (w64 (0 - a0)) > a0 then (w64 (0 - a0)) else a0)
theorem prop_size_ok (a0:Int):Ct E 18 [iv a0] (prop_size a0) (fun r:Int=>iv r):=ct_intro (N:=7) (L:=prop_size_c) prop_size_k rfl (Nat.le_of_ble_eq_true rfl) (by kernel_rfl) (by
 unfold prop_size
 refine jS ⟨[V 0 (iv a0)],[],0⟩ ?_
 refine jS ⟨[V 2 (iv (if (w64 (0 - a0)) > a0 then (w64 (0 - a0)) else a0))],[],0⟩ ?_
 refine jc_ret ?_
 exact jx_retF (.inr rfl) (v:=iv (if (w64 (0 - a0)) > a0 then (w64 (0 - a0)) else a0)) (by kernel_rfl) rfl (fle_refl _))
abbrev prop_sheet_of_r1:List LO:=[lo 4 (.assign (.const (.int .i64 0))) 3]
abbrev prop_sheet_of_r2:List LO:=[lm 6 0 46,lm 7 1 3,lo 8 (.call ⟨.value (.func 18),#[.tmp 7],#[3]⟩) 3,lo 9 (.nilCheck (.tmp 6)) 0,lo 10 (.fieldAddr 50 (.tmp 9) 0) 0,lo 11 (.indexAddr 48 (.tmp 10) (.tmp 8)) 0,lo 12 (.load 47 (.tmp 11)) 47,lo 13 (.convert 47 3 (.tmp 12)) 3,lo 5 (.assign (.tmp 13)) 3]
abbrev prop_sheet_of_r3:List LO:=[lm 14 1 3,lo 15 (.binOp .lss 3 (.tmp 14) (.const (.int .i64 0)) 3) 4]
abbrev prop_sheet_of_r4:List LO:=[lm 16 5 3,lo 17 (.unOp .neg 3 (.tmp 16)) 3,lo 4 (.assign (.tmp 17)) 3]
abbrev prop_sheet_of_r5:List LO:=[lm 18 5 3,lo 4 (.assign (.tmp 18)) 3]
abbrev prop_sheet_of_c:LC:=.seq (.reg false prop_sheet_of_r1) (.seq (.reg true prop_sheet_of_r2) (.seq (.seq (.reg false prop_sheet_of_r3) (.cond (.tmp 15) (.seq (.reg false prop_sheet_of_r4) .ret) .skip)) (.seq (.reg false prop_sheet_of_r5) .ret)))
theorem prop_sheet_of_k:FnOk E 27 19 [.tmp 4] prop_sheet_of_c:=⟨⟨Go.Proofs.Try.f27,by kernel_rfl,by kernel_rfl,by kernel_rfl,by kernel_rfl,by kernel_rfl⟩,rfl,rfl⟩
abbrev prop_sheet_of_T (a0:List Int) (a1:List S_api_Deduced) (a2:Int) (r:Int):CS:=⟨[V 4 (iv r)],[(0,.rows 4098 [List.map aI8 a0 ++ [.osl 1 0 (List.length a1) 2]]),(1,.rows 2 (List.map c_S_api_Deduced a1))],2⟩
noncomputable def prop_sheet_of (a0:List Int) (a1:List S_api_Deduced) (a2:Int):Option (Int):=Option.bind (prop_size a2) (fun x4=>Option.bind (ixA 4097 a0 x4) (fun x5=>(if (decide (a2 < 0))=true then some (w64 (0 - (w64 (x5)))) else some (w64 (x5)))))
theorem prop_sheet_of_ok (a0:List Int) (a1:List S_api_Deduced) (a2:Int):CtM E 27 [pt 0 4098,iv a2] [(0,.rows 4098 [List.map aI8 a0 ++ [.osl 1 0 (List.length a1) 2]]),(1,.rows 2 (List.map c_S_api_Deduced a1))] 2 (prop_sheet_of a0 a1 a2) (fun r:Int=>iv r) (fun r:Int=>[(0,.rows 4098 [List.map aI8 a0 ++ [.osl 1 0 (List.length a1) 2]]),(1,.rows 2 (List.map c_S_api_Deduced a1))]) 2:=ctm_intro (N:=19) (L:=prop_sheet_of_c) prop_sheet_of_k rfl (Nat.le_of_ble_eq_true rfl) (fun F hF=>by
 unfold prop_sheet_of
 refine jS ⟨[V 0 (pt 0 4098),V 1 (iv a2)],[(0,.rows 4098 [List.map aI8 a0 ++ [.osl 1 0 (List.length a1) 2]]),(1,.rows 2 (List.map c_S_api_Deduced a1))],2⟩ ?_
 refine jR ?_
 refine jG 0 2 ⟨[V 1 (iv a2),V 6 (pt 0 4098),V 7 (iv a2)],[(0,.rows 4098 [List.map aI8 a0 ++ [.osl 1 0 (List.length a1) 2]]),(1,.rows 2 (List.map c_S_api_Deduced a1))],2⟩ ?_
 refine jK 2 (prop_size_ok a2) ?_
 intro x4 h4
 refine jG 3 2 ⟨[V 1 (iv a2),V 8 (iv x4),V 10 (pt 0 4098)],[(0,.rows 4098 [List.map aI8 a0 ++ [.osl 1 0 (List.length a1) 2]]),(1,.rows 2 (List.map c_S_api_Deduced a1))],2⟩ ?_
 refine jr_part (i:=5) (mo:=ixA 4097 a0 x4) rfl rfl rfl rfl (fun _ hc=>aop_ixa (sz:=4098) (e:=47) (kk:=.i64) (id:=0) (i:=0) (by kernel_rfl) (by kernel_rfl) (by kernel_rfl) (by kernel_rfl) hc) (fun _=>rfl) ?_
 intro x5 h5
 refine jr_one (i:=6) (v:=aI8 x5) (us:=[]) rfl rfl rfl rfl (aop_lda (l:=a0) (c:=aI8) (rest:=[.osl 1 0 (List.length a1) 2]) (id:=0) (sz:=4098) (k:=(Int.toNat x4)) (a:=x5) (by kernel_rfl) (by kernel_rfl) (by kernel_rfl) (by kernel_rfl) (ixA_at h5)) rfl ?_
 refine jG 7 2 ⟨[V 1 (iv a2),V 5 (iv (w64 (x5)))],[(0,.rows 4098 [List.map aI8 a0 ++ [.osl 1 0 (List.length a1) 2]]),(1,.rows 2 (List.map c_S_api_Deduced a1))],3⟩ ?_
 refine jN ?_
 refine jc_seq ?_
 refine jS ⟨[V 5 (iv (w64 (x5))),V 15 (bv (decide (a2 < 0)))],[(0,.rows 4098 [List.map aI8 a0 ++ [.osl 1 0 (List.length a1) 2]]),(1,.rows 2 (List.map c_S_api_Deduced a1))],3⟩ ?_
 refine jIf ?_ ?_
 ·refine jS ⟨[V 4 (iv (w64 (0 - (w64 (x5)))))],[(0,.rows 4098 [List.map aI8 a0 ++ [.osl 1 0 (List.length a1) 2]]),(1,.rows 2 (List.map c_S_api_Deduced a1))],3⟩ ?_
  refine jc_ret ?_
  refine jx_seqR ?_
  exact jx_retM (prop_sheet_of_T a0 a1 a2 (w64 (0 - (w64 (x5))))) (.inr rfl) (wkR [(0,some 0),(1,some 1)] (fix_of hF (k:=2) rfl) (pc (hA 0) (pc (hL 1 (noid_map ni_S_api_Deduced _)) allp_nil)))
 refine jc_skip ?_
 refine jx_seqN ?_
 refine jS ⟨[V 4 (iv (w64 (x5)))],[(0,.rows 4098 [List.map aI8 a0 ++ [.osl 1 0 (List.length a1) 2]]),(1,.rows 2 (List.map c_S_api_Deduced a1))],3⟩ ?_
 refine jc_ret ?_
 exact jx_retM (prop_sheet_of_T a0 a1 a2 (w64 (x5))) (.inr rfl) (wkR [(0,some 0),(1,some 1)] (fix_of hF (k:=2) rfl) (pc (hA 0) (pc (hL 1 (noid_map ni_S_api_Deduced _)) allp_nil))))
abbrev prop_sheet_look_r1:List LO:=[lo 4 (.assign (.const (.bool false))) 4,lo 5 (.assign (.const (.int .i64 0))) 3]
abbrev prop_sheet_look_r2:List LO:=[lm 10 1 23,lo 11 (.call ⟨.builtin .len,#[.tmp 10],#[23]⟩) 3,lo 12 (.move (.const (.int .i64 0))) 3]
abbrev prop_sheet_look_r3:List LO:=[lo 13 (.binOp .lss 3 (.tmp 12) (.tmp 11) 3) 0]
abbrev prop_sheet_look_r4:List LO:=[lo 14 (.indexAddr 23 (.tmp 10) (.tmp 12)) 0,lo 15 (.load 3 (.tmp 14)) 3,lo 7 (.assign (.tmp 15)) 3]
abbrev prop_sheet_look_r5:List LO:=[lm 17 7 3,lo 18 (.call ⟨.value (.func 21),#[.tmp 17],#[3]⟩) 4,lo 19 (.unOp .not 4 (.tmp 18)) 4,lo 16 (.assign (.tmp 19)) 4]
abbrev prop_sheet_look_r6:List LO:=[lm 20 0 46,lm 21 7 3,lo 22 (.call ⟨.value (.func 27),#[.tmp 20,.tmp 21],#[46,3]⟩) 3,lo 23 (.binOp .gtr 3 (.tmp 22) (.const (.int .i64 0)) 3) 4,lo 16 (.assign (.tmp 23)) 4]
abbrev prop_sheet_look_r7:List LO:=[lo 4 (.assign (.const (.bool false))) 4,lo 5 (.assign (.const (.int .i64 0))) 3]
abbrev prop_sheet_look_r8:List LO:=[lo 24 (.binOp .add 3 (.tmp 12) (.const (.int .i64 1)) 3) 3,lm 12 24 3]
abbrev prop_sheet_look_r9:List LO:=[lm 25 1 23,lo 26 (.call ⟨.builtin .len,#[.tmp 25],#[23]⟩) 3,lo 27 (.move (.const (.int .i64 0))) 3]
abbrev prop_sheet_look_r10:List LO:=[lo 28 (.binOp .lss 3 (.tmp 27) (.tmp 26) 3) 0]
abbrev prop_sheet_look_r11:List LO:=[lo 29 (.indexAddr 23 (.tmp 25) (.tmp 27)) 0,lo 30 (.load 3 (.tmp 29)) 3,lo 9 (.assign (.tmp 30)) 3]
abbrev prop_sheet_look_r12:List LO:=[lm 31 0 46,lm 32 9 3,lo 33 (.call ⟨.value (.func 27),#[.tmp 31,.tmp 32],#[46,3]⟩) 3,lo 34 (.binOp .eql 3 (.tmp 33) (.const (.int .i64 0)) 3) 4,lm 35 34 4,lmg 36 5 3 35 true,lg 37 (.binOp .neq 3 (.tmp 36) (.const (.int .i64 0)) 3) 4 35 true,lo 38 (.pick (.tmp 35) (.tmp 37) (.const (.bool false))) 4,lm 39 38 4,lmg 40 5 3 39 true,lmg 41 9 3 39 true,lg 42 (.binOp .neq 3 (.tmp 40) (.tmp 41) 3) 4 39 true,lo 43 (.pick (.tmp 39) (.tmp 42) (.const (.bool false))) 4]
abbrev prop_sheet_look_r13:List LO:=[lo 4 (.assign (.const (.bool false))) 4,lo 5 (.assign (.const (.int .i64 0))) 3]
abbrev prop_sheet_look_r14:List LO:=[lm 44 0 46,lm 45 9 3,lo 46 (.call ⟨.value (.func 27),#[.tmp 44,.tmp 45],#[46,3]⟩) 3,lo 47 (.binOp .eql 3 (.tmp 46) (.const (.int .i64 0)) 3) 4]
abbrev prop_sheet_look_r15:List LO:=[lm 48 9 3,lo 5 (.assign (.tmp 48)) 3]
abbrev prop_sheet_look_r16:List LO:=[lo 49 (.binOp .add 3 (.tmp 27) (.const (.int .i64 1)) 3) 3,lm 27 49 3]
abbrev prop_sheet_look_r17:List LO:=[lm 50 5 3,lo 51 (.binOp .eql 3 (.tmp 50) (.const (.int .i64 0)) 3) 4,lm 52 5 3,lo 4 (.assign (.tmp 51)) 4,lo 5 (.assign (.tmp 52)) 3]
abbrev prop_sheet_look_c:LC:=.seq (.reg false prop_sheet_look_r1) (.seq (.seq (.reg false prop_sheet_look_r2) (.block 0 (.loop (.seq (.reg false prop_sheet_look_r3) (.seq (.cond (.tmp 13) .skip (.exit 0)) (.seq (.block 1 (.seq (.reg false prop_sheet_look_r4) (.block 2 (.seq (.seq (.reg false prop_sheet_look_r5) (.cond (.tmp 16) .skip (.reg false prop_sheet_look_r6))) (.cond (.tmp 16) (.seq (.reg false prop_sheet_look_r7) .ret) .skip))))) (.reg false prop_sheet_look_r8))))))) (.seq (.seq (.reg false prop_sheet_look_r9) (.block 3 (.loop (.seq (.reg false prop_sheet_look_r10) (.seq (.cond (.tmp 28) .skip (.exit 3)) (.seq (.block 4 (.seq (.reg false prop_sheet_look_r11) (.seq (.seq (.reg false prop_sheet_look_r12) (.cond (.tmp 43) (.seq (.reg false prop_sheet_look_r13) .ret) .skip)) (.seq (.reg false prop_sheet_look_r14) (.cond (.tmp 47) (.reg false prop_sheet_look_r15) .skip))))) (.reg false prop_sheet_look_r16))))))) (.seq (.reg false prop_sheet_look_r17) .ret)))
theorem prop_sheet_look_k:FnOk E 39 53 [.tmp 4,.tmp 5] prop_sheet_look_c:=⟨⟨Go.Proofs.Try.f39,by kernel_rfl,by kernel_rfl,by kernel_rfl,by kernel_rfl,by kernel_rfl⟩,rfl,rfl⟩
noncomputable def prop_sheet_look_l1 (a0:List Int) (a1:List S_api_Deduced) (a2:List Int):Int→Option (Step (Int) ((Unit) ⊕ (Unit))):=fun x30=>(if (decide (x30 < (List.length a2:Int)))=true then Option.bind (ixl a2 x30) (fun x36=>Option.bind (Option.bind (prop_literal x36) (fun x40=>(if (!x40)=true then some true else Option.bind (prop_sheet_of a0 a1 x36) (fun x41=>some (decide (x41 > 0))))):Option (Bool)) (fun x39=>(if x39=true then some (Step.done (Sum.inl ())) else some (Step.next (w64 (x30 + 1)))))) else some (Step.done (Sum.inr ())))
noncomputable def prop_sheet_look_l2 (a0:List Int) (a1:List S_api_Deduced) (a2:List Int):(Int × Int)→Option (Step (Int × Int) ((Unit) ⊕ (Int))):=fun (x46,x47)=>(if (decide (x47 < (List.length a2:Int)))=true then Option.bind (Option.bind (ixl a2 x47) (fun x59=>Option.bind (prop_sheet_of a0 a1 x59) (fun x60=>(if (((x60 == 0) && (x46 != 0)) && (x46 != x59))=true then some (Sum.inl ()) else Option.bind (prop_sheet_of a0 a1 x59) (fun x61=>(if (x61 == 0)=true then some (Sum.inr x59) else some (Sum.inr x46)))))):Option ((Unit) ⊕ (Int))) (fun y=>match y with | Sum.inl _=>some (Step.done (Sum.inl ())) | Sum.inr x58=>some (Step.next (x58,(w64 (x47 + 1))))) else some (Step.done (Sum.inr x46)))
abbrev prop_sheet_look_T (a0:List Int) (a1:List S_api_Deduced) (a2:List Int) (r:Bool × Int):CS:=⟨[V 4 (bv r.1),V 5 (iv r.2)],[(0,.rows 4098 [List.map aI8 a0 ++ [.osl 1 0 (List.length a1) 2]]),(1,.rows 2 (List.map c_S_api_Deduced a1))],2⟩
noncomputable def prop_sheet_look (a0:List Int) (a1:List S_api_Deduced) (a2:List Int):Option (Bool × Int):=Option.bind (loopC (prop_sheet_look_l1 a0 a1 a2) 0) (fun y=>match y with | Sum.inl _=>some (false,0) | Sum.inr _=>Option.bind (loopC (prop_sheet_look_l2 a0 a1 a2) (0,0)) (fun y=>match y with | Sum.inl _=>some (false,0) | Sum.inr x54=>some ((x54 == 0),x54)))
theorem prop_sheet_look_ok (a0:List Int) (a1:List S_api_Deduced) (a2:List Int):CtM E 39 [pt 0 4098,.fsl 1 (List.map cI a2)] [(0,.rows 4098 [List.map aI8 a0 ++ [.osl 1 0 (List.length a1) 2]]),(1,.rows 2 (List.map c_S_api_Deduced a1))] 2 (prop_sheet_look a0 a1 a2) (fun r:Bool × Int=>.tup [bv r.1,iv r.2]) (fun r:Bool × Int=>[(0,.rows 4098 [List.map aI8 a0 ++ [.osl 1 0 (List.length a1) 2]]),(1,.rows 2 (List.map c_S_api_Deduced a1))]) 2:=ctm_intro (N:=53) (L:=prop_sheet_look_c) prop_sheet_look_k rfl (Nat.le_of_ble_eq_true rfl) (fun F hF=>by
 unfold prop_sheet_look
 refine jS ⟨[V 0 (pt 0 4098),V 1 (.fsl 1 (List.map cI a2)),V 5 (iv 0)],[(0,.rows 4098 [List.map aI8 a0 ++ [.osl 1 0 (List.length a1) 2]]),(1,.rows 2 (List.map c_S_api_Deduced a1))],2⟩ ?_
 refine jc_seq ?_
 refine jR ?_
 refine jG 0 3 ⟨[V 0 (pt 0 4098),V 1 (.fsl 1 (List.map cI a2)),V 5 (iv 0),V 10 (.fsl 1 (List.map cI a2)),V 11 (iv (List.length (List.map cI a2):Int)),V 12 (iv 0)],[(0,.rows 4098 [List.map aI8 a0 ++ [.osl 1 0 (List.length a1) 2]]),(1,.rows 2 (List.map c_S_api_Deduced a1))],2⟩ ?_
 simp only[List.length_map]
 refine jN ?_
 refine jc_block ?_
 refine jc_bind (fun y=>match y with | Sum.inl _=>⟨[V 4 (bv false),V 5 (iv 0)],[(0,.rows 4098 [List.map aI8 a0 ++ [.osl 1 0 (List.length a1) 2]]),(1,.rows 2 (List.map c_S_api_Deduced a1))],2⟩ | Sum.inr _=>⟨[V 0 (pt 0 4098),V 1 (.fsl 1 (List.map cI a2)),V 5 (iv 0)],[(0,.rows 4098 [List.map aI8 a0 ++ [.osl 1 0 (List.length a1) 2]]),(1,.rows 2 (List.map c_S_api_Deduced a1))],2⟩) (fun y=>match y with | Sum.inl _=>.ret | Sum.inr _=>(.exit 0)) (jc_loop (fun x30=>⟨[V 0 (pt 0 4098),V 1 (.fsl 1 (List.map cI a2)),V 5 (iv 0),V 10 (.fsl 1 (List.map cI a2)),V 11 (iv (List.length a2:Int)),V 12 (iv x30)],[(0,.rows 4098 [List.map aI8 a0 ++ [.osl 1 0 (List.length a1) 2]]),(1,.rows 2 (List.map c_S_api_Deduced a1))],2⟩) (wkR [(0,some 0),(1,some 1)] (fix_of hF (k:=2) rfl) (pc (hA 0) (pc (hL 1 (noid_map ni_S_api_Deduced _)) allp_nil))) ?_) ?_
 ·intro x30
  unfold prop_sheet_look_l1
  refine jS ⟨[V 0 (pt 0 4098),V 1 (.fsl 1 (List.map cI a2)),V 5 (iv 0),V 10 (.fsl 1 (List.map cI a2)),V 11 (iv (List.length a2:Int)),V 12 (iv x30),V 13 (bv (decide (x30 < (List.length a2:Int))))],[(0,.rows 4098 [List.map aI8 a0 ++ [.osl 1 0 (List.length a1) 2]]),(1,.rows 2 (List.map c_S_api_Deduced a1))],2⟩ ?_
  refine jc_seq ?_
  refine jIf ?_ ?_
  ·refine jc_skip ?_
   refine jx_seqN ?_
   refine jc_seq ?_
   refine jc_block ?_
   refine jR ?_
   refine jr_part (i:=0) (mo:=ixl a2 x30) rfl rfl rfl rfl (fun _ hc=>aop_ixf (c:=cI) (sz:=1) (e:=3) (kk:=.i64) (by kernel_rfl) (by kernel_rfl) (by kernel_rfl) (by kernel_rfl) hc) (fun _=>rfl) ?_
   intro x36 h36
   refine jG 1 2 ⟨[V 0 (pt 0 4098),V 1 (.fsl 1 (List.map cI a2)),V 5 (iv 0),V 7 (iv x36),V 10 (.fsl 1 (List.map cI a2)),V 11 (iv (List.length a2:Int)),V 12 (iv x30)],[(0,.rows 4098 [List.map aI8 a0 ++ [.osl 1 0 (List.length a1) 2]]),(1,.rows 2 (List.map c_S_api_Deduced a1))],2⟩ ?_
   refine jN ?_
   refine jc_block ?_
   refine jc_seq ?_
   refine jc_bind (fun x39=>⟨[V 0 (pt 0 4098),V 1 (.fsl 1 (List.map cI a2)),V 5 (iv 0),V 10 (.fsl 1 (List.map cI a2)),V 11 (iv (List.length a2:Int)),V 12 (iv x30),V 16 (bv x39)],[(0,.rows 4098 [List.map aI8 a0 ++ [.osl 1 0 (List.length a1) 2]]),(1,.rows 2 (List.map c_S_api_Deduced a1))],2⟩) (fun x39=>.normal) ?_ ?_
   ·refine jR ?_
    refine jG 0 1 ⟨[V 0 (pt 0 4098),V 1 (.fsl 1 (List.map cI a2)),V 5 (iv 0),V 7 (iv x36),V 10 (.fsl 1 (List.map cI a2)),V 11 (iv (List.length a2:Int)),V 12 (iv x30),V 17 (iv x36)],[(0,.rows 4098 [List.map aI8 a0 ++ [.osl 1 0 (List.length a1) 2]]),(1,.rows 2 (List.map c_S_api_Deduced a1))],2⟩ ?_
    refine jK 1 (prop_literal_ok x36) ?_
    intro x40 h40
    refine jG 2 2 ⟨[V 0 (pt 0 4098),V 1 (.fsl 1 (List.map cI a2)),V 5 (iv 0),V 7 (iv x36),V 10 (.fsl 1 (List.map cI a2)),V 11 (iv (List.length a2:Int)),V 12 (iv x30),V 16 (bv (!x40))],[(0,.rows 4098 [List.map aI8 a0 ++ [.osl 1 0 (List.length a1) 2]]),(1,.rows 2 (List.map c_S_api_Deduced a1))],2⟩ ?_
    refine jN ?_
    refine jIf ?_ ?_
    ·refine jc_skip ?_
     exact jx_mid rfl (wkR [(0,some 0),(1,some 1)] (fix_of hF (k:=2) rfl) (pc (hA 0) (pc (hL 1 (noid_map ni_S_api_Deduced _)) allp_nil)))
    refine jc_reg ?_
    refine jG 0 2 ⟨[V 0 (pt 0 4098),V 1 (.fsl 1 (List.map cI a2)),V 5 (iv 0),V 10 (.fsl 1 (List.map cI a2)),V 11 (iv (List.length a2:Int)),V 12 (iv x30),V 20 (pt 0 4098),V 21 (iv x36)],[(0,.rows 4098 [List.map aI8 a0 ++ [.osl 1 0 (List.length a1) 2]]),(1,.rows 2 (List.map c_S_api_Deduced a1))],2⟩ ?_
    refine jr_callM 2 [(0,some 0),(1,some 1)] [(0,some 0),(1,some 1)] (fun r:Int=>[(0,.rows 4098 [List.map aI8 a0 ++ [.osl 1 0 (List.length a1) 2]]),(1,.rows 2 (List.map c_S_api_Deduced a1))]) (fun r:Int=>iv r) 2 (prop_sheet_of_ok a0 a1 x36) (pc (hA 0) (pc (hL 1 (noid_map ni_S_api_Deduced _)) allp_nil)) (fun r=>(pc (.inr (hA 0)) (pc (.inr (hL 1 (noid_map ni_S_api_Deduced _))) allp_nil))) ?_
    rintro x41 hm10
    refine jG 3 2 ⟨[V 0 (pt 0 4098),V 1 (.fsl 1 (List.map cI a2)),V 5 (iv 0),V 10 (.fsl 1 (List.map cI a2)),V 11 (iv (List.length a2:Int)),V 12 (iv x30),V 16 (bv (decide (x41 > 0)))],[(0,.rows 4098 [List.map aI8 a0 ++ [.osl 1 0 (List.length a1) 2]]),(1,.rows 2 (List.map c_S_api_Deduced a1))],2⟩ ?_
    refine jr_nil rfl ?_
    exact jx_mid rfl (wkR [(0,some 0),(1,some 1)] (fix_of hF (k:=2) rfl) (pc (hA 0) (pc (hL 1 (noid_map ni_S_api_Deduced _)) allp_nil)))
   intro x39
   refine jx_seqN ?_
   refine jIf ?_ ?_
   ·refine jS ⟨[V 4 (bv false),V 5 (iv 0)],[(0,.rows 4098 [List.map aI8 a0 ++ [.osl 1 0 (List.length a1) 2]]),(1,.rows 2 (List.map c_S_api_Deduced a1))],2⟩ ?_
    refine jc_ret ?_
    refine jx_blkR ?_
    refine jx_blkR ?_
    refine jx_seqR ?_
    exact jx_done rfl nofun (wkR [(0,some 0),(1,some 1)] (fix_of hF (k:=2) rfl) (pc (hA 0) (pc (hL 1 (noid_map ni_S_api_Deduced _)) allp_nil)))
   refine jc_skip ?_
   refine jx_blkN ?_
   refine jx_blkN ?_
   refine jx_seqN ?_
   refine jT ⟨[V 0 (pt 0 4098),V 1 (.fsl 1 (List.map cI a2)),V 5 (iv 0),V 10 (.fsl 1 (List.map cI a2)),V 11 (iv (List.length a2:Int)),V 12 (iv (w64 (x30 + 1)))],[(0,.rows 4098 [List.map aI8 a0 ++ [.osl 1 0 (List.length a1) 2]]),(1,.rows 2 (List.map c_S_api_Deduced a1))],2⟩ ?_
   exact jx_next (wkR [(0,some 0),(1,some 1)] (fix_of hF (k:=2) rfl) (pc (hA 0) (pc (hL 1 (noid_map ni_S_api_Deduced _)) allp_nil)))
  refine jc_exit ?_
  refine jx_seqE ?_
  exact jx_done rfl nofun (wkR [(0,some 0),(1,some 1)] (fix_of hF (k:=2) rfl) (pc (hA 0) (pc (hL 1 (noid_map ni_S_api_Deduced _)) allp_nil)))
 rintro (_ | _)
 ·refine jx_blkR ?_
  refine jx_seqR ?_
  exact jx_retM (prop_sheet_look_T a0 a1 a2 (false,0)) (.inr rfl) (wkR [(0,some 0),(1,some 1)] (fix_of hF (k:=2) rfl) (pc (hA 0) (pc (hL 1 (noid_map ni_S_api_Deduced _)) allp_nil)))
 refine jx_blkE ?_
 refine jx_seqN ?_
 refine jc_seq ?_
 refine jR ?_
 refine jG 0 3 ⟨[V 0 (pt 0 4098),V 5 (iv 0),V 25 (.fsl 1 (List.map cI a2)),V 26 (iv (List.length (List.map cI a2):Int)),V 27 (iv 0)],[(0,.rows 4098 [List.map aI8 a0 ++ [.osl 1 0 (List.length a1) 2]]),(1,.rows 2 (List.map c_S_api_Deduced a1))],2⟩ ?_
 simp only[List.length_map]
 refine jN ?_
 refine jc_block ?_
 refine jc_bind (fun y=>match y with | Sum.inl _=>⟨[V 4 (bv false),V 5 (iv 0)],[(0,.rows 4098 [List.map aI8 a0 ++ [.osl 1 0 (List.length a1) 2]]),(1,.rows 2 (List.map c_S_api_Deduced a1))],2⟩ | Sum.inr x54=>⟨[V 5 (iv x54)],[(0,.rows 4098 [List.map aI8 a0 ++ [.osl 1 0 (List.length a1) 2]]),(1,.rows 2 (List.map c_S_api_Deduced a1))],2⟩) (fun y=>match y with | Sum.inl _=>.ret | Sum.inr x54=>(.exit 3)) (jc_loop (fun (x46,x47)=>⟨[V 0 (pt 0 4098),V 5 (iv x46),V 25 (.fsl 1 (List.map cI a2)),V 26 (iv (List.length a2:Int)),V 27 (iv x47)],[(0,.rows 4098 [List.map aI8 a0 ++ [.osl 1 0 (List.length a1) 2]]),(1,.rows 2 (List.map c_S_api_Deduced a1))],2⟩) (wkR [(0,some 0),(1,some 1)] (fix_of hF (k:=2) rfl) (pc (hA 0) (pc (hL 1 (noid_map ni_S_api_Deduced _)) allp_nil))) ?_) ?_
 ·rintro⟨x46,x47⟩
  unfold prop_sheet_look_l2
  refine jS ⟨[V 0 (pt 0 4098),V 5 (iv x46),V 25 (.fsl 1 (List.map cI a2)),V 26 (iv (List.length a2:Int)),V 27 (iv x47),V 28 (bv (decide (x47 < (List.length a2:Int))))],[(0,.rows 4098 [List.map aI8 a0 ++ [.osl 1 0 (List.length a1) 2]]),(1,.rows 2 (List.map c_S_api_Deduced a1))],2⟩ ?_
  refine jc_seq ?_
  refine jIf ?_ ?_
  ·refine jc_skip ?_
   refine jx_seqN ?_
   refine jc_seq ?_
   refine jc_bind (fun y=>match y with | Sum.inl _=>⟨[V 4 (bv false),V 5 (iv 0)],[(0,.rows 4098 [List.map aI8 a0 ++ [.osl 1 0 (List.length a1) 2]]),(1,.rows 2 (List.map c_S_api_Deduced a1))],2⟩ | Sum.inr x58=>⟨[V 0 (pt 0 4098),V 5 (iv x58),V 25 (.fsl 1 (List.map cI a2)),V 26 (iv (List.length a2:Int)),V 27 (iv x47)],[(0,.rows 4098 [List.map aI8 a0 ++ [.osl 1 0 (List.length a1) 2]]),(1,.rows 2 (List.map c_S_api_Deduced a1))],2⟩) (fun y=>match y with | Sum.inl _=>.ret | Sum.inr x58=>.normal) ?_ ?_
   ·refine jc_block ?_
    refine jR ?_
    refine jr_part (i:=0) (mo:=ixl a2 x47) rfl rfl rfl rfl (fun _ hc=>aop_ixf (c:=cI) (sz:=1) (e:=3) (kk:=.i64) (by kernel_rfl) (by kernel_rfl) (by kernel_rfl) (by kernel_rfl) hc) (fun _=>rfl) ?_
    intro x59 h59
    refine jG 1 2 ⟨[V 0 (pt 0 4098),V 5 (iv x46),V 9 (iv x59),V 25 (.fsl 1 (List.map cI a2)),V 26 (iv (List.length a2:Int)),V 27 (iv x47)],[(0,.rows 4098 [List.map aI8 a0 ++ [.osl 1 0 (List.length a1) 2]]),(1,.rows 2 (List.map c_S_api_Deduced a1))],2⟩ ?_
    refine jN ?_
    refine jc_seq ?_
    refine jR ?_
    refine jG 0 2 ⟨[V 0 (pt 0 4098),V 5 (iv x46),V 9 (iv x59),V 25 (.fsl 1 (List.map cI a2)),V 26 (iv (List.length a2:Int)),V 27 (iv x47),V 31 (pt 0 4098),V 32 (iv x59)],[(0,.rows 4098 [List.map aI8 a0 ++ [.osl 1 0 (List.length a1) 2]]),(1,.rows 2 (List.map c_S_api_Deduced a1))],2⟩ ?_
    refine jr_callM 2 [(0,some 0),(1,some 1)] [(0,some 0),(1,some 1)] (fun r:Int=>[(0,.rows 4098 [List.map aI8 a0 ++ [.osl 1 0 (List.length a1) 2]]),(1,.rows 2 (List.map c_S_api_Deduced a1))]) (fun r:Int=>iv r) 2 (prop_sheet_of_ok a0 a1 x59) (pc (hA 0) (pc (hL 1 (noid_map ni_S_api_Deduced _)) allp_nil)) (fun r=>(pc (.inr (hA 0)) (pc (.inr (hL 1 (noid_map ni_S_api_Deduced _))) allp_nil))) ?_
    rintro x60 hm18
    refine jG 3 10 ⟨[V 0 (pt 0 4098),V 5 (iv x46),V 9 (iv x59),V 25 (.fsl 1 (List.map cI a2)),V 26 (iv (List.length a2:Int)),V 27 (iv x47),V 43 (bv (((x60 == 0) && (x46 != 0)) && (x46 != x59)))],[(0,.rows 4098 [List.map aI8 a0 ++ [.osl 1 0 (List.length a1) 2]]),(1,.rows 2 (List.map c_S_api_Deduced a1))],2⟩ ?_
    refine jN ?_
    refine jIf ?_ ?_
    ·refine jS ⟨[V 4 (bv false),V 5 (iv 0)],[(0,.rows 4098 [List.map aI8 a0 ++ [.osl 1 0 (List.length a1) 2]]),(1,.rows 2 (List.map c_S_api_Deduced a1))],2⟩ ?_
     refine jc_ret ?_
     refine jx_seqR ?_
     refine jx_blkR ?_
     exact jx_mid rfl (wkR [(0,some 0),(1,some 1)] (fix_of hF (k:=2) rfl) (pc (hA 0) (pc (hL 1 (noid_map ni_S_api_Deduced _)) allp_nil)))
    refine jc_skip ?_
    refine jx_seqN ?_
    refine jR ?_
    refine jG 0 2 ⟨[V 0 (pt 0 4098),V 5 (iv x46),V 9 (iv x59),V 25 (.fsl 1 (List.map cI a2)),V 26 (iv (List.length a2:Int)),V 27 (iv x47),V 44 (pt 0 4098),V 45 (iv x59)],[(0,.rows 4098 [List.map aI8 a0 ++ [.osl 1 0 (List.length a1) 2]]),(1,.rows 2 (List.map c_S_api_Deduced a1))],2⟩ ?_
    refine jr_callM 2 [(0,some 0),(1,some 1)] [(0,some 0),(1,some 1)] (fun r:Int=>[(0,.rows 4098 [List.map aI8 a0 ++ [.osl 1 0 (List.length a1) 2]]),(1,.rows 2 (List.map c_S_api_Deduced a1))]) (fun r:Int=>iv r) 2 (prop_sheet_of_ok a0 a1 x59) (pc (hA 0) (pc (hL 1 (noid_map ni_S_api_Deduced _)) allp_nil)) (fun r=>(pc (.inr (hA 0)) (pc (.inr (hL 1 (noid_map ni_S_api_Deduced _))) allp_nil))) ?_
    rintro x61 hm17
    refine jG 3 1 ⟨[V 0 (pt 0 4098),V 5 (iv x46),V 9 (iv x59),V 25 (.fsl 1 (List.map cI a2)),V 26 (iv (List.length a2:Int)),V 27 (iv x47),V 47 (bv (x61 == 0))],[(0,.rows 4098 [List.map aI8 a0 ++ [.osl 1 0 (List.length a1) 2]]),(1,.rows 2 (List.map c_S_api_Deduced a1))],2⟩ ?_
    refine jN ?_
    refine jIf ?_ ?_
    ·refine jT ⟨[V 0 (pt 0 4098),V 5 (iv x59),V 25 (.fsl 1 (List.map cI a2)),V 26 (iv (List.length a2:Int)),V 27 (iv x47)],[(0,.rows 4098 [List.map aI8 a0 ++ [.osl 1 0 (List.length a1) 2]]),(1,.rows 2 (List.map c_S_api_Deduced a1))],2⟩ ?_
     refine jx_blkN ?_
     exact jx_mid rfl (wkR [(0,some 0),(1,some 1)] (fix_of hF (k:=2) rfl) (pc (hA 0) (pc (hL 1 (noid_map ni_S_api_Deduced _)) allp_nil)))
    refine jc_skip ?_
    refine jx_blkN ?_
    exact jx_mid rfl (wkR [(0,some 0),(1,some 1)] (fix_of hF (k:=2) rfl) (pc (hA 0) (pc (hL 1 (noid_map ni_S_api_Deduced _)) allp_nil)))
   rintro (_ | x58)
   ·refine jx_seqR ?_
    exact jx_done rfl nofun (wkR [(0,some 0),(1,some 1)] (fix_of hF (k:=2) rfl) (pc (hA 0) (pc (hL 1 (noid_map ni_S_api_Deduced _)) allp_nil)))
   refine jx_seqN ?_
   refine jT ⟨[V 0 (pt 0 4098),V 5 (iv x58),V 25 (.fsl 1 (List.map cI a2)),V 26 (iv (List.length a2:Int)),V 27 (iv (w64 (x47 + 1)))],[(0,.rows 4098 [List.map aI8 a0 ++ [.osl 1 0 (List.length a1) 2]]),(1,.rows 2 (List.map c_S_api_Deduced a1))],2⟩ ?_
   exact jx_next (wkR [(0,some 0),(1,some 1)] (fix_of hF (k:=2) rfl) (pc (hA 0) (pc (hL 1 (noid_map ni_S_api_Deduced _)) allp_nil)))
  refine jc_exit ?_
  refine jx_seqE ?_
  exact jx_done rfl nofun (wkR [(0,some 0),(1,some 1)] (fix_of hF (k:=2) rfl) (pc (hA 0) (pc (hL 1 (noid_map ni_S_api_Deduced _)) allp_nil)))
 rintro (_ | x54)
 ·refine jx_blkR ?_
  refine jx_seqR ?_
  exact jx_retM (prop_sheet_look_T a0 a1 a2 (false,0)) (.inr rfl) (wkR [(0,some 0),(1,some 1)] (fix_of hF (k:=2) rfl) (pc (hA 0) (pc (hL 1 (noid_map ni_S_api_Deduced _)) allp_nil)))
 refine jx_blkE ?_
 refine jx_seqN ?_
 refine jS ⟨[V 4 (bv (x54 == 0)),V 5 (iv x54)],[(0,.rows 4098 [List.map aI8 a0 ++ [.osl 1 0 (List.length a1) 2]]),(1,.rows 2 (List.map c_S_api_Deduced a1))],2⟩ ?_
 refine jc_ret ?_
 exact jx_retM (prop_sheet_look_T a0 a1 a2 ((x54 == 0),x54)) (.inr rfl) (wkR [(0,some 0),(1,some 1)] (fix_of hF (k:=2) rfl) (pc (hA 0) (pc (hL 1 (noid_map ni_S_api_Deduced _)) allp_nil))))
abbrev prop_sheet_set_r1:List LO:=[lm 6 0 46,lm 7 1 3,lo 8 (.call ⟨.value (.func 18),#[.tmp 7],#[3]⟩) 3,lo 9 (.nilCheck (.tmp 6)) 0,lo 10 (.fieldAddr 50 (.tmp 9) 0) 0,lo 11 (.indexAddr 48 (.tmp 10) (.tmp 8)) 0,ln (.store 47 (.tmp 11) (.const (.int .i8 1))) 0]
abbrev prop_sheet_set_r2:List LO:=[lm 12 1 3,lo 13 (.binOp .lss 3 (.tmp 12) (.const (.int .i64 0)) 3) 4]
abbrev prop_sheet_set_r3:List LO:=[lm 14 0 46,lm 15 1 3,lo 16 (.call ⟨.value (.func 18),#[.tmp 15],#[3]⟩) 3,lo 17 (.nilCheck (.tmp 14)) 0,lo 18 (.fieldAddr 50 (.tmp 17) 0) 0,lo 19 (.indexAddr 48 (.tmp 18) (.tmp 16)) 0,ln (.store 47 (.tmp 19) (.const (.int .i8 (-1)))) 0]
abbrev prop_sheet_set_r4:List LO:=[lm 20 0 46,lm 21 0 46,lo 22 (.nilCheck (.tmp 21)) 0,lo 23 (.fieldAddr 50 (.tmp 22) 1) 0,lo 24 (.load 24 (.tmp 23)) 24,lm 25 1 3,lm 26 2 3,lo 27 (.build 41 #[(0,.tmp 25),(1,.tmp 26)]) 41,lo 28 (.buildSlice 24 1 #[(0,.tmp 27)]) 24,lo 29 (.call ⟨.builtin .append,#[.tmp 24,.tmp 28],#[24,24]⟩) 24,lo 30 (.nilCheck (.tmp 20)) 0,lo 31 (.fieldAddr 50 (.tmp 30) 1) 0,ln (.store 24 (.tmp 31) (.tmp 29)) 0]
abbrev prop_sheet_set_c:LC:=.seq (.reg true prop_sheet_set_r1) (.seq (.seq (.reg false prop_sheet_set_r2) (.cond (.tmp 13) (.reg true prop_sheet_set_r3) .skip)) (.reg false prop_sheet_set_r4))
theorem prop_sheet_set_k:FnOk E 28 32 [] prop_sheet_set_c:=⟨⟨Go.Proofs.Try.f28,by kernel_rfl,by kernel_rfl,by kernel_rfl,by kernel_rfl,by kernel_rfl⟩,rfl,rfl⟩
abbrev prop_sheet_set_T (a0:List Int) (a1:List S_api_Deduced) (a2:Int) (a3:Int) (r:List Int × List S_api_Deduced):CS:=⟨[],[(0,.rows 4098 [List.map aI8 r.1 ++ [.osl 2 0 (List.length r.2) 2]]),(2,.rows 2 (List.map c_S_api_Deduced r.2))],3⟩
noncomputable def prop_sheet_set (a0:List Int) (a1:List S_api_Deduced) (a2:Int) (a3:Int):Option (List Int × List S_api_Deduced):=Option.bind (prop_size a2) (fun x10=>Option.bind (ixA 4097 a0 x10) (fun x11=>Option.bind ((if (decide (a2 < 0))=true then Option.bind (prop_size a2) (fun x15=>Option.bind (ixA 4097 (List.set a0 (Int.toNat x10) 1) x15) (fun x16=>some (List.set (List.set a0 (Int.toNat x10) 1) (Int.toNat x15) (-1)))) else some (List.set a0 (Int.toNat x10) 1)):Option (List Int)) (fun x14=>Option.bind (lenA 4097 x14) (fun x17=>Option.bind (app 16 a1 [(S_api_Deduced.mk a2 a3)]) (fun x18=>some (x14,x18))))))
theorem prop_sheet_set_ok (a0:List Int) (a1:List S_api_Deduced) (a2:Int) (a3:Int):CtM E 28 [pt 0 4098,iv a2,iv a3] [(0,.rows 4098 [List.map aI8 a0 ++ [.osl 1 0 (List.length a1) 2]]),(1,.rows 2 (List.map c_S_api_Deduced a1))] 2 (prop_sheet_set a0 a1 a2 a3) (fun r:List Int × List S_api_Deduced=>.tup []) (fun r:List Int × List S_api_Deduced=>[(0,.rows 4098 [List.map aI8 r.1 ++ [.osl 2 0 (List.length r.2) 2]]),(2,.rows 2 (List.map c_S_api_Deduced r.2))]) 3:=ctm_intro (N:=32) (L:=prop_sheet_set_c) prop_sheet_set_k rfl (Nat.le_of_ble_eq_true rfl) (fun F hF=>by
 unfold prop_sheet_set
 refine jR ?_
 refine jG 0 2 ⟨[V 0 (pt 0 4098),V 1 (iv a2),V 2 (iv a3),V 6 (pt 0 4098),V 7 (iv a2)],[(0,.rows 4098 [List.map aI8 a0 ++ [.osl 1 0 (List.length a1) 2]]),(1,.rows 2 (List.map c_S_api_Deduced a1))],2⟩ ?_
 refine jK 2 (prop_size_ok a2) ?_
 intro x10 h10
 refine jG 3 2 ⟨[V 0 (pt 0 4098),V 1 (iv a2),V 2 (iv a3),V 8 (iv x10),V 10 (pt 0 4098)],[(0,.rows 4098 [List.map aI8 a0 ++ [.osl 1 0 (List.length a1) 2]]),(1,.rows 2 (List.map c_S_api_Deduced a1))],2⟩ ?_
 refine jr_part (i:=5) (mo:=ixA 4097 a0 x10) rfl rfl rfl rfl (fun _ hc=>aop_ixa (sz:=4098) (e:=47) (kk:=.i64) (id:=0) (i:=0) (by kernel_rfl) (by kernel_rfl) (by kernel_rfl) (by kernel_rfl) hc) (fun _=>rfl) ?_
 intro x11 h11
 refine jr_sto (i:=6) [0,1,2] [0,1] (st1:=⟨[V 0 (pt 0 4098),V 1 (iv a2),V 2 (iv a3)],[(0,.rows 4098 [List.map aI8 (List.set a0 (Int.toNat x10) 1) ++ [.osl 1 0 (List.length a1) 2]]),(1,.rows 2 (List.map c_S_api_Deduced a1))],2⟩) rfl rfl rfl rfl (aop_sta (l:=a0) (c:=aI8) (rest:=[.osl 1 0 (List.length a1) 2]) (id:=0) (sz:=4098) (k:=(Int.toNat x10)) (a:=x11) (a':=1) (by kernel_rfl) (by kernel_rfl) (by kernel_rfl) (by kernel_rfl) (by kernel_rfl) (ixA_at h11)) (by kernel_rfl) ?_
 refine jN ?_
 refine jc_seq ?_
 refine jc_bind (fun x14=>⟨[V 0 (pt 0 4098),V 1 (iv a2),V 2 (iv a3)],[(0,.rows 4098 [List.map aI8 x14 ++ [.osl 1 0 (List.length a1) 2]]),(1,.rows 2 (List.map c_S_api_Deduced a1))],2⟩) (fun x14=>.normal) ?_ ?_
 ·refine jS ⟨[V 0 (pt 0 4098),V 1 (iv a2),V 2 (iv a3),V 13 (bv (decide (a2 < 0)))],[(0,.rows 4098 [List.map aI8 (List.set a0 (Int.toNat x10) 1) ++ [.osl 1 0 (List.length a1) 2]]),(1,.rows 2 (List.map c_S_api_Deduced a1))],2⟩ ?_
  refine jIf ?_ ?_
  ·refine jc_reg ?_
   refine jG 0 2 ⟨[V 0 (pt 0 4098),V 1 (iv a2),V 2 (iv a3),V 14 (pt 0 4098),V 15 (iv a2)],[(0,.rows 4098 [List.map aI8 (List.set a0 (Int.toNat x10) 1) ++ [.osl 1 0 (List.length a1) 2]]),(1,.rows 2 (List.map c_S_api_Deduced a1))],2⟩ ?_
   refine jK 2 (prop_size_ok a2) ?_
   intro x15 h15
   refine jG 3 2 ⟨[V 0 (pt 0 4098),V 1 (iv a2),V 2 (iv a3),V 16 (iv x15),V 18 (pt 0 4098)],[(0,.rows 4098 [List.map aI8 (List.set a0 (Int.toNat x10) 1) ++ [.osl 1 0 (List.length a1) 2]]),(1,.rows 2 (List.map c_S_api_Deduced a1))],2⟩ ?_
   refine jr_part (i:=5) (mo:=ixA 4097 (List.set a0 (Int.toNat x10) 1) x15) rfl rfl rfl rfl (fun _ hc=>aop_ixa (sz:=4098) (e:=47) (kk:=.i64) (id:=0) (i:=0) (by kernel_rfl) (by kernel_rfl) (by kernel_rfl) (by kernel_rfl) hc) (fun _=>rfl) ?_
   intro x16 h16
   refine jr_sto (i:=6) [0,1,2] [0,1] (st1:=⟨[V 0 (pt 0 4098),V 1 (iv a2),V 2 (iv a3)],[(0,.rows 4098 [List.map aI8 (List.set (List.set a0 (Int.toNat x10) 1) (Int.toNat x15) (-1)) ++ [.osl 1 0 (List.length a1) 2]]),(1,.rows 2 (List.map c_S_api_Deduced a1))],2⟩) rfl rfl rfl rfl (aop_sta (l:=(List.set a0 (Int.toNat x10) 1)) (c:=aI8) (rest:=[.osl 1 0 (List.length a1) 2]) (id:=0) (sz:=4098) (k:=(Int.toNat x15)) (a:=x16) (a':=(-1)) (by kernel_rfl) (by kernel_rfl) (by kernel_rfl) (by kernel_rfl) (by kernel_rfl) (ixA_at h16)) (by kernel_rfl) ?_
   refine jr_nil rfl ?_
   exact jx_mid rfl (wkR [(0,some 0),(1,some 1)] (fix_of hF (k:=2) rfl) (pc (hA 0) (pc (hL 1 (noid_map ni_S_api_Deduced _)) allp_nil)))
  refine jc_skip ?_
  exact jx_mid rfl (wkR [(0,some 0),(1,some 1)] (fix_of hF (k:=2) rfl) (pc (hA 0) (pc (hL 1 (noid_map ni_S_api_Deduced _)) allp_nil)))
 intro x14
 refine jx_seqN ?_
 refine jc_reg ?_
 refine jG 0 4 ⟨[V 1 (iv a2),V 2 (iv a3),V 20 (pt 0 4098),V 23 (.ptr 0 0 4098 4097)],[(0,.rows 4098 [List.map aI8 x14 ++ [.osl 1 0 (List.length a1) 2]]),(1,.rows 2 (List.map c_S_api_Deduced a1))],2⟩ ?_
 refine jr_guard ?_
 intro x17 h17
 refine jr_one (i:=4) (v:=.osl 1 0 (List.length a1) 2) (us:=[]) rfl rfl rfl rfl (aop_ldr (l:=x14) (c:=aI8) (rest:=[.osl 1 0 (List.length a1) 2]) (id:=0) (sz:=4098) (m:=4097) (q:=0) (by kernel_rfl) (by kernel_rfl) (by kernel_rfl) (by kernel_rfl) (lenA_iff h17) (by kernel_rfl)) rfl ?_
 refine jG 5 4 ⟨[V 20 (pt 0 4098),V 24 (.osl 1 0 (List.length a1) 2),V 28 (.osl 2 0 (List.length [(S_api_Deduced.mk a2 a3)]) 2)],[(0,.rows 4098 [List.map aI8 x14 ++ [.osl 1 0 (List.length a1) 2]]),(1,.rows 2 (List.map c_S_api_Deduced a1)),(2,.rows 2 (List.map c_S_api_Deduced [(S_api_Deduced.mk a2 a3)]))],3⟩ ?_
 refine jr_part (i:=9) (mo:=app 16 a1 [(S_api_Deduced.mk a2 a3)]) rfl rfl rfl rfl (fun _ hc=>aop_app (u:=.osl 1 0 (List.length a1) 2) (w:=.osl 2 0 (List.length [(S_api_Deduced.mk a2 a3)]) 2) (e:=41) (td:=.slice 41) (by kernel_rfl) (by kernel_rfl) (by kernel_rfl) (by kernel_rfl) (.inl ⟨_,rfl⟩) (appendOf_own (c:=c_S_api_Deduced) (sz:=2) (b:=16) (id:=1) (by kernel_rfl) (by kernel_rfl) (rows_own (by kernel_rfl)) (List.cons_ne_nil _ _) hc)) (fun _=>rfl) ?_
 intro x18 h18
 refine jG 10 2 ⟨[V 29 (.osl 3 0 (List.length x18) 2),V 31 (.ptr 0 0 4098 4097)],[(0,.rows 4098 [List.map aI8 x14 ++ [.osl 1 0 (List.length a1) 2]]),(3,.rows 2 (List.map c_S_api_Deduced x18))],4⟩ ?_
 refine jr_sto (i:=12) [] [0,3] (st1:=⟨[],[(0,.rows 4098 [List.map aI8 x14 ++ [.osl 3 0 (List.length x18) 2]]),(3,.rows 2 (List.map c_S_api_Deduced x18))],4⟩) rfl rfl rfl rfl (aop_str (l:=x14) (c:=aI8) (rest:=[.osl 1 0 (List.length a1) 2]) (id:=0) (sz:=4098) (rest':=[.osl 3 0 (List.length x18) 2]) (m:=4097) (q:=0) (w:=.osl 3 0 (List.length x18) 2) (cs:=[.osl 3 0 (List.length x18) 2]) (by kernel_rfl) (by kernel_rfl) (by kernel_rfl) (by kernel_rfl) (by kernel_rfl) (lenA_iff h17) (Nat.le_of_ble_eq_true rfl) (by kernel_rfl)) (by kernel_rfl) ?_
 refine jr_nil rfl ?_
 exact jx_retM (prop_sheet_set_T a0 a1 a2 a3 (x14,x18)) (.inl rfl) (wkR [(0,some 0),(1,some 1),(2,some 3)] (fix_of hF (k:=2) rfl) (pc (hA 0) (pc (hL 3 (noid_map ni_S_api_Deduced _)) allp_nil))))
abbrev prop_sheet_counts_1_it_r1:List LO:=[lo 8 (.load 22 (.tmp 1)) 22,lo 9 (.call ⟨.builtin .len,#[.tmp 8],#[22]⟩) 3,lo 10 (.move (.const (.int .i64 0))) 3]
abbrev prop_sheet_counts_1_it_r2:List LO:=[lo 11 (.binOp .lss 3 (.tmp 10) (.tmp 9) 3) 0]
abbrev prop_sheet_counts_1_it_r3:List LO:=[lm 12 10 3,lo 13 (.indexAddr 22 (.tmp 8) (.tmp 10)) 0,lo 14 (.load 23 (.tmp 13)) 23,lo 4 (.assign (.tmp 12)) 3,lo 5 (.assign (.tmp 14)) 23]
abbrev prop_sheet_counts_1_it_r4:List LO:=[lo 16 (.load 46 (.tmp 2)) 46,lm 17 5 23,lo 18 (.call ⟨.value (.func 39),#[.tmp 16,.tmp 17],#[46,23]⟩) 66,lm 15 18 66,lo 19 (.extract (.tmp 15) 0) 4,lo 20 (.extract (.tmp 15) 1) 3,lo 6 (.assign (.tmp 19)) 4,lo 7 (.assign (.tmp 20)) 3]
abbrev prop_sheet_counts_1_it_r5:List LO:=[lm 21 6 4,lm 22 21 4,lmg 23 7 3 22 false,lg 24 (.binOp .neq 3 (.tmp 23) (.const (.int .i64 0)) 3) 4 22 false,lo 25 (.pick (.tmp 22) (.const (.bool true)) (.tmp 24)) 4,lm 26 25 4,lmg 27 0 65 26 true,lmg 28 4 3 26 true,lmg 29 7 3 26 true,lg 30 (.call ⟨.value (.tmp 27),#[.tmp 28,.tmp 29],#[3,3]⟩) 4 26 true,lg 31 (.unOp .not 4 (.tmp 30)) 4 26 true,lo 32 (.pick (.tmp 26) (.tmp 31) (.const (.bool false))) 4]
abbrev prop_sheet_counts_1_it_r6:List LO:=[lo 33 (.binOp .add 3 (.tmp 10) (.const (.int .i64 1)) 3) 3,lm 10 33 3]
abbrev prop_sheet_counts_1_it_c:LC:=.seq (.reg false prop_sheet_counts_1_it_r1) (.block 0 (.loop (.seq (.reg false prop_sheet_counts_1_it_r2) (.seq (.cond (.tmp 11) .skip (.exit 0)) (.seq (.block 1 (.seq (.reg false prop_sheet_counts_1_it_r3) (.seq (.reg false prop_sheet_counts_1_it_r4) (.seq (.reg false prop_sheet_counts_1_it_r5) (.cond (.tmp 32) .ret .skip))))) (.reg false prop_sheet_counts_1_it_r6))))))
theorem prop_sheet_counts_1_it_k:FnOk E 38 34 [] prop_sheet_counts_1_it_c:=⟨⟨Go.Proofs.Try.f38,by kernel_rfl,by kernel_rfl,by kernel_rfl,by kernel_rfl,by kernel_rfl⟩,rfl,rfl⟩
abbrev prop_sheet_counts_r1:List LO:=[lo 2 (.box 46 (.tmp 0)) 0,lo 3 (.box 22 (.tmp 1)) 0,lo 4 (.assign (.const .nilFunc)) 53]
abbrev prop_sheet_counts_r2:List LO:=[lo 5 (.makeFunc (Fn.func 38) #[] #[.tmp 3,.tmp 2]) 52,lo 4 (.assign (.tmp 5)) 53]
abbrev prop_sheet_counts_c:LC:=.seq (.reg false prop_sheet_counts_r1) (.seq (.reg false prop_sheet_counts_r2) .ret)
theorem prop_sheet_counts_k:FnOk E 29 6 [.tmp 4] prop_sheet_counts_c:=⟨⟨Go.Proofs.Try.f29,by kernel_rfl,by kernel_rfl,by kernel_rfl,by kernel_rfl,by kernel_rfl⟩,rfl,rfl⟩
abbrev prop_sheet_counts_T (a0:List Int) (a1:List S_api_Deduced) (a2:List (List Int)) (r:Unit):CS:=⟨[V 4 (.fn 38 [pt 2 1,pt 3 1])],[(0,.rows 4098 [List.map aI8 a0 ++ [.osl 1 0 (List.length a1) 2]]),(1,.rows 2 (List.map c_S_api_Deduced a1)),W 2 1 [.fsl 1 (List.map c_L3 a2)],W 3 1 [pt 0 4098]],4⟩
noncomputable def prop_sheet_counts (a0:List Int) (a1:List S_api_Deduced) (a2:List (List Int)):Option (Unit):=some ()
theorem prop_sheet_counts_ok (a0:List Int) (a1:List S_api_Deduced) (a2:List (List Int)):CtM E 29 [pt 0 4098,.fsl 1 (List.map c_L3 a2)] [(0,.rows 4098 [List.map aI8 a0 ++ [.osl 1 0 (List.length a1) 2]]),(1,.rows 2 (List.map c_S_api_Deduced a1))] 2 (prop_sheet_counts a0 a1 a2) (fun r:Unit=>.fn 38 [pt 2 1,pt 3 1]) (fun r:Unit=>[(0,.rows 4098 [List.map aI8 a0 ++ [.osl 1 0 (List.length a1) 2]]),(1,.rows 2 (List.map c_S_api_Deduced a1)),W 2 1 [.fsl 1 (List.map c_L3 a2)],W 3 1 [pt 0 4098]]) 4:=ctm_intro (N:=6) (L:=prop_sheet_counts_c) prop_sheet_counts_k rfl (Nat.le_of_ble_eq_true rfl) (fun F hF=>by
 unfold prop_sheet_counts
 refine jS ⟨[V 2 (pt 2 1),V 3 (pt 3 1)],[(0,.rows 4098 [List.map aI8 a0 ++ [.osl 1 0 (List.length a1) 2]]),(1,.rows 2 (List.map c_S_api_Deduced a1)),W 2 1 [pt 0 4098],W 3 1 [.fsl 1 (List.map c_L3 a2)]],4⟩ ?_
 refine jS ⟨[V 4 (.fn 38 [pt 3 1,pt 2 1])],[(0,.rows 4098 [List.map aI8 a0 ++ [.osl 1 0 (List.length a1) 2]]),(1,.rows 2 (List.map c_S_api_Deduced a1)),W 2 1 [pt 0 4098],W 3 1 [.fsl 1 (List.map c_L3 a2)]],4⟩ ?_
 refine jc_ret ?_
 exact jx_retM (prop_sheet_counts_T a0 a1 a2 ()) (.inr rfl) (wkR [(0,some 0),(1,some 1),(2,some 3),(3,some 2)] (fix_of hF (k:=2) rfl) (pc (hA 0) (pc (hL 1 (noid_map ni_S_api_Deduced _)) (pc (hC 3) (pc (hC 2) allp_nil))))))
abbrev prop_Run_r1:List LO:=[lo 4 (.alloc 24) 0,lo 5 (.alloc 3) 0]
abbrev prop_Run_r2:List LO:=[lo 13 (.build 50 #[]) 50,lo 14 (.box 50 (.tmp 13)) 46,lo 6 (.alloc 46) 0,ln (.store 46 (.tmp 6) (.tmp 14)) 0]
abbrev prop_Run_r3:List LO:=[lm 15 1 23,lo 16 (.call ⟨.builtin .len,#[.tmp 15],#[23]⟩) 3,lo 17 (.move (.const (.int .i64 0))) 3]
abbrev prop_Run_r4:List LO:=[lo 18 (.binOp .lss 3 (.tmp 17) (.tmp 16) 3) 0]
abbrev prop_Run_r5:List LO:=[lo 19 (.indexAddr 23 (.tmp 15) (.tmp 17)) 0,lo 20 (.load 3 (.tmp 19)) 3,lo 8 (.assign (.tmp 20)) 3]
abbrev prop_Run_r6:List LO:=[lm 21 8 3,lo 22 (.call ⟨.value (.func 21),#[.tmp 21],#[3]⟩) 4,lo 23 (.unOp .not 4 (.tmp 22)) 4]
abbrev prop_Run_r7:List LO:=[lo 24 (.load 46 (.tmp 6)) 46,lm 25 8 3,lo 26 (.call ⟨.value (.func 27),#[.tmp 24,.tmp 25],#[46,3]⟩) 3]
abbrev prop_Run_r8:List LO:=[lo 28 (.binOp .eql 3 (.tmp 26) (.const (.int .i64 (-1))) 3) 4,lo 27 (.assign (.tmp 28)) 4]
abbrev prop_Run_r9:List LO:=[lo 29 (.load 46 (.tmp 6)) 46,lo 30 (.nilCheck (.tmp 29)) 0,lo 31 (.fieldAddr 50 (.tmp 30) 1) 0,lo 32 (.load 24 (.tmp 31)) 24,ln (.store 24 (.tmp 4) (.tmp 32)) 0,ln (.store 3 (.tmp 5) (.const (.int .i64 (-2)))) 0]
abbrev prop_Run_r10:List LO:=[lo 34 (.binOp .eql 3 (.tmp 26) (.const (.int .i64 0)) 3) 4,lo 33 (.assign (.tmp 34)) 4]
abbrev prop_Run_r11:List LO:=[lo 35 (.load 46 (.tmp 6)) 46,lm 36 8 3,lo 37 (.call ⟨.value (.func 28),#[.tmp 35,.tmp 36,.const (.int .i64 (-1))],#[46,3,3]⟩) 0]
abbrev prop_Run_r12:List LO:=[lo 38 (.binOp .add 3 (.tmp 17) (.const (.int .i64 1)) 3) 3,lm 17 38 3]
abbrev prop_Run_r13:List LO:=[lo 9 (.alloc 3) 0,lo 10 (.alloc 3) 0,ln (.store 3 (.tmp 9) (.const (.int .i64 (-1)))) 0,ln (.store 3 (.tmp 10) (.const (.int .i64 0))) 0]
abbrev prop_Run_r14:List LO:=[lo 39 (.load 46 (.tmp 6)) 46,lm 40 0 22,lo 41 (.call ⟨.value (.func 29),#[.tmp 39,.tmp 40],#[46,22]⟩) 53]
abbrev prop_Run_r15:List LO:=[lo 11 (.assign (.tmp 42)) 3]
abbrev prop_Run_r16:List LO:=[lo 12 (.assign (.tmp 43)) 3]
abbrev prop_Run_r17:List LO:=[lm 44 12 3,lo 45 (.binOp .eql 3 (.tmp 44) (.const (.int .i64 0)) 3) 4]
abbrev prop_Run_r18:List LO:=[lo 46 (.load 46 (.tmp 6)) 46,lo 47 (.nilCheck (.tmp 46)) 0,lo 48 (.fieldAddr 50 (.tmp 47) 1) 0,lo 49 (.load 24 (.tmp 48)) 24,lm 50 11 3,ln (.store 24 (.tmp 4) (.tmp 49)) 0,ln (.store 3 (.tmp 5) (.tmp 50)) 0]
abbrev prop_Run_r19:List LO:=[lo 51 (.load 3 (.tmp 9)) 3,lo 52 (.binOp .lss 3 (.tmp 51) (.const (.int .i64 0)) 3) 4]
abbrev prop_Run_r20:List LO:=[lm 53 11 3,lm 54 12 3,ln (.store 3 (.tmp 9) (.tmp 53)) 0,ln (.store 3 (.tmp 10) (.tmp 54)) 0]
noncomputable def prop_Run_y21_a0:Code:=codeSub (bodyOf Go.Proofs.Try.f14) [1,0,1,1,1,0,0,0,0,1,0,1,0,0]
theorem prop_Run_y21_aw:lower E prop_Run_y21_a0=some (.seq (.reg false prop_Run_r15) (.reg false prop_Run_r16)):=by kernel_rfl
noncomputable def prop_Run_y21_b0:Code:=codeSub (bodyOf Go.Proofs.Try.f14) [1,0,1,1,1,0,0,0,0,1,0,1,0,1]
theorem prop_Run_y21_bw:lower E prop_Run_y21_b0=some (.block 6 (.seq (.seq (.reg false prop_Run_r17) (.cond (.tmp 45) (.seq (.reg false prop_Run_r18) .ret) .skip)) (.seq (.reg false prop_Run_r19) (.cond (.tmp 52) (.reg false prop_Run_r20) .skip)))):=by kernel_rfl
abbrev prop_Run_r22:List LO:=[lo 55 (.load 3 (.tmp 9)) 3,lo 56 (.binOp .lss 3 (.tmp 55) (.const (.int .i64 0)) 3) 4]
abbrev prop_Run_r23:List LO:=[lo 57 (.load 46 (.tmp 6)) 46,lo 58 (.load 3 (.tmp 10)) 3,lo 59 (.load 3 (.tmp 9)) 3,lo 60 (.call ⟨.value (.func 28),#[.tmp 57,.tmp 58,.tmp 59],#[46,3,3]⟩) 0]
abbrev prop_Run_r24:List LO:=[lo 61 (.load 46 (.tmp 6)) 46,lo 62 (.nilCheck (.tmp 61)) 0,lo 63 (.fieldAddr 50 (.tmp 62) 1) 0,lo 64 (.load 24 (.tmp 63)) 24,ln (.store 24 (.tmp 4) (.tmp 64)) 0,ln (.store 3 (.tmp 5) (.const (.int .i64 (-1)))) 0]
noncomputable abbrev prop_Run_c:LC:=.seq (.reg false prop_Run_r1) (.scope (.seq (.reg false prop_Run_r2) (.seq (.seq (.reg false prop_Run_r3) (.block 0 (.loop (.seq (.reg false prop_Run_r4) (.seq (.cond (.tmp 18) .skip (.exit 0)) (.seq (.block 1 (.seq (.reg false prop_Run_r5) (.seq (.seq (.reg false prop_Run_r6) (.cond (.tmp 23) (.exit 1) .skip)) (.seq (.reg false prop_Run_r7) (.block 2 (.seq (.reg false prop_Run_r8) (.cond (.tmp 27) (.seq (.reg false prop_Run_r9) .ret) (.seq (.reg false prop_Run_r10) (.cond (.tmp 33) (.reg false prop_Run_r11) .skip))))))))) (.reg false prop_Run_r12))))))) (.seq .label (.seq (.block 3 (.loop (.block 4 (.seq (.reg false prop_Run_r13) (.seq (.seq (.reg false prop_Run_r14) (.block 5 (.rng (.tmp 41) [42,43] prop_Run_y21_a0 prop_Run_y21_b0))) (.seq (.seq (.reg false prop_Run_r22) (.cond (.tmp 56) (.exit 3) .skip)) (.reg false prop_Run_r23))))))) (.seq (.reg false prop_Run_r24) .ret))))))
theorem prop_Run_k:FnOk E 14 65 [.cell 4 24,.cell 5 3] prop_Run_c:=⟨⟨Go.Proofs.Try.f14,by kernel_rfl,by kernel_rfl,by kernel_rfl,by kernel_rfl,by kernel_rfl⟩,rfl,rfl⟩
noncomputable def prop_Run_l1 (a1:List Int):(List Int × List S_api_Deduced × Int)→Option (Step (List Int × List S_api_Deduced × Int) ((List S_api_Deduced) ⊕ (List Int × List S_api_Deduced))):=fun (x99,x100,x101)=>(if (decide (x101 < (List.length a1:Int)))=true then Option.bind (Option.bind (ixl a1 x101) (fun x124=>Option.bind (prop_literal x124) (fun x125=>(if (!x125)=true then some (Sum.inl (x99,x100)) else Option.bind (prop_sheet_of x99 x100 x124) (fun x126=>(if (x126 == (-1))=true then Option.bind (lenA 4097 x99) (fun x127=>some (Sum.inr ())) else (if (x126 == 0)=true then Option.bind (prop_sheet_set x99 x100 x124 (-1)) (fun (x128,x129)=>some (Sum.inl (x128,x129))) else some (Sum.inl (x99,x100)))))))):Option ((List Int × List S_api_Deduced) ⊕ (Unit))) (fun y=>match y with | Sum.inl (x122,x123)=>some (Step.next (x122,x123,(w64 (x101 + 1)))) | Sum.inr _=>some (Step.done (Sum.inl x100))) else some (Step.done (Sum.inr (x99,x100))))
noncomputable abbrev prop_Run_lp41 (a0:List (List Int)) (q:LoopState) (p:Option Code):AObj:=.loop { state:=q,pending:=p,tmps:=tl 65 [V 0 (.fsl 1 (List.map c_L3 a0)),V 4 (pt 0 1),V 5 (pt 1 1),V 6 (pt 2 1),V 9 (pt 5 1),V 10 (pt 6 1),V 41 (.fn 38 [pt 7 1,pt 8 1])] none,params:=[42,43],assign:=prop_Run_y21_a0,body:=prop_Run_y21_b0 }
noncomputable def prop_Run_l2 (a0:List (List Int)) (x157:List Int) (x158:List S_api_Deduced):(Int × Int × Int)→Option (Step (Int × Int × Int) ((Int × Int × Int) ⊕ (Int × Int))):=fun (x198,x199,x200)=>(if (decide (x198 < (List.length a0:Int)))=true then Option.bind (ixl a0 x198) (fun x217=>Option.bind (prop_sheet_look x157 x158 x217) (fun (x218,x219)=>Option.bind (if (x218 || (x219 != 0))=true then Option.bind ((if (x219 == 0)=true then Option.bind (lenA 4097 x157) (fun x228=>some (Sum.inl ())) else (if (decide (x199 < 0))=true then some (Sum.inr (x198,x219)) else some (Sum.inr (x199,x200)))):Option ((Unit) ⊕ (Int × Int))) (fun y=>match y with | Sum.inl _=>some (Sum.inl ()) | Sum.inr (x226,x227)=>some (Sum.inr (x226,x227))) else some (Sum.inr (x199,x200)):Option ((Unit) ⊕ (Int × Int))) (fun y=>match y with | Sum.inl _=>some (Step.done (Sum.inl (x198,x199,x200))) | Sum.inr (x223,x224)=>some (Step.next ((w64 (x198 + 1)),x223,x224))))) else some (Step.done (Sum.inr (x199,x200))))
noncomputable def prop_Run_l3 (a0:List (List Int)):(List Int × List S_api_Deduced)→Option (Step (List Int × List S_api_Deduced) ((List S_api_Deduced × Int) ⊕ (List Int × List S_api_Deduced))):=fun (x157,x158)=>Option.bind (prop_sheet_counts x157 x158 a0) (fun _=>Option.bind (loopC (prop_Run_l2 a0 x157 x158) (0,(-1),0)) (fun y=>match y with | Sum.inl (x212,x213,x214)=>some (Step.done (Sum.inl (x158,x212))) | Sum.inr (x215,x216)=>(if (decide (x215 < 0))=true then some (Step.done (Sum.inr (x157,x158))) else Option.bind (prop_sheet_set x157 x158 x216 x215) (fun (x229,x230)=>some (Step.next (x229,x230))))))
abbrev prop_Run_T (a0:List (List Int)) (a1:List Int) (r:List S_api_Deduced × Int):CS:=⟨[V 4 (pt 0 1),V 5 (pt 2 1)],[W 0 1 [.osl 1 0 (List.length r.1) 2],(1,.rows 2 (List.map c_S_api_Deduced r.1)),W 2 1 [iv r.2]],3⟩
noncomputable def prop_Run (a0:List (List Int)) (a1:List Int):Option (List S_api_Deduced × Int):=Option.bind (loopC (prop_Run_l1 a1) ((List.replicate 4097 (0:Int)),[],0)) (fun y=>match y with | Sum.inl x113=>some (x113,(-2)) | Sum.inr (x114,x115)=>Option.bind (loopC (prop_Run_l3 a0) (x114,x115)) (fun y=>match y with | Sum.inl (x188,x189)=>some (x188,x189) | Sum.inr (x190,x191)=>Option.bind (lenA 4097 x190) (fun x231=>some (x191,(-1)))))
theorem prop_Run_ok (a0:List (List Int)) (a1:List Int):CtM E 14 [.fsl 1 (List.map c_L3 a0),.fsl 1 (List.map cI a1)] [] 0 (prop_Run a0 a1) (fun r:List S_api_Deduced × Int=>.tup [.osl 1 0 (List.length r.1) 2,iv r.2]) (fun r:List S_api_Deduced × Int=>[(1,.rows 2 (List.map c_S_api_Deduced r.1))]) 3:=ctm_intro (N:=65) (L:=prop_Run_c) prop_Run_k rfl (Nat.le_of_ble_eq_true rfl) (fun F hF=>by
 unfold prop_Run
 refine jS ⟨[V 0 (.fsl 1 (List.map c_L3 a0)),V 1 (.fsl 1 (List.map cI a1)),V 4 (pt 0 1),V 5 (pt 1 1)],[W 0 1 [nilS],W 1 1 [iv 0]],2⟩ ?_
 refine jc_scope ?_
 refine jS ⟨[V 0 (.fsl 1 (List.map c_L3 a0)),V 1 (.fsl 1 (List.map cI a1)),V 4 (pt 0 1),V 5 (pt 1 1),V 6 (pt 3 1)],[W 0 1 [nilS],W 1 1 [iv 0],(2,.rows 4098 [List.map aI8 (List.replicate 4097 (0:Int)) ++ [nilS]]),W 3 1 [pt 2 4098]],4⟩ ?_
 refine jc_seq ?_
 refine jR ?_
 refine jG 0 3 ⟨[V 0 (.fsl 1 (List.map c_L3 a0)),V 4 (pt 0 1),V 5 (pt 1 1),V 6 (pt 3 1),V 15 (.fsl 1 (List.map cI a1)),V 16 (iv (List.length (List.map cI a1):Int)),V 17 (iv 0)],[W 0 1 [nilS],W 1 1 [iv 0],(2,.rows 4098 [List.map aI8 (List.replicate 4097 (0:Int)) ++ [nilS]]),W 3 1 [pt 2 4098]],4⟩ ?_
 simp only[List.length_map]
 refine jN ?_
 refine jc_block ?_
 refine jc_bind (fun y=>match y with | Sum.inl x113=>⟨[V 4 (pt 0 1),V 5 (pt 2 1)],[W 0 1 [.osl 1 0 (List.length x113) 2],(1,.rows 2 (List.map c_S_api_Deduced x113)),W 2 1 [iv (-2)]],3⟩ | Sum.inr (x114,x115)=>⟨[V 0 (.fsl 1 (List.map c_L3 a0)),V 4 (pt 0 1),V 5 (pt 1 1),V 6 (pt 2 1)],[W 0 1 [nilS],W 1 1 [iv 0],W 2 1 [pt 3 4098],(3,.rows 4098 [List.map aI8 x114 ++ [.osl 4 0 (List.length x115) 2]]),(4,.rows 2 (List.map c_S_api_Deduced x115))],5⟩) (fun y=>match y with | Sum.inl x113=>.ret | Sum.inr (x114,x115)=>(.exit 0)) (jc_loop (fun (x99,x100,x101)=>⟨[V 0 (.fsl 1 (List.map c_L3 a0)),V 4 (pt 0 1),V 5 (pt 1 1),V 6 (pt 2 1),V 15 (.fsl 1 (List.map cI a1)),V 16 (iv (List.length a1:Int)),V 17 (iv x101)],[W 0 1 [nilS],W 1 1 [iv 0],W 2 1 [pt 3 4098],(3,.rows 4098 [List.map aI8 x99 ++ [.osl 4 0 (List.length x100) 2]]),(4,.rows 2 (List.map c_S_api_Deduced x100))],5⟩) (wkR [(0,some 0),(1,some 1),(2,some 3),(3,some 2),(4,none)] (fix_of hF (k:=0) rfl) (pc (hC 0) (pc (hC 1) (pc (hC 3) (pc (hA 2) (pc hZ allp_nil)))))) ?_) ?_
 ·rintro⟨x99,x100,x101⟩
  unfold prop_Run_l1
  refine jS ⟨[V 0 (.fsl 1 (List.map c_L3 a0)),V 4 (pt 0 1),V 5 (pt 1 1),V 6 (pt 2 1),V 15 (.fsl 1 (List.map cI a1)),V 16 (iv (List.length a1:Int)),V 17 (iv x101),V 18 (bv (decide (x101 < (List.length a1:Int))))],[W 0 1 [nilS],W 1 1 [iv 0],W 2 1 [pt 3 4098],(3,.rows 4098 [List.map aI8 x99 ++ [.osl 4 0 (List.length x100) 2]]),(4,.rows 2 (List.map c_S_api_Deduced x100))],5⟩ ?_
  refine jc_seq ?_
  refine jIf ?_ ?_
  ·refine jc_skip ?_
   refine jx_seqN ?_
   refine jc_seq ?_
   refine jc_bind (fun y=>match y with | Sum.inl (x122,x123)=>⟨[V 0 (.fsl 1 (List.map c_L3 a0)),V 4 (pt 0 1),V 5 (pt 1 1),V 6 (pt 2 1),V 15 (.fsl 1 (List.map cI a1)),V 16 (iv (List.length a1:Int)),V 17 (iv x101)],[W 0 1 [nilS],W 1 1 [iv 0],W 2 1 [pt 3 4098],(3,.rows 4098 [List.map aI8 x122 ++ [.osl 4 0 (List.length x123) 2]]),(4,.rows 2 (List.map c_S_api_Deduced x123))],5⟩ | Sum.inr _=>⟨[V 4 (pt 0 1),V 5 (pt 2 1)],[W 0 1 [.osl 1 0 (List.length x100) 2],(1,.rows 2 (List.map c_S_api_Deduced x100)),W 2 1 [iv (-2)]],3⟩) (fun y=>match y with | Sum.inl (x122,x123)=>.normal | Sum.inr _=>.ret) ?_ ?_
   ·refine jc_block ?_
    refine jR ?_
    refine jr_part (i:=0) (mo:=ixl a1 x101) rfl rfl rfl rfl (fun _ hc=>aop_ixf (c:=cI) (sz:=1) (e:=3) (kk:=.i64) (by kernel_rfl) (by kernel_rfl) (by kernel_rfl) (by kernel_rfl) hc) (fun _=>rfl) ?_
    intro x124 h124
    refine jG 1 2 ⟨[V 0 (.fsl 1 (List.map c_L3 a0)),V 4 (pt 0 1),V 5 (pt 1 1),V 6 (pt 2 1),V 8 (iv x124),V 15 (.fsl 1 (List.map cI a1)),V 16 (iv (List.length a1:Int)),V 17 (iv x101)],[W 0 1 [nilS],W 1 1 [iv 0],W 2 1 [pt 3 4098],(3,.rows 4098 [List.map aI8 x99 ++ [.osl 4 0 (List.length x100) 2]]),(4,.rows 2 (List.map c_S_api_Deduced x100))],5⟩ ?_
    refine jN ?_
    refine jc_seq ?_
    refine jR ?_
    refine jG 0 1 ⟨[V 0 (.fsl 1 (List.map c_L3 a0)),V 4 (pt 0 1),V 5 (pt 1 1),V 6 (pt 2 1),V 8 (iv x124),V 15 (.fsl 1 (List.map cI a1)),V 16 (iv (List.length a1:Int)),V 17 (iv x101),V 21 (iv x124)],[W 0 1 [nilS],W 1 1 [iv 0],W 2 1 [pt 3 4098],(3,.rows 4098 [List.map aI8 x99 ++ [.osl 4 0 (List.length x100) 2]]),(4,.rows 2 (List.map c_S_api_Deduced x100))],5⟩ ?_
    refine jK 1 (prop_literal_ok x124) ?_
    intro x125 h125
    refine jG 2 1 ⟨[V 0 (.fsl 1 (List.map c_L3 a0)),V 4 (pt 0 1),V 5 (pt 1 1),V 6 (pt 2 1),V 8 (iv x124),V 15 (.fsl 1 (List.map cI a1)),V 16 (iv (List.length a1:Int)),V 17 (iv x101),V 23 (bv (!x125))],[W 0 1 [nilS],W 1 1 [iv 0],W 2 1 [pt 3 4098],(3,.rows 4098 [List.map aI8 x99 ++ [.osl 4 0 (List.length x100) 2]]),(4,.rows 2 (List.map c_S_api_Deduced x100))],5⟩ ?_
    refine jN ?_
    refine jIf ?_ ?_
    ·refine jc_exit ?_
     refine jx_seqE ?_
     refine jx_blkE ?_
     exact jx_mid rfl (wkR [(0,some 0),(1,some 1),(2,some 2),(3,some 3),(4,some 4)] (fix_of hF (k:=0) rfl) (pc (hC 0) (pc (hC 1) (pc (hC 2) (pc (hA 3) (pc (hL 4 (noid_map ni_S_api_Deduced _)) allp_nil))))))
    refine jc_skip ?_
    refine jx_seqN ?_
    refine jR ?_
    refine jG 0 2 ⟨[V 0 (.fsl 1 (List.map c_L3 a0)),V 4 (pt 0 1),V 5 (pt 1 1),V 6 (pt 2 1),V 8 (iv x124),V 15 (.fsl 1 (List.map cI a1)),V 16 (iv (List.length a1:Int)),V 17 (iv x101),V 24 (pt 3 4098),V 25 (iv x124)],[W 0 1 [nilS],W 1 1 [iv 0],W 2 1 [pt 3 4098],(3,.rows 4098 [List.map aI8 x99 ++ [.osl 4 0 (List.length x100) 2]]),(4,.rows 2 (List.map c_S_api_Deduced x100))],5⟩ ?_
    refine jr_callM 2 [(0,some 3),(1,some 4)] [(3,some 0),(4,some 1)] (fun r:Int=>[W 0 1 [nilS],W 1 1 [iv 0],W 2 1 [pt 3 4098],(3,.rows 4098 [List.map aI8 x99 ++ [.osl 4 0 (List.length x100) 2]]),(4,.rows 2 (List.map c_S_api_Deduced x100))]) (fun r:Int=>iv r) 5 (prop_sheet_of_ok x99 x100 x124) (pc (hA 3) (pc (hL 4 (noid_map ni_S_api_Deduced _)) allp_nil)) (fun r=>(pc (.inl ⟨rfl,rfl⟩) (pc (.inl ⟨rfl,rfl⟩) (pc (.inl ⟨rfl,rfl⟩) (pc (.inr (hA 0)) (pc (.inr (hL 1 (noid_map ni_S_api_Deduced _))) allp_nil)))))) ?_
    rintro x126 hm26
    refine jN ?_
    refine jc_block ?_
    refine jS ⟨[V 0 (.fsl 1 (List.map c_L3 a0)),V 4 (pt 0 1),V 5 (pt 1 1),V 6 (pt 2 1),V 8 (iv x124),V 15 (.fsl 1 (List.map cI a1)),V 16 (iv (List.length a1:Int)),V 17 (iv x101),V 26 (iv x126),V 27 (bv (x126 == (-1)))],[W 0 1 [nilS],W 1 1 [iv 0],W 2 1 [pt 3 4098],(3,.rows 4098 [List.map aI8 x99 ++ [.osl 4 0 (List.length x100) 2]]),(4,.rows 2 (List.map c_S_api_Deduced x100))],5⟩ ?_
    refine jIf ?_ ?_
    ·refine jR ?_
     refine jG 0 3 ⟨[V 4 (pt 0 1),V 5 (pt 1 1),V 31 (.ptr 3 0 4098 4097)],[W 0 1 [nilS],W 1 1 [iv 0],(3,.rows 4098 [List.map aI8 x99 ++ [.osl 4 0 (List.length x100) 2]]),(4,.rows 2 (List.map c_S_api_Deduced x100))],5⟩ ?_
     refine jr_guard ?_
     intro x127 h127
     refine jr_one (i:=3) (v:=.osl 4 0 (List.length x100) 2) (us:=[]) rfl rfl rfl rfl (aop_ldr (l:=x99) (c:=aI8) (rest:=[.osl 4 0 (List.length x100) 2]) (id:=3) (sz:=4098) (m:=4097) (q:=0) (by kernel_rfl) (by kernel_rfl) (by kernel_rfl) (by kernel_rfl) (lenA_iff h127) (by kernel_rfl)) rfl ?_
     refine jG 4 2 ⟨[V 4 (pt 0 1),V 5 (pt 1 1)],[W 0 1 [.osl 4 0 (List.length x100) 2],W 1 1 [iv (-2)],(4,.rows 2 (List.map c_S_api_Deduced x100))],5⟩ ?_
     refine jN ?_
     refine jc_ret ?_
     refine jx_blkR ?_
     refine jx_blkR ?_
     exact jx_mid rfl (wkR [(0,some 0),(1,some 4),(2,some 1)] (fix_of hF (k:=0) rfl) (pc (hC 0) (pc (hL 4 (noid_map ni_S_api_Deduced _)) (pc (hC 1) allp_nil))))
    refine jS ⟨[V 0 (.fsl 1 (List.map c_L3 a0)),V 4 (pt 0 1),V 5 (pt 1 1),V 6 (pt 2 1),V 8 (iv x124),V 15 (.fsl 1 (List.map cI a1)),V 16 (iv (List.length a1:Int)),V 17 (iv x101),V 33 (bv (x126 == 0))],[W 0 1 [nilS],W 1 1 [iv 0],W 2 1 [pt 3 4098],(3,.rows 4098 [List.map aI8 x99 ++ [.osl 4 0 (List.length x100) 2]]),(4,.rows 2 (List.map c_S_api_Deduced x100))],5⟩ ?_
    refine jIf ?_ ?_
    ·refine jc_reg ?_
     refine jG 0 2 ⟨[V 0 (.fsl 1 (List.map c_L3 a0)),V 4 (pt 0 1),V 5 (pt 1 1),V 6 (pt 2 1),V 15 (.fsl 1 (List.map cI a1)),V 16 (iv (List.length a1:Int)),V 17 (iv x101),V 35 (pt 3 4098),V 36 (iv x124)],[W 0 1 [nilS],W 1 1 [iv 0],W 2 1 [pt 3 4098],(3,.rows 4098 [List.map aI8 x99 ++ [.osl 4 0 (List.length x100) 2]]),(4,.rows 2 (List.map c_S_api_Deduced x100))],5⟩ ?_
     refine jr_callM 2 [(0,some 3),(1,some 4)] [(3,some 0),(5,some 2)] (fun r:List Int × List S_api_Deduced=>[W 0 1 [nilS],W 1 1 [iv 0],W 2 1 [pt 3 4098],(3,.rows 4098 [List.map aI8 r.1 ++ [.osl 5 0 (List.length r.2) 2]]),(5,.rows 2 (List.map c_S_api_Deduced r.2))]) (fun r:List Int × List S_api_Deduced=>.tup []) 6 (prop_sheet_set_ok x99 x100 x124 (-1)) (pc (hA 3) (pc (hL 4 (noid_map ni_S_api_Deduced _)) allp_nil)) (fun r=>(pc (.inl ⟨rfl,rfl⟩) (pc (.inl ⟨rfl,rfl⟩) (pc (.inl ⟨rfl,rfl⟩) (pc (.inr (hA 0)) (pc (.inr (hL 2 (noid_map ni_S_api_Deduced _))) allp_nil)))))) ?_
     rintro⟨x128,x129⟩ hm25
     refine jr_nil rfl ?_
     refine jx_blkN ?_
     refine jx_blkN ?_
     exact jx_mid rfl (wkR [(0,some 0),(1,some 1),(2,some 2),(3,some 3),(4,some 5)] (fix_of hF (k:=0) rfl) (pc (hC 0) (pc (hC 1) (pc (hC 2) (pc (hA 3) (pc (hL 5 (noid_map ni_S_api_Deduced _)) allp_nil))))))
    refine jc_skip ?_
    refine jx_blkN ?_
    refine jx_blkN ?_
    exact jx_mid rfl (wkR [(0,some 0),(1,some 1),(2,some 2),(3,some 3),(4,some 4)] (fix_of hF (k:=0) rfl) (pc (hC 0) (pc (hC 1) (pc (hC 2) (pc (hA 3) (pc (hL 4 (noid_map ni_S_api_Deduced _)) allp_nil))))))
   rintro (⟨x122,x123⟩ | _)
   ·refine jx_seqN ?_
    refine jT ⟨[V 0 (.fsl 1 (List.map c_L3 a0)),V 4 (pt 0 1),V 5 (pt 1 1),V 6 (pt 2 1),V 15 (.fsl 1 (List.map cI a1)),V 16 (iv (List.length a1:Int)),V 17 (iv (w64 (x101 + 1)))],[W 0 1 [nilS],W 1 1 [iv 0],W 2 1 [pt 3 4098],(3,.rows 4098 [List.map aI8 x122 ++ [.osl 4 0 (List.length x123) 2]]),(4,.rows 2 (List.map c_S_api_Deduced x123))],5⟩ ?_
    exact jx_next (wkR [(0,some 0),(1,some 1),(2,some 2),(3,some 3),(4,some 4)] (fix_of hF (k:=0) rfl) (pc (hC 0) (pc (hC 1) (pc (hC 2) (pc (hA 3) (pc (hL 4 (noid_map ni_S_api_Deduced _)) allp_nil))))))
   refine jx_seqR ?_
   exact jx_done rfl nofun (wkR [(0,some 0),(1,some 1),(2,some 2)] (fix_of hF (k:=0) rfl) (pc (hC 0) (pc (hL 1 (noid_map ni_S_api_Deduced _)) (pc (hC 2) allp_nil))))
  refine jc_exit ?_
  refine jx_seqE ?_
  exact jx_done rfl nofun (wkR [(0,some 0),(1,some 1),(2,some 2),(3,some 3),(4,some 4)] (fix_of hF (k:=0) rfl) (pc (hC 0) (pc (hC 1) (pc (hC 2) (pc (hA 3) (pc (hL 4 (noid_map ni_S_api_Deduced _)) allp_nil))))))
 rintro (x113 | ⟨x114,x115⟩)
 ·refine jx_blkR ?_
  refine jx_seqR ?_
  refine jx_scopeR ?_
  exact jx_retM (prop_Run_T a0 a1 (x113,(-2))) (.inr rfl) (wkR [(0,some 0),(1,some 1),(2,some 2)] (fix_of hF (k:=0) rfl) (pc (hC 0) (pc (hL 1 (noid_map ni_S_api_Deduced _)) (pc (hC 2) allp_nil))))
 refine jx_blkE ?_
 refine jx_seqN ?_
 refine jc_seq ?_
 refine jc_label ?_
 refine jx_seqN ?_
 refine jc_seq ?_
 refine jc_block ?_
 refine jc_bind (fun y=>match y with | Sum.inl (x188,x189)=>⟨[V 4 (pt 0 1),V 5 (pt 2 1)],[W 0 1 [.osl 1 0 (List.length x188) 2],(1,.rows 2 (List.map c_S_api_Deduced x188)),W 2 1 [iv x189]],3⟩ | Sum.inr (x190,x191)=>⟨[V 4 (pt 0 1),V 5 (pt 1 1),V 6 (pt 2 1)],[W 0 1 [nilS],W 1 1 [iv 0],W 2 1 [pt 3 4098],(3,.rows 4098 [List.map aI8 x190 ++ [.osl 4 0 (List.length x191) 2]]),(4,.rows 2 (List.map c_S_api_Deduced x191))],5⟩) (fun y=>match y with | Sum.inl (x188,x189)=>.ret | Sum.inr (x190,x191)=>(.exit 3)) (jc_loop (fun (x157,x158)=>⟨[V 0 (.fsl 1 (List.map c_L3 a0)),V 4 (pt 0 1),V 5 (pt 1 1),V 6 (pt 2 1)],[W 0 1 [nilS],W 1 1 [iv 0],W 2 1 [pt 3 4098],(3,.rows 4098 [List.map aI8 x157 ++ [.osl 4 0 (List.length x158) 2]]),(4,.rows 2 (List.map c_S_api_Deduced x158))],5⟩) (wkR [(0,some 0),(1,some 1),(2,some 2),(3,some 3),(4,some 4)] (fix_of hF (k:=0) rfl) (pc (hC 0) (pc (hC 1) (pc (hC 2) (pc (hA 3) (pc (hL 4 (noid_map ni_S_api_Deduced _)) allp_nil)))))) ?_) ?_
 ·rintro⟨x157,x158⟩
  unfold prop_Run_l3
  refine jc_block ?_
  refine jS ⟨[V 0 (.fsl 1 (List.map c_L3 a0)),V 4 (pt 0 1),V 5 (pt 1 1),V 6 (pt 2 1),V 9 (pt 5 1),V 10 (pt 6 1)],[W 0 1 [nilS],W 1 1 [iv 0],W 2 1 [pt 3 4098],(3,.rows 4098 [List.map aI8 x157 ++ [.osl 4 0 (List.length x158) 2]]),(4,.rows 2 (List.map c_S_api_Deduced x158)),W 5 1 [iv (-1)],W 6 1 [iv 0]],7⟩ ?_
  refine jc_seq ?_
  refine jR ?_
  refine jG 0 2 ⟨[V 0 (.fsl 1 (List.map c_L3 a0)),V 4 (pt 0 1),V 5 (pt 1 1),V 6 (pt 2 1),V 9 (pt 5 1),V 10 (pt 6 1),V 39 (pt 3 4098),V 40 (.fsl 1 (List.map c_L3 a0))],[W 0 1 [nilS],W 1 1 [iv 0],W 2 1 [pt 3 4098],(3,.rows 4098 [List.map aI8 x157 ++ [.osl 4 0 (List.length x158) 2]]),(4,.rows 2 (List.map c_S_api_Deduced x158)),W 5 1 [iv (-1)],W 6 1 [iv 0]],7⟩ ?_
  refine jr_callM 2 [(0,some 3),(1,some 4)] [(3,some 0),(4,some 1),(7,some 2),(8,some 3)] (fun r:Unit=>[W 0 1 [nilS],W 1 1 [iv 0],W 2 1 [pt 3 4098],(3,.rows 4098 [List.map aI8 x157 ++ [.osl 4 0 (List.length x158) 2]]),(4,.rows 2 (List.map c_S_api_Deduced x158)),W 5 1 [iv (-1)],W 6 1 [iv 0],W 7 1 [.fsl 1 (List.map c_L3 a0)],W 8 1 [pt 3 4098]]) (fun r:Unit=>.fn 38 [pt 7 1,pt 8 1]) 9 (prop_sheet_counts_ok x157 x158 a0) (pc (hA 3) (pc (hL 4 (noid_map ni_S_api_Deduced _)) allp_nil)) (fun r=>(pc (.inl ⟨rfl,rfl⟩) (pc (.inl ⟨rfl,rfl⟩) (pc (.inl ⟨rfl,rfl⟩) (pc (.inr (hA 0)) (pc (.inr (hL 1 (noid_map ni_S_api_Deduced _))) (pc (.inl ⟨rfl,rfl⟩) (pc (.inl ⟨rfl,rfl⟩) (pc (.inr (hC 2)) (pc (.inr (hC 3)) allp_nil)))))))))) ?_
  rintro⟨⟩ hm50
  refine jN ?_
  refine jc_block ?_
  refine jc_keep [0,4,5,6,9,10,41] [0,1,2,3,4,5,6,7,8] (st1:=⟨[V 0 (.fsl 1 (List.map c_L3 a0)),V 4 (pt 0 1),V 5 (pt 1 1),V 6 (pt 2 1),V 9 (pt 5 1),V 10 (pt 6 1),V 41 (.fn 38 [pt 7 1,pt 8 1])],[W 0 1 [nilS],W 1 1 [iv 0],W 2 1 [pt 3 4098],(3,.rows 4098 [List.map aI8 x157 ++ [.osl 4 0 (List.length x158) 2]]),(4,.rows 2 (List.map c_S_api_Deduced x158)),W 5 1 [iv (-1)],W 6 1 [iv 0],W 7 1 [.fsl 1 (List.map c_L3 a0)],W 8 1 [pt 3 4098]],9⟩) (by kernel_rfl) ?_
  refine jc_rng (g:=38) (caps:=[pt 7 1,pt 8 1]) (by kernel_rfl) prop_sheet_counts_1_it_k (Nat.le_of_ble_eq_true rfl) ?_
  intro F41 hc41
  refine jR ?_
  refine jG 0 3 ⟨[V 0 (.yld 9),V 2 (pt 8 1),V 8 (.fsl 1 (List.map c_L3 a0)),V 9 (iv (List.length (List.map c_L3 a0):Int)),V 10 (iv 0)],[W 0 1 [nilS],W 1 1 [iv 0],W 2 1 [pt 3 4098],(3,.rows 4098 [List.map aI8 x157 ++ [.osl 4 0 (List.length x158) 2]]),(4,.rows 2 (List.map c_S_api_Deduced x158)),W 5 1 [iv (-1)],W 6 1 [iv 0],W 7 1 [.fsl 1 (List.map c_L3 a0)],W 8 1 [pt 3 4098],(9,prop_Run_lp41 a0 .ready none)],10⟩ ?_
  simp only[List.length_map]
  refine jN ?_
  refine jc_block ?_
  refine jc_bind (fun y=>match y with | Sum.inl (x212,x213,x214)=>⟨[],[W 0 1 [.osl 4 0 (List.length x158) 2],W 1 1 [iv x212],W 2 1 [pt 3 4098],(3,.rows 4098 [List.map aI8 x157 ++ [.osl 4 0 (List.length x158) 2]]),(4,.rows 2 (List.map c_S_api_Deduced x158)),W 5 1 [iv x213],W 6 1 [iv x214],W 7 1 [.fsl 1 (List.map c_L3 a0)],W 8 1 [pt 3 4098],(9,prop_Run_lp41 a0 .done (some .ret))],10⟩ | Sum.inr (x215,x216)=>⟨[],[W 0 1 [nilS],W 1 1 [iv 0],W 2 1 [pt 3 4098],(3,.rows 4098 [List.map aI8 x157 ++ [.osl 4 0 (List.length x158) 2]]),(4,.rows 2 (List.map c_S_api_Deduced x158)),W 5 1 [iv x215],W 6 1 [iv x216],W 7 1 [.fsl 1 (List.map c_L3 a0)],W 8 1 [pt 3 4098],(9,prop_Run_lp41 a0 .ready none)],10⟩) (fun y=>match y with | Sum.inl (x212,x213,x214)=>.ret | Sum.inr (x215,x216)=>(.exit 0)) (jc_loop (fun (x198,x199,x200)=>⟨[V 0 (.yld 9),V 2 (pt 8 1),V 8 (.fsl 1 (List.map c_L3 a0)),V 9 (iv (List.length a0:Int)),V 10 (iv x198)],[W 0 1 [nilS],W 1 1 [iv 0],W 2 1 [pt 3 4098],(3,.rows 4098 [List.map aI8 x157 ++ [.osl 4 0 (List.length x158) 2]]),(4,.rows 2 (List.map c_S_api_Deduced x158)),W 5 1 [iv x199],W 6 1 [iv x200],W 7 1 [.fsl 1 (List.map c_L3 a0)],W 8 1 [pt 3 4098],(9,prop_Run_lp41 a0 .ready none)],10⟩) (wkR [(0,some 0),(1,some 1),(2,some 2),(3,some 3),(4,some 4),(5,some 5),(6,some 6),(7,some 7),(8,some 8),(9,some 9)] (fix_of hc41.2.2 (k:=10) rfl) (pc (hC 0) (pc (hC 1) (pc (hC 2) (pc (hA 3) (pc (hL 4 (noid_map ni_S_api_Deduced _)) (pc (hC 5) (pc (hC 6) (pc (hC 7) (pc (hC 8) (pc (.inr (.inr ⟨9,_,_,rfl,rfl,rfl,by kernel_rfl⟩)) allp_nil))))))))))) ?_) ?_
  ·rintro⟨x198,x199,x200⟩
   unfold prop_Run_l2
   refine jS ⟨[V 0 (.yld 9),V 2 (pt 8 1),V 8 (.fsl 1 (List.map c_L3 a0)),V 9 (iv (List.length a0:Int)),V 10 (iv x198),V 11 (bv (decide (x198 < (List.length a0:Int))))],[W 0 1 [nilS],W 1 1 [iv 0],W 2 1 [pt 3 4098],(3,.rows 4098 [List.map aI8 x157 ++ [.osl 4 0 (List.length x158) 2]]),(4,.rows 2 (List.map c_S_api_Deduced x158)),W 5 1 [iv x199],W 6 1 [iv x200],W 7 1 [.fsl 1 (List.map c_L3 a0)],W 8 1 [pt 3 4098],(9,prop_Run_lp41 a0 .ready none)],10⟩ ?_
   refine jc_seq ?_
   refine jIf ?_ ?_
   ·refine jc_skip ?_
    refine jx_seqN ?_
    refine jc_seq ?_
    refine jc_block ?_
    refine jR ?_
    refine jG 0 1 ⟨[V 0 (.yld 9),V 2 (pt 8 1),V 8 (.fsl 1 (List.map c_L3 a0)),V 9 (iv (List.length a0:Int)),V 10 (iv x198),V 12 (iv x198)],[W 0 1 [nilS],W 1 1 [iv 0],W 2 1 [pt 3 4098],(3,.rows 4098 [List.map aI8 x157 ++ [.osl 4 0 (List.length x158) 2]]),(4,.rows 2 (List.map c_S_api_Deduced x158)),W 5 1 [iv x199],W 6 1 [iv x200],W 7 1 [.fsl 1 (List.map c_L3 a0)],W 8 1 [pt 3 4098],(9,prop_Run_lp41 a0 .ready none)],10⟩ ?_
    refine jr_part (i:=1) (mo:=ixl a0 x198) rfl rfl rfl rfl (fun _ hc=>aop_ixf (c:=c_L3) (sz:=1) (e:=23) (kk:=.i64) (by kernel_rfl) (by kernel_rfl) (by kernel_rfl) (by kernel_rfl) hc) (fun _=>rfl) ?_
    intro x217 h217
    refine jG 2 3 ⟨[V 0 (.yld 9),V 2 (pt 8 1),V 4 (iv x198),V 5 (.fsl 1 (List.map cI x217)),V 8 (.fsl 1 (List.map c_L3 a0)),V 9 (iv (List.length a0:Int)),V 10 (iv x198)],[W 0 1 [nilS],W 1 1 [iv 0],W 2 1 [pt 3 4098],(3,.rows 4098 [List.map aI8 x157 ++ [.osl 4 0 (List.length x158) 2]]),(4,.rows 2 (List.map c_S_api_Deduced x158)),W 5 1 [iv x199],W 6 1 [iv x200],W 7 1 [.fsl 1 (List.map c_L3 a0)],W 8 1 [pt 3 4098],(9,prop_Run_lp41 a0 .ready none)],10⟩ ?_
    refine jN ?_
    refine jR ?_
    refine jG 0 2 ⟨[V 0 (.yld 9),V 2 (pt 8 1),V 4 (iv x198),V 8 (.fsl 1 (List.map c_L3 a0)),V 9 (iv (List.length a0:Int)),V 10 (iv x198),V 16 (pt 3 4098),V 17 (.fsl 1 (List.map cI x217))],[W 0 1 [nilS],W 1 1 [iv 0],W 2 1 [pt 3 4098],(3,.rows 4098 [List.map aI8 x157 ++ [.osl 4 0 (List.length x158) 2]]),(4,.rows 2 (List.map c_S_api_Deduced x158)),W 5 1 [iv x199],W 6 1 [iv x200],W 7 1 [.fsl 1 (List.map c_L3 a0)],W 8 1 [pt 3 4098],(9,prop_Run_lp41 a0 .ready none)],10⟩ ?_
    refine jr_callM 2 [(0,some 3),(1,some 4)] [(3,some 0),(4,some 1)] (fun r:Bool × Int=>[W 0 1 [nilS],W 1 1 [iv 0],W 2 1 [pt 3 4098],(3,.rows 4098 [List.map aI8 x157 ++ [.osl 4 0 (List.length x158) 2]]),(4,.rows 2 (List.map c_S_api_Deduced x158)),W 5 1 [iv x199],W 6 1 [iv x200],W 7 1 [.fsl 1 (List.map c_L3 a0)],W 8 1 [pt 3 4098],(9,prop_Run_lp41 a0 .ready none)]) (fun r:Bool × Int=>.tup [bv r.1,iv r.2]) 10 (prop_sheet_look_ok x157 x158 x217) (pc (hA 3) (pc (hL 4 (noid_map ni_S_api_Deduced _)) allp_nil)) (fun r=>(pc (.inl ⟨rfl,rfl⟩) (pc (.inl ⟨rfl,rfl⟩) (pc (.inl ⟨rfl,rfl⟩) (pc (.inr (hA 0)) (pc (.inr (hL 1 (noid_map ni_S_api_Deduced _))) (pc (.inl ⟨rfl,rfl⟩) (pc (.inl ⟨rfl,rfl⟩) (pc (.inl ⟨rfl,rfl⟩) (pc (.inl ⟨rfl,rfl⟩) (pc (.inl ⟨rfl,rfl⟩) allp_nil))))))))))) ?_
    rintro⟨x218,x219⟩ hm48
    refine jG 3 5 ⟨[V 0 (.yld 9),V 2 (pt 8 1),V 4 (iv x198),V 6 (bv x218),V 7 (iv x219),V 8 (.fsl 1 (List.map c_L3 a0)),V 9 (iv (List.length a0:Int)),V 10 (iv x198)],[W 0 1 [nilS],W 1 1 [iv 0],W 2 1 [pt 3 4098],(3,.rows 4098 [List.map aI8 x157 ++ [.osl 4 0 (List.length x158) 2]]),(4,.rows 2 (List.map c_S_api_Deduced x158)),W 5 1 [iv x199],W 6 1 [iv x200],W 7 1 [.fsl 1 (List.map c_L3 a0)],W 8 1 [pt 3 4098],(9,prop_Run_lp41 a0 .ready none)],10⟩ ?_
    refine jN ?_
    refine jR ?_
    refine jG 0 6 ⟨[V 0 (.yld 9),V 2 (pt 8 1),V 4 (iv x198),V 7 (iv x219),V 8 (.fsl 1 (List.map c_L3 a0)),V 9 (iv (List.length a0:Int)),V 10 (iv x198),V 26 (bv (x218 || (x219 != 0)))],[W 0 1 [nilS],W 1 1 [iv 0],W 2 1 [pt 3 4098],(3,.rows 4098 [List.map aI8 x157 ++ [.osl 4 0 (List.length x158) 2]]),(4,.rows 2 (List.map c_S_api_Deduced x158)),W 5 1 [iv x199],W 6 1 [iv x200],W 7 1 [.fsl 1 (List.map c_L3 a0)],W 8 1 [pt 3 4098],(9,prop_Run_lp41 a0 .ready none)],10⟩ ?_
    refine jr_bind 6 6 (fun y=>match y with | Sum.inl _=>⟨[V 0 (.yld 9),V 2 (pt 8 1),V 8 (.fsl 1 (List.map c_L3 a0)),V 9 (iv (List.length a0:Int)),V 10 (iv x198),V 32 (bv true)],[W 0 1 [.osl 4 0 (List.length x158) 2],W 1 1 [iv x198],W 2 1 [pt 3 4098],(3,.rows 4098 [List.map aI8 x157 ++ [.osl 4 0 (List.length x158) 2]]),(4,.rows 2 (List.map c_S_api_Deduced x158)),W 5 1 [iv x199],W 6 1 [iv x200],W 7 1 [.fsl 1 (List.map c_L3 a0)],W 8 1 [pt 3 4098],(9,prop_Run_lp41 a0 .done (some .ret))],10⟩ | Sum.inr (x223,x224)=>⟨[V 0 (.yld 9),V 2 (pt 8 1),V 8 (.fsl 1 (List.map c_L3 a0)),V 9 (iv (List.length a0:Int)),V 10 (iv x198),V 32 (bv false)],[W 0 1 [nilS],W 1 1 [iv 0],W 2 1 [pt 3 4098],(3,.rows 4098 [List.map aI8 x157 ++ [.osl 4 0 (List.length x158) 2]]),(4,.rows 2 (List.map c_S_api_Deduced x158)),W 5 1 [iv x223],W 6 1 [iv x224],W 7 1 [.fsl 1 (List.map c_L3 a0)],W 8 1 [pt 3 4098],(9,prop_Run_lp41 a0 .ready none)],10⟩) ?_ ?_
    ·refine jSp 26 ?_ ?_
     ·refine jG 0 3 ⟨[V 0 (.yld 9),V 2 (pt 8 1),V 8 (.fsl 1 (List.map c_L3 a0)),V 9 (iv (List.length a0:Int)),V 10 (iv x198),(26,.lit true),V 27 (.yld 9),V 28 (iv x198),V 29 (iv x219)],[W 0 1 [nilS],W 1 1 [iv 0],W 2 1 [pt 3 4098],(3,.rows 4098 [List.map aI8 x157 ++ [.osl 4 0 (List.length x158) 2]]),(4,.rows 2 (List.map c_S_api_Deduced x158)),W 5 1 [iv x199],W 6 1 [iv x200],W 7 1 [.fsl 1 (List.map c_L3 a0)],W 8 1 [pt 3 4098],(9,prop_Run_lp41 a0 .ready none)],10⟩ ?_
      refine jr_yield (i:=3) (l:=9) (Nc:=65) (Kc:=[V 0 (.fsl 1 (List.map c_L3 a0)),V 4 (pt 0 1),V 5 (pt 1 1),V 6 (pt 2 1),V 9 (pt 5 1),V 10 (pt 6 1),V 41 (.fn 38 [pt 7 1,pt 8 1])]) (ps:=[42,43]) (vs:=[iv x198,iv x219]) (fun y=>match y with | Sum.inl _=>⟨[],[W 0 1 [.osl 4 0 (List.length x158) 2],W 1 1 [iv x198],W 2 1 [pt 3 4098],(3,.rows 4098 [List.map aI8 x157 ++ [.osl 4 0 (List.length x158) 2]]),(4,.rows 2 (List.map c_S_api_Deduced x158)),W 5 1 [iv x199],W 6 1 [iv x200],W 7 1 [.fsl 1 (List.map c_L3 a0)],W 8 1 [pt 3 4098],(9,prop_Run_lp41 a0 .busy none)],10⟩ | Sum.inr (x226,x227)=>⟨[],[W 0 1 [nilS],W 1 1 [iv 0],W 2 1 [pt 3 4098],(3,.rows 4098 [List.map aI8 x157 ++ [.osl 4 0 (List.length x158) 2]]),(4,.rows 2 (List.map c_S_api_Deduced x158)),W 5 1 [iv x226],W 6 1 [iv x227],W 7 1 [.fsl 1 (List.map c_L3 a0)],W 8 1 [pt 3 4098],(9,prop_Run_lp41 a0 .busy none)],10⟩) (fun y=>match y with | Sum.inl _=>.ret | Sum.inr (x226,x227)=>.normal) [0,2,8,9,10,26,30] [0,1,2,3,4,5,6,7,8,9] (after:=(fun y=>match y with | Sum.inl _=>⟨[V 0 (.yld 9),V 2 (pt 8 1),V 8 (.fsl 1 (List.map c_L3 a0)),V 9 (iv (List.length a0:Int)),V 10 (iv x198),(26,.lit true),V 30 (bv false)],[W 0 1 [.osl 4 0 (List.length x158) 2],W 1 1 [iv x198],W 2 1 [pt 3 4098],(3,.rows 4098 [List.map aI8 x157 ++ [.osl 4 0 (List.length x158) 2]]),(4,.rows 2 (List.map c_S_api_Deduced x158)),W 5 1 [iv x199],W 6 1 [iv x200],W 7 1 [.fsl 1 (List.map c_L3 a0)],W 8 1 [pt 3 4098],(9,prop_Run_lp41 a0 .done (some .ret))],10⟩ | Sum.inr (x226,x227)=>⟨[V 0 (.yld 9),V 2 (pt 8 1),V 8 (.fsl 1 (List.map c_L3 a0)),V 9 (iv (List.length a0:Int)),V 10 (iv x198),(26,.lit true),V 30 (bv true)],[W 0 1 [nilS],W 1 1 [iv 0],W 2 1 [pt 3 4098],(3,.rows 4098 [List.map aI8 x157 ++ [.osl 4 0 (List.length x158) 2]]),(4,.rows 2 (List.map c_S_api_Deduced x158)),W 5 1 [iv x226],W 6 1 [iv x227],W 7 1 [.fsl 1 (List.map c_L3 a0)],W 8 1 [pt 3 4098],(9,prop_Run_lp41 a0 .ready none)],10⟩)) rfl rfl prop_Run_y21_aw prop_Run_y21_bw (by kernel_rfl) (by kernel_rfl) (yctx_of hc41 rfl) rfl (by kernel_rfl) rfl ?_ (by rintro (_ | ⟨x226,x227⟩) <;> exact⟨none,by kernel_rfl⟩) (by rintro (_ | ⟨x226,x227⟩) <;> kernel_rfl) ?_
      ·intro F47 hy47
       refine jS ⟨[V 4 (pt 0 1),V 5 (pt 1 1),V 6 (pt 2 1),V 9 (pt 5 1),V 10 (pt 6 1),V 11 (iv x198),V 43 (iv x219)],[W 0 1 [nilS],W 1 1 [iv 0],W 2 1 [pt 3 4098],(3,.rows 4098 [List.map aI8 x157 ++ [.osl 4 0 (List.length x158) 2]]),(4,.rows 2 (List.map c_S_api_Deduced x158)),W 5 1 [iv x199],W 6 1 [iv x200],W 7 1 [.fsl 1 (List.map c_L3 a0)],W 8 1 [pt 3 4098],(9,prop_Run_lp41 a0 .ready none)],10⟩ ?_
       refine jT ⟨[V 4 (pt 0 1),V 5 (pt 1 1),V 6 (pt 2 1),V 9 (pt 5 1),V 10 (pt 6 1),V 11 (iv x198),V 12 (iv x219)],[W 0 1 [nilS],W 1 1 [iv 0],W 2 1 [pt 3 4098],(3,.rows 4098 [List.map aI8 x157 ++ [.osl 4 0 (List.length x158) 2]]),(4,.rows 2 (List.map c_S_api_Deduced x158)),W 5 1 [iv x199],W 6 1 [iv x200],W 7 1 [.fsl 1 (List.map c_L3 a0)],W 8 1 [pt 3 4098],(9,prop_Run_lp41 a0 .ready none)],10⟩ ?_
       refine jx_asg hy47 rfl ?_
       refine jc_block ?_
       refine jc_seq ?_
       refine jS ⟨[V 4 (pt 0 1),V 5 (pt 1 1),V 6 (pt 2 1),V 9 (pt 5 1),V 10 (pt 6 1),V 11 (iv x198),V 12 (iv x219),V 45 (bv (x219 == 0))],[W 0 1 [nilS],W 1 1 [iv 0],W 2 1 [pt 3 4098],(3,.rows 4098 [List.map aI8 x157 ++ [.osl 4 0 (List.length x158) 2]]),(4,.rows 2 (List.map c_S_api_Deduced x158)),W 5 1 [iv x199],W 6 1 [iv x200],W 7 1 [.fsl 1 (List.map c_L3 a0)],W 8 1 [pt 3 4098],(9,prop_Run_lp41 a0 .busy none)],10⟩ ?_
       refine jIf ?_ ?_
       ·refine jR ?_
        refine jG 0 3 ⟨[V 4 (pt 0 1),V 5 (pt 1 1),V 11 (iv x198),V 48 (.ptr 3 0 4098 4097)],[W 0 1 [nilS],W 1 1 [iv 0],W 2 1 [pt 3 4098],(3,.rows 4098 [List.map aI8 x157 ++ [.osl 4 0 (List.length x158) 2]]),(4,.rows 2 (List.map c_S_api_Deduced x158)),W 5 1 [iv x199],W 6 1 [iv x200],W 7 1 [.fsl 1 (List.map c_L3 a0)],W 8 1 [pt 3 4098],(9,prop_Run_lp41 a0 .busy none)],10⟩ ?_
        refine jr_guard ?_
        intro x228 h228
        refine jr_one (i:=3) (v:=.osl 4 0 (List.length x158) 2) (us:=[]) rfl rfl rfl rfl (aop_ldr (l:=x157) (c:=aI8) (rest:=[.osl 4 0 (List.length x158) 2]) (id:=3) (sz:=4098) (m:=4097) (q:=0) (by kernel_rfl) (by kernel_rfl) (by kernel_rfl) (by kernel_rfl) (lenA_iff h228) (by kernel_rfl)) rfl ?_
        refine jG 4 3 ⟨[],[W 0 1 [.osl 4 0 (List.length x158) 2],W 1 1 [iv x198],W 2 1 [pt 3 4098],(3,.rows 4098 [List.map aI8 x157 ++ [.osl 4 0 (List.length x158) 2]]),(4,.rows 2 (List.map c_S_api_Deduced x158)),W 5 1 [iv x199],W 6 1 [iv x200],W 7 1 [.fsl 1 (List.map c_L3 a0)],W 8 1 [pt 3 4098],(9,prop_Run_lp41 a0 .busy none)],10⟩ ?_
        refine jN ?_
        refine jc_ret ?_
        refine jx_seqR ?_
        refine jx_blkR ?_
        exact jx_mid rfl (wkR [(0,some 0),(1,some 1),(2,some 2),(3,some 3),(4,some 4),(5,some 5),(6,some 6),(7,some 7),(8,some 8),(9,some 9)] (fix_of hy47.2 (k:=10) rfl) (pc (hC 0) (pc (hC 1) (pc (hC 2) (pc (hA 3) (pc (hL 4 (noid_map ni_S_api_Deduced _)) (pc (hC 5) (pc (hC 6) (pc (hC 7) (pc (hC 8) (pc (.inr (.inr ⟨9,_,_,rfl,rfl,rfl,by kernel_rfl⟩)) allp_nil)))))))))))
       refine jc_skip ?_
       refine jx_seqN ?_
       refine jS ⟨[V 9 (pt 5 1),V 10 (pt 6 1),V 11 (iv x198),V 12 (iv x219),V 52 (bv (decide (x199 < 0)))],[W 0 1 [nilS],W 1 1 [iv 0],W 2 1 [pt 3 4098],(3,.rows 4098 [List.map aI8 x157 ++ [.osl 4 0 (List.length x158) 2]]),(4,.rows 2 (List.map c_S_api_Deduced x158)),W 5 1 [iv x199],W 6 1 [iv x200],W 7 1 [.fsl 1 (List.map c_L3 a0)],W 8 1 [pt 3 4098],(9,prop_Run_lp41 a0 .busy none)],10⟩ ?_
       refine jIf ?_ ?_
       ·refine jT ⟨[],[W 0 1 [nilS],W 1 1 [iv 0],W 2 1 [pt 3 4098],(3,.rows 4098 [List.map aI8 x157 ++ [.osl 4 0 (List.length x158) 2]]),(4,.rows 2 (List.map c_S_api_Deduced x158)),W 5 1 [iv x198],W 6 1 [iv x219],W 7 1 [.fsl 1 (List.map c_L3 a0)],W 8 1 [pt 3 4098],(9,prop_Run_lp41 a0 .busy none)],10⟩ ?_
        refine jx_blkN ?_
        exact jx_mid rfl (wkR [(0,some 0),(1,some 1),(2,some 2),(3,some 3),(4,some 4),(5,some 5),(6,some 6),(7,some 7),(8,some 8),(9,some 9)] (fix_of hy47.2 (k:=10) rfl) (pc (hC 0) (pc (hC 1) (pc (hC 2) (pc (hA 3) (pc (hL 4 (noid_map ni_S_api_Deduced _)) (pc (hC 5) (pc (hC 6) (pc (hC 7) (pc (hC 8) (pc (.inr (.inr ⟨9,_,_,rfl,rfl,rfl,by kernel_rfl⟩)) allp_nil)))))))))))
       refine jc_skip ?_
       refine jx_blkN ?_
       exact jx_mid rfl (wkR [(0,some 0),(1,some 1),(2,some 2),(3,some 3),(4,some 4),(5,some 5),(6,some 6),(7,some 7),(8,some 8),(9,some 9)] (fix_of hy47.2 (k:=10) rfl) (pc (hC 0) (pc (hC 1) (pc (hC 2) (pc (hA 3) (pc (hL 4 (noid_map ni_S_api_Deduced _)) (pc (hC 5) (pc (hC 6) (pc (hC 7) (pc (hC 8) (pc (.inr (.inr ⟨9,_,_,rfl,rfl,rfl,by kernel_rfl⟩)) allp_nil)))))))))))
      rintro (_ | ⟨x226,x227⟩)
      ·refine jG 4 2 ⟨[V 0 (.yld 9),V 2 (pt 8 1),V 8 (.fsl 1 (List.map c_L3 a0)),V 9 (iv (List.length a0:Int)),V 10 (iv x198),V 32 (bv true)],[W 0 1 [.osl 4 0 (List.length x158) 2],W 1 1 [iv x198],W 2 1 [pt 3 4098],(3,.rows 4098 [List.map aI8 x157 ++ [.osl 4 0 (List.length x158) 2]]),(4,.rows 2 (List.map c_S_api_Deduced x158)),W 5 1 [iv x199],W 6 1 [iv x200],W 7 1 [.fsl 1 (List.map c_L3 a0)],W 8 1 [pt 3 4098],(9,prop_Run_lp41 a0 .done (some .ret))],10⟩ ?_
       refine jr_nil rfl ?_
       exact jx_mid rfl (wkR [(0,some 0),(1,some 1),(2,some 2),(3,some 3),(4,some 4),(5,some 5),(6,some 6),(7,some 7),(8,some 8),(9,some 9)] (fix_of hc41.2.2 (k:=10) rfl) (pc (hC 0) (pc (hC 1) (pc (hC 2) (pc (hA 3) (pc (hL 4 (noid_map ni_S_api_Deduced _)) (pc (hC 5) (pc (hC 6) (pc (hC 7) (pc (hC 8) (pc (.inr (.inr ⟨9,_,_,rfl,rfl,rfl,by kernel_rfl⟩)) allp_nil)))))))))))
      refine jG 4 2 ⟨[V 0 (.yld 9),V 2 (pt 8 1),V 8 (.fsl 1 (List.map c_L3 a0)),V 9 (iv (List.length a0:Int)),V 10 (iv x198),V 32 (bv false)],[W 0 1 [nilS],W 1 1 [iv 0],W 2 1 [pt 3 4098],(3,.rows 4098 [List.map aI8 x157 ++ [.osl 4 0 (List.length x158) 2]]),(4,.rows 2 (List.map c_S_api_Deduced x158)),W 5 1 [iv x226],W 6 1 [iv x227],W 7 1 [.fsl 1 (List.map c_L3 a0)],W 8 1 [pt 3 4098],(9,prop_Run_lp41 a0 .ready none)],10⟩ ?_
      refine jr_nil rfl ?_
      exact jx_mid rfl (wkR [(0,some 0),(1,some 1),(2,some 2),(3,some 3),(4,some 4),(5,some 5),(6,some 6),(7,some 7),(8,some 8),(9,some 9)] (fix_of hc41.2.2 (k:=10) rfl) (pc (hC 0) (pc (hC 1) (pc (hC 2) (pc (hA 3) (pc (hL 4 (noid_map ni_S_api_Deduced _)) (pc (hC 5) (pc (hC 6) (pc (hC 7) (pc (hC 8) (pc (.inr (.inr ⟨9,_,_,rfl,rfl,rfl,by kernel_rfl⟩)) allp_nil)))))))))))
     refine jG 0 6 ⟨[V 0 (.yld 9),V 2 (pt 8 1),V 8 (.fsl 1 (List.map c_L3 a0)),V 9 (iv (List.length a0:Int)),V 10 (iv x198),V 32 (bv false)],[W 0 1 [nilS],W 1 1 [iv 0],W 2 1 [pt 3 4098],(3,.rows 4098 [List.map aI8 x157 ++ [.osl 4 0 (List.length x158) 2]]),(4,.rows 2 (List.map c_S_api_Deduced x158)),W 5 1 [iv x199],W 6 1 [iv x200],W 7 1 [.fsl 1 (List.map c_L3 a0)],W 8 1 [pt 3 4098],(9,prop_Run_lp41 a0 .ready none)],10⟩ ?_
     refine jr_nil rfl ?_
     exact jx_mid rfl (wkR [(0,some 0),(1,some 1),(2,some 2),(3,some 3),(4,some 4),(5,some 5),(6,some 6),(7,some 7),(8,some 8),(9,some 9)] (fix_of hc41.2.2 (k:=10) rfl) (pc (hC 0) (pc (hC 1) (pc (hC 2) (pc (hA 3) (pc (hL 4 (noid_map ni_S_api_Deduced _)) (pc (hC 5) (pc (hC 6) (pc (hC 7) (pc (hC 8) (pc (.inr (.inr ⟨9,_,_,rfl,rfl,rfl,by kernel_rfl⟩)) allp_nil)))))))))))
    rintro (_ | ⟨x223,x224⟩)
    ·refine jN ?_
     refine jc_condK (c:=true) (by kernel_rfl) ?_
     refine jc_ret ?_
     refine jx_blkR ?_
     refine jx_seqR ?_
     exact jx_done rfl nofun (wkR [(0,some 0),(1,some 1),(2,some 2),(3,some 3),(4,some 4),(5,some 5),(6,some 6),(7,some 7),(8,some 8),(9,some 9)] (fix_of hc41.2.2 (k:=10) rfl) (pc (hC 0) (pc (hC 1) (pc (hC 2) (pc (hA 3) (pc (hL 4 (noid_map ni_S_api_Deduced _)) (pc (hC 5) (pc (hC 6) (pc (hC 7) (pc (hC 8) (pc (.inr (.inr ⟨9,_,_,rfl,rfl,rfl,by kernel_rfl⟩)) allp_nil)))))))))))
    refine jN ?_
    refine jc_condK (c:=false) (by kernel_rfl) ?_
    refine jc_skip ?_
    refine jx_blkN ?_
    refine jx_seqN ?_
    refine jT ⟨[V 0 (.yld 9),V 2 (pt 8 1),V 8 (.fsl 1 (List.map c_L3 a0)),V 9 (iv (List.length a0:Int)),V 10 (iv (w64 (x198 + 1)))],[W 0 1 [nilS],W 1 1 [iv 0],W 2 1 [pt 3 4098],(3,.rows 4098 [List.map aI8 x157 ++ [.osl 4 0 (List.length x158) 2]]),(4,.rows 2 (List.map c_S_api_Deduced x158)),W 5 1 [iv x223],W 6 1 [iv x224],W 7 1 [.fsl 1 (List.map c_L3 a0)],W 8 1 [pt 3 4098],(9,prop_Run_lp41 a0 .ready none)],10⟩ ?_
    exact jx_next (wkR [(0,some 0),(1,some 1),(2,some 2),(3,some 3),(4,some 4),(5,some 5),(6,some 6),(7,some 7),(8,some 8),(9,some 9)] (fix_of hc41.2.2 (k:=10) rfl) (pc (hC 0) (pc (hC 1) (pc (hC 2) (pc (hA 3) (pc (hL 4 (noid_map ni_S_api_Deduced _)) (pc (hC 5) (pc (hC 6) (pc (hC 7) (pc (hC 8) (pc (.inr (.inr ⟨9,_,_,rfl,rfl,rfl,by kernel_rfl⟩)) allp_nil)))))))))))
   refine jc_exit ?_
   refine jx_seqE ?_
   exact jx_done rfl nofun (wkR [(0,some 0),(1,some 1),(2,some 2),(3,some 3),(4,some 4),(5,some 5),(6,some 6),(7,some 7),(8,some 8),(9,some 9)] (fix_of hc41.2.2 (k:=10) rfl) (pc (hC 0) (pc (hC 1) (pc (hC 2) (pc (hA 3) (pc (hL 4 (noid_map ni_S_api_Deduced _)) (pc (hC 5) (pc (hC 6) (pc (hC 7) (pc (hC 8) (pc (.inr (.inr ⟨9,_,_,rfl,rfl,rfl,by kernel_rfl⟩)) allp_nil)))))))))))
  rintro (⟨x212,x213,x214⟩ | ⟨x215,x216⟩)
  ·refine jx_blkR ?_
   refine jx_rng hc41 (.inr rfl) rfl nofun rfl ?_
   refine jx_blkR ?_
   refine jx_seqR ?_
   refine jx_blkR ?_
   exact jx_done rfl nofun (wkR [(0,some 0),(1,some 4),(2,some 1)] (fix_of hF (k:=0) rfl) (pc (hC 0) (pc (hL 4 (noid_map ni_S_api_Deduced _)) (pc (hC 1) allp_nil))))
  refine jx_blkE ?_
  refine jx_rng hc41 (.inl rfl) rfl nofun rfl ?_
  refine jx_blkN ?_
  refine jx_seqN ?_
  refine jc_seq ?_
  refine jS ⟨[V 0 (.fsl 1 (List.map c_L3 a0)),V 4 (pt 0 1),V 5 (pt 1 1),V 6 (pt 2 1),V 9 (pt 5 1),V 10 (pt 6 1),V 56 (bv (decide (x215 < 0)))],[W 0 1 [nilS],W 1 1 [iv 0],W 2 1 [pt 3 4098],(3,.rows 4098 [List.map aI8 x157 ++ [.osl 4 0 (List.length x158) 2]]),(4,.rows 2 (List.map c_S_api_Deduced x158)),W 5 1 [iv x215],W 6 1 [iv x216]],10⟩ ?_
  refine jIf ?_ ?_
  ·refine jc_exit ?_
   refine jx_seqE ?_
   refine jx_blkX rfl ?_
   exact jx_done rfl nofun (wkR [(0,some 0),(1,some 1),(2,some 2),(3,some 3),(4,some 4)] (fix_of hF (k:=0) rfl) (pc (hC 0) (pc (hC 1) (pc (hC 2) (pc (hA 3) (pc (hL 4 (noid_map ni_S_api_Deduced _)) allp_nil))))))
  refine jc_skip ?_
  refine jx_seqN ?_
  refine jc_reg ?_
  refine jG 0 3 ⟨[V 0 (.fsl 1 (List.map c_L3 a0)),V 4 (pt 0 1),V 5 (pt 1 1),V 6 (pt 2 1),V 57 (pt 3 4098),V 58 (iv x216),V 59 (iv x215)],[W 0 1 [nilS],W 1 1 [iv 0],W 2 1 [pt 3 4098],(3,.rows 4098 [List.map aI8 x157 ++ [.osl 4 0 (List.length x158) 2]]),(4,.rows 2 (List.map c_S_api_Deduced x158))],10⟩ ?_
  refine jr_callM 3 [(0,some 3),(1,some 4)] [(3,some 0),(10,some 2)] (fun r:List Int × List S_api_Deduced=>[W 0 1 [nilS],W 1 1 [iv 0],W 2 1 [pt 3 4098],(3,.rows 4098 [List.map aI8 r.1 ++ [.osl 10 0 (List.length r.2) 2]]),(10,.rows 2 (List.map c_S_api_Deduced r.2))]) (fun r:List Int × List S_api_Deduced=>.tup []) 11 (prop_sheet_set_ok x157 x158 x216 x215) (pc (hA 3) (pc (hL 4 (noid_map ni_S_api_Deduced _)) allp_nil)) (fun r=>(pc (.inl ⟨rfl,rfl⟩) (pc (.inl ⟨rfl,rfl⟩) (pc (.inl ⟨rfl,rfl⟩) (pc (.inr (hA 0)) (pc (.inr (hL 2 (noid_map ni_S_api_Deduced _))) allp_nil)))))) ?_
  rintro⟨x229,x230⟩ hm49
  refine jr_nil rfl ?_
  refine jx_blkN ?_
  exact jx_next (wkR [(0,some 0),(1,some 1),(2,some 2),(3,some 3),(4,some 10)] (fix_of hF (k:=0) rfl) (pc (hC 0) (pc (hC 1) (pc (hC 2) (pc (hA 3) (pc (hL 10 (noid_map ni_S_api_Deduced _)) allp_nil))))))
 rintro (⟨x188,x189⟩ | ⟨x190,x191⟩)
 ·refine jx_blkR ?_
  refine jx_seqR ?_
  refine jx_scopeR ?_
  exact jx_retM (prop_Run_T a0 a1 (x188,x189)) (.inr rfl) (wkR [(0,some 0),(1,some 1),(2,some 2)] (fix_of hF (k:=0) rfl) (pc (hC 0) (pc (hL 1 (noid_map ni_S_api_Deduced _)) (pc (hC 2) allp_nil))))
 refine jx_blkE ?_
 refine jx_seqN ?_
 refine jR ?_
 refine jG 0 3 ⟨[V 4 (pt 0 1),V 5 (pt 1 1),V 63 (.ptr 3 0 4098 4097)],[W 0 1 [nilS],W 1 1 [iv 0],(3,.rows 4098 [List.map aI8 x190 ++ [.osl 4 0 (List.length x191) 2]]),(4,.rows 2 (List.map c_S_api_Deduced x191))],5⟩ ?_
 refine jr_guard ?_
 intro x231 h231
 refine jr_one (i:=3) (v:=.osl 4 0 (List.length x191) 2) (us:=[]) rfl rfl rfl rfl (aop_ldr (l:=x190) (c:=aI8) (rest:=[.osl 4 0 (List.length x191) 2]) (id:=3) (sz:=4098) (m:=4097) (q:=0) (by kernel_rfl) (by kernel_rfl) (by kernel_rfl) (by kernel_rfl) (lenA_iff h231) (by kernel_rfl)) rfl ?_
 refine jG 4 2 ⟨[V 4 (pt 0 1),V 5 (pt 1 1)],[W 0 1 [.osl 4 0 (List.length x191) 2],W 1 1 [iv (-1)],(4,.rows 2 (List.map c_S_api_Deduced x191))],5⟩ ?_
 refine jN ?_
 refine jc_ret ?_
 refine jx_scopeR ?_
 exact jx_retM (prop_Run_T a0 a1 (x191,(-1))) (.inr rfl) (wkR [(0,some 0),(1,some 4),(2,some 1)] (fix_of hF (k:=0) rfl) (pc (hC 0) (pc (hL 4 (noid_map ni_S_api_Deduced _)) (pc (hC 1) allp_nil)))))
abbrev law26_few_r1:List LO:=[lo 2 (.assign (.const (.slice none 0 0))) 22]
abbrev law26_few_r2:List LO:=[lm 3 0 22,lm 4 0 22,lo 5 (.call ⟨.builtin .len,#[.tmp 4],#[22]⟩) 3,lo 6 (.call ⟨.builtin .min,#[.tmp 5,.const (.int .i64 60)],#[3,3]⟩) 3,lo 7 (.slice 22 (.tmp 3) none (some (.tmp 6)) none) 22,lo 2 (.assign (.tmp 7)) 22]
abbrev law26_few_c:LC:=.seq (.reg false law26_few_r1) (.seq (.reg false law26_few_r2) .ret)
theorem law26_few_k:FnOk E 5 8 [.tmp 2] law26_few_c:=⟨⟨Go.Proofs.Try.f5,by kernel_rfl,by kernel_rfl,by kernel_rfl,by kernel_rfl,by kernel_rfl⟩,rfl,rfl⟩
noncomputable def law26_few (a0:(List (List Int))):Option ((List (List Int))):=Option.bind (subl a0 0 (if 60 < (List.length a0:Int) then 60 else (List.length a0:Int))) (fun x1=>some x1)
theorem law26_few_ok (a0:(List (List Int))):Ct E 5 [.fsl 1 (List.map c_L3 a0)] (law26_few a0) (fun r:(List (List Int))=>.fsl 1 (List.map c_L3 r)):=ct_intro (N:=8) (L:=law26_few_c) law26_few_k rfl (Nat.le_of_ble_eq_true rfl) (by kernel_rfl) (by
 unfold law26_few
 refine jS ⟨[V 0 (.fsl 1 (List.map c_L3 a0))],[],0⟩ ?_
 refine jR ?_
 refine jG 0 4 ⟨[V 3 (.fsl 1 (List.map c_L3 a0)),V 6 (iv (if 60 < (List.length (List.map c_L3 a0):Int) then 60 else (List.length (List.map c_L3 a0):Int)))],[],0⟩ ?_
 simp only[List.length_map]
 refine jr_part (i:=4) (mo:=subl a0 0 (if 60 < (List.length a0:Int) then 60 else (List.length a0:Int))) rfl rfl rfl rfl (fun _ hc=>aop_subf (c:=c_L3) (sz:=1) (e:=23) (by kernel_rfl) (by kernel_rfl) (by kernel_rfl) (by kernel_rfl) (by kernel_rfl) hc) (fun _=>rfl) ?_
 intro x1 h1
 refine jG 5 1 ⟨[V 2 (.fsl 1 (List.map c_L3 x1))],[],0⟩ ?_
 refine jN ?_
 refine jc_ret ?_
 exact jx_retF (.inr rfl) (v:=.fsl 1 (List.map c_L3 x1)) (by kernel_rfl) rfl (fle_refl _))
abbrev prop_Lits_r1:List LO:=[lo 2 (.assign (.const (.slice none 0 0))) 23]
abbrev prop_Lits_r2:List LO:=[lo 3 (.assign (.const (.slice none 0 0))) 23]
abbrev prop_Lits_r3:List LO:=[lm 6 0 24,lo 7 (.call ⟨.builtin .len,#[.tmp 6],#[24]⟩) 3,lo 8 (.move (.const (.int .i64 0))) 3]
abbrev prop_Lits_r4:List LO:=[lo 9 (.binOp .lss 3 (.tmp 8) (.tmp 7) 3) 0]
abbrev prop_Lits_r5:List LO:=[lo 10 (.indexAddr 24 (.tmp 6) (.tmp 8)) 0,lo 11 (.load 41 (.tmp 10)) 41,lo 5 (.alloc 41) 0,ln (.store 41 (.tmp 5) (.tmp 11)) 0]
abbrev prop_Lits_r6:List LO:=[lm 12 3 23,lo 13 (.fieldAddr 41 (.tmp 5) 0) 0,lo 14 (.load 3 (.tmp 13)) 3,lo 15 (.buildSlice 23 1 #[(0,.tmp 14)]) 23,lo 16 (.call ⟨.builtin .append,#[.tmp 12,.tmp 15],#[23,23]⟩) 23,lo 3 (.assign (.tmp 16)) 23]
abbrev prop_Lits_r7:List LO:=[lo 17 (.binOp .add 3 (.tmp 8) (.const (.int .i64 1)) 3) 3,lm 8 17 3]
abbrev prop_Lits_r8:List LO:=[lm 18 3 23,lo 2 (.assign (.tmp 18)) 23]
abbrev prop_Lits_c:LC:=.seq (.reg false prop_Lits_r1) (.seq (.reg false prop_Lits_r2) (.seq (.seq (.reg false prop_Lits_r3) (.block 0 (.loop (.seq (.reg false prop_Lits_r4) (.seq (.cond (.tmp 9) .skip (.exit 0)) (.seq (.block 1 (.seq (.reg false prop_Lits_r5) (.reg false prop_Lits_r6))) (.reg false prop_Lits_r7))))))) (.seq (.reg false prop_Lits_r8) .ret)))
theorem prop_Lits_k:FnOk E 15 19 [.tmp 2] prop_Lits_c:=⟨⟨Go.Proofs.Try.f15,by kernel_rfl,by kernel_rfl,by kernel_rfl,by kernel_rfl,by kernel_rfl⟩,rfl,rfl⟩
noncomputable def prop_Lits_l1 (a0:List S_api_Deduced):(List Int × Int)→Option (Step (List Int × Int) (List Int)):=fun (x13,x14)=>(if (decide (x14 < (List.length a0:Int)))=true then Option.bind (ixl a0 x14) (fun x20=>Option.bind (app 8 x13 [x20.Lit]) (fun x21=>some (Step.next (x21,(w64 (x14 + 1)))))) else some (Step.done x13))
abbrev prop_Lits_T (a0:List S_api_Deduced) (r:List Int):CS:=⟨[V 2 (.osl 1 0 (List.length r) 1)],[(0,.rows 2 (List.map c_S_api_Deduced a0)),(1,.rows 1 (List.map cI r))],2⟩
noncomputable def prop_Lits (a0:List S_api_Deduced):Option (List Int):=Option.bind (loopC (prop_Lits_l1 a0) ([],0)) (fun x19=>some x19)
theorem prop_Lits_ok (a0:List S_api_Deduced):CtM E 15 [.osl 0 0 (List.length a0) 2] [(0,.rows 2 (List.map c_S_api_Deduced a0))] 1 (prop_Lits a0) (fun r:List Int=>.osl 1 0 (List.length r) 1) (fun r:List Int=>[(0,.rows 2 (List.map c_S_api_Deduced a0)),(1,.rows 1 (List.map cI r))]) 2:=ctm_intro (N:=19) (L:=prop_Lits_c) prop_Lits_k rfl (Nat.le_of_ble_eq_true rfl) (fun F hF=>by
 unfold prop_Lits
 refine jS ⟨[V 0 (.osl 0 0 (List.length a0) 2)],[(0,.rows 2 (List.map c_S_api_Deduced a0))],1⟩ ?_
 refine jS ⟨[V 0 (.osl 0 0 (List.length a0) 2),V 3 (nilS)],[(0,.rows 2 (List.map c_S_api_Deduced a0))],1⟩ ?_
 refine jc_seq ?_
 refine jS ⟨[V 3 (nilS),V 6 (.osl 0 0 (List.length a0) 2),V 7 (iv (List.length a0:Int)),V 8 (iv 0)],[(0,.rows 2 (List.map c_S_api_Deduced a0))],1⟩ ?_
 refine jc_block ?_
 refine jc_bind (fun x19=>⟨[V 3 (.osl 1 0 (List.length x19) 1)],[(0,.rows 2 (List.map c_S_api_Deduced a0)),(1,.rows 1 (List.map cI x19))],2⟩) (fun x19=>(.exit 0)) (jc_loop (fun (x13,x14)=>⟨[V 3 (.osl 1 0 (List.length x13) 1),V 6 (.osl 0 0 (List.length a0) 2),V 7 (iv (List.length a0:Int)),V 8 (iv x14)],[(0,.rows 2 (List.map c_S_api_Deduced a0)),(1,.rows 1 (List.map cI x13))],2⟩) (wkR [(0,some 0),(1,none)] (fix_of hF (k:=1) rfl) (pc (hL 0 (noid_map ni_S_api_Deduced _)) (pc hZ allp_nil))) ?_) ?_
 ·rintro⟨x13,x14⟩
  unfold prop_Lits_l1
  refine jS ⟨[V 3 (.osl 1 0 (List.length x13) 1),V 6 (.osl 0 0 (List.length a0) 2),V 7 (iv (List.length a0:Int)),V 8 (iv x14),V 9 (bv (decide (x14 < (List.length a0:Int))))],[(0,.rows 2 (List.map c_S_api_Deduced a0)),(1,.rows 1 (List.map cI x13))],2⟩ ?_
  refine jc_seq ?_
  refine jIf ?_ ?_
  ·refine jc_skip ?_
   refine jx_seqN ?_
   refine jc_seq ?_
   refine jc_block ?_
   refine jR ?_
   refine jr_part (i:=0) (mo:=ixl a0 x14) rfl rfl rfl rfl (fun _ hc=>aop_ixo0 (sz:=2) (e:=41) (kk:=.i64) (id:=0) (by kernel_rfl) (by kernel_rfl) (by kernel_rfl) (by kernel_rfl) hc) (fun _=>rfl) ?_
   intro x20 h20
   refine jr_one (i:=1) (v:=.agg [iv x20.Lit,iv x20.Reason]) rfl rfl rfl rfl (aop_ldo (l:=a0) (c:=c_S_api_Deduced) (id:=0) (k:=(Int.toNat x14)) (sz:=2) (off:=0) (a:=x20) (by kernel_rfl) (by kernel_rfl) (ixl_lt h20).2.2 (by kernel_rfl)) rfl ?_
   refine jG 2 2 ⟨[V 3 (.osl 1 0 (List.length x13) 1),V 5 (pt 2 2),V 6 (.osl 0 0 (List.length a0) 2),V 7 (iv (List.length a0:Int)),V 8 (iv x14)],[(0,.rows 2 (List.map c_S_api_Deduced a0)),(1,.rows 1 (List.map cI x13)),W 2 2 [iv x20.Lit,iv x20.Reason]],3⟩ ?_
   refine jN ?_
   refine jc_reg ?_
   refine jG 0 4 ⟨[V 6 (.osl 0 0 (List.length a0) 2),V 7 (iv (List.length a0:Int)),V 8 (iv x14),V 12 (.osl 1 0 (List.length x13) 1),V 15 (.osl 3 0 (List.length [x20.Lit]) 1)],[(0,.rows 2 (List.map c_S_api_Deduced a0)),(1,.rows 1 (List.map cI x13)),(3,.rows 1 (List.map cI [x20.Lit]))],4⟩ ?_
   refine jr_part (i:=4) (mo:=app 8 x13 [x20.Lit]) rfl rfl rfl rfl (fun _ hc=>aop_app (u:=.osl 1 0 (List.length x13) 1) (w:=.osl 3 0 (List.length [x20.Lit]) 1) (e:=3) (td:=.slice 3) (by kernel_rfl) (by kernel_rfl) (by kernel_rfl) (by kernel_rfl) (.inl ⟨_,rfl⟩) (appendOf_own (c:=cI) (sz:=1) (b:=8) (id:=1) (by kernel_rfl) (by kernel_rfl) (rows_own (by kernel_rfl)) (List.cons_ne_nil _ _) hc)) (fun _=>rfl) ?_
   intro x21 h21
   refine jG 5 1 ⟨[V 3 (.osl 4 0 (List.length x21) 1),V 6 (.osl 0 0 (List.length a0) 2),V 7 (iv (List.length a0:Int)),V 8 (iv x14)],[(0,.rows 2 (List.map c_S_api_Deduced a0)),(4,.rows 1 (List.map cI x21))],5⟩ ?_
   refine jr_nil rfl ?_
   refine jx_blkN ?_
   refine jx_seqN ?_
   refine jT ⟨[V 3 (.osl 4 0 (List.length x21) 1),V 6 (.osl 0 0 (List.length a0) 2),V 7 (iv (List.length a0:Int)),V 8 (iv (w64 (x14 + 1)))],[(0,.rows 2 (List.map c_S_api_Deduced a0)),(4,.rows 1 (List.map cI x21))],5⟩ ?_
   exact jx_next (wkR [(0,some 0),(1,some 4)] (fix_of hF (k:=1) rfl) (pc (hL 0 (noid_map ni_S_api_Deduced _)) (pc (hL 4 (noid_map ni_I _)) allp_nil)))
  refine jc_exit ?_
  refine jx_seqE ?_
  exact jx_done rfl nofun (wkR [(0,some 0),(1,some 1)] (fix_of hF (k:=1) rfl) (pc (hL 0 (noid_map ni_S_api_Deduced _)) (pc (hL 1 (noid_map ni_I _)) allp_nil)))
 intro x19
 refine jx_blkE ?_
 refine jx_seqN ?_
 refine jS ⟨[V 2 (.osl 1 0 (List.length x19) 1)],[(0,.rows 2 (List.map c_S_api_Deduced a0)),(1,.rows 1 (List.map cI x19))],2⟩ ?_
 refine jc_ret ?_
 exact jx_retM (prop_Lits_T a0 x19) (.inr rfl) (wkR [(0,some 0),(1,some 1)] (fix_of hF (k:=1) rfl) (pc (hL 0 (noid_map ni_S_api_Deduced _)) (pc (hL 1 (noid_map ni_I _)) allp_nil))))
abbrev prop_Value_r1:List LO:=[lo 4 (.assign (.const (.int .i64 0))) 3]
abbrev prop_Value_r2:List LO:=[lm 7 0 24,lo 8 (.call ⟨.builtin .len,#[.tmp 7],#[24]⟩) 3,lo 9 (.move (.const (.int .i64 0))) 3]
abbrev prop_Value_r3:List LO:=[lo 10 (.binOp .lss 3 (.tmp 9) (.tmp 8) 3) 0]
abbrev prop_Value_r4:List LO:=[lo 11 (.indexAddr 24 (.tmp 7) (.tmp 9)) 0,lo 12 (.load 41 (.tmp 11)) 41,lo 6 (.alloc 41) 0,ln (.store 41 (.tmp 6) (.tmp 12)) 0]
abbrev prop_Value_r5:List LO:=[lo 13 (.fieldAddr 41 (.tmp 6) 0) 0,lo 14 (.load 3 (.tmp 13)) 3]
abbrev prop_Value_r6:List LO:=[lm 16 1 3,lo 17 (.binOp .eql 3 (.tmp 14) (.tmp 16) 3) 4,lo 15 (.assign (.tmp 17)) 4]
abbrev prop_Value_r7:List LO:=[lo 4 (.assign (.const (.int .i64 1))) 3]
abbrev prop_Value_r8:List LO:=[lm 19 1 3,lo 20 (.unOp .neg 3 (.tmp 19)) 3,lo 21 (.binOp .eql 3 (.tmp 14) (.tmp 20) 3) 4,lo 18 (.assign (.tmp 21)) 4]
abbrev prop_Value_r9:List LO:=[lo 4 (.assign (.const (.int .i64 (-1)))) 3]
abbrev prop_Value_r10:List LO:=[lo 22 (.binOp .add 3 (.tmp 9) (.const (.int .i64 1)) 3) 3,lm 9 22 3]
abbrev prop_Value_r11:List LO:=[lo 4 (.assign (.const (.int .i64 0))) 3]
abbrev prop_Value_c:LC:=.seq (.reg false prop_Value_r1) (.seq (.seq (.reg false prop_Value_r2) (.block 0 (.loop (.seq (.reg false prop_Value_r3) (.seq (.cond (.tmp 10) .skip (.exit 0)) (.seq (.block 1 (.seq (.reg false prop_Value_r4) (.seq (.reg false prop_Value_r5) (.block 2 (.seq (.reg false prop_Value_r6) (.cond (.tmp 15) (.seq (.reg false prop_Value_r7) .ret) (.seq (.reg false prop_Value_r8) (.cond (.tmp 18) (.seq (.reg false prop_Value_r9) .ret) .skip)))))))) (.reg false prop_Value_r10))))))) (.seq (.reg false prop_Value_r11) .ret))
theorem prop_Value_k:FnOk E 26 23 [.tmp 4] prop_Value_c:=⟨⟨Go.Proofs.Try.f26,by kernel_rfl,by kernel_rfl,by kernel_rfl,by kernel_rfl,by kernel_rfl⟩,rfl,rfl⟩
noncomputable def prop_Value_l1 (a0:(List S_api_Deduced)) (a1:Int):Int→Option (Step (Int) ((Int) ⊕ (Unit))):=fun x2=>(if (decide (x2 < (List.length a0:Int)))=true then Option.bind (ixl a0 x2) (fun x6=>(if (x6.Lit == a1)=true then some (Step.done (Sum.inl 1)) else (if (x6.Lit == (w64 (0 - a1)))=true then some (Step.done (Sum.inl (-1))) else some (Step.next (w64 (x2 + 1)))))) else some (Step.done (Sum.inr ())))
noncomputable def prop_Value (a0:(List S_api_Deduced)) (a1:Int):Option (Int):=Option.bind (loopC (prop_Value_l1 a0 a1) 0) (fun y=>match y with | Sum.inl x5=>some x5 | Sum.inr _=>some 0)
theorem prop_Value_ok (a0:(List S_api_Deduced)) (a1:Int):Ct E 26 [.fsl 2 (List.map c_S_api_Deduced a0),iv a1] (prop_Value a0 a1) (fun r:Int=>iv r):=ct_intro (N:=23) (L:=prop_Value_c) prop_Value_k rfl (Nat.le_of_ble_eq_true rfl) (by kernel_rfl) (by
 unfold prop_Value
 refine jS ⟨[V 0 (.fsl 2 (List.map c_S_api_Deduced a0)),V 1 (iv a1)],[],0⟩ ?_
 refine jc_seq ?_
 refine jR ?_
 refine jG 0 3 ⟨[V 1 (iv a1),V 7 (.fsl 2 (List.map c_S_api_Deduced a0)),V 8 (iv (List.length (List.map c_S_api_Deduced a0):Int)),V 9 (iv 0)],[],0⟩ ?_
 simp only[List.length_map]
 refine jN ?_
 refine jc_block ?_
 refine jc_bind (fun y=>match y with | Sum.inl x5=>⟨[V 4 (iv x5)],[],0⟩ | Sum.inr _=>⟨[],[],0⟩) (fun y=>match y with | Sum.inl x5=>.ret | Sum.inr _=>(.exit 0)) (jc_loop (fun x2=>⟨[V 1 (iv a1),V 7 (.fsl 2 (List.map c_S_api_Deduced a0)),V 8 (iv (List.length a0:Int)),V 9 (iv x2)],[],0⟩) (wkR [] (fix_nil _) allp_nil) ?_) ?_
 ·intro x2
  unfold prop_Value_l1
  refine jS ⟨[V 1 (iv a1),V 7 (.fsl 2 (List.map c_S_api_Deduced a0)),V 8 (iv (List.length a0:Int)),V 9 (iv x2),V 10 (bv (decide (x2 < (List.length a0:Int))))],[],0⟩ ?_
  refine jc_seq ?_
  refine jIf ?_ ?_
  ·refine jc_skip ?_
   refine jx_seqN ?_
   refine jc_seq ?_
   refine jc_block ?_
   refine jR ?_
   refine jr_part (i:=0) (mo:=ixl a0 x2) rfl rfl rfl rfl (fun _ hc=>aop_ixf (c:=c_S_api_Deduced) (sz:=2) (e:=41) (kk:=.i64) (by kernel_rfl) (by kernel_rfl) (by kernel_rfl) (by kernel_rfl) hc) (fun _=>rfl) ?_
   intro x6 h6
   refine jG 1 3 ⟨[V 1 (iv a1),V 6 (pt 0 2),V 7 (.fsl 2 (List.map c_S_api_Deduced a0)),V 8 (iv (List.length a0:Int)),V 9 (iv x2)],[W 0 2 [iv x6.Lit,iv x6.Reason]],1⟩ ?_
   refine jN ?_
   refine jS ⟨[V 1 (iv a1),V 7 (.fsl 2 (List.map c_S_api_Deduced a0)),V 8 (iv (List.length a0:Int)),V 9 (iv x2),V 14 (iv x6.Lit)],[],1⟩ ?_
   refine jc_block ?_
   refine jS ⟨[V 1 (iv a1),V 7 (.fsl 2 (List.map c_S_api_Deduced a0)),V 8 (iv (List.length a0:Int)),V 9 (iv x2),V 14 (iv x6.Lit),V 15 (bv (x6.Lit == a1))],[],1⟩ ?_
   refine jIf ?_ ?_
   ·refine jS ⟨[V 4 (iv 1)],[],1⟩ ?_
    refine jc_ret ?_
    refine jx_blkR ?_
    refine jx_blkR ?_
    refine jx_seqR ?_
    exact jx_done rfl nofun (wkR [] (fix_nil _) allp_nil)
   refine jS ⟨[V 1 (iv a1),V 7 (.fsl 2 (List.map c_S_api_Deduced a0)),V 8 (iv (List.length a0:Int)),V 9 (iv x2),V 18 (bv (x6.Lit == (w64 (0 - a1))))],[],1⟩ ?_
   refine jIf ?_ ?_
   ·refine jS ⟨[V 4 (iv (-1))],[],1⟩ ?_
    refine jc_ret ?_
    refine jx_blkR ?_
    refine jx_blkR ?_
    refine jx_seqR ?_
    exact jx_done rfl nofun (wkR [] (fix_nil _) allp_nil)
   refine jc_skip ?_
   refine jx_blkN ?_
   refine jx_blkN ?_
   refine jx_seqN ?_
   refine jT ⟨[V 1 (iv a1),V 7 (.fsl 2 (List.map c_S_api_Deduced a0)),V 8 (iv (List.length a0:Int)),V 9 (iv (w64 (x2 + 1)))],[],1⟩ ?_
   exact jx_next (wkR [] (fix_nil _) allp_nil)
  refine jc_exit ?_
  refine jx_seqE ?_
  exact jx_done rfl nofun (wkR [] (fix_nil _) allp_nil)
 rintro (x5 | _)
 ·refine jx_blkR ?_
  refine jx_seqR ?_
  exact jx_retF (.inr rfl) (v:=iv x5) (by kernel_rfl) rfl (fle_refl _)
 refine jx_blkE ?_
 refine jx_seqN ?_
 refine jS ⟨[V 4 (iv 0)],[],0⟩ ?_
 refine jc_ret ?_
 exact jx_retF (.inr rfl) (v:=iv 0) (by kernel_rfl) rfl (fle_refl _))
abbrev ref26_Ints_r1:List LO:=[lo 4 (.assign (.const (.bool false))) 4]
abbrev ref26_Ints_r2:List LO:=[lm 6 0 23,lo 7 (.call ⟨.builtin .len,#[.tmp 6],#[23]⟩) 3,lm 8 1 23,lo 9 (.call ⟨.builtin .len,#[.tmp 8],#[23]⟩) 3,lo 10 (.binOp .neq 3 (.tmp 7) (.tmp 9) 3) 4]
abbrev ref26_Ints_r3:List LO:=[lo 4 (.assign (.const (.bool false))) 4]
abbrev ref26_Ints_r4:List LO:=[lo 5 (.assign (.const (.int .i64 0))) 3]
abbrev ref26_Ints_r5:List LO:=[lm 11 5 3,lm 12 0 23,lo 13 (.call ⟨.builtin .len,#[.tmp 12],#[23]⟩) 3,lo 14 (.binOp .lss 3 (.tmp 11) (.tmp 13) 3) 4]
abbrev ref26_Ints_r6:List LO:=[lm 17 0 23,lm 18 5 3,lo 19 (.indexAddr 23 (.tmp 17) (.tmp 18)) 0,lo 20 (.load 3 (.tmp 19)) 3,lm 21 1 23,lm 22 5 3,lo 23 (.indexAddr 23 (.tmp 21) (.tmp 22)) 0,lo 24 (.load 3 (.tmp 23)) 3,lo 25 (.binOp .neq 3 (.tmp 20) (.tmp 24) 3) 4]
abbrev ref26_Ints_r7:List LO:=[lo 4 (.assign (.const (.bool false))) 4]
abbrev ref26_Ints_r8:List LO:=[lm 15 5 3,lo 16 (.binOp .add 3 (.tmp 15) (.const (.int .i64 1)) 3) 3,lo 5 (.assign (.tmp 16)) 3]
abbrev ref26_Ints_r9:List LO:=[lo 4 (.assign (.const (.bool true))) 4]
abbrev ref26_Ints_c:LC:=.seq (.reg false ref26_Ints_r1) (.seq (.seq (.reg false ref26_Ints_r2) (.cond (.tmp 10) (.seq (.reg false ref26_Ints_r3) .ret) .skip)) (.seq (.seq (.reg false ref26_Ints_r4) (.block 0 (.loop (.seq (.seq (.reg false ref26_Ints_r5) (.cond (.tmp 14) .skip (.exit 0))) (.seq (.block 1 (.seq (.reg true ref26_Ints_r6) (.cond (.tmp 25) (.seq (.reg false ref26_Ints_r7) .ret) .skip))) (.reg false ref26_Ints_r8)))))) (.seq (.reg false ref26_Ints_r9) .ret)))
theorem ref26_Ints_k:FnOk E 12 26 [.tmp 4] ref26_Ints_c:=⟨⟨Go.Proofs.Try.f12,by kernel_rfl,by kernel_rfl,by kernel_rfl,by kernel_rfl,by kernel_rfl⟩,rfl,rfl⟩
noncomputable def ref26_Ints_l1 (a0:(List Int)) (a1:(List Int)):Int→Option (Step (Int) ((Unit) ⊕ (Unit))):=fun x3=>(if (decide (x3 < (List.length a0:Int)))=true then Option.bind (ixl a0 x3) (fun x7=>Option.bind (ixl a1 x3) (fun x8=>(if (x7 != x8)=true then some (Step.done (Sum.inl ())) else some (Step.next (w64 (x3 + 1)))))) else some (Step.done (Sum.inr ())))
noncomputable def ref26_Ints (a0:(List Int)) (a1:(List Int)):Option (Bool):=(if ((List.length a0:Int) != (List.length a1:Int))=true then some false else Option.bind (loopC (ref26_Ints_l1 a0 a1) 0) (fun y=>match y with | Sum.inl _=>some false | Sum.inr _=>some true))
theorem ref26_Ints_ok (a0:(List Int)) (a1:(List Int)):Ct E 12 [.fsl 1 (List.map cI a0),.fsl 1 (List.map cI a1)] (ref26_Ints a0 a1) (fun r:Bool=>bv r):=ct_intro (N:=26) (L:=ref26_Ints_c) ref26_Ints_k rfl (Nat.le_of_ble_eq_true rfl) (by kernel_rfl) (by
 unfold ref26_Ints
 refine jS ⟨[V 0 (.fsl 1 (List.map cI a0)),V 1 (.fsl 1 (List.map cI a1))],[],0⟩ ?_
 refine jc_seq ?_
 refine jR ?_
 refine jG 0 5 ⟨[V 0 (.fsl 1 (List.map cI a0)),V 1 (.fsl 1 (List.map cI a1)),V 10 (bv ((List.length (List.map cI a0):Int) != (List.length (List.map cI a1):Int)))],[],0⟩ ?_
 simp only[List.length_map]
 refine jN ?_
 refine jIf ?_ ?_
 ·refine jS ⟨[V 4 (bv false)],[],0⟩ ?_
  refine jc_ret ?_
  refine jx_seqR ?_
  exact jx_retF (.inr rfl) (v:=bv false) (by kernel_rfl) rfl (fle_refl _)
 refine jc_skip ?_
 refine jx_seqN ?_
 refine jc_seq ?_
 refine jS ⟨[V 0 (.fsl 1 (List.map cI a0)),V 1 (.fsl 1 (List.map cI a1)),V 5 (iv 0)],[],0⟩ ?_
 refine jc_block ?_
 refine jc_bind (fun y=>match y with | Sum.inl _=>⟨[V 4 (bv false)],[],0⟩ | Sum.inr _=>⟨[],[],0⟩) (fun y=>match y with | Sum.inl _=>.ret | Sum.inr _=>(.exit 0)) (jc_loop (fun x3=>⟨[V 0 (.fsl 1 (List.map cI a0)),V 1 (.fsl 1 (List.map cI a1)),V 5 (iv x3)],[],0⟩) (wkR [] (fix_nil _) allp_nil) ?_) ?_
 ·intro x3
  unfold ref26_Ints_l1
  refine jc_seq ?_
  refine jR ?_
  refine jG 0 4 ⟨[V 0 (.fsl 1 (List.map cI a0)),V 1 (.fsl 1 (List.map cI a1)),V 5 (iv x3),V 14 (bv (decide (x3 < (List.length (List.map cI a0):Int))))],[],0⟩ ?_
  simp only[List.length_map]
  refine jN ?_
  refine jIf ?_ ?_
  ·refine jc_skip ?_
   refine jx_seqN ?_
   refine jc_seq ?_
   refine jc_block ?_
   refine jR ?_
   refine jG 0 2 ⟨[V 0 (.fsl 1 (List.map cI a0)),V 1 (.fsl 1 (List.map cI a1)),V 5 (iv x3),V 17 (.fsl 1 (List.map cI a0)),V 18 (iv x3)],[],0⟩ ?_
   refine jr_part (i:=2) (mo:=ixl a0 x3) rfl rfl rfl rfl (fun _ hc=>aop_ixf (c:=cI) (sz:=1) (e:=3) (kk:=.i64) (by kernel_rfl) (by kernel_rfl) (by kernel_rfl) (by kernel_rfl) hc) (fun _=>rfl) ?_
   intro x7 h7
   refine jG 3 3 ⟨[V 0 (.fsl 1 (List.map cI a0)),V 1 (.fsl 1 (List.map cI a1)),V 5 (iv x3),V 20 (iv x7),V 21 (.fsl 1 (List.map cI a1)),V 22 (iv x3)],[],0⟩ ?_
   refine jr_part (i:=6) (mo:=ixl a1 x3) rfl rfl rfl rfl (fun _ hc=>aop_ixf (c:=cI) (sz:=1) (e:=3) (kk:=.i64) (by kernel_rfl) (by kernel_rfl) (by kernel_rfl) (by kernel_rfl) hc) (fun _=>rfl) ?_
   intro x8 h8
   refine jG 7 2 ⟨[V 0 (.fsl 1 (List.map cI a0)),V 1 (.fsl 1 (List.map cI a1)),V 5 (iv x3),V 25 (bv (x7 != x8))],[],0⟩ ?_
   refine jN ?_
   refine jIf ?_ ?_
   ·refine jS ⟨[V 4 (bv false)],[],0⟩ ?_
    refine jc_ret ?_
    refine jx_blkR ?_
    refine jx_seqR ?_
    exact jx_done rfl nofun (wkR [] (fix_nil _) allp_nil)
   refine jc_skip ?_
   refine jx_blkN ?_
   refine jx_seqN ?_
   refine jT ⟨[V 0 (.fsl 1 (List.map cI a0)),V 1 (.fsl 1 (List.map cI a1)),V 5 (iv (w64 (x3 + 1)))],[],0⟩ ?_
   exact jx_next (wkR [] (fix_nil _) allp_nil)
  refine jc_exit ?_
  refine jx_seqE ?_
  exact jx_done rfl nofun (wkR [] (fix_nil _) allp_nil)
 rintro (_ | _)
 ·refine jx_blkR ?_
  refine jx_seqR ?_
  exact jx_retF (.inr rfl) (v:=bv false) (by kernel_rfl) rfl (fle_refl _)
 refine jx_blkE ?_
 refine jx_seqN ?_
 refine jS ⟨[V 4 (bv true)],[],0⟩ ?_
 refine jc_ret ?_
 exact jx_retF (.inr rfl) (v:=bv true) (by kernel_rfl) rfl (fle_refl _))
abbrev slices_Index_int_int_r1:List LO:=[lo 4 (.assign (.const (.int .i64 0))) 3]
abbrev slices_Index_int_int_r2:List LO:=[lm 6 0 23,lo 7 (.call ⟨.builtin .len,#[.tmp 6],#[23]⟩) 3,lo 8 (.move (.const (.int .i64 0))) 3]
abbrev slices_Index_int_int_r3:List LO:=[lo 9 (.binOp .lss 3 (.tmp 8) (.tmp 7) 3) 0]
abbrev slices_Index_int_int_r4:List LO:=[lm 10 8 3,lo 5 (.assign (.tmp 10)) 3]
abbrev slices_Index_int_int_r5:List LO:=[lm 11 1 3,lm 12 0 23,lm 13 5 3,lo 14 (.indexAddr 23 (.tmp 12) (.tmp 13)) 0,lo 15 (.load 3 (.tmp 14)) 3,lo 16 (.binOp .eql 3 (.tmp 11) (.tmp 15) 3) 4]
abbrev slices_Index_int_int_r6:List LO:=[lm 17 5 3,lo 4 (.assign (.tmp 17)) 3]
abbrev slices_Index_int_int_r7:List LO:=[lo 18 (.binOp .add 3 (.tmp 8) (.const (.int .i64 1)) 3) 3,lm 8 18 3]
abbrev slices_Index_int_int_r8:List LO:=[lo 4 (.assign (.const (.int .i64 (-1)))) 3]
abbrev slices_Index_int_int_c:LC:=.seq (.reg false slices_Index_int_int_r1) (.seq (.seq (.reg false slices_Index_int_int_r2) (.block 0 (.loop (.seq (.reg false slices_Index_int_int_r3) (.seq (.cond (.tmp 9) .skip (.exit 0)) (.seq (.block 1 (.seq (.reg false slices_Index_int_int_r4) (.seq (.reg false slices_Index_int_int_r5) (.cond (.tmp 16) (.seq (.reg false slices_Index_int_int_r6) .ret) .skip)))) (.reg false slices_Index_int_int_r7))))))) (.seq (.reg false slices_Index_int_int_r8) .ret))
theorem slices_Index_int_int_k:FnOk E 51 19 [.tmp 4] slices_Index_int_int_c:=⟨⟨Go.Proofs.Try.f51,by kernel_rfl,by kernel_rfl,by kernel_rfl,by kernel_rfl,by kernel_rfl⟩,rfl,rfl⟩
noncomputable def slices_Index_int_int_l1 (a0:(List Int)) (a1:Int):Int→Option (Step (Int) ((Int) ⊕ (Unit))):=fun x2=>(if (decide (x2 < (List.length a0:Int)))=true then Option.bind (ixl a0 x2) (fun x6=>(if (a1 == x6)=true then some (Step.done (Sum.inl x2)) else some (Step.next (w64 (x2 + 1))))) else some (Step.done (Sum.inr ())))
noncomputable def slices_Index_int_int (a0:(List Int)) (a1:Int):Option (Int):=Option.bind (loopC (slices_Index_int_int_l1 a0 a1) 0) (fun y=>match y with | Sum.inl x5=>some x5 | Sum.inr _=>some (-1))
theorem slices_Index_int_int_ok (a0:(List Int)) (a1:Int):Ct E 51 [.fsl 1 (List.map cI a0),iv a1] (slices_Index_int_int a0 a1) (fun r:Int=>iv r):=ct_intro (N:=19) (L:=slices_Index_int_int_c) slices_Index_int_int_k rfl (Nat.le_of_ble_eq_true rfl) (by kernel_rfl) (by
 unfold slices_Index_int_int
 refine jS ⟨[V 0 (.fsl 1 (List.map cI a0)),V 1 (iv a1)],[],0⟩ ?_
 refine jc_seq ?_
 refine jR ?_
 refine jG 0 3 ⟨[V 0 (.fsl 1 (List.map cI a0)),V 1 (iv a1),V 7 (iv (List.length (List.map cI a0):Int)),V 8 (iv 0)],[],0⟩ ?_
 simp only[List.length_map]
 refine jN ?_
 refine jc_block ?_
 refine jc_bind (fun y=>match y with | Sum.inl x5=>⟨[V 4 (iv x5)],[],0⟩ | Sum.inr _=>⟨[],[],0⟩) (fun y=>match y with | Sum.inl x5=>.ret | Sum.inr _=>(.exit 0)) (jc_loop (fun x2=>⟨[V 0 (.fsl 1 (List.map cI a0)),V 1 (iv a1),V 7 (iv (List.length a0:Int)),V 8 (iv x2)],[],0⟩) (wkR [] (fix_nil _) allp_nil) ?_) ?_
 ·intro x2
  unfold slices_Index_int_int_l1
  refine jS ⟨[V 0 (.fsl 1 (List.map cI a0)),V 1 (iv a1),V 7 (iv (List.length a0:Int)),V 8 (iv x2),V 9 (bv (decide (x2 < (List.length a0:Int))))],[],0⟩ ?_
  refine jc_seq ?_
  refine jIf ?_ ?_
  ·refine jc_skip ?_
   refine jx_seqN ?_
   refine jc_seq ?_
   refine jc_block ?_
   refine jS ⟨[V 0 (.fsl 1 (List.map cI a0)),V 1 (iv a1),V 5 (iv x2),V 7 (iv (List.length a0:Int)),V 8 (iv x2)],[],0⟩ ?_
   refine jR ?_
   refine jG 0 3 ⟨[V 0 (.fsl 1 (List.map cI a0)),V 1 (iv a1),V 5 (iv x2),V 7 (iv (List.length a0:Int)),V 8 (iv x2),V 11 (iv a1),V 12 (.fsl 1 (List.map cI a0)),V 13 (iv x2)],[],0⟩ ?_
   refine jr_part (i:=3) (mo:=ixl a0 x2) rfl rfl rfl rfl (fun _ hc=>aop_ixf (c:=cI) (sz:=1) (e:=3) (kk:=.i64) (by kernel_rfl) (by kernel_rfl) (by kernel_rfl) (by kernel_rfl) hc) (fun _=>rfl) ?_
   intro x6 h6
   refine jG 4 2 ⟨[V 0 (.fsl 1 (List.map cI a0)),V 1 (iv a1),V 5 (iv x2),V 7 (iv (List.length a0:Int)),V 8 (iv x2),V 16 (bv (a1 == x6))],[],0⟩ ?_
   refine jN ?_
   refine jIf ?_ ?_
   ·refine jS ⟨[V 4 (iv x2)],[],0⟩ ?_
    refine jc_ret ?_
    refine jx_blkR ?_
    refine jx_seqR ?_
    exact jx_done rfl nofun (wkR [] (fix_nil _) allp_nil)
   refine jc_skip ?_
   refine jx_blkN ?_
   refine jx_seqN ?_
   refine jT ⟨[V 0 (.fsl 1 (List.map cI a0)),V 1 (iv a1),V 7 (iv (List.length a0:Int)),V 8 (iv (w64 (x2 + 1)))],[],0⟩ ?_
   exact jx_next (wkR [] (fix_nil _) allp_nil)
  refine jc_exit ?_
  refine jx_seqE ?_
  exact jx_done rfl nofun (wkR [] (fix_nil _) allp_nil)
 rintro (x5 | _)
 ·refine jx_blkR ?_
  refine jx_seqR ?_
  exact jx_retF (.inr rfl) (v:=iv x5) (by kernel_rfl) rfl (fle_refl _)
 refine jx_blkE ?_
 refine jx_seqN ?_
 refine jS ⟨[V 4 (iv (-1))],[],0⟩ ?_
 refine jc_ret ?_
 exact jx_retF (.inr rfl) (v:=iv (-1)) (by kernel_rfl) rfl (fle_refl _))
abbrev slices_Contains_int_int_r1:List LO:=[lo 4 (.assign (.const (.bool false))) 4]
abbrev slices_Contains_int_int_r2:List LO:=[lm 5 0 23,lm 6 1 3,lo 7 (.call ⟨.value (.func 51),#[.tmp 5,.tmp 6],#[23,3]⟩) 3,lo 8 (.binOp .geq 3 (.tmp 7) (.const (.int .i64 0)) 3) 4,lo 4 (.assign (.tmp 8)) 4]
abbrev slices_Contains_int_int_c:LC:=.seq (.reg false slices_Contains_int_int_r1) (.seq (.reg false slices_Contains_int_int_r2) .ret)
theorem slices_Contains_int_int_k:FnOk E 35 9 [.tmp 4] slices_Contains_int_int_c:=⟨⟨Go.Proofs.Try.f35,by kernel_rfl,by kernel_rfl,by kernel_rfl,by kernel_rfl,by kernel_rfl⟩,rfl,rfl⟩
noncomputable def slices_Contains_int_int (a0:(List Int)) (a1:Int):Option (Bool):=Option.bind (slices_Index_int_int a0 a1) (fun x1=>some (decide (x1≥0)))
theorem slices_Contains_int_int_ok (a0:(List Int)) (a1:Int):Ct E 35 [.fsl 1 (List.map cI a0),iv a1] (slices_Contains_int_int a0 a1) (fun r:Bool=>bv r):=ct_intro (N:=9) (L:=slices_Contains_int_int_c) slices_Contains_int_int_k rfl (Nat.le_of_ble_eq_true rfl) (by kernel_rfl) (by
 unfold slices_Contains_int_int
 refine jS ⟨[V 0 (.fsl 1 (List.map cI a0)),V 1 (iv a1)],[],0⟩ ?_
 refine jR ?_
 refine jG 0 2 ⟨[V 5 (.fsl 1 (List.map cI a0)),V 6 (iv a1)],[],0⟩ ?_
 refine jK 2 (slices_Index_int_int_ok a0 a1) ?_
 intro x1 h1
 refine jG 3 2 ⟨[V 4 (bv (decide (x1≥0)))],[],0⟩ ?_
 refine jN ?_
 refine jc_ret ?_
 exact jx_retF (.inr rfl) (v:=bv (decide (x1≥0))) (by kernel_rfl) rfl (fle_refl _))
abbrev prop_right_1_s246a_r1:List LO:=[lo 4 (.assign (.const (.bool false))) 4]
abbrev prop_right_1_s246a_r2:List LO:=[lm 5 0 3,lo 6 (.fieldAddr 41 (.tmp 1) 0) 0,lo 7 (.load 3 (.tmp 6)) 3,lo 8 (.binOp .neq 3 (.tmp 5) (.tmp 7) 3) 4,lm 9 8 4,lg 10 (.load 24 (.tmp 2)) 24 9 true,lmg 11 0 3 9 true,lg 12 (.call ⟨.value (.func 26),#[.tmp 10,.tmp 11],#[24,3]⟩) 3 9 true,lg 13 (.binOp .neq 3 (.tmp 12) (.const (.int .i64 (-1))) 3) 4 9 true,lo 14 (.pick (.tmp 9) (.tmp 13) (.const (.bool false))) 4,lo 4 (.assign (.tmp 14)) 4]
abbrev prop_right_1_s246a_c:LC:=.seq (.reg false prop_right_1_s246a_r1) (.seq (.reg false prop_right_1_s246a_r2) .ret)
theorem prop_right_1_s246a_k:FnOk E 37 15 [.tmp 4] prop_right_1_s246a_c:=⟨⟨Go.Proofs.Try.f37,by kernel_rfl,by kernel_rfl,by kernel_rfl,by kernel_rfl,by kernel_rfl⟩,rfl,rfl⟩
noncomputable def prop_right_1_s246a (a0:Int) (a1:Int) (a2:Int) (a3:List S_api_Deduced):Option (Bool):=Option.bind (if (a0 != a1)=true then Option.bind (prop_Value a3 a0) (fun x3=>some (x3 != (-1))) else some false:Option (Bool)) (fun x2=>some x2)
theorem prop_right_1_s246a_ok (a0:Int) (a1:Int) (a2:Int) (a3:List S_api_Deduced):Ct E 37 [iv a0,.fptr [iv a1,iv a2] 0,.fptr [.fsl 2 (List.map c_S_api_Deduced a3)] 0] (prop_right_1_s246a a0 a1 a2 a3) (fun r:Bool=>bv r):=ct_intro (N:=15) (L:=prop_right_1_s246a_c) prop_right_1_s246a_k rfl (Nat.le_of_ble_eq_true rfl) (by kernel_rfl) (by
 unfold prop_right_1_s246a
 refine jS ⟨[V 0 (iv a0),V 1 (.fptr [iv a1,iv a2] 0),V 2 (.fptr [.fsl 2 (List.map c_S_api_Deduced a3)] 0)],[],0⟩ ?_
 refine jR ?_
 refine jG 0 5 ⟨[V 0 (iv a0),V 2 (.fptr [.fsl 2 (List.map c_S_api_Deduced a3)] 0),V 9 (bv (a0 != a1))],[],0⟩ ?_
 refine jr_bind 5 5 (fun x2=>⟨[V 14 (bv x2)],[],0⟩) ?_ ?_
 ·refine jSp 9 ?_ ?_
  ·refine jG 0 2 ⟨[(9,.lit true),V 10 (.fsl 2 (List.map c_S_api_Deduced a3)),V 11 (iv a0)],[],0⟩ ?_
   refine jK 2 (prop_Value_ok a3 a0) ?_
   intro x3 h3
   refine jG 3 2 ⟨[V 14 (bv (x3 != (-1)))],[],0⟩ ?_
   refine jr_nil rfl ?_
   exact jx_mid rfl (wkR [] (fix_nil _) allp_nil)
  refine jG 0 5 ⟨[V 14 (bv false)],[],0⟩ ?_
  refine jr_nil rfl ?_
  exact jx_mid rfl (wkR [] (fix_nil _) allp_nil)
 intro x2
 refine jG 10 1 ⟨[V 4 (bv x2)],[],0⟩ ?_
 refine jN ?_
 refine jc_ret ?_
 exact jx_retF (.inr rfl) (v:=bv x2) (by kernel_rfl) rfl (fle_refl _))
abbrev slices_IndexFunc_int_int_sac78_r1:List LO:=[lo 4 (.assign (.const (.int .i64 0))) 3]
abbrev slices_IndexFunc_int_int_sac78_r2:List LO:=[lm 6 0 23,lo 7 (.call ⟨.builtin .len,#[.tmp 6],#[23]⟩) 3,lo 8 (.move (.const (.int .i64 0))) 3]
abbrev slices_IndexFunc_int_int_sac78_r3:List LO:=[lo 9 (.binOp .lss 3 (.tmp 8) (.tmp 7) 3) 0]
abbrev slices_IndexFunc_int_int_sac78_r4:List LO:=[lm 10 8 3,lo 5 (.assign (.tmp 10)) 3]
abbrev slices_IndexFunc_int_int_sac78_r5:List LO:=[lm 11 1 42,lm 12 0 23,lm 13 5 3,lo 14 (.indexAddr 23 (.tmp 12) (.tmp 13)) 0,lo 15 (.load 3 (.tmp 14)) 3,lo 16 (.call ⟨.value (.tmp 11),#[.tmp 15],#[3]⟩) 4]
abbrev slices_IndexFunc_int_int_sac78_r6:List LO:=[lm 17 5 3,lo 4 (.assign (.tmp 17)) 3]
abbrev slices_IndexFunc_int_int_sac78_r7:List LO:=[lo 18 (.binOp .add 3 (.tmp 8) (.const (.int .i64 1)) 3) 3,lm 8 18 3]
abbrev slices_IndexFunc_int_int_sac78_r8:List LO:=[lo 4 (.assign (.const (.int .i64 (-1)))) 3]
abbrev slices_IndexFunc_int_int_sac78_c:LC:=.seq (.reg false slices_IndexFunc_int_int_sac78_r1) (.seq (.seq (.reg false slices_IndexFunc_int_int_sac78_r2) (.block 0 (.loop (.seq (.reg false slices_IndexFunc_int_int_sac78_r3) (.seq (.cond (.tmp 9) .skip (.exit 0)) (.seq (.block 1 (.seq (.reg false slices_IndexFunc_int_int_sac78_r4) (.seq (.reg false slices_IndexFunc_int_int_sac78_r5) (.cond (.tmp 16) (.seq (.reg false slices_IndexFunc_int_int_sac78_r6) .ret) .skip)))) (.reg false slices_IndexFunc_int_int_sac78_r7))))))) (.seq (.reg false slices_IndexFunc_int_int_sac78_r8) .ret))
theorem slices_IndexFunc_int_int_sac78_k:FnOk E 52 19 [.tmp 4] slices_IndexFunc_int_int_sac78_c:=⟨⟨Go.Proofs.Try.f52,by kernel_rfl,by kernel_rfl,by kernel_rfl,by kernel_rfl,by kernel_rfl⟩,rfl,rfl⟩
noncomputable def slices_IndexFunc_int_int_sac78_l1 (a0:(List Int)) (a1:Int) (a2:Int) (a3:List S_api_Deduced):Int→Option (Step (Int) ((Int) ⊕ (Unit))):=fun x3=>(if (decide (x3 < (List.length a0:Int)))=true then Option.bind (ixl a0 x3) (fun x8=>Option.bind (prop_right_1_s246a x8 a1 a2 a3) (fun x9=>(if x9=true then some (Step.done (Sum.inl x3)) else some (Step.next (w64 (x3 + 1)))))) else some (Step.done (Sum.inr ())))
noncomputable def slices_IndexFunc_int_int_sac78 (a0:(List Int)) (a1:Int) (a2:Int) (a3:List S_api_Deduced):Option (Int):=Option.bind (loopC (slices_IndexFunc_int_int_sac78_l1 a0 a1 a2 a3) 0) (fun y=>match y with | Sum.inl x7=>some x7 | Sum.inr _=>some (-1))
theorem slices_IndexFunc_int_int_sac78_ok (a0:(List Int)) (a1:Int) (a2:Int) (a3:List S_api_Deduced):Ct E 52 [.fsl 1 (List.map cI a0),.fn 37 [.fptr [iv a1,iv a2] 0,.fptr [.fsl 2 (List.map c_S_api_Deduced a3)] 0]] (slices_IndexFunc_int_int_sac78 a0 a1 a2 a3) (fun r:Int=>iv r):=ct_intro (N:=19) (L:=slices_IndexFunc_int_int_sac78_c) slices_IndexFunc_int_int_sac78_k rfl (Nat.le_of_ble_eq_true rfl) (by kernel_rfl) (by
 unfold slices_IndexFunc_int_int_sac78
 refine jS ⟨[V 0 (.fsl 1 (List.map cI a0)),V 1 (.fn 37 [.fptr [iv a1,iv a2] 0,.fptr [.fsl 2 (List.map c_S_api_Deduced a3)] 0])],[],0⟩ ?_
 refine jc_seq ?_
 refine jR ?_
 refine jG 0 3 ⟨[V 0 (.fsl 1 (List.map cI a0)),V 1 (.fn 37 [.fptr [iv a1,iv a2] 0,.fptr [.fsl 2 (List.map c_S_api_Deduced a3)] 0]),V 7 (iv (List.length (List.map cI a0):Int)),V 8 (iv 0)],[],0⟩ ?_
 simp only[List.length_map]
 refine jN ?_
 refine jc_block ?_
 refine jc_bind (fun y=>match y with | Sum.inl x7=>⟨[V 4 (iv x7)],[],0⟩ | Sum.inr _=>⟨[],[],0⟩) (fun y=>match y with | Sum.inl x7=>.ret | Sum.inr _=>(.exit 0)) (jc_loop (fun x3=>⟨[V 0 (.fsl 1 (List.map cI a0)),V 1 (.fn 37 [.fptr [iv a1,iv a2] 0,.fptr [.fsl 2 (List.map c_S_api_Deduced a3)] 0]),V 7 (iv (List.length a0:Int)),V 8 (iv x3)],[],0⟩) (wkR [] (fix_nil _) allp_nil) ?_) ?_
 ·intro x3
  unfold slices_IndexFunc_int_int_sac78_l1
  refine jS ⟨[V 0 (.fsl 1 (List.map cI a0)),V 1 (.fn 37 [.fptr [iv a1,iv a2] 0,.fptr [.fsl 2 (List.map c_S_api_Deduced a3)] 0]),V 7 (iv (List.length a0:Int)),V 8 (iv x3),V 9 (bv (decide (x3 < (List.length a0:Int))))],[],0⟩ ?_
  refine jc_seq ?_
  refine jIf ?_ ?_
  ·refine jc_skip ?_
   refine jx_seqN ?_
   refine jc_seq ?_
   refine jc_block ?_
   refine jS ⟨[V 0 (.fsl 1 (List.map cI a0)),V 1 (.fn 37 [.fptr [iv a1,iv a2] 0,.fptr [.fsl 2 (List.map c_S_api_Deduced a3)] 0]),V 5 (iv x3),V 7 (iv (List.length a0:Int)),V 8 (iv x3)],[],0⟩ ?_
   refine jR ?_
   refine jG 0 3 ⟨[V 0 (.fsl 1 (List.map cI a0)),V 1 (.fn 37 [.fptr [iv a1,iv a2] 0,.fptr [.fsl 2 (List.map c_S_api_Deduced a3)] 0]),V 5 (iv x3),V 7 (iv (List.length a0:Int)),V 8 (iv x3),V 11 (.fn 37 [.fptr [iv a1,iv a2] 0,.fptr [.fsl 2 (List.map c_S_api_Deduced a3)] 0]),V 12 (.fsl 1 (List.map cI a0)),V 13 (iv x3)],[],0⟩ ?_
   refine jr_part (i:=3) (mo:=ixl a0 x3) rfl rfl rfl rfl (fun _ hc=>aop_ixf (c:=cI) (sz:=1) (e:=3) (kk:=.i64) (by kernel_rfl) (by kernel_rfl) (by kernel_rfl) (by kernel_rfl) hc) (fun _=>rfl) ?_
   intro x8 h8
   refine jG 4 1 ⟨[V 0 (.fsl 1 (List.map cI a0)),V 1 (.fn 37 [.fptr [iv a1,iv a2] 0,.fptr [.fsl 2 (List.map c_S_api_Deduced a3)] 0]),V 5 (iv x3),V 7 (iv (List.length a0:Int)),V 8 (iv x3),V 11 (.fn 37 [.fptr [iv a1,iv a2] 0,.fptr [.fsl 2 (List.map c_S_api_Deduced a3)] 0]),V 15 (iv x8)],[],0⟩ ?_
   refine jr_callV (i:=5) rfl rfl rfl rfl (g:=37) (caps:=[.fptr [iv a1,iv a2] 0,.fptr [.fsl 2 (List.map c_S_api_Deduced a3)] 0]) (avs:=[iv x8]) (vs:=[iv x8,.fptr [iv a1,iv a2] 0,.fptr [.fsl 2 (List.map c_S_api_Deduced a3)] 0]) (by kernel_rfl) (by kernel_rfl) rfl (snapL_cons rfl (snapL_cons rfl (snapL_cons rfl (snapL_nil _)))) (all2_cons (fle_refl _) (all2_cons (fle_refl _) (all2_cons (fle_refl _) all2_nil))) (prop_right_1_s246a_ok x8 a1 a2 a3) (fun _=>rfl) (fun _=>rfl) ?_
   intro x9 h9
   refine jN ?_
   refine jIf ?_ ?_
   ·refine jS ⟨[V 4 (iv x3)],[],0⟩ ?_
    refine jc_ret ?_
    refine jx_blkR ?_
    refine jx_seqR ?_
    exact jx_done rfl nofun (wkR [] (fix_nil _) allp_nil)
   refine jc_skip ?_
   refine jx_blkN ?_
   refine jx_seqN ?_
   refine jT ⟨[V 0 (.fsl 1 (List.map cI a0)),V 1 (.fn 37 [.fptr [iv a1,iv a2] 0,.fptr [.fsl 2 (List.map c_S_api_Deduced a3)] 0]),V 7 (iv (List.length a0:Int)),V 8 (iv (w64 (x3 + 1)))],[],0⟩ ?_
   exact jx_next (wkR [] (fix_nil _) allp_nil)
  refine jc_exit ?_
  refine jx_seqE ?_
  exact jx_done rfl nofun (wkR [] (fix_nil _) allp_nil)
 rintro (x7 | _)
 ·refine jx_blkR ?_
  refine jx_seqR ?_
  exact jx_retF (.inr rfl) (v:=iv x7) (by kernel_rfl) rfl (fle_refl _)
 refine jx_blkE ?_
 refine jx_seqN ?_
 refine jS ⟨[V 4 (iv (-1))],[],0⟩ ?_
 refine jc_ret ?_
 exact jx_retF (.inr rfl) (v:=iv (-1)) (by kernel_rfl) rfl (fle_refl _))
abbrev slices_ContainsFunc_int_int_sac78_r1:List LO:=[lo 4 (.assign (.const (.bool false))) 4]
abbrev slices_ContainsFunc_int_int_sac78_r2:List LO:=[lm 5 0 23,lm 6 1 42,lo 7 (.call ⟨.value (.func 52),#[.tmp 5,.tmp 6],#[23,42]⟩) 3,lo 8 (.binOp .geq 3 (.tmp 7) (.const (.int .i64 0)) 3) 4,lo 4 (.assign (.tmp 8)) 4]
abbrev slices_ContainsFunc_int_int_sac78_c:LC:=.seq (.reg false slices_ContainsFunc_int_int_sac78_r1) (.seq (.reg false slices_ContainsFunc_int_int_sac78_r2) .ret)
theorem slices_ContainsFunc_int_int_sac78_k:FnOk E 36 9 [.tmp 4] slices_ContainsFunc_int_int_sac78_c:=⟨⟨Go.Proofs.Try.f36,by kernel_rfl,by kernel_rfl,by kernel_rfl,by kernel_rfl,by kernel_rfl⟩,rfl,rfl⟩
noncomputable def slices_ContainsFunc_int_int_sac78 (a0:(List Int)) (a1:Int) (a2:Int) (a3:List S_api_Deduced):Option (Bool):=Option.bind (slices_IndexFunc_int_int_sac78 a0 a1 a2 a3) (fun x1=>some (decide (x1≥0)))
theorem slices_ContainsFunc_int_int_sac78_ok (a0:(List Int)) (a1:Int) (a2:Int) (a3:List S_api_Deduced):Ct E 36 [.fsl 1 (List.map cI a0),.fn 37 [.fptr [iv a1,iv a2] 0,.fptr [.fsl 2 (List.map c_S_api_Deduced a3)] 0]] (slices_ContainsFunc_int_int_sac78 a0 a1 a2 a3) (fun r:Bool=>bv r):=ct_intro (N:=9) (L:=slices_ContainsFunc_int_int_sac78_c) slices_ContainsFunc_int_int_sac78_k rfl (Nat.le_of_ble_eq_true rfl) (by kernel_rfl) (by
 unfold slices_ContainsFunc_int_int_sac78
 refine jS ⟨[V 0 (.fsl 1 (List.map cI a0)),V 1 (.fn 37 [.fptr [iv a1,iv a2] 0,.fptr [.fsl 2 (List.map c_S_api_Deduced a3)] 0])],[],0⟩ ?_
 refine jR ?_
 refine jG 0 2 ⟨[V 5 (.fsl 1 (List.map cI a0)),V 6 (.fn 37 [.fptr [iv a1,iv a2] 0,.fptr [.fsl 2 (List.map c_S_api_Deduced a3)] 0])],[],0⟩ ?_
 refine jK 2 (slices_IndexFunc_int_int_sac78_ok a0 a1 a2 a3) ?_
 intro x1 h1
 refine jG 3 2 ⟨[V 4 (bv (decide (x1≥0)))],[],0⟩ ?_
 refine jN ?_
 refine jc_ret ?_
 exact jx_retF (.inr rfl) (v:=bv (decide (x1≥0))) (by kernel_rfl) rfl (fle_refl _))
abbrev prop_right_r1:List LO:=[lo 4 (.box 24 (.tmp 1)) 0,lo 5 (.box 41 (.tmp 2)) 0,lo 6 (.assign (.const (.bool false))) 4]
abbrev prop_right_r2:List LO:=[lo 7 (.fieldAddr 41 (.tmp 5) 0) 0,lo 8 (.load 3 (.tmp 7)) 3,lo 9 (.call ⟨.value (.func 21),#[.tmp 8],#[3]⟩) 4,lo 10 (.unOp .not 4 (.tmp 9)) 4,lm 11 10 4,lg 12 (.load 24 (.tmp 4)) 24 11 false,lg 13 (.fieldAddr 41 (.tmp 5) 0) 0 11 false,lg 14 (.load 3 (.tmp 13)) 3 11 false,lg 15 (.call ⟨.value (.func 26),#[.tmp 12,.tmp 14],#[24,3]⟩) 3 11 false,lg 16 (.binOp .neq 3 (.tmp 15) (.const (.int .i64 0)) 3) 4 11 false,lo 17 (.pick (.tmp 11) (.const (.bool true)) (.tmp 16)) 4]
abbrev prop_right_r3:List LO:=[lo 6 (.assign (.const (.bool false))) 4]
abbrev prop_right_r4:List LO:=[lo 18 (.fieldAddr 41 (.tmp 5) 1) 0,lo 19 (.load 3 (.tmp 18)) 3,lo 20 (.binOp .eql 3 (.tmp 19) (.const (.int .i64 (-1))) 3) 4]
abbrev prop_right_r5:List LO:=[lo 6 (.assign (.const (.bool true))) 4]
abbrev prop_right_r6:List LO:=[lo 21 (.fieldAddr 41 (.tmp 5) 1) 0,lo 22 (.load 3 (.tmp 21)) 3,lo 23 (.binOp .lss 3 (.tmp 22) (.const (.int .i64 0)) 3) 4,lm 24 23 4,lg 25 (.fieldAddr 41 (.tmp 5) 1) 0 24 false,lg 26 (.load 3 (.tmp 25)) 3 24 false,lmg 27 0 22 24 false,lg 28 (.call ⟨.builtin .len,#[.tmp 27],#[22]⟩) 3 24 false,lg 29 (.binOp .geq 3 (.tmp 26) (.tmp 28) 3) 4 24 false,lo 30 (.pick (.tmp 24) (.const (.bool true)) (.tmp 29)) 4,lm 31 30 4,lmg 32 0 22 31 false,lg 33 (.fieldAddr 41 (.tmp 5) 1) 0 31 false,lg 34 (.load 3 (.tmp 33)) 3 31 false,lg 35 (.indexAddr 22 (.tmp 32) (.tmp 34)) 0 31 false,lg 36 (.load 23 (.tmp 35)) 23 31 false,lg 37 (.fieldAddr 41 (.tmp 5) 0) 0 31 false,lg 38 (.load 3 (.tmp 37)) 3 31 false,lg 39 (.call ⟨.value (.func 35),#[.tmp 36,.tmp 38],#[23,3]⟩) 4 31 false,lg 40 (.unOp .not 4 (.tmp 39)) 4 31 false,lo 41 (.pick (.tmp 31) (.const (.bool true)) (.tmp 40)) 4]
abbrev prop_right_r7:List LO:=[lo 6 (.assign (.const (.bool false))) 4]
abbrev prop_right_r8:List LO:=[lm 42 0 22,lo 43 (.fieldAddr 41 (.tmp 5) 1) 0,lo 44 (.load 3 (.tmp 43)) 3,lo 45 (.indexAddr 22 (.tmp 42) (.tmp 44)) 0,lo 46 (.load 23 (.tmp 45)) 23,lo 47 (.makeFunc (Fn.func 37) #[] #[.tmp 5,.tmp 4]) 42,lo 48 (.call ⟨.value (.func 36),#[.tmp 46,.tmp 47],#[23,42]⟩) 4,lo 49 (.unOp .not 4 (.tmp 48)) 4,lo 6 (.assign (.tmp 49)) 4]
abbrev prop_right_c:LC:=.seq (.reg false prop_right_r1) (.seq (.seq (.reg false prop_right_r2) (.cond (.tmp 17) (.seq (.reg false prop_right_r3) .ret) .skip)) (.seq (.seq (.reg false prop_right_r4) (.cond (.tmp 20) (.seq (.reg false prop_right_r5) .ret) .skip)) (.seq (.seq (.reg true prop_right_r6) (.cond (.tmp 41) (.seq (.reg false prop_right_r7) .ret) .skip)) (.seq (.reg false prop_right_r8) .ret))))
theorem prop_right_k:FnOk E 23 50 [.tmp 6] prop_right_c:=⟨⟨Go.Proofs.Try.f23,by kernel_rfl,by kernel_rfl,by kernel_rfl,by kernel_rfl,by kernel_rfl⟩,rfl,rfl⟩
noncomputable def prop_right (a0:(List (List Int))) (a1:(List S_api_Deduced)) (a2:S_api_Deduced):Option (Bool):=Option.bind (prop_literal a2.Lit) (fun x1=>Option.bind (if (!x1)=true then some true else Option.bind (prop_Value a1 a2.Lit) (fun x4=>some (x4 != 0)):Option (Bool)) (fun x3=>(if x3=true then some false else (if (a2.Reason == (-1))=true then some true else Option.bind (if ((decide (a2.Reason < 0)) || (decide (a2.Reason≥(List.length a0:Int))))=true then some true else Option.bind (ixl a0 a2.Reason) (fun x8=>Option.bind (slices_Contains_int_int x8 a2.Lit) (fun x9=>some (!x9))):Option (Bool)) (fun x7=>(if x7=true then some false else Option.bind (ixl a0 a2.Reason) (fun x10=>Option.bind (slices_ContainsFunc_int_int_sac78 x10 a2.Lit a2.Reason a1) (fun x11=>some (!x11)))))))))
theorem prop_right_ok (a0:(List (List Int))) (a1:(List S_api_Deduced)) (a2:S_api_Deduced):Ct E 23 [.fsl 1 (List.map c_L3 a0),.fsl 2 (List.map c_S_api_Deduced a1),.agg [iv a2.Lit,iv a2.Reason]] (prop_right a0 a1 a2) (fun r:Bool=>bv r):=ct_intro (N:=50) (L:=prop_right_c) prop_right_k rfl (Nat.le_of_ble_eq_true rfl) (by kernel_rfl) (by
 unfold prop_right
 refine jS ⟨[V 0 (.fsl 1 (List.map c_L3 a0)),V 4 (pt 0 1),V 5 (pt 1 2)],[W 0 1 [.fsl 2 (List.map c_S_api_Deduced a1)],W 1 2 [iv a2.Lit,iv a2.Reason]],2⟩ ?_
 refine jc_seq ?_
 refine jR ?_
 refine jG 0 2 ⟨[V 0 (.fsl 1 (List.map c_L3 a0)),V 4 (pt 0 1),V 5 (pt 1 2),V 8 (iv a2.Lit)],[W 0 1 [.fsl 2 (List.map c_S_api_Deduced a1)],W 1 2 [iv a2.Lit,iv a2.Reason]],2⟩ ?_
 refine jK 2 (prop_literal_ok a2.Lit) ?_
 intro x1 h1
 refine jG 3 2 ⟨[V 0 (.fsl 1 (List.map c_L3 a0)),V 4 (pt 0 1),V 5 (pt 1 2),V 11 (bv (!x1))],[W 0 1 [.fsl 2 (List.map c_S_api_Deduced a1)],W 1 2 [iv a2.Lit,iv a2.Reason]],2⟩ ?_
 refine jr_bind 5 6 (fun x3=>⟨[V 0 (.fsl 1 (List.map c_L3 a0)),V 4 (pt 0 1),V 5 (pt 1 2),V 17 (bv x3)],[W 0 1 [.fsl 2 (List.map c_S_api_Deduced a1)],W 1 2 [iv a2.Lit,iv a2.Reason]],2⟩) ?_ ?_
 ·refine jSp 11 ?_ ?_
  ·refine jG 0 6 ⟨[V 0 (.fsl 1 (List.map c_L3 a0)),V 4 (pt 0 1),V 5 (pt 1 2),V 17 (bv true)],[W 0 1 [.fsl 2 (List.map c_S_api_Deduced a1)],W 1 2 [iv a2.Lit,iv a2.Reason]],2⟩ ?_
   refine jr_nil rfl ?_
   exact jx_mid rfl (wkR [(0,some 0),(1,some 1)] (fix_nil _) (pc (hC 0) (pc (hC 1) allp_nil)))
  refine jG 0 3 ⟨[V 0 (.fsl 1 (List.map c_L3 a0)),V 4 (pt 0 1),V 5 (pt 1 2),(11,.lit false),V 12 (.fsl 2 (List.map c_S_api_Deduced a1)),V 14 (iv a2.Lit)],[W 0 1 [.fsl 2 (List.map c_S_api_Deduced a1)],W 1 2 [iv a2.Lit,iv a2.Reason]],2⟩ ?_
  refine jK 3 (prop_Value_ok a1 a2.Lit) ?_
  intro x4 h4
  refine jG 4 2 ⟨[V 0 (.fsl 1 (List.map c_L3 a0)),V 4 (pt 0 1),V 5 (pt 1 2),V 17 (bv (x4 != 0))],[W 0 1 [.fsl 2 (List.map c_S_api_Deduced a1)],W 1 2 [iv a2.Lit,iv a2.Reason]],2⟩ ?_
  refine jr_nil rfl ?_
  exact jx_mid rfl (wkR [(0,some 0),(1,some 1)] (fix_nil _) (pc (hC 0) (pc (hC 1) allp_nil)))
 intro x3
 refine jN ?_
 refine jIf ?_ ?_
 ·refine jS ⟨[V 6 (bv false)],[],2⟩ ?_
  refine jc_ret ?_
  refine jx_seqR ?_
  exact jx_retF (.inr rfl) (v:=bv false) (by kernel_rfl) rfl (fle_refl _)
 refine jc_skip ?_
 refine jx_seqN ?_
 refine jc_seq ?_
 refine jS ⟨[V 0 (.fsl 1 (List.map c_L3 a0)),V 4 (pt 0 1),V 5 (pt 1 2),V 20 (bv (a2.Reason == (-1)))],[W 0 1 [.fsl 2 (List.map c_S_api_Deduced a1)],W 1 2 [iv a2.Lit,iv a2.Reason]],2⟩ ?_
 refine jIf ?_ ?_
 ·refine jS ⟨[V 6 (bv true)],[],2⟩ ?_
  refine jc_ret ?_
  refine jx_seqR ?_
  exact jx_retF (.inr rfl) (v:=bv true) (by kernel_rfl) rfl (fle_refl _)
 refine jc_skip ?_
 refine jx_seqN ?_
 refine jc_seq ?_
 refine jR ?_
 refine jG 0 11 ⟨[V 0 (.fsl 1 (List.map c_L3 a0)),V 4 (pt 0 1),V 5 (pt 1 2),V 31 (bv ((decide (a2.Reason < 0)) || (decide (a2.Reason≥(List.length (List.map c_L3 a0):Int)))))],[W 0 1 [.fsl 2 (List.map c_S_api_Deduced a1)],W 1 2 [iv a2.Lit,iv a2.Reason]],2⟩ ?_
 simp only[List.length_map]
 refine jr_bind 11 10 (fun x7=>⟨[V 0 (.fsl 1 (List.map c_L3 a0)),V 4 (pt 0 1),V 5 (pt 1 2),V 41 (bv x7)],[W 0 1 [.fsl 2 (List.map c_S_api_Deduced a1)],W 1 2 [iv a2.Lit,iv a2.Reason]],2⟩) ?_ ?_
 ·refine jSp 31 ?_ ?_
  ·refine jG 0 10 ⟨[V 0 (.fsl 1 (List.map c_L3 a0)),V 4 (pt 0 1),V 5 (pt 1 2),V 41 (bv true)],[W 0 1 [.fsl 2 (List.map c_S_api_Deduced a1)],W 1 2 [iv a2.Lit,iv a2.Reason]],2⟩ ?_
   refine jr_nil rfl ?_
   exact jx_mid rfl (wkR [(0,some 0),(1,some 1)] (fix_nil _) (pc (hC 0) (pc (hC 1) allp_nil)))
  refine jG 0 3 ⟨[V 0 (.fsl 1 (List.map c_L3 a0)),V 4 (pt 0 1),V 5 (pt 1 2),(31,.lit false),V 32 (.fsl 1 (List.map c_L3 a0)),V 34 (iv a2.Reason)],[W 0 1 [.fsl 2 (List.map c_S_api_Deduced a1)],W 1 2 [iv a2.Lit,iv a2.Reason]],2⟩ ?_
  refine jr_part (i:=3) (mo:=ixl a0 a2.Reason) rfl rfl rfl rfl (fun _ hc=>aop_ixf (c:=c_L3) (sz:=1) (e:=23) (kk:=.i64) (by kernel_rfl) (by kernel_rfl) (by kernel_rfl) (by kernel_rfl) hc) (fun _=>rfl) ?_
  intro x8 h8
  refine jG 4 3 ⟨[V 0 (.fsl 1 (List.map c_L3 a0)),V 4 (pt 0 1),V 5 (pt 1 2),(31,.lit false),V 36 (.fsl 1 (List.map cI x8)),V 38 (iv a2.Lit)],[W 0 1 [.fsl 2 (List.map c_S_api_Deduced a1)],W 1 2 [iv a2.Lit,iv a2.Reason]],2⟩ ?_
  refine jK 7 (slices_Contains_int_int_ok x8 a2.Lit) ?_
  intro x9 h9
  refine jG 8 2 ⟨[V 0 (.fsl 1 (List.map c_L3 a0)),V 4 (pt 0 1),V 5 (pt 1 2),V 41 (bv (!x9))],[W 0 1 [.fsl 2 (List.map c_S_api_Deduced a1)],W 1 2 [iv a2.Lit,iv a2.Reason]],2⟩ ?_
  refine jr_nil rfl ?_
  exact jx_mid rfl (wkR [(0,some 0),(1,some 1)] (fix_nil _) (pc (hC 0) (pc (hC 1) allp_nil)))
 intro x7
 refine jN ?_
 refine jIf ?_ ?_
 ·refine jS ⟨[V 6 (bv false)],[],2⟩ ?_
  refine jc_ret ?_
  refine jx_seqR ?_
  exact jx_retF (.inr rfl) (v:=bv false) (by kernel_rfl) rfl (fle_refl _)
 refine jc_skip ?_
 refine jx_seqN ?_
 refine jR ?_
 refine jG 0 3 ⟨[V 4 (pt 0 1),V 5 (pt 1 2),V 42 (.fsl 1 (List.map c_L3 a0)),V 44 (iv a2.Reason)],[W 0 1 [.fsl 2 (List.map c_S_api_Deduced a1)],W 1 2 [iv a2.Lit,iv a2.Reason]],2⟩ ?_
 refine jr_part (i:=3) (mo:=ixl a0 a2.Reason) rfl rfl rfl rfl (fun _ hc=>aop_ixf (c:=c_L3) (sz:=1) (e:=23) (kk:=.i64) (by kernel_rfl) (by kernel_rfl) (by kernel_rfl) (by kernel_rfl) hc) (fun _=>rfl) ?_
 intro x10 h10
 refine jG 4 2 ⟨[V 46 (.fsl 1 (List.map cI x10)),V 47 (.fn 37 [pt 1 2,pt 0 1])],[W 0 1 [.fsl 2 (List.map c_S_api_Deduced a1)],W 1 2 [iv a2.Lit,iv a2.Reason]],2⟩ ?_
 refine jr_callF (i:=6) rfl rfl rfl rfl (vs:=[.fsl 1 (List.map cI x10),.fn 37 [pt 1 2,pt 0 1]]) (vs0:=[.fsl 1 (List.map cI x10),.fn 37 [.fptr [iv a2.Lit,iv a2.Reason] 0,.fptr [.fsl 2 (List.map c_S_api_Deduced a1)] 0]]) (b:=true) (by kernel_rfl) (by kernel_rfl) (all2_cons (fle_refl _) (all2_cons (fle_refl _) all2_nil)) (slices_ContainsFunc_int_int_sac78_ok x10 a2.Lit a2.Reason a1) (fun _=>rfl) (fun _=>rfl) ?_
 intro x11 h11
 refine jG 7 2 ⟨[V 6 (bv (!x11))],[],2⟩ ?_
 refine jN ?_
 refine jc_ret ?_
 exact jx_retF (.inr rfl) (v:=bv (!x11)) (by kernel_rfl) rfl (fle_refl _))
abbrev prop_Right_r1:List LO:=[lo 4 (.assign (.const (.bool false))) 4]
abbrev prop_Right_r2:List LO:=[lm 7 1 24,lo 8 (.call ⟨.builtin .len,#[.tmp 7],#[24]⟩) 3,lo 9 (.move (.const (.int .i64 0))) 3]
abbrev prop_Right_r3:List LO:=[lo 10 (.binOp .lss 3 (.tmp 9) (.tmp 8) 3) 0]
abbrev prop_Right_r4:List LO:=[lm 11 9 3,lo 12 (.indexAddr 24 (.tmp 7) (.tmp 9)) 0,lo 13 (.load 41 (.tmp 12)) 41,lo 6 (.alloc 41) 0,lo 5 (.assign (.tmp 11)) 3,ln (.store 41 (.tmp 6) (.tmp 13)) 0]
abbrev prop_Right_r5:List LO:=[lm 14 0 22,lm 15 1 24,lm 16 5 3,lo 17 (.slice 24 (.tmp 15) none (some (.tmp 16)) none) 24,lo 18 (.load 41 (.tmp 6)) 41,lo 19 (.call ⟨.value (.func 23),#[.tmp 14,.tmp 17,.tmp 18],#[22,24,41]⟩) 4,lo 20 (.unOp .not 4 (.tmp 19)) 4]
abbrev prop_Right_r6:List LO:=[lo 4 (.assign (.const (.bool false))) 4]
abbrev prop_Right_r7:List LO:=[lo 21 (.binOp .add 3 (.tmp 9) (.const (.int .i64 1)) 3) 3,lm 9 21 3]
abbrev prop_Right_r8:List LO:=[lo 4 (.assign (.const (.bool true))) 4]
abbrev prop_Right_c:LC:=.seq (.reg false prop_Right_r1) (.seq (.seq (.reg false prop_Right_r2) (.block 0 (.loop (.seq (.reg false prop_Right_r3) (.seq (.cond (.tmp 10) .skip (.exit 0)) (.seq (.block 1 (.seq (.reg false prop_Right_r4) (.seq (.reg true prop_Right_r5) (.cond (.tmp 20) (.seq (.reg false prop_Right_r6) .ret) .skip)))) (.reg false prop_Right_r7))))))) (.seq (.reg false prop_Right_r8) .ret))
theorem prop_Right_k:FnOk E 10 22 [.tmp 4] prop_Right_c:=⟨⟨Go.Proofs.Try.f10,by kernel_rfl,by kernel_rfl,by kernel_rfl,by kernel_rfl,by kernel_rfl⟩,rfl,rfl⟩
noncomputable def prop_Right_l1 (a0:(List (List Int))) (a1:(List S_api_Deduced)):Int→Option (Step (Int) ((Unit) ⊕ (Unit))):=fun x4=>(if (decide (x4 < (List.length a1:Int)))=true then Option.bind (ixl a1 x4) (fun x9=>Option.bind (subl a1 0 x4) (fun x10=>Option.bind (prop_right a0 x10 x9) (fun x11=>(if (!x11)=true then some (Step.done (Sum.inl ())) else some (Step.next (w64 (x4 + 1))))))) else some (Step.done (Sum.inr ())))
noncomputable def prop_Right (a0:(List (List Int))) (a1:(List S_api_Deduced)):Option (Bool):=Option.bind (loopC (prop_Right_l1 a0 a1) 0) (fun y=>match y with | Sum.inl _=>some false | Sum.inr _=>some true)
theorem prop_Right_ok (a0:(List (List Int))) (a1:(List S_api_Deduced)):Ct E 10 [.fsl 1 (List.map c_L3 a0),.fsl 2 (List.map c_S_api_Deduced a1)] (prop_Right a0 a1) (fun r:Bool=>bv r):=ct_intro (N:=22) (L:=prop_Right_c) prop_Right_k rfl (Nat.le_of_ble_eq_true rfl) (by kernel_rfl) (by
 unfold prop_Right
 refine jS ⟨[V 0 (.fsl 1 (List.map c_L3 a0)),V 1 (.fsl 2 (List.map c_S_api_Deduced a1))],[],0⟩ ?_
 refine jc_seq ?_
 refine jR ?_
 refine jG 0 3 ⟨[V 0 (.fsl 1 (List.map c_L3 a0)),V 1 (.fsl 2 (List.map c_S_api_Deduced a1)),V 7 (.fsl 2 (List.map c_S_api_Deduced a1)),V 8 (iv (List.length (List.map c_S_api_Deduced a1):Int)),V 9 (iv 0)],[],0⟩ ?_
 simp only[List.length_map]
 refine jN ?_
 refine jc_block ?_
 refine jc_bind (fun y=>match y with | Sum.inl _=>⟨[V 4 (bv false)],[],0⟩ | Sum.inr _=>⟨[],[],0⟩) (fun y=>match y with | Sum.inl _=>.ret | Sum.inr _=>(.exit 0)) (jc_loop (fun x4=>⟨[V 0 (.fsl 1 (List.map c_L3 a0)),V 1 (.fsl 2 (List.map c_S_api_Deduced a1)),V 7 (.fsl 2 (List.map c_S_api_Deduced a1)),V 8 (iv (List.length a1:Int)),V 9 (iv x4)],[],0⟩) (wkR [] (fix_nil _) allp_nil) ?_) ?_
 ·intro x4
  unfold prop_Right_l1
  refine jS ⟨[V 0 (.fsl 1 (List.map c_L3 a0)),V 1 (.fsl 2 (List.map c_S_api_Deduced a1)),V 7 (.fsl 2 (List.map c_S_api_Deduced a1)),V 8 (iv (List.length a1:Int)),V 9 (iv x4),V 10 (bv (decide (x4 < (List.length a1:Int))))],[],0⟩ ?_
  refine jc_seq ?_
  refine jIf ?_ ?_
  ·refine jc_skip ?_
   refine jx_seqN ?_
   refine jc_seq ?_
   refine jc_block ?_
   refine jR ?_
   refine jG 0 1 ⟨[V 0 (.fsl 1 (List.map c_L3 a0)),V 1 (.fsl 2 (List.map c_S_api_Deduced a1)),V 7 (.fsl 2 (List.map c_S_api_Deduced a1)),V 8 (iv (List.length a1:Int)),V 9 (iv x4),V 11 (iv x4)],[],0⟩ ?_
   refine jr_part (i:=1) (mo:=ixl a1 x4) rfl rfl rfl rfl (fun _ hc=>aop_ixf (c:=c_S_api_Deduced) (sz:=2) (e:=41) (kk:=.i64) (by kernel_rfl) (by kernel_rfl) (by kernel_rfl) (by kernel_rfl) hc) (fun _=>rfl) ?_
   intro x9 h9
   refine jG 2 4 ⟨[V 0 (.fsl 1 (List.map c_L3 a0)),V 1 (.fsl 2 (List.map c_S_api_Deduced a1)),V 5 (iv x4),V 6 (pt 0 2),V 7 (.fsl 2 (List.map c_S_api_Deduced a1)),V 8 (iv (List.length a1:Int)),V 9 (iv x4)],[W 0 2 [iv x9.Lit,iv x9.Reason]],1⟩ ?_
   refine jN ?_
   refine jR ?_
   refine jG 0 3 ⟨[V 0 (.fsl 1 (List.map c_L3 a0)),V 1 (.fsl 2 (List.map c_S_api_Deduced a1)),V 6 (pt 0 2),V 7 (.fsl 2 (List.map c_S_api_Deduced a1)),V 8 (iv (List.length a1:Int)),V 9 (iv x4),V 14 (.fsl 1 (List.map c_L3 a0)),V 15 (.fsl 2 (List.map c_S_api_Deduced a1)),V 16 (iv x4)],[W 0 2 [iv x9.Lit,iv x9.Reason]],1⟩ ?_
   refine jr_part (i:=3) (mo:=subl a1 0 x4) rfl rfl rfl rfl (fun _ hc=>aop_subf (c:=c_S_api_Deduced) (sz:=2) (e:=41) (by kernel_rfl) (by kernel_rfl) (by kernel_rfl) (by kernel_rfl) (by kernel_rfl) hc) (fun _=>rfl) ?_
   intro x10 h10
   refine jG 4 1 ⟨[V 0 (.fsl 1 (List.map c_L3 a0)),V 1 (.fsl 2 (List.map c_S_api_Deduced a1)),V 7 (.fsl 2 (List.map c_S_api_Deduced a1)),V 8 (iv (List.length a1:Int)),V 9 (iv x4),V 14 (.fsl 1 (List.map c_L3 a0)),V 17 (.fsl 2 (List.map c_S_api_Deduced x10)),V 18 (.agg [iv x9.Lit,iv x9.Reason])],[],1⟩ ?_
   refine jK 5 (prop_right_ok a0 x10 x9) ?_
   intro x11 h11
   refine jG 6 1 ⟨[V 0 (.fsl 1 (List.map c_L3 a0)),V 1 (.fsl 2 (List.map c_S_api_Deduced a1)),V 7 (.fsl 2 (List.map c_S_api_Deduced a1)),V 8 (iv (List.length a1:Int)),V 9 (iv x4),V 20 (bv (!x11))],[],1⟩ ?_
   refine jN ?_
   refine jIf ?_ ?_
   ·refine jS ⟨[V 4 (bv false)],[],1⟩ ?_
    refine jc_ret ?_
    refine jx_blkR ?_
    refine jx_seqR ?_
    exact jx_done rfl nofun (wkR [] (fix_nil _) allp_nil)
   refine jc_skip ?_
   refine jx_blkN ?_
   refine jx_seqN ?_
   refine jT ⟨[V 0 (.fsl 1 (List.map c_L3 a0)),V 1 (.fsl 2 (List.map c_S_api_Deduced a1)),V 7 (.fsl 2 (List.map c_S_api_Deduced a1)),V 8 (iv (List.length a1:Int)),V 9 (iv (w64 (x4 + 1)))],[],1⟩ ?_
   exact jx_next (wkR [] (fix_nil _) allp_nil)
  refine jc_exit ?_
  refine jx_seqE ?_
  exact jx_done rfl nofun (wkR [] (fix_nil _) allp_nil)
 rintro (_ | _)
 ·refine jx_blkR ?_
  refine jx_seqR ?_
  exact jx_retF (.inr rfl) (v:=bv false) (by kernel_rfl) rfl (fle_refl _)
 refine jx_blkE ?_
 refine jx_seqN ?_
 refine jS ⟨[V 4 (bv true)],[],0⟩ ?_
 refine jc_ret ?_
 exact jx_retF (.inr rfl) (v:=bv true) (by kernel_rfl) rfl (fle_refl _))
abbrev prop_Close_r1:List LO:=[lo 4 (.assign (.const (.slice none 0 0))) 23,lo 5 (.assign (.const (.bool false))) 4]
abbrev prop_Close_r2:List LO:=[lm 10 0 22,lm 11 1 23,lo 12 (.call ⟨.value (.func 14),#[.tmp 10,.tmp 11],#[22,23]⟩) 33,lm 9 12 33,lo 13 (.extract (.tmp 9) 0) 24,lo 14 (.extract (.tmp 9) 1) 3,lo 6 (.assign (.tmp 13)) 24,lo 7 (.assign (.tmp 14)) 3]
abbrev prop_Close_r3:List LO:=[lm 15 7 3,lo 16 (.binOp .neq 3 (.tmp 15) (.const (.int .i64 (-1))) 3) 4]
abbrev prop_Close_r4:List LO:=[lo 4 (.assign (.const (.slice none 0 0))) 23,lo 5 (.assign (.const (.bool false))) 4]
abbrev prop_Close_r5:List LO:=[lm 17 6 24,lo 18 (.call ⟨.value (.func 15),#[.tmp 17],#[24]⟩) 23,lo 8 (.assign (.tmp 18)) 23]
abbrev prop_Close_r6:List LO:=[lm 19 8 23,lo 20 (.call ⟨.value (.func 16),#[.tmp 19,.func 17],#[23,39]⟩) 0]
abbrev prop_Close_r7:List LO:=[lm 21 8 23,lo 4 (.assign (.tmp 21)) 23,lo 5 (.assign (.const (.bool true))) 4]
abbrev prop_Close_c:LC:=.seq (.reg false prop_Close_r1) (.seq (.reg false prop_Close_r2) (.seq (.seq (.reg false prop_Close_r3) (.cond (.tmp 16) (.seq (.reg false prop_Close_r4) .ret) .skip)) (.seq (.reg false prop_Close_r5) (.seq (.reg false prop_Close_r6) (.seq (.reg false prop_Close_r7) .ret)))))
theorem prop_Close_k:FnOk E 6 22 [.tmp 4,.tmp 5] prop_Close_c:=⟨⟨Go.Proofs.Try.f6,by kernel_rfl,by kernel_rfl,by kernel_rfl,by kernel_rfl,by kernel_rfl⟩,rfl,rfl⟩
abbrev prop_Close_T (a0:List (List Int)) (a1:List Int) (r:List Int × Bool):CS:=⟨[V 4 (.osl 0 0 (List.length r.1) 1),V 5 (bv r.2)],[(0,.rows 1 (List.map cI r.1))],1⟩
noncomputable def prop_Close (a0:List (List Int)) (a1:List Int):Option (List Int × Bool):=Option.bind (prop_Run a0 a1) (fun (x7,x8)=>(if (x8 != (-1))=true then some ([],false) else Option.bind (prop_Lits x7) (fun x9=>Option.bind (slices_SortFuncI x9) (fun x10=>some (x10,true)))))
theorem prop_Close_ok (a0:List (List Int)) (a1:List Int):CtM E 6 [.fsl 1 (List.map c_L3 a0),.fsl 1 (List.map cI a1)] [] 0 (prop_Close a0 a1) (fun r:List Int × Bool=>.tup [.osl 0 0 (List.length r.1) 1,bv r.2]) (fun r:List Int × Bool=>[(0,.rows 1 (List.map cI r.1))]) 1:=ctm_intro (N:=22) (L:=prop_Close_c) prop_Close_k rfl (Nat.le_of_ble_eq_true rfl) (fun F hF=>by
 unfold prop_Close
 refine jS ⟨[V 0 (.fsl 1 (List.map c_L3 a0)),V 1 (.fsl 1 (List.map cI a1))],[],0⟩ ?_
 refine jR ?_
 refine jG 0 2 ⟨[V 10 (.fsl 1 (List.map c_L3 a0)),V 11 (.fsl 1 (List.map cI a1))],[],0⟩ ?_
 refine jr_callM 2 [] [(1,some 1)] (fun r:List S_api_Deduced × Int=>[(1,.rows 2 (List.map c_S_api_Deduced r.1))]) (fun r:List S_api_Deduced × Int=>.tup [.osl 1 0 (List.length r.1) 2,iv r.2]) 3 (prop_Run_ok a0 a1) allp_nil (fun r=>(pc (.inr (hL 1 (noid_map ni_S_api_Deduced _))) allp_nil)) ?_
 rintro⟨x7,x8⟩ hm6
 refine jG 3 5 ⟨[V 6 (.osl 1 0 (List.length x7) 2),V 7 (iv x8)],[(1,.rows 2 (List.map c_S_api_Deduced x7))],3⟩ ?_
 refine jN ?_
 refine jc_seq ?_
 refine jS ⟨[V 6 (.osl 1 0 (List.length x7) 2),V 16 (bv (x8 != (-1)))],[(1,.rows 2 (List.map c_S_api_Deduced x7))],3⟩ ?_
 refine jIf ?_ ?_
 ·refine jS ⟨[V 4 (nilS),V 5 (bv false)],[],3⟩ ?_
  refine jc_ret ?_
  refine jx_seqR ?_
  exact jx_retM (prop_Close_T a0 a1 ([],false)) (.inr rfl) (wkR [(0,none)] (fix_of hF (k:=0) rfl) (pc hZ allp_nil))
 refine jc_skip ?_
 refine jx_seqN ?_
 refine jR ?_
 refine jG 0 1 ⟨[V 17 (.osl 1 0 (List.length x7) 2)],[(1,.rows 2 (List.map c_S_api_Deduced x7))],3⟩ ?_
 refine jr_callM 1 [(0,some 1)] [(1,some 0),(3,some 1)] (fun r:List Int=>[(1,.rows 2 (List.map c_S_api_Deduced x7)),(3,.rows 1 (List.map cI r))]) (fun r:List Int=>.osl 3 0 (List.length r) 1) 4 (prop_Lits_ok x7) (pc (hL 1 (noid_map ni_S_api_Deduced _)) allp_nil) (fun r=>(pc (.inr (hL 0 (noid_map ni_S_api_Deduced _))) (pc (.inr (hL 1 (noid_map ni_I _))) allp_nil))) ?_
 rintro x9 hm5
 refine jG 2 1 ⟨[V 8 (.osl 3 0 (List.length x9) 1)],[(3,.rows 1 (List.map cI x9))],4⟩ ?_
 refine jN ?_
 refine jR ?_
 refine jG 0 1 ⟨[V 8 (.osl 3 0 (List.length x9) 1),V 19 (.osl 3 0 (List.length x9) 1)],[(3,.rows 1 (List.map cI x9))],4⟩ ?_
 refine jr_callM 1 [(0,some 3)] [(3,some 0)] (fun r:List Int=>[(3,.rows 1 (List.map cI r))]) (fun r:List Int=>.tup []) 4 (slices_SortFuncI_ok x9) (pc (hL 3 (noid_map ni_I _)) allp_nil) (fun r=>(pc (.inr (hL 0 (noid_map ni_I _))) allp_nil)) ?_
 rintro x10 hm4
 try rw[← slices_SortFuncI_len hm4]
 refine jN ?_
 refine jS ⟨[V 4 (.osl 3 0 (List.length x10) 1),V 5 (bv true)],[(3,.rows 1 (List.map cI x10))],4⟩ ?_
 refine jc_ret ?_
 exact jx_retM (prop_Close_T a0 a1 (x10,true)) (.inr rfl) (wkR [(0,some 3)] (fix_of hF (k:=0) rfl) (pc (hL 3 (noid_map ni_I _)) allp_nil)))
noncomputable def ref26_abs (a0:Int):Option (Int):=(if (decide (a0 < 0))=true then some (w64 (0 - a0)) else some a0)
noncomputable def ref26_Close_l1 (x31:List S_api_Deduced) (x35:List Int) (x36:Int):Int→Option (Step (Int) (Int)):=fun x64=>Option.bind (if (decide (x64 > 0))=true then Option.bind (ixl x35 (w64 (x64 - 1))) (fun x77=>Option.bind (ref26_abs x77) (fun x78=>Option.bind (ixl x31 x36) (fun x79=>Option.bind (ref26_abs x79.Lit) (fun x80=>some (decide (x78 > x80)))))) else some false:Option (Bool)) (fun x76=>(if x76=true then some (Step.next (w64 (x64 - 1))) else some (Step.done x64)))
noncomputable def ref26_Close_l2 (x31:List S_api_Deduced):(List Int × Int)→Option (Step (List Int × Int) (List Int)):=fun (x35,x36)=>(if (decide (x36 < (List.length x31:Int)))=true then Option.bind (loopC (ref26_Close_l1 x31 x35 x36) (List.length x35:Int)) (fun x71=>Option.bind (subl x35 0 x71) (fun x81=>Option.bind (app 8 ([]:List Int) x81) (fun x82=>Option.bind (ixl x31 x36) (fun x83=>Option.bind (app 8 x82 [x83.Lit]) (fun x84=>Option.bind (subl x35 x71 (List.length x35:Int)) (fun x85=>Option.bind (app 8 x84 x85) (fun x86=>some (Step.next (x86,(w64 (x36 + 1))))))))))) else some (Step.done x35))
abbrev prop_Run_m8296_r1:List LO:=[lo 4 (.alloc 24) 0,lo 5 (.alloc 3) 0]
abbrev prop_Run_m8296_r2:List LO:=[lo 13 (.build 50 #[]) 50,lo 14 (.box 50 (.tmp 13)) 46,lo 6 (.alloc 46) 0,ln (.store 46 (.tmp 6) (.tmp 14)) 0]
abbrev prop_Run_m8296_r3:List LO:=[lm 15 1 23,lo 16 (.call ⟨.builtin .len,#[.tmp 15],#[23]⟩) 3,lo 17 (.move (.const (.int .i64 0))) 3]
abbrev prop_Run_m8296_r4:List LO:=[lo 18 (.binOp .lss 3 (.tmp 17) (.tmp 16) 3) 0]
abbrev prop_Run_m8296_r5:List LO:=[lo 19 (.indexAddr 23 (.tmp 15) (.tmp 17)) 0,lo 20 (.load 3 (.tmp 19)) 3,lo 8 (.assign (.tmp 20)) 3]
abbrev prop_Run_m8296_r6:List LO:=[lm 21 8 3,lo 22 (.call ⟨.value (.func 21),#[.tmp 21],#[3]⟩) 4,lo 23 (.unOp .not 4 (.tmp 22)) 4]
abbrev prop_Run_m8296_r7:List LO:=[lo 24 (.load 46 (.tmp 6)) 46,lm 25 8 3,lo 26 (.call ⟨.value (.func 27),#[.tmp 24,.tmp 25],#[46,3]⟩) 3]
abbrev prop_Run_m8296_r8:List LO:=[lo 28 (.binOp .eql 3 (.tmp 26) (.const (.int .i64 (-1))) 3) 4,lo 27 (.assign (.tmp 28)) 4]
abbrev prop_Run_m8296_r9:List LO:=[lo 29 (.load 46 (.tmp 6)) 46,lo 30 (.nilCheck (.tmp 29)) 0,lo 31 (.fieldAddr 50 (.tmp 30) 1) 0,lo 32 (.load 24 (.tmp 31)) 24,ln (.store 24 (.tmp 4) (.tmp 32)) 0,ln (.store 3 (.tmp 5) (.const (.int .i64 (-2)))) 0]
abbrev prop_Run_m8296_r10:List LO:=[lo 34 (.binOp .eql 3 (.tmp 26) (.const (.int .i64 0)) 3) 4,lo 33 (.assign (.tmp 34)) 4]
abbrev prop_Run_m8296_r11:List LO:=[lo 35 (.load 46 (.tmp 6)) 46,lm 36 8 3,lo 37 (.call ⟨.value (.func 28),#[.tmp 35,.tmp 36,.const (.int .i64 (-1))],#[46,3,3]⟩) 0]
abbrev prop_Run_m8296_r12:List LO:=[lo 38 (.binOp .add 3 (.tmp 17) (.const (.int .i64 1)) 3) 3,lm 17 38 3]
abbrev prop_Run_m8296_r13:List LO:=[lo 9 (.alloc 3) 0,lo 10 (.alloc 3) 0,ln (.store 3 (.tmp 9) (.const (.int .i64 (-1)))) 0,ln (.store 3 (.tmp 10) (.const (.int .i64 0))) 0]
abbrev prop_Run_m8296_r14:List LO:=[lo 39 (.load 46 (.tmp 6)) 46,lm 40 0 22,lo 41 (.call ⟨.value (.func 29),#[.tmp 39,.tmp 40],#[46,22]⟩) 53]
abbrev prop_Run_m8296_r15:List LO:=[lo 11 (.assign (.tmp 42)) 3]
abbrev prop_Run_m8296_r16:List LO:=[lo 12 (.assign (.tmp 43)) 3]
abbrev prop_Run_m8296_r17:List LO:=[lm 44 12 3,lo 45 (.binOp .eql 3 (.tmp 44) (.const (.int .i64 0)) 3) 4]
abbrev prop_Run_m8296_r18:List LO:=[lo 46 (.load 46 (.tmp 6)) 46,lo 47 (.nilCheck (.tmp 46)) 0,lo 48 (.fieldAddr 50 (.tmp 47) 1) 0,lo 49 (.load 24 (.tmp 48)) 24,lm 50 11 3,ln (.store 24 (.tmp 4) (.tmp 49)) 0,ln (.store 3 (.tmp 5) (.tmp 50)) 0]
abbrev prop_Run_m8296_r19:List LO:=[lo 51 (.load 3 (.tmp 9)) 3,lo 52 (.binOp .lss 3 (.tmp 51) (.const (.int .i64 0)) 3) 4]
abbrev prop_Run_m8296_r20:List LO:=[lm 53 11 3,lm 54 12 3,ln (.store 3 (.tmp 9) (.tmp 53)) 0,ln (.store 3 (.tmp 10) (.tmp 54)) 0]
noncomputable def prop_Run_m8296_y21_a0:Code:=codeSub (bodyOf Go.Proofs.Try.f14) [1,0,1,1,1,0,0,0,0,1,0,1,0,0]
theorem prop_Run_m8296_y21_aw:lower E prop_Run_m8296_y21_a0=some (.seq (.reg false prop_Run_m8296_r15) (.reg false prop_Run_m8296_r16)):=by kernel_rfl
noncomputable def prop_Run_m8296_y21_b0:Code:=codeSub (bodyOf Go.Proofs.Try.f14) [1,0,1,1,1,0,0,0,0,1,0,1,0,1]
theorem prop_Run_m8296_y21_bw:lower E prop_Run_m8296_y21_b0=some (.block 6 (.seq (.seq (.reg false prop_Run_m8296_r17) (.cond (.tmp 45) (.seq (.reg false prop_Run_m8296_r18) .ret) .skip)) (.seq (.reg false prop_Run_m8296_r19) (.cond (.tmp 52) (.reg false prop_Run_m8296_r20) .skip)))):=by kernel_rfl
abbrev prop_Run_m8296_r22:List LO:=[lo 55 (.load 3 (.tmp 9)) 3,lo 56 (.binOp .lss 3 (.tmp 55) (.const (.int .i64 0)) 3) 4]
abbrev prop_Run_m8296_r23:List LO:=[lo 57 (.load 46 (.tmp 6)) 46,lo 58 (.load 3 (.tmp 10)) 3,lo 59 (.load 3 (.tmp 9)) 3,lo 60 (.call ⟨.value (.func 28),#[.tmp 57,.tmp 58,.tmp 59],#[46,3,3]⟩) 0]
abbrev prop_Run_m8296_r24:List LO:=[lo 61 (.load 46 (.tmp 6)) 46,lo 62 (.nilCheck (.tmp 61)) 0,lo 63 (.fieldAddr 50 (.tmp 62) 1) 0,lo 64 (.load 24 (.tmp 63)) 24,ln (.store 24 (.tmp 4) (.tmp 64)) 0,ln (.store 3 (.tmp 5) (.const (.int .i64 (-1)))) 0]
noncomputable abbrev prop_Run_m8296_c:LC:=.seq (.reg false prop_Run_m8296_r1) (.scope (.seq (.reg false prop_Run_m8296_r2) (.seq (.seq (.reg false prop_Run_m8296_r3) (.block 0 (.loop (.seq (.reg false prop_Run_m8296_r4) (.seq (.cond (.tmp 18) .skip (.exit 0)) (.seq (.block 1 (.seq (.reg false prop_Run_m8296_r5) (.seq (.seq (.reg false prop_Run_m8296_r6) (.cond (.tmp 23) (.exit 1) .skip)) (.seq (.reg false prop_Run_m8296_r7) (.block 2 (.seq (.reg false prop_Run_m8296_r8) (.cond (.tmp 27) (.seq (.reg false prop_Run_m8296_r9) .ret) (.seq (.reg false prop_Run_m8296_r10) (.cond (.tmp 33) (.reg false prop_Run_m8296_r11) .skip))))))))) (.reg false prop_Run_m8296_r12))))))) (.seq .label (.seq (.block 3 (.loop (.block 4 (.seq (.reg false prop_Run_m8296_r13) (.seq (.seq (.reg false prop_Run_m8296_r14) (.block 5 (.rng (.tmp 41) [42,43] prop_Run_m8296_y21_a0 prop_Run_m8296_y21_b0))) (.seq (.seq (.reg false prop_Run_m8296_r22) (.cond (.tmp 56) (.exit 3) .skip)) (.reg false prop_Run_m8296_r23))))))) (.seq (.reg false prop_Run_m8296_r24) .ret))))))
theorem prop_Run_m8296_k:FnOk E 14 65 [.cell 4 24,.cell 5 3] prop_Run_m8296_c:=⟨⟨Go.Proofs.Try.f14,by kernel_rfl,by kernel_rfl,by kernel_rfl,by kernel_rfl,by kernel_rfl⟩,rfl,rfl⟩
noncomputable def prop_Run_m8296_l1 (a1:List Int):(List Int × List S_api_Deduced × Int)→Option (Step (List Int × List S_api_Deduced × Int) ((List S_api_Deduced) ⊕ (List Int × List S_api_Deduced))):=fun (x99,x100,x101)=>(if (decide (x101 < (List.length a1:Int)))=true then Option.bind (Option.bind (ixl a1 x101) (fun x124=>Option.bind (prop_literal x124) (fun x125=>(if (!x125)=true then some (Sum.inl (x99,x100)) else Option.bind (prop_sheet_of x99 x100 x124) (fun x126=>(if (x126 == (-1))=true then Option.bind (lenA 4097 x99) (fun x127=>some (Sum.inr ())) else (if (x126 == 0)=true then Option.bind (prop_sheet_set x99 x100 x124 (-1)) (fun (x128,x129)=>some (Sum.inl (x128,x129))) else some (Sum.inl (x99,x100)))))))):Option ((List Int × List S_api_Deduced) ⊕ (Unit))) (fun y=>match y with | Sum.inl (x122,x123)=>some (Step.next (x122,x123,(w64 (x101 + 1)))) | Sum.inr _=>some (Step.done (Sum.inl x100))) else some (Step.done (Sum.inr (x99,x100))))
noncomputable abbrev prop_Run_m8296_lp41 (a0:List (List Int)) (q:LoopState) (p:Option Code):AObj:=.loop { state:=q,pending:=p,tmps:=tl 65 [V 0 (.fsl 1 (List.map c_L3 a0)),V 4 (pt 1 1),V 5 (pt 2 1),V 6 (pt 3 1),V 9 (pt 6 1),V 10 (pt 7 1),V 41 (.fn 38 [pt 8 1,pt 9 1])] none,params:=[42,43],assign:=prop_Run_m8296_y21_a0,body:=prop_Run_m8296_y21_b0 }
noncomputable def prop_Run_m8296_l2 (a0:List (List Int)) (x157:List Int) (x158:List S_api_Deduced):(Int × Int × Int)→Option (Step (Int × Int × Int) ((Int × Int × Int) ⊕ (Int × Int))):=fun (x198,x199,x200)=>(if (decide (x198 < (List.length a0:Int)))=true then Option.bind (ixl a0 x198) (fun x217=>Option.bind (prop_sheet_look x157 x158 x217) (fun (x218,x219)=>Option.bind (if (x218 || (x219 != 0))=true then Option.bind ((if (x219 == 0)=true then Option.bind (lenA 4097 x157) (fun x228=>some (Sum.inl ())) else (if (decide (x199 < 0))=true then some (Sum.inr (x198,x219)) else some (Sum.inr (x199,x200)))):Option ((Unit) ⊕ (Int × Int))) (fun y=>match y with | Sum.inl _=>some (Sum.inl ()) | Sum.inr (x226,x227)=>some (Sum.inr (x226,x227))) else some (Sum.inr (x199,x200)):Option ((Unit) ⊕ (Int × Int))) (fun y=>match y with | Sum.inl _=>some (Step.done (Sum.inl (x198,x199,x200))) | Sum.inr (x223,x224)=>some (Step.next ((w64 (x198 + 1)),x223,x224))))) else some (Step.done (Sum.inr (x199,x200))))
noncomputable def prop_Run_m8296_l3 (a0:List (List Int)):(List Int × List S_api_Deduced)→Option (Step (List Int × List S_api_Deduced) ((List S_api_Deduced × Int) ⊕ (List Int × List S_api_Deduced))):=fun (x157,x158)=>Option.bind (prop_sheet_counts x157 x158 a0) (fun _=>Option.bind (loopC (prop_Run_m8296_l2 a0 x157 x158) (0,(-1),0)) (fun y=>match y with | Sum.inl (x212,x213,x214)=>some (Step.done (Sum.inl (x158,x212))) | Sum.inr (x215,x216)=>(if (decide (x215 < 0))=true then some (Step.done (Sum.inr (x157,x158))) else Option.bind (prop_sheet_set x157 x158 x216 x215) (fun (x229,x230)=>some (Step.next (x229,x230))))))
abbrev prop_Run_m8296_T (a0:List (List Int)) (a1:List Int) (r:List S_api_Deduced × Int):CS:=⟨[V 4 (pt 1 1),V 5 (pt 3 1)],[(0,.rows 1 (List.map cI a1)),W 1 1 [.osl 2 0 (List.length r.1) 2],(2,.rows 2 (List.map c_S_api_Deduced r.1)),W 3 1 [iv r.2]],4⟩
noncomputable def prop_Run_m8296 (a0:List (List Int)) (a1:List Int):Option (List S_api_Deduced × Int):=Option.bind (loopC (prop_Run_m8296_l1 a1) ((List.replicate 4097 (0:Int)),[],0)) (fun y=>match y with | Sum.inl x113=>some (x113,(-2)) | Sum.inr (x114,x115)=>Option.bind (loopC (prop_Run_m8296_l3 a0) (x114,x115)) (fun y=>match y with | Sum.inl (x188,x189)=>some (x188,x189) | Sum.inr (x190,x191)=>Option.bind (lenA 4097 x190) (fun x231=>some (x191,(-1)))))
theorem prop_Run_m8296_ok (a0:List (List Int)) (a1:List Int):CtM E 14 [.fsl 1 (List.map c_L3 a0),.osl 0 0 (List.length a1) 1] [(0,.rows 1 (List.map cI a1))] 1 (prop_Run_m8296 a0 a1) (fun r:List S_api_Deduced × Int=>.tup [.osl 2 0 (List.length r.1) 2,iv r.2]) (fun r:List S_api_Deduced × Int=>[(0,.rows 1 (List.map cI a1)),(2,.rows 2 (List.map c_S_api_Deduced r.1))]) 4:=ctm_intro (N:=65) (L:=prop_Run_m8296_c) prop_Run_m8296_k rfl (Nat.le_of_ble_eq_true rfl) (fun F hF=>by
 unfold prop_Run_m8296
 refine jS ⟨[V 0 (.fsl 1 (List.map c_L3 a0)),V 1 (.osl 0 0 (List.length a1) 1),V 4 (pt 1 1),V 5 (pt 2 1)],[(0,.rows 1 (List.map cI a1)),W 1 1 [nilS],W 2 1 [iv 0]],3⟩ ?_
 refine jc_scope ?_
 refine jS ⟨[V 0 (.fsl 1 (List.map c_L3 a0)),V 1 (.osl 0 0 (List.length a1) 1),V 4 (pt 1 1),V 5 (pt 2 1),V 6 (pt 4 1)],[(0,.rows 1 (List.map cI a1)),W 1 1 [nilS],W 2 1 [iv 0],(3,.rows 4098 [List.map aI8 (List.replicate 4097 (0:Int)) ++ [nilS]]),W 4 1 [pt 3 4098]],5⟩ ?_
 refine jc_seq ?_
 refine jS ⟨[V 0 (.fsl 1 (List.map c_L3 a0)),V 4 (pt 1 1),V 5 (pt 2 1),V 6 (pt 4 1),V 15 (.osl 0 0 (List.length a1) 1),V 16 (iv (List.length a1:Int)),V 17 (iv 0)],[(0,.rows 1 (List.map cI a1)),W 1 1 [nilS],W 2 1 [iv 0],(3,.rows 4098 [List.map aI8 (List.replicate 4097 (0:Int)) ++ [nilS]]),W 4 1 [pt 3 4098]],5⟩ ?_
 refine jc_block ?_
 refine jc_bind (fun y=>match y with | Sum.inl x113=>⟨[V 4 (pt 1 1),V 5 (pt 3 1)],[(0,.rows 1 (List.map cI a1)),W 1 1 [.osl 2 0 (List.length x113) 2],(2,.rows 2 (List.map c_S_api_Deduced x113)),W 3 1 [iv (-2)]],4⟩ | Sum.inr (x114,x115)=>⟨[V 0 (.fsl 1 (List.map c_L3 a0)),V 4 (pt 1 1),V 5 (pt 2 1),V 6 (pt 3 1)],[(0,.rows 1 (List.map cI a1)),W 1 1 [nilS],W 2 1 [iv 0],W 3 1 [pt 4 4098],(4,.rows 4098 [List.map aI8 x114 ++ [.osl 5 0 (List.length x115) 2]]),(5,.rows 2 (List.map c_S_api_Deduced x115))],6⟩) (fun y=>match y with | Sum.inl x113=>.ret | Sum.inr (x114,x115)=>(.exit 0)) (jc_loop (fun (x99,x100,x101)=>⟨[V 0 (.fsl 1 (List.map c_L3 a0)),V 4 (pt 1 1),V 5 (pt 2 1),V 6 (pt 3 1),V 15 (.osl 0 0 (List.length a1) 1),V 16 (iv (List.length a1:Int)),V 17 (iv x101)],[(0,.rows 1 (List.map cI a1)),W 1 1 [nilS],W 2 1 [iv 0],W 3 1 [pt 4 4098],(4,.rows 4098 [List.map aI8 x99 ++ [.osl 5 0 (List.length x100) 2]]),(5,.rows 2 (List.map c_S_api_Deduced x100))],6⟩) (wkR [(0,some 0),(1,some 1),(2,some 2),(3,some 4),(4,some 3),(5,none)] (fix_of hF (k:=1) rfl) (pc (hL 0 (noid_map ni_I _)) (pc (hC 1) (pc (hC 2) (pc (hC 4) (pc (hA 3) (pc hZ allp_nil))))))) ?_) ?_
 ·rintro⟨x99,x100,x101⟩
  unfold prop_Run_m8296_l1
  refine jS ⟨[V 0 (.fsl 1 (List.map c_L3 a0)),V 4 (pt 1 1),V 5 (pt 2 1),V 6 (pt 3 1),V 15 (.osl 0 0 (List.length a1) 1),V 16 (iv (List.length a1:Int)),V 17 (iv x101),V 18 (bv (decide (x101 < (List.length a1:Int))))],[(0,.rows 1 (List.map cI a1)),W 1 1 [nilS],W 2 1 [iv 0],W 3 1 [pt 4 4098],(4,.rows 4098 [List.map aI8 x99 ++ [.osl 5 0 (List.length x100) 2]]),(5,.rows 2 (List.map c_S_api_Deduced x100))],6⟩ ?_
  refine jc_seq ?_
  refine jIf ?_ ?_
  ·refine jc_skip ?_
   refine jx_seqN ?_
   refine jc_seq ?_
   refine jc_bind (fun y=>match y with | Sum.inl (x122,x123)=>⟨[V 0 (.fsl 1 (List.map c_L3 a0)),V 4 (pt 1 1),V 5 (pt 2 1),V 6 (pt 3 1),V 15 (.osl 0 0 (List.length a1) 1),V 16 (iv (List.length a1:Int)),V 17 (iv x101)],[(0,.rows 1 (List.map cI a1)),W 1 1 [nilS],W 2 1 [iv 0],W 3 1 [pt 4 4098],(4,.rows 4098 [List.map aI8 x122 ++ [.osl 5 0 (List.length x123) 2]]),(5,.rows 2 (List.map c_S_api_Deduced x123))],6⟩ | Sum.inr _=>⟨[V 4 (pt 1 1),V 5 (pt 3 1)],[(0,.rows 1 (List.map cI a1)),W 1 1 [.osl 2 0 (List.length x100) 2],(2,.rows 2 (List.map c_S_api_Deduced x100)),W 3 1 [iv (-2)]],4⟩) (fun y=>match y with | Sum.inl (x122,x123)=>.normal | Sum.inr _=>.ret) ?_ ?_
   ·refine jc_block ?_
    refine jR ?_
    refine jr_part (i:=0) (mo:=ixl a1 x101) rfl rfl rfl rfl (fun _ hc=>aop_ixo0 (sz:=1) (e:=3) (kk:=.i64) (id:=0) (by kernel_rfl) (by kernel_rfl) (by kernel_rfl) (by kernel_rfl) hc) (fun _=>rfl) ?_
    intro x124 h124
    refine jr_one (i:=1) (v:=iv x124) rfl rfl rfl rfl (aop_ldo (l:=a1) (c:=cI) (id:=0) (k:=(Int.toNat x101)) (sz:=1) (off:=0) (a:=x124) (by kernel_rfl) (by kernel_rfl) (ixl_lt h124).2.2 (by kernel_rfl)) rfl ?_
    refine jG 2 1 ⟨[V 0 (.fsl 1 (List.map c_L3 a0)),V 4 (pt 1 1),V 5 (pt 2 1),V 6 (pt 3 1),V 8 (iv x124),V 15 (.osl 0 0 (List.length a1) 1),V 16 (iv (List.length a1:Int)),V 17 (iv x101)],[(0,.rows 1 (List.map cI a1)),W 1 1 [nilS],W 2 1 [iv 0],W 3 1 [pt 4 4098],(4,.rows 4098 [List.map aI8 x99 ++ [.osl 5 0 (List.length x100) 2]]),(5,.rows 2 (List.map c_S_api_Deduced x100))],6⟩ ?_
    refine jN ?_
    refine jc_seq ?_
    refine jR ?_
    refine jG 0 1 ⟨[V 0 (.fsl 1 (List.map c_L3 a0)),V 4 (pt 1 1),V 5 (pt 2 1),V 6 (pt 3 1),V 8 (iv x124),V 15 (.osl 0 0 (List.length a1) 1),V 16 (iv (List.length a1:Int)),V 17 (iv x101),V 21 (iv x124)],[(0,.rows 1 (List.map cI a1)),W 1 1 [nilS],W 2 1 [iv 0],W 3 1 [pt 4 4098],(4,.rows 4098 [List.map aI8 x99 ++ [.osl 5 0 (List.length x100) 2]]),(5,.rows 2 (List.map c_S_api_Deduced x100))],6⟩ ?_
    refine jK 1 (prop_literal_ok x124) ?_
    intro x125 h125
    refine jG 2 1 ⟨[V 0 (.fsl 1 (List.map c_L3 a0)),V 4 (pt 1 1),V 5 (pt 2 1),V 6 (pt 3 1),V 8 (iv x124),V 15 (.osl 0 0 (List.length a1) 1),V 16 (iv (List.length a1:Int)),V 17 (iv x101),V 23 (bv (!x125))],[(0,.rows 1 (List.map cI a1)),W 1 1 [nilS],W 2 1 [iv 0],W 3 1 [pt 4 4098],(4,.rows 4098 [List.map aI8 x99 ++ [.osl 5 0 (List.length x100) 2]]),(5,.rows 2 (List.map c_S_api_Deduced x100))],6⟩ ?_
    refine jN ?_
    refine jIf ?_ ?_
    ·refine jc_exit ?_
     refine jx_seqE ?_
     refine jx_blkE ?_
     exact jx_mid rfl (wkR [(0,some 0),(1,some 1),(2,some 2),(3,some 3),(4,some 4),(5,some 5)] (fix_of hF (k:=1) rfl) (pc (hL 0 (noid_map ni_I _)) (pc (hC 1) (pc (hC 2) (pc (hC 3) (pc (hA 4) (pc (hL 5 (noid_map ni_S_api_Deduced _)) allp_nil)))))))
    refine jc_skip ?_
    refine jx_seqN ?_
    refine jR ?_
    refine jG 0 2 ⟨[V 0 (.fsl 1 (List.map c_L3 a0)),V 4 (pt 1 1),V 5 (pt 2 1),V 6 (pt 3 1),V 8 (iv x124),V 15 (.osl 0 0 (List.length a1) 1),V 16 (iv (List.length a1:Int)),V 17 (iv x101),V 24 (pt 4 4098),V 25 (iv x124)],[(0,.rows 1 (List.map cI a1)),W 1 1 [nilS],W 2 1 [iv 0],W 3 1 [pt 4 4098],(4,.rows 4098 [List.map aI8 x99 ++ [.osl 5 0 (List.length x100) 2]]),(5,.rows 2 (List.map c_S_api_Deduced x100))],6⟩ ?_
    refine jr_callM 2 [(0,some 4),(1,some 5)] [(4,some 0),(5,some 1)] (fun r:Int=>[(0,.rows 1 (List.map cI a1)),W 1 1 [nilS],W 2 1 [iv 0],W 3 1 [pt 4 4098],(4,.rows 4098 [List.map aI8 x99 ++ [.osl 5 0 (List.length x100) 2]]),(5,.rows 2 (List.map c_S_api_Deduced x100))]) (fun r:Int=>iv r) 6 (prop_sheet_of_ok x99 x100 x124) (pc (hA 4) (pc (hL 5 (noid_map ni_S_api_Deduced _)) allp_nil)) (fun r=>(pc (.inl ⟨rfl,rfl⟩) (pc (.inl ⟨rfl,rfl⟩) (pc (.inl ⟨rfl,rfl⟩) (pc (.inl ⟨rfl,rfl⟩) (pc (.inr (hA 0)) (pc (.inr (hL 1 (noid_map ni_S_api_Deduced _))) allp_nil))))))) ?_
    rintro x126 hm26
    refine jN ?_
    refine jc_block ?_
    refine jS ⟨[V 0 (.fsl 1 (List.map c_L3 a0)),V 4 (pt 1 1),V 5 (pt 2 1),V 6 (pt 3 1),V 8 (iv x124),V 15 (.osl 0 0 (List.length a1) 1),V 16 (iv (List.length a1:Int)),V 17 (iv x101),V 26 (iv x126),V 27 (bv (x126 == (-1)))],[(0,.rows 1 (List.map cI a1)),W 1 1 [nilS],W 2 1 [iv 0],W 3 1 [pt 4 4098],(4,.rows 4098 [List.map aI8 x99 ++ [.osl 5 0 (List.length x100) 2]]),(5,.rows 2 (List.map c_S_api_Deduced x100))],6⟩ ?_
    refine jIf ?_ ?_
    ·refine jR ?_
     refine jG 0 3 ⟨[V 4 (pt 1 1),V 5 (pt 2 1),V 31 (.ptr 4 0 4098 4097)],[(0,.rows 1 (List.map cI a1)),W 1 1 [nilS],W 2 1 [iv 0],(4,.rows 4098 [List.map aI8 x99 ++ [.osl 5 0 (List.length x100) 2]]),(5,.rows 2 (List.map c_S_api_Deduced x100))],6⟩ ?_
     refine jr_guard ?_
     intro x127 h127
     refine jr_one (i:=3) (v:=.osl 5 0 (List.length x100) 2) (us:=[]) rfl rfl rfl rfl (aop_ldr (l:=x99) (c:=aI8) (rest:=[.osl 5 0 (List.length x100) 2]) (id:=4) (sz:=4098) (m:=4097) (q:=0) (by kernel_rfl) (by kernel_rfl) (by kernel_rfl) (by kernel_rfl) (lenA_iff h127) (by kernel_rfl)) rfl ?_
     refine jG 4 2 ⟨[V 4 (pt 1 1),V 5 (pt 2 1)],[(0,.rows 1 (List.map cI a1)),W 1 1 [.osl 5 0 (List.length x100) 2],W 2 1 [iv (-2)],(5,.rows 2 (List.map c_S_api_Deduced x100))],6⟩ ?_
     refine jN ?_
     refine jc_ret ?_
     refine jx_blkR ?_
     refine jx_blkR ?_
     exact jx_mid rfl (wkR [(0,some 0),(1,some 1),(2,some 5),(3,some 2)] (fix_of hF (k:=1) rfl) (pc (hL 0 (noid_map ni_I _)) (pc (hC 1) (pc (hL 5 (noid_map ni_S_api_Deduced _)) (pc (hC 2) allp_nil)))))
    refine jS ⟨[V 0 (.fsl 1 (List.map c_L3 a0)),V 4 (pt 1 1),V 5 (pt 2 1),V 6 (pt 3 1),V 8 (iv x124),V 15 (.osl 0 0 (List.length a1) 1),V 16 (iv (List.length a1:Int)),V 17 (iv x101),V 33 (bv (x126 == 0))],[(0,.rows 1 (List.map cI a1)),W 1 1 [nilS],W 2 1 [iv 0],W 3 1 [pt 4 4098],(4,.rows 4098 [List.map aI8 x99 ++ [.osl 5 0 (List.length x100) 2]]),(5,.rows 2 (List.map c_S_api_Deduced x100))],6⟩ ?_
    refine jIf ?_ ?_
    ·refine jc_reg ?_
     refine jG 0 2 ⟨[V 0 (.fsl 1 (List.map c_L3 a0)),V 4 (pt 1 1),V 5 (pt 2 1),V 6 (pt 3 1),V 15 (.osl 0 0 (List.length a1) 1),V 16 (iv (List.length a1:Int)),V 17 (iv x101),V 35 (pt 4 4098),V 36 (iv x124)],[(0,.rows 1 (List.map cI a1)),W 1 1 [nilS],W 2 1 [iv 0],W 3 1 [pt 4 4098],(4,.rows 4098 [List.map aI8 x99 ++ [.osl 5 0 (List.length x100) 2]]),(5,.rows 2 (List.map c_S_api_Deduced x100))],6⟩ ?_
     refine jr_callM 2 [(0,some 4),(1,some 5)] [(4,some 0),(6,some 2)] (fun r:List Int × List S_api_Deduced=>[(0,.rows 1 (List.map cI a1)),W 1 1 [nilS],W 2 1 [iv 0],W 3 1 [pt 4 4098],(4,.rows 4098 [List.map aI8 r.1 ++ [.osl 6 0 (List.length r.2) 2]]),(6,.rows 2 (List.map c_S_api_Deduced r.2))]) (fun r:List Int × List S_api_Deduced=>.tup []) 7 (prop_sheet_set_ok x99 x100 x124 (-1)) (pc (hA 4) (pc (hL 5 (noid_map ni_S_api_Deduced _)) allp_nil)) (fun r=>(pc (.inl ⟨rfl,rfl⟩) (pc (.inl ⟨rfl,rfl⟩) (pc (.inl ⟨rfl,rfl⟩) (pc (.inl ⟨rfl,rfl⟩) (pc (.inr (hA 0)) (pc (.inr (hL 2 (noid_map ni_S_api_Deduced _))) allp_nil))))))) ?_
     rintro⟨x128,x129⟩ hm25
     refine jr_nil rfl ?_
     refine jx_blkN ?_
     refine jx_blkN ?_
     exact jx_mid rfl (wkR [(0,some 0),(1,some 1),(2,some 2),(3,some 3),(4,some 4),(5,some 6)] (fix_of hF (k:=1) rfl) (pc (hL 0 (noid_map ni_I _)) (pc (hC 1) (pc (hC 2) (pc (hC 3) (pc (hA 4) (pc (hL 6 (noid_map ni_S_api_Deduced _)) allp_nil)))))))
    refine jc_skip ?_
    refine jx_blkN ?_
    refine jx_blkN ?_
    exact jx_mid rfl (wkR [(0,some 0),(1,some 1),(2,some 2),(3,some 3),(4,some 4),(5,some 5)] (fix_of hF (k:=1) rfl) (pc (hL 0 (noid_map ni_I _)) (pc (hC 1) (pc (hC 2) (pc (hC 3) (pc (hA 4) (pc (hL 5 (noid_map ni_S_api_Deduced _)) allp_nil)))))))
   rintro (⟨x122,x123⟩ | _)
   ·refine jx_seqN ?_
    refine jT ⟨[V 0 (.fsl 1 (List.map c_L3 a0)),V 4 (pt 1 1),V 5 (pt 2 1),V 6 (pt 3 1),V 15 (.osl 0 0 (List.length a1) 1),V 16 (iv (List.length a1:Int)),V 17 (iv (w64 (x101 + 1)))],[(0,.rows 1 (List.map cI a1)),W 1 1 [nilS],W 2 1 [iv 0],W 3 1 [pt 4 4098],(4,.rows 4098 [List.map aI8 x122 ++ [.osl 5 0 (List.length x123) 2]]),(5,.rows 2 (List.map c_S_api_Deduced x123))],6⟩ ?_
    exact jx_next (wkR [(0,some 0),(1,some 1),(2,some 2),(3,some 3),(4,some 4),(5,some 5)] (fix_of hF (k:=1) rfl) (pc (hL 0 (noid_map ni_I _)) (pc (hC 1) (pc (hC 2) (pc (hC 3) (pc (hA 4) (pc (hL 5 (noid_map ni_S_api_Deduced _)) allp_nil)))))))
   refine jx_seqR ?_
   exact jx_done rfl nofun (wkR [(0,some 0),(1,some 1),(2,some 2),(3,some 3)] (fix_of hF (k:=1) rfl) (pc (hL 0 (noid_map ni_I _)) (pc (hC 1) (pc (hL 2 (noid_map ni_S_api_Deduced _)) (pc (hC 3) allp_nil)))))
  refine jc_exit ?_
  refine jx_seqE ?_
  exact jx_done rfl nofun (wkR [(0,some 0),(1,some 1),(2,some 2),(3,some 3),(4,some 4),(5,some 5)] (fix_of hF (k:=1) rfl) (pc (hL 0 (noid_map ni_I _)) (pc (hC 1) (pc (hC 2) (pc (hC 3) (pc (hA 4) (pc (hL 5 (noid_map ni_S_api_Deduced _)) allp_nil)))))))
 rintro (x113 | ⟨x114,x115⟩)
 ·refine jx_blkR ?_
  refine jx_seqR ?_
  refine jx_scopeR ?_
  exact jx_retM (prop_Run_m8296_T a0 a1 (x113,(-2))) (.inr rfl) (wkR [(0,some 0),(1,some 1),(2,some 2),(3,some 3)] (fix_of hF (k:=1) rfl) (pc (hL 0 (noid_map ni_I _)) (pc (hC 1) (pc (hL 2 (noid_map ni_S_api_Deduced _)) (pc (hC 3) allp_nil)))))
 refine jx_blkE ?_
 refine jx_seqN ?_
 refine jc_seq ?_
 refine jc_label ?_
 refine jx_seqN ?_
 refine jc_seq ?_
 refine jc_block ?_
 refine jc_bind (fun y=>match y with | Sum.inl (x188,x189)=>⟨[V 4 (pt 1 1),V 5 (pt 3 1)],[(0,.rows 1 (List.map cI a1)),W 1 1 [.osl 2 0 (List.length x188) 2],(2,.rows 2 (List.map c_S_api_Deduced x188)),W 3 1 [iv x189]],4⟩ | Sum.inr (x190,x191)=>⟨[V 4 (pt 1 1),V 5 (pt 2 1),V 6 (pt 3 1)],[(0,.rows 1 (List.map cI a1)),W 1 1 [nilS],W 2 1 [iv 0],W 3 1 [pt 4 4098],(4,.rows 4098 [List.map aI8 x190 ++ [.osl 5 0 (List.length x191) 2]]),(5,.rows 2 (List.map c_S_api_Deduced x191))],6⟩) (fun y=>match y with | Sum.inl (x188,x189)=>.ret | Sum.inr (x190,x191)=>(.exit 3)) (jc_loop (fun (x157,x158)=>⟨[V 0 (.fsl 1 (List.map c_L3 a0)),V 4 (pt 1 1),V 5 (pt 2 1),V 6 (pt 3 1)],[(0,.rows 1 (List.map cI a1)),W 1 1 [nilS],W 2 1 [iv 0],W 3 1 [pt 4 4098],(4,.rows 4098 [List.map aI8 x157 ++ [.osl 5 0 (List.length x158) 2]]),(5,.rows 2 (List.map c_S_api_Deduced x158))],6⟩) (wkR [(0,some 0),(1,some 1),(2,some 2),(3,some 3),(4,some 4),(5,some 5)] (fix_of hF (k:=1) rfl) (pc (hL 0 (noid_map ni_I _)) (pc (hC 1) (pc (hC 2) (pc (hC 3) (pc (hA 4) (pc (hL 5 (noid_map ni_S_api_Deduced _)) allp_nil))))))) ?_) ?_
 ·rintro⟨x157,x158⟩
  unfold prop_Run_m8296_l3
  refine jc_block ?_
  refine jS ⟨[V 0 (.fsl 1 (List.map c_L3 a0)),V 4 (pt 1 1),V 5 (pt 2 1),V 6 (pt 3 1),V 9 (pt 6 1),V 10 (pt 7 1)],[(0,.rows 1 (List.map cI a1)),W 1 1 [nilS],W 2 1 [iv 0],W 3 1 [pt 4 4098],(4,.rows 4098 [List.map aI8 x157 ++ [.osl 5 0 (List.length x158) 2]]),(5,.rows 2 (List.map c_S_api_Deduced x158)),W 6 1 [iv (-1)],W 7 1 [iv 0]],8⟩ ?_
  refine jc_seq ?_
  refine jR ?_
  refine jG 0 2 ⟨[V 0 (.fsl 1 (List.map c_L3 a0)),V 4 (pt 1 1),V 5 (pt 2 1),V 6 (pt 3 1),V 9 (pt 6 1),V 10 (pt 7 1),V 39 (pt 4 4098),V 40 (.fsl 1 (List.map c_L3 a0))],[(0,.rows 1 (List.map cI a1)),W 1 1 [nilS],W 2 1 [iv 0],W 3 1 [pt 4 4098],(4,.rows 4098 [List.map aI8 x157 ++ [.osl 5 0 (List.length x158) 2]]),(5,.rows 2 (List.map c_S_api_Deduced x158)),W 6 1 [iv (-1)],W 7 1 [iv 0]],8⟩ ?_
  refine jr_callM 2 [(0,some 4),(1,some 5)] [(4,some 0),(5,some 1),(8,some 2),(9,some 3)] (fun r:Unit=>[(0,.rows 1 (List.map cI a1)),W 1 1 [nilS],W 2 1 [iv 0],W 3 1 [pt 4 4098],(4,.rows 4098 [List.map aI8 x157 ++ [.osl 5 0 (List.length x158) 2]]),(5,.rows 2 (List.map c_S_api_Deduced x158)),W 6 1 [iv (-1)],W 7 1 [iv 0],W 8 1 [.fsl 1 (List.map c_L3 a0)],W 9 1 [pt 4 4098]]) (fun r:Unit=>.fn 38 [pt 8 1,pt 9 1]) 10 (prop_sheet_counts_ok x157 x158 a0) (pc (hA 4) (pc (hL 5 (noid_map ni_S_api_Deduced _)) allp_nil)) (fun r=>(pc (.inl ⟨rfl,rfl⟩) (pc (.inl ⟨rfl,rfl⟩) (pc (.inl ⟨rfl,rfl⟩) (pc (.inl ⟨rfl,rfl⟩) (pc (.inr (hA 0)) (pc (.inr (hL 1 (noid_map ni_S_api_Deduced _))) (pc (.inl ⟨rfl,rfl⟩) (pc (.inl ⟨rfl,rfl⟩) (pc (.inr (hC 2)) (pc (.inr (hC 3)) allp_nil))))))))))) ?_
  rintro⟨⟩ hm50
  refine jN ?_
  refine jc_block ?_
  refine jc_keep [0,4,5,6,9,10,41] [0,1,2,3,4,5,6,7,8,9] (st1:=⟨[V 0 (.fsl 1 (List.map c_L3 a0)),V 4 (pt 1 1),V 5 (pt 2 1),V 6 (pt 3 1),V 9 (pt 6 1),V 10 (pt 7 1),V 41 (.fn 38 [pt 8 1,pt 9 1])],[(0,.rows 1 (List.map cI a1)),W 1 1 [nilS],W 2 1 [iv 0],W 3 1 [pt 4 4098],(4,.rows 4098 [List.map aI8 x157 ++ [.osl 5 0 (List.length x158) 2]]),(5,.rows 2 (List.map c_S_api_Deduced x158)),W 6 1 [iv (-1)],W 7 1 [iv 0],W 8 1 [.fsl 1 (List.map c_L3 a0)],W 9 1 [pt 4 4098]],10⟩) (by kernel_rfl) ?_
  refine jc_rng (g:=38) (caps:=[pt 8 1,pt 9 1]) (by kernel_rfl) prop_sheet_counts_1_it_k (Nat.le_of_ble_eq_true rfl) ?_
  intro F41 hc41
  refine jR ?_
  refine jG 0 3 ⟨[V 0 (.yld 10),V 2 (pt 9 1),V 8 (.fsl 1 (List.map c_L3 a0)),V 9 (iv (List.length (List.map c_L3 a0):Int)),V 10 (iv 0)],[(0,.rows 1 (List.map cI a1)),W 1 1 [nilS],W 2 1 [iv 0],W 3 1 [pt 4 4098],(4,.rows 4098 [List.map aI8 x157 ++ [.osl 5 0 (List.length x158) 2]]),(5,.rows 2 (List.map c_S_api_Deduced x158)),W 6 1 [iv (-1)],W 7 1 [iv 0],W 8 1 [.fsl 1 (List.map c_L3 a0)],W 9 1 [pt 4 4098],(10,prop_Run_m8296_lp41 a0 .ready none)],11⟩ ?_
  simp only[List.length_map]
  refine jN ?_
  refine jc_block ?_
  refine jc_bind (fun y=>match y with | Sum.inl (x212,x213,x214)=>⟨[],[(0,.rows 1 (List.map cI a1)),W 1 1 [.osl 5 0 (List.length x158) 2],W 2 1 [iv x212],W 3 1 [pt 4 4098],(4,.rows 4098 [List.map aI8 x157 ++ [.osl 5 0 (List.length x158) 2]]),(5,.rows 2 (List.map c_S_api_Deduced x158)),W 6 1 [iv x213],W 7 1 [iv x214],W 8 1 [.fsl 1 (List.map c_L3 a0)],W 9 1 [pt 4 4098],(10,prop_Run_m8296_lp41 a0 .done (some .ret))],11⟩ | Sum.inr (x215,x216)=>⟨[],[(0,.rows 1 (List.map cI a1)),W 1 1 [nilS],W 2 1 [iv 0],W 3 1 [pt 4 4098],(4,.rows 4098 [List.map aI8 x157 ++ [.osl 5 0 (List.length x158) 2]]),(5,.rows 2 (List.map c_S_api_Deduced x158)),W 6 1 [iv x215],W 7 1 [iv x216],W 8 1 [.fsl 1 (List.map c_L3 a0)],W 9 1 [pt 4 4098],(10,prop_Run_m8296_lp41 a0 .ready none)],11⟩) (fun y=>match y with | Sum.inl (x212,x213,x214)=>.ret | Sum.inr (x215,x216)=>(.exit 0)) (jc_loop (fun (x198,x199,x200)=>⟨[V 0 (.yld 10),V 2 (pt 9 1),V 8 (.fsl 1 (List.map c_L3 a0)),V 9 (iv (List.length a0:Int)),V 10 (iv x198)],[(0,.rows 1 (List.map cI a1)),W 1 1 [nilS],W 2 1 [iv 0],W 3 1 [pt 4 4098],(4,.rows 4098 [List.map aI8 x157 ++ [.osl 5 0 (List.length x158) 2]]),(5,.rows 2 (List.map c_S_api_Deduced x158)),W 6 1 [iv x199],W 7 1 [iv x200],W 8 1 [.fsl 1 (List.map c_L3 a0)],W 9 1 [pt 4 4098],(10,prop_Run_m8296_lp41 a0 .ready none)],11⟩) (wkR [(0,some 0),(1,some 1),(2,some 2),(3,some 3),(4,some 4),(5,some 5),(6,some 6),(7,some 7),(8,some 8),(9,some 9),(10,some 10)] (fix_of hc41.2.2 (k:=11) rfl) (pc (hL 0 (noid_map ni_I _)) (pc (hC 1) (pc (hC 2) (pc (hC 3) (pc (hA 4) (pc (hL 5 (noid_map ni_S_api_Deduced _)) (pc (hC 6) (pc (hC 7) (pc (hC 8) (pc (hC 9) (pc (.inr (.inr ⟨10,_,_,rfl,rfl,rfl,by kernel_rfl⟩)) allp_nil)))))))))))) ?_) ?_
  ·rintro⟨x198,x199,x200⟩
   unfold prop_Run_m8296_l2
   refine jS ⟨[V 0 (.yld 10),V 2 (pt 9 1),V 8 (.fsl 1 (List.map c_L3 a0)),V 9 (iv (List.length a0:Int)),V 10 (iv x198),V 11 (bv (decide (x198 < (List.length a0:Int))))],[(0,.rows 1 (List.map cI a1)),W 1 1 [nilS],W 2 1 [iv 0],W 3 1 [pt 4 4098],(4,.rows 4098 [List.map aI8 x157 ++ [.osl 5 0 (List.length x158) 2]]),(5,.rows 2 (List.map c_S_api_Deduced x158)),W 6 1 [iv x199],W 7 1 [iv x200],W 8 1 [.fsl 1 (List.map c_L3 a0)],W 9 1 [pt 4 4098],(10,prop_Run_m8296_lp41 a0 .ready none)],11⟩ ?_
   refine jc_seq ?_
   refine jIf ?_ ?_
   ·refine jc_skip ?_
    refine jx_seqN ?_
    refine jc_seq ?_
    refine jc_block ?_
    refine jR ?_
    refine jG 0 1 ⟨[V 0 (.yld 10),V 2 (pt 9 1),V 8 (.fsl 1 (List.map c_L3 a0)),V 9 (iv (List.length a0:Int)),V 10 (iv x198),V 12 (iv x198)],[(0,.rows 1 (List.map cI a1)),W 1 1 [nilS],W 2 1 [iv 0],W 3 1 [pt 4 4098],(4,.rows 4098 [List.map aI8 x157 ++ [.osl 5 0 (List.length x158) 2]]),(5,.rows 2 (List.map c_S_api_Deduced x158)),W 6 1 [iv x199],W 7 1 [iv x200],W 8 1 [.fsl 1 (List.map c_L3 a0)],W 9 1 [pt 4 4098],(10,prop_Run_m8296_lp41 a0 .ready none)],11⟩ ?_
    refine jr_part (i:=1) (mo:=ixl a0 x198) rfl rfl rfl rfl (fun _ hc=>aop_ixf (c:=c_L3) (sz:=1) (e:=23) (kk:=.i64) (by kernel_rfl) (by kernel_rfl) (by kernel_rfl) (by kernel_rfl) hc) (fun _=>rfl) ?_
    intro x217 h217
    refine jG 2 3 ⟨[V 0 (.yld 10),V 2 (pt 9 1),V 4 (iv x198),V 5 (.fsl 1 (List.map cI x217)),V 8 (.fsl 1 (List.map c_L3 a0)),V 9 (iv (List.length a0:Int)),V 10 (iv x198)],[(0,.rows 1 (List.map cI a1)),W 1 1 [nilS],W 2 1 [iv 0],W 3 1 [pt 4 4098],(4,.rows 4098 [List.map aI8 x157 ++ [.osl 5 0 (List.length x158) 2]]),(5,.rows 2 (List.map c_S_api_Deduced x158)),W 6 1 [iv x199],W 7 1 [iv x200],W 8 1 [.fsl 1 (List.map c_L3 a0)],W 9 1 [pt 4 4098],(10,prop_Run_m8296_lp41 a0 .ready none)],11⟩ ?_
    refine jN ?_
    refine jR ?_
    refine jG 0 2 ⟨[V 0 (.yld 10),V 2 (pt 9 1),V 4 (iv x198),V 8 (.fsl 1 (List.map c_L3 a0)),V 9 (iv (List.length a0:Int)),V 10 (iv x198),V 16 (pt 4 4098),V 17 (.fsl 1 (List.map cI x217))],[(0,.rows 1 (List.map cI a1)),W 1 1 [nilS],W 2 1 [iv 0],W 3 1 [pt 4 4098],(4,.rows 4098 [List.map aI8 x157 ++ [.osl 5 0 (List.length x158) 2]]),(5,.rows 2 (List.map c_S_api_Deduced x158)),W 6 1 [iv x199],W 7 1 [iv x200],W 8 1 [.fsl 1 (List.map c_L3 a0)],W 9 1 [pt 4 4098],(10,prop_Run_m8296_lp41 a0 .ready none)],11⟩ ?_
    refine jr_callM 2 [(0,some 4),(1,some 5)] [(4,some 0),(5,some 1)] (fun r:Bool × Int=>[(0,.rows 1 (List.map cI a1)),W 1 1 [nilS],W 2 1 [iv 0],W 3 1 [pt 4 4098],(4,.rows 4098 [List.map aI8 x157 ++ [.osl 5 0 (List.length x158) 2]]),(5,.rows 2 (List.map c_S_api_Deduced x158)),W 6 1 [iv x199],W 7 1 [iv x200],W 8 1 [.fsl 1 (List.map c_L3 a0)],W 9 1 [pt 4 4098],(10,prop_Run_m8296_lp41 a0 .ready none)]) (fun r:Bool × Int=>.tup [bv r.1,iv r.2]) 11 (prop_sheet_look_ok x157 x158 x217) (pc (hA 4) (pc (hL 5 (noid_map ni_S_api_Deduced _)) allp_nil)) (fun r=>(pc (.inl ⟨rfl,rfl⟩) (pc (.inl ⟨rfl,rfl⟩) (pc (.inl ⟨rfl,rfl⟩) (pc (.inl ⟨rfl,rfl⟩) (pc (.inr (hA 0)) (pc (.inr (hL 1 (noid_map ni_S_api_Deduced _))) (pc (.inl ⟨rfl,rfl⟩) (pc (.inl ⟨rfl,rfl⟩) (pc (.inl ⟨rfl,rfl⟩) (pc (.inl ⟨rfl,rfl⟩) (pc (.inl ⟨rfl,rfl⟩) allp_nil)))))))))))) ?_
    rintro⟨x218,x219⟩ hm48
    refine jG 3 5 ⟨[V 0 (.yld 10),V 2 (pt 9 1),V 4 (iv x198),V 6 (bv x218),V 7 (iv x219),V 8 (.fsl 1 (List.map c_L3 a0)),V 9 (iv (List.length a0:Int)),V 10 (iv x198)],[(0,.rows 1 (List.map cI a1)),W 1 1 [nilS],W 2 1 [iv 0],W 3 1 [pt 4 4098],(4,.rows 4098 [List.map aI8 x157 ++ [.osl 5 0 (List.length x158) 2]]),(5,.rows 2 (List.map c_S_api_Deduced x158)),W 6 1 [iv x199],W 7 1 [iv x200],W 8 1 [.fsl 1 (List.map c_L3 a0)],W 9 1 [pt 4 4098],(10,prop_Run_m8296_lp41 a0 .ready none)],11⟩ ?_
    refine jN ?_
    refine jR ?_
    refine jG 0 6 ⟨[V 0 (.yld 10),V 2 (pt 9 1),V 4 (iv x198),V 7 (iv x219),V 8 (.fsl 1 (List.map c_L3 a0)),V 9 (iv (List.length a0:Int)),V 10 (iv x198),V 26 (bv (x218 || (x219 != 0)))],[(0,.rows 1 (List.map cI a1)),W 1 1 [nilS],W 2 1 [iv 0],W 3 1 [pt 4 4098],(4,.rows 4098 [List.map aI8 x157 ++ [.osl 5 0 (List.length x158) 2]]),(5,.rows 2 (List.map c_S_api_Deduced x158)),W 6 1 [iv x199],W 7 1 [iv x200],W 8 1 [.fsl 1 (List.map c_L3 a0)],W 9 1 [pt 4 4098],(10,prop_Run_m8296_lp41 a0 .ready none)],11⟩ ?_
    refine jr_bind 6 6 (fun y=>match y with | Sum.inl _=>⟨[V 0 (.yld 10),V 2 (pt 9 1),V 8 (.fsl 1 (List.map c_L3 a0)),V 9 (iv (List.length a0:Int)),V 10 (iv x198),V 32 (bv true)],[(0,.rows 1 (List.map cI a1)),W 1 1 [.osl 5 0 (List.length x158) 2],W 2 1 [iv x198],W 3 1 [pt 4 4098],(4,.rows 4098 [List.map aI8 x157 ++ [.osl 5 0 (List.length x158) 2]]),(5,.rows 2 (List.map c_S_api_Deduced x158)),W 6 1 [iv x199],W 7 1 [iv x200],W 8 1 [.fsl 1 (List.map c_L3 a0)],W 9 1 [pt 4 4098],(10,prop_Run_m8296_lp41 a0 .done (some .ret))],11⟩ | Sum.inr (x223,x224)=>⟨[V 0 (.yld 10),V 2 (pt 9 1),V 8 (.fsl 1 (List.map c_L3 a0)),V 9 (iv (List.length a0:Int)),V 10 (iv x198),V 32 (bv false)],[(0,.rows 1 (List.map cI a1)),W 1 1 [nilS],W 2 1 [iv 0],W 3 1 [pt 4 4098],(4,.rows 4098 [List.map aI8 x157 ++ [.osl 5 0 (List.length x158) 2]]),(5,.rows 2 (List.map c_S_api_Deduced x158)),W 6 1 [iv x223],W 7 1 [iv x224],W 8 1 [.fsl 1 (List.map c_L3 a0)],W 9 1 [pt 4 4098],(10,prop_Run_m8296_lp41 a0 .ready none)],11⟩) ?_ ?_
    ·refine jSp 26 ?_ ?_
     ·refine jG 0 3 ⟨[V 0 (.yld 10),V 2 (pt 9 1),V 8 (.fsl 1 (List.map c_L3 a0)),V 9 (iv (List.length a0:Int)),V 10 (iv x198),(26,.lit true),V 27 (.yld 10),V 28 (iv x198),V 29 (iv x219)],[(0,.rows 1 (List.map cI a1)),W 1 1 [nilS],W 2 1 [iv 0],W 3 1 [pt 4 4098],(4,.rows 4098 [List.map aI8 x157 ++ [.osl 5 0 (List.length x158) 2]]),(5,.rows 2 (List.map c_S_api_Deduced x158)),W 6 1 [iv x199],W 7 1 [iv x200],W 8 1 [.fsl 1 (List.map c_L3 a0)],W 9 1 [pt 4 4098],(10,prop_Run_m8296_lp41 a0 .ready none)],11⟩ ?_
      refine jr_yield (i:=3) (l:=10) (Nc:=65) (Kc:=[V 0 (.fsl 1 (List.map c_L3 a0)),V 4 (pt 1 1),V 5 (pt 2 1),V 6 (pt 3 1),V 9 (pt 6 1),V 10 (pt 7 1),V 41 (.fn 38 [pt 8 1,pt 9 1])]) (ps:=[42,43]) (vs:=[iv x198,iv x219]) (fun y=>match y with | Sum.inl _=>⟨[],[(0,.rows 1 (List.map cI a1)),W 1 1 [.osl 5 0 (List.length x158) 2],W 2 1 [iv x198],W 3 1 [pt 4 4098],(4,.rows 4098 [List.map aI8 x157 ++ [.osl 5 0 (List.length x158) 2]]),(5,.rows 2 (List.map c_S_api_Deduced x158)),W 6 1 [iv x199],W 7 1 [iv x200],W 8 1 [.fsl 1 (List.map c_L3 a0)],W 9 1 [pt 4 4098],(10,prop_Run_m8296_lp41 a0 .busy none)],11⟩ | Sum.inr (x226,x227)=>⟨[],[(0,.rows 1 (List.map cI a1)),W 1 1 [nilS],W 2 1 [iv 0],W 3 1 [pt 4 4098],(4,.rows 4098 [List.map aI8 x157 ++ [.osl 5 0 (List.length x158) 2]]),(5,.rows 2 (List.map c_S_api_Deduced x158)),W 6 1 [iv x226],W 7 1 [iv x227],W 8 1 [.fsl 1 (List.map c_L3 a0)],W 9 1 [pt 4 4098],(10,prop_Run_m8296_lp41 a0 .busy none)],11⟩) (fun y=>match y with | Sum.inl _=>.ret | Sum.inr (x226,x227)=>.normal) [0,2,8,9,10,26,30] [0,1,2,3,4,5,6,7,8,9,10] (after:=(fun y=>match y with | Sum.inl _=>⟨[V 0 (.yld 10),V 2 (pt 9 1),V 8 (.fsl 1 (List.map c_L3 a0)),V 9 (iv (List.length a0:Int)),V 10 (iv x198),(26,.lit true),V 30 (bv false)],[(0,.rows 1 (List.map cI a1)),W 1 1 [.osl 5 0 (List.length x158) 2],W 2 1 [iv x198],W 3 1 [pt 4 4098],(4,.rows 4098 [List.map aI8 x157 ++ [.osl 5 0 (List.length x158) 2]]),(5,.rows 2 (List.map c_S_api_Deduced x158)),W 6 1 [iv x199],W 7 1 [iv x200],W 8 1 [.fsl 1 (List.map c_L3 a0)],W 9 1 [pt 4 4098],(10,prop_Run_m8296_lp41 a0 .done (some .ret))],11⟩ | Sum.inr (x226,x227)=>⟨[V 0 (.yld 10),V 2 (pt 9 1),V 8 (.fsl 1 (List.map c_L3 a0)),V 9 (iv (List.length a0:Int)),V 10 (iv x198),(26,.lit true),V 30 (bv true)],[(0,.rows 1 (List.map cI a1)),W 1 1 [nilS],W 2 1 [iv 0],W 3 1 [pt 4 4098],(4,.rows 4098 [List.map aI8 x157 ++ [.osl 5 0 (List.length x158) 2]]),(5,.rows 2 (List.map c_S_api_Deduced x158)),W 6 1 [iv x226],W 7 1 [iv x227],W 8 1 [.fsl 1 (List.map c_L3 a0)],W 9 1 [pt 4 4098],(10,prop_Run_m8296_lp41 a0 .ready none)],11⟩)) rfl rfl prop_Run_m8296_y21_aw prop_Run_m8296_y21_bw (by kernel_rfl) (by kernel_rfl) (yctx_of hc41 rfl) rfl (by kernel_rfl) rfl ?_ (by rintro (_ | ⟨x226,x227⟩) <;> exact⟨none,by kernel_rfl⟩) (by rintro (_ | ⟨x226,x227⟩) <;> kernel_rfl) ?_
      ·intro F47 hy47
       refine jS ⟨[V 4 (pt 1 1),V 5 (pt 2 1),V 6 (pt 3 1),V 9 (pt 6 1),V 10 (pt 7 1),V 11 (iv x198),V 43 (iv x219)],[(0,.rows 1 (List.map cI a1)),W 1 1 [nilS],W 2 1 [iv 0],W 3 1 [pt 4 4098],(4,.rows 4098 [List.map aI8 x157 ++ [.osl 5 0 (List.length x158) 2]]),(5,.rows 2 (List.map c_S_api_Deduced x158)),W 6 1 [iv x199],W 7 1 [iv x200],W 8 1 [.fsl 1 (List.map c_L3 a0)],W 9 1 [pt 4 4098],(10,prop_Run_m8296_lp41 a0 .ready none)],11⟩ ?_
       refine jT ⟨[V 4 (pt 1 1),V 5 (pt 2 1),V 6 (pt 3 1),V 9 (pt 6 1),V 10 (pt 7 1),V 11 (iv x198),V 12 (iv x219)],[(0,.rows 1 (List.map cI a1)),W 1 1 [nilS],W 2 1 [iv 0],W 3 1 [pt 4 4098],(4,.rows 4098 [List.map aI8 x157 ++ [.osl 5 0 (List.length x158) 2]]),(5,.rows 2 (List.map c_S_api_Deduced x158)),W 6 1 [iv x199],W 7 1 [iv x200],W 8 1 [.fsl 1 (List.map c_L3 a0)],W 9 1 [pt 4 4098],(10,prop_Run_m8296_lp41 a0 .ready none)],11⟩ ?_
       refine jx_asg hy47 rfl ?_
       refine jc_block ?_
       refine jc_seq ?_
       refine jS ⟨[V 4 (pt 1 1),V 5 (pt 2 1),V 6 (pt 3 1),V 9 (pt 6 1),V 10 (pt 7 1),V 11 (iv x198),V 12 (iv x219),V 45 (bv (x219 == 0))],[(0,.rows 1 (List.map cI a1)),W 1 1 [nilS],W 2 1 [iv 0],W 3 1 [pt 4 4098],(4,.rows 4098 [List.map aI8 x157 ++ [.osl 5 0 (List.length x158) 2]]),(5,.rows 2 (List.map c_S_api_Deduced x158)),W 6 1 [iv x199],W 7 1 [iv x200],W 8 1 [.fsl 1 (List.map c_L3 a0)],W 9 1 [pt 4 4098],(10,prop_Run_m8296_lp41 a0 .busy none)],11⟩ ?_
       refine jIf ?_ ?_
       ·refine jR ?_
        refine jG 0 3 ⟨[V 4 (pt 1 1),V 5 (pt 2 1),V 11 (iv x198),V 48 (.ptr 4 0 4098 4097)],[(0,.rows 1 (List.map cI a1)),W 1 1 [nilS],W 2 1 [iv 0],W 3 1 [pt 4 4098],(4,.rows 4098 [List.map aI8 x157 ++ [.osl 5 0 (List.length x158) 2]]),(5,.rows 2 (List.map c_S_api_Deduced x158)),W 6 1 [iv x199],W 7 1 [iv x200],W 8 1 [.fsl 1 (List.map c_L3 a0)],W 9 1 [pt 4 4098],(10,prop_Run_m8296_lp41 a0 .busy none)],11⟩ ?_
        refine jr_guard ?_
        intro x228 h228
        refine jr_one (i:=3) (v:=.osl 5 0 (List.length x158) 2) (us:=[]) rfl rfl rfl rfl (aop_ldr (l:=x157) (c:=aI8) (rest:=[.osl 5 0 (List.length x158) 2]) (id:=4) (sz:=4098) (m:=4097) (q:=0) (by kernel_rfl) (by kernel_rfl) (by kernel_rfl) (by kernel_rfl) (lenA_iff h228) (by kernel_rfl)) rfl ?_
        refine jG 4 3 ⟨[],[(0,.rows 1 (List.map cI a1)),W 1 1 [.osl 5 0 (List.length x158) 2],W 2 1 [iv x198],W 3 1 [pt 4 4098],(4,.rows 4098 [List.map aI8 x157 ++ [.osl 5 0 (List.length x158) 2]]),(5,.rows 2 (List.map c_S_api_Deduced x158)),W 6 1 [iv x199],W 7 1 [iv x200],W 8 1 [.fsl 1 (List.map c_L3 a0)],W 9 1 [pt 4 4098],(10,prop_Run_m8296_lp41 a0 .busy none)],11⟩ ?_
        refine jN ?_
        refine jc_ret ?_
        refine jx_seqR ?_
        refine jx_blkR ?_
        exact jx_mid rfl (wkR [(0,some 0),(1,some 1),(2,some 2),(3,some 3),(4,some 4),(5,some 5),(6,some 6),(7,some 7),(8,some 8),(9,some 9),(10,some 10)] (fix_of hy47.2 (k:=11) rfl) (pc (hL 0 (noid_map ni_I _)) (pc (hC 1) (pc (hC 2) (pc (hC 3) (pc (hA 4) (pc (hL 5 (noid_map ni_S_api_Deduced _)) (pc (hC 6) (pc (hC 7) (pc (hC 8) (pc (hC 9) (pc (.inr (.inr ⟨10,_,_,rfl,rfl,rfl,by kernel_rfl⟩)) allp_nil))))))))))))
       refine jc_skip ?_
       refine jx_seqN ?_
       refine jS ⟨[V 9 (pt 6 1),V 10 (pt 7 1),V 11 (iv x198),V 12 (iv x219),V 52 (bv (decide (x199 < 0)))],[(0,.rows 1 (List.map cI a1)),W 1 1 [nilS],W 2 1 [iv 0],W 3 1 [pt 4 4098],(4,.rows 4098 [List.map aI8 x157 ++ [.osl 5 0 (List.length x158) 2]]),(5,.rows 2 (List.map c_S_api_Deduced x158)),W 6 1 [iv x199],W 7 1 [iv x200],W 8 1 [.fsl 1 (List.map c_L3 a0)],W 9 1 [pt 4 4098],(10,prop_Run_m8296_lp41 a0 .busy none)],11⟩ ?_
       refine jIf ?_ ?_
       ·refine jT ⟨[],[(0,.rows 1 (List.map cI a1)),W 1 1 [nilS],W 2 1 [iv 0],W 3 1 [pt 4 4098],(4,.rows 4098 [List.map aI8 x157 ++ [.osl 5 0 (List.length x158) 2]]),(5,.rows 2 (List.map c_S_api_Deduced x158)),W 6 1 [iv x198],W 7 1 [iv x219],W 8 1 [.fsl 1 (List.map c_L3 a0)],W 9 1 [pt 4 4098],(10,prop_Run_m8296_lp41 a0 .busy none)],11⟩ ?_
        refine jx_blkN ?_
        exact jx_mid rfl (wkR [(0,some 0),(1,some 1),(2,some 2),(3,some 3),(4,some 4),(5,some 5),(6,some 6),(7,some 7),(8,some 8),(9,some 9),(10,some 10)] (fix_of hy47.2 (k:=11) rfl) (pc (hL 0 (noid_map ni_I _)) (pc (hC 1) (pc (hC 2) (pc (hC 3) (pc (hA 4) (pc (hL 5 (noid_map ni_S_api_Deduced _)) (pc (hC 6) (pc (hC 7) (pc (hC 8) (pc (hC 9) (pc (.inr (.inr ⟨10,_,_,rfl,rfl,rfl,by kernel_rfl⟩)) allp_nil))))))))))))
       refine jc_skip ?_
       refine jx_blkN ?_
       exact jx_mid rfl (wkR [(0,some 0),(1,some 1),(2,some 2),(3,some 3),(4,some 4),(5,some 5),(6,some 6),(7,some 7),(8,some 8),(9,some 9),(10,some 10)] (fix_of hy47.2 (k:=11) rfl) (pc (hL 0 (noid_map ni_I _)) (pc (hC 1) (pc (hC 2) (pc (hC 3) (pc (hA 4) (pc (hL 5 (noid_map ni_S_api_Deduced _)) (pc (hC 6) (pc (hC 7) (pc (hC 8) (pc (hC 9) (pc (.inr (.inr ⟨10,_,_,rfl,rfl,rfl,by kernel_rfl⟩)) allp_nil))))))))))))
      rintro (_ | ⟨x226,x227⟩)
      ·refine jG 4 2 ⟨[V 0 (.yld 10),V 2 (pt 9 1),V 8 (.fsl 1 (List.map c_L3 a0)),V 9 (iv (List.length a0:Int)),V 10 (iv x198),V 32 (bv true)],[(0,.rows 1 (List.map cI a1)),W 1 1 [.osl 5 0 (List.length x158) 2],W 2 1 [iv x198],W 3 1 [pt 4 4098],(4,.rows 4098 [List.map aI8 x157 ++ [.osl 5 0 (List.length x158) 2]]),(5,.rows 2 (List.map c_S_api_Deduced x158)),W 6 1 [iv x199],W 7 1 [iv x200],W 8 1 [.fsl 1 (List.map c_L3 a0)],W 9 1 [pt 4 4098],(10,prop_Run_m8296_lp41 a0 .done (some .ret))],11⟩ ?_
       refine jr_nil rfl ?_
       exact jx_mid rfl (wkR [(0,some 0),(1,some 1),(2,some 2),(3,some 3),(4,some 4),(5,some 5),(6,some 6),(7,some 7),(8,some 8),(9,some 9),(10,some 10)] (fix_of hc41.2.2 (k:=11) rfl) (pc (hL 0 (noid_map ni_I _)) (pc (hC 1) (pc (hC 2) (pc (hC 3) (pc (hA 4) (pc (hL 5 (noid_map ni_S_api_Deduced _)) (pc (hC 6) (pc (hC 7) (pc (hC 8) (pc (hC 9) (pc (.inr (.inr ⟨10,_,_,rfl,rfl,rfl,by kernel_rfl⟩)) allp_nil))))))))))))
      refine jG 4 2 ⟨[V 0 (.yld 10),V 2 (pt 9 1),V 8 (.fsl 1 (List.map c_L3 a0)),V 9 (iv (List.length a0:Int)),V 10 (iv x198),V 32 (bv false)],[(0,.rows 1 (List.map cI a1)),W 1 1 [nilS],W 2 1 [iv 0],W 3 1 [pt 4 4098],(4,.rows 4098 [List.map aI8 x157 ++ [.osl 5 0 (List.length x158) 2]]),(5,.rows 2 (List.map c_S_api_Deduced x158)),W 6 1 [iv x226],W 7 1 [iv x227],W 8 1 [.fsl 1 (List.map c_L3 a0)],W 9 1 [pt 4 4098],(10,prop_Run_m8296_lp41 a0 .ready none)],11⟩ ?_
      refine jr_nil rfl ?_
      exact jx_mid rfl (wkR [(0,some 0),(1,some 1),(2,some 2),(3,some 3),(4,some 4),(5,some 5),(6,some 6),(7,some 7),(8,some 8),(9,some 9),(10,some 10)] (fix_of hc41.2.2 (k:=11) rfl) (pc (hL 0 (noid_map ni_I _)) (pc (hC 1) (pc (hC 2) (pc (hC 3) (pc (hA 4) (pc (hL 5 (noid_map ni_S_api_Deduced _)) (pc (hC 6) (pc (hC 7) (pc (hC 8) (pc (hC 9) (pc (.inr (.inr ⟨10,_,_,rfl,rfl,rfl,by kernel_rfl⟩)) allp_nil))))))))))))
     refine jG 0 6 ⟨[V 0 (.yld 10),V 2 (pt 9 1),V 8 (.fsl 1 (List.map c_L3 a0)),V 9 (iv (List.length a0:Int)),V 10 (iv x198),V 32 (bv false)],[(0,.rows 1 (List.map cI a1)),W 1 1 [nilS],W 2 1 [iv 0],W 3 1 [pt 4 4098],(4,.rows 4098 [List.map aI8 x157 ++ [.osl 5 0 (List.length x158) 2]]),(5,.rows 2 (List.map c_S_api_Deduced x158)),W 6 1 [iv x199],W 7 1 [iv x200],W 8 1 [.fsl 1 (List.map c_L3 a0)],W 9 1 [pt 4 4098],(10,prop_Run_m8296_lp41 a0 .ready none)],11⟩ ?_
     refine jr_nil rfl ?_
     exact jx_mid rfl (wkR [(0,some 0),(1,some 1),(2,some 2),(3,some 3),(4,some 4),(5,some 5),(6,some 6),(7,some 7),(8,some 8),(9,some 9),(10,some 10)] (fix_of hc41.2.2 (k:=11) rfl) (pc (hL 0 (noid_map ni_I _)) (pc (hC 1) (pc (hC 2) (pc (hC 3) (pc (hA 4) (pc (hL 5 (noid_map ni_S_api_Deduced _)) (pc (hC 6) (pc (hC 7) (pc (hC 8) (pc (hC 9) (pc (.inr (.inr ⟨10,_,_,rfl,rfl,rfl,by kernel_rfl⟩)) allp_nil))))))))))))
    rintro (_ | ⟨x223,x224⟩)
    ·refine jN ?_
     refine jc_condK (c:=true) (by kernel_rfl) ?_
     refine jc_ret ?_
     refine jx_blkR ?_
     refine jx_seqR ?_
     exact jx_done rfl nofun (wkR [(0,some 0),(1,some 1),(2,some 2),(3,some 3),(4,some 4),(5,some 5),(6,some 6),(7,some 7),(8,some 8),(9,some 9),(10,some 10)] (fix_of hc41.2.2 (k:=11) rfl) (pc (hL 0 (noid_map ni_I _)) (pc (hC 1) (pc (hC 2) (pc (hC 3) (pc (hA 4) (pc (hL 5 (noid_map ni_S_api_Deduced _)) (pc (hC 6) (pc (hC 7) (pc (hC 8) (pc (hC 9) (pc (.inr (.inr ⟨10,_,_,rfl,rfl,rfl,by kernel_rfl⟩)) allp_nil))))))))))))
    refine jN ?_
    refine jc_condK (c:=false) (by kernel_rfl) ?_
    refine jc_skip ?_
    refine jx_blkN ?_
    refine jx_seqN ?_
    refine jT ⟨[V 0 (.yld 10),V 2 (pt 9 1),V 8 (.fsl 1 (List.map c_L3 a0)),V 9 (iv (List.length a0:Int)),V 10 (iv (w64 (x198 + 1)))],[(0,.rows 1 (List.map cI a1)),W 1 1 [nilS],W 2 1 [iv 0],W 3 1 [pt 4 4098],(4,.rows 4098 [List.map aI8 x157 ++ [.osl 5 0 (List.length x158) 2]]),(5,.rows 2 (List.map c_S_api_Deduced x158)),W 6 1 [iv x223],W 7 1 [iv x224],W 8 1 [.fsl 1 (List.map c_L3 a0)],W 9 1 [pt 4 4098],(10,prop_Run_m8296_lp41 a0 .ready none)],11⟩ ?_
    exact jx_next (wkR [(0,some 0),(1,some 1),(2,some 2),(3,some 3),(4,some 4),(5,some 5),(6,some 6),(7,some 7),(8,some 8),(9,some 9),(10,some 10)] (fix_of hc41.2.2 (k:=11) rfl) (pc (hL 0 (noid_map ni_I _)) (pc (hC 1) (pc (hC 2) (pc (hC 3) (pc (hA 4) (pc (hL 5 (noid_map ni_S_api_Deduced _)) (pc (hC 6) (pc (hC 7) (pc (hC 8) (pc (hC 9) (pc (.inr (.inr ⟨10,_,_,rfl,rfl,rfl,by kernel_rfl⟩)) allp_nil))))))))))))
   refine jc_exit ?_
   refine jx_seqE ?_
   exact jx_done rfl nofun (wkR [(0,some 0),(1,some 1),(2,some 2),(3,some 3),(4,some 4),(5,some 5),(6,some 6),(7,some 7),(8,some 8),(9,some 9),(10,some 10)] (fix_of hc41.2.2 (k:=11) rfl) (pc (hL 0 (noid_map ni_I _)) (pc (hC 1) (pc (hC 2) (pc (hC 3) (pc (hA 4) (pc (hL 5 (noid_map ni_S_api_Deduced _)) (pc (hC 6) (pc (hC 7) (pc (hC 8) (pc (hC 9) (pc (.inr (.inr ⟨10,_,_,rfl,rfl,rfl,by kernel_rfl⟩)) allp_nil))))))))))))
  rintro (⟨x212,x213,x214⟩ | ⟨x215,x216⟩)
  ·refine jx_blkR ?_
   refine jx_rng hc41 (.inr rfl) rfl nofun rfl ?_
   refine jx_blkR ?_
   refine jx_seqR ?_
   refine jx_blkR ?_
   exact jx_done rfl nofun (wkR [(0,some 0),(1,some 1),(2,some 5),(3,some 2)] (fix_of hF (k:=1) rfl) (pc (hL 0 (noid_map ni_I _)) (pc (hC 1) (pc (hL 5 (noid_map ni_S_api_Deduced _)) (pc (hC 2) allp_nil)))))
  refine jx_blkE ?_
  refine jx_rng hc41 (.inl rfl) rfl nofun rfl ?_
  refine jx_blkN ?_
  refine jx_seqN ?_
  refine jc_seq ?_
  refine jS ⟨[V 0 (.fsl 1 (List.map c_L3 a0)),V 4 (pt 1 1),V 5 (pt 2 1),V 6 (pt 3 1),V 9 (pt 6 1),V 10 (pt 7 1),V 56 (bv (decide (x215 < 0)))],[(0,.rows 1 (List.map cI a1)),W 1 1 [nilS],W 2 1 [iv 0],W 3 1 [pt 4 4098],(4,.rows 4098 [List.map aI8 x157 ++ [.osl 5 0 (List.length x158) 2]]),(5,.rows 2 (List.map c_S_api_Deduced x158)),W 6 1 [iv x215],W 7 1 [iv x216]],11⟩ ?_
  refine jIf ?_ ?_
  ·refine jc_exit ?_
   refine jx_seqE ?_
   refine jx_blkX rfl ?_
   exact jx_done rfl nofun (wkR [(0,some 0),(1,some 1),(2,some 2),(3,some 3),(4,some 4),(5,some 5)] (fix_of hF (k:=1) rfl) (pc (hL 0 (noid_map ni_I _)) (pc (hC 1) (pc (hC 2) (pc (hC 3) (pc (hA 4) (pc (hL 5 (noid_map ni_S_api_Deduced _)) allp_nil)))))))
  refine jc_skip ?_
  refine jx_seqN ?_
  refine jc_reg ?_
  refine jG 0 3 ⟨[V 0 (.fsl 1 (List.map c_L3 a0)),V 4 (pt 1 1),V 5 (pt 2 1),V 6 (pt 3 1),V 57 (pt 4 4098),V 58 (iv x216),V 59 (iv x215)],[(0,.rows 1 (List.map cI a1)),W 1 1 [nilS],W 2 1 [iv 0],W 3 1 [pt 4 4098],(4,.rows 4098 [List.map aI8 x157 ++ [.osl 5 0 (List.length x158) 2]]),(5,.rows 2 (List.map c_S_api_Deduced x158))],11⟩ ?_
  refine jr_callM 3 [(0,some 4),(1,some 5)] [(4,some 0),(11,some 2)] (fun r:List Int × List S_api_Deduced=>[(0,.rows 1 (List.map cI a1)),W 1 1 [nilS],W 2 1 [iv 0],W 3 1 [pt 4 4098],(4,.rows 4098 [List.map aI8 r.1 ++ [.osl 11 0 (List.length r.2) 2]]),(11,.rows 2 (List.map c_S_api_Deduced r.2))]) (fun r:List Int × List S_api_Deduced=>.tup []) 12 (prop_sheet_set_ok x157 x158 x216 x215) (pc (hA 4) (pc (hL 5 (noid_map ni_S_api_Deduced _)) allp_nil)) (fun r=>(pc (.inl ⟨rfl,rfl⟩) (pc (.inl ⟨rfl,rfl⟩) (pc (.inl ⟨rfl,rfl⟩) (pc (.inl ⟨rfl,rfl⟩) (pc (.inr (hA 0)) (pc (.inr (hL 2 (noid_map ni_S_api_Deduced _))) allp_nil))))))) ?_
  rintro⟨x229,x230⟩ hm49
  refine jr_nil rfl ?_
  refine jx_blkN ?_
  exact jx_next (wkR [(0,some 0),(1,some 1),(2,some 2),(3,some 3),(4,some 4),(5,some 11)] (fix_of hF (k:=1) rfl) (pc (hL 0 (noid_map ni_I _)) (pc (hC 1) (pc (hC 2) (pc (hC 3) (pc (hA 4) (pc (hL 11 (noid_map ni_S_api_Deduced _)) allp_nil)))))))
 rintro (⟨x188,x189⟩ | ⟨x190,x191⟩)
 ·refine jx_blkR ?_
  refine jx_seqR ?_
  refine jx_scopeR ?_
  exact jx_retM (prop_Run_m8296_T a0 a1 (x188,x189)) (.inr rfl) (wkR [(0,some 0),(1,some 1),(2,some 2),(3,some 3)] (fix_of hF (k:=1) rfl) (pc (hL 0 (noid_map ni_I _)) (pc (hC 1) (pc (hL 2 (noid_map ni_S_api_Deduced _)) (pc (hC 3) allp_nil)))))
 refine jx_blkE ?_
 refine jx_seqN ?_
 refine jR ?_
 refine jG 0 3 ⟨[V 4 (pt 1 1),V 5 (pt 2 1),V 63 (.ptr 4 0 4098 4097)],[(0,.rows 1 (List.map cI a1)),W 1 1 [nilS],W 2 1 [iv 0],(4,.rows 4098 [List.map aI8 x190 ++ [.osl 5 0 (List.length x191) 2]]),(5,.rows 2 (List.map c_S_api_Deduced x191))],6⟩ ?_
 refine jr_guard ?_
 intro x231 h231
 refine jr_one (i:=3) (v:=.osl 5 0 (List.length x191) 2) (us:=[]) rfl rfl rfl rfl (aop_ldr (l:=x190) (c:=aI8) (rest:=[.osl 5 0 (List.length x191) 2]) (id:=4) (sz:=4098) (m:=4097) (q:=0) (by kernel_rfl) (by kernel_rfl) (by kernel_rfl) (by kernel_rfl) (lenA_iff h231) (by kernel_rfl)) rfl ?_
 refine jG 4 2 ⟨[V 4 (pt 1 1),V 5 (pt 2 1)],[(0,.rows 1 (List.map cI a1)),W 1 1 [.osl 5 0 (List.length x191) 2],W 2 1 [iv (-1)],(5,.rows 2 (List.map c_S_api_Deduced x191))],6⟩ ?_
 refine jN ?_
 refine jc_ret ?_
 refine jx_scopeR ?_
 exact jx_retM (prop_Run_m8296_T a0 a1 (x191,(-1))) (.inr rfl) (wkR [(0,some 0),(1,some 1),(2,some 5),(3,some 2)] (fix_of hF (k:=1) rfl) (pc (hL 0 (noid_map ni_I _)) (pc (hC 1) (pc (hL 5 (noid_map ni_S_api_Deduced _)) (pc (hC 2) allp_nil))))))
abbrev prop_Close_m8296_r1:List LO:=[lo 4 (.assign (.const (.slice none 0 0))) 23,lo 5 (.assign (.const (.bool false))) 4]
abbrev prop_Close_m8296_r2:List LO:=[lm 10 0 22,lm 11 1 23,lo 12 (.call ⟨.value (.func 14),#[.tmp 10,.tmp 11],#[22,23]⟩) 33,lm 9 12 33,lo 13 (.extract (.tmp 9) 0) 24,lo 14 (.extract (.tmp 9) 1) 3,lo 6 (.assign (.tmp 13)) 24,lo 7 (.assign (.tmp 14)) 3]
abbrev prop_Close_m8296_r3:List LO:=[lm 15 7 3,lo 16 (.binOp .neq 3 (.tmp 15) (.const (.int .i64 (-1))) 3) 4]
abbrev prop_Close_m8296_r4:List LO:=[lo 4 (.assign (.const (.slice none 0 0))) 23,lo 5 (.assign (.const (.bool false))) 4]
abbrev prop_Close_m8296_r5:List LO:=[lm 17 6 24,lo 18 (.call ⟨.value (.func 15),#[.tmp 17],#[24]⟩) 23,lo 8 (.assign (.tmp 18)) 23]
abbrev prop_Close_m8296_r6:List LO:=[lm 19 8 23,lo 20 (.call ⟨.value (.func 16),#[.tmp 19,.func 17],#[23,39]⟩) 0]
abbrev prop_Close_m8296_r7:List LO:=[lm 21 8 23,lo 4 (.assign (.tmp 21)) 23,lo 5 (.assign (.const (.bool true))) 4]
abbrev prop_Close_m8296_c:LC:=.seq (.reg false prop_Close_m8296_r1) (.seq (.reg false prop_Close_m8296_r2) (.seq (.seq (.reg false prop_Close_m8296_r3) (.cond (.tmp 16) (.seq (.reg false prop_Close_m8296_r4) .ret) .skip)) (.seq (.reg false prop_Close_m8296_r5) (.seq (.reg false prop_Close_m8296_r6) (.seq (.reg false prop_Close_m8296_r7) .ret)))))
theorem prop_Close_m8296_k:FnOk E 6 22 [.tmp 4,.tmp 5] prop_Close_m8296_c:=⟨⟨Go.Proofs.Try.f6,by kernel_rfl,by kernel_rfl,by kernel_rfl,by kernel_rfl,by kernel_rfl⟩,rfl,rfl⟩
abbrev prop_Close_m8296_T (a0:List (List Int)) (a1:List Int) (r:List Int × Bool):CS:=⟨[V 4 (.osl 1 0 (List.length r.1) 1),V 5 (bv r.2)],[(0,.rows 1 (List.map cI a1)),(1,.rows 1 (List.map cI r.1))],2⟩
noncomputable def prop_Close_m8296 (a0:List (List Int)) (a1:List Int):Option (List Int × Bool):=Option.bind (prop_Run_m8296 a0 a1) (fun (x7,x8)=>(if (x8 != (-1))=true then some ([],false) else Option.bind (prop_Lits x7) (fun x9=>Option.bind (slices_SortFuncI x9) (fun x10=>some (x10,true)))))
theorem prop_Close_m8296_ok (a0:List (List Int)) (a1:List Int):CtM E 6 [.fsl 1 (List.map c_L3 a0),.osl 0 0 (List.length a1) 1] [(0,.rows 1 (List.map cI a1))] 1 (prop_Close_m8296 a0 a1) (fun r:List Int × Bool=>.tup [.osl 1 0 (List.length r.1) 1,bv r.2]) (fun r:List Int × Bool=>[(0,.rows 1 (List.map cI a1)),(1,.rows 1 (List.map cI r.1))]) 2:=ctm_intro (N:=22) (L:=prop_Close_m8296_c) prop_Close_m8296_k rfl (Nat.le_of_ble_eq_true rfl) (fun F hF=>by
 unfold prop_Close_m8296
 refine jS ⟨[V 0 (.fsl 1 (List.map c_L3 a0)),V 1 (.osl 0 0 (List.length a1) 1)],[(0,.rows 1 (List.map cI a1))],1⟩ ?_
 refine jR ?_
 refine jG 0 2 ⟨[V 10 (.fsl 1 (List.map c_L3 a0)),V 11 (.osl 0 0 (List.length a1) 1)],[(0,.rows 1 (List.map cI a1))],1⟩ ?_
 refine jr_callM 2 [(0,some 0)] [(0,some 0),(2,some 2)] (fun r:List S_api_Deduced × Int=>[(0,.rows 1 (List.map cI a1)),(2,.rows 2 (List.map c_S_api_Deduced r.1))]) (fun r:List S_api_Deduced × Int=>.tup [.osl 2 0 (List.length r.1) 2,iv r.2]) 4 (prop_Run_m8296_ok a0 a1) (pc (hL 0 (noid_map ni_I _)) allp_nil) (fun r=>(pc (.inr (hL 0 (noid_map ni_I _))) (pc (.inr (hL 2 (noid_map ni_S_api_Deduced _))) allp_nil))) ?_
 rintro⟨x7,x8⟩ hm6
 refine jG 3 5 ⟨[V 6 (.osl 2 0 (List.length x7) 2),V 7 (iv x8)],[(0,.rows 1 (List.map cI a1)),(2,.rows 2 (List.map c_S_api_Deduced x7))],4⟩ ?_
 refine jN ?_
 refine jc_seq ?_
 refine jS ⟨[V 6 (.osl 2 0 (List.length x7) 2),V 16 (bv (x8 != (-1)))],[(0,.rows 1 (List.map cI a1)),(2,.rows 2 (List.map c_S_api_Deduced x7))],4⟩ ?_
 refine jIf ?_ ?_
 ·refine jS ⟨[V 4 (nilS),V 5 (bv false)],[(0,.rows 1 (List.map cI a1))],4⟩ ?_
  refine jc_ret ?_
  refine jx_seqR ?_
  exact jx_retM (prop_Close_m8296_T a0 a1 ([],false)) (.inr rfl) (wkR [(0,some 0),(1,none)] (fix_of hF (k:=1) rfl) (pc (hL 0 (noid_map ni_I _)) (pc hZ allp_nil)))
 refine jc_skip ?_
 refine jx_seqN ?_
 refine jR ?_
 refine jG 0 1 ⟨[V 17 (.osl 2 0 (List.length x7) 2)],[(0,.rows 1 (List.map cI a1)),(2,.rows 2 (List.map c_S_api_Deduced x7))],4⟩ ?_
 refine jr_callM 1 [(0,some 2)] [(2,some 0),(4,some 1)] (fun r:List Int=>[(0,.rows 1 (List.map cI a1)),(2,.rows 2 (List.map c_S_api_Deduced x7)),(4,.rows 1 (List.map cI r))]) (fun r:List Int=>.osl 4 0 (List.length r) 1) 5 (prop_Lits_ok x7) (pc (hL 2 (noid_map ni_S_api_Deduced _)) allp_nil) (fun r=>(pc (.inl ⟨rfl,rfl⟩) (pc (.inr (hL 0 (noid_map ni_S_api_Deduced _))) (pc (.inr (hL 1 (noid_map ni_I _))) allp_nil)))) ?_
 rintro x9 hm5
 refine jG 2 1 ⟨[V 8 (.osl 4 0 (List.length x9) 1)],[(0,.rows 1 (List.map cI a1)),(4,.rows 1 (List.map cI x9))],5⟩ ?_
 refine jN ?_
 refine jR ?_
 refine jG 0 1 ⟨[V 8 (.osl 4 0 (List.length x9) 1),V 19 (.osl 4 0 (List.length x9) 1)],[(0,.rows 1 (List.map cI a1)),(4,.rows 1 (List.map cI x9))],5⟩ ?_
 refine jr_callM 1 [(0,some 4)] [(4,some 0)] (fun r:List Int=>[(0,.rows 1 (List.map cI a1)),(4,.rows 1 (List.map cI r))]) (fun r:List Int=>.tup []) 5 (slices_SortFuncI_ok x9) (pc (hL 4 (noid_map ni_I _)) allp_nil) (fun r=>(pc (.inl ⟨rfl,rfl⟩) (pc (.inr (hL 0 (noid_map ni_I _))) allp_nil))) ?_
 rintro x10 hm4
 try rw[← slices_SortFuncI_len hm4]
 refine jN ?_
 refine jS ⟨[V 4 (.osl 4 0 (List.length x10) 1),V 5 (bv true)],[(0,.rows 1 (List.map cI a1)),(4,.rows 1 (List.map cI x10))],5⟩ ?_
 refine jc_ret ?_
 exact jx_retM (prop_Close_m8296_T a0 a1 (x10,true)) (.inr rfl) (wkR [(0,some 0),(1,some 4)] (fix_of hF (k:=1) rfl) (pc (hL 0 (noid_map ni_I _)) (pc (hL 4 (noid_map ni_I _)) allp_nil))))
abbrev prop_sheet_counts_mfe69_r1:List LO:=[lo 2 (.box 46 (.tmp 0)) 0,lo 3 (.box 22 (.tmp 1)) 0,lo 4 (.assign (.const .nilFunc)) 53]
abbrev prop_sheet_counts_mfe69_r2:List LO:=[lo 5 (.makeFunc (Fn.func 38) #[] #[.tmp 3,.tmp 2]) 52,lo 4 (.assign (.tmp 5)) 53]
abbrev prop_sheet_counts_mfe69_c:LC:=.seq (.reg false prop_sheet_counts_mfe69_r1) (.seq (.reg false prop_sheet_counts_mfe69_r2) .ret)
theorem prop_sheet_counts_mfe69_k:FnOk E 29 6 [.tmp 4] prop_sheet_counts_mfe69_c:=⟨⟨Go.Proofs.Try.f29,by kernel_rfl,by kernel_rfl,by kernel_rfl,by kernel_rfl,by kernel_rfl⟩,rfl,rfl⟩
abbrev prop_sheet_counts_mfe69_T (a0:List Int) (a1:List S_api_Deduced) (a2:List (List Int)) (r:Unit):CS:=⟨[V 4 (.fn 38 [pt 3 1,pt 4 1])],[(0,.rows 4098 [List.map aI8 a0 ++ [.osl 1 0 (List.length a1) 2]]),(1,.rows 2 (List.map c_S_api_Deduced a1)),(2,.rows 1 (List.map c_L3 a2)),W 3 1 [.osl 2 0 (List.length a2) 1],W 4 1 [pt 0 4098]],5⟩
noncomputable def prop_sheet_counts_mfe69 (a0:List Int) (a1:List S_api_Deduced) (a2:List (List Int)):Option (Unit):=some ()
theorem prop_sheet_counts_mfe69_ok (a0:List Int) (a1:List S_api_Deduced) (a2:List (List Int)):CtM E 29 [pt 0 4098,.osl 2 0 (List.length a2) 1] [(0,.rows 4098 [List.map aI8 a0 ++ [.osl 1 0 (List.length a1) 2]]),(1,.rows 2 (List.map c_S_api_Deduced a1)),(2,.rows 1 (List.map c_L3 a2))] 3 (prop_sheet_counts_mfe69 a0 a1 a2) (fun r:Unit=>.fn 38 [pt 3 1,pt 4 1]) (fun r:Unit=>[(0,.rows 4098 [List.map aI8 a0 ++ [.osl 1 0 (List.length a1) 2]]),(1,.rows 2 (List.map c_S_api_Deduced a1)),(2,.rows 1 (List.map c_L3 a2)),W 3 1 [.osl 2 0 (List.length a2) 1],W 4 1 [pt 0 4098]]) 5:=ctm_intro (N:=6) (L:=prop_sheet_counts_mfe69_c) prop_sheet_counts_mfe69_k rfl (Nat.le_of_ble_eq_true rfl) (fun F hF=>by
 unfold prop_sheet_counts_mfe69
 refine jS ⟨[V 2 (pt 3 1),V 3 (pt 4 1)],[(0,.rows 4098 [List.map aI8 a0 ++ [.osl 1 0 (List.length a1) 2]]),(1,.rows 2 (List.map c_S_api_Deduced a1)),(2,.rows 1 (List.map c_L3 a2)),W 3 1 [pt 0 4098],W 4 1 [.osl 2 0 (List.length a2) 1]],5⟩ ?_
 refine jS ⟨[V 4 (.fn 38 [pt 4 1,pt 3 1])],[(0,.rows 4098 [List.map aI8 a0 ++ [.osl 1 0 (List.length a1) 2]]),(1,.rows 2 (List.map c_S_api_Deduced a1)),(2,.rows 1 (List.map c_L3 a2)),W 3 1 [pt 0 4098],W 4 1 [.osl 2 0 (List.length a2) 1]],5⟩ ?_
 refine jc_ret ?_
 exact jx_retM (prop_sheet_counts_mfe69_T a0 a1 a2 ()) (.inr rfl) (wkR [(0,some 0),(1,some 1),(2,some 2),(3,some 4),(4,some 3)] (fix_of hF (k:=3) rfl) (pc (hA 0) (pc (hL 1 (noid_map ni_S_api_Deduced _)) (pc (hL 2 (noid_map ni_L3 _)) (pc (hC 4) (pc (hC 3) allp_nil)))))))
abbrev prop_Run_m2d81_r1:List LO:=[lo 4 (.alloc 24) 0,lo 5 (.alloc 3) 0]
abbrev prop_Run_m2d81_r2:List LO:=[lo 13 (.build 50 #[]) 50,lo 14 (.box 50 (.tmp 13)) 46,lo 6 (.alloc 46) 0,ln (.store 46 (.tmp 6) (.tmp 14)) 0]
abbrev prop_Run_m2d81_r3:List LO:=[lm 15 1 23,lo 16 (.call ⟨.builtin .len,#[.tmp 15],#[23]⟩) 3,lo 17 (.move (.const (.int .i64 0))) 3]
abbrev prop_Run_m2d81_r4:List LO:=[lo 18 (.binOp .lss 3 (.tmp 17) (.tmp 16) 3) 0]
abbrev prop_Run_m2d81_r5:List LO:=[lo 19 (.indexAddr 23 (.tmp 15) (.tmp 17)) 0,lo 20 (.load 3 (.tmp 19)) 3,lo 8 (.assign (.tmp 20)) 3]
abbrev prop_Run_m2d81_r6:List LO:=[lm 21 8 3,lo 22 (.call ⟨.value (.func 21),#[.tmp 21],#[3]⟩) 4,lo 23 (.unOp .not 4 (.tmp 22)) 4]
abbrev prop_Run_m2d81_r7:List LO:=[lo 24 (.load 46 (.tmp 6)) 46,lm 25 8 3,lo 26 (.call ⟨.value (.func 27),#[.tmp 24,.tmp 25],#[46,3]⟩) 3]
abbrev prop_Run_m2d81_r8:List LO:=[lo 28 (.binOp .eql 3 (.tmp 26) (.const (.int .i64 (-1))) 3) 4,lo 27 (.assign (.tmp 28)) 4]
abbrev prop_Run_m2d81_r9:List LO:=[lo 29 (.load 46 (.tmp 6)) 46,lo 30 (.nilCheck (.tmp 29)) 0,lo 31 (.fieldAddr 50 (.tmp 30) 1) 0,lo 32 (.load 24 (.tmp 31)) 24,ln (.store 24 (.tmp 4) (.tmp 32)) 0,ln (.store 3 (.tmp 5) (.const (.int .i64 (-2)))) 0]
abbrev prop_Run_m2d81_r10:List LO:=[lo 34 (.binOp .eql 3 (.tmp 26) (.const (.int .i64 0)) 3) 4,lo 33 (.assign (.tmp 34)) 4]
abbrev prop_Run_m2d81_r11:List LO:=[lo 35 (.load 46 (.tmp 6)) 46,lm 36 8 3,lo 37 (.call ⟨.value (.func 28),#[.tmp 35,.tmp 36,.const (.int .i64 (-1))],#[46,3,3]⟩) 0]
abbrev prop_Run_m2d81_r12:List LO:=[lo 38 (.binOp .add 3 (.tmp 17) (.const (.int .i64 1)) 3) 3,lm 17 38 3]
abbrev prop_Run_m2d81_r13:List LO:=[lo 9 (.alloc 3) 0,lo 10 (.alloc 3) 0,ln (.store 3 (.tmp 9) (.const (.int .i64 (-1)))) 0,ln (.store 3 (.tmp 10) (.const (.int .i64 0))) 0]
abbrev prop_Run_m2d81_r14:List LO:=[lo 39 (.load 46 (.tmp 6)) 46,lm 40 0 22,lo 41 (.call ⟨.value (.func 29),#[.tmp 39,.tmp 40],#[46,22]⟩) 53]
abbrev prop_Run_m2d81_r15:List LO:=[lo 11 (.assign (.tmp 42)) 3]
abbrev prop_Run_m2d81_r16:List LO:=[lo 12 (.assign (.tmp 43)) 3]
abbrev prop_Run_m2d81_r17:List LO:=[lm 44 12 3,lo 45 (.binOp .eql 3 (.tmp 44) (.const (.int .i64 0)) 3) 4]
abbrev prop_Run_m2d81_r18:List LO:=[lo 46 (.load 46 (.tmp 6)) 46,lo 47 (.nilCheck (.tmp 46)) 0,lo 48 (.fieldAddr 50 (.tmp 47) 1) 0,lo 49 (.load 24 (.tmp 48)) 24,lm 50 11 3,ln (.store 24 (.tmp 4) (.tmp 49)) 0,ln (.store 3 (.tmp 5) (.tmp 50)) 0]
abbrev prop_Run_m2d81_r19:List LO:=[lo 51 (.load 3 (.tmp 9)) 3,lo 52 (.binOp .lss 3 (.tmp 51) (.const (.int .i64 0)) 3) 4]
abbrev prop_Run_m2d81_r20:List LO:=[lm 53 11 3,lm 54 12 3,ln (.store 3 (.tmp 9) (.tmp 53)) 0,ln (.store 3 (.tmp 10) (.tmp 54)) 0]
noncomputable def prop_Run_m2d81_y21_a0:Code:=codeSub (bodyOf Go.Proofs.Try.f14) [1,0,1,1,1,0,0,0,0,1,0,1,0,0]
theorem prop_Run_m2d81_y21_aw:lower E prop_Run_m2d81_y21_a0=some (.seq (.reg false prop_Run_m2d81_r15) (.reg false prop_Run_m2d81_r16)):=by kernel_rfl
noncomputable def prop_Run_m2d81_y21_b0:Code:=codeSub (bodyOf Go.Proofs.Try.f14) [1,0,1,1,1,0,0,0,0,1,0,1,0,1]
theorem prop_Run_m2d81_y21_bw:lower E prop_Run_m2d81_y21_b0=some (.block 6 (.seq (.seq (.reg false prop_Run_m2d81_r17) (.cond (.tmp 45) (.seq (.reg false prop_Run_m2d81_r18) .ret) .skip)) (.seq (.reg false prop_Run_m2d81_r19) (.cond (.tmp 52) (.reg false prop_Run_m2d81_r20) .skip)))):=by kernel_rfl
abbrev prop_Run_m2d81_r22:List LO:=[lo 55 (.load 3 (.tmp 9)) 3,lo 56 (.binOp .lss 3 (.tmp 55) (.const (.int .i64 0)) 3) 4]
abbrev prop_Run_m2d81_r23:List LO:=[lo 57 (.load 46 (.tmp 6)) 46,lo 58 (.load 3 (.tmp 10)) 3,lo 59 (.load 3 (.tmp 9)) 3,lo 60 (.call ⟨.value (.func 28),#[.tmp 57,.tmp 58,.tmp 59],#[46,3,3]⟩) 0]
abbrev prop_Run_m2d81_r24:List LO:=[lo 61 (.load 46 (.tmp 6)) 46,lo 62 (.nilCheck (.tmp 61)) 0,lo 63 (.fieldAddr 50 (.tmp 62) 1) 0,lo 64 (.load 24 (.tmp 63)) 24,ln (.store 24 (.tmp 4) (.tmp 64)) 0,ln (.store 3 (.tmp 5) (.const (.int .i64 (-1)))) 0]
noncomputable abbrev prop_Run_m2d81_c:LC:=.seq (.reg false prop_Run_m2d81_r1) (.scope (.seq (.reg false prop_Run_m2d81_r2) (.seq (.seq (.reg false prop_Run_m2d81_r3) (.block 0 (.loop (.seq (.reg false prop_Run_m2d81_r4) (.seq (.cond (.tmp 18) .skip (.exit 0)) (.seq (.block 1 (.seq (.reg false prop_Run_m2d81_r5) (.seq (.seq (.reg false prop_Run_m2d81_r6) (.cond (.tmp 23) (.exit 1) .skip)) (.seq (.reg false prop_Run_m2d81_r7) (.block 2 (.seq (.reg false prop_Run_m2d81_r8) (.cond (.tmp 27) (.seq (.reg false prop_Run_m2d81_r9) .ret) (.seq (.reg false prop_Run_m2d81_r10) (.cond (.tmp 33) (.reg false prop_Run_m2d81_r11) .skip))))))))) (.reg false prop_Run_m2d81_r12))))))) (.seq .label (.seq (.block 3 (.loop (.block 4 (.seq (.reg false prop_Run_m2d81_r13) (.seq (.seq (.reg false prop_Run_m2d81_r14) (.block 5 (.rng (.tmp 41) [42,43] prop_Run_m2d81_y21_a0 prop_Run_m2d81_y21_b0))) (.seq (.seq (.reg false prop_Run_m2d81_r22) (.cond (.tmp 56) (.exit 3) .skip)) (.reg false prop_Run_m2d81_r23))))))) (.seq (.reg false prop_Run_m2d81_r24) .ret))))))
theorem prop_Run_m2d81_k:FnOk E 14 65 [.cell 4 24,.cell 5 3] prop_Run_m2d81_c:=⟨⟨Go.Proofs.Try.f14,by kernel_rfl,by kernel_rfl,by kernel_rfl,by kernel_rfl,by kernel_rfl⟩,rfl,rfl⟩
noncomputable def prop_Run_m2d81_l1 (a1:List Int):(List Int × List S_api_Deduced × Int)→Option (Step (List Int × List S_api_Deduced × Int) ((List S_api_Deduced) ⊕ (List Int × List S_api_Deduced))):=fun (x99,x100,x101)=>(if (decide (x101 < (List.length a1:Int)))=true then Option.bind (Option.bind (ixl a1 x101) (fun x124=>Option.bind (prop_literal x124) (fun x125=>(if (!x125)=true then some (Sum.inl (x99,x100)) else Option.bind (prop_sheet_of x99 x100 x124) (fun x126=>(if (x126 == (-1))=true then Option.bind (lenA 4097 x99) (fun x127=>some (Sum.inr ())) else (if (x126 == 0)=true then Option.bind (prop_sheet_set x99 x100 x124 (-1)) (fun (x128,x129)=>some (Sum.inl (x128,x129))) else some (Sum.inl (x99,x100)))))))):Option ((List Int × List S_api_Deduced) ⊕ (Unit))) (fun y=>match y with | Sum.inl (x122,x123)=>some (Step.next (x122,x123,(w64 (x101 + 1)))) | Sum.inr _=>some (Step.done (Sum.inl x100))) else some (Step.done (Sum.inr (x99,x100))))
noncomputable abbrev prop_Run_m2d81_lp41 (a0:List (List Int)) (q:LoopState) (p:Option Code):AObj:=.loop { state:=q,pending:=p,tmps:=tl 65 [V 0 (.osl 0 0 (List.length a0) 1),V 4 (pt 1 1),V 5 (pt 2 1),V 6 (pt 3 1),V 9 (pt 6 1),V 10 (pt 7 1),V 41 (.fn 38 [pt 8 1,pt 9 1])] none,params:=[42,43],assign:=prop_Run_m2d81_y21_a0,body:=prop_Run_m2d81_y21_b0 }
noncomputable def prop_Run_m2d81_l2 (a0:List (List Int)) (x157:List Int) (x158:List S_api_Deduced):(Int × Int × Int)→Option (Step (Int × Int × Int) ((Int × Int × Int) ⊕ (Int × Int))):=fun (x198,x199,x200)=>(if (decide (x198 < (List.length a0:Int)))=true then Option.bind (ixl a0 x198) (fun x217=>Option.bind (prop_sheet_look x157 x158 x217) (fun (x218,x219)=>Option.bind (if (x218 || (x219 != 0))=true then Option.bind ((if (x219 == 0)=true then Option.bind (lenA 4097 x157) (fun x228=>some (Sum.inl ())) else (if (decide (x199 < 0))=true then some (Sum.inr (x198,x219)) else some (Sum.inr (x199,x200)))):Option ((Unit) ⊕ (Int × Int))) (fun y=>match y with | Sum.inl _=>some (Sum.inl ()) | Sum.inr (x226,x227)=>some (Sum.inr (x226,x227))) else some (Sum.inr (x199,x200)):Option ((Unit) ⊕ (Int × Int))) (fun y=>match y with | Sum.inl _=>some (Step.done (Sum.inl (x198,x199,x200))) | Sum.inr (x223,x224)=>some (Step.next ((w64 (x198 + 1)),x223,x224))))) else some (Step.done (Sum.inr (x199,x200))))
noncomputable def prop_Run_m2d81_l3 (a0:List (List Int)):(List Int × List S_api_Deduced)→Option (Step (List Int × List S_api_Deduced) ((List S_api_Deduced × Int) ⊕ (List Int × List S_api_Deduced))):=fun (x157,x158)=>Option.bind (prop_sheet_counts_mfe69 x157 x158 a0) (fun _=>Option.bind (loopC (prop_Run_m2d81_l2 a0 x157 x158) (0,(-1),0)) (fun y=>match y with | Sum.inl (x212,x213,x214)=>some (Step.done (Sum.inl (x158,x212))) | Sum.inr (x215,x216)=>(if (decide (x215 < 0))=true then some (Step.done (Sum.inr (x157,x158))) else Option.bind (prop_sheet_set x157 x158 x216 x215) (fun (x229,x230)=>some (Step.next (x229,x230))))))
abbrev prop_Run_m2d81_T (a0:List (List Int)) (a1:List Int) (r:List S_api_Deduced × Int):CS:=⟨[V 4 (pt 1 1),V 5 (pt 3 1)],[(0,.rows 1 (List.map c_L3 a0)),W 1 1 [.osl 2 0 (List.length r.1) 2],(2,.rows 2 (List.map c_S_api_Deduced r.1)),W 3 1 [iv r.2]],4⟩
noncomputable def prop_Run_m2d81 (a0:List (List Int)) (a1:List Int):Option (List S_api_Deduced × Int):=Option.bind (loopC (prop_Run_m2d81_l1 a1) ((List.replicate 4097 (0:Int)),[],0)) (fun y=>match y with | Sum.inl x113=>some (x113,(-2)) | Sum.inr (x114,x115)=>Option.bind (loopC (prop_Run_m2d81_l3 a0) (x114,x115)) (fun y=>match y with | Sum.inl (x188,x189)=>some (x188,x189) | Sum.inr (x190,x191)=>Option.bind (lenA 4097 x190) (fun x231=>some (x191,(-1)))))
theorem prop_Run_m2d81_ok (a0:List (List Int)) (a1:List Int):CtM E 14 [.osl 0 0 (List.length a0) 1,.fsl 1 (List.map cI a1)] [(0,.rows 1 (List.map c_L3 a0))] 1 (prop_Run_m2d81 a0 a1) (fun r:List S_api_Deduced × Int=>.tup [.osl 2 0 (List.length r.1) 2,iv r.2]) (fun r:List S_api_Deduced × Int=>[(0,.rows 1 (List.map c_L3 a0)),(2,.rows 2 (List.map c_S_api_Deduced r.1))]) 4:=ctm_intro (N:=65) (L:=prop_Run_m2d81_c) prop_Run_m2d81_k rfl (Nat.le_of_ble_eq_true rfl) (fun F hF=>by
 unfold prop_Run_m2d81
 refine jS ⟨[V 0 (.osl 0 0 (List.length a0) 1),V 1 (.fsl 1 (List.map cI a1)),V 4 (pt 1 1),V 5 (pt 2 1)],[(0,.rows 1 (List.map c_L3 a0)),W 1 1 [nilS],W 2 1 [iv 0]],3⟩ ?_
 refine jc_scope ?_
 refine jS ⟨[V 0 (.osl 0 0 (List.length a0) 1),V 1 (.fsl 1 (List.map cI a1)),V 4 (pt 1 1),V 5 (pt 2 1),V 6 (pt 4 1)],[(0,.rows 1 (List.map c_L3 a0)),W 1 1 [nilS],W 2 1 [iv 0],(3,.rows 4098 [List.map aI8 (List.replicate 4097 (0:Int)) ++ [nilS]]),W 4 1 [pt 3 4098]],5⟩ ?_
 refine jc_seq ?_
 refine jR ?_
 refine jG 0 3 ⟨[V 0 (.osl 0 0 (List.length a0) 1),V 4 (pt 1 1),V 5 (pt 2 1),V 6 (pt 4 1),V 15 (.fsl 1 (List.map cI a1)),V 16 (iv (List.length (List.map cI a1):Int)),V 17 (iv 0)],[(0,.rows 1 (List.map c_L3 a0)),W 1 1 [nilS],W 2 1 [iv 0],(3,.rows 4098 [List.map aI8 (List.replicate 4097 (0:Int)) ++ [nilS]]),W 4 1 [pt 3 4098]],5⟩ ?_
 simp only[List.length_map]
 refine jN ?_
 refine jc_block ?_
 refine jc_bind (fun y=>match y with | Sum.inl x113=>⟨[V 4 (pt 1 1),V 5 (pt 3 1)],[(0,.rows 1 (List.map c_L3 a0)),W 1 1 [.osl 2 0 (List.length x113) 2],(2,.rows 2 (List.map c_S_api_Deduced x113)),W 3 1 [iv (-2)]],4⟩ | Sum.inr (x114,x115)=>⟨[V 0 (.osl 0 0 (List.length a0) 1),V 4 (pt 1 1),V 5 (pt 2 1),V 6 (pt 3 1)],[(0,.rows 1 (List.map c_L3 a0)),W 1 1 [nilS],W 2 1 [iv 0],W 3 1 [pt 4 4098],(4,.rows 4098 [List.map aI8 x114 ++ [.osl 5 0 (List.length x115) 2]]),(5,.rows 2 (List.map c_S_api_Deduced x115))],6⟩) (fun y=>match y with | Sum.inl x113=>.ret | Sum.inr (x114,x115)=>(.exit 0)) (jc_loop (fun (x99,x100,x101)=>⟨[V 0 (.osl 0 0 (List.length a0) 1),V 4 (pt 1 1),V 5 (pt 2 1),V 6 (pt 3 1),V 15 (.fsl 1 (List.map cI a1)),V 16 (iv (List.length a1:Int)),V 17 (iv x101)],[(0,.rows 1 (List.map c_L3 a0)),W 1 1 [nilS],W 2 1 [iv 0],W 3 1 [pt 4 4098],(4,.rows 4098 [List.map aI8 x99 ++ [.osl 5 0 (List.length x100) 2]]),(5,.rows 2 (List.map c_S_api_Deduced x100))],6⟩) (wkR [(0,some 0),(1,some 1),(2,some 2),(3,some 4),(4,some 3),(5,none)] (fix_of hF (k:=1) rfl) (pc (hL 0 (noid_map ni_L3 _)) (pc (hC 1) (pc (hC 2) (pc (hC 4) (pc (hA 3) (pc hZ allp_nil))))))) ?_) ?_
 ·rintro⟨x99,x100,x101⟩
  unfold prop_Run_m2d81_l1
  refine jS ⟨[V 0 (.osl 0 0 (List.length a0) 1),V 4 (pt 1 1),V 5 (pt 2 1),V 6 (pt 3 1),V 15 (.fsl 1 (List.map cI a1)),V 16 (iv (List.length a1:Int)),V 17 (iv x101),V 18 (bv (decide (x101 < (List.length a1:Int))))],[(0,.rows 1 (List.map c_L3 a0)),W 1 1 [nilS],W 2 1 [iv 0],W 3 1 [pt 4 4098],(4,.rows 4098 [List.map aI8 x99 ++ [.osl 5 0 (List.length x100) 2]]),(5,.rows 2 (List.map c_S_api_Deduced x100))],6⟩ ?_
  refine jc_seq ?_
  refine jIf ?_ ?_
  ·refine jc_skip ?_
   refine jx_seqN ?_
   refine jc_seq ?_
   refine jc_bind (fun y=>match y with | Sum.inl (x122,x123)=>⟨[V 0 (.osl 0 0 (List.length a0) 1),V 4 (pt 1 1),V 5 (pt 2 1),V 6 (pt 3 1),V 15 (.fsl 1 (List.map cI a1)),V 16 (iv (List.length a1:Int)),V 17 (iv x101)],[(0,.rows 1 (List.map c_L3 a0)),W 1 1 [nilS],W 2 1 [iv 0],W 3 1 [pt 4 4098],(4,.rows 4098 [List.map aI8 x122 ++ [.osl 5 0 (List.length x123) 2]]),(5,.rows 2 (List.map c_S_api_Deduced x123))],6⟩ | Sum.inr _=>⟨[V 4 (pt 1 1),V 5 (pt 3 1)],[(0,.rows 1 (List.map c_L3 a0)),W 1 1 [.osl 2 0 (List.length x100) 2],(2,.rows 2 (List.map c_S_api_Deduced x100)),W 3 1 [iv (-2)]],4⟩) (fun y=>match y with | Sum.inl (x122,x123)=>.normal | Sum.inr _=>.ret) ?_ ?_
   ·refine jc_block ?_
    refine jR ?_
    refine jr_part (i:=0) (mo:=ixl a1 x101) rfl rfl rfl rfl (fun _ hc=>aop_ixf (c:=cI) (sz:=1) (e:=3) (kk:=.i64) (by kernel_rfl) (by kernel_rfl) (by kernel_rfl) (by kernel_rfl) hc) (fun _=>rfl) ?_
    intro x124 h124
    refine jG 1 2 ⟨[V 0 (.osl 0 0 (List.length a0) 1),V 4 (pt 1 1),V 5 (pt 2 1),V 6 (pt 3 1),V 8 (iv x124),V 15 (.fsl 1 (List.map cI a1)),V 16 (iv (List.length a1:Int)),V 17 (iv x101)],[(0,.rows 1 (List.map c_L3 a0)),W 1 1 [nilS],W 2 1 [iv 0],W 3 1 [pt 4 4098],(4,.rows 4098 [List.map aI8 x99 ++ [.osl 5 0 (List.length x100) 2]]),(5,.rows 2 (List.map c_S_api_Deduced x100))],6⟩ ?_
    refine jN ?_
    refine jc_seq ?_
    refine jR ?_
    refine jG 0 1 ⟨[V 0 (.osl 0 0 (List.length a0) 1),V 4 (pt 1 1),V 5 (pt 2 1),V 6 (pt 3 1),V 8 (iv x124),V 15 (.fsl 1 (List.map cI a1)),V 16 (iv (List.length a1:Int)),V 17 (iv x101),V 21 (iv x124)],[(0,.rows 1 (List.map c_L3 a0)),W 1 1 [nilS],W 2 1 [iv 0],W 3 1 [pt 4 4098],(4,.rows 4098 [List.map aI8 x99 ++ [.osl 5 0 (List.length x100) 2]]),(5,.rows 2 (List.map c_S_api_Deduced x100))],6⟩ ?_
    refine jK 1 (prop_literal_ok x124) ?_
    intro x125 h125
    refine jG 2 1 ⟨[V 0 (.osl 0 0 (List.length a0) 1),V 4 (pt 1 1),V 5 (pt 2 1),V 6 (pt 3 1),V 8 (iv x124),V 15 (.fsl 1 (List.map cI a1)),V 16 (iv (List.length a1:Int)),V 17 (iv x101),V 23 (bv (!x125))],[(0,.rows 1 (List.map c_L3 a0)),W 1 1 [nilS],W 2 1 [iv 0],W 3 1 [pt 4 4098],(4,.rows 4098 [List.map aI8 x99 ++ [.osl 5 0 (List.length x100) 2]]),(5,.rows 2 (List.map c_S_api_Deduced x100))],6⟩ ?_
    refine jN ?_
    refine jIf ?_ ?_
    ·refine jc_exit ?_
     refine jx_seqE ?_
     refine jx_blkE ?_
     exact jx_mid rfl (wkR [(0,some 0),(1,some 1),(2,some 2),(3,some 3),(4,some 4),(5,some 5)] (fix_of hF (k:=1) rfl) (pc (hL 0 (noid_map ni_L3 _)) (pc (hC 1) (pc (hC 2) (pc (hC 3) (pc (hA 4) (pc (hL 5 (noid_map ni_S_api_Deduced _)) allp_nil)))))))
    refine jc_skip ?_
    refine jx_seqN ?_
    refine jR ?_
    refine jG 0 2 ⟨[V 0 (.osl 0 0 (List.length a0) 1),V 4 (pt 1 1),V 5 (pt 2 1),V 6 (pt 3 1),V 8 (iv x124),V 15 (.fsl 1 (List.map cI a1)),V 16 (iv (List.length a1:Int)),V 17 (iv x101),V 24 (pt 4 4098),V 25 (iv x124)],[(0,.rows 1 (List.map c_L3 a0)),W 1 1 [nilS],W 2 1 [iv 0],W 3 1 [pt 4 4098],(4,.rows 4098 [List.map aI8 x99 ++ [.osl 5 0 (List.length x100) 2]]),(5,.rows 2 (List.map c_S_api_Deduced x100))],6⟩ ?_
    refine jr_callM 2 [(0,some 4),(1,some 5)] [(4,some 0),(5,some 1)] (fun r:Int=>[(0,.rows 1 (List.map c_L3 a0)),W 1 1 [nilS],W 2 1 [iv 0],W 3 1 [pt 4 4098],(4,.rows 4098 [List.map aI8 x99 ++ [.osl 5 0 (List.length x100) 2]]),(5,.rows 2 (List.map c_S_api_Deduced x100))]) (fun r:Int=>iv r) 6 (prop_sheet_of_ok x99 x100 x124) (pc (hA 4) (pc (hL 5 (noid_map ni_S_api_Deduced _)) allp_nil)) (fun r=>(pc (.inl ⟨rfl,rfl⟩) (pc (.inl ⟨rfl,rfl⟩) (pc (.inl ⟨rfl,rfl⟩) (pc (.inl ⟨rfl,rfl⟩) (pc (.inr (hA 0)) (pc (.inr (hL 1 (noid_map ni_S_api_Deduced _))) allp_nil))))))) ?_
    rintro x126 hm26
    refine jN ?_
    refine jc_block ?_
    refine jS ⟨[V 0 (.osl 0 0 (List.length a0) 1),V 4 (pt 1 1),V 5 (pt 2 1),V 6 (pt 3 1),V 8 (iv x124),V 15 (.fsl 1 (List.map cI a1)),V 16 (iv (List.length a1:Int)),V 17 (iv x101),V 26 (iv x126),V 27 (bv (x126 == (-1)))],[(0,.rows 1 (List.map c_L3 a0)),W 1 1 [nilS],W 2 1 [iv 0],W 3 1 [pt 4 4098],(4,.rows 4098 [List.map aI8 x99 ++ [.osl 5 0 (List.length x100) 2]]),(5,.rows 2 (List.map c_S_api_Deduced x100))],6⟩ ?_
    refine jIf ?_ ?_
    ·refine jR ?_
     refine jG 0 3 ⟨[V 4 (pt 1 1),V 5 (pt 2 1),V 31 (.ptr 4 0 4098 4097)],[(0,.rows 1 (List.map c_L3 a0)),W 1 1 [nilS],W 2 1 [iv 0],(4,.rows 4098 [List.map aI8 x99 ++ [.osl 5 0 (List.length x100) 2]]),(5,.rows 2 (List.map c_S_api_Deduced x100))],6⟩ ?_
     refine jr_guard ?_
     intro x127 h127
     refine jr_one (i:=3) (v:=.osl 5 0 (List.length x100) 2) (us:=[]) rfl rfl rfl rfl (aop_ldr (l:=x99) (c:=aI8) (rest:=[.osl 5 0 (List.length x100) 2]) (id:=4) (sz:=4098) (m:=4097) (q:=0) (by kernel_rfl) (by kernel_rfl) (by kernel_rfl) (by kernel_rfl) (lenA_iff h127) (by kernel_rfl)) rfl ?_
     refine jG 4 2 ⟨[V 4 (pt 1 1),V 5 (pt 2 1)],[(0,.rows 1 (List.map c_L3 a0)),W 1 1 [.osl 5 0 (List.length x100) 2],W 2 1 [iv (-2)],(5,.rows 2 (List.map c_S_api_Deduced x100))],6⟩ ?_
     refine jN ?_
     refine jc_ret ?_
     refine jx_blkR ?_
     refine jx_blkR ?_
     exact jx_mid rfl (wkR [(0,some 0),(1,some 1),(2,some 5),(3,some 2)] (fix_of hF (k:=1) rfl) (pc (hL 0 (noid_map ni_L3 _)) (pc (hC 1) (pc (hL 5 (noid_map ni_S_api_Deduced _)) (pc (hC 2) allp_nil)))))
    refine jS ⟨[V 0 (.osl 0 0 (List.length a0) 1),V 4 (pt 1 1),V 5 (pt 2 1),V 6 (pt 3 1),V 8 (iv x124),V 15 (.fsl 1 (List.map cI a1)),V 16 (iv (List.length a1:Int)),V 17 (iv x101),V 33 (bv (x126 == 0))],[(0,.rows 1 (List.map c_L3 a0)),W 1 1 [nilS],W 2 1 [iv 0],W 3 1 [pt 4 4098],(4,.rows 4098 [List.map aI8 x99 ++ [.osl 5 0 (List.length x100) 2]]),(5,.rows 2 (List.map c_S_api_Deduced x100))],6⟩ ?_
    refine jIf ?_ ?_
    ·refine jc_reg ?_
     refine jG 0 2 ⟨[V 0 (.osl 0 0 (List.length a0) 1),V 4 (pt 1 1),V 5 (pt 2 1),V 6 (pt 3 1),V 15 (.fsl 1 (List.map cI a1)),V 16 (iv (List.length a1:Int)),V 17 (iv x101),V 35 (pt 4 4098),V 36 (iv x124)],[(0,.rows 1 (List.map c_L3 a0)),W 1 1 [nilS],W 2 1 [iv 0],W 3 1 [pt 4 4098],(4,.rows 4098 [List.map aI8 x99 ++ [.osl 5 0 (List.length x100) 2]]),(5,.rows 2 (List.map c_S_api_Deduced x100))],6⟩ ?_
     refine jr_callM 2 [(0,some 4),(1,some 5)] [(4,some 0),(6,some 2)] (fun r:List Int × List S_api_Deduced=>[(0,.rows 1 (List.map c_L3 a0)),W 1 1 [nilS],W 2 1 [iv 0],W 3 1 [pt 4 4098],(4,.rows 4098 [List.map aI8 r.1 ++ [.osl 6 0 (List.length r.2) 2]]),(6,.rows 2 (List.map c_S_api_Deduced r.2))]) (fun r:List Int × List S_api_Deduced=>.tup []) 7 (prop_sheet_set_ok x99 x100 x124 (-1)) (pc (hA 4) (pc (hL 5 (noid_map ni_S_api_Deduced _)) allp_nil)) (fun r=>(pc (.inl ⟨rfl,rfl⟩) (pc (.inl ⟨rfl,rfl⟩) (pc (.inl ⟨rfl,rfl⟩) (pc (.inl ⟨rfl,rfl⟩) (pc (.inr (hA 0)) (pc (.inr (hL 2 (noid_map ni_S_api_Deduced _))) allp_nil))))))) ?_
     rintro⟨x128,x129⟩ hm25
     refine jr_nil rfl ?_
     refine jx_blkN ?_
     refine jx_blkN ?_
     exact jx_mid rfl (wkR [(0,some 0),(1,some 1),(2,some 2),(3,some 3),(4,some 4),(5,some 6)] (fix_of hF (k:=1) rfl) (pc (hL 0 (noid_map ni_L3 _)) (pc (hC 1) (pc (hC 2) (pc (hC 3) (pc (hA 4) (pc (hL 6 (noid_map ni_S_api_Deduced _)) allp_nil)))))))
    refine jc_skip ?_
    refine jx_blkN ?_
    refine jx_blkN ?_
    exact jx_mid rfl (wkR [(0,some 0),(1,some 1),(2,some 2),(3,some 3),(4,some 4),(5,some 5)] (fix_of hF (k:=1) rfl) (pc (hL 0 (noid_map ni_L3 _)) (pc (hC 1) (pc (hC 2) (pc (hC 3) (pc (hA 4) (pc (hL 5 (noid_map ni_S_api_Deduced _)) allp_nil)))))))
   rintro (⟨x122,x123⟩ | _)
   ·refine jx_seqN ?_
    refine jT ⟨[V 0 (.osl 0 0 (List.length a0) 1),V 4 (pt 1 1),V 5 (pt 2 1),V 6 (pt 3 1),V 15 (.fsl 1 (List.map cI a1)),V 16 (iv (List.length a1:Int)),V 17 (iv (w64 (x101 + 1)))],[(0,.rows 1 (List.map c_L3 a0)),W 1 1 [nilS],W 2 1 [iv 0],W 3 1 [pt 4 4098],(4,.rows 4098 [List.map aI8 x122 ++ [.osl 5 0 (List.length x123) 2]]),(5,.rows 2 (List.map c_S_api_Deduced x123))],6⟩ ?_
    exact jx_next (wkR [(0,some 0),(1,some 1),(2,some 2),(3,some 3),(4,some 4),(5,some 5)] (fix_of hF (k:=1) rfl) (pc (hL 0 (noid_map ni_L3 _)) (pc (hC 1) (pc (hC 2) (pc (hC 3) (pc (hA 4) (pc (hL 5 (noid_map ni_S_api_Deduced _)) allp_nil)))))))
   refine jx_seqR ?_
   exact jx_done rfl nofun (wkR [(0,some 0),(1,some 1),(2,some 2),(3,some 3)] (fix_of hF (k:=1) rfl) (pc (hL 0 (noid_map ni_L3 _)) (pc (hC 1) (pc (hL 2 (noid_map ni_S_api_Deduced _)) (pc (hC 3) allp_nil)))))
  refine jc_exit ?_
  refine jx_seqE ?_
  exact jx_done rfl nofun (wkR [(0,some 0),(1,some 1),(2,some 2),(3,some 3),(4,some 4),(5,some 5)] (fix_of hF (k:=1) rfl) (pc (hL 0 (noid_map ni_L3 _)) (pc (hC 1) (pc (hC 2) (pc (hC 3) (pc (hA 4) (pc (hL 5 (noid_map ni_S_api_Deduced _)) allp_nil)))))))
 rintro (x113 | ⟨x114,x115⟩)
 ·refine jx_blkR ?_
  refine jx_seqR ?_
  refine jx_scopeR ?_
  exact jx_retM (prop_Run_m2d81_T a0 a1 (x113,(-2))) (.inr rfl) (wkR [(0,some 0),(1,some 1),(2,some 2),(3,some 3)] (fix_of hF (k:=1) rfl) (pc (hL 0 (noid_map ni_L3 _)) (pc (hC 1) (pc (hL 2 (noid_map ni_S_api_Deduced _)) (pc (hC 3) allp_nil)))))
 refine jx_blkE ?_
 refine jx_seqN ?_
 refine jc_seq ?_
 refine jc_label ?_
 refine jx_seqN ?_
 refine jc_seq ?_
 refine jc_block ?_
 refine jc_bind (fun y=>match y with | Sum.inl (x188,x189)=>⟨[V 4 (pt 1 1),V 5 (pt 3 1)],[(0,.rows 1 (List.map c_L3 a0)),W 1 1 [.osl 2 0 (List.length x188) 2],(2,.rows 2 (List.map c_S_api_Deduced x188)),W 3 1 [iv x189]],4⟩ | Sum.inr (x190,x191)=>⟨[V 4 (pt 1 1),V 5 (pt 2 1),V 6 (pt 3 1)],[(0,.rows 1 (List.map c_L3 a0)),W 1 1 [nilS],W 2 1 [iv 0],W 3 1 [pt 4 4098],(4,.rows 4098 [List.map aI8 x190 ++ [.osl 5 0 (List.length x191) 2]]),(5,.rows 2 (List.map c_S_api_Deduced x191))],6⟩) (fun y=>match y with | Sum.inl (x188,x189)=>.ret | Sum.inr (x190,x191)=>(.exit 3)) (jc_loop (fun (x157,x158)=>⟨[V 0 (.osl 0 0 (List.length a0) 1),V 4 (pt 1 1),V 5 (pt 2 1),V 6 (pt 3 1)],[(0,.rows 1 (List.map c_L3 a0)),W 1 1 [nilS],W 2 1 [iv 0],W 3 1 [pt 4 4098],(4,.rows 4098 [List.map aI8 x157 ++ [.osl 5 0 (List.length x158) 2]]),(5,.rows 2 (List.map c_S_api_Deduced x158))],6⟩) (wkR [(0,some 0),(1,some 1),(2,some 2),(3,some 3),(4,some 4),(5,some 5)] (fix_of hF (k:=1) rfl) (pc (hL 0 (noid_map ni_L3 _)) (pc (hC 1) (pc (hC 2) (pc (hC 3) (pc (hA 4) (pc (hL 5 (noid_map ni_S_api_Deduced _)) allp_nil))))))) ?_) ?_
 ·rintro⟨x157,x158⟩
  unfold prop_Run_m2d81_l3
  refine jc_block ?_
  refine jS ⟨[V 0 (.osl 0 0 (List.length a0) 1),V 4 (pt 1 1),V 5 (pt 2 1),V 6 (pt 3 1),V 9 (pt 6 1),V 10 (pt 7 1)],[(0,.rows 1 (List.map c_L3 a0)),W 1 1 [nilS],W 2 1 [iv 0],W 3 1 [pt 4 4098],(4,.rows 4098 [List.map aI8 x157 ++ [.osl 5 0 (List.length x158) 2]]),(5,.rows 2 (List.map c_S_api_Deduced x158)),W 6 1 [iv (-1)],W 7 1 [iv 0]],8⟩ ?_
  refine jc_seq ?_
  refine jR ?_
  refine jG 0 2 ⟨[V 0 (.osl 0 0 (List.length a0) 1),V 4 (pt 1 1),V 5 (pt 2 1),V 6 (pt 3 1),V 9 (pt 6 1),V 10 (pt 7 1),V 39 (pt 4 4098),V 40 (.osl 0 0 (List.length a0) 1)],[(0,.rows 1 (List.map c_L3 a0)),W 1 1 [nilS],W 2 1 [iv 0],W 3 1 [pt 4 4098],(4,.rows 4098 [List.map aI8 x157 ++ [.osl 5 0 (List.length x158) 2]]),(5,.rows 2 (List.map c_S_api_Deduced x158)),W 6 1 [iv (-1)],W 7 1 [iv 0]],8⟩ ?_
  refine jr_callM 2 [(0,some 4),(1,some 5),(2,some 0)] [(4,some 0),(5,some 1),(0,some 2),(8,some 3),(9,some 4)] (fun r:Unit=>[(0,.rows 1 (List.map c_L3 a0)),W 1 1 [nilS],W 2 1 [iv 0],W 3 1 [pt 4 4098],(4,.rows 4098 [List.map aI8 x157 ++ [.osl 5 0 (List.length x158) 2]]),(5,.rows 2 (List.map c_S_api_Deduced x158)),W 6 1 [iv (-1)],W 7 1 [iv 0],W 8 1 [.osl 0 0 (List.length a0) 1],W 9 1 [pt 4 4098]]) (fun r:Unit=>.fn 38 [pt 8 1,pt 9 1]) 10 (prop_sheet_counts_mfe69_ok x157 x158 a0) (pc (hA 4) (pc (hL 5 (noid_map ni_S_api_Deduced _)) (pc (hL 0 (noid_map ni_L3 _)) allp_nil))) (fun r=>(pc (.inr (hL 2 (noid_map ni_L3 _))) (pc (.inl ⟨rfl,rfl⟩) (pc (.inl ⟨rfl,rfl⟩) (pc (.inl ⟨rfl,rfl⟩) (pc (.inr (hA 0)) (pc (.inr (hL 1 (noid_map ni_S_api_Deduced _))) (pc (.inl ⟨rfl,rfl⟩) (pc (.inl ⟨rfl,rfl⟩) (pc (.inr (hC 3)) (pc (.inr (hC 4)) allp_nil))))))))))) ?_
  rintro⟨⟩ hm50
  refine jN ?_
  refine jc_block ?_
  refine jc_keep [0,4,5,6,9,10,41] [0,1,2,3,4,5,6,7,8,9] (st1:=⟨[V 0 (.osl 0 0 (List.length a0) 1),V 4 (pt 1 1),V 5 (pt 2 1),V 6 (pt 3 1),V 9 (pt 6 1),V 10 (pt 7 1),V 41 (.fn 38 [pt 8 1,pt 9 1])],[(0,.rows 1 (List.map c_L3 a0)),W 1 1 [nilS],W 2 1 [iv 0],W 3 1 [pt 4 4098],(4,.rows 4098 [List.map aI8 x157 ++ [.osl 5 0 (List.length x158) 2]]),(5,.rows 2 (List.map c_S_api_Deduced x158)),W 6 1 [iv (-1)],W 7 1 [iv 0],W 8 1 [.osl 0 0 (List.length a0) 1],W 9 1 [pt 4 4098]],10⟩) (by kernel_rfl) ?_
  refine jc_rng (g:=38) (caps:=[pt 8 1,pt 9 1]) (by kernel_rfl) prop_sheet_counts_1_it_k (Nat.le_of_ble_eq_true rfl) ?_
  intro F41 hc41
  refine jS ⟨[V 0 (.yld 10),V 2 (pt 9 1),V 8 (.osl 0 0 (List.length a0) 1),V 9 (iv (List.length a0:Int)),V 10 (iv 0)],[(0,.rows 1 (List.map c_L3 a0)),W 1 1 [nilS],W 2 1 [iv 0],W 3 1 [pt 4 4098],(4,.rows 4098 [List.map aI8 x157 ++ [.osl 5 0 (List.length x158) 2]]),(5,.rows 2 (List.map c_S_api_Deduced x158)),W 6 1 [iv (-1)],W 7 1 [iv 0],W 8 1 [.osl 0 0 (List.length a0) 1],W 9 1 [pt 4 4098],(10,prop_Run_m2d81_lp41 a0 .ready none)],11⟩ ?_
  refine jc_block ?_
  refine jc_bind (fun y=>match y with | Sum.inl (x212,x213,x214)=>⟨[],[(0,.rows 1 (List.map c_L3 a0)),W 1 1 [.osl 5 0 (List.length x158) 2],W 2 1 [iv x212],W 3 1 [pt 4 4098],(4,.rows 4098 [List.map aI8 x157 ++ [.osl 5 0 (List.length x158) 2]]),(5,.rows 2 (List.map c_S_api_Deduced x158)),W 6 1 [iv x213],W 7 1 [iv x214],W 8 1 [.osl 0 0 (List.length a0) 1],W 9 1 [pt 4 4098],(10,prop_Run_m2d81_lp41 a0 .done (some .ret))],11⟩ | Sum.inr (x215,x216)=>⟨[],[(0,.rows 1 (List.map c_L3 a0)),W 1 1 [nilS],W 2 1 [iv 0],W 3 1 [pt 4 4098],(4,.rows 4098 [List.map aI8 x157 ++ [.osl 5 0 (List.length x158) 2]]),(5,.rows 2 (List.map c_S_api_Deduced x158)),W 6 1 [iv x215],W 7 1 [iv x216],W 8 1 [.osl 0 0 (List.length a0) 1],W 9 1 [pt 4 4098],(10,prop_Run_m2d81_lp41 a0 .ready none)],11⟩) (fun y=>match y with | Sum.inl (x212,x213,x214)=>.ret | Sum.inr (x215,x216)=>(.exit 0)) (jc_loop (fun (x198,x199,x200)=>⟨[V 0 (.yld 10),V 2 (pt 9 1),V 8 (.osl 0 0 (List.length a0) 1),V 9 (iv (List.length a0:Int)),V 10 (iv x198)],[(0,.rows 1 (List.map c_L3 a0)),W 1 1 [nilS],W 2 1 [iv 0],W 3 1 [pt 4 4098],(4,.rows 4098 [List.map aI8 x157 ++ [.osl 5 0 (List.length x158) 2]]),(5,.rows 2 (List.map c_S_api_Deduced x158)),W 6 1 [iv x199],W 7 1 [iv x200],W 8 1 [.osl 0 0 (List.length a0) 1],W 9 1 [pt 4 4098],(10,prop_Run_m2d81_lp41 a0 .ready none)],11⟩) (wkR [(0,some 0),(1,some 1),(2,some 2),(3,some 3),(4,some 4),(5,some 5),(6,some 6),(7,some 7),(8,some 8),(9,some 9),(10,some 10)] (fix_of hc41.2.2 (k:=11) rfl) (pc (hL 0 (noid_map ni_L3 _)) (pc (hC 1) (pc (hC 2) (pc (hC 3) (pc (hA 4) (pc (hL 5 (noid_map ni_S_api_Deduced _)) (pc (hC 6) (pc (hC 7) (pc (hC 8) (pc (hC 9) (pc (.inr (.inr ⟨10,_,_,rfl,rfl,rfl,by kernel_rfl⟩)) allp_nil)))))))))))) ?_) ?_
  ·rintro⟨x198,x199,x200⟩
   unfold prop_Run_m2d81_l2
   refine jS ⟨[V 0 (.yld 10),V 2 (pt 9 1),V 8 (.osl 0 0 (List.length a0) 1),V 9 (iv (List.length a0:Int)),V 10 (iv x198),V 11 (bv (decide (x198 < (List.length a0:Int))))],[(0,.rows 1 (List.map c_L3 a0)),W 1 1 [nilS],W 2 1 [iv 0],W 3 1 [pt 4 4098],(4,.rows 4098 [List.map aI8 x157 ++ [.osl 5 0 (List.length x158) 2]]),(5,.rows 2 (List.map c_S_api_Deduced x158)),W 6 1 [iv x199],W 7 1 [iv x200],W 8 1 [.osl 0 0 (List.length a0) 1],W 9 1 [pt 4 4098],(10,prop_Run_m2d81_lp41 a0 .ready none)],11⟩ ?_
   refine jc_seq ?_
   refine jIf ?_ ?_
   ·refine jc_skip ?_
    refine jx_seqN ?_
    refine jc_seq ?_
    refine jc_block ?_
    refine jR ?_
    refine jG 0 1 ⟨[V 0 (.yld 10),V 2 (pt 9 1),V 8 (.osl 0 0 (List.length a0) 1),V 9 (iv (List.length a0:Int)),V 10 (iv x198),V 12 (iv x198)],[(0,.rows 1 (List.map c_L3 a0)),W 1 1 [nilS],W 2 1 [iv 0],W 3 1 [pt 4 4098],(4,.rows 4098 [List.map aI8 x157 ++ [.osl 5 0 (List.length x158) 2]]),(5,.rows 2 (List.map c_S_api_Deduced x158)),W 6 1 [iv x199],W 7 1 [iv x200],W 8 1 [.osl 0 0 (List.length a0) 1],W 9 1 [pt 4 4098],(10,prop_Run_m2d81_lp41 a0 .ready none)],11⟩ ?_
    refine jr_part (i:=1) (mo:=ixl a0 x198) rfl rfl rfl rfl (fun _ hc=>aop_ixo0 (sz:=1) (e:=23) (kk:=.i64) (id:=0) (by kernel_rfl) (by kernel_rfl) (by kernel_rfl) (by kernel_rfl) hc) (fun _=>rfl) ?_
    intro x217 h217
    refine jr_one (i:=2) (v:=.fsl 1 (List.map cI x217)) rfl rfl rfl rfl (aop_ldo (l:=a0) (c:=c_L3) (id:=0) (k:=(Int.toNat x198)) (sz:=1) (off:=0) (a:=x217) (by kernel_rfl) (by kernel_rfl) (ixl_lt h217).2.2 (by kernel_rfl)) rfl ?_
    refine jG 3 2 ⟨[V 0 (.yld 10),V 2 (pt 9 1),V 4 (iv x198),V 5 (.fsl 1 (List.map cI x217)),V 8 (.osl 0 0 (List.length a0) 1),V 9 (iv (List.length a0:Int)),V 10 (iv x198)],[(0,.rows 1 (List.map c_L3 a0)),W 1 1 [nilS],W 2 1 [iv 0],W 3 1 [pt 4 4098],(4,.rows 4098 [List.map aI8 x157 ++ [.osl 5 0 (List.length x158) 2]]),(5,.rows 2 (List.map c_S_api_Deduced x158)),W 6 1 [iv x199],W 7 1 [iv x200],W 8 1 [.osl 0 0 (List.length a0) 1],W 9 1 [pt 4 4098],(10,prop_Run_m2d81_lp41 a0 .ready none)],11⟩ ?_
    refine jN ?_
    refine jR ?_
    refine jG 0 2 ⟨[V 0 (.yld 10),V 2 (pt 9 1),V 4 (iv x198),V 8 (.osl 0 0 (List.length a0) 1),V 9 (iv (List.length a0:Int)),V 10 (iv x198),V 16 (pt 4 4098),V 17 (.fsl 1 (List.map cI x217))],[(0,.rows 1 (List.map c_L3 a0)),W 1 1 [nilS],W 2 1 [iv 0],W 3 1 [pt 4 4098],(4,.rows 4098 [List.map aI8 x157 ++ [.osl 5 0 (List.length x158) 2]]),(5,.rows 2 (List.map c_S_api_Deduced x158)),W 6 1 [iv x199],W 7 1 [iv x200],W 8 1 [.osl 0 0 (List.length a0) 1],W 9 1 [pt 4 4098],(10,prop_Run_m2d81_lp41 a0 .ready none)],11⟩ ?_
    refine jr_callM 2 [(0,some 4),(1,some 5)] [(4,some 0),(5,some 1)] (fun r:Bool × Int=>[(0,.rows 1 (List.map c_L3 a0)),W 1 1 [nilS],W 2 1 [iv 0],W 3 1 [pt 4 4098],(4,.rows 4098 [List.map aI8 x157 ++ [.osl 5 0 (List.length x158) 2]]),(5,.rows 2 (List.map c_S_api_Deduced x158)),W 6 1 [iv x199],W 7 1 [iv x200],W 8 1 [.osl 0 0 (List.length a0) 1],W 9 1 [pt 4 4098],(10,prop_Run_m2d81_lp41 a0 .ready none)]) (fun r:Bool × Int=>.tup [bv r.1,iv r.2]) 11 (prop_sheet_look_ok x157 x158 x217) (pc (hA 4) (pc (hL 5 (noid_map ni_S_api_Deduced _)) allp_nil)) (fun r=>(pc (.inl ⟨rfl,rfl⟩) (pc (.inl ⟨rfl,rfl⟩) (pc (.inl ⟨rfl,rfl⟩) (pc (.inl ⟨rfl,rfl⟩) (pc (.inr (hA 0)) (pc (.inr (hL 1 (noid_map ni_S_api_Deduced _))) (pc (.inl ⟨rfl,rfl⟩) (pc (.inl ⟨rfl,rfl⟩) (pc (.inl ⟨rfl,rfl⟩) (pc (.inl ⟨rfl,rfl⟩) (pc (.inl ⟨rfl,rfl⟩) allp_nil)))))))))))) ?_
    rintro⟨x218,x219⟩ hm48
    refine jG 3 5 ⟨[V 0 (.yld 10),V 2 (pt 9 1),V 4 (iv x198),V 6 (bv x218),V 7 (iv x219),V 8 (.osl 0 0 (List.length a0) 1),V 9 (iv (List.length a0:Int)),V 10 (iv x198)],[(0,.rows 1 (List.map c_L3 a0)),W 1 1 [nilS],W 2 1 [iv 0],W 3 1 [pt 4 4098],(4,.rows 4098 [List.map aI8 x157 ++ [.osl 5 0 (List.length x158) 2]]),(5,.rows 2 (List.map c_S_api_Deduced x158)),W 6 1 [iv x199],W 7 1 [iv x200],W 8 1 [.osl 0 0 (List.length a0) 1],W 9 1 [pt 4 4098],(10,prop_Run_m2d81_lp41 a0 .ready none)],11⟩ ?_
    refine jN ?_
    refine jR ?_
    refine jG 0 6 ⟨[V 0 (.yld 10),V 2 (pt 9 1),V 4 (iv x198),V 7 (iv x219),V 8 (.osl 0 0 (List.length a0) 1),V 9 (iv (List.length a0:Int)),V 10 (iv x198),V 26 (bv (x218 || (x219 != 0)))],[(0,.rows 1 (List.map c_L3 a0)),W 1 1 [nilS],W 2 1 [iv 0],W 3 1 [pt 4 4098],(4,.rows 4098 [List.map aI8 x157 ++ [.osl 5 0 (List.length x158) 2]]),(5,.rows 2 (List.map c_S_api_Deduced x158)),W 6 1 [iv x199],W 7 1 [iv x200],W 8 1 [.osl 0 0 (List.length a0) 1],W 9 1 [pt 4 4098],(10,prop_Run_m2d81_lp41 a0 .ready none)],11⟩ ?_
    refine jr_bind 6 6 (fun y=>match y with | Sum.inl _=>⟨[V 0 (.yld 10),V 2 (pt 9 1),V 8 (.osl 0 0 (List.length a0) 1),V 9 (iv (List.length a0:Int)),V 10 (iv x198),V 32 (bv true)],[(0,.rows 1 (List.map c_L3 a0)),W 1 1 [.osl 5 0 (List.length x158) 2],W 2 1 [iv x198],W 3 1 [pt 4 4098],(4,.rows 4098 [List.map aI8 x157 ++ [.osl 5 0 (List.length x158) 2]]),(5,.rows 2 (List.map c_S_api_Deduced x158)),W 6 1 [iv x199],W 7 1 [iv x200],W 8 1 [.osl 0 0 (List.length a0) 1],W 9 1 [pt 4 4098],(10,prop_Run_m2d81_lp41 a0 .done (some .ret))],11⟩ | Sum.inr (x223,x224)=>⟨[V 0 (.yld 10),V 2 (pt 9 1),V 8 (.osl 0 0 (List.length a0) 1),V 9 (iv (List.length a0:Int)),V 10 (iv x198),V 32 (bv false)],[(0,.rows 1 (List.map c_L3 a0)),W 1 1 [nilS],W 2 1 [iv 0],W 3 1 [pt 4 4098],(4,.rows 4098 [List.map aI8 x157 ++ [.osl 5 0 (List.length x158) 2]]),(5,.rows 2 (List.map c_S_api_Deduced x158)),W 6 1 [iv x223],W 7 1 [iv x224],W 8 1 [.osl 0 0 (List.length a0) 1],W 9 1 [pt 4 4098],(10,prop_Run_m2d81_lp41 a0 .ready none)],11⟩) ?_ ?_
    ·refine jSp 26 ?_ ?_
     ·refine jG 0 3 ⟨[V 0 (.yld 10),V 2 (pt 9 1),V 8 (.osl 0 0 (List.length a0) 1),V 9 (iv (List.length a0:Int)),V 10 (iv x198),(26,.lit true),V 27 (.yld 10),V 28 (iv x198),V 29 (iv x219)],[(0,.rows 1 (List.map c_L3 a0)),W 1 1 [nilS],W 2 1 [iv 0],W 3 1 [pt 4 4098],(4,.rows 4098 [List.map aI8 x157 ++ [.osl 5 0 (List.length x158) 2]]),(5,.rows 2 (List.map c_S_api_Deduced x158)),W 6 1 [iv x199],W 7 1 [iv x200],W 8 1 [.osl 0 0 (List.length a0) 1],W 9 1 [pt 4 4098],(10,prop_Run_m2d81_lp41 a0 .ready none)],11⟩ ?_
      refine jr_yield (i:=3) (l:=10) (Nc:=65) (Kc:=[V 0 (.osl 0 0 (List.length a0) 1),V 4 (pt 1 1),V 5 (pt 2 1),V 6 (pt 3 1),V 9 (pt 6 1),V 10 (pt 7 1),V 41 (.fn 38 [pt 8 1,pt 9 1])]) (ps:=[42,43]) (vs:=[iv x198,iv x219]) (fun y=>match y with | Sum.inl _=>⟨[],[(0,.rows 1 (List.map c_L3 a0)),W 1 1 [.osl 5 0 (List.length x158) 2],W 2 1 [iv x198],W 3 1 [pt 4 4098],(4,.rows 4098 [List.map aI8 x157 ++ [.osl 5 0 (List.length x158) 2]]),(5,.rows 2 (List.map c_S_api_Deduced x158)),W 6 1 [iv x199],W 7 1 [iv x200],W 8 1 [.osl 0 0 (List.length a0) 1],W 9 1 [pt 4 4098],(10,prop_Run_m2d81_lp41 a0 .busy none)],11⟩ | Sum.inr (x226,x227)=>⟨[],[(0,.rows 1 (List.map c_L3 a0)),W 1 1 [nilS],W 2 1 [iv 0],W 3 1 [pt 4 4098],(4,.rows 4098 [List.map aI8 x157 ++ [.osl 5 0 (List.length x158) 2]]),(5,.rows 2 (List.map c_S_api_Deduced x158)),W 6 1 [iv x226],W 7 1 [iv x227],W 8 1 [.osl 0 0 (List.length a0) 1],W 9 1 [pt 4 4098],(10,prop_Run_m2d81_lp41 a0 .busy none)],11⟩) (fun y=>match y with | Sum.inl _=>.ret | Sum.inr (x226,x227)=>.normal) [0,2,8,9,10,26,30] [0,1,2,3,4,5,6,7,8,9,10] (after:=(fun y=>match y with | Sum.inl _=>⟨[V 0 (.yld 10),V 2 (pt 9 1),V 8 (.osl 0 0 (List.length a0) 1),V 9 (iv (List.length a0:Int)),V 10 (iv x198),(26,.lit true),V 30 (bv false)],[(0,.rows 1 (List.map c_L3 a0)),W 1 1 [.osl 5 0 (List.length x158) 2],W 2 1 [iv x198],W 3 1 [pt 4 4098],(4,.rows 4098 [List.map aI8 x157 ++ [.osl 5 0 (List.length x158) 2]]),(5,.rows 2 (List.map c_S_api_Deduced x158)),W 6 1 [iv x199],W 7 1 [iv x200],W 8 1 [.osl 0 0 (List.length a0) 1],W 9 1 [pt 4 4098],(10,prop_Run_m2d81_lp41 a0 .done (some .ret))],11⟩ | Sum.inr (x226,x227)=>⟨[V 0 (.yld 10),V 2 (pt 9 1),V 8 (.osl 0 0 (List.length a0) 1),V 9 (iv (List.length a0:Int)),V 10 (iv x198),(26,.lit true),V 30 (bv true)],[(0,.rows 1 (List.map c_L3 a0)),W 1 1 [nilS],W 2 1 [iv 0],W 3 1 [pt 4 4098],(4,.rows 4098 [List.map aI8 x157 ++ [.osl 5 0 (List.length x158) 2]]),(5,.rows 2 (List.map c_S_api_Deduced x158)),W 6 1 [iv x226],W 7 1 [iv x227],W 8 1 [.osl 0 0 (List.length a0) 1],W 9 1 [pt 4 4098],(10,prop_Run_m2d81_lp41 a0 .ready none)],11⟩)) rfl rfl prop_Run_m2d81_y21_aw prop_Run_m2d81_y21_bw (by kernel_rfl) (by kernel_rfl) (yctx_of hc41 rfl) rfl (by kernel_rfl) rfl ?_ (by rintro (_ | ⟨x226,x227⟩) <;> exact⟨none,by kernel_rfl⟩) (by rintro (_ | ⟨x226,x227⟩) <;> kernel_rfl) ?_
      ·intro F47 hy47
       refine jS ⟨[V 4 (pt 1 1),V 5 (pt 2 1),V 6 (pt 3 1),V 9 (pt 6 1),V 10 (pt 7 1),V 11 (iv x198),V 43 (iv x219)],[(0,.rows 1 (List.map c_L3 a0)),W 1 1 [nilS],W 2 1 [iv 0],W 3 1 [pt 4 4098],(4,.rows 4098 [List.map aI8 x157 ++ [.osl 5 0 (List.length x158) 2]]),(5,.rows 2 (List.map c_S_api_Deduced x158)),W 6 1 [iv x199],W 7 1 [iv x200],W 8 1 [.osl 0 0 (List.length a0) 1],W 9 1 [pt 4 4098],(10,prop_Run_m2d81_lp41 a0 .ready none)],11⟩ ?_
       refine jT ⟨[V 4 (pt 1 1),V 5 (pt 2 1),V 6 (pt 3 1),V 9 (pt 6 1),V 10 (pt 7 1),V 11 (iv x198),V 12 (iv x219)],[(0,.rows 1 (List.map c_L3 a0)),W 1 1 [nilS],W 2 1 [iv 0],W 3 1 [pt 4 4098],(4,.rows 4098 [List.map aI8 x157 ++ [.osl 5 0 (List.length x158) 2]]),(5,.rows 2 (List.map c_S_api_Deduced x158)),W 6 1 [iv x199],W 7 1 [iv x200],W 8 1 [.osl 0 0 (List.length a0) 1],W 9 1 [pt 4 4098],(10,prop_Run_m2d81_lp41 a0 .ready none)],11⟩ ?_
       refine jx_asg hy47 rfl ?_
       refine jc_block ?_
       refine jc_seq ?_
       refine jS ⟨[V 4 (pt 1 1),V 5 (pt 2 1),V 6 (pt 3 1),V 9 (pt 6 1),V 10 (pt 7 1),V 11 (iv x198),V 12 (iv x219),V 45 (bv (x219 == 0))],[(0,.rows 1 (List.map c_L3 a0)),W 1 1 [nilS],W 2 1 [iv 0],W 3 1 [pt 4 4098],(4,.rows 4098 [List.map aI8 x157 ++ [.osl 5 0 (List.length x158) 2]]),(5,.rows 2 (List.map c_S_api_Deduced x158)),W 6 1 [iv x199],W 7 1 [iv x200],W 8 1 [.osl 0 0 (List.length a0) 1],W 9 1 [pt 4 4098],(10,prop_Run_m2d81_lp41 a0 .busy none)],11⟩ ?_
       refine jIf ?_ ?_
       ·refine jR ?_
        refine jG 0 3 ⟨[V 4 (pt 1 1),V 5 (pt 2 1),V 11 (iv x198),V 48 (.ptr 4 0 4098 4097)],[(0,.rows 1 (List.map c_L3 a0)),W 1 1 [nilS],W 2 1 [iv 0],W 3 1 [pt 4 4098],(4,.rows 4098 [List.map aI8 x157 ++ [.osl 5 0 (List.length x158) 2]]),(5,.rows 2 (List.map c_S_api_Deduced x158)),W 6 1 [iv x199],W 7 1 [iv x200],W 8 1 [.osl 0 0 (List.length a0) 1],W 9 1 [pt 4 4098],(10,prop_Run_m2d81_lp41 a0 .busy none)],11⟩ ?_
        refine jr_guard ?_
        intro x228 h228
        refine jr_one (i:=3) (v:=.osl 5 0 (List.length x158) 2) (us:=[]) rfl rfl rfl rfl (aop_ldr (l:=x157) (c:=aI8) (rest:=[.osl 5 0 (List.length x158) 2]) (id:=4) (sz:=4098) (m:=4097) (q:=0) (by kernel_rfl) (by kernel_rfl) (by kernel_rfl) (by kernel_rfl) (lenA_iff h228) (by kernel_rfl)) rfl ?_
        refine jG 4 3 ⟨[],[(0,.rows 1 (List.map c_L3 a0)),W 1 1 [.osl 5 0 (List.length x158) 2],W 2 1 [iv x198],W 3 1 [pt 4 4098],(4,.rows 4098 [List.map aI8 x157 ++ [.osl 5 0 (List.length x158) 2]]),(5,.rows 2 (List.map c_S_api_Deduced x158)),W 6 1 [iv x199],W 7 1 [iv x200],W 8 1 [.osl 0 0 (List.length a0) 1],W 9 1 [pt 4 4098],(10,prop_Run_m2d81_lp41 a0 .busy none)],11⟩ ?_
        refine jN ?_
        refine jc_ret ?_
        refine jx_seqR ?_
        refine jx_blkR ?_
        exact jx_mid rfl (wkR [(0,some 0),(1,some 1),(2,some 2),(3,some 3),(4,some 4),(5,some 5),(6,some 6),(7,some 7),(8,some 8),(9,some 9),(10,some 10)] (fix_of hy47.2 (k:=11) rfl) (pc (hL 0 (noid_map ni_L3 _)) (pc (hC 1) (pc (hC 2) (pc (hC 3) (pc (hA 4) (pc (hL 5 (noid_map ni_S_api_Deduced _)) (pc (hC 6) (pc (hC 7) (pc (hC 8) (pc (hC 9) (pc (.inr (.inr ⟨10,_,_,rfl,rfl,rfl,by kernel_rfl⟩)) allp_nil))))))))))))
       refine jc_skip ?_
       refine jx_seqN ?_
       refine jS ⟨[V 9 (pt 6 1),V 10 (pt 7 1),V 11 (iv x198),V 12 (iv x219),V 52 (bv (decide (x199 < 0)))],[(0,.rows 1 (List.map c_L3 a0)),W 1 1 [nilS],W 2 1 [iv 0],W 3 1 [pt 4 4098],(4,.rows 4098 [List.map aI8 x157 ++ [.osl 5 0 (List.length x158) 2]]),(5,.rows 2 (List.map c_S_api_Deduced x158)),W 6 1 [iv x199],W 7 1 [iv x200],W 8 1 [.osl 0 0 (List.length a0) 1],W 9 1 [pt 4 4098],(10,prop_Run_m2d81_lp41 a0 .busy none)],11⟩ ?_
       refine jIf ?_ ?_
       ·refine jT ⟨[],[(0,.rows 1 (List.map c_L3 a0)),W 1 1 [nilS],W 2 1 [iv 0],W 3 1 [pt 4 4098],(4,.rows 4098 [List.map aI8 x157 ++ [.osl 5 0 (List.length x158) 2]]),(5,.rows 2 (List.map c_S_api_Deduced x158)),W 6 1 [iv x198],W 7 1 [iv x219],W 8 1 [.osl 0 0 (List.length a0) 1],W 9 1 [pt 4 4098],(10,prop_Run_m2d81_lp41 a0 .busy none)],11⟩ ?_
        refine jx_blkN ?_
        exact jx_mid rfl (wkR [(0,some 0),(1,some 1),(2,some 2),(3,some 3),(4,some 4),(5,some 5),(6,some 6),(7,some 7),(8,some 8),(9,some 9),(10,some 10)] (fix_of hy47.2 (k:=11) rfl) (pc (hL 0 (noid_map ni_L3 _)) (pc (hC 1) (pc (hC 2) (pc (hC 3) (pc (hA 4) (pc (hL 5 (noid_map ni_S_api_Deduced _)) (pc (hC 6) (pc (hC 7) (pc (hC 8) (pc (hC 9) (pc (.inr (.inr ⟨10,_,_,rfl,rfl,rfl,by kernel_rfl⟩)) allp_nil))))))))))))
       refine jc_skip ?_
       refine jx_blkN ?_
       exact jx_mid rfl (wkR [(0,some 0),(1,some 1),(2,some 2),(3,some 3),(4,some 4),(5,some 5),(6,some 6),(7,some 7),(8,some 8),(9,some 9),(10,some 10)] (fix_of hy47.2 (k:=11) rfl) (pc (hL 0 (noid_map ni_L3 _)) (pc (hC 1) (pc (hC 2) (pc (hC 3) (pc (hA 4) (pc (hL 5 (noid_map ni_S_api_Deduced _)) (pc (hC 6) (pc (hC 7) (pc (hC 8) (pc (hC 9) (pc (.inr (.inr ⟨10,_,_,rfl,rfl,rfl,by kernel_rfl⟩)) allp_nil))))))))))))
      rintro (_ | ⟨x226,x227⟩)
      ·refine jG 4 2 ⟨[V 0 (.yld 10),V 2 (pt 9 1),V 8 (.osl 0 0 (List.length a0) 1),V 9 (iv (List.length a0:Int)),V 10 (iv x198),V 32 (bv true)],[(0,.rows 1 (List.map c_L3 a0)),W 1 1 [.osl 5 0 (List.length x158) 2],W 2 1 [iv x198],W 3 1 [pt 4 4098],(4,.rows 4098 [List.map aI8 x157 ++ [.osl 5 0 (List.length x158) 2]]),(5,.rows 2 (List.map c_S_api_Deduced x158)),W 6 1 [iv x199],W 7 1 [iv x200],W 8 1 [.osl 0 0 (List.length a0) 1],W 9 1 [pt 4 4098],(10,prop_Run_m2d81_lp41 a0 .done (some .ret))],11⟩ ?_
       refine jr_nil rfl ?_
       exact jx_mid rfl (wkR [(0,some 0),(1,some 1),(2,some 2),(3,some 3),(4,some 4),(5,some 5),(6,some 6),(7,some 7),(8,some 8),(9,some 9),(10,some 10)] (fix_of hc41.2.2 (k:=11) rfl) (pc (hL 0 (noid_map ni_L3 _)) (pc (hC 1) (pc (hC 2) (pc (hC 3) (pc (hA 4) (pc (hL 5 (noid_map ni_S_api_Deduced _)) (pc (hC 6) (pc (hC 7) (pc (hC 8) (pc (hC 9) (pc (.inr (.inr ⟨10,_,_,rfl,rfl,rfl,by kernel_rfl⟩)) allp_nil))))))))))))
      refine jG 4 2 ⟨[V 0 (.yld 10),V 2 (pt 9 1),V 8 (.osl 0 0 (List.length a0) 1),V 9 (iv (List.length a0:Int)),V 10 (iv x198),V 32 (bv false)],[(0,.rows 1 (List.map c_L3 a0)),W 1 1 [nilS],W 2 1 [iv 0],W 3 1 [pt 4 4098],(4,.rows 4098 [List.map aI8 x157 ++ [.osl 5 0 (List.length x158) 2]]),(5,.rows 2 (List.map c_S_api_Deduced x158)),W 6 1 [iv x226],W 7 1 [iv x227],W 8 1 [.osl 0 0 (List.length a0) 1],W 9 1 [pt 4 4098],(10,prop_Run_m2d81_lp41 a0 .ready none)],11⟩ ?_
      refine jr_nil rfl ?_
      exact jx_mid rfl (wkR [(0,some 0),(1,some 1),(2,some 2),(3,some 3),(4,some 4),(5,some 5),(6,some 6),(7,some 7),(8,some 8),(9,some 9),(10,some 10)] (fix_of hc41.2.2 (k:=11) rfl) (pc (hL 0 (noid_map ni_L3 _)) (pc (hC 1) (pc (hC 2) (pc (hC 3) (pc (hA 4) (pc (hL 5 (noid_map ni_S_api_Deduced _)) (pc (hC 6) (pc (hC 7) (pc (hC 8) (pc (hC 9) (pc (.inr (.inr ⟨10,_,_,rfl,rfl,rfl,by kernel_rfl⟩)) allp_nil))))))))))))
     refine jG 0 6 ⟨[V 0 (.yld 10),V 2 (pt 9 1),V 8 (.osl 0 0 (List.length a0) 1),V 9 (iv (List.length a0:Int)),V 10 (iv x198),V 32 (bv false)],[(0,.rows 1 (List.map c_L3 a0)),W 1 1 [nilS],W 2 1 [iv 0],W 3 1 [pt 4 4098],(4,.rows 4098 [List.map aI8 x157 ++ [.osl 5 0 (List.length x158) 2]]),(5,.rows 2 (List.map c_S_api_Deduced x158)),W 6 1 [iv x199],W 7 1 [iv x200],W 8 1 [.osl 0 0 (List.length a0) 1],W 9 1 [pt 4 4098],(10,prop_Run_m2d81_lp41 a0 .ready none)],11⟩ ?_
     refine jr_nil rfl ?_
     exact jx_mid rfl (wkR [(0,some 0),(1,some 1),(2,some 2),(3,some 3),(4,some 4),(5,some 5),(6,some 6),(7,some 7),(8,some 8),(9,some 9),(10,some 10)] (fix_of hc41.2.2 (k:=11) rfl) (pc (hL 0 (noid_map ni_L3 _)) (pc (hC 1) (pc (hC 2) (pc (hC 3) (pc (hA 4) (pc (hL 5 (noid_map ni_S_api_Deduced _)) (pc (hC 6) (pc (hC 7) (pc (hC 8) (pc (hC 9) (pc (.inr (.inr ⟨10,_,_,rfl,rfl,rfl,by kernel_rfl⟩)) allp_nil))))))))))))
    rintro (_ | ⟨x223,x224⟩)
    ·refine jN ?_
     refine jc_condK (c:=true) (by kernel_rfl) ?_
     refine jc_ret ?_
     refine jx_blkR ?_
     refine jx_seqR ?_
     exact jx_done rfl nofun (wkR [(0,some 0),(1,some 1),(2,some 2),(3,some 3),(4,some 4),(5,some 5),(6,some 6),(7,some 7),(8,some 8),(9,some 9),(10,some 10)] (fix_of hc41.2.2 (k:=11) rfl) (pc (hL 0 (noid_map ni_L3 _)) (pc (hC 1) (pc (hC 2) (pc (hC 3) (pc (hA 4) (pc (hL 5 (noid_map ni_S_api_Deduced _)) (pc (hC 6) (pc (hC 7) (pc (hC 8) (pc (hC 9) (pc (.inr (.inr ⟨10,_,_,rfl,rfl,rfl,by kernel_rfl⟩)) allp_nil))))))))))))
    refine jN ?_
    refine jc_condK (c:=false) (by kernel_rfl) ?_
    refine jc_skip ?_
    refine jx_blkN ?_
    refine jx_seqN ?_
    refine jT ⟨[V 0 (.yld 10),V 2 (pt 9 1),V 8 (.osl 0 0 (List.length a0) 1),V 9 (iv (List.length a0:Int)),V 10 (iv (w64 (x198 + 1)))],[(0,.rows 1 (List.map c_L3 a0)),W 1 1 [nilS],W 2 1 [iv 0],W 3 1 [pt 4 4098],(4,.rows 4098 [List.map aI8 x157 ++ [.osl 5 0 (List.length x158) 2]]),(5,.rows 2 (List.map c_S_api_Deduced x158)),W 6 1 [iv x223],W 7 1 [iv x224],W 8 1 [.osl 0 0 (List.length a0) 1],W 9 1 [pt 4 4098],(10,prop_Run_m2d81_lp41 a0 .ready none)],11⟩ ?_
    exact jx_next (wkR [(0,some 0),(1,some 1),(2,some 2),(3,some 3),(4,some 4),(5,some 5),(6,some 6),(7,some 7),(8,some 8),(9,some 9),(10,some 10)] (fix_of hc41.2.2 (k:=11) rfl) (pc (hL 0 (noid_map ni_L3 _)) (pc (hC 1) (pc (hC 2) (pc (hC 3) (pc (hA 4) (pc (hL 5 (noid_map ni_S_api_Deduced _)) (pc (hC 6) (pc (hC 7) (pc (hC 8) (pc (hC 9) (pc (.inr (.inr ⟨10,_,_,rfl,rfl,rfl,by kernel_rfl⟩)) allp_nil))))))))))))
   refine jc_exit ?_
   refine jx_seqE ?_
   exact jx_done rfl nofun (wkR [(0,some 0),(1,some 1),(2,some 2),(3,some 3),(4,some 4),(5,some 5),(6,some 6),(7,some 7),(8,some 8),(9,some 9),(10,some 10)] (fix_of hc41.2.2 (k:=11) rfl) (pc (hL 0 (noid_map ni_L3 _)) (pc (hC 1) (pc (hC 2) (pc (hC 3) (pc (hA 4) (pc (hL 5 (noid_map ni_S_api_Deduced _)) (pc (hC 6) (pc (hC 7) (pc (hC 8) (pc (hC 9) (pc (.inr (.inr ⟨10,_,_,rfl,rfl,rfl,by kernel_rfl⟩)) allp_nil))))))))))))
  rintro (⟨x212,x213,x214⟩ | ⟨x215,x216⟩)
  ·refine jx_blkR ?_
   refine jx_rng hc41 (.inr rfl) rfl nofun rfl ?_
   refine jx_blkR ?_
   refine jx_seqR ?_
   refine jx_blkR ?_
   exact jx_done rfl nofun (wkR [(0,some 0),(1,some 1),(2,some 5),(3,some 2)] (fix_of hF (k:=1) rfl) (pc (hL 0 (noid_map ni_L3 _)) (pc (hC 1) (pc (hL 5 (noid_map ni_S_api_Deduced _)) (pc (hC 2) allp_nil)))))
  refine jx_blkE ?_
  refine jx_rng hc41 (.inl rfl) rfl nofun rfl ?_
  refine jx_blkN ?_
  refine jx_seqN ?_
  refine jc_seq ?_
  refine jS ⟨[V 0 (.osl 0 0 (List.length a0) 1),V 4 (pt 1 1),V 5 (pt 2 1),V 6 (pt 3 1),V 9 (pt 6 1),V 10 (pt 7 1),V 56 (bv (decide (x215 < 0)))],[(0,.rows 1 (List.map c_L3 a0)),W 1 1 [nilS],W 2 1 [iv 0],W 3 1 [pt 4 4098],(4,.rows 4098 [List.map aI8 x157 ++ [.osl 5 0 (List.length x158) 2]]),(5,.rows 2 (List.map c_S_api_Deduced x158)),W 6 1 [iv x215],W 7 1 [iv x216]],11⟩ ?_
  refine jIf ?_ ?_
  ·refine jc_exit ?_
   refine jx_seqE ?_
   refine jx_blkX rfl ?_
   exact jx_done rfl nofun (wkR [(0,some 0),(1,some 1),(2,some 2),(3,some 3),(4,some 4),(5,some 5)] (fix_of hF (k:=1) rfl) (pc (hL 0 (noid_map ni_L3 _)) (pc (hC 1) (pc (hC 2) (pc (hC 3) (pc (hA 4) (pc (hL 5 (noid_map ni_S_api_Deduced _)) allp_nil)))))))
  refine jc_skip ?_
  refine jx_seqN ?_
  refine jc_reg ?_
  refine jG 0 3 ⟨[V 0 (.osl 0 0 (List.length a0) 1),V 4 (pt 1 1),V 5 (pt 2 1),V 6 (pt 3 1),V 57 (pt 4 4098),V 58 (iv x216),V 59 (iv x215)],[(0,.rows 1 (List.map c_L3 a0)),W 1 1 [nilS],W 2 1 [iv 0],W 3 1 [pt 4 4098],(4,.rows 4098 [List.map aI8 x157 ++ [.osl 5 0 (List.length x158) 2]]),(5,.rows 2 (List.map c_S_api_Deduced x158))],11⟩ ?_
  refine jr_callM 3 [(0,some 4),(1,some 5)] [(4,some 0),(11,some 2)] (fun r:List Int × List S_api_Deduced=>[(0,.rows 1 (List.map c_L3 a0)),W 1 1 [nilS],W 2 1 [iv 0],W 3 1 [pt 4 4098],(4,.rows 4098 [List.map aI8 r.1 ++ [.osl 11 0 (List.length r.2) 2]]),(11,.rows 2 (List.map c_S_api_Deduced r.2))]) (fun r:List Int × List S_api_Deduced=>.tup []) 12 (prop_sheet_set_ok x157 x158 x216 x215) (pc (hA 4) (pc (hL 5 (noid_map ni_S_api_Deduced _)) allp_nil)) (fun r=>(pc (.inl ⟨rfl,rfl⟩) (pc (.inl ⟨rfl,rfl⟩) (pc (.inl ⟨rfl,rfl⟩) (pc (.inl ⟨rfl,rfl⟩) (pc (.inr (hA 0)) (pc (.inr (hL 2 (noid_map ni_S_api_Deduced _))) allp_nil))))))) ?_
  rintro⟨x229,x230⟩ hm49
  refine jr_nil rfl ?_
  refine jx_blkN ?_
  exact jx_next (wkR [(0,some 0),(1,some 1),(2,some 2),(3,some 3),(4,some 4),(5,some 11)] (fix_of hF (k:=1) rfl) (pc (hL 0 (noid_map ni_L3 _)) (pc (hC 1) (pc (hC 2) (pc (hC 3) (pc (hA 4) (pc (hL 11 (noid_map ni_S_api_Deduced _)) allp_nil)))))))
 rintro (⟨x188,x189⟩ | ⟨x190,x191⟩)
 ·refine jx_blkR ?_
  refine jx_seqR ?_
  refine jx_scopeR ?_
  exact jx_retM (prop_Run_m2d81_T a0 a1 (x188,x189)) (.inr rfl) (wkR [(0,some 0),(1,some 1),(2,some 2),(3,some 3)] (fix_of hF (k:=1) rfl) (pc (hL 0 (noid_map ni_L3 _)) (pc (hC 1) (pc (hL 2 (noid_map ni_S_api_Deduced _)) (pc (hC 3) allp_nil)))))
 refine jx_blkE ?_
 refine jx_seqN ?_
 refine jR ?_
 refine jG 0 3 ⟨[V 4 (pt 1 1),V 5 (pt 2 1),V 63 (.ptr 4 0 4098 4097)],[(0,.rows 1 (List.map c_L3 a0)),W 1 1 [nilS],W 2 1 [iv 0],(4,.rows 4098 [List.map aI8 x190 ++ [.osl 5 0 (List.length x191) 2]]),(5,.rows 2 (List.map c_S_api_Deduced x191))],6⟩ ?_
 refine jr_guard ?_
 intro x231 h231
 refine jr_one (i:=3) (v:=.osl 5 0 (List.length x191) 2) (us:=[]) rfl rfl rfl rfl (aop_ldr (l:=x190) (c:=aI8) (rest:=[.osl 5 0 (List.length x191) 2]) (id:=4) (sz:=4098) (m:=4097) (q:=0) (by kernel_rfl) (by kernel_rfl) (by kernel_rfl) (by kernel_rfl) (lenA_iff h231) (by kernel_rfl)) rfl ?_
 refine jG 4 2 ⟨[V 4 (pt 1 1),V 5 (pt 2 1)],[(0,.rows 1 (List.map c_L3 a0)),W 1 1 [.osl 5 0 (List.length x191) 2],W 2 1 [iv (-1)],(5,.rows 2 (List.map c_S_api_Deduced x191))],6⟩ ?_
 refine jN ?_
 refine jc_ret ?_
 refine jx_scopeR ?_
 exact jx_retM (prop_Run_m2d81_T a0 a1 (x191,(-1))) (.inr rfl) (wkR [(0,some 0),(1,some 1),(2,some 5),(3,some 2)] (fix_of hF (k:=1) rfl) (pc (hL 0 (noid_map ni_L3 _)) (pc (hC 1) (pc (hL 5 (noid_map ni_S_api_Deduced _)) (pc (hC 2) allp_nil))))))
end Go.Vm

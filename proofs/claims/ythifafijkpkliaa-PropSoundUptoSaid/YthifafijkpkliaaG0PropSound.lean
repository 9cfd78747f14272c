/- The law PropSound, a part of its proof: what the functions that it reaches compute. -/
import Derived.Test.YthifafijkpkliaaDxd5bf5936
import Derived.Test.YthifafijkpkliaaW26PropSound
set_option linter.unusedVariables false
set_option linter.unusedSimpArgs false
set_option linter.unusedVariables false
namespace Go.Vm
open Go
abbrev c_L3 (x:List Int):List AV:=[.fsl 1 (List.map cI x)]
theorem ni_L3 (x:List Int):NoIds (c_L3 x):=noids_cons (noid_fsl _ _) noids_nil
structure S_api_Deduced where
  Lit:Int
  Reason:Int
  deriving DecidableEq,Inhabited
abbrev c_S_api_Deduced (x:S_api_Deduced):List AV:=[iv x.Lit,iv x.Reason]
theorem ni_S_api_Deduced (x:S_api_Deduced):NoIds (c_S_api_Deduced x):=noids_cons (noid_s _) (noids_cons (noid_s _) (noids_nil))
set_option maxRecDepth 100000
set_option maxHeartbeats 0
set_option linter.unusedSimpArgs false
abbrev prop_literal_r1:List LO:=[lo 2 (.assign (.const (.bool false))) 4]
abbrev prop_literal_r2:List LO:=[lm 3 0 3,lo 4 (.binOp .neq 3 (.tmp 3) (.const (.int .i64 0)) 3) 4,lm 5 4 4,lmg 6 0 3 5 true,lg 7 (.binOp .leq 3 (.tmp 6) (.const (.int .i64 4096)) 3) 4 5 true,lo 8 (.pick (.tmp 5) (.tmp 7) (.const (.bool false))) 4,lm 9 8 4,lmg 10 0 3 9 true,lg 11 (.binOp .geq 3 (.tmp 10) (.const (.int .i64 (-4096))) 3) 4 9 true,lo 12 (.pick (.tmp 9) (.tmp 11) (.const (.bool false))) 4,lo 2 (.assign (.tmp 12)) 4]
abbrev prop_literal_c:LC:=.seq (.reg false prop_literal_r1) (.seq (.reg false prop_literal_r2) .ret)
theorem prop_literal_k:FnOk E 25 13 [.tmp 2] prop_literal_c:=⟨⟨Go.Proofs.Try.f25,by kernel_rfl,by kernel_rfl,by kernel_rfl,by kernel_rfl,by kernel_rfl⟩,rfl,rfl⟩
noncomputable def prop_literal (a0:Int):Option (Bool):=some (((a0 != 0) && (decide (a0≤4096))) && (decide (a0≥(-4096))))
theorem prop_literal_ok (a0:Int):Ct E 25 [iv a0] (prop_literal a0) (fun r:Bool=>bv r):=ct_intro (N:=13) (L:=prop_literal_c) prop_literal_k rfl (Nat.le_of_ble_eq_true rfl) (by kernel_rfl) (by
 unfold prop_literal
 refine jS ⟨[V 0 (iv a0)],[],0⟩ ?_
 refine jS ⟨[V 2 (bv (((a0 != 0) && (decide (a0≤4096))) && (decide (a0≥(-4096)))))],[],0⟩ ?_
 refine jc_ret ?_
 exact jx_retF (.inr rfl) (v:=bv (((a0 != 0) && (decide (a0≤4096))) && (decide (a0≥(-4096))))) (by kernel_rfl) rfl (fle_refl _))
abbrev prop_size_r1:List LO:=[lo 2 (.assign (.const (.int .i64 0))) 3]
abbrev prop_size_r2:List LO:=[lm 3 0 3,lm 4 0 3,lo 5 (.unOp .neg 3 (.tmp 4)) 3,lo 6 (.call ⟨.builtin .max,#[.tmp 3,.tmp 5],#[3,3]⟩) 3,lo 2 (.assign (.tmp 6)) 3]
abbrev prop_size_c:LC:=.seq (.reg false prop_size_r1) (.seq (.reg false prop_size_r2) .ret)
theorem prop_size_k:FnOk E 35 7 [.tmp 2] prop_size_c:=⟨⟨Go.Proofs.Try.f35,by kernel_rfl,by kernel_rfl,by kernel_rfl,by kernel_rfl,by kernel_rfl⟩,rfl,rfl⟩
noncomputable def prop_size (a0:Int):Option (Int):=some (if (w64 (0 - a0)) > a0 then (w64 (0 - a0)) else a0)
theorem prop_size_ok (a0:Int):Ct E 35 [iv a0] (prop_size a0) (fun r:Int=>iv r):=ct_intro (N:=7) (L:=prop_size_c) prop_size_k rfl (Nat.le_of_ble_eq_true rfl) (by kernel_rfl) (by
 unfold prop_size
 refine jS ⟨[V 0 (iv a0)],[],0⟩ ?_
 refine jS ⟨[V 2 (iv (if (w64 (0 - a0)) > a0 then (w64 (0 - a0)) else a0))],[],0⟩ ?_
 refine jc_ret ?_
 exact jx_retF (.inr rfl) (v:=iv (if (w64 (0 - a0)) > a0 then (w64 (0 - a0)) else a0)) (by kernel_rfl) rfl (fle_refl _))
abbrev prop_sheet_of_r1:List LO:=[lo 4 (.assign (.const (.int .i64 0))) 3]
abbrev prop_sheet_of_r2:List LO:=[lm 6 0 45,lm 7 1 3,lo 8 (.call ⟨.value (.func 35),#[.tmp 7],#[3]⟩) 3,lo 9 (.nilCheck (.tmp 6)) 0,lo 10 (.fieldAddr 49 (.tmp 9) 0) 0,lo 11 (.indexAddr 47 (.tmp 10) (.tmp 8)) 0,lo 12 (.load 46 (.tmp 11)) 46,lo 13 (.convert 46 3 (.tmp 12)) 3,lo 5 (.assign (.tmp 13)) 3]
abbrev prop_sheet_of_r3:List LO:=[lm 14 1 3,lo 15 (.binOp .lss 3 (.tmp 14) (.const (.int .i64 0)) 3) 4]
abbrev prop_sheet_of_r4:List LO:=[lm 16 5 3,lo 17 (.unOp .neg 3 (.tmp 16)) 3,lo 4 (.assign (.tmp 17)) 3]
abbrev prop_sheet_of_r5:List LO:=[lm 18 5 3,lo 4 (.assign (.tmp 18)) 3]
abbrev prop_sheet_of_c:LC:=.seq (.reg false prop_sheet_of_r1) (.seq (.reg true prop_sheet_of_r2) (.seq (.seq (.reg false prop_sheet_of_r3) (.cond (.tmp 15) (.seq (.reg false prop_sheet_of_r4) .ret) .skip)) (.seq (.reg false prop_sheet_of_r5) .ret)))
theorem prop_sheet_of_k:FnOk E 26 19 [.tmp 4] prop_sheet_of_c:=⟨⟨Go.Proofs.Try.f26,by kernel_rfl,by kernel_rfl,by kernel_rfl,by kernel_rfl,by kernel_rfl⟩,rfl,rfl⟩
abbrev prop_sheet_of_T (a0:List Int) (a1:List S_api_Deduced) (a2:Int) (r:Int):CS:=⟨[V 4 (iv r)],[(0,.rows 4098 [List.map aI8 a0 ++ [.osl 1 0 (List.length a1) 2]]),(1,.rows 2 (List.map c_S_api_Deduced a1))],2⟩
noncomputable def prop_sheet_of (a0:List Int) (a1:List S_api_Deduced) (a2:Int):Option (Int):=Option.bind (prop_size a2) (fun x4=>Option.bind (ixA 4097 a0 x4) (fun x5=>(if (decide (a2 < 0))=true then some (w64 (0 - (w64 (x5)))) else some (w64 (x5)))))
theorem prop_sheet_of_ok (a0:List Int) (a1:List S_api_Deduced) (a2:Int):CtM E 26 [pt 0 4098,iv a2] [(0,.rows 4098 [List.map aI8 a0 ++ [.osl 1 0 (List.length a1) 2]]),(1,.rows 2 (List.map c_S_api_Deduced a1))] 2 (prop_sheet_of a0 a1 a2) (fun r:Int=>iv r) (fun r:Int=>[(0,.rows 4098 [List.map aI8 a0 ++ [.osl 1 0 (List.length a1) 2]]),(1,.rows 2 (List.map c_S_api_Deduced a1))]) 2:=ctm_intro (N:=19) (L:=prop_sheet_of_c) prop_sheet_of_k rfl (Nat.le_of_ble_eq_true rfl) (fun F hF=>by
 unfold prop_sheet_of
 refine jS ⟨[V 0 (pt 0 4098),V 1 (iv a2)],[(0,.rows 4098 [List.map aI8 a0 ++ [.osl 1 0 (List.length a1) 2]]),(1,.rows 2 (List.map c_S_api_Deduced a1))],2⟩ ?_
 refine jR ?_
 refine jG 0 2 ⟨[V 1 (iv a2),V 6 (pt 0 4098),V 7 (iv a2)],[(0,.rows 4098 [List.map aI8 a0 ++ [.osl 1 0 (List.length a1) 2]]),(1,.rows 2 (List.map c_S_api_Deduced a1))],2⟩ ?_
 refine jK 2 (prop_size_ok a2) ?_
 intro x4 h4
 refine jG 3 2 ⟨[V 1 (iv a2),V 8 (iv x4),V 10 (pt 0 4098)],[(0,.rows 4098 [List.map aI8 a0 ++ [.osl 1 0 (List.length a1) 2]]),(1,.rows 2 (List.map c_S_api_Deduced a1))],2⟩ ?_
 refine jr_part (i:=5) (mo:=ixA 4097 a0 x4) rfl rfl rfl rfl (fun _ hc=>aop_ixa (sz:=4098) (e:=46) (kk:=.i64) (id:=0) (i:=0) (by kernel_rfl) (by kernel_rfl) (by kernel_rfl) (by kernel_rfl) hc) (fun _=>rfl) ?_
 intro x5 h5
 refine jr_one (i:=6) (v:=aI8 x5) (us:=[]) rfl rfl rfl rfl (aop_lda (l:=a0) (c:=aI8) (rest:=[.osl 1 0 (List.length a1) 2]) (id:=0) (sz:=4098) (k:=(Int.toNat x4)) (a:=x5) (by kernel_rfl) (by kernel_rfl) (by kernel_rfl) (by kernel_rfl) (ixA_at h5)) rfl ?_
 refine jG 7 2 ⟨[V 1 (iv a2),V 5 (iv (w64 (x5)))],[(0,.rows 4098 [List.map aI8 a0 ++ [.osl 1 0 (List.length a1) 2]]),(1,.rows 2 (List.map c_S_api_Deduced a1))],3⟩ ?_
 refine jN ?_
 refine jc_seq ?_
 refine jS ⟨[V 5 (iv (w64 (x5))),V 15 (bv (decide (a2 < 0)))],[(0,.rows 4098 [List.map aI8 a0 ++ [.osl 1 0 (List.length a1) 2]]),(1,.rows 2 (List.map c_S_api_Deduced a1))],3⟩ ?_
 refine jIf ?_ ?_
 ·refine jS ⟨[V 4 (iv (w64 (0 - (w64 (x5)))))],[(0,.rows 4098 [List.map aI8 a0 ++ [.osl 1 0 (List.length a1) 2]]),(1,.rows 2 (List.map c_S_api_Deduced a1))],3⟩ ?_
  refine jc_ret ?_
  refine jx_seqR ?_
  exact jx_retM (prop_sheet_of_T a0 a1 a2 (w64 (0 - (w64 (x5))))) (.inr rfl) (wkR [(0,some 0),(1,some 1)] (fix_of hF (k:=2) rfl) (pc (hA 0) (pc (hL 1 (noid_map ni_S_api_Deduced _)) allp_nil)))
 refine jc_skip ?_
 refine jx_seqN ?_
 refine jS ⟨[V 4 (iv (w64 (x5)))],[(0,.rows 4098 [List.map aI8 a0 ++ [.osl 1 0 (List.length a1) 2]]),(1,.rows 2 (List.map c_S_api_Deduced a1))],3⟩ ?_
 refine jc_ret ?_
 exact jx_retM (prop_sheet_of_T a0 a1 a2 (w64 (x5))) (.inr rfl) (wkR [(0,some 0),(1,some 1)] (fix_of hF (k:=2) rfl) (pc (hA 0) (pc (hL 1 (noid_map ni_S_api_Deduced _)) allp_nil))))
abbrev prop_sheet_look_r1:List LO:=[lo 4 (.assign (.const (.bool false))) 4,lo 5 (.assign (.const (.int .i64 0))) 3]
abbrev prop_sheet_look_r2:List LO:=[lm 10 1 23,lo 11 (.call ⟨.builtin .len,#[.tmp 10],#[23]⟩) 3,lo 12 (.move (.const (.int .i64 0))) 3]
abbrev prop_sheet_look_r3:List LO:=[lo 13 (.binOp .lss 3 (.tmp 12) (.tmp 11) 3) 0]
abbrev prop_sheet_look_r4:List LO:=[lo 14 (.indexAddr 23 (.tmp 10) (.tmp 12)) 0,lo 15 (.load 3 (.tmp 14)) 3,lo 7 (.assign (.tmp 15)) 3]
abbrev prop_sheet_look_r5:List LO:=[lm 17 7 3,lo 18 (.call ⟨.value (.func 25),#[.tmp 17],#[3]⟩) 4,lo 19 (.unOp .not 4 (.tmp 18)) 4,lo 16 (.assign (.tmp 19)) 4]
abbrev prop_sheet_look_r6:List LO:=[lm 20 0 45,lm 21 7 3,lo 22 (.call ⟨.value (.func 26),#[.tmp 20,.tmp 21],#[45,3]⟩) 3,lo 23 (.binOp .gtr 3 (.tmp 22) (.const (.int .i64 0)) 3) 4,lo 16 (.assign (.tmp 23)) 4]
abbrev prop_sheet_look_r7:List LO:=[lo 4 (.assign (.const (.bool false))) 4,lo 5 (.assign (.const (.int .i64 0))) 3]
abbrev prop_sheet_look_r8:List LO:=[lo 24 (.binOp .add 3 (.tmp 12) (.const (.int .i64 1)) 3) 3,lm 12 24 3]
abbrev prop_sheet_look_r9:List LO:=[lm 25 1 23,lo 26 (.call ⟨.builtin .len,#[.tmp 25],#[23]⟩) 3,lo 27 (.move (.const (.int .i64 0))) 3]
abbrev prop_sheet_look_r10:List LO:=[lo 28 (.binOp .lss 3 (.tmp 27) (.tmp 26) 3) 0]
abbrev prop_sheet_look_r11:List LO:=[lo 29 (.indexAddr 23 (.tmp 25) (.tmp 27)) 0,lo 30 (.load 3 (.tmp 29)) 3,lo 9 (.assign (.tmp 30)) 3]
abbrev prop_sheet_look_r12:List LO:=[lm 31 0 45,lm 32 9 3,lo 33 (.call ⟨.value (.func 26),#[.tmp 31,.tmp 32],#[45,3]⟩) 3,lo 34 (.binOp .eql 3 (.tmp 33) (.const (.int .i64 0)) 3) 4,lm 35 34 4,lmg 36 5 3 35 true,lg 37 (.binOp .neq 3 (.tmp 36) (.const (.int .i64 0)) 3) 4 35 true,lo 38 (.pick (.tmp 35) (.tmp 37) (.const (.bool false))) 4,lm 39 38 4,lmg 40 5 3 39 true,lmg 41 9 3 39 true,lg 42 (.binOp .neq 3 (.tmp 40) (.tmp 41) 3) 4 39 true,lo 43 (.pick (.tmp 39) (.tmp 42) (.const (.bool false))) 4]
abbrev prop_sheet_look_r13:List LO:=[lo 4 (.assign (.const (.bool false))) 4,lo 5 (.assign (.const (.int .i64 0))) 3]
abbrev prop_sheet_look_r14:List LO:=[lm 44 0 45,lm 45 9 3,lo 46 (.call ⟨.value (.func 26),#[.tmp 44,.tmp 45],#[45,3]⟩) 3,lo 47 (.binOp .eql 3 (.tmp 46) (.const (.int .i64 0)) 3) 4]
abbrev prop_sheet_look_r15:List LO:=[lm 48 9 3,lo 5 (.assign (.tmp 48)) 3]
abbrev prop_sheet_look_r16:List LO:=[lo 49 (.binOp .add 3 (.tmp 27) (.const (.int .i64 1)) 3) 3,lm 27 49 3]
abbrev prop_sheet_look_r17:List LO:=[lm 50 5 3,lo 51 (.binOp .eql 3 (.tmp 50) (.const (.int .i64 0)) 3) 4,lm 52 5 3,lo 4 (.assign (.tmp 51)) 4,lo 5 (.assign (.tmp 52)) 3]
abbrev prop_sheet_look_c:LC:=.seq (.reg false prop_sheet_look_r1) (.seq (.seq (.reg false prop_sheet_look_r2) (.block 0 (.loop (.seq (.reg false prop_sheet_look_r3) (.seq (.cond (.tmp 13) .skip (.exit 0)) (.seq (.block 1 (.seq (.reg false prop_sheet_look_r4) (.block 2 (.seq (.seq (.reg false prop_sheet_look_r5) (.cond (.tmp 16) .skip (.reg false prop_sheet_look_r6))) (.cond (.tmp 16) (.seq (.reg false prop_sheet_look_r7) .ret) .skip))))) (.reg false prop_sheet_look_r8))))))) (.seq (.seq (.reg false prop_sheet_look_r9) (.block 3 (.loop (.seq (.reg false prop_sheet_look_r10) (.seq (.cond (.tmp 28) .skip (.exit 3)) (.seq (.block 4 (.seq (.reg false prop_sheet_look_r11) (.seq (.seq (.reg false prop_sheet_look_r12) (.cond (.tmp 43) (.seq (.reg false prop_sheet_look_r13) .ret) .skip)) (.seq (.reg false prop_sheet_look_r14) (.cond (.tmp 47) (.reg false prop_sheet_look_r15) .skip))))) (.reg false prop_sheet_look_r16))))))) (.seq (.reg false prop_sheet_look_r17) .ret)))
theorem prop_sheet_look_k:FnOk E 40 53 [.tmp 4,.tmp 5] prop_sheet_look_c:=⟨⟨Go.Proofs.Try.f40,by kernel_rfl,by kernel_rfl,by kernel_rfl,by kernel_rfl,by kernel_rfl⟩,rfl,rfl⟩
noncomputable def prop_sheet_look_l1 (a0:List Int) (a1:List S_api_Deduced) (a2:List Int):Int→Option (Step (Int) ((Unit) ⊕ (Unit))):=fun x30=>(if (decide (x30 < (List.length a2:Int)))=true then Option.bind (ixl a2 x30) (fun x36=>Option.bind (Option.bind (prop_literal x36) (fun x40=>(if (!x40)=true then some true else Option.bind (prop_sheet_of a0 a1 x36) (fun x41=>some (decide (x41 > 0))))):Option (Bool)) (fun x39=>(if x39=true then some (Step.done (Sum.inl ())) else some (Step.next (w64 (x30 + 1)))))) else some (Step.done (Sum.inr ())))
noncomputable def prop_sheet_look_l2 (a0:List Int) (a1:List S_api_Deduced) (a2:List Int):(Int × Int)→Option (Step (Int × Int) ((Unit) ⊕ (Int))):=fun (x46,x47)=>(if (decide (x47 < (List.length a2:Int)))=true then Option.bind (Option.bind (ixl a2 x47) (fun x59=>Option.bind (prop_sheet_of a0 a1 x59) (fun x60=>(if (((x60 == 0) && (x46 != 0)) && (x46 != x59))=true then some (Sum.inl ()) else Option.bind (prop_sheet_of a0 a1 x59) (fun x61=>(if (x61 == 0)=true then some (Sum.inr x59) else some (Sum.inr x46)))))):Option ((Unit) ⊕ (Int))) (fun y=>match y with | Sum.inl _=>some (Step.done (Sum.inl ())) | Sum.inr x58=>some (Step.next (x58,(w64 (x47 + 1))))) else some (Step.done (Sum.inr x46)))
abbrev prop_sheet_look_T (a0:List Int) (a1:List S_api_Deduced) (a2:List Int) (r:Bool × Int):CS:=⟨[V 4 (bv r.1),V 5 (iv r.2)],[(0,.rows 4098 [List.map aI8 a0 ++ [.osl 1 0 (List.length a1) 2]]),(1,.rows 2 (List.map c_S_api_Deduced a1))],2⟩
noncomputable def prop_sheet_look (a0:List Int) (a1:List S_api_Deduced) (a2:List Int):Option (Bool × Int):=Option.bind (loopC (prop_sheet_look_l1 a0 a1 a2) 0) (fun y=>match y with | Sum.inl _=>some (false,0) | Sum.inr _=>Option.bind (loopC (prop_sheet_look_l2 a0 a1 a2) (0,0)) (fun y=>match y with | Sum.inl _=>some (false,0) | Sum.inr x54=>some ((x54 == 0),x54)))
theorem prop_sheet_look_ok (a0:List Int) (a1:List S_api_Deduced) (a2:List Int):CtM E 40 [pt 0 4098,.fsl 1 (List.map cI a2)] [(0,.rows 4098 [List.map aI8 a0 ++ [.osl 1 0 (List.length a1) 2]]),(1,.rows 2 (List.map c_S_api_Deduced a1))] 2 (prop_sheet_look a0 a1 a2) (fun r:Bool × Int=>.tup [bv r.1,iv r.2]) (fun r:Bool × Int=>[(0,.rows 4098 [List.map aI8 a0 ++ [.osl 1 0 (List.length a1) 2]]),(1,.rows 2 (List.map c_S_api_Deduced a1))]) 2:=ctm_intro (N:=53) (L:=prop_sheet_look_c) prop_sheet_look_k rfl (Nat.le_of_ble_eq_true rfl) (fun F hF=>by
 unfold prop_sheet_look
 refine jS ⟨[V 0 (pt 0 4098),V 1 (.fsl 1 (List.map cI a2)),V 5 (iv 0)],[(0,.rows 4098 [List.map aI8 a0 ++ [.osl 1 0 (List.length a1) 2]]),(1,.rows 2 (List.map c_S_api_Deduced a1))],2⟩ ?_
 refine jc_seq ?_
 refine jR ?_
 refine jG 0 3 ⟨[V 0 (pt 0 4098),V 1 (.fsl 1 (List.map cI a2)),V 5 (iv 0),V 10 (.fsl 1 (List.map cI a2)),V 11 (iv (List.length (List.map cI a2):Int)),V 12 (iv 0)],[(0,.rows 4098 [List.map aI8 a0 ++ [.osl 1 0 (List.length a1) 2]]),(1,.rows 2 (List.map c_S_api_Deduced a1))],2⟩ ?_
 simp only[List.length_map]
 refine jN ?_
 refine jc_block ?_
 refine jc_bind (fun y=>match y with | Sum.inl _=>⟨[V 4 (bv false),V 5 (iv 0)],[(0,.rows 4098 [List.map aI8 a0 ++ [.osl 1 0 (List.length a1) 2]]),(1,.rows 2 (List.map c_S_api_Deduced a1))],2⟩ | Sum.inr _=>⟨[V 0 (pt 0 4098),V 1 (.fsl 1 (List.map cI a2)),V 5 (iv 0)],[(0,.rows 4098 [List.map aI8 a0 ++ [.osl 1 0 (List.length a1) 2]]),(1,.rows 2 (List.map c_S_api_Deduced a1))],2⟩) (fun y=>match y with | Sum.inl _=>.ret | Sum.inr _=>(.exit 0)) (jc_loop (fun x30=>⟨[V 0 (pt 0 4098),V 1 (.fsl 1 (List.map cI a2)),V 5 (iv 0),V 10 (.fsl 1 (List.map cI a2)),V 11 (iv (List.length a2:Int)),V 12 (iv x30)],[(0,.rows 4098 [List.map aI8 a0 ++ [.osl 1 0 (List.length a1) 2]]),(1,.rows 2 (List.map c_S_api_Deduced a1))],2⟩) (wkR [(0,some 0),(1,some 1)] (fix_of hF (k:=2) rfl) (pc (hA 0) (pc (hL 1 (noid_map ni_S_api_Deduced _)) allp_nil))) ?_) ?_
 ·intro x30
  unfold prop_sheet_look_l1
  refine jS ⟨[V 0 (pt 0 4098),V 1 (.fsl 1 (List.map cI a2)),V 5 (iv 0),V 10 (.fsl 1 (List.map cI a2)),V 11 (iv (List.length a2:Int)),V 12 (iv x30),V 13 (bv (decide (x30 < (List.length a2:Int))))],[(0,.rows 4098 [List.map aI8 a0 ++ [.osl 1 0 (List.length a1) 2]]),(1,.rows 2 (List.map c_S_api_Deduced a1))],2⟩ ?_
  refine jc_seq ?_
  refine jIf ?_ ?_
  ·refine jc_skip ?_
   refine jx_seqN ?_
   refine jc_seq ?_
   refine jc_block ?_
   refine jR ?_
   refine jr_part (i:=0) (mo:=ixl a2 x30) rfl rfl rfl rfl (fun _ hc=>aop_ixf (c:=cI) (sz:=1) (e:=3) (kk:=.i64) (by kernel_rfl) (by kernel_rfl) (by kernel_rfl) (by kernel_rfl) hc) (fun _=>rfl) ?_
   intro x36 h36
   refine jG 1 2 ⟨[V 0 (pt 0 4098),V 1 (.fsl 1 (List.map cI a2)),V 5 (iv 0),V 7 (iv x36),V 10 (.fsl 1 (List.map cI a2)),V 11 (iv (List.length a2:Int)),V 12 (iv x30)],[(0,.rows 4098 [List.map aI8 a0 ++ [.osl 1 0 (List.length a1) 2]]),(1,.rows 2 (List.map c_S_api_Deduced a1))],2⟩ ?_
   refine jN ?_
   refine jc_block ?_
   refine jc_seq ?_
   refine jc_bind (fun x39=>⟨[V 0 (pt 0 4098),V 1 (.fsl 1 (List.map cI a2)),V 5 (iv 0),V 10 (.fsl 1 (List.map cI a2)),V 11 (iv (List.length a2:Int)),V 12 (iv x30),V 16 (bv x39)],[(0,.rows 4098 [List.map aI8 a0 ++ [.osl 1 0 (List.length a1) 2]]),(1,.rows 2 (List.map c_S_api_Deduced a1))],2⟩) (fun x39=>.normal) ?_ ?_
   ·refine jR ?_
    refine jG 0 1 ⟨[V 0 (pt 0 4098),V 1 (.fsl 1 (List.map cI a2)),V 5 (iv 0),V 7 (iv x36),V 10 (.fsl 1 (List.map cI a2)),V 11 (iv (List.length a2:Int)),V 12 (iv x30),V 17 (iv x36)],[(0,.rows 4098 [List.map aI8 a0 ++ [.osl 1 0 (List.length a1) 2]]),(1,.rows 2 (List.map c_S_api_Deduced a1))],2⟩ ?_
    refine jK 1 (prop_literal_ok x36) ?_
    intro x40 h40
    refine jG 2 2 ⟨[V 0 (pt 0 4098),V 1 (.fsl 1 (List.map cI a2)),V 5 (iv 0),V 7 (iv x36),V 10 (.fsl 1 (List.map cI a2)),V 11 (iv (List.length a2:Int)),V 12 (iv x30),V 16 (bv (!x40))],[(0,.rows 4098 [List.map aI8 a0 ++ [.osl 1 0 (List.length a1) 2]]),(1,.rows 2 (List.map c_S_api_Deduced a1))],2⟩ ?_
    refine jN ?_
    refine jIf ?_ ?_
    ·refine jc_skip ?_
     exact jx_mid rfl (wkR [(0,some 0),(1,some 1)] (fix_of hF (k:=2) rfl) (pc (hA 0) (pc (hL 1 (noid_map ni_S_api_Deduced _)) allp_nil)))
    refine jc_reg ?_
    refine jG 0 2 ⟨[V 0 (pt 0 4098),V 1 (.fsl 1 (List.map cI a2)),V 5 (iv 0),V 10 (.fsl 1 (List.map cI a2)),V 11 (iv (List.length a2:Int)),V 12 (iv x30),V 20 (pt 0 4098),V 21 (iv x36)],[(0,.rows 4098 [List.map aI8 a0 ++ [.osl 1 0 (List.length a1) 2]]),(1,.rows 2 (List.map c_S_api_Deduced a1))],2⟩ ?_
    refine jr_callM 2 [(0,some 0),(1,some 1)] [(0,some 0),(1,some 1)] (fun r:Int=>[(0,.rows 4098 [List.map aI8 a0 ++ [.osl 1 0 (List.length a1) 2]]),(1,.rows 2 (List.map c_S_api_Deduced a1))]) (fun r:Int=>iv r) 2 (prop_sheet_of_ok a0 a1 x36) (pc (hA 0) (pc (hL 1 (noid_map ni_S_api_Deduced _)) allp_nil)) (fun r=>(pc (.inr (hA 0)) (pc (.inr (hL 1 (noid_map ni_S_api_Deduced _))) allp_nil))) ?_
    rintro x41 hm10
    refine jG 3 2 ⟨[V 0 (pt 0 4098),V 1 (.fsl 1 (List.map cI a2)),V 5 (iv 0),V 10 (.fsl 1 (List.map cI a2)),V 11 (iv (List.length a2:Int)),V 12 (iv x30),V 16 (bv (decide (x41 > 0)))],[(0,.rows 4098 [List.map aI8 a0 ++ [.osl 1 0 (List.length a1) 2]]),(1,.rows 2 (List.map c_S_api_Deduced a1))],2⟩ ?_
    refine jr_nil rfl ?_
    exact jx_mid rfl (wkR [(0,some 0),(1,some 1)] (fix_of hF (k:=2) rfl) (pc (hA 0) (pc (hL 1 (noid_map ni_S_api_Deduced _)) allp_nil)))
   intro x39
   refine jx_seqN ?_
   refine jIf ?_ ?_
   ·refine jS ⟨[V 4 (bv false),V 5 (iv 0)],[(0,.rows 4098 [List.map aI8 a0 ++ [.osl 1 0 (List.length a1) 2]]),(1,.rows 2 (List.map c_S_api_Deduced a1))],2⟩ ?_
    refine jc_ret ?_
    refine jx_blkR ?_
    refine jx_blkR ?_
    refine jx_seqR ?_
    exact jx_done rfl nofun (wkR [(0,some 0),(1,some 1)] (fix_of hF (k:=2) rfl) (pc (hA 0) (pc (hL 1 (noid_map ni_S_api_Deduced _)) allp_nil)))
   refine jc_skip ?_
   refine jx_blkN ?_
   refine jx_blkN ?_
   refine jx_seqN ?_
   refine jT ⟨[V 0 (pt 0 4098),V 1 (.fsl 1 (List.map cI a2)),V 5 (iv 0),V 10 (.fsl 1 (List.map cI a2)),V 11 (iv (List.length a2:Int)),V 12 (iv (w64 (x30 + 1)))],[(0,.rows 4098 [List.map aI8 a0 ++ [.osl 1 0 (List.length a1) 2]]),(1,.rows 2 (List.map c_S_api_Deduced a1))],2⟩ ?_
   exact jx_next (wkR [(0,some 0),(1,some 1)] (fix_of hF (k:=2) rfl) (pc (hA 0) (pc (hL 1 (noid_map ni_S_api_Deduced _)) allp_nil)))
  refine jc_exit ?_
  refine jx_seqE ?_
  exact jx_done rfl nofun (wkR [(0,some 0),(1,some 1)] (fix_of hF (k:=2) rfl) (pc (hA 0) (pc (hL 1 (noid_map ni_S_api_Deduced _)) allp_nil)))
 rintro (_ | _)
 ·refine jx_blkR ?_
  refine jx_seqR ?_
  exact jx_retM (prop_sheet_look_T a0 a1 a2 (false,0)) (.inr rfl) (wkR [(0,some 0),(1,some 1)] (fix_of hF (k:=2) rfl) (pc (hA 0) (pc (hL 1 (noid_map ni_S_api_Deduced _)) allp_nil)))
 refine jx_blkE ?_
 refine jx_seqN ?_
 refine jc_seq ?_
 refine jR ?_
 refine jG 0 3 ⟨[V 0 (pt 0 4098),V 5 (iv 0),V 25 (.fsl 1 (List.map cI a2)),V 26 (iv (List.length (List.map cI a2):Int)),V 27 (iv 0)],[(0,.rows 4098 [List.map aI8 a0 ++ [.osl 1 0 (List.length a1) 2]]),(1,.rows 2 (List.map c_S_api_Deduced a1))],2⟩ ?_
 simp only[List.length_map]
 refine jN ?_
 refine jc_block ?_
 refine jc_bind (fun y=>match y with | Sum.inl _=>⟨[V 4 (bv false),V 5 (iv 0)],[(0,.rows 4098 [List.map aI8 a0 ++ [.osl 1 0 (List.length a1) 2]]),(1,.rows 2 (List.map c_S_api_Deduced a1))],2⟩ | Sum.inr x54=>⟨[V 5 (iv x54)],[(0,.rows 4098 [List.map aI8 a0 ++ [.osl 1 0 (List.length a1) 2]]),(1,.rows 2 (List.map c_S_api_Deduced a1))],2⟩) (fun y=>match y with | Sum.inl _=>.ret | Sum.inr x54=>(.exit 3)) (jc_loop (fun (x46,x47)=>⟨[V 0 (pt 0 4098),V 5 (iv x46),V 25 (.fsl 1 (List.map cI a2)),V 26 (iv (List.length a2:Int)),V 27 (iv x47)],[(0,.rows 4098 [List.map aI8 a0 ++ [.osl 1 0 (List.length a1) 2]]),(1,.rows 2 (List.map c_S_api_Deduced a1))],2⟩) (wkR [(0,some 0),(1,some 1)] (fix_of hF (k:=2) rfl) (pc (hA 0) (pc (hL 1 (noid_map ni_S_api_Deduced _)) allp_nil))) ?_) ?_
 ·rintro⟨x46,x47⟩
  unfold prop_sheet_look_l2
  refine jS ⟨[V 0 (pt 0 4098),V 5 (iv x46),V 25 (.fsl 1 (List.map cI a2)),V 26 (iv (List.length a2:Int)),V 27 (iv x47),V 28 (bv (decide (x47 < (List.length a2:Int))))],[(0,.rows 4098 [List.map aI8 a0 ++ [.osl 1 0 (List.length a1) 2]]),(1,.rows 2 (List.map c_S_api_Deduced a1))],2⟩ ?_
  refine jc_seq ?_
  refine jIf ?_ ?_
  ·refine jc_skip ?_
   refine jx_seqN ?_
   refine jc_seq ?_
   refine jc_bind (fun y=>match y with | Sum.inl _=>⟨[V 4 (bv false),V 5 (iv 0)],[(0,.rows 4098 [List.map aI8 a0 ++ [.osl 1 0 (List.length a1) 2]]),(1,.rows 2 (List.map c_S_api_Deduced a1))],2⟩ | Sum.inr x58=>⟨[V 0 (pt 0 4098),V 5 (iv x58),V 25 (.fsl 1 (List.map cI a2)),V 26 (iv (List.length a2:Int)),V 27 (iv x47)],[(0,.rows 4098 [List.map aI8 a0 ++ [.osl 1 0 (List.length a1) 2]]),(1,.rows 2 (List.map c_S_api_Deduced a1))],2⟩) (fun y=>match y with | Sum.inl _=>.ret | Sum.inr x58=>.normal) ?_ ?_
   ·refine jc_block ?_
    refine jR ?_
    refine jr_part (i:=0) (mo:=ixl a2 x47) rfl rfl rfl rfl (fun _ hc=>aop_ixf (c:=cI) (sz:=1) (e:=3) (kk:=.i64) (by kernel_rfl) (by kernel_rfl) (by kernel_rfl) (by kernel_rfl) hc) (fun _=>rfl) ?_
    intro x59 h59
    refine jG 1 2 ⟨[V 0 (pt 0 4098),V 5 (iv x46),V 9 (iv x59),V 25 (.fsl 1 (List.map cI a2)),V 26 (iv (List.length a2:Int)),V 27 (iv x47)],[(0,.rows 4098 [List.map aI8 a0 ++ [.osl 1 0 (List.length a1) 2]]),(1,.rows 2 (List.map c_S_api_Deduced a1))],2⟩ ?_
    refine jN ?_
    refine jc_seq ?_
    refine jR ?_
    refine jG 0 2 ⟨[V 0 (pt 0 4098),V 5 (iv x46),V 9 (iv x59),V 25 (.fsl 1 (List.map cI a2)),V 26 (iv (List.length a2:Int)),V 27 (iv x47),V 31 (pt 0 4098),V 32 (iv x59)],[(0,.rows 4098 [List.map aI8 a0 ++ [.osl 1 0 (List.length a1) 2]]),(1,.rows 2 (List.map c_S_api_Deduced a1))],2⟩ ?_
    refine jr_callM 2 [(0,some 0),(1,some 1)] [(0,some 0),(1,some 1)] (fun r:Int=>[(0,.rows 4098 [List.map aI8 a0 ++ [.osl 1 0 (List.length a1) 2]]),(1,.rows 2 (List.map c_S_api_Deduced a1))]) (fun r:Int=>iv r) 2 (prop_sheet_of_ok a0 a1 x59) (pc (hA 0) (pc (hL 1 (noid_map ni_S_api_Deduced _)) allp_nil)) (fun r=>(pc (.inr (hA 0)) (pc (.inr (hL 1 (noid_map ni_S_api_Deduced _))) allp_nil))) ?_
    rintro x60 hm18
    refine jG 3 10 ⟨[V 0 (pt 0 4098),V 5 (iv x46),V 9 (iv x59),V 25 (.fsl 1 (List.map cI a2)),V 26 (iv (List.length a2:Int)),V 27 (iv x47),V 43 (bv (((x60 == 0) && (x46 != 0)) && (x46 != x59)))],[(0,.rows 4098 [List.map aI8 a0 ++ [.osl 1 0 (List.length a1) 2]]),(1,.rows 2 (List.map c_S_api_Deduced a1))],2⟩ ?_
    refine jN ?_
    refine jIf ?_ ?_
    ·refine jS ⟨[V 4 (bv false),V 5 (iv 0)],[(0,.rows 4098 [List.map aI8 a0 ++ [.osl 1 0 (List.length a1) 2]]),(1,.rows 2 (List.map c_S_api_Deduced a1))],2⟩ ?_
     refine jc_ret ?_
     refine jx_seqR ?_
     refine jx_blkR ?_
     exact jx_mid rfl (wkR [(0,some 0),(1,some 1)] (fix_of hF (k:=2) rfl) (pc (hA 0) (pc (hL 1 (noid_map ni_S_api_Deduced _)) allp_nil)))
    refine jc_skip ?_
    refine jx_seqN ?_
    refine jR ?_
    refine jG 0 2 ⟨[V 0 (pt 0 4098),V 5 (iv x46),V 9 (iv x59),V 25 (.fsl 1 (List.map cI a2)),V 26 (iv (List.length a2:Int)),V 27 (iv x47),V 44 (pt 0 4098),V 45 (iv x59)],[(0,.rows 4098 [List.map aI8 a0 ++ [.osl 1 0 (List.length a1) 2]]),(1,.rows 2 (List.map c_S_api_Deduced a1))],2⟩ ?_
    refine jr_callM 2 [(0,some 0),(1,some 1)] [(0,some 0),(1,some 1)] (fun r:Int=>[(0,.rows 4098 [List.map aI8 a0 ++ [.osl 1 0 (List.length a1) 2]]),(1,.rows 2 (List.map c_S_api_Deduced a1))]) (fun r:Int=>iv r) 2 (prop_sheet_of_ok a0 a1 x59) (pc (hA 0) (pc (hL 1 (noid_map ni_S_api_Deduced _)) allp_nil)) (fun r=>(pc (.inr (hA 0)) (pc (.inr (hL 1 (noid_map ni_S_api_Deduced _))) allp_nil))) ?_
    rintro x61 hm17
    refine jG 3 1 ⟨[V 0 (pt 0 4098),V 5 (iv x46),V 9 (iv x59),V 25 (.fsl 1 (List.map cI a2)),V 26 (iv (List.length a2:Int)),V 27 (iv x47),V 47 (bv (x61 == 0))],[(0,.rows 4098 [List.map aI8 a0 ++ [.osl 1 0 (List.length a1) 2]]),(1,.rows 2 (List.map c_S_api_Deduced a1))],2⟩ ?_
    refine jN ?_
    refine jIf ?_ ?_
    ·refine jT ⟨[V 0 (pt 0 4098),V 5 (iv x59),V 25 (.fsl 1 (List.map cI a2)),V 26 (iv (List.length a2:Int)),V 27 (iv x47)],[(0,.rows 4098 [List.map aI8 a0 ++ [.osl 1 0 (List.length a1) 2]]),(1,.rows 2 (List.map c_S_api_Deduced a1))],2⟩ ?_
     refine jx_blkN ?_
     exact jx_mid rfl (wkR [(0,some 0),(1,some 1)] (fix_of hF (k:=2) rfl) (pc (hA 0) (pc (hL 1 (noid_map ni_S_api_Deduced _)) allp_nil)))
    refine jc_skip ?_
    refine jx_blkN ?_
    exact jx_mid rfl (wkR [(0,some 0),(1,some 1)] (fix_of hF (k:=2) rfl) (pc (hA 0) (pc (hL 1 (noid_map ni_S_api_Deduced _)) allp_nil)))
   rintro (_ | x58)
   ·refine jx_seqR ?_
    exact jx_done rfl nofun (wkR [(0,some 0),(1,some 1)] (fix_of hF (k:=2) rfl) (pc (hA 0) (pc (hL 1 (noid_map ni_S_api_Deduced _)) allp_nil)))
   refine jx_seqN ?_
   refine jT ⟨[V 0 (pt 0 4098),V 5 (iv x58),V 25 (.fsl 1 (List.map cI a2)),V 26 (iv (List.length a2:Int)),V 27 (iv (w64 (x47 + 1)))],[(0,.rows 4098 [List.map aI8 a0 ++ [.osl 1 0 (List.length a1) 2]]),(1,.rows 2 (List.map c_S_api_Deduced a1))],2⟩ ?_
   exact jx_next (wkR [(0,some 0),(1,some 1)] (fix_of hF (k:=2) rfl) (pc (hA 0) (pc (hL 1 (noid_map ni_S_api_Deduced _)) allp_nil)))
  refine jc_exit ?_
  refine jx_seqE ?_
  exact jx_done rfl nofun (wkR [(0,some 0),(1,some 1)] (fix_of hF (k:=2) rfl) (pc (hA 0) (pc (hL 1 (noid_map ni_S_api_Deduced _)) allp_nil)))
 rintro (_ | x54)
 ·refine jx_blkR ?_
  refine jx_seqR ?_
  exact jx_retM (prop_sheet_look_T a0 a1 a2 (false,0)) (.inr rfl) (wkR [(0,some 0),(1,some 1)] (fix_of hF (k:=2) rfl) (pc (hA 0) (pc (hL 1 (noid_map ni_S_api_Deduced _)) allp_nil)))
 refine jx_blkE ?_
 refine jx_seqN ?_
 refine jS ⟨[V 4 (bv (x54 == 0)),V 5 (iv x54)],[(0,.rows 4098 [List.map aI8 a0 ++ [.osl 1 0 (List.length a1) 2]]),(1,.rows 2 (List.map c_S_api_Deduced a1))],2⟩ ?_
 refine jc_ret ?_
 exact jx_retM (prop_sheet_look_T a0 a1 a2 ((x54 == 0),x54)) (.inr rfl) (wkR [(0,some 0),(1,some 1)] (fix_of hF (k:=2) rfl) (pc (hA 0) (pc (hL 1 (noid_map ni_S_api_Deduced _)) allp_nil))))
abbrev prop_sheet_set_r1:List LO:=[lm 6 0 45,lm 7 1 3,lo 8 (.call ⟨.value (.func 35),#[.tmp 7],#[3]⟩) 3,lo 9 (.nilCheck (.tmp 6)) 0,lo 10 (.fieldAddr 49 (.tmp 9) 0) 0,lo 11 (.indexAddr 47 (.tmp 10) (.tmp 8)) 0,ln (.store 46 (.tmp 11) (.const (.int .i8 1))) 0]
abbrev prop_sheet_set_r2:List LO:=[lm 12 1 3,lo 13 (.binOp .lss 3 (.tmp 12) (.const (.int .i64 0)) 3) 4]
abbrev prop_sheet_set_r3:List LO:=[lm 14 0 45,lm 15 1 3,lo 16 (.call ⟨.value (.func 35),#[.tmp 15],#[3]⟩) 3,lo 17 (.nilCheck (.tmp 14)) 0,lo 18 (.fieldAddr 49 (.tmp 17) 0) 0,lo 19 (.indexAddr 47 (.tmp 18) (.tmp 16)) 0,ln (.store 46 (.tmp 19) (.const (.int .i8 (-1)))) 0]
abbrev prop_sheet_set_r4:List LO:=[lm 20 0 45,lm 21 0 45,lo 22 (.nilCheck (.tmp 21)) 0,lo 23 (.fieldAddr 49 (.tmp 22) 1) 0,lo 24 (.load 25 (.tmp 23)) 25,lm 25 1 3,lm 26 2 3,lo 27 (.build 39 #[(0,.tmp 25),(1,.tmp 26)]) 39,lo 28 (.buildSlice 25 1 #[(0,.tmp 27)]) 25,lo 29 (.call ⟨.builtin .append,#[.tmp 24,.tmp 28],#[25,25]⟩) 25,lo 30 (.nilCheck (.tmp 20)) 0,lo 31 (.fieldAddr 49 (.tmp 30) 1) 0,ln (.store 25 (.tmp 31) (.tmp 29)) 0]
abbrev prop_sheet_set_c:LC:=.seq (.reg true prop_sheet_set_r1) (.seq (.seq (.reg false prop_sheet_set_r2) (.cond (.tmp 13) (.reg true prop_sheet_set_r3) .skip)) (.reg false prop_sheet_set_r4))
theorem prop_sheet_set_k:FnOk E 27 32 [] prop_sheet_set_c:=⟨⟨Go.Proofs.Try.f27,by kernel_rfl,by kernel_rfl,by kernel_rfl,by kernel_rfl,by kernel_rfl⟩,rfl,rfl⟩
abbrev prop_sheet_set_T (a0:List Int) (a1:List S_api_Deduced) (a2:Int) (a3:Int) (r:List Int × List S_api_Deduced):CS:=⟨[],[(0,.rows 4098 [List.map aI8 r.1 ++ [.osl 2 0 (List.length r.2) 2]]),(2,.rows 2 (List.map c_S_api_Deduced r.2))],3⟩
noncomputable def prop_sheet_set (a0:List Int) (a1:List S_api_Deduced) (a2:Int) (a3:Int):Option (List Int × List S_api_Deduced):=Option.bind (prop_size a2) (fun x10=>Option.bind (ixA 4097 a0 x10) (fun x11=>Option.bind ((if (decide (a2 < 0))=true then Option.bind (prop_size a2) (fun x15=>Option.bind (ixA 4097 (List.set a0 (Int.toNat x10) 1) x15) (fun x16=>some (List.set (List.set a0 (Int.toNat x10) 1) (Int.toNat x15) (-1)))) else some (List.set a0 (Int.toNat x10) 1)):Option (List Int)) (fun x14=>Option.bind (lenA 4097 x14) (fun x17=>Option.bind (app 16 a1 [(S_api_Deduced.mk a2 a3)]) (fun x18=>some (x14,x18))))))
theorem prop_sheet_set_ok (a0:List Int) (a1:List S_api_Deduced) (a2:Int) (a3:Int):CtM E 27 [pt 0 4098,iv a2,iv a3] [(0,.rows 4098 [List.map aI8 a0 ++ [.osl 1 0 (List.length a1) 2]]),(1,.rows 2 (List.map c_S_api_Deduced a1))] 2 (prop_sheet_set a0 a1 a2 a3) (fun r:List Int × List S_api_Deduced=>.tup []) (fun r:List Int × List S_api_Deduced=>[(0,.rows 4098 [List.map aI8 r.1 ++ [.osl 2 0 (List.length r.2) 2]]),(2,.rows 2 (List.map c_S_api_Deduced r.2))]) 3:=ctm_intro (N:=32) (L:=prop_sheet_set_c) prop_sheet_set_k rfl (Nat.le_of_ble_eq_true rfl) (fun F hF=>by
 unfold prop_sheet_set
 refine jR ?_
 refine jG 0 2 ⟨[V 0 (pt 0 4098),V 1 (iv a2),V 2 (iv a3),V 6 (pt 0 4098),V 7 (iv a2)],[(0,.rows 4098 [List.map aI8 a0 ++ [.osl 1 0 (List.length a1) 2]]),(1,.rows 2 (List.map c_S_api_Deduced a1))],2⟩ ?_
 refine jK 2 (prop_size_ok a2) ?_
 intro x10 h10
 refine jG 3 2 ⟨[V 0 (pt 0 4098),V 1 (iv a2),V 2 (iv a3),V 8 (iv x10),V 10 (pt 0 4098)],[(0,.rows 4098 [List.map aI8 a0 ++ [.osl 1 0 (List.length a1) 2]]),(1,.rows 2 (List.map c_S_api_Deduced a1))],2⟩ ?_
 refine jr_part (i:=5) (mo:=ixA 4097 a0 x10) rfl rfl rfl rfl (fun _ hc=>aop_ixa (sz:=4098) (e:=46) (kk:=.i64) (id:=0) (i:=0) (by kernel_rfl) (by kernel_rfl) (by kernel_rfl) (by kernel_rfl) hc) (fun _=>rfl) ?_
 intro x11 h11
 refine jr_sto (i:=6) [0,1,2] [0,1] (st1:=⟨[V 0 (pt 0 4098),V 1 (iv a2),V 2 (iv a3)],[(0,.rows 4098 [List.map aI8 (List.set a0 (Int.toNat x10) 1) ++ [.osl 1 0 (List.length a1) 2]]),(1,.rows 2 (List.map c_S_api_Deduced a1))],2⟩) rfl rfl rfl rfl (aop_sta (l:=a0) (c:=aI8) (rest:=[.osl 1 0 (List.length a1) 2]) (id:=0) (sz:=4098) (k:=(Int.toNat x10)) (a:=x11) (a':=1) (by kernel_rfl) (by kernel_rfl) (by kernel_rfl) (by kernel_rfl) (by kernel_rfl) (ixA_at h11)) (by kernel_rfl) ?_
 refine jN ?_
 refine jc_seq ?_
 refine jc_bind (fun x14=>⟨[V 0 (pt 0 4098),V 1 (iv a2),V 2 (iv a3)],[(0,.rows 4098 [List.map aI8 x14 ++ [.osl 1 0 (List.length a1) 2]]),(1,.rows 2 (List.map c_S_api_Deduced a1))],2⟩) (fun x14=>.normal) ?_ ?_
 ·refine jS ⟨[V 0 (pt 0 4098),V 1 (iv a2),V 2 (iv a3),V 13 (bv (decide (a2 < 0)))],[(0,.rows 4098 [List.map aI8 (List.set a0 (Int.toNat x10) 1) ++ [.osl 1 0 (List.length a1) 2]]),(1,.rows 2 (List.map c_S_api_Deduced a1))],2⟩ ?_
  refine jIf ?_ ?_
  ·refine jc_reg ?_
   refine jG 0 2 ⟨[V 0 (pt 0 4098),V 1 (iv a2),V 2 (iv a3),V 14 (pt 0 4098),V 15 (iv a2)],[(0,.rows 4098 [List.map aI8 (List.set a0 (Int.toNat x10) 1) ++ [.osl 1 0 (List.length a1) 2]]),(1,.rows 2 (List.map c_S_api_Deduced a1))],2⟩ ?_
   refine jK 2 (prop_size_ok a2) ?_
   intro x15 h15
   refine jG 3 2 ⟨[V 0 (pt 0 4098),V 1 (iv a2),V 2 (iv a3),V 16 (iv x15),V 18 (pt 0 4098)],[(0,.rows 4098 [List.map aI8 (List.set a0 (Int.toNat x10) 1) ++ [.osl 1 0 (List.length a1) 2]]),(1,.rows 2 (List.map c_S_api_Deduced a1))],2⟩ ?_
   refine jr_part (i:=5) (mo:=ixA 4097 (List.set a0 (Int.toNat x10) 1) x15) rfl rfl rfl rfl (fun _ hc=>aop_ixa (sz:=4098) (e:=46) (kk:=.i64) (id:=0) (i:=0) (by kernel_rfl) (by kernel_rfl) (by kernel_rfl) (by kernel_rfl) hc) (fun _=>rfl) ?_
   intro x16 h16
   refine jr_sto (i:=6) [0,1,2] [0,1] (st1:=⟨[V 0 (pt 0 4098),V 1 (iv a2),V 2 (iv a3)],[(0,.rows 4098 [List.map aI8 (List.set (List.set a0 (Int.toNat x10) 1) (Int.toNat x15) (-1)) ++ [.osl 1 0 (List.length a1) 2]]),(1,.rows 2 (List.map c_S_api_Deduced a1))],2⟩) rfl rfl rfl rfl (aop_sta (l:=(List.set a0 (Int.toNat x10) 1)) (c:=aI8) (rest:=[.osl 1 0 (List.length a1) 2]) (id:=0) (sz:=4098) (k:=(Int.toNat x15)) (a:=x16) (a':=(-1)) (by kernel_rfl) (by kernel_rfl) (by kernel_rfl) (by kernel_rfl) (by kernel_rfl) (ixA_at h16)) (by kernel_rfl) ?_
   refine jr_nil rfl ?_
   exact jx_mid rfl (wkR [(0,some 0),(1,some 1)] (fix_of hF (k:=2) rfl) (pc (hA 0) (pc (hL 1 (noid_map ni_S_api_Deduced _)) allp_nil)))
  refine jc_skip ?_
  exact jx_mid rfl (wkR [(0,some 0),(1,some 1)] (fix_of hF (k:=2) rfl) (pc (hA 0) (pc (hL 1 (noid_map ni_S_api_Deduced _)) allp_nil)))
 intro x14
 refine jx_seqN ?_
 refine jc_reg ?_
 refine jG 0 4 ⟨[V 1 (iv a2),V 2 (iv a3),V 20 (pt 0 4098),V 23 (.ptr 0 0 4098 4097)],[(0,.rows 4098 [List.map aI8 x14 ++ [.osl 1 0 (List.length a1) 2]]),(1,.rows 2 (List.map c_S_api_Deduced a1))],2⟩ ?_
 refine jr_guard ?_
 intro x17 h17
 refine jr_one (i:=4) (v:=.osl 1 0 (List.length a1) 2) (us:=[]) rfl rfl rfl rfl (aop_ldr (l:=x14) (c:=aI8) (rest:=[.osl 1 0 (List.length a1) 2]) (id:=0) (sz:=4098) (m:=4097) (q:=0) (by kernel_rfl) (by kernel_rfl) (by kernel_rfl) (by kernel_rfl) (lenA_iff h17) (by kernel_rfl)) rfl ?_
 refine jG 5 4 ⟨[V 20 (pt 0 4098),V 24 (.osl 1 0 (List.length a1) 2),V 28 (.osl 2 0 (List.length [(S_api_Deduced.mk a2 a3)]) 2)],[(0,.rows 4098 [List.map aI8 x14 ++ [.osl 1 0 (List.length a1) 2]]),(1,.rows 2 (List.map c_S_api_Deduced a1)),(2,.rows 2 (List.map c_S_api_Deduced [(S_api_Deduced.mk a2 a3)]))],3⟩ ?_
 refine jr_part (i:=9) (mo:=app 16 a1 [(S_api_Deduced.mk a2 a3)]) rfl rfl rfl rfl (fun _ hc=>aop_app (u:=.osl 1 0 (List.length a1) 2) (w:=.osl 2 0 (List.length [(S_api_Deduced.mk a2 a3)]) 2) (e:=39) (td:=.slice 39) (by kernel_rfl) (by kernel_rfl) (by kernel_rfl) (by kernel_rfl) (.inl ⟨_,rfl⟩) (appendOf_own (c:=c_S_api_Deduced) (sz:=2) (b:=16) (id:=1) (by kernel_rfl) (by kernel_rfl) (rows_own (by kernel_rfl)) (List.cons_ne_nil _ _) hc)) (fun _=>rfl) ?_
 intro x18 h18
 refine jG 10 2 ⟨[V 29 (.osl 3 0 (List.length x18) 2),V 31 (.ptr 0 0 4098 4097)],[(0,.rows 4098 [List.map aI8 x14 ++ [.osl 1 0 (List.length a1) 2]]),(3,.rows 2 (List.map c_S_api_Deduced x18))],4⟩ ?_
 refine jr_sto (i:=12) [] [0,3] (st1:=⟨[],[(0,.rows 4098 [List.map aI8 x14 ++ [.osl 3 0 (List.length x18) 2]]),(3,.rows 2 (List.map c_S_api_Deduced x18))],4⟩) rfl rfl rfl rfl (aop_str (l:=x14) (c:=aI8) (rest:=[.osl 1 0 (List.length a1) 2]) (id:=0) (sz:=4098) (rest':=[.osl 3 0 (List.length x18) 2]) (m:=4097) (q:=0) (w:=.osl 3 0 (List.length x18) 2) (cs:=[.osl 3 0 (List.length x18) 2]) (by kernel_rfl) (by kernel_rfl) (by kernel_rfl) (by kernel_rfl) (by kernel_rfl) (lenA_iff h17) (Nat.le_of_ble_eq_true rfl) (by kernel_rfl)) (by kernel_rfl) ?_
 refine jr_nil rfl ?_
 exact jx_retM (prop_sheet_set_T a0 a1 a2 a3 (x14,x18)) (.inl rfl) (wkR [(0,some 0),(1,some 1),(2,some 3)] (fix_of hF (k:=2) rfl) (pc (hA 0) (pc (hL 3 (noid_map ni_S_api_Deduced _)) allp_nil))))
noncomputable def ref26_Board_add (a0:List Bool) (a1:List S_api_Deduced) (a2:Int) (a3:Int):Option (List S_api_Deduced):=Option.bind (ixA 8193 a0 (w64 (a2 + 4096))) (fun x4=>Option.bind (app 16 a1 [(S_api_Deduced.mk a2 a3)]) (fun x5=>some x5))
noncomputable def ref26_Board_is (a0:List Bool) (a1:List S_api_Deduced) (a2:Int):Option (Bool):=Option.bind (ixA 8193 a0 (w64 (a2 + 4096))) (fun x3=>some x3)
noncomputable def ref26_Board_look_l1 (a0:List Bool) (a1:List S_api_Deduced) (a2:List Int):(Int × Int × Int)→Option (Step (Int × Int × Int) ((Unit) ⊕ (Int × Int))):=fun (x39,x40,x41)=>(if (decide (x41 < (List.length a2:Int)))=true then Option.bind (Option.bind (ixl a2 x41) (fun x65=>Option.bind (ref26_Board_is a0 a1 x65) (fun x66=>(if x66=true then some (Sum.inl ()) else Option.bind (ixl a2 x41) (fun x67=>Option.bind (ref26_Board_is a0 a1 (w64 (0 - x67))) (fun x68=>Option.bind (if (!x68)=true then Option.bind (ixl a2 x41) (fun x71=>some (x71 != x39)) else some false:Option (Bool)) (fun x70=>(if x70=true then Option.bind (ixl a2 x41) (fun x72=>some (Sum.inr (x72,(w64 (x40 + 1))))) else some (Sum.inr (x39,x40))))))))):Option ((Unit) ⊕ (Int × Int))) (fun y=>match y with | Sum.inl _=>some (Step.done (Sum.inl ())) | Sum.inr (x63,x64)=>some (Step.next (x63,x64,(w64 (x41 + 1))))) else some (Step.done (Sum.inr (x39,x40))))
noncomputable def ref26_Board_look (a0:List Bool) (a1:List S_api_Deduced) (a2:List Int):Option (Int × Int × Bool):=Option.bind (loopC (ref26_Board_look_l1 a0 a1 a2) (0,0,0)) (fun y=>match y with | Sum.inl _=>some (0,0,true) | Sum.inr (x54,x55)=>some (x54,x55,false))
noncomputable def ref26_good (a0:Int):Option (Bool):=some (((a0 != 0) && (decide (a0≥(-4096)))) && (decide (a0≤4096)))
noncomputable def ref26_clean_l1 (a0:(List Int)):Int→Option (Step (Int) ((Unit) ⊕ (Unit))):=fun x3=>(if (decide (x3 < (List.length a0:Int)))=true then Option.bind (ixl a0 x3) (fun x7=>Option.bind (ref26_good x7) (fun x8=>(if (!x8)=true then some (Step.done (Sum.inl ())) else some (Step.next (w64 (x3 + 1)))))) else some (Step.done (Sum.inr ())))
noncomputable def ref26_clean (a0:(List Int)):Option (Bool):=Option.bind (loopC (ref26_clean_l1 a0) 0) (fun y=>match y with | Sum.inl _=>some false | Sum.inr _=>some true)
abbrev prop_sheet_counts_1_it_r1:List LO:=[lo 8 (.load 22 (.tmp 1)) 22,lo 9 (.call ⟨.builtin .len,#[.tmp 8],#[22]⟩) 3,lo 10 (.move (.const (.int .i64 0))) 3]
abbrev prop_sheet_counts_1_it_r2:List LO:=[lo 11 (.binOp .lss 3 (.tmp 10) (.tmp 9) 3) 0]
abbrev prop_sheet_counts_1_it_r3:List LO:=[lm 12 10 3,lo 13 (.indexAddr 22 (.tmp 8) (.tmp 10)) 0,lo 14 (.load 23 (.tmp 13)) 23,lo 4 (.assign (.tmp 12)) 3,lo 5 (.assign (.tmp 14)) 23]
abbrev prop_sheet_counts_1_it_r4:List LO:=[lo 16 (.load 45 (.tmp 2)) 45,lm 17 5 23,lo 18 (.call ⟨.value (.func 40),#[.tmp 16,.tmp 17],#[45,23]⟩) 64,lm 15 18 64,lo 19 (.extract (.tmp 15) 0) 4,lo 20 (.extract (.tmp 15) 1) 3,lo 6 (.assign (.tmp 19)) 4,lo 7 (.assign (.tmp 20)) 3]
abbrev prop_sheet_counts_1_it_r5:List LO:=[lm 21 6 4,lm 22 21 4,lmg 23 7 3 22 false,lg 24 (.binOp .neq 3 (.tmp 23) (.const (.int .i64 0)) 3) 4 22 false,lo 25 (.pick (.tmp 22) (.const (.bool true)) (.tmp 24)) 4,lm 26 25 4,lmg 27 0 63 26 true,lmg 28 4 3 26 true,lmg 29 7 3 26 true,lg 30 (.call ⟨.value (.tmp 27),#[.tmp 28,.tmp 29],#[3,3]⟩) 4 26 true,lg 31 (.unOp .not 4 (.tmp 30)) 4 26 true,lo 32 (.pick (.tmp 26) (.tmp 31) (.const (.bool false))) 4]
abbrev prop_sheet_counts_1_it_r6:List LO:=[lo 33 (.binOp .add 3 (.tmp 10) (.const (.int .i64 1)) 3) 3,lm 10 33 3]
abbrev prop_sheet_counts_1_it_c:LC:=.seq (.reg false prop_sheet_counts_1_it_r1) (.block 0 (.loop (.seq (.reg false prop_sheet_counts_1_it_r2) (.seq (.cond (.tmp 11) .skip (.exit 0)) (.seq (.block 1 (.seq (.reg false prop_sheet_counts_1_it_r3) (.seq (.reg false prop_sheet_counts_1_it_r4) (.seq (.reg false prop_sheet_counts_1_it_r5) (.cond (.tmp 32) .ret .skip))))) (.reg false prop_sheet_counts_1_it_r6))))))
theorem prop_sheet_counts_1_it_k:FnOk E 39 34 [] prop_sheet_counts_1_it_c:=⟨⟨Go.Proofs.Try.f39,by kernel_rfl,by kernel_rfl,by kernel_rfl,by kernel_rfl,by kernel_rfl⟩,rfl,rfl⟩
abbrev prop_sheet_counts_r1:List LO:=[lo 2 (.box 45 (.tmp 0)) 0,lo 3 (.box 22 (.tmp 1)) 0,lo 4 (.assign (.const .nilFunc)) 53]
abbrev prop_sheet_counts_r2:List LO:=[lo 5 (.makeFunc (Fn.func 39) #[] #[.tmp 3,.tmp 2]) 52,lo 4 (.assign (.tmp 5)) 53]
abbrev prop_sheet_counts_c:LC:=.seq (.reg false prop_sheet_counts_r1) (.seq (.reg false prop_sheet_counts_r2) .ret)
theorem prop_sheet_counts_k:FnOk E 28 6 [.tmp 4] prop_sheet_counts_c:=⟨⟨Go.Proofs.Try.f28,by kernel_rfl,by kernel_rfl,by kernel_rfl,by kernel_rfl,by kernel_rfl⟩,rfl,rfl⟩
abbrev prop_sheet_counts_T (a0:List Int) (a1:List S_api_Deduced) (a2:List (List Int)) (r:Unit):CS:=⟨[V 4 (.fn 39 [pt 2 1,pt 3 1])],[(0,.rows 4098 [List.map aI8 a0 ++ [.osl 1 0 (List.length a1) 2]]),(1,.rows 2 (List.map c_S_api_Deduced a1)),W 2 1 [.fsl 1 (List.map c_L3 a2)],W 3 1 [pt 0 4098]],4⟩
noncomputable def prop_sheet_counts (a0:List Int) (a1:List S_api_Deduced) (a2:List (List Int)):Option (Unit):=some ()
theorem prop_sheet_counts_ok (a0:List Int) (a1:List S_api_Deduced) (a2:List (List Int)):CtM E 28 [pt 0 4098,.fsl 1 (List.map c_L3 a2)] [(0,.rows 4098 [List.map aI8 a0 ++ [.osl 1 0 (List.length a1) 2]]),(1,.rows 2 (List.map c_S_api_Deduced a1))] 2 (prop_sheet_counts a0 a1 a2) (fun r:Unit=>.fn 39 [pt 2 1,pt 3 1]) (fun r:Unit=>[(0,.rows 4098 [List.map aI8 a0 ++ [.osl 1 0 (List.length a1) 2]]),(1,.rows 2 (List.map c_S_api_Deduced a1)),W 2 1 [.fsl 1 (List.map c_L3 a2)],W 3 1 [pt 0 4098]]) 4:=ctm_intro (N:=6) (L:=prop_sheet_counts_c) prop_sheet_counts_k rfl (Nat.le_of_ble_eq_true rfl) (fun F hF=>by
 unfold prop_sheet_counts
 refine jS ⟨[V 2 (pt 2 1),V 3 (pt 3 1)],[(0,.rows 4098 [List.map aI8 a0 ++ [.osl 1 0 (List.length a1) 2]]),(1,.rows 2 (List.map c_S_api_Deduced a1)),W 2 1 [pt 0 4098],W 3 1 [.fsl 1 (List.map c_L3 a2)]],4⟩ ?_
 refine jS ⟨[V 4 (.fn 39 [pt 3 1,pt 2 1])],[(0,.rows 4098 [List.map aI8 a0 ++ [.osl 1 0 (List.length a1) 2]]),(1,.rows 2 (List.map c_S_api_Deduced a1)),W 2 1 [pt 0 4098],W 3 1 [.fsl 1 (List.map c_L3 a2)]],4⟩ ?_
 refine jc_ret ?_
 exact jx_retM (prop_sheet_counts_T a0 a1 a2 ()) (.inr rfl) (wkR [(0,some 0),(1,some 1),(2,some 3),(3,some 2)] (fix_of hF (k:=2) rfl) (pc (hA 0) (pc (hL 1 (noid_map ni_S_api_Deduced _)) (pc (hC 3) (pc (hC 2) allp_nil))))))
abbrev prop_Run_r1:List LO:=[lo 4 (.alloc 25) 0,lo 5 (.alloc 3) 0]
abbrev prop_Run_r2:List LO:=[lo 13 (.build 49 #[]) 49,lo 14 (.box 49 (.tmp 13)) 45,lo 6 (.alloc 45) 0,ln (.store 45 (.tmp 6) (.tmp 14)) 0]
abbrev prop_Run_r3:List LO:=[lm 15 1 23,lo 16 (.call ⟨.builtin .len,#[.tmp 15],#[23]⟩) 3,lo 17 (.move (.const (.int .i64 0))) 3]
abbrev prop_Run_r4:List LO:=[lo 18 (.binOp .lss 3 (.tmp 17) (.tmp 16) 3) 0]
abbrev prop_Run_r5:List LO:=[lo 19 (.indexAddr 23 (.tmp 15) (.tmp 17)) 0,lo 20 (.load 3 (.tmp 19)) 3,lo 8 (.assign (.tmp 20)) 3]
abbrev prop_Run_r6:List LO:=[lm 21 8 3,lo 22 (.call ⟨.value (.func 25),#[.tmp 21],#[3]⟩) 4,lo 23 (.unOp .not 4 (.tmp 22)) 4]
abbrev prop_Run_r7:List LO:=[lo 24 (.load 45 (.tmp 6)) 45,lm 25 8 3,lo 26 (.call ⟨.value (.func 26),#[.tmp 24,.tmp 25],#[45,3]⟩) 3]
abbrev prop_Run_r8:List LO:=[lo 28 (.binOp .eql 3 (.tmp 26) (.const (.int .i64 (-1))) 3) 4,lo 27 (.assign (.tmp 28)) 4]
abbrev prop_Run_r9:List LO:=[lo 29 (.load 45 (.tmp 6)) 45,lo 30 (.nilCheck (.tmp 29)) 0,lo 31 (.fieldAddr 49 (.tmp 30) 1) 0,lo 32 (.load 25 (.tmp 31)) 25,ln (.store 25 (.tmp 4) (.tmp 32)) 0,ln (.store 3 (.tmp 5) (.const (.int .i64 (-2)))) 0]
abbrev prop_Run_r10:List LO:=[lo 34 (.binOp .eql 3 (.tmp 26) (.const (.int .i64 0)) 3) 4,lo 33 (.assign (.tmp 34)) 4]
abbrev prop_Run_r11:List LO:=[lo 35 (.load 45 (.tmp 6)) 45,lm 36 8 3,lo 37 (.call ⟨.value (.func 27),#[.tmp 35,.tmp 36,.const (.int .i64 (-1))],#[45,3,3]⟩) 0]
abbrev prop_Run_r12:List LO:=[lo 38 (.binOp .add 3 (.tmp 17) (.const (.int .i64 1)) 3) 3,lm 17 38 3]
abbrev prop_Run_r13:List LO:=[lo 9 (.alloc 3) 0,lo 10 (.alloc 3) 0,ln (.store 3 (.tmp 9) (.const (.int .i64 (-1)))) 0,ln (.store 3 (.tmp 10) (.const (.int .i64 0))) 0]
abbrev prop_Run_r14:List LO:=[lo 39 (.load 45 (.tmp 6)) 45,lm 40 0 22,lo 41 (.call ⟨.value (.func 28),#[.tmp 39,.tmp 40],#[45,22]⟩) 53]
abbrev prop_Run_r15:List LO:=[lo 11 (.assign (.tmp 42)) 3]
abbrev prop_Run_r16:List LO:=[lo 12 (.assign (.tmp 43)) 3]
abbrev prop_Run_r17:List LO:=[lm 44 12 3,lo 45 (.binOp .eql 3 (.tmp 44) (.const (.int .i64 0)) 3) 4]
abbrev prop_Run_r18:List LO:=[lo 46 (.load 45 (.tmp 6)) 45,lo 47 (.nilCheck (.tmp 46)) 0,lo 48 (.fieldAddr 49 (.tmp 47) 1) 0,lo 49 (.load 25 (.tmp 48)) 25,lm 50 11 3,ln (.store 25 (.tmp 4) (.tmp 49)) 0,ln (.store 3 (.tmp 5) (.tmp 50)) 0]
abbrev prop_Run_r19:List LO:=[lo 51 (.load 3 (.tmp 9)) 3,lo 52 (.binOp .lss 3 (.tmp 51) (.const (.int .i64 0)) 3) 4]
abbrev prop_Run_r20:List LO:=[lm 53 11 3,lm 54 12 3,ln (.store 3 (.tmp 9) (.tmp 53)) 0,ln (.store 3 (.tmp 10) (.tmp 54)) 0]
noncomputable def prop_Run_y21_a0:Code:=codeSub (bodyOf Go.Proofs.Try.f8) [1,0,1,1,1,0,0,0,0,1,0,1,0,0]
theorem prop_Run_y21_aw:lower E prop_Run_y21_a0=some (.seq (.reg false prop_Run_r15) (.reg false prop_Run_r16)):=by kernel_rfl
noncomputable def prop_Run_y21_b0:Code:=codeSub (bodyOf Go.Proofs.Try.f8) [1,0,1,1,1,0,0,0,0,1,0,1,0,1]
theorem prop_Run_y21_bw:lower E prop_Run_y21_b0=some (.block 6 (.seq (.seq (.reg false prop_Run_r17) (.cond (.tmp 45) (.seq (.reg false prop_Run_r18) .ret) .skip)) (.seq (.reg false prop_Run_r19) (.cond (.tmp 52) (.reg false prop_Run_r20) .skip)))):=by kernel_rfl
abbrev prop_Run_r22:List LO:=[lo 55 (.load 3 (.tmp 9)) 3,lo 56 (.binOp .lss 3 (.tmp 55) (.const (.int .i64 0)) 3) 4]
abbrev prop_Run_r23:List LO:=[lo 57 (.load 45 (.tmp 6)) 45,lo 58 (.load 3 (.tmp 10)) 3,lo 59 (.load 3 (.tmp 9)) 3,lo 60 (.call ⟨.value (.func 27),#[.tmp 57,.tmp 58,.tmp 59],#[45,3,3]⟩) 0]
abbrev prop_Run_r24:List LO:=[lo 61 (.load 45 (.tmp 6)) 45,lo 62 (.nilCheck (.tmp 61)) 0,lo 63 (.fieldAddr 49 (.tmp 62) 1) 0,lo 64 (.load 25 (.tmp 63)) 25,ln (.store 25 (.tmp 4) (.tmp 64)) 0,ln (.store 3 (.tmp 5) (.const (.int .i64 (-1)))) 0]
noncomputable abbrev prop_Run_c:LC:=.seq (.reg false prop_Run_r1) (.scope (.seq (.reg false prop_Run_r2) (.seq (.seq (.reg false prop_Run_r3) (.block 0 (.loop (.seq (.reg false prop_Run_r4) (.seq (.cond (.tmp 18) .skip (.exit 0)) (.seq (.block 1 (.seq (.reg false prop_Run_r5) (.seq (.seq (.reg false prop_Run_r6) (.cond (.tmp 23) (.exit 1) .skip)) (.seq (.reg false prop_Run_r7) (.block 2 (.seq (.reg false prop_Run_r8) (.cond (.tmp 27) (.seq (.reg false prop_Run_r9) .ret) (.seq (.reg false prop_Run_r10) (.cond (.tmp 33) (.reg false prop_Run_r11) .skip))))))))) (.reg false prop_Run_r12))))))) (.seq .label (.seq (.block 3 (.loop (.block 4 (.seq (.reg false prop_Run_r13) (.seq (.seq (.reg false prop_Run_r14) (.block 5 (.rng (.tmp 41) [42,43] prop_Run_y21_a0 prop_Run_y21_b0))) (.seq (.seq (.reg false prop_Run_r22) (.cond (.tmp 56) (.exit 3) .skip)) (.reg false prop_Run_r23))))))) (.seq (.reg false prop_Run_r24) .ret))))))
theorem prop_Run_k:FnOk E 8 65 [.cell 4 25,.cell 5 3] prop_Run_c:=⟨⟨Go.Proofs.Try.f8,by kernel_rfl,by kernel_rfl,by kernel_rfl,by kernel_rfl,by kernel_rfl⟩,rfl,rfl⟩
noncomputable def prop_Run_l1 (a1:List Int):(List Int × List S_api_Deduced × Int)→Option (Step (List Int × List S_api_Deduced × Int) ((List S_api_Deduced) ⊕ (List Int × List S_api_Deduced))):=fun (x99,x100,x101)=>(if (decide (x101 < (List.length a1:Int)))=true then Option.bind (Option.bind (ixl a1 x101) (fun x124=>Option.bind (prop_literal x124) (fun x125=>(if (!x125)=true then some (Sum.inl (x99,x100)) else Option.bind (prop_sheet_of x99 x100 x124) (fun x126=>(if (x126 == (-1))=true then Option.bind (lenA 4097 x99) (fun x127=>some (Sum.inr ())) else (if (x126 == 0)=true then Option.bind (prop_sheet_set x99 x100 x124 (-1)) (fun (x128,x129)=>some (Sum.inl (x128,x129))) else some (Sum.inl (x99,x100)))))))):Option ((List Int × List S_api_Deduced) ⊕ (Unit))) (fun y=>match y with | Sum.inl (x122,x123)=>some (Step.next (x122,x123,(w64 (x101 + 1)))) | Sum.inr _=>some (Step.done (Sum.inl x100))) else some (Step.done (Sum.inr (x99,x100))))
noncomputable abbrev prop_Run_lp41 (a0:List (List Int)) (q:LoopState) (p:Option Code):AObj:=.loop { state:=q,pending:=p,tmps:=tl 65 [V 0 (.fsl 1 (List.map c_L3 a0)),V 4 (pt 0 1),V 5 (pt 1 1),V 6 (pt 2 1),V 9 (pt 5 1),V 10 (pt 6 1),V 41 (.fn 39 [pt 7 1,pt 8 1])] none,params:=[42,43],assign:=prop_Run_y21_a0,body:=prop_Run_y21_b0 }
noncomputable def prop_Run_l2 (a0:List (List Int)) (x157:List Int) (x158:List S_api_Deduced):(Int × Int × Int)→Option (Step (Int × Int × Int) ((Int × Int × Int) ⊕ (Int × Int))):=fun (x198,x199,x200)=>(if (decide (x198 < (List.length a0:Int)))=true then Option.bind (ixl a0 x198) (fun x217=>Option.bind (prop_sheet_look x157 x158 x217) (fun (x218,x219)=>Option.bind (if (x218 || (x219 != 0))=true then Option.bind ((if (x219 == 0)=true then Option.bind (lenA 4097 x157) (fun x228=>some (Sum.inl ())) else (if (decide (x199 < 0))=true then some (Sum.inr (x198,x219)) else some (Sum.inr (x199,x200)))):Option ((Unit) ⊕ (Int × Int))) (fun y=>match y with | Sum.inl _=>some (Sum.inl ()) | Sum.inr (x226,x227)=>some (Sum.inr (x226,x227))) else some (Sum.inr (x199,x200)):Option ((Unit) ⊕ (Int × Int))) (fun y=>match y with | Sum.inl _=>some (Step.done (Sum.inl (x198,x199,x200))) | Sum.inr (x223,x224)=>some (Step.next ((w64 (x198 + 1)),x223,x224))))) else some (Step.done (Sum.inr (x199,x200))))
noncomputable def prop_Run_l3 (a0:List (List Int)):(List Int × List S_api_Deduced)→Option (Step (List Int × List S_api_Deduced) ((List S_api_Deduced × Int) ⊕ (List Int × List S_api_Deduced))):=fun (x157,x158)=>Option.bind (prop_sheet_counts x157 x158 a0) (fun _=>Option.bind (loopC (prop_Run_l2 a0 x157 x158) (0,(-1),0)) (fun y=>match y with | Sum.inl (x212,x213,x214)=>some (Step.done (Sum.inl (x158,x212))) | Sum.inr (x215,x216)=>(if (decide (x215 < 0))=true then some (Step.done (Sum.inr (x157,x158))) else Option.bind (prop_sheet_set x157 x158 x216 x215) (fun (x229,x230)=>some (Step.next (x229,x230))))))
abbrev prop_Run_T (a0:List (List Int)) (a1:List Int) (r:List S_api_Deduced × Int):CS:=⟨[V 4 (pt 0 1),V 5 (pt 2 1)],[W 0 1 [.osl 1 0 (List.length r.1) 2],(1,.rows 2 (List.map c_S_api_Deduced r.1)),W 2 1 [iv r.2]],3⟩
noncomputable def prop_Run (a0:List (List Int)) (a1:List Int):Option (List S_api_Deduced × Int):=Option.bind (loopC (prop_Run_l1 a1) ((List.replicate 4097 (0:Int)),[],0)) (fun y=>match y with | Sum.inl x113=>some (x113,(-2)) | Sum.inr (x114,x115)=>Option.bind (loopC (prop_Run_l3 a0) (x114,x115)) (fun y=>match y with | Sum.inl (x188,x189)=>some (x188,x189) | Sum.inr (x190,x191)=>Option.bind (lenA 4097 x190) (fun x231=>some (x191,(-1)))))
theorem prop_Run_ok (a0:List (List Int)) (a1:List Int):CtM E 8 [.fsl 1 (List.map c_L3 a0),.fsl 1 (List.map cI a1)] [] 0 (prop_Run a0 a1) (fun r:List S_api_Deduced × Int=>.tup [.osl 1 0 (List.length r.1) 2,iv r.2]) (fun r:List S_api_Deduced × Int=>[(1,.rows 2 (List.map c_S_api_Deduced r.1))]) 3:=ctm_intro (N:=65) (L:=prop_Run_c) prop_Run_k rfl (Nat.le_of_ble_eq_true rfl) (fun F hF=>by
 unfold prop_Run
 refine jS ⟨[V 0 (.fsl 1 (List.map c_L3 a0)),V 1 (.fsl 1 (List.map cI a1)),V 4 (pt 0 1),V 5 (pt 1 1)],[W 0 1 [nilS],W 1 1 [iv 0]],2⟩ ?_
 refine jc_scope ?_
 refine jS ⟨[V 0 (.fsl 1 (List.map c_L3 a0)),V 1 (.fsl 1 (List.map cI a1)),V 4 (pt 0 1),V 5 (pt 1 1),V 6 (pt 3 1)],[W 0 1 [nilS],W 1 1 [iv 0],(2,.rows 4098 [List.map aI8 (List.replicate 4097 (0:Int)) ++ [nilS]]),W 3 1 [pt 2 4098]],4⟩ ?_
 refine jc_seq ?_
 refine jR ?_
 refine jG 0 3 ⟨[V 0 (.fsl 1 (List.map c_L3 a0)),V 4 (pt 0 1),V 5 (pt 1 1),V 6 (pt 3 1),V 15 (.fsl 1 (List.map cI a1)),V 16 (iv (List.length (List.map cI a1):Int)),V 17 (iv 0)],[W 0 1 [nilS],W 1 1 [iv 0],(2,.rows 4098 [List.map aI8 (List.replicate 4097 (0:Int)) ++ [nilS]]),W 3 1 [pt 2 4098]],4⟩ ?_
 simp only[List.length_map]
 refine jN ?_
 refine jc_block ?_
 refine jc_bind (fun y=>match y with | Sum.inl x113=>⟨[V 4 (pt 0 1),V 5 (pt 2 1)],[W 0 1 [.osl 1 0 (List.length x113) 2],(1,.rows 2 (List.map c_S_api_Deduced x113)),W 2 1 [iv (-2)]],3⟩ | Sum.inr (x114,x115)=>⟨[V 0 (.fsl 1 (List.map c_L3 a0)),V 4 (pt 0 1),V 5 (pt 1 1),V 6 (pt 2 1)],[W 0 1 [nilS],W 1 1 [iv 0],W 2 1 [pt 3 4098],(3,.rows 4098 [List.map aI8 x114 ++ [.osl 4 0 (List.length x115) 2]]),(4,.rows 2 (List.map c_S_api_Deduced x115))],5⟩) (fun y=>match y with | Sum.inl x113=>.ret | Sum.inr (x114,x115)=>(.exit 0)) (jc_loop (fun (x99,x100,x101)=>⟨[V 0 (.fsl 1 (List.map c_L3 a0)),V 4 (pt 0 1),V 5 (pt 1 1),V 6 (pt 2 1),V 15 (.fsl 1 (List.map cI a1)),V 16 (iv (List.length a1:Int)),V 17 (iv x101)],[W 0 1 [nilS],W 1 1 [iv 0],W 2 1 [pt 3 4098],(3,.rows 4098 [List.map aI8 x99 ++ [.osl 4 0 (List.length x100) 2]]),(4,.rows 2 (List.map c_S_api_Deduced x100))],5⟩) (wkR [(0,some 0),(1,some 1),(2,some 3),(3,some 2),(4,none)] (fix_of hF (k:=0) rfl) (pc (hC 0) (pc (hC 1) (pc (hC 3) (pc (hA 2) (pc hZ allp_nil)))))) ?_) ?_
 ·rintro⟨x99,x100,x101⟩
  unfold prop_Run_l1
  refine jS ⟨[V 0 (.fsl 1 (List.map c_L3 a0)),V 4 (pt 0 1),V 5 (pt 1 1),V 6 (pt 2 1),V 15 (.fsl 1 (List.map cI a1)),V 16 (iv (List.length a1:Int)),V 17 (iv x101),V 18 (bv (decide (x101 < (List.length a1:Int))))],[W 0 1 [nilS],W 1 1 [iv 0],W 2 1 [pt 3 4098],(3,.rows 4098 [List.map aI8 x99 ++ [.osl 4 0 (List.length x100) 2]]),(4,.rows 2 (List.map c_S_api_Deduced x100))],5⟩ ?_
  refine jc_seq ?_
  refine jIf ?_ ?_
  ·refine jc_skip ?_
   refine jx_seqN ?_
   refine jc_seq ?_
   refine jc_bind (fun y=>match y with | Sum.inl (x122,x123)=>⟨[V 0 (.fsl 1 (List.map c_L3 a0)),V 4 (pt 0 1),V 5 (pt 1 1),V 6 (pt 2 1),V 15 (.fsl 1 (List.map cI a1)),V 16 (iv (List.length a1:Int)),V 17 (iv x101)],[W 0 1 [nilS],W 1 1 [iv 0],W 2 1 [pt 3 4098],(3,.rows 4098 [List.map aI8 x122 ++ [.osl 4 0 (List.length x123) 2]]),(4,.rows 2 (List.map c_S_api_Deduced x123))],5⟩ | Sum.inr _=>⟨[V 4 (pt 0 1),V 5 (pt 2 1)],[W 0 1 [.osl 1 0 (List.length x100) 2],(1,.rows 2 (List.map c_S_api_Deduced x100)),W 2 1 [iv (-2)]],3⟩) (fun y=>match y with | Sum.inl (x122,x123)=>.normal | Sum.inr _=>.ret) ?_ ?_
   ·refine jc_block ?_
    refine jR ?_
    refine jr_part (i:=0) (mo:=ixl a1 x101) rfl rfl rfl rfl (fun _ hc=>aop_ixf (c:=cI) (sz:=1) (e:=3) (kk:=.i64) (by kernel_rfl) (by kernel_rfl) (by kernel_rfl) (by kernel_rfl) hc) (fun _=>rfl) ?_
    intro x124 h124
    refine jG 1 2 ⟨[V 0 (.fsl 1 (List.map c_L3 a0)),V 4 (pt 0 1),V 5 (pt 1 1),V 6 (pt 2 1),V 8 (iv x124),V 15 (.fsl 1 (List.map cI a1)),V 16 (iv (List.length a1:Int)),V 17 (iv x101)],[W 0 1 [nilS],W 1 1 [iv 0],W 2 1 [pt 3 4098],(3,.rows 4098 [List.map aI8 x99 ++ [.osl 4 0 (List.length x100) 2]]),(4,.rows 2 (List.map c_S_api_Deduced x100))],5⟩ ?_
    refine jN ?_
    refine jc_seq ?_
    refine jR ?_
    refine jG 0 1 ⟨[V 0 (.fsl 1 (List.map c_L3 a0)),V 4 (pt 0 1),V 5 (pt 1 1),V 6 (pt 2 1),V 8 (iv x124),V 15 (.fsl 1 (List.map cI a1)),V 16 (iv (List.length a1:Int)),V 17 (iv x101),V 21 (iv x124)],[W 0 1 [nilS],W 1 1 [iv 0],W 2 1 [pt 3 4098],(3,.rows 4098 [List.map aI8 x99 ++ [.osl 4 0 (List.length x100) 2]]),(4,.rows 2 (List.map c_S_api_Deduced x100))],5⟩ ?_
    refine jK 1 (prop_literal_ok x124) ?_
    intro x125 h125
    refine jG 2 1 ⟨[V 0 (.fsl 1 (List.map c_L3 a0)),V 4 (pt 0 1),V 5 (pt 1 1),V 6 (pt 2 1),V 8 (iv x124),V 15 (.fsl 1 (List.map cI a1)),V 16 (iv (List.length a1:Int)),V 17 (iv x101),V 23 (bv (!x125))],[W 0 1 [nilS],W 1 1 [iv 0],W 2 1 [pt 3 4098],(3,.rows 4098 [List.map aI8 x99 ++ [.osl 4 0 (List.length x100) 2]]),(4,.rows 2 (List.map c_S_api_Deduced x100))],5⟩ ?_
    refine jN ?_
    refine jIf ?_ ?_
    ·refine jc_exit ?_
     refine jx_seqE ?_
     refine jx_blkE ?_
     exact jx_mid rfl (wkR [(0,some 0),(1,some 1),(2,some 2),(3,some 3),(4,some 4)] (fix_of hF (k:=0) rfl) (pc (hC 0) (pc (hC 1) (pc (hC 2) (pc (hA 3) (pc (hL 4 (noid_map ni_S_api_Deduced _)) allp_nil))))))
    refine jc_skip ?_
    refine jx_seqN ?_
    refine jR ?_
    refine jG 0 2 ⟨[V 0 (.fsl 1 (List.map c_L3 a0)),V 4 (pt 0 1),V 5 (pt 1 1),V 6 (pt 2 1),V 8 (iv x124),V 15 (.fsl 1 (List.map cI a1)),V 16 (iv (List.length a1:Int)),V 17 (iv x101),V 24 (pt 3 4098),V 25 (iv x124)],[W 0 1 [nilS],W 1 1 [iv 0],W 2 1 [pt 3 4098],(3,.rows 4098 [List.map aI8 x99 ++ [.osl 4 0 (List.length x100) 2]]),(4,.rows 2 (List.map c_S_api_Deduced x100))],5⟩ ?_
    refine jr_callM 2 [(0,some 3),(1,some 4)] [(3,some 0),(4,some 1)] (fun r:Int=>[W 0 1 [nilS],W 1 1 [iv 0],W 2 1 [pt 3 4098],(3,.rows 4098 [List.map aI8 x99 ++ [.osl 4 0 (List.length x100) 2]]),(4,.rows 2 (List.map c_S_api_Deduced x100))]) (fun r:Int=>iv r) 5 (prop_sheet_of_ok x99 x100 x124) (pc (hA 3) (pc (hL 4 (noid_map ni_S_api_Deduced _)) allp_nil)) (fun r=>(pc (.inl ⟨rfl,rfl⟩) (pc (.inl ⟨rfl,rfl⟩) (pc (.inl ⟨rfl,rfl⟩) (pc (.inr (hA 0)) (pc (.inr (hL 1 (noid_map ni_S_api_Deduced _))) allp_nil)))))) ?_
    rintro x126 hm26
    refine jN ?_
    refine jc_block ?_
    refine jS ⟨[V 0 (.fsl 1 (List.map c_L3 a0)),V 4 (pt 0 1),V 5 (pt 1 1),V 6 (pt 2 1),V 8 (iv x124),V 15 (.fsl 1 (List.map cI a1)),V 16 (iv (List.length a1:Int)),V 17 (iv x101),V 26 (iv x126),V 27 (bv (x126 == (-1)))],[W 0 1 [nilS],W 1 1 [iv 0],W 2 1 [pt 3 4098],(3,.rows 4098 [List.map aI8 x99 ++ [.osl 4 0 (List.length x100) 2]]),(4,.rows 2 (List.map c_S_api_Deduced x100))],5⟩ ?_
    refine jIf ?_ ?_
    ·refine jR ?_
     refine jG 0 3 ⟨[V 4 (pt 0 1),V 5 (pt 1 1),V 31 (.ptr 3 0 4098 4097)],[W 0 1 [nilS],W 1 1 [iv 0],(3,.rows 4098 [List.map aI8 x99 ++ [.osl 4 0 (List.length x100) 2]]),(4,.rows 2 (List.map c_S_api_Deduced x100))],5⟩ ?_
     refine jr_guard ?_
     intro x127 h127
     refine jr_one (i:=3) (v:=.osl 4 0 (List.length x100) 2) (us:=[]) rfl rfl rfl rfl (aop_ldr (l:=x99) (c:=aI8) (rest:=[.osl 4 0 (List.length x100) 2]) (id:=3) (sz:=4098) (m:=4097) (q:=0) (by kernel_rfl) (by kernel_rfl) (by kernel_rfl) (by kernel_rfl) (lenA_iff h127) (by kernel_rfl)) rfl ?_
     refine jG 4 2 ⟨[V 4 (pt 0 1),V 5 (pt 1 1)],[W 0 1 [.osl 4 0 (List.length x100) 2],W 1 1 [iv (-2)],(4,.rows 2 (List.map c_S_api_Deduced x100))],5⟩ ?_
     refine jN ?_
     refine jc_ret ?_
     refine jx_blkR ?_
     refine jx_blkR ?_
     exact jx_mid rfl (wkR [(0,some 0),(1,some 4),(2,some 1)] (fix_of hF (k:=0) rfl) (pc (hC 0) (pc (hL 4 (noid_map ni_S_api_Deduced _)) (pc (hC 1) allp_nil))))
    refine jS ⟨[V 0 (.fsl 1 (List.map c_L3 a0)),V 4 (pt 0 1),V 5 (pt 1 1),V 6 (pt 2 1),V 8 (iv x124),V 15 (.fsl 1 (List.map cI a1)),V 16 (iv (List.length a1:Int)),V 17 (iv x101),V 33 (bv (x126 == 0))],[W 0 1 [nilS],W 1 1 [iv 0],W 2 1 [pt 3 4098],(3,.rows 4098 [List.map aI8 x99 ++ [.osl 4 0 (List.length x100) 2]]),(4,.rows 2 (List.map c_S_api_Deduced x100))],5⟩ ?_
    refine jIf ?_ ?_
    ·refine jc_reg ?_
     refine jG 0 2 ⟨[V 0 (.fsl 1 (List.map c_L3 a0)),V 4 (pt 0 1),V 5 (pt 1 1),V 6 (pt 2 1),V 15 (.fsl 1 (List.map cI a1)),V 16 (iv (List.length a1:Int)),V 17 (iv x101),V 35 (pt 3 4098),V 36 (iv x124)],[W 0 1 [nilS],W 1 1 [iv 0],W 2 1 [pt 3 4098],(3,.rows 4098 [List.map aI8 x99 ++ [.osl 4 0 (List.length x100) 2]]),(4,.rows 2 (List.map c_S_api_Deduced x100))],5⟩ ?_
     refine jr_callM 2 [(0,some 3),(1,some 4)] [(3,some 0),(5,some 2)] (fun r:List Int × List S_api_Deduced=>[W 0 1 [nilS],W 1 1 [iv 0],W 2 1 [pt 3 4098],(3,.rows 4098 [List.map aI8 r.1 ++ [.osl 5 0 (List.length r.2) 2]]),(5,.rows 2 (List.map c_S_api_Deduced r.2))]) (fun r:List Int × List S_api_Deduced=>.tup []) 6 (prop_sheet_set_ok x99 x100 x124 (-1)) (pc (hA 3) (pc (hL 4 (noid_map ni_S_api_Deduced _)) allp_nil)) (fun r=>(pc (.inl ⟨rfl,rfl⟩) (pc (.inl ⟨rfl,rfl⟩) (pc (.inl ⟨rfl,rfl⟩) (pc (.inr (hA 0)) (pc (.inr (hL 2 (noid_map ni_S_api_Deduced _))) allp_nil)))))) ?_
     rintro⟨x128,x129⟩ hm25
     refine jr_nil rfl ?_
     refine jx_blkN ?_
     refine jx_blkN ?_
     exact jx_mid rfl (wkR [(0,some 0),(1,some 1),(2,some 2),(3,some 3),(4,some 5)] (fix_of hF (k:=0) rfl) (pc (hC 0) (pc (hC 1) (pc (hC 2) (pc (hA 3) (pc (hL 5 (noid_map ni_S_api_Deduced _)) allp_nil))))))
    refine jc_skip ?_
    refine jx_blkN ?_
    refine jx_blkN ?_
    exact jx_mid rfl (wkR [(0,some 0),(1,some 1),(2,some 2),(3,some 3),(4,some 4)] (fix_of hF (k:=0) rfl) (pc (hC 0) (pc (hC 1) (pc (hC 2) (pc (hA 3) (pc (hL 4 (noid_map ni_S_api_Deduced _)) allp_nil))))))
   rintro (⟨x122,x123⟩ | _)
   ·refine jx_seqN ?_
    refine jT ⟨[V 0 (.fsl 1 (List.map c_L3 a0)),V 4 (pt 0 1),V 5 (pt 1 1),V 6 (pt 2 1),V 15 (.fsl 1 (List.map cI a1)),V 16 (iv (List.length a1:Int)),V 17 (iv (w64 (x101 + 1)))],[W 0 1 [nilS],W 1 1 [iv 0],W 2 1 [pt 3 4098],(3,.rows 4098 [List.map aI8 x122 ++ [.osl 4 0 (List.length x123) 2]]),(4,.rows 2 (List.map c_S_api_Deduced x123))],5⟩ ?_
    exact jx_next (wkR [(0,some 0),(1,some 1),(2,some 2),(3,some 3),(4,some 4)] (fix_of hF (k:=0) rfl) (pc (hC 0) (pc (hC 1) (pc (hC 2) (pc (hA 3) (pc (hL 4 (noid_map ni_S_api_Deduced _)) allp_nil))))))
   refine jx_seqR ?_
   exact jx_done rfl nofun (wkR [(0,some 0),(1,some 1),(2,some 2)] (fix_of hF (k:=0) rfl) (pc (hC 0) (pc (hL 1 (noid_map ni_S_api_Deduced _)) (pc (hC 2) allp_nil))))
  refine jc_exit ?_
  refine jx_seqE ?_
  exact jx_done rfl nofun (wkR [(0,some 0),(1,some 1),(2,some 2),(3,some 3),(4,some 4)] (fix_of hF (k:=0) rfl) (pc (hC 0) (pc (hC 1) (pc (hC 2) (pc (hA 3) (pc (hL 4 (noid_map ni_S_api_Deduced _)) allp_nil))))))
 rintro (x113 | ⟨x114,x115⟩)
 ·refine jx_blkR ?_
  refine jx_seqR ?_
  refine jx_scopeR ?_
  exact jx_retM (prop_Run_T a0 a1 (x113,(-2))) (.inr rfl) (wkR [(0,some 0),(1,some 1),(2,some 2)] (fix_of hF (k:=0) rfl) (pc (hC 0) (pc (hL 1 (noid_map ni_S_api_Deduced _)) (pc (hC 2) allp_nil))))
 refine jx_blkE ?_
 refine jx_seqN ?_
 refine jc_seq ?_
 refine jc_label ?_
 refine jx_seqN ?_
 refine jc_seq ?_
 refine jc_block ?_
 refine jc_bind (fun y=>match y with | Sum.inl (x188,x189)=>⟨[V 4 (pt 0 1),V 5 (pt 2 1)],[W 0 1 [.osl 1 0 (List.length x188) 2],(1,.rows 2 (List.map c_S_api_Deduced x188)),W 2 1 [iv x189]],3⟩ | Sum.inr (x190,x191)=>⟨[V 4 (pt 0 1),V 5 (pt 1 1),V 6 (pt 2 1)],[W 0 1 [nilS],W 1 1 [iv 0],W 2 1 [pt 3 4098],(3,.rows 4098 [List.map aI8 x190 ++ [.osl 4 0 (List.length x191) 2]]),(4,.rows 2 (List.map c_S_api_Deduced x191))],5⟩) (fun y=>match y with | Sum.inl (x188,x189)=>.ret | Sum.inr (x190,x191)=>(.exit 3)) (jc_loop (fun (x157,x158)=>⟨[V 0 (.fsl 1 (List.map c_L3 a0)),V 4 (pt 0 1),V 5 (pt 1 1),V 6 (pt 2 1)],[W 0 1 [nilS],W 1 1 [iv 0],W 2 1 [pt 3 4098],(3,.rows 4098 [List.map aI8 x157 ++ [.osl 4 0 (List.length x158) 2]]),(4,.rows 2 (List.map c_S_api_Deduced x158))],5⟩) (wkR [(0,some 0),(1,some 1),(2,some 2),(3,some 3),(4,some 4)] (fix_of hF (k:=0) rfl) (pc (hC 0) (pc (hC 1) (pc (hC 2) (pc (hA 3) (pc (hL 4 (noid_map ni_S_api_Deduced _)) allp_nil)))))) ?_) ?_
 ·rintro⟨x157,x158⟩
  unfold prop_Run_l3
  refine jc_block ?_
  refine jS ⟨[V 0 (.fsl 1 (List.map c_L3 a0)),V 4 (pt 0 1),V 5 (pt 1 1),V 6 (pt 2 1),V 9 (pt 5 1),V 10 (pt 6 1)],[W 0 1 [nilS],W 1 1 [iv 0],W 2 1 [pt 3 4098],(3,.rows 4098 [List.map aI8 x157 ++ [.osl 4 0 (List.length x158) 2]]),(4,.rows 2 (List.map c_S_api_Deduced x158)),W 5 1 [iv (-1)],W 6 1 [iv 0]],7⟩ ?_
  refine jc_seq ?_
  refine jR ?_
  refine jG 0 2 ⟨[V 0 (.fsl 1 (List.map c_L3 a0)),V 4 (pt 0 1),V 5 (pt 1 1),V 6 (pt 2 1),V 9 (pt 5 1),V 10 (pt 6 1),V 39 (pt 3 4098),V 40 (.fsl 1 (List.map c_L3 a0))],[W 0 1 [nilS],W 1 1 [iv 0],W 2 1 [pt 3 4098],(3,.rows 4098 [List.map aI8 x157 ++ [.osl 4 0 (List.length x158) 2]]),(4,.rows 2 (List.map c_S_api_Deduced x158)),W 5 1 [iv (-1)],W 6 1 [iv 0]],7⟩ ?_
  refine jr_callM 2 [(0,some 3),(1,some 4)] [(3,some 0),(4,some 1),(7,some 2),(8,some 3)] (fun r:Unit=>[W 0 1 [nilS],W 1 1 [iv 0],W 2 1 [pt 3 4098],(3,.rows 4098 [List.map aI8 x157 ++ [.osl 4 0 (List.length x158) 2]]),(4,.rows 2 (List.map c_S_api_Deduced x158)),W 5 1 [iv (-1)],W 6 1 [iv 0],W 7 1 [.fsl 1 (List.map c_L3 a0)],W 8 1 [pt 3 4098]]) (fun r:Unit=>.fn 39 [pt 7 1,pt 8 1]) 9 (prop_sheet_counts_ok x157 x158 a0) (pc (hA 3) (pc (hL 4 (noid_map ni_S_api_Deduced _)) allp_nil)) (fun r=>(pc (.inl ⟨rfl,rfl⟩) (pc (.inl ⟨rfl,rfl⟩) (pc (.inl ⟨rfl,rfl⟩) (pc (.inr (hA 0)) (pc (.inr (hL 1 (noid_map ni_S_api_Deduced _))) (pc (.inl ⟨rfl,rfl⟩) (pc (.inl ⟨rfl,rfl⟩) (pc (.inr (hC 2)) (pc (.inr (hC 3)) allp_nil)))))))))) ?_
  rintro⟨⟩ hm50
  refine jN ?_
  refine jc_block ?_
  refine jc_keep [0,4,5,6,9,10,41] [0,1,2,3,4,5,6,7,8] (st1:=⟨[V 0 (.fsl 1 (List.map c_L3 a0)),V 4 (pt 0 1),V 5 (pt 1 1),V 6 (pt 2 1),V 9 (pt 5 1),V 10 (pt 6 1),V 41 (.fn 39 [pt 7 1,pt 8 1])],[W 0 1 [nilS],W 1 1 [iv 0],W 2 1 [pt 3 4098],(3,.rows 4098 [List.map aI8 x157 ++ [.osl 4 0 (List.length x158) 2]]),(4,.rows 2 (List.map c_S_api_Deduced x158)),W 5 1 [iv (-1)],W 6 1 [iv 0],W 7 1 [.fsl 1 (List.map c_L3 a0)],W 8 1 [pt 3 4098]],9⟩) (by kernel_rfl) ?_
  refine jc_rng (g:=39) (caps:=[pt 7 1,pt 8 1]) (by kernel_rfl) prop_sheet_counts_1_it_k (Nat.le_of_ble_eq_true rfl) ?_
  intro F41 hc41
  refine jR ?_
  refine jG 0 3 ⟨[V 0 (.yld 9),V 2 (pt 8 1),V 8 (.fsl 1 (List.map c_L3 a0)),V 9 (iv (List.length (List.map c_L3 a0):Int)),V 10 (iv 0)],[W 0 1 [nilS],W 1 1 [iv 0],W 2 1 [pt 3 4098],(3,.rows 4098 [List.map aI8 x157 ++ [.osl 4 0 (List.length x158) 2]]),(4,.rows 2 (List.map c_S_api_Deduced x158)),W 5 1 [iv (-1)],W 6 1 [iv 0],W 7 1 [.fsl 1 (List.map c_L3 a0)],W 8 1 [pt 3 4098],(9,prop_Run_lp41 a0 .ready none)],10⟩ ?_
  simp only[List.length_map]
  refine jN ?_
  refine jc_block ?_
  refine jc_bind (fun y=>match y with | Sum.inl (x212,x213,x214)=>⟨[],[W 0 1 [.osl 4 0 (List.length x158) 2],W 1 1 [iv x212],W 2 1 [pt 3 4098],(3,.rows 4098 [List.map aI8 x157 ++ [.osl 4 0 (List.length x158) 2]]),(4,.rows 2 (List.map c_S_api_Deduced x158)),W 5 1 [iv x213],W 6 1 [iv x214],W 7 1 [.fsl 1 (List.map c_L3 a0)],W 8 1 [pt 3 4098],(9,prop_Run_lp41 a0 .done (some .ret))],10⟩ | Sum.inr (x215,x216)=>⟨[],[W 0 1 [nilS],W 1 1 [iv 0],W 2 1 [pt 3 4098],(3,.rows 4098 [List.map aI8 x157 ++ [.osl 4 0 (List.length x158) 2]]),(4,.rows 2 (List.map c_S_api_Deduced x158)),W 5 1 [iv x215],W 6 1 [iv x216],W 7 1 [.fsl 1 (List.map c_L3 a0)],W 8 1 [pt 3 4098],(9,prop_Run_lp41 a0 .ready none)],10⟩) (fun y=>match y with | Sum.inl (x212,x213,x214)=>.ret | Sum.inr (x215,x216)=>(.exit 0)) (jc_loop (fun (x198,x199,x200)=>⟨[V 0 (.yld 9),V 2 (pt 8 1),V 8 (.fsl 1 (List.map c_L3 a0)),V 9 (iv (List.length a0:Int)),V 10 (iv x198)],[W 0 1 [nilS],W 1 1 [iv 0],W 2 1 [pt 3 4098],(3,.rows 4098 [List.map aI8 x157 ++ [.osl 4 0 (List.length x158) 2]]),(4,.rows 2 (List.map c_S_api_Deduced x158)),W 5 1 [iv x199],W 6 1 [iv x200],W 7 1 [.fsl 1 (List.map c_L3 a0)],W 8 1 [pt 3 4098],(9,prop_Run_lp41 a0 .ready none)],10⟩) (wkR [(0,some 0),(1,some 1),(2,some 2),(3,some 3),(4,some 4),(5,some 5),(6,some 6),(7,some 7),(8,some 8),(9,some 9)] (fix_of hc41.2.2 (k:=10) rfl) (pc (hC 0) (pc (hC 1) (pc (hC 2) (pc (hA 3) (pc (hL 4 (noid_map ni_S_api_Deduced _)) (pc (hC 5) (pc (hC 6) (pc (hC 7) (pc (hC 8) (pc (.inr (.inr ⟨9,_,_,rfl,rfl,rfl,by kernel_rfl⟩)) allp_nil))))))))))) ?_) ?_
  ·rintro⟨x198,x199,x200⟩
   unfold prop_Run_l2
   refine jS ⟨[V 0 (.yld 9),V 2 (pt 8 1),V 8 (.fsl 1 (List.map c_L3 a0)),V 9 (iv (List.length a0:Int)),V 10 (iv x198),V 11 (bv (decide (x198 < (List.length a0:Int))))],[W 0 1 [nilS],W 1 1 [iv 0],W 2 1 [pt 3 4098],(3,.rows 4098 [List.map aI8 x157 ++ [.osl 4 0 (List.length x158) 2]]),(4,.rows 2 (List.map c_S_api_Deduced x158)),W 5 1 [iv x199],W 6 1 [iv x200],W 7 1 [.fsl 1 (List.map c_L3 a0)],W 8 1 [pt 3 4098],(9,prop_Run_lp41 a0 .ready none)],10⟩ ?_
   refine jc_seq ?_
   refine jIf ?_ ?_
   ·refine jc_skip ?_
    refine jx_seqN ?_
    refine jc_seq ?_
    refine jc_block ?_
    refine jR ?_
    refine jG 0 1 ⟨[V 0 (.yld 9),V 2 (pt 8 1),V 8 (.fsl 1 (List.map c_L3 a0)),V 9 (iv (List.length a0:Int)),V 10 (iv x198),V 12 (iv x198)],[W 0 1 [nilS],W 1 1 [iv 0],W 2 1 [pt 3 4098],(3,.rows 4098 [List.map aI8 x157 ++ [.osl 4 0 (List.length x158) 2]]),(4,.rows 2 (List.map c_S_api_Deduced x158)),W 5 1 [iv x199],W 6 1 [iv x200],W 7 1 [.fsl 1 (List.map c_L3 a0)],W 8 1 [pt 3 4098],(9,prop_Run_lp41 a0 .ready none)],10⟩ ?_
    refine jr_part (i:=1) (mo:=ixl a0 x198) rfl rfl rfl rfl (fun _ hc=>aop_ixf (c:=c_L3) (sz:=1) (e:=23) (kk:=.i64) (by kernel_rfl) (by kernel_rfl) (by kernel_rfl) (by kernel_rfl) hc) (fun _=>rfl) ?_
    intro x217 h217
    refine jG 2 3 ⟨[V 0 (.yld 9),V 2 (pt 8 1),V 4 (iv x198),V 5 (.fsl 1 (List.map cI x217)),V 8 (.fsl 1 (List.map c_L3 a0)),V 9 (iv (List.length a0:Int)),V 10 (iv x198)],[W 0 1 [nilS],W 1 1 [iv 0],W 2 1 [pt 3 4098],(3,.rows 4098 [List.map aI8 x157 ++ [.osl 4 0 (List.length x158) 2]]),(4,.rows 2 (List.map c_S_api_Deduced x158)),W 5 1 [iv x199],W 6 1 [iv x200],W 7 1 [.fsl 1 (List.map c_L3 a0)],W 8 1 [pt 3 4098],(9,prop_Run_lp41 a0 .ready none)],10⟩ ?_
    refine jN ?_
    refine jR ?_
    refine jG 0 2 ⟨[V 0 (.yld 9),V 2 (pt 8 1),V 4 (iv x198),V 8 (.fsl 1 (List.map c_L3 a0)),V 9 (iv (List.length a0:Int)),V 10 (iv x198),V 16 (pt 3 4098),V 17 (.fsl 1 (List.map cI x217))],[W 0 1 [nilS],W 1 1 [iv 0],W 2 1 [pt 3 4098],(3,.rows 4098 [List.map aI8 x157 ++ [.osl 4 0 (List.length x158) 2]]),(4,.rows 2 (List.map c_S_api_Deduced x158)),W 5 1 [iv x199],W 6 1 [iv x200],W 7 1 [.fsl 1 (List.map c_L3 a0)],W 8 1 [pt 3 4098],(9,prop_Run_lp41 a0 .ready none)],10⟩ ?_
    refine jr_callM 2 [(0,some 3),(1,some 4)] [(3,some 0),(4,some 1)] (fun r:Bool × Int=>[W 0 1 [nilS],W 1 1 [iv 0],W 2 1 [pt 3 4098],(3,.rows 4098 [List.map aI8 x157 ++ [.osl 4 0 (List.length x158) 2]]),(4,.rows 2 (List.map c_S_api_Deduced x158)),W 5 1 [iv x199],W 6 1 [iv x200],W 7 1 [.fsl 1 (List.map c_L3 a0)],W 8 1 [pt 3 4098],(9,prop_Run_lp41 a0 .ready none)]) (fun r:Bool × Int=>.tup [bv r.1,iv r.2]) 10 (prop_sheet_look_ok x157 x158 x217) (pc (hA 3) (pc (hL 4 (noid_map ni_S_api_Deduced _)) allp_nil)) (fun r=>(pc (.inl ⟨rfl,rfl⟩) (pc (.inl ⟨rfl,rfl⟩) (pc (.inl ⟨rfl,rfl⟩) (pc (.inr (hA 0)) (pc (.inr (hL 1 (noid_map ni_S_api_Deduced _))) (pc (.inl ⟨rfl,rfl⟩) (pc (.inl ⟨rfl,rfl⟩) (pc (.inl ⟨rfl,rfl⟩) (pc (.inl ⟨rfl,rfl⟩) (pc (.inl ⟨rfl,rfl⟩) allp_nil))))))))))) ?_
    rintro⟨x218,x219⟩ hm48
    refine jG 3 5 ⟨[V 0 (.yld 9),V 2 (pt 8 1),V 4 (iv x198),V 6 (bv x218),V 7 (iv x219),V 8 (.fsl 1 (List.map c_L3 a0)),V 9 (iv (List.length a0:Int)),V 10 (iv x198)],[W 0 1 [nilS],W 1 1 [iv 0],W 2 1 [pt 3 4098],(3,.rows 4098 [List.map aI8 x157 ++ [.osl 4 0 (List.length x158) 2]]),(4,.rows 2 (List.map c_S_api_Deduced x158)),W 5 1 [iv x199],W 6 1 [iv x200],W 7 1 [.fsl 1 (List.map c_L3 a0)],W 8 1 [pt 3 4098],(9,prop_Run_lp41 a0 .ready none)],10⟩ ?_
    refine jN ?_
    refine jR ?_
    refine jG 0 6 ⟨[V 0 (.yld 9),V 2 (pt 8 1),V 4 (iv x198),V 7 (iv x219),V 8 (.fsl 1 (List.map c_L3 a0)),V 9 (iv (List.length a0:Int)),V 10 (iv x198),V 26 (bv (x218 || (x219 != 0)))],[W 0 1 [nilS],W 1 1 [iv 0],W 2 1 [pt 3 4098],(3,.rows 4098 [List.map aI8 x157 ++ [.osl 4 0 (List.length x158) 2]]),(4,.rows 2 (List.map c_S_api_Deduced x158)),W 5 1 [iv x199],W 6 1 [iv x200],W 7 1 [.fsl 1 (List.map c_L3 a0)],W 8 1 [pt 3 4098],(9,prop_Run_lp41 a0 .ready none)],10⟩ ?_
    refine jr_bind 6 6 (fun y=>match y with | Sum.inl _=>⟨[V 0 (.yld 9),V 2 (pt 8 1),V 8 (.fsl 1 (List.map c_L3 a0)),V 9 (iv (List.length a0:Int)),V 10 (iv x198),V 32 (bv true)],[W 0 1 [.osl 4 0 (List.length x158) 2],W 1 1 [iv x198],W 2 1 [pt 3 4098],(3,.rows 4098 [List.map aI8 x157 ++ [.osl 4 0 (List.length x158) 2]]),(4,.rows 2 (List.map c_S_api_Deduced x158)),W 5 1 [iv x199],W 6 1 [iv x200],W 7 1 [.fsl 1 (List.map c_L3 a0)],W 8 1 [pt 3 4098],(9,prop_Run_lp41 a0 .done (some .ret))],10⟩ | Sum.inr (x223,x224)=>⟨[V 0 (.yld 9),V 2 (pt 8 1),V 8 (.fsl 1 (List.map c_L3 a0)),V 9 (iv (List.length a0:Int)),V 10 (iv x198),V 32 (bv false)],[W 0 1 [nilS],W 1 1 [iv 0],W 2 1 [pt 3 4098],(3,.rows 4098 [List.map aI8 x157 ++ [.osl 4 0 (List.length x158) 2]]),(4,.rows 2 (List.map c_S_api_Deduced x158)),W 5 1 [iv x223],W 6 1 [iv x224],W 7 1 [.fsl 1 (List.map c_L3 a0)],W 8 1 [pt 3 4098],(9,prop_Run_lp41 a0 .ready none)],10⟩) ?_ ?_
    ·refine jSp 26 ?_ ?_
     ·refine jG 0 3 ⟨[V 0 (.yld 9),V 2 (pt 8 1),V 8 (.fsl 1 (List.map c_L3 a0)),V 9 (iv (List.length a0:Int)),V 10 (iv x198),(26,.lit true),V 27 (.yld 9),V 28 (iv x198),V 29 (iv x219)],[W 0 1 [nilS],W 1 1 [iv 0],W 2 1 [pt 3 4098],(3,.rows 4098 [List.map aI8 x157 ++ [.osl 4 0 (List.length x158) 2]]),(4,.rows 2 (List.map c_S_api_Deduced x158)),W 5 1 [iv x199],W 6 1 [iv x200],W 7 1 [.fsl 1 (List.map c_L3 a0)],W 8 1 [pt 3 4098],(9,prop_Run_lp41 a0 .ready none)],10⟩ ?_
      refine jr_yield (i:=3) (l:=9) (Nc:=65) (Kc:=[V 0 (.fsl 1 (List.map c_L3 a0)),V 4 (pt 0 1),V 5 (pt 1 1),V 6 (pt 2 1),V 9 (pt 5 1),V 10 (pt 6 1),V 41 (.fn 39 [pt 7 1,pt 8 1])]) (ps:=[42,43]) (vs:=[iv x198,iv x219]) (fun y=>match y with | Sum.inl _=>⟨[],[W 0 1 [.osl 4 0 (List.length x158) 2],W 1 1 [iv x198],W 2 1 [pt 3 4098],(3,.rows 4098 [List.map aI8 x157 ++ [.osl 4 0 (List.length x158) 2]]),(4,.rows 2 (List.map c_S_api_Deduced x158)),W 5 1 [iv x199],W 6 1 [iv x200],W 7 1 [.fsl 1 (List.map c_L3 a0)],W 8 1 [pt 3 4098],(9,prop_Run_lp41 a0 .busy none)],10⟩ | Sum.inr (x226,x227)=>⟨[],[W 0 1 [nilS],W 1 1 [iv 0],W 2 1 [pt 3 4098],(3,.rows 4098 [List.map aI8 x157 ++ [.osl 4 0 (List.length x158) 2]]),(4,.rows 2 (List.map c_S_api_Deduced x158)),W 5 1 [iv x226],W 6 1 [iv x227],W 7 1 [.fsl 1 (List.map c_L3 a0)],W 8 1 [pt 3 4098],(9,prop_Run_lp41 a0 .busy none)],10⟩) (fun y=>match y with | Sum.inl _=>.ret | Sum.inr (x226,x227)=>.normal) [0,2,8,9,10,26,30] [0,1,2,3,4,5,6,7,8,9] (after:=(fun y=>match y with | Sum.inl _=>⟨[V 0 (.yld 9),V 2 (pt 8 1),V 8 (.fsl 1 (List.map c_L3 a0)),V 9 (iv (List.length a0:Int)),V 10 (iv x198),(26,.lit true),V 30 (bv false)],[W 0 1 [.osl 4 0 (List.length x158) 2],W 1 1 [iv x198],W 2 1 [pt 3 4098],(3,.rows 4098 [List.map aI8 x157 ++ [.osl 4 0 (List.length x158) 2]]),(4,.rows 2 (List.map c_S_api_Deduced x158)),W 5 1 [iv x199],W 6 1 [iv x200],W 7 1 [.fsl 1 (List.map c_L3 a0)],W 8 1 [pt 3 4098],(9,prop_Run_lp41 a0 .done (some .ret))],10⟩ | Sum.inr (x226,x227)=>⟨[V 0 (.yld 9),V 2 (pt 8 1),V 8 (.fsl 1 (List.map c_L3 a0)),V 9 (iv (List.length a0:Int)),V 10 (iv x198),(26,.lit true),V 30 (bv true)],[W 0 1 [nilS],W 1 1 [iv 0],W 2 1 [pt 3 4098],(3,.rows 4098 [List.map aI8 x157 ++ [.osl 4 0 (List.length x158) 2]]),(4,.rows 2 (List.map c_S_api_Deduced x158)),W 5 1 [iv x226],W 6 1 [iv x227],W 7 1 [.fsl 1 (List.map c_L3 a0)],W 8 1 [pt 3 4098],(9,prop_Run_lp41 a0 .ready none)],10⟩)) rfl rfl prop_Run_y21_aw prop_Run_y21_bw (by kernel_rfl) (by kernel_rfl) (yctx_of hc41 rfl) rfl (by kernel_rfl) rfl ?_ (by rintro (_ | ⟨x226,x227⟩) <;> exact⟨none,by kernel_rfl⟩) (by rintro (_ | ⟨x226,x227⟩) <;> kernel_rfl) ?_
      ·intro F47 hy47
       refine jS ⟨[V 4 (pt 0 1),V 5 (pt 1 1),V 6 (pt 2 1),V 9 (pt 5 1),V 10 (pt 6 1),V 11 (iv x198),V 43 (iv x219)],[W 0 1 [nilS],W 1 1 [iv 0],W 2 1 [pt 3 4098],(3,.rows 4098 [List.map aI8 x157 ++ [.osl 4 0 (List.length x158) 2]]),(4,.rows 2 (List.map c_S_api_Deduced x158)),W 5 1 [iv x199],W 6 1 [iv x200],W 7 1 [.fsl 1 (List.map c_L3 a0)],W 8 1 [pt 3 4098],(9,prop_Run_lp41 a0 .ready none)],10⟩ ?_
       refine jT ⟨[V 4 (pt 0 1),V 5 (pt 1 1),V 6 (pt 2 1),V 9 (pt 5 1),V 10 (pt 6 1),V 11 (iv x198),V 12 (iv x219)],[W 0 1 [nilS],W 1 1 [iv 0],W 2 1 [pt 3 4098],(3,.rows 4098 [List.map aI8 x157 ++ [.osl 4 0 (List.length x158) 2]]),(4,.rows 2 (List.map c_S_api_Deduced x158)),W 5 1 [iv x199],W 6 1 [iv x200],W 7 1 [.fsl 1 (List.map c_L3 a0)],W 8 1 [pt 3 4098],(9,prop_Run_lp41 a0 .ready none)],10⟩ ?_
       refine jx_asg hy47 rfl ?_
       refine jc_block ?_
       refine jc_seq ?_
       refine jS ⟨[V 4 (pt 0 1),V 5 (pt 1 1),V 6 (pt 2 1),V 9 (pt 5 1),V 10 (pt 6 1),V 11 (iv x198),V 12 (iv x219),V 45 (bv (x219 == 0))],[W 0 1 [nilS],W 1 1 [iv 0],W 2 1 [pt 3 4098],(3,.rows 4098 [List.map aI8 x157 ++ [.osl 4 0 (List.length x158) 2]]),(4,.rows 2 (List.map c_S_api_Deduced x158)),W 5 1 [iv x199],W 6 1 [iv x200],W 7 1 [.fsl 1 (List.map c_L3 a0)],W 8 1 [pt 3 4098],(9,prop_Run_lp41 a0 .busy none)],10⟩ ?_
       refine jIf ?_ ?_
       ·refine jR ?_
        refine jG 0 3 ⟨[V 4 (pt 0 1),V 5 (pt 1 1),V 11 (iv x198),V 48 (.ptr 3 0 4098 4097)],[W 0 1 [nilS],W 1 1 [iv 0],W 2 1 [pt 3 4098],(3,.rows 4098 [List.map aI8 x157 ++ [.osl 4 0 (List.length x158) 2]]),(4,.rows 2 (List.map c_S_api_Deduced x158)),W 5 1 [iv x199],W 6 1 [iv x200],W 7 1 [.fsl 1 (List.map c_L3 a0)],W 8 1 [pt 3 4098],(9,prop_Run_lp41 a0 .busy none)],10⟩ ?_
        refine jr_guard ?_
        intro x228 h228
        refine jr_one (i:=3) (v:=.osl 4 0 (List.length x158) 2) (us:=[]) rfl rfl rfl rfl (aop_ldr (l:=x157) (c:=aI8) (rest:=[.osl 4 0 (List.length x158) 2]) (id:=3) (sz:=4098) (m:=4097) (q:=0) (by kernel_rfl) (by kernel_rfl) (by kernel_rfl) (by kernel_rfl) (lenA_iff h228) (by kernel_rfl)) rfl ?_
        refine jG 4 3 ⟨[],[W 0 1 [.osl 4 0 (List.length x158) 2],W 1 1 [iv x198],W 2 1 [pt 3 4098],(3,.rows 4098 [List.map aI8 x157 ++ [.osl 4 0 (List.length x158) 2]]),(4,.rows 2 (List.map c_S_api_Deduced x158)),W 5 1 [iv x199],W 6 1 [iv x200],W 7 1 [.fsl 1 (List.map c_L3 a0)],W 8 1 [pt 3 4098],(9,prop_Run_lp41 a0 .busy none)],10⟩ ?_
        refine jN ?_
        refine jc_ret ?_
        refine jx_seqR ?_
        refine jx_blkR ?_
        exact jx_mid rfl (wkR [(0,some 0),(1,some 1),(2,some 2),(3,some 3),(4,some 4),(5,some 5),(6,some 6),(7,some 7),(8,some 8),(9,some 9)] (fix_of hy47.2 (k:=10) rfl) (pc (hC 0) (pc (hC 1) (pc (hC 2) (pc (hA 3) (pc (hL 4 (noid_map ni_S_api_Deduced _)) (pc (hC 5) (pc (hC 6) (pc (hC 7) (pc (hC 8) (pc (.inr (.inr ⟨9,_,_,rfl,rfl,rfl,by kernel_rfl⟩)) allp_nil)))))))))))
       refine jc_skip ?_
       refine jx_seqN ?_
       refine jS ⟨[V 9 (pt 5 1),V 10 (pt 6 1),V 11 (iv x198),V 12 (iv x219),V 52 (bv (decide (x199 < 0)))],[W 0 1 [nilS],W 1 1 [iv 0],W 2 1 [pt 3 4098],(3,.rows 4098 [List.map aI8 x157 ++ [.osl 4 0 (List.length x158) 2]]),(4,.rows 2 (List.map c_S_api_Deduced x158)),W 5 1 [iv x199],W 6 1 [iv x200],W 7 1 [.fsl 1 (List.map c_L3 a0)],W 8 1 [pt 3 4098],(9,prop_Run_lp41 a0 .busy none)],10⟩ ?_
       refine jIf ?_ ?_
       ·refine jT ⟨[],[W 0 1 [nilS],W 1 1 [iv 0],W 2 1 [pt 3 4098],(3,.rows 4098 [List.map aI8 x157 ++ [.osl 4 0 (List.length x158) 2]]),(4,.rows 2 (List.map c_S_api_Deduced x158)),W 5 1 [iv x198],W 6 1 [iv x219],W 7 1 [.fsl 1 (List.map c_L3 a0)],W 8 1 [pt 3 4098],(9,prop_Run_lp41 a0 .busy none)],10⟩ ?_
        refine jx_blkN ?_
        exact jx_mid rfl (wkR [(0,some 0),(1,some 1),(2,some 2),(3,some 3),(4,some 4),(5,some 5),(6,some 6),(7,some 7),(8,some 8),(9,some 9)] (fix_of hy47.2 (k:=10) rfl) (pc (hC 0) (pc (hC 1) (pc (hC 2) (pc (hA 3) (pc (hL 4 (noid_map ni_S_api_Deduced _)) (pc (hC 5) (pc (hC 6) (pc (hC 7) (pc (hC 8) (pc (.inr (.inr ⟨9,_,_,rfl,rfl,rfl,by kernel_rfl⟩)) allp_nil)))))))))))
       refine jc_skip ?_
       refine jx_blkN ?_
       exact jx_mid rfl (wkR [(0,some 0),(1,some 1),(2,some 2),(3,some 3),(4,some 4),(5,some 5),(6,some 6),(7,some 7),(8,some 8),(9,some 9)] (fix_of hy47.2 (k:=10) rfl) (pc (hC 0) (pc (hC 1) (pc (hC 2) (pc (hA 3) (pc (hL 4 (noid_map ni_S_api_Deduced _)) (pc (hC 5) (pc (hC 6) (pc (hC 7) (pc (hC 8) (pc (.inr (.inr ⟨9,_,_,rfl,rfl,rfl,by kernel_rfl⟩)) allp_nil)))))))))))
      rintro (_ | ⟨x226,x227⟩)
      ·refine jG 4 2 ⟨[V 0 (.yld 9),V 2 (pt 8 1),V 8 (.fsl 1 (List.map c_L3 a0)),V 9 (iv (List.length a0:Int)),V 10 (iv x198),V 32 (bv true)],[W 0 1 [.osl 4 0 (List.length x158) 2],W 1 1 [iv x198],W 2 1 [pt 3 4098],(3,.rows 4098 [List.map aI8 x157 ++ [.osl 4 0 (List.length x158) 2]]),(4,.rows 2 (List.map c_S_api_Deduced x158)),W 5 1 [iv x199],W 6 1 [iv x200],W 7 1 [.fsl 1 (List.map c_L3 a0)],W 8 1 [pt 3 4098],(9,prop_Run_lp41 a0 .done (some .ret))],10⟩ ?_
       refine jr_nil rfl ?_
       exact jx_mid rfl (wkR [(0,some 0),(1,some 1),(2,some 2),(3,some 3),(4,some 4),(5,some 5),(6,some 6),(7,some 7),(8,some 8),(9,some 9)] (fix_of hc41.2.2 (k:=10) rfl) (pc (hC 0) (pc (hC 1) (pc (hC 2) (pc (hA 3) (pc (hL 4 (noid_map ni_S_api_Deduced _)) (pc (hC 5) (pc (hC 6) (pc (hC 7) (pc (hC 8) (pc (.inr (.inr ⟨9,_,_,rfl,rfl,rfl,by kernel_rfl⟩)) allp_nil)))))))))))
      refine jG 4 2 ⟨[V 0 (.yld 9),V 2 (pt 8 1),V 8 (.fsl 1 (List.map c_L3 a0)),V 9 (iv (List.length a0:Int)),V 10 (iv x198),V 32 (bv false)],[W 0 1 [nilS],W 1 1 [iv 0],W 2 1 [pt 3 4098],(3,.rows 4098 [List.map aI8 x157 ++ [.osl 4 0 (List.length x158) 2]]),(4,.rows 2 (List.map c_S_api_Deduced x158)),W 5 1 [iv x226],W 6 1 [iv x227],W 7 1 [.fsl 1 (List.map c_L3 a0)],W 8 1 [pt 3 4098],(9,prop_Run_lp41 a0 .ready none)],10⟩ ?_
      refine jr_nil rfl ?_
      exact jx_mid rfl (wkR [(0,some 0),(1,some 1),(2,some 2),(3,some 3),(4,some 4),(5,some 5),(6,some 6),(7,some 7),(8,some 8),(9,some 9)] (fix_of hc41.2.2 (k:=10) rfl) (pc (hC 0) (pc (hC 1) (pc (hC 2) (pc (hA 3) (pc (hL 4 (noid_map ni_S_api_Deduced _)) (pc (hC 5) (pc (hC 6) (pc (hC 7) (pc (hC 8) (pc (.inr (.inr ⟨9,_,_,rfl,rfl,rfl,by kernel_rfl⟩)) allp_nil)))))))))))
     refine jG 0 6 ⟨[V 0 (.yld 9),V 2 (pt 8 1),V 8 (.fsl 1 (List.map c_L3 a0)),V 9 (iv (List.length a0:Int)),V 10 (iv x198),V 32 (bv false)],[W 0 1 [nilS],W 1 1 [iv 0],W 2 1 [pt 3 4098],(3,.rows 4098 [List.map aI8 x157 ++ [.osl 4 0 (List.length x158) 2]]),(4,.rows 2 (List.map c_S_api_Deduced x158)),W 5 1 [iv x199],W 6 1 [iv x200],W 7 1 [.fsl 1 (List.map c_L3 a0)],W 8 1 [pt 3 4098],(9,prop_Run_lp41 a0 .ready none)],10⟩ ?_
     refine jr_nil rfl ?_
     exact jx_mid rfl (wkR [(0,some 0),(1,some 1),(2,some 2),(3,some 3),(4,some 4),(5,some 5),(6,some 6),(7,some 7),(8,some 8),(9,some 9)] (fix_of hc41.2.2 (k:=10) rfl) (pc (hC 0) (pc (hC 1) (pc (hC 2) (pc (hA 3) (pc (hL 4 (noid_map ni_S_api_Deduced _)) (pc (hC 5) (pc (hC 6) (pc (hC 7) (pc (hC 8) (pc (.inr (.inr ⟨9,_,_,rfl,rfl,rfl,by kernel_rfl⟩)) allp_nil)))))))))))
    rintro (_ | ⟨x223,x224⟩)
    ·refine jN ?_
     refine jc_condK (c:=true) (by kernel_rfl) ?_
     refine jc_ret ?_
     refine jx_blkR ?_
     refine jx_seqR ?_
     exact jx_done rfl nofun (wkR [(0,some 0),(1,some 1),(2,some 2),(3,some 3),(4,some 4),(5,some 5),(6,some 6),(7,some 7),(8,some 8),(9,some 9)] (fix_of hc41.2.2 (k:=10) rfl) (pc (hC 0) (pc (hC 1) (pc (hC 2) (pc (hA 3) (pc (hL 4 (noid_map ni_S_api_Deduced _)) (pc (hC 5) (pc (hC 6) (pc (hC 7) (pc (hC 8) (pc (.inr (.inr ⟨9,_,_,rfl,rfl,rfl,by kernel_rfl⟩)) allp_nil)))))))))))
    refine jN ?_
    refine jc_condK (c:=false) (by kernel_rfl) ?_
    refine jc_skip ?_
    refine jx_blkN ?_
    refine jx_seqN ?_
    refine jT ⟨[V 0 (.yld 9),V 2 (pt 8 1),V 8 (.fsl 1 (List.map c_L3 a0)),V 9 (iv (List.length a0:Int)),V 10 (iv (w64 (x198 + 1)))],[W 0 1 [nilS],W 1 1 [iv 0],W 2 1 [pt 3 4098],(3,.rows 4098 [List.map aI8 x157 ++ [.osl 4 0 (List.length x158) 2]]),(4,.rows 2 (List.map c_S_api_Deduced x158)),W 5 1 [iv x223],W 6 1 [iv x224],W 7 1 [.fsl 1 (List.map c_L3 a0)],W 8 1 [pt 3 4098],(9,prop_Run_lp41 a0 .ready none)],10⟩ ?_
    exact jx_next (wkR [(0,some 0),(1,some 1),(2,some 2),(3,some 3),(4,some 4),(5,some 5),(6,some 6),(7,some 7),(8,some 8),(9,some 9)] (fix_of hc41.2.2 (k:=10) rfl) (pc (hC 0) (pc (hC 1) (pc (hC 2) (pc (hA 3) (pc (hL 4 (noid_map ni_S_api_Deduced _)) (pc (hC 5) (pc (hC 6) (pc (hC 7) (pc (hC 8) (pc (.inr (.inr ⟨9,_,_,rfl,rfl,rfl,by kernel_rfl⟩)) allp_nil)))))))))))
   refine jc_exit ?_
   refine jx_seqE ?_
   exact jx_done rfl nofun (wkR [(0,some 0),(1,some 1),(2,some 2),(3,some 3),(4,some 4),(5,some 5),(6,some 6),(7,some 7),(8,some 8),(9,some 9)] (fix_of hc41.2.2 (k:=10) rfl) (pc (hC 0) (pc (hC 1) (pc (hC 2) (pc (hA 3) (pc (hL 4 (noid_map ni_S_api_Deduced _)) (pc (hC 5) (pc (hC 6) (pc (hC 7) (pc (hC 8) (pc (.inr (.inr ⟨9,_,_,rfl,rfl,rfl,by kernel_rfl⟩)) allp_nil)))))))))))
  rintro (⟨x212,x213,x214⟩ | ⟨x215,x216⟩)
  ·refine jx_blkR ?_
   refine jx_rng hc41 (.inr rfl) rfl nofun rfl ?_
   refine jx_blkR ?_
   refine jx_seqR ?_
   refine jx_blkR ?_
   exact jx_done rfl nofun (wkR [(0,some 0),(1,some 4),(2,some 1)] (fix_of hF (k:=0) rfl) (pc (hC 0) (pc (hL 4 (noid_map ni_S_api_Deduced _)) (pc (hC 1) allp_nil))))
  refine jx_blkE ?_
  refine jx_rng hc41 (.inl rfl) rfl nofun rfl ?_
  refine jx_blkN ?_
  refine jx_seqN ?_
  refine jc_seq ?_
  refine jS ⟨[V 0 (.fsl 1 (List.map c_L3 a0)),V 4 (pt 0 1),V 5 (pt 1 1),V 6 (pt 2 1),V 9 (pt 5 1),V 10 (pt 6 1),V 56 (bv (decide (x215 < 0)))],[W 0 1 [nilS],W 1 1 [iv 0],W 2 1 [pt 3 4098],(3,.rows 4098 [List.map aI8 x157 ++ [.osl 4 0 (List.length x158) 2]]),(4,.rows 2 (List.map c_S_api_Deduced x158)),W 5 1 [iv x215],W 6 1 [iv x216]],10⟩ ?_
  refine jIf ?_ ?_
  ·refine jc_exit ?_
   refine jx_seqE ?_
   refine jx_blkX rfl ?_
   exact jx_done rfl nofun (wkR [(0,some 0),(1,some 1),(2,some 2),(3,some 3),(4,some 4)] (fix_of hF (k:=0) rfl) (pc (hC 0) (pc (hC 1) (pc (hC 2) (pc (hA 3) (pc (hL 4 (noid_map ni_S_api_Deduced _)) allp_nil))))))
  refine jc_skip ?_
  refine jx_seqN ?_
  refine jc_reg ?_
  refine jG 0 3 ⟨[V 0 (.fsl 1 (List.map c_L3 a0)),V 4 (pt 0 1),V 5 (pt 1 1),V 6 (pt 2 1),V 57 (pt 3 4098),V 58 (iv x216),V 59 (iv x215)],[W 0 1 [nilS],W 1 1 [iv 0],W 2 1 [pt 3 4098],(3,.rows 4098 [List.map aI8 x157 ++ [.osl 4 0 (List.length x158) 2]]),(4,.rows 2 (List.map c_S_api_Deduced x158))],10⟩ ?_
  refine jr_callM 3 [(0,some 3),(1,some 4)] [(3,some 0),(10,some 2)] (fun r:List Int × List S_api_Deduced=>[W 0 1 [nilS],W 1 1 [iv 0],W 2 1 [pt 3 4098],(3,.rows 4098 [List.map aI8 r.1 ++ [.osl 10 0 (List.length r.2) 2]]),(10,.rows 2 (List.map c_S_api_Deduced r.2))]) (fun r:List Int × List S_api_Deduced=>.tup []) 11 (prop_sheet_set_ok x157 x158 x216 x215) (pc (hA 3) (pc (hL 4 (noid_map ni_S_api_Deduced _)) allp_nil)) (fun r=>(pc (.inl ⟨rfl,rfl⟩) (pc (.inl ⟨rfl,rfl⟩) (pc (.inl ⟨rfl,rfl⟩) (pc (.inr (hA 0)) (pc (.inr (hL 2 (noid_map ni_S_api_Deduced _))) allp_nil)))))) ?_
  rintro⟨x229,x230⟩ hm49
  refine jr_nil rfl ?_
  refine jx_blkN ?_
  exact jx_next (wkR [(0,some 0),(1,some 1),(2,some 2),(3,some 3),(4,some 10)] (fix_of hF (k:=0) rfl) (pc (hC 0) (pc (hC 1) (pc (hC 2) (pc (hA 3) (pc (hL 10 (noid_map ni_S_api_Deduced _)) allp_nil))))))
 rintro (⟨x188,x189⟩ | ⟨x190,x191⟩)
 ·refine jx_blkR ?_
  refine jx_seqR ?_
  refine jx_scopeR ?_
  exact jx_retM (prop_Run_T a0 a1 (x188,x189)) (.inr rfl) (wkR [(0,some 0),(1,some 1),(2,some 2)] (fix_of hF (k:=0) rfl) (pc (hC 0) (pc (hL 1 (noid_map ni_S_api_Deduced _)) (pc (hC 2) allp_nil))))
 refine jx_blkE ?_
 refine jx_seqN ?_
 refine jR ?_
 refine jG 0 3 ⟨[V 4 (pt 0 1),V 5 (pt 1 1),V 63 (.ptr 3 0 4098 4097)],[W 0 1 [nilS],W 1 1 [iv 0],(3,.rows 4098 [List.map aI8 x190 ++ [.osl 4 0 (List.length x191) 2]]),(4,.rows 2 (List.map c_S_api_Deduced x191))],5⟩ ?_
 refine jr_guard ?_
 intro x231 h231
 refine jr_one (i:=3) (v:=.osl 4 0 (List.length x191) 2) (us:=[]) rfl rfl rfl rfl (aop_ldr (l:=x190) (c:=aI8) (rest:=[.osl 4 0 (List.length x191) 2]) (id:=3) (sz:=4098) (m:=4097) (q:=0) (by kernel_rfl) (by kernel_rfl) (by kernel_rfl) (by kernel_rfl) (lenA_iff h231) (by kernel_rfl)) rfl ?_
 refine jG 4 2 ⟨[V 4 (pt 0 1),V 5 (pt 1 1)],[W 0 1 [.osl 4 0 (List.length x191) 2],W 1 1 [iv (-1)],(4,.rows 2 (List.map c_S_api_Deduced x191))],5⟩ ?_
 refine jN ?_
 refine jc_ret ?_
 refine jx_scopeR ?_
 exact jx_retM (prop_Run_T a0 a1 (x191,(-1))) (.inr rfl) (wkR [(0,some 0),(1,some 4),(2,some 1)] (fix_of hF (k:=0) rfl) (pc (hC 0) (pc (hL 4 (noid_map ni_S_api_Deduced _)) (pc (hC 1) allp_nil)))))
noncomputable def ref26_Board_step_l1 (a0:List Bool) (a1:List S_api_Deduced) (a2:List (List Int)):(Int × Int × Int)→Option (Step (Int × Int × Int) ((Int) ⊕ (Int × Int))):=fun (x38,x39,x40)=>(if (decide (x40 < (List.length a2:Int)))=true then Option.bind (Option.bind (ixl a2 x40) (fun x63=>Option.bind (ref26_clean x63) (fun x64=>(if (!x64)=true then some (Sum.inl (x38,x39)) else Option.bind (ixl a2 x40) (fun x65=>Option.bind (ref26_Board_look a0 a1 x65) (fun (x66,x67,x68)=>(if ((!x68) && (x67 == 0))=true then some (Sum.inr ()) else (if (((!x68) && (x67 == 1)) && (decide (x38 < 0)))=true then some (Sum.inl (x40,x66)) else some (Sum.inl (x38,x39))))))))):Option ((Int × Int) ⊕ (Unit))) (fun y=>match y with | Sum.inl (x61,x62)=>some (Step.next (x61,x62,(w64 (x40 + 1)))) | Sum.inr _=>some (Step.done (Sum.inl x40))) else some (Step.done (Sum.inr (x38,x39))))
noncomputable def ref26_Board_step (a0:List Bool) (a1:List S_api_Deduced) (a2:List (List Int)):Option (Int × List Bool × List S_api_Deduced):=Option.bind (loopC (ref26_Board_step_l1 a0 a1 a2) ((-1),0,0)) (fun y=>match y with | Sum.inl x52=>some (x52,a0,a1) | Sum.inr (x53,x54)=>(if (decide (x53 < 0))=true then some ((-1),a0,a1) else Option.bind (ref26_Board_add a0 a1 x54 x53) (fun x69=>some ((-3),(List.set a0 (Int.toNat (w64 (x54 + 4096))) true),x69))))
noncomputable def ref26_Run_l1 (a1:List Int):(List Bool × List S_api_Deduced × Int)→Option (Step (List Bool × List S_api_Deduced × Int) ((List S_api_Deduced) ⊕ (List Bool × List S_api_Deduced))):=fun (x57,x58,x59)=>(if (decide (x59 < (List.length a1:Int)))=true then Option.bind (Option.bind (ixl a1 x59) (fun x84=>Option.bind (ref26_good x84) (fun x85=>Option.bind (if (!x85)=true then some true else Option.bind (ref26_Board_is x57 x58 x84) (fun x88=>some x88):Option (Bool)) (fun x87=>(if x87=true then some (Sum.inl (x57,x58)) else Option.bind (ref26_Board_is x57 x58 (w64 (0 - x84))) (fun x89=>(if x89=true then Option.bind (lenA 8193 x57) (fun x90=>some (Sum.inr ())) else Option.bind (ref26_Board_add x57 x58 x84 (-1)) (fun x91=>some (Sum.inl ((List.set x57 (Int.toNat (w64 (x84 + 4096))) true),x91))))))))):Option ((List Bool × List S_api_Deduced) ⊕ (Unit))) (fun y=>match y with | Sum.inl (x82,x83)=>some (Step.next (x82,x83,(w64 (x59 + 1)))) | Sum.inr _=>some (Step.done (Sum.inl x58))) else some (Step.done (Sum.inr (x57,x58))))
noncomputable def ref26_Run_l2 (a0:List (List Int)):(List Bool × List S_api_Deduced)→Option (Step (List Bool × List S_api_Deduced) (List S_api_Deduced × Int)):=fun (x96,x97)=>Option.bind (ref26_Board_step x96 x97 a0) (fun (x106,x107,x108)=>(if (x106 != (-3))=true then Option.bind (lenA 8193 x107) (fun x109=>some (Step.done (x108,x106))) else some (Step.next (x107,x108))))
noncomputable def ref26_Run (a0:List (List Int)) (a1:List Int):Option (List S_api_Deduced × Int):=Option.bind (loopC (ref26_Run_l1 a1) ((List.replicate 8193 false),[],0)) (fun y=>match y with | Sum.inl x72=>some (x72,(-2)) | Sum.inr (x73,x74)=>Option.bind (loopC (ref26_Run_l2 a0) (x73,x74)) (fun (x104,x105)=>some (x104,x105)))
abbrev law26_few_r1:List LO:=[lo 2 (.assign (.const (.slice none 0 0))) 22]
abbrev law26_few_r2:List LO:=[lm 3 0 22,lm 4 0 22,lo 5 (.call ⟨.builtin .len,#[.tmp 4],#[22]⟩) 3,lo 6 (.call ⟨.builtin .min,#[.tmp 5,.const (.int .i64 60)],#[3,3]⟩) 3,lo 7 (.slice 22 (.tmp 3) none (some (.tmp 6)) none) 22,lo 2 (.assign (.tmp 7)) 22]
abbrev law26_few_c:LC:=.seq (.reg false law26_few_r1) (.seq (.reg false law26_few_r2) .ret)
theorem law26_few_k:FnOk E 7 8 [.tmp 2] law26_few_c:=⟨⟨Go.Proofs.Try.f7,by kernel_rfl,by kernel_rfl,by kernel_rfl,by kernel_rfl,by kernel_rfl⟩,rfl,rfl⟩
noncomputable def law26_few (a0:(List (List Int))):Option ((List (List Int))):=Option.bind (subl a0 0 (if 60 < (List.length a0:Int) then 60 else (List.length a0:Int))) (fun x1=>some x1)
theorem law26_few_ok (a0:(List (List Int))):Ct E 7 [.fsl 1 (List.map c_L3 a0)] (law26_few a0) (fun r:(List (List Int))=>.fsl 1 (List.map c_L3 r)):=ct_intro (N:=8) (L:=law26_few_c) law26_few_k rfl (Nat.le_of_ble_eq_true rfl) (by kernel_rfl) (by
 unfold law26_few
 refine jS ⟨[V 0 (.fsl 1 (List.map c_L3 a0))],[],0⟩ ?_
 refine jR ?_
 refine jG 0 4 ⟨[V 3 (.fsl 1 (List.map c_L3 a0)),V 6 (iv (if 60 < (List.length (List.map c_L3 a0):Int) then 60 else (List.length (List.map c_L3 a0):Int)))],[],0⟩ ?_
 simp only[List.length_map]
 refine jr_part (i:=4) (mo:=subl a0 0 (if 60 < (List.length a0:Int) then 60 else (List.length a0:Int))) rfl rfl rfl rfl (fun _ hc=>aop_subf (c:=c_L3) (sz:=1) (e:=23) (by kernel_rfl) (by kernel_rfl) (by kernel_rfl) (by kernel_rfl) (by kernel_rfl) hc) (fun _=>rfl) ?_
 intro x1 h1
 refine jG 5 1 ⟨[V 2 (.fsl 1 (List.map c_L3 x1))],[],0⟩ ?_
 refine jN ?_
 refine jc_ret ?_
 exact jx_retF (.inr rfl) (v:=.fsl 1 (List.map c_L3 x1)) (by kernel_rfl) rfl (fle_refl _))
abbrev law26_PropSound_1_sb011_r1:List LO:=[lo 3 (.assign (.const (.bool false))) 4]
abbrev law26_PropSound_1_sb011_r2:List LO:=[lm 4 0 3,lo 5 (.binOp .gtr 3 (.tmp 4) (.const (.int .i64 0)) 3) 4,lm 6 5 4,lmg 7 0 3 6 true,lg 8 (.binOp .lss 3 (.tmp 7) (.const (.int .i64 31)) 3) 4 6 true,lo 9 (.pick (.tmp 6) (.tmp 8) (.const (.bool false))) 4,lm 10 9 4,lg 11 (.load 34 (.tmp 1)) 34 10 true,lmg 12 0 3 10 true,lg 13 (.binOp .shr 34 (.tmp 11) (.tmp 12) 3) 34 10 true,lg 14 (.binOp .and 34 (.tmp 13) (.const (.int .u32 1)) 34) 34 10 true,lg 15 (.binOp .eql 34 (.tmp 14) (.const (.int .u32 1)) 34) 4 10 true,lo 16 (.pick (.tmp 10) (.tmp 15) (.const (.bool false))) 4,lm 17 16 4,lmg 18 0 3 17 false,lg 19 (.binOp .lss 3 (.tmp 18) (.const (.int .i64 0)) 3) 4 17 false,lmg 20 19 4 17 false,lmg 21 0 3 20 true,lg 22 (.binOp .gtr 3 (.tmp 21) (.const (.int .i64 (-31))) 3) 4 20 true,lg 23 (.pick (.tmp 20) (.tmp 22) (.const (.bool false))) 4 17 false,lmg 24 23 4 17 false,lg 25 (.load 34 (.tmp 1)) 34 24 true,lmg 26 0 3 24 true,lg 27 (.unOp .neg 3 (.tmp 26)) 3 24 true,lg 28 (.binOp .shr 34 (.tmp 25) (.tmp 27) 3) 34 24 true,lg 29 (.binOp .and 34 (.tmp 28) (.const (.int .u32 1)) 34) 34 24 true,lg 30 (.binOp .eql 34 (.tmp 29) (.const (.int .u32 0)) 34) 4 24 true,lg 31 (.pick (.tmp 24) (.tmp 30) (.const (.bool false))) 4 17 false,lo 32 (.pick (.tmp 17) (.const (.bool true)) (.tmp 31)) 4,lo 3 (.assign (.tmp 32)) 4]
abbrev law26_PropSound_1_sb011_c:LC:=.seq (.reg false law26_PropSound_1_sb011_r1) (.seq (.reg false law26_PropSound_1_sb011_r2) .ret)
theorem law26_PropSound_1_sb011_k:FnOk E 17 33 [.tmp 3] law26_PropSound_1_sb011_c:=⟨⟨Go.Proofs.Try.f17,by kernel_rfl,by kernel_rfl,by kernel_rfl,by kernel_rfl,by kernel_rfl⟩,rfl,rfl⟩
noncomputable def law26_PropSound_1_sb011 (a0:Int) (a1:Int):Option (Bool):=Option.bind (if ((decide (a0 > 0)) && (decide (a0 < 31)))=true then Option.bind (shrI .u32 a1 a0) (fun x4=>Option.bind (andI .u32 x4 1) (fun x5=>some (x5 == 1))) else some false:Option (Bool)) (fun x3=>Option.bind (if x3=true then some true else Option.bind (if ((decide (a0 < 0)) && (decide (a0 > (-31))))=true then Option.bind (shrI .u32 a1 (w64 (0 - a0))) (fun x13=>Option.bind (andI .u32 x13 1) (fun x14=>some (x14 == 0))) else some false:Option (Bool)) (fun x12=>some (false || x12)):Option (Bool)) (fun x9=>some x9))
theorem law26_PropSound_1_sb011_ok (a0:Int) (a1:Int):Ct E 17 [iv a0,.fptr [.s (.int .u32 a1)] 0] (law26_PropSound_1_sb011 a0 a1) (fun r:Bool=>bv r):=ct_intro (N:=33) (L:=law26_PropSound_1_sb011_c) law26_PropSound_1_sb011_k rfl (Nat.le_of_ble_eq_true rfl) (by kernel_rfl) (by
 unfold law26_PropSound_1_sb011
 refine jS ⟨[V 0 (iv a0),V 1 (.fptr [.s (.int .u32 a1)] 0)],[],0⟩ ?_
 refine jR ?_
 refine jG 0 7 ⟨[V 0 (iv a0),V 1 (.fptr [.s (.int .u32 a1)] 0),V 10 (bv ((decide (a0 > 0)) && (decide (a0 < 31))))],[],0⟩ ?_
 refine jr_bind 7 6 (fun x3=>⟨[V 0 (iv a0),V 1 (.fptr [.s (.int .u32 a1)] 0),V 16 (bv x3)],[],0⟩) ?_ ?_
 ·refine jSp 10 ?_ ?_
  ·refine jG 0 2 ⟨[V 0 (iv a0),V 1 (.fptr [.s (.int .u32 a1)] 0),(10,.lit true),V 11 (.s (.int .u32 a1)),V 12 (iv a0)],[],0⟩ ?_
   refine jr_part (i:=2) (mo:=shrI .u32 a1 a0) rfl rfl rfl rfl (fun _ hc=>aop_shr (k:=.u32) (kb:=.i64) (by kernel_rfl) (by kernel_rfl) hc) (fun _=>rfl) ?_
   intro x4 h4
   refine jr_part (i:=3) (mo:=andI .u32 x4 1) rfl rfl rfl rfl (fun _ hc=>aop_and (k:=.u32) (by kernel_rfl) (by kernel_rfl) hc) (fun _=>rfl) ?_
   intro x5 h5
   refine jG 4 2 ⟨[V 0 (iv a0),V 1 (.fptr [.s (.int .u32 a1)] 0),V 16 (bv (x5 == 1))],[],0⟩ ?_
   refine jr_nil rfl ?_
   exact jx_mid rfl (wkR [] (fix_nil _) allp_nil)
  refine jG 0 6 ⟨[V 0 (iv a0),V 1 (.fptr [.s (.int .u32 a1)] 0),V 16 (bv false)],[],0⟩ ?_
  refine jr_nil rfl ?_
  exact jx_mid rfl (wkR [] (fix_nil _) allp_nil)
 intro x3
 refine jG 13 1 ⟨[V 0 (iv a0),V 1 (.fptr [.s (.int .u32 a1)] 0),V 17 (bv x3)],[],0⟩ ?_
 refine jr_bind 14 15 (fun x9=>⟨[V 32 (bv x9)],[],0⟩) ?_ ?_
 ·refine jSp 17 ?_ ?_
  ·refine jG 0 15 ⟨[V 32 (bv true)],[],0⟩ ?_
   refine jr_nil rfl ?_
   exact jx_mid rfl (wkR [] (fix_nil _) allp_nil)
  refine jG 0 7 ⟨[V 0 (iv a0),V 1 (.fptr [.s (.int .u32 a1)] 0),(17,.lit false),V 24 (bv ((decide (a0 < 0)) && (decide (a0 > (-31)))))],[],0⟩ ?_
  refine jr_bind 7 7 (fun x12=>⟨[V 17 (bv false),V 31 (bv x12)],[],0⟩) ?_ ?_
  ·refine jSp 24 ?_ ?_
   ·refine jG 0 3 ⟨[(17,.lit false),(24,.lit true),V 25 (.s (.int .u32 a1)),V 27 (iv (w64 (0 - a0)))],[],0⟩ ?_
    refine jr_part (i:=3) (mo:=shrI .u32 a1 (w64 (0 - a0))) rfl rfl rfl rfl (fun _ hc=>aop_shr (k:=.u32) (kb:=.i64) (by kernel_rfl) (by kernel_rfl) hc) (fun _=>rfl) ?_
    intro x13 h13
    refine jr_part (i:=4) (mo:=andI .u32 x13 1) rfl rfl rfl rfl (fun _ hc=>aop_and (k:=.u32) (by kernel_rfl) (by kernel_rfl) hc) (fun _=>rfl) ?_
    intro x14 h14
    refine jG 5 2 ⟨[(17,.lit false),V 31 (bv (x14 == 0))],[],0⟩ ?_
    refine jr_nil rfl ?_
    exact jx_mid rfl (wkR [] (fix_nil _) allp_nil)
   refine jG 0 7 ⟨[(17,.lit false),V 31 (bv false)],[],0⟩ ?_
   refine jr_nil rfl ?_
   exact jx_mid rfl (wkR [] (fix_nil _) allp_nil)
  intro x12
  refine jG 14 1 ⟨[V 32 (bv (false || x12))],[],0⟩ ?_
  refine jr_nil rfl ?_
  exact jx_mid rfl (wkR [] (fix_nil _) allp_nil)
 intro x9
 refine jG 29 1 ⟨[V 3 (bv x9)],[],0⟩ ?_
 refine jN ?_
 refine jc_ret ?_
 exact jx_retF (.inr rfl) (v:=bv x9) (by kernel_rfl) rfl (fle_refl _))
abbrev law26_PropSound_2_sb1f3_r1:List LO:=[lo 3 (.assign (.const (.bool false))) 4]
abbrev law26_PropSound_2_sb1f3_r2:List LO:=[lm 6 0 23,lo 7 (.call ⟨.builtin .len,#[.tmp 6],#[23]⟩) 3,lo 8 (.move (.const (.int .i64 0))) 3]
abbrev law26_PropSound_2_sb1f3_r3:List LO:=[lo 9 (.binOp .lss 3 (.tmp 8) (.tmp 7) 3) 0]
abbrev law26_PropSound_2_sb1f3_r4:List LO:=[lo 10 (.indexAddr 23 (.tmp 6) (.tmp 8)) 0,lo 11 (.load 3 (.tmp 10)) 3,lo 5 (.assign (.tmp 11)) 3]
abbrev law26_PropSound_2_sb1f3_r5:List LO:=[lo 12 (.load 35 (.tmp 1)) 35,lm 13 5 3,lo 14 (.call ⟨.value (.tmp 12),#[.tmp 13],#[3]⟩) 4]
abbrev law26_PropSound_2_sb1f3_r6:List LO:=[lo 3 (.assign (.const (.bool true))) 4]
abbrev law26_PropSound_2_sb1f3_r7:List LO:=[lo 15 (.binOp .add 3 (.tmp 8) (.const (.int .i64 1)) 3) 3,lm 8 15 3]
abbrev law26_PropSound_2_sb1f3_r8:List LO:=[lo 3 (.assign (.const (.bool false))) 4]
abbrev law26_PropSound_2_sb1f3_c:LC:=.seq (.reg false law26_PropSound_2_sb1f3_r1) (.seq (.seq (.reg false law26_PropSound_2_sb1f3_r2) (.block 0 (.loop (.seq (.reg false law26_PropSound_2_sb1f3_r3) (.seq (.cond (.tmp 9) .skip (.exit 0)) (.seq (.block 1 (.seq (.reg false law26_PropSound_2_sb1f3_r4) (.seq (.reg false law26_PropSound_2_sb1f3_r5) (.cond (.tmp 14) (.seq (.reg false law26_PropSound_2_sb1f3_r6) .ret) .skip)))) (.reg false law26_PropSound_2_sb1f3_r7))))))) (.seq (.reg false law26_PropSound_2_sb1f3_r8) .ret))
theorem law26_PropSound_2_sb1f3_k:FnOk E 18 16 [.tmp 3] law26_PropSound_2_sb1f3_c:=⟨⟨Go.Proofs.Try.f18,by kernel_rfl,by kernel_rfl,by kernel_rfl,by kernel_rfl,by kernel_rfl⟩,rfl,rfl⟩
noncomputable def law26_PropSound_2_sb1f3_l1 (a0:(List Int)) (a1:Int):Int→Option (Step (Int) ((Unit) ⊕ (Unit))):=fun x3=>(if (decide (x3 < (List.length a0:Int)))=true then Option.bind (ixl a0 x3) (fun x7=>Option.bind (law26_PropSound_1_sb011 x7 a1) (fun x8=>(if x8=true then some (Step.done (Sum.inl ())) else some (Step.next (w64 (x3 + 1)))))) else some (Step.done (Sum.inr ())))
noncomputable def law26_PropSound_2_sb1f3 (a0:(List Int)) (a1:Int):Option (Bool):=Option.bind (loopC (law26_PropSound_2_sb1f3_l1 a0 a1) 0) (fun y=>match y with | Sum.inl _=>some true | Sum.inr _=>some false)
theorem law26_PropSound_2_sb1f3_ok (a0:(List Int)) (a1:Int):Ct E 18 [.fsl 1 (List.map cI a0),.fptr [.fn 17 [.fptr [.s (.int .u32 a1)] 0]] 0] (law26_PropSound_2_sb1f3 a0 a1) (fun r:Bool=>bv r):=ct_intro (N:=16) (L:=law26_PropSound_2_sb1f3_c) law26_PropSound_2_sb1f3_k rfl (Nat.le_of_ble_eq_true rfl) (by kernel_rfl) (by
 unfold law26_PropSound_2_sb1f3
 refine jS ⟨[V 0 (.fsl 1 (List.map cI a0)),V 1 (.fptr [.fn 17 [.fptr [.s (.int .u32 a1)] 0]] 0)],[],0⟩ ?_
 refine jc_seq ?_
 refine jR ?_
 refine jG 0 3 ⟨[V 1 (.fptr [.fn 17 [.fptr [.s (.int .u32 a1)] 0]] 0),V 6 (.fsl 1 (List.map cI a0)),V 7 (iv (List.length (List.map cI a0):Int)),V 8 (iv 0)],[],0⟩ ?_
 simp only[List.length_map]
 refine jN ?_
 refine jc_block ?_
 refine jc_bind (fun y=>match y with | Sum.inl _=>⟨[V 3 (bv true)],[],0⟩ | Sum.inr _=>⟨[],[],0⟩) (fun y=>match y with | Sum.inl _=>.ret | Sum.inr _=>(.exit 0)) (jc_loop (fun x3=>⟨[V 1 (.fptr [.fn 17 [.fptr [.s (.int .u32 a1)] 0]] 0),V 6 (.fsl 1 (List.map cI a0)),V 7 (iv (List.length a0:Int)),V 8 (iv x3)],[],0⟩) (wkR [] (fix_nil _) allp_nil) ?_) ?_
 ·intro x3
  unfold law26_PropSound_2_sb1f3_l1
  refine jS ⟨[V 1 (.fptr [.fn 17 [.fptr [.s (.int .u32 a1)] 0]] 0),V 6 (.fsl 1 (List.map cI a0)),V 7 (iv (List.length a0:Int)),V 8 (iv x3),V 9 (bv (decide (x3 < (List.length a0:Int))))],[],0⟩ ?_
  refine jc_seq ?_
  refine jIf ?_ ?_
  ·refine jc_skip ?_
   refine jx_seqN ?_
   refine jc_seq ?_
   refine jc_block ?_
   refine jR ?_
   refine jr_part (i:=0) (mo:=ixl a0 x3) rfl rfl rfl rfl (fun _ hc=>aop_ixf (c:=cI) (sz:=1) (e:=3) (kk:=.i64) (by kernel_rfl) (by kernel_rfl) (by kernel_rfl) (by kernel_rfl) hc) (fun _=>rfl) ?_
   intro x7 h7
   refine jG 1 2 ⟨[V 1 (.fptr [.fn 17 [.fptr [.s (.int .u32 a1)] 0]] 0),V 5 (iv x7),V 6 (.fsl 1 (List.map cI a0)),V 7 (iv (List.length a0:Int)),V 8 (iv x3)],[],0⟩ ?_
   refine jN ?_
   refine jR ?_
   refine jG 0 2 ⟨[V 1 (.fptr [.fn 17 [.fptr [.s (.int .u32 a1)] 0]] 0),V 6 (.fsl 1 (List.map cI a0)),V 7 (iv (List.length a0:Int)),V 8 (iv x3),V 12 (.fn 17 [.fptr [.s (.int .u32 a1)] 0]),V 13 (iv x7)],[],0⟩ ?_
   refine jr_callV (i:=2) rfl rfl rfl rfl (g:=17) (caps:=[.fptr [.s (.int .u32 a1)] 0]) (avs:=[iv x7]) (vs:=[iv x7,.fptr [.s (.int .u32 a1)] 0]) (by kernel_rfl) (by kernel_rfl) rfl (snapL_cons rfl (snapL_cons rfl (snapL_nil _))) (all2_cons (fle_refl _) (all2_cons (fle_refl _) all2_nil)) (law26_PropSound_1_sb011_ok x7 a1) (fun _=>rfl) (fun _=>rfl) ?_
   intro x8 h8
   refine jN ?_
   refine jIf ?_ ?_
   ·refine jS ⟨[V 3 (bv true)],[],0⟩ ?_
    refine jc_ret ?_
    refine jx_blkR ?_
    refine jx_seqR ?_
    exact jx_done rfl nofun (wkR [] (fix_nil _) allp_nil)
   refine jc_skip ?_
   refine jx_blkN ?_
   refine jx_seqN ?_
   refine jT ⟨[V 1 (.fptr [.fn 17 [.fptr [.s (.int .u32 a1)] 0]] 0),V 6 (.fsl 1 (List.map cI a0)),V 7 (iv (List.length a0:Int)),V 8 (iv (w64 (x3 + 1)))],[],0⟩ ?_
   exact jx_next (wkR [] (fix_nil _) allp_nil)
  refine jc_exit ?_
  refine jx_seqE ?_
  exact jx_done rfl nofun (wkR [] (fix_nil _) allp_nil)
 rintro (_ | _)
 ·refine jx_blkR ?_
  refine jx_seqR ?_
  exact jx_retF (.inr rfl) (v:=bv true) (by kernel_rfl) rfl (fle_refl _)
 refine jx_blkE ?_
 refine jx_seqN ?_
 refine jS ⟨[V 3 (bv false)],[],0⟩ ?_
 refine jc_ret ?_
 exact jx_retF (.inr rfl) (v:=bv false) (by kernel_rfl) rfl (fle_refl _))
abbrev prop_Run_m8296_r1:List LO:=[lo 4 (.alloc 25) 0,lo 5 (.alloc 3) 0]
abbrev prop_Run_m8296_r2:List LO:=[lo 13 (.build 49 #[]) 49,lo 14 (.box 49 (.tmp 13)) 45,lo 6 (.alloc 45) 0,ln (.store 45 (.tmp 6) (.tmp 14)) 0]
abbrev prop_Run_m8296_r3:List LO:=[lm 15 1 23,lo 16 (.call ⟨.builtin .len,#[.tmp 15],#[23]⟩) 3,lo 17 (.move (.const (.int .i64 0))) 3]
abbrev prop_Run_m8296_r4:List LO:=[lo 18 (.binOp .lss 3 (.tmp 17) (.tmp 16) 3) 0]
abbrev prop_Run_m8296_r5:List LO:=[lo 19 (.indexAddr 23 (.tmp 15) (.tmp 17)) 0,lo 20 (.load 3 (.tmp 19)) 3,lo 8 (.assign (.tmp 20)) 3]
abbrev prop_Run_m8296_r6:List LO:=[lm 21 8 3,lo 22 (.call ⟨.value (.func 25),#[.tmp 21],#[3]⟩) 4,lo 23 (.unOp .not 4 (.tmp 22)) 4]
abbrev prop_Run_m8296_r7:List LO:=[lo 24 (.load 45 (.tmp 6)) 45,lm 25 8 3,lo 26 (.call ⟨.value (.func 26),#[.tmp 24,.tmp 25],#[45,3]⟩) 3]
abbrev prop_Run_m8296_r8:List LO:=[lo 28 (.binOp .eql 3 (.tmp 26) (.const (.int .i64 (-1))) 3) 4,lo 27 (.assign (.tmp 28)) 4]
abbrev prop_Run_m8296_r9:List LO:=[lo 29 (.load 45 (.tmp 6)) 45,lo 30 (.nilCheck (.tmp 29)) 0,lo 31 (.fieldAddr 49 (.tmp 30) 1) 0,lo 32 (.load 25 (.tmp 31)) 25,ln (.store 25 (.tmp 4) (.tmp 32)) 0,ln (.store 3 (.tmp 5) (.const (.int .i64 (-2)))) 0]
abbrev prop_Run_m8296_r10:List LO:=[lo 34 (.binOp .eql 3 (.tmp 26) (.const (.int .i64 0)) 3) 4,lo 33 (.assign (.tmp 34)) 4]
abbrev prop_Run_m8296_r11:List LO:=[lo 35 (.load 45 (.tmp 6)) 45,lm 36 8 3,lo 37 (.call ⟨.value (.func 27),#[.tmp 35,.tmp 36,.const (.int .i64 (-1))],#[45,3,3]⟩) 0]
abbrev prop_Run_m8296_r12:List LO:=[lo 38 (.binOp .add 3 (.tmp 17) (.const (.int .i64 1)) 3) 3,lm 17 38 3]
abbrev prop_Run_m8296_r13:List LO:=[lo 9 (.alloc 3) 0,lo 10 (.alloc 3) 0,ln (.store 3 (.tmp 9) (.const (.int .i64 (-1)))) 0,ln (.store 3 (.tmp 10) (.const (.int .i64 0))) 0]
abbrev prop_Run_m8296_r14:List LO:=[lo 39 (.load 45 (.tmp 6)) 45,lm 40 0 22,lo 41 (.call ⟨.value (.func 28),#[.tmp 39,.tmp 40],#[45,22]⟩) 53]
abbrev prop_Run_m8296_r15:List LO:=[lo 11 (.assign (.tmp 42)) 3]
abbrev prop_Run_m8296_r16:List LO:=[lo 12 (.assign (.tmp 43)) 3]
abbrev prop_Run_m8296_r17:List LO:=[lm 44 12 3,lo 45 (.binOp .eql 3 (.tmp 44) (.const (.int .i64 0)) 3) 4]
abbrev prop_Run_m8296_r18:List LO:=[lo 46 (.load 45 (.tmp 6)) 45,lo 47 (.nilCheck (.tmp 46)) 0,lo 48 (.fieldAddr 49 (.tmp 47) 1) 0,lo 49 (.load 25 (.tmp 48)) 25,lm 50 11 3,ln (.store 25 (.tmp 4) (.tmp 49)) 0,ln (.store 3 (.tmp 5) (.tmp 50)) 0]
abbrev prop_Run_m8296_r19:List LO:=[lo 51 (.load 3 (.tmp 9)) 3,lo 52 (.binOp .lss 3 (.tmp 51) (.const (.int .i64 0)) 3) 4]
abbrev prop_Run_m8296_r20:List LO:=[lm 53 11 3,lm 54 12 3,ln (.store 3 (.tmp 9) (.tmp 53)) 0,ln (.store 3 (.tmp 10) (.tmp 54)) 0]
noncomputable def prop_Run_m8296_y21_a0:Code:=codeSub (bodyOf Go.Proofs.Try.f8) [1,0,1,1,1,0,0,0,0,1,0,1,0,0]
theorem prop_Run_m8296_y21_aw:lower E prop_Run_m8296_y21_a0=some (.seq (.reg false prop_Run_m8296_r15) (.reg false prop_Run_m8296_r16)):=by kernel_rfl
noncomputable def prop_Run_m8296_y21_b0:Code:=codeSub (bodyOf Go.Proofs.Try.f8) [1,0,1,1,1,0,0,0,0,1,0,1,0,1]
theorem prop_Run_m8296_y21_bw:lower E prop_Run_m8296_y21_b0=some (.block 6 (.seq (.seq (.reg false prop_Run_m8296_r17) (.cond (.tmp 45) (.seq (.reg false prop_Run_m8296_r18) .ret) .skip)) (.seq (.reg false prop_Run_m8296_r19) (.cond (.tmp 52) (.reg false prop_Run_m8296_r20) .skip)))):=by kernel_rfl
abbrev prop_Run_m8296_r22:List LO:=[lo 55 (.load 3 (.tmp 9)) 3,lo 56 (.binOp .lss 3 (.tmp 55) (.const (.int .i64 0)) 3) 4]
abbrev prop_Run_m8296_r23:List LO:=[lo 57 (.load 45 (.tmp 6)) 45,lo 58 (.load 3 (.tmp 10)) 3,lo 59 (.load 3 (.tmp 9)) 3,lo 60 (.call ⟨.value (.func 27),#[.tmp 57,.tmp 58,.tmp 59],#[45,3,3]⟩) 0]
abbrev prop_Run_m8296_r24:List LO:=[lo 61 (.load 45 (.tmp 6)) 45,lo 62 (.nilCheck (.tmp 61)) 0,lo 63 (.fieldAddr 49 (.tmp 62) 1) 0,lo 64 (.load 25 (.tmp 63)) 25,ln (.store 25 (.tmp 4) (.tmp 64)) 0,ln (.store 3 (.tmp 5) (.const (.int .i64 (-1)))) 0]
noncomputable abbrev prop_Run_m8296_c:LC:=.seq (.reg false prop_Run_m8296_r1) (.scope (.seq (.reg false prop_Run_m8296_r2) (.seq (.seq (.reg false prop_Run_m8296_r3) (.block 0 (.loop (.seq (.reg false prop_Run_m8296_r4) (.seq (.cond (.tmp 18) .skip (.exit 0)) (.seq (.block 1 (.seq (.reg false prop_Run_m8296_r5) (.seq (.seq (.reg false prop_Run_m8296_r6) (.cond (.tmp 23) (.exit 1) .skip)) (.seq (.reg false prop_Run_m8296_r7) (.block 2 (.seq (.reg false prop_Run_m8296_r8) (.cond (.tmp 27) (.seq (.reg false prop_Run_m8296_r9) .ret) (.seq (.reg false prop_Run_m8296_r10) (.cond (.tmp 33) (.reg false prop_Run_m8296_r11) .skip))))))))) (.reg false prop_Run_m8296_r12))))))) (.seq .label (.seq (.block 3 (.loop (.block 4 (.seq (.reg false prop_Run_m8296_r13) (.seq (.seq (.reg false prop_Run_m8296_r14) (.block 5 (.rng (.tmp 41) [42,43] prop_Run_m8296_y21_a0 prop_Run_m8296_y21_b0))) (.seq (.seq (.reg false prop_Run_m8296_r22) (.cond (.tmp 56) (.exit 3) .skip)) (.reg false prop_Run_m8296_r23))))))) (.seq (.reg false prop_Run_m8296_r24) .ret))))))
theorem prop_Run_m8296_k:FnOk E 8 65 [.cell 4 25,.cell 5 3] prop_Run_m8296_c:=⟨⟨Go.Proofs.Try.f8,by kernel_rfl,by kernel_rfl,by kernel_rfl,by kernel_rfl,by kernel_rfl⟩,rfl,rfl⟩
noncomputable def prop_Run_m8296_l1 (a1:List Int):(List Int × List S_api_Deduced × Int)→Option (Step (List Int × List S_api_Deduced × Int) ((List S_api_Deduced) ⊕ (List Int × List S_api_Deduced))):=fun (x99,x100,x101)=>(if (decide (x101 < (List.length a1:Int)))=true then Option.bind (Option.bind (ixl a1 x101) (fun x124=>Option.bind (prop_literal x124) (fun x125=>(if (!x125)=true then some (Sum.inl (x99,x100)) else Option.bind (prop_sheet_of x99 x100 x124) (fun x126=>(if (x126 == (-1))=true then Option.bind (lenA 4097 x99) (fun x127=>some (Sum.inr ())) else (if (x126 == 0)=true then Option.bind (prop_sheet_set x99 x100 x124 (-1)) (fun (x128,x129)=>some (Sum.inl (x128,x129))) else some (Sum.inl (x99,x100)))))))):Option ((List Int × List S_api_Deduced) ⊕ (Unit))) (fun y=>match y with | Sum.inl (x122,x123)=>some (Step.next (x122,x123,(w64 (x101 + 1)))) | Sum.inr _=>some (Step.done (Sum.inl x100))) else some (Step.done (Sum.inr (x99,x100))))
noncomputable abbrev prop_Run_m8296_lp41 (a0:List (List Int)) (q:LoopState) (p:Option Code):AObj:=.loop { state:=q,pending:=p,tmps:=tl 65 [V 0 (.fsl 1 (List.map c_L3 a0)),V 4 (pt 1 1),V 5 (pt 2 1),V 6 (pt 3 1),V 9 (pt 6 1),V 10 (pt 7 1),V 41 (.fn 39 [pt 8 1,pt 9 1])] none,params:=[42,43],assign:=prop_Run_m8296_y21_a0,body:=prop_Run_m8296_y21_b0 }
noncomputable def prop_Run_m8296_l2 (a0:List (List Int)) (x157:List Int) (x158:List S_api_Deduced):(Int × Int × Int)→Option (Step (Int × Int × Int) ((Int × Int × Int) ⊕ (Int × Int))):=fun (x198,x199,x200)=>(if (decide (x198 < (List.length a0:Int)))=true then Option.bind (ixl a0 x198) (fun x217=>Option.bind (prop_sheet_look x157 x158 x217) (fun (x218,x219)=>Option.bind (if (x218 || (x219 != 0))=true then Option.bind ((if (x219 == 0)=true then Option.bind (lenA 4097 x157) (fun x228=>some (Sum.inl ())) else (if (decide (x199 < 0))=true then some (Sum.inr (x198,x219)) else some (Sum.inr (x199,x200)))):Option ((Unit) ⊕ (Int × Int))) (fun y=>match y with | Sum.inl _=>some (Sum.inl ()) | Sum.inr (x226,x227)=>some (Sum.inr (x226,x227))) else some (Sum.inr (x199,x200)):Option ((Unit) ⊕ (Int × Int))) (fun y=>match y with | Sum.inl _=>some (Step.done (Sum.inl (x198,x199,x200))) | Sum.inr (x223,x224)=>some (Step.next ((w64 (x198 + 1)),x223,x224))))) else some (Step.done (Sum.inr (x199,x200))))
noncomputable def prop_Run_m8296_l3 (a0:List (List Int)):(List Int × List S_api_Deduced)→Option (Step (List Int × List S_api_Deduced) ((List S_api_Deduced × Int) ⊕ (List Int × List S_api_Deduced))):=fun (x157,x158)=>Option.bind (prop_sheet_counts x157 x158 a0) (fun _=>Option.bind (loopC (prop_Run_m8296_l2 a0 x157 x158) (0,(-1),0)) (fun y=>match y with | Sum.inl (x212,x213,x214)=>some (Step.done (Sum.inl (x158,x212))) | Sum.inr (x215,x216)=>(if (decide (x215 < 0))=true then some (Step.done (Sum.inr (x157,x158))) else Option.bind (prop_sheet_set x157 x158 x216 x215) (fun (x229,x230)=>some (Step.next (x229,x230))))))
abbrev prop_Run_m8296_T (a0:List (List Int)) (a1:List Int) (r:List S_api_Deduced × Int):CS:=⟨[V 4 (pt 1 1),V 5 (pt 3 1)],[(0,.rows 1 (List.map cI a1)),W 1 1 [.osl 2 0 (List.length r.1) 2],(2,.rows 2 (List.map c_S_api_Deduced r.1)),W 3 1 [iv r.2]],4⟩
noncomputable def prop_Run_m8296 (a0:List (List Int)) (a1:List Int):Option (List S_api_Deduced × Int):=Option.bind (loopC (prop_Run_m8296_l1 a1) ((List.replicate 4097 (0:Int)),[],0)) (fun y=>match y with | Sum.inl x113=>some (x113,(-2)) | Sum.inr (x114,x115)=>Option.bind (loopC (prop_Run_m8296_l3 a0) (x114,x115)) (fun y=>match y with | Sum.inl (x188,x189)=>some (x188,x189) | Sum.inr (x190,x191)=>Option.bind (lenA 4097 x190) (fun x231=>some (x191,(-1)))))
theorem prop_Run_m8296_ok (a0:List (List Int)) (a1:List Int):CtM E 8 [.fsl 1 (List.map c_L3 a0),.osl 0 0 (List.length a1) 1] [(0,.rows 1 (List.map cI a1))] 1 (prop_Run_m8296 a0 a1) (fun r:List S_api_Deduced × Int=>.tup [.osl 2 0 (List.length r.1) 2,iv r.2]) (fun r:List S_api_Deduced × Int=>[(0,.rows 1 (List.map cI a1)),(2,.rows 2 (List.map c_S_api_Deduced r.1))]) 4:=ctm_intro (N:=65) (L:=prop_Run_m8296_c) prop_Run_m8296_k rfl (Nat.le_of_ble_eq_true rfl) (fun F hF=>by
 unfold prop_Run_m8296
 refine jS ⟨[V 0 (.fsl 1 (List.map c_L3 a0)),V 1 (.osl 0 0 (List.length a1) 1),V 4 (pt 1 1),V 5 (pt 2 1)],[(0,.rows 1 (List.map cI a1)),W 1 1 [nilS],W 2 1 [iv 0]],3⟩ ?_
 refine jc_scope ?_
 refine jS ⟨[V 0 (.fsl 1 (List.map c_L3 a0)),V 1 (.osl 0 0 (List.length a1) 1),V 4 (pt 1 1),V 5 (pt 2 1),V 6 (pt 4 1)],[(0,.rows 1 (List.map cI a1)),W 1 1 [nilS],W 2 1 [iv 0],(3,.rows 4098 [List.map aI8 (List.replicate 4097 (0:Int)) ++ [nilS]]),W 4 1 [pt 3 4098]],5⟩ ?_
 refine jc_seq ?_
 refine jS ⟨[V 0 (.fsl 1 (List.map c_L3 a0)),V 4 (pt 1 1),V 5 (pt 2 1),V 6 (pt 4 1),V 15 (.osl 0 0 (List.length a1) 1),V 16 (iv (List.length a1:Int)),V 17 (iv 0)],[(0,.rows 1 (List.map cI a1)),W 1 1 [nilS],W 2 1 [iv 0],(3,.rows 4098 [List.map aI8 (List.replicate 4097 (0:Int)) ++ [nilS]]),W 4 1 [pt 3 4098]],5⟩ ?_
 refine jc_block ?_
 refine jc_bind (fun y=>match y with | Sum.inl x113=>⟨[V 4 (pt 1 1),V 5 (pt 3 1)],[(0,.rows 1 (List.map cI a1)),W 1 1 [.osl 2 0 (List.length x113) 2],(2,.rows 2 (List.map c_S_api_Deduced x113)),W 3 1 [iv (-2)]],4⟩ | Sum.inr (x114,x115)=>⟨[V 0 (.fsl 1 (List.map c_L3 a0)),V 4 (pt 1 1),V 5 (pt 2 1),V 6 (pt 3 1)],[(0,.rows 1 (List.map cI a1)),W 1 1 [nilS],W 2 1 [iv 0],W 3 1 [pt 4 4098],(4,.rows 4098 [List.map aI8 x114 ++ [.osl 5 0 (List.length x115) 2]]),(5,.rows 2 (List.map c_S_api_Deduced x115))],6⟩) (fun y=>match y with | Sum.inl x113=>.ret | Sum.inr (x114,x115)=>(.exit 0)) (jc_loop (fun (x99,x100,x101)=>⟨[V 0 (.fsl 1 (List.map c_L3 a0)),V 4 (pt 1 1),V 5 (pt 2 1),V 6 (pt 3 1),V 15 (.osl 0 0 (List.length a1) 1),V 16 (iv (List.length a1:Int)),V 17 (iv x101)],[(0,.rows 1 (List.map cI a1)),W 1 1 [nilS],W 2 1 [iv 0],W 3 1 [pt 4 4098],(4,.rows 4098 [List.map aI8 x99 ++ [.osl 5 0 (List.length x100) 2]]),(5,.rows 2 (List.map c_S_api_Deduced x100))],6⟩) (wkR [(0,some 0),(1,some 1),(2,some 2),(3,some 4),(4,some 3),(5,none)] (fix_of hF (k:=1) rfl) (pc (hL 0 (noid_map ni_I _)) (pc (hC 1) (pc (hC 2) (pc (hC 4) (pc (hA 3) (pc hZ allp_nil))))))) ?_) ?_
 ·rintro⟨x99,x100,x101⟩
  unfold prop_Run_m8296_l1
  refine jS ⟨[V 0 (.fsl 1 (List.map c_L3 a0)),V 4 (pt 1 1),V 5 (pt 2 1),V 6 (pt 3 1),V 15 (.osl 0 0 (List.length a1) 1),V 16 (iv (List.length a1:Int)),V 17 (iv x101),V 18 (bv (decide (x101 < (List.length a1:Int))))],[(0,.rows 1 (List.map cI a1)),W 1 1 [nilS],W 2 1 [iv 0],W 3 1 [pt 4 4098],(4,.rows 4098 [List.map aI8 x99 ++ [.osl 5 0 (List.length x100) 2]]),(5,.rows 2 (List.map c_S_api_Deduced x100))],6⟩ ?_
  refine jc_seq ?_
  refine jIf ?_ ?_
  ·refine jc_skip ?_
   refine jx_seqN ?_
   refine jc_seq ?_
   refine jc_bind (fun y=>match y with | Sum.inl (x122,x123)=>⟨[V 0 (.fsl 1 (List.map c_L3 a0)),V 4 (pt 1 1),V 5 (pt 2 1),V 6 (pt 3 1),V 15 (.osl 0 0 (List.length a1) 1),V 16 (iv (List.length a1:Int)),V 17 (iv x101)],[(0,.rows 1 (List.map cI a1)),W 1 1 [nilS],W 2 1 [iv 0],W 3 1 [pt 4 4098],(4,.rows 4098 [List.map aI8 x122 ++ [.osl 5 0 (List.length x123) 2]]),(5,.rows 2 (List.map c_S_api_Deduced x123))],6⟩ | Sum.inr _=>⟨[V 4 (pt 1 1),V 5 (pt 3 1)],[(0,.rows 1 (List.map cI a1)),W 1 1 [.osl 2 0 (List.length x100) 2],(2,.rows 2 (List.map c_S_api_Deduced x100)),W 3 1 [iv (-2)]],4⟩) (fun y=>match y with | Sum.inl (x122,x123)=>.normal | Sum.inr _=>.ret) ?_ ?_
   ·refine jc_block ?_
    refine jR ?_
    refine jr_part (i:=0) (mo:=ixl a1 x101) rfl rfl rfl rfl (fun _ hc=>aop_ixo0 (sz:=1) (e:=3) (kk:=.i64) (id:=0) (by kernel_rfl) (by kernel_rfl) (by kernel_rfl) (by kernel_rfl) hc) (fun _=>rfl) ?_
    intro x124 h124
    refine jr_one (i:=1) (v:=iv x124) rfl rfl rfl rfl (aop_ldo (l:=a1) (c:=cI) (id:=0) (k:=(Int.toNat x101)) (sz:=1) (off:=0) (a:=x124) (by kernel_rfl) (by kernel_rfl) (ixl_lt h124).2.2 (by kernel_rfl)) rfl ?_
    refine jG 2 1 ⟨[V 0 (.fsl 1 (List.map c_L3 a0)),V 4 (pt 1 1),V 5 (pt 2 1),V 6 (pt 3 1),V 8 (iv x124),V 15 (.osl 0 0 (List.length a1) 1),V 16 (iv (List.length a1:Int)),V 17 (iv x101)],[(0,.rows 1 (List.map cI a1)),W 1 1 [nilS],W 2 1 [iv 0],W 3 1 [pt 4 4098],(4,.rows 4098 [List.map aI8 x99 ++ [.osl 5 0 (List.length x100) 2]]),(5,.rows 2 (List.map c_S_api_Deduced x100))],6⟩ ?_
    refine jN ?_
    refine jc_seq ?_
    refine jR ?_
    refine jG 0 1 ⟨[V 0 (.fsl 1 (List.map c_L3 a0)),V 4 (pt 1 1),V 5 (pt 2 1),V 6 (pt 3 1),V 8 (iv x124),V 15 (.osl 0 0 (List.length a1) 1),V 16 (iv (List.length a1:Int)),V 17 (iv x101),V 21 (iv x124)],[(0,.rows 1 (List.map cI a1)),W 1 1 [nilS],W 2 1 [iv 0],W 3 1 [pt 4 4098],(4,.rows 4098 [List.map aI8 x99 ++ [.osl 5 0 (List.length x100) 2]]),(5,.rows 2 (List.map c_S_api_Deduced x100))],6⟩ ?_
    refine jK 1 (prop_literal_ok x124) ?_
    intro x125 h125
    refine jG 2 1 ⟨[V 0 (.fsl 1 (List.map c_L3 a0)),V 4 (pt 1 1),V 5 (pt 2 1),V 6 (pt 3 1),V 8 (iv x124),V 15 (.osl 0 0 (List.length a1) 1),V 16 (iv (List.length a1:Int)),V 17 (iv x101),V 23 (bv (!x125))],[(0,.rows 1 (List.map cI a1)),W 1 1 [nilS],W 2 1 [iv 0],W 3 1 [pt 4 4098],(4,.rows 4098 [List.map aI8 x99 ++ [.osl 5 0 (List.length x100) 2]]),(5,.rows 2 (List.map c_S_api_Deduced x100))],6⟩ ?_
    refine jN ?_
    refine jIf ?_ ?_
    ·refine jc_exit ?_
     refine jx_seqE ?_
     refine jx_blkE ?_
     exact jx_mid rfl (wkR [(0,some 0),(1,some 1),(2,some 2),(3,some 3),(4,some 4),(5,some 5)] (fix_of hF (k:=1) rfl) (pc (hL 0 (noid_map ni_I _)) (pc (hC 1) (pc (hC 2) (pc (hC 3) (pc (hA 4) (pc (hL 5 (noid_map ni_S_api_Deduced _)) allp_nil)))))))
    refine jc_skip ?_
    refine jx_seqN ?_
    refine jR ?_
    refine jG 0 2 ⟨[V 0 (.fsl 1 (List.map c_L3 a0)),V 4 (pt 1 1),V 5 (pt 2 1),V 6 (pt 3 1),V 8 (iv x124),V 15 (.osl 0 0 (List.length a1) 1),V 16 (iv (List.length a1:Int)),V 17 (iv x101),V 24 (pt 4 4098),V 25 (iv x124)],[(0,.rows 1 (List.map cI a1)),W 1 1 [nilS],W 2 1 [iv 0],W 3 1 [pt 4 4098],(4,.rows 4098 [List.map aI8 x99 ++ [.osl 5 0 (List.length x100) 2]]),(5,.rows 2 (List.map c_S_api_Deduced x100))],6⟩ ?_
    refine jr_callM 2 [(0,some 4),(1,some 5)] [(4,some 0),(5,some 1)] (fun r:Int=>[(0,.rows 1 (List.map cI a1)),W 1 1 [nilS],W 2 1 [iv 0],W 3 1 [pt 4 4098],(4,.rows 4098 [List.map aI8 x99 ++ [.osl 5 0 (List.length x100) 2]]),(5,.rows 2 (List.map c_S_api_Deduced x100))]) (fun r:Int=>iv r) 6 (prop_sheet_of_ok x99 x100 x124) (pc (hA 4) (pc (hL 5 (noid_map ni_S_api_Deduced _)) allp_nil)) (fun r=>(pc (.inl ⟨rfl,rfl⟩) (pc (.inl ⟨rfl,rfl⟩) (pc (.inl ⟨rfl,rfl⟩) (pc (.inl ⟨rfl,rfl⟩) (pc (.inr (hA 0)) (pc (.inr (hL 1 (noid_map ni_S_api_Deduced _))) allp_nil))))))) ?_
    rintro x126 hm26
    refine jN ?_
    refine jc_block ?_
    refine jS ⟨[V 0 (.fsl 1 (List.map c_L3 a0)),V 4 (pt 1 1),V 5 (pt 2 1),V 6 (pt 3 1),V 8 (iv x124),V 15 (.osl 0 0 (List.length a1) 1),V 16 (iv (List.length a1:Int)),V 17 (iv x101),V 26 (iv x126),V 27 (bv (x126 == (-1)))],[(0,.rows 1 (List.map cI a1)),W 1 1 [nilS],W 2 1 [iv 0],W 3 1 [pt 4 4098],(4,.rows 4098 [List.map aI8 x99 ++ [.osl 5 0 (List.length x100) 2]]),(5,.rows 2 (List.map c_S_api_Deduced x100))],6⟩ ?_
    refine jIf ?_ ?_
    ·refine jR ?_
     refine jG 0 3 ⟨[V 4 (pt 1 1),V 5 (pt 2 1),V 31 (.ptr 4 0 4098 4097)],[(0,.rows 1 (List.map cI a1)),W 1 1 [nilS],W 2 1 [iv 0],(4,.rows 4098 [List.map aI8 x99 ++ [.osl 5 0 (List.length x100) 2]]),(5,.rows 2 (List.map c_S_api_Deduced x100))],6⟩ ?_
     refine jr_guard ?_
     intro x127 h127
     refine jr_one (i:=3) (v:=.osl 5 0 (List.length x100) 2) (us:=[]) rfl rfl rfl rfl (aop_ldr (l:=x99) (c:=aI8) (rest:=[.osl 5 0 (List.length x100) 2]) (id:=4) (sz:=4098) (m:=4097) (q:=0) (by kernel_rfl) (by kernel_rfl) (by kernel_rfl) (by kernel_rfl) (lenA_iff h127) (by kernel_rfl)) rfl ?_
     refine jG 4 2 ⟨[V 4 (pt 1 1),V 5 (pt 2 1)],[(0,.rows 1 (List.map cI a1)),W 1 1 [.osl 5 0 (List.length x100) 2],W 2 1 [iv (-2)],(5,.rows 2 (List.map c_S_api_Deduced x100))],6⟩ ?_
     refine jN ?_
     refine jc_ret ?_
     refine jx_blkR ?_
     refine jx_blkR ?_
     exact jx_mid rfl (wkR [(0,some 0),(1,some 1),(2,some 5),(3,some 2)] (fix_of hF (k:=1) rfl) (pc (hL 0 (noid_map ni_I _)) (pc (hC 1) (pc (hL 5 (noid_map ni_S_api_Deduced _)) (pc (hC 2) allp_nil)))))
    refine jS ⟨[V 0 (.fsl 1 (List.map c_L3 a0)),V 4 (pt 1 1),V 5 (pt 2 1),V 6 (pt 3 1),V 8 (iv x124),V 15 (.osl 0 0 (List.length a1) 1),V 16 (iv (List.length a1:Int)),V 17 (iv x101),V 33 (bv (x126 == 0))],[(0,.rows 1 (List.map cI a1)),W 1 1 [nilS],W 2 1 [iv 0],W 3 1 [pt 4 4098],(4,.rows 4098 [List.map aI8 x99 ++ [.osl 5 0 (List.length x100) 2]]),(5,.rows 2 (List.map c_S_api_Deduced x100))],6⟩ ?_
    refine jIf ?_ ?_
    ·refine jc_reg ?_
     refine jG 0 2 ⟨[V 0 (.fsl 1 (List.map c_L3 a0)),V 4 (pt 1 1),V 5 (pt 2 1),V 6 (pt 3 1),V 15 (.osl 0 0 (List.length a1) 1),V 16 (iv (List.length a1:Int)),V 17 (iv x101),V 35 (pt 4 4098),V 36 (iv x124)],[(0,.rows 1 (List.map cI a1)),W 1 1 [nilS],W 2 1 [iv 0],W 3 1 [pt 4 4098],(4,.rows 4098 [List.map aI8 x99 ++ [.osl 5 0 (List.length x100) 2]]),(5,.rows 2 (List.map c_S_api_Deduced x100))],6⟩ ?_
     refine jr_callM 2 [(0,some 4),(1,some 5)] [(4,some 0),(6,some 2)] (fun r:List Int × List S_api_Deduced=>[(0,.rows 1 (List.map cI a1)),W 1 1 [nilS],W 2 1 [iv 0],W 3 1 [pt 4 4098],(4,.rows 4098 [List.map aI8 r.1 ++ [.osl 6 0 (List.length r.2) 2]]),(6,.rows 2 (List.map c_S_api_Deduced r.2))]) (fun r:List Int × List S_api_Deduced=>.tup []) 7 (prop_sheet_set_ok x99 x100 x124 (-1)) (pc (hA 4) (pc (hL 5 (noid_map ni_S_api_Deduced _)) allp_nil)) (fun r=>(pc (.inl ⟨rfl,rfl⟩) (pc (.inl ⟨rfl,rfl⟩) (pc (.inl ⟨rfl,rfl⟩) (pc (.inl ⟨rfl,rfl⟩) (pc (.inr (hA 0)) (pc (.inr (hL 2 (noid_map ni_S_api_Deduced _))) allp_nil))))))) ?_
     rintro⟨x128,x129⟩ hm25
     refine jr_nil rfl ?_
     refine jx_blkN ?_
     refine jx_blkN ?_
     exact jx_mid rfl (wkR [(0,some 0),(1,some 1),(2,some 2),(3,some 3),(4,some 4),(5,some 6)] (fix_of hF (k:=1) rfl) (pc (hL 0 (noid_map ni_I _)) (pc (hC 1) (pc (hC 2) (pc (hC 3) (pc (hA 4) (pc (hL 6 (noid_map ni_S_api_Deduced _)) allp_nil)))))))
    refine jc_skip ?_
    refine jx_blkN ?_
    refine jx_blkN ?_
    exact jx_mid rfl (wkR [(0,some 0),(1,some 1),(2,some 2),(3,some 3),(4,some 4),(5,some 5)] (fix_of hF (k:=1) rfl) (pc (hL 0 (noid_map ni_I _)) (pc (hC 1) (pc (hC 2) (pc (hC 3) (pc (hA 4) (pc (hL 5 (noid_map ni_S_api_Deduced _)) allp_nil)))))))
   rintro (⟨x122,x123⟩ | _)
   ·refine jx_seqN ?_
    refine jT ⟨[V 0 (.fsl 1 (List.map c_L3 a0)),V 4 (pt 1 1),V 5 (pt 2 1),V 6 (pt 3 1),V 15 (.osl 0 0 (List.length a1) 1),V 16 (iv (List.length a1:Int)),V 17 (iv (w64 (x101 + 1)))],[(0,.rows 1 (List.map cI a1)),W 1 1 [nilS],W 2 1 [iv 0],W 3 1 [pt 4 4098],(4,.rows 4098 [List.map aI8 x122 ++ [.osl 5 0 (List.length x123) 2]]),(5,.rows 2 (List.map c_S_api_Deduced x123))],6⟩ ?_
    exact jx_next (wkR [(0,some 0),(1,some 1),(2,some 2),(3,some 3),(4,some 4),(5,some 5)] (fix_of hF (k:=1) rfl) (pc (hL 0 (noid_map ni_I _)) (pc (hC 1) (pc (hC 2) (pc (hC 3) (pc (hA 4) (pc (hL 5 (noid_map ni_S_api_Deduced _)) allp_nil)))))))
   refine jx_seqR ?_
   exact jx_done rfl nofun (wkR [(0,some 0),(1,some 1),(2,some 2),(3,some 3)] (fix_of hF (k:=1) rfl) (pc (hL 0 (noid_map ni_I _)) (pc (hC 1) (pc (hL 2 (noid_map ni_S_api_Deduced _)) (pc (hC 3) allp_nil)))))
  refine jc_exit ?_
  refine jx_seqE ?_
  exact jx_done rfl nofun (wkR [(0,some 0),(1,some 1),(2,some 2),(3,some 3),(4,some 4),(5,some 5)] (fix_of hF (k:=1) rfl) (pc (hL 0 (noid_map ni_I _)) (pc (hC 1) (pc (hC 2) (pc (hC 3) (pc (hA 4) (pc (hL 5 (noid_map ni_S_api_Deduced _)) allp_nil)))))))
 rintro (x113 | ⟨x114,x115⟩)
 ·refine jx_blkR ?_
  refine jx_seqR ?_
  refine jx_scopeR ?_
  exact jx_retM (prop_Run_m8296_T a0 a1 (x113,(-2))) (.inr rfl) (wkR [(0,some 0),(1,some 1),(2,some 2),(3,some 3)] (fix_of hF (k:=1) rfl) (pc (hL 0 (noid_map ni_I _)) (pc (hC 1) (pc (hL 2 (noid_map ni_S_api_Deduced _)) (pc (hC 3) allp_nil)))))
 refine jx_blkE ?_
 refine jx_seqN ?_
 refine jc_seq ?_
 refine jc_label ?_
 refine jx_seqN ?_
 refine jc_seq ?_
 refine jc_block ?_
 refine jc_bind (fun y=>match y with | Sum.inl (x188,x189)=>⟨[V 4 (pt 1 1),V 5 (pt 3 1)],[(0,.rows 1 (List.map cI a1)),W 1 1 [.osl 2 0 (List.length x188) 2],(2,.rows 2 (List.map c_S_api_Deduced x188)),W 3 1 [iv x189]],4⟩ | Sum.inr (x190,x191)=>⟨[V 4 (pt 1 1),V 5 (pt 2 1),V 6 (pt 3 1)],[(0,.rows 1 (List.map cI a1)),W 1 1 [nilS],W 2 1 [iv 0],W 3 1 [pt 4 4098],(4,.rows 4098 [List.map aI8 x190 ++ [.osl 5 0 (List.length x191) 2]]),(5,.rows 2 (List.map c_S_api_Deduced x191))],6⟩) (fun y=>match y with | Sum.inl (x188,x189)=>.ret | Sum.inr (x190,x191)=>(.exit 3)) (jc_loop (fun (x157,x158)=>⟨[V 0 (.fsl 1 (List.map c_L3 a0)),V 4 (pt 1 1),V 5 (pt 2 1),V 6 (pt 3 1)],[(0,.rows 1 (List.map cI a1)),W 1 1 [nilS],W 2 1 [iv 0],W 3 1 [pt 4 4098],(4,.rows 4098 [List.map aI8 x157 ++ [.osl 5 0 (List.length x158) 2]]),(5,.rows 2 (List.map c_S_api_Deduced x158))],6⟩) (wkR [(0,some 0),(1,some 1),(2,some 2),(3,some 3),(4,some 4),(5,some 5)] (fix_of hF (k:=1) rfl) (pc (hL 0 (noid_map ni_I _)) (pc (hC 1) (pc (hC 2) (pc (hC 3) (pc (hA 4) (pc (hL 5 (noid_map ni_S_api_Deduced _)) allp_nil))))))) ?_) ?_
 ·rintro⟨x157,x158⟩
  unfold prop_Run_m8296_l3
  refine jc_block ?_
  refine jS ⟨[V 0 (.fsl 1 (List.map c_L3 a0)),V 4 (pt 1 1),V 5 (pt 2 1),V 6 (pt 3 1),V 9 (pt 6 1),V 10 (pt 7 1)],[(0,.rows 1 (List.map cI a1)),W 1 1 [nilS],W 2 1 [iv 0],W 3 1 [pt 4 4098],(4,.rows 4098 [List.map aI8 x157 ++ [.osl 5 0 (List.length x158) 2]]),(5,.rows 2 (List.map c_S_api_Deduced x158)),W 6 1 [iv (-1)],W 7 1 [iv 0]],8⟩ ?_
  refine jc_seq ?_
  refine jR ?_
  refine jG 0 2 ⟨[V 0 (.fsl 1 (List.map c_L3 a0)),V 4 (pt 1 1),V 5 (pt 2 1),V 6 (pt 3 1),V 9 (pt 6 1),V 10 (pt 7 1),V 39 (pt 4 4098),V 40 (.fsl 1 (List.map c_L3 a0))],[(0,.rows 1 (List.map cI a1)),W 1 1 [nilS],W 2 1 [iv 0],W 3 1 [pt 4 4098],(4,.rows 4098 [List.map aI8 x157 ++ [.osl 5 0 (List.length x158) 2]]),(5,.rows 2 (List.map c_S_api_Deduced x158)),W 6 1 [iv (-1)],W 7 1 [iv 0]],8⟩ ?_
  refine jr_callM 2 [(0,some 4),(1,some 5)] [(4,some 0),(5,some 1),(8,some 2),(9,some 3)] (fun r:Unit=>[(0,.rows 1 (List.map cI a1)),W 1 1 [nilS],W 2 1 [iv 0],W 3 1 [pt 4 4098],(4,.rows 4098 [List.map aI8 x157 ++ [.osl 5 0 (List.length x158) 2]]),(5,.rows 2 (List.map c_S_api_Deduced x158)),W 6 1 [iv (-1)],W 7 1 [iv 0],W 8 1 [.fsl 1 (List.map c_L3 a0)],W 9 1 [pt 4 4098]]) (fun r:Unit=>.fn 39 [pt 8 1,pt 9 1]) 10 (prop_sheet_counts_ok x157 x158 a0) (pc (hA 4) (pc (hL 5 (noid_map ni_S_api_Deduced _)) allp_nil)) (fun r=>(pc (.inl ⟨rfl,rfl⟩) (pc (.inl ⟨rfl,rfl⟩) (pc (.inl ⟨rfl,rfl⟩) (pc (.inl ⟨rfl,rfl⟩) (pc (.inr (hA 0)) (pc (.inr (hL 1 (noid_map ni_S_api_Deduced _))) (pc (.inl ⟨rfl,rfl⟩) (pc (.inl ⟨rfl,rfl⟩) (pc (.inr (hC 2)) (pc (.inr (hC 3)) allp_nil))))))))))) ?_
  rintro⟨⟩ hm50
  refine jN ?_
  refine jc_block ?_
  refine jc_keep [0,4,5,6,9,10,41] [0,1,2,3,4,5,6,7,8,9] (st1:=⟨[V 0 (.fsl 1 (List.map c_L3 a0)),V 4 (pt 1 1),V 5 (pt 2 1),V 6 (pt 3 1),V 9 (pt 6 1),V 10 (pt 7 1),V 41 (.fn 39 [pt 8 1,pt 9 1])],[(0,.rows 1 (List.map cI a1)),W 1 1 [nilS],W 2 1 [iv 0],W 3 1 [pt 4 4098],(4,.rows 4098 [List.map aI8 x157 ++ [.osl 5 0 (List.length x158) 2]]),(5,.rows 2 (List.map c_S_api_Deduced x158)),W 6 1 [iv (-1)],W 7 1 [iv 0],W 8 1 [.fsl 1 (List.map c_L3 a0)],W 9 1 [pt 4 4098]],10⟩) (by kernel_rfl) ?_
  refine jc_rng (g:=39) (caps:=[pt 8 1,pt 9 1]) (by kernel_rfl) prop_sheet_counts_1_it_k (Nat.le_of_ble_eq_true rfl) ?_
  intro F41 hc41
  refine jR ?_
  refine jG 0 3 ⟨[V 0 (.yld 10),V 2 (pt 9 1),V 8 (.fsl 1 (List.map c_L3 a0)),V 9 (iv (List.length (List.map c_L3 a0):Int)),V 10 (iv 0)],[(0,.rows 1 (List.map cI a1)),W 1 1 [nilS],W 2 1 [iv 0],W 3 1 [pt 4 4098],(4,.rows 4098 [List.map aI8 x157 ++ [.osl 5 0 (List.length x158) 2]]),(5,.rows 2 (List.map c_S_api_Deduced x158)),W 6 1 [iv (-1)],W 7 1 [iv 0],W 8 1 [.fsl 1 (List.map c_L3 a0)],W 9 1 [pt 4 4098],(10,prop_Run_m8296_lp41 a0 .ready none)],11⟩ ?_
  simp only[List.length_map]
  refine jN ?_
  refine jc_block ?_
  refine jc_bind (fun y=>match y with | Sum.inl (x212,x213,x214)=>⟨[],[(0,.rows 1 (List.map cI a1)),W 1 1 [.osl 5 0 (List.length x158) 2],W 2 1 [iv x212],W 3 1 [pt 4 4098],(4,.rows 4098 [List.map aI8 x157 ++ [.osl 5 0 (List.length x158) 2]]),(5,.rows 2 (List.map c_S_api_Deduced x158)),W 6 1 [iv x213],W 7 1 [iv x214],W 8 1 [.fsl 1 (List.map c_L3 a0)],W 9 1 [pt 4 4098],(10,prop_Run_m8296_lp41 a0 .done (some .ret))],11⟩ | Sum.inr (x215,x216)=>⟨[],[(0,.rows 1 (List.map cI a1)),W 1 1 [nilS],W 2 1 [iv 0],W 3 1 [pt 4 4098],(4,.rows 4098 [List.map aI8 x157 ++ [.osl 5 0 (List.length x158) 2]]),(5,.rows 2 (List.map c_S_api_Deduced x158)),W 6 1 [iv x215],W 7 1 [iv x216],W 8 1 [.fsl 1 (List.map c_L3 a0)],W 9 1 [pt 4 4098],(10,prop_Run_m8296_lp41 a0 .ready none)],11⟩) (fun y=>match y with | Sum.inl (x212,x213,x214)=>.ret | Sum.inr (x215,x216)=>(.exit 0)) (jc_loop (fun (x198,x199,x200)=>⟨[V 0 (.yld 10),V 2 (pt 9 1),V 8 (.fsl 1 (List.map c_L3 a0)),V 9 (iv (List.length a0:Int)),V 10 (iv x198)],[(0,.rows 1 (List.map cI a1)),W 1 1 [nilS],W 2 1 [iv 0],W 3 1 [pt 4 4098],(4,.rows 4098 [List.map aI8 x157 ++ [.osl 5 0 (List.length x158) 2]]),(5,.rows 2 (List.map c_S_api_Deduced x158)),W 6 1 [iv x199],W 7 1 [iv x200],W 8 1 [.fsl 1 (List.map c_L3 a0)],W 9 1 [pt 4 4098],(10,prop_Run_m8296_lp41 a0 .ready none)],11⟩) (wkR [(0,some 0),(1,some 1),(2,some 2),(3,some 3),(4,some 4),(5,some 5),(6,some 6),(7,some 7),(8,some 8),(9,some 9),(10,some 10)] (fix_of hc41.2.2 (k:=11) rfl) (pc (hL 0 (noid_map ni_I _)) (pc (hC 1) (pc (hC 2) (pc (hC 3) (pc (hA 4) (pc (hL 5 (noid_map ni_S_api_Deduced _)) (pc (hC 6) (pc (hC 7) (pc (hC 8) (pc (hC 9) (pc (.inr (.inr ⟨10,_,_,rfl,rfl,rfl,by kernel_rfl⟩)) allp_nil)))))))))))) ?_) ?_
  ·rintro⟨x198,x199,x200⟩
   unfold prop_Run_m8296_l2
   refine jS ⟨[V 0 (.yld 10),V 2 (pt 9 1),V 8 (.fsl 1 (List.map c_L3 a0)),V 9 (iv (List.length a0:Int)),V 10 (iv x198),V 11 (bv (decide (x198 < (List.length a0:Int))))],[(0,.rows 1 (List.map cI a1)),W 1 1 [nilS],W 2 1 [iv 0],W 3 1 [pt 4 4098],(4,.rows 4098 [List.map aI8 x157 ++ [.osl 5 0 (List.length x158) 2]]),(5,.rows 2 (List.map c_S_api_Deduced x158)),W 6 1 [iv x199],W 7 1 [iv x200],W 8 1 [.fsl 1 (List.map c_L3 a0)],W 9 1 [pt 4 4098],(10,prop_Run_m8296_lp41 a0 .ready none)],11⟩ ?_
   refine jc_seq ?_
   refine jIf ?_ ?_
   ·refine jc_skip ?_
    refine jx_seqN ?_
    refine jc_seq ?_
    refine jc_block ?_
    refine jR ?_
    refine jG 0 1 ⟨[V 0 (.yld 10),V 2 (pt 9 1),V 8 (.fsl 1 (List.map c_L3 a0)),V 9 (iv (List.length a0:Int)),V 10 (iv x198),V 12 (iv x198)],[(0,.rows 1 (List.map cI a1)),W 1 1 [nilS],W 2 1 [iv 0],W 3 1 [pt 4 4098],(4,.rows 4098 [List.map aI8 x157 ++ [.osl 5 0 (List.length x158) 2]]),(5,.rows 2 (List.map c_S_api_Deduced x158)),W 6 1 [iv x199],W 7 1 [iv x200],W 8 1 [.fsl 1 (List.map c_L3 a0)],W 9 1 [pt 4 4098],(10,prop_Run_m8296_lp41 a0 .ready none)],11⟩ ?_
    refine jr_part (i:=1) (mo:=ixl a0 x198) rfl rfl rfl rfl (fun _ hc=>aop_ixf (c:=c_L3) (sz:=1) (e:=23) (kk:=.i64) (by kernel_rfl) (by kernel_rfl) (by kernel_rfl) (by kernel_rfl) hc) (fun _=>rfl) ?_
    intro x217 h217
    refine jG 2 3 ⟨[V 0 (.yld 10),V 2 (pt 9 1),V 4 (iv x198),V 5 (.fsl 1 (List.map cI x217)),V 8 (.fsl 1 (List.map c_L3 a0)),V 9 (iv (List.length a0:Int)),V 10 (iv x198)],[(0,.rows 1 (List.map cI a1)),W 1 1 [nilS],W 2 1 [iv 0],W 3 1 [pt 4 4098],(4,.rows 4098 [List.map aI8 x157 ++ [.osl 5 0 (List.length x158) 2]]),(5,.rows 2 (List.map c_S_api_Deduced x158)),W 6 1 [iv x199],W 7 1 [iv x200],W 8 1 [.fsl 1 (List.map c_L3 a0)],W 9 1 [pt 4 4098],(10,prop_Run_m8296_lp41 a0 .ready none)],11⟩ ?_
    refine jN ?_
    refine jR ?_
    refine jG 0 2 ⟨[V 0 (.yld 10),V 2 (pt 9 1),V 4 (iv x198),V 8 (.fsl 1 (List.map c_L3 a0)),V 9 (iv (List.length a0:Int)),V 10 (iv x198),V 16 (pt 4 4098),V 17 (.fsl 1 (List.map cI x217))],[(0,.rows 1 (List.map cI a1)),W 1 1 [nilS],W 2 1 [iv 0],W 3 1 [pt 4 4098],(4,.rows 4098 [List.map aI8 x157 ++ [.osl 5 0 (List.length x158) 2]]),(5,.rows 2 (List.map c_S_api_Deduced x158)),W 6 1 [iv x199],W 7 1 [iv x200],W 8 1 [.fsl 1 (List.map c_L3 a0)],W 9 1 [pt 4 4098],(10,prop_Run_m8296_lp41 a0 .ready none)],11⟩ ?_
    refine jr_callM 2 [(0,some 4),(1,some 5)] [(4,some 0),(5,some 1)] (fun r:Bool × Int=>[(0,.rows 1 (List.map cI a1)),W 1 1 [nilS],W 2 1 [iv 0],W 3 1 [pt 4 4098],(4,.rows 4098 [List.map aI8 x157 ++ [.osl 5 0 (List.length x158) 2]]),(5,.rows 2 (List.map c_S_api_Deduced x158)),W 6 1 [iv x199],W 7 1 [iv x200],W 8 1 [.fsl 1 (List.map c_L3 a0)],W 9 1 [pt 4 4098],(10,prop_Run_m8296_lp41 a0 .ready none)]) (fun r:Bool × Int=>.tup [bv r.1,iv r.2]) 11 (prop_sheet_look_ok x157 x158 x217) (pc (hA 4) (pc (hL 5 (noid_map ni_S_api_Deduced _)) allp_nil)) (fun r=>(pc (.inl ⟨rfl,rfl⟩) (pc (.inl ⟨rfl,rfl⟩) (pc (.inl ⟨rfl,rfl⟩) (pc (.inl ⟨rfl,rfl⟩) (pc (.inr (hA 0)) (pc (.inr (hL 1 (noid_map ni_S_api_Deduced _))) (pc (.inl ⟨rfl,rfl⟩) (pc (.inl ⟨rfl,rfl⟩) (pc (.inl ⟨rfl,rfl⟩) (pc (.inl ⟨rfl,rfl⟩) (pc (.inl ⟨rfl,rfl⟩) allp_nil)))))))))))) ?_
    rintro⟨x218,x219⟩ hm48
    refine jG 3 5 ⟨[V 0 (.yld 10),V 2 (pt 9 1),V 4 (iv x198),V 6 (bv x218),V 7 (iv x219),V 8 (.fsl 1 (List.map c_L3 a0)),V 9 (iv (List.length a0:Int)),V 10 (iv x198)],[(0,.rows 1 (List.map cI a1)),W 1 1 [nilS],W 2 1 [iv 0],W 3 1 [pt 4 4098],(4,.rows 4098 [List.map aI8 x157 ++ [.osl 5 0 (List.length x158) 2]]),(5,.rows 2 (List.map c_S_api_Deduced x158)),W 6 1 [iv x199],W 7 1 [iv x200],W 8 1 [.fsl 1 (List.map c_L3 a0)],W 9 1 [pt 4 4098],(10,prop_Run_m8296_lp41 a0 .ready none)],11⟩ ?_
    refine jN ?_
    refine jR ?_
    refine jG 0 6 ⟨[V 0 (.yld 10),V 2 (pt 9 1),V 4 (iv x198),V 7 (iv x219),V 8 (.fsl 1 (List.map c_L3 a0)),V 9 (iv (List.length a0:Int)),V 10 (iv x198),V 26 (bv (x218 || (x219 != 0)))],[(0,.rows 1 (List.map cI a1)),W 1 1 [nilS],W 2 1 [iv 0],W 3 1 [pt 4 4098],(4,.rows 4098 [List.map aI8 x157 ++ [.osl 5 0 (List.length x158) 2]]),(5,.rows 2 (List.map c_S_api_Deduced x158)),W 6 1 [iv x199],W 7 1 [iv x200],W 8 1 [.fsl 1 (List.map c_L3 a0)],W 9 1 [pt 4 4098],(10,prop_Run_m8296_lp41 a0 .ready none)],11⟩ ?_
    refine jr_bind 6 6 (fun y=>match y with | Sum.inl _=>⟨[V 0 (.yld 10),V 2 (pt 9 1),V 8 (.fsl 1 (List.map c_L3 a0)),V 9 (iv (List.length a0:Int)),V 10 (iv x198),V 32 (bv true)],[(0,.rows 1 (List.map cI a1)),W 1 1 [.osl 5 0 (List.length x158) 2],W 2 1 [iv x198],W 3 1 [pt 4 4098],(4,.rows 4098 [List.map aI8 x157 ++ [.osl 5 0 (List.length x158) 2]]),(5,.rows 2 (List.map c_S_api_Deduced x158)),W 6 1 [iv x199],W 7 1 [iv x200],W 8 1 [.fsl 1 (List.map c_L3 a0)],W 9 1 [pt 4 4098],(10,prop_Run_m8296_lp41 a0 .done (some .ret))],11⟩ | Sum.inr (x223,x224)=>⟨[V 0 (.yld 10),V 2 (pt 9 1),V 8 (.fsl 1 (List.map c_L3 a0)),V 9 (iv (List.length a0:Int)),V 10 (iv x198),V 32 (bv false)],[(0,.rows 1 (List.map cI a1)),W 1 1 [nilS],W 2 1 [iv 0],W 3 1 [pt 4 4098],(4,.rows 4098 [List.map aI8 x157 ++ [.osl 5 0 (List.length x158) 2]]),(5,.rows 2 (List.map c_S_api_Deduced x158)),W 6 1 [iv x223],W 7 1 [iv x224],W 8 1 [.fsl 1 (List.map c_L3 a0)],W 9 1 [pt 4 4098],(10,prop_Run_m8296_lp41 a0 .ready none)],11⟩) ?_ ?_
    ·refine jSp 26 ?_ ?_
     ·refine jG 0 3 ⟨[V 0 (.yld 10),V 2 (pt 9 1),V 8 (.fsl 1 (List.map c_L3 a0)),V 9 (iv (List.length a0:Int)),V 10 (iv x198),(26,.lit true),V 27 (.yld 10),V 28 (iv x198),V 29 (iv x219)],[(0,.rows 1 (List.map cI a1)),W 1 1 [nilS],W 2 1 [iv 0],W 3 1 [pt 4 4098],(4,.rows 4098 [List.map aI8 x157 ++ [.osl 5 0 (List.length x158) 2]]),(5,.rows 2 (List.map c_S_api_Deduced x158)),W 6 1 [iv x199],W 7 1 [iv x200],W 8 1 [.fsl 1 (List.map c_L3 a0)],W 9 1 [pt 4 4098],(10,prop_Run_m8296_lp41 a0 .ready none)],11⟩ ?_
      refine jr_yield (i:=3) (l:=10) (Nc:=65) (Kc:=[V 0 (.fsl 1 (List.map c_L3 a0)),V 4 (pt 1 1),V 5 (pt 2 1),V 6 (pt 3 1),V 9 (pt 6 1),V 10 (pt 7 1),V 41 (.fn 39 [pt 8 1,pt 9 1])]) (ps:=[42,43]) (vs:=[iv x198,iv x219]) (fun y=>match y with | Sum.inl _=>⟨[],[(0,.rows 1 (List.map cI a1)),W 1 1 [.osl 5 0 (List.length x158) 2],W 2 1 [iv x198],W 3 1 [pt 4 4098],(4,.rows 4098 [List.map aI8 x157 ++ [.osl 5 0 (List.length x158) 2]]),(5,.rows 2 (List.map c_S_api_Deduced x158)),W 6 1 [iv x199],W 7 1 [iv x200],W 8 1 [.fsl 1 (List.map c_L3 a0)],W 9 1 [pt 4 4098],(10,prop_Run_m8296_lp41 a0 .busy none)],11⟩ | Sum.inr (x226,x227)=>⟨[],[(0,.rows 1 (List.map cI a1)),W 1 1 [nilS],W 2 1 [iv 0],W 3 1 [pt 4 4098],(4,.rows 4098 [List.map aI8 x157 ++ [.osl 5 0 (List.length x158) 2]]),(5,.rows 2 (List.map c_S_api_Deduced x158)),W 6 1 [iv x226],W 7 1 [iv x227],W 8 1 [.fsl 1 (List.map c_L3 a0)],W 9 1 [pt 4 4098],(10,prop_Run_m8296_lp41 a0 .busy none)],11⟩) (fun y=>match y with | Sum.inl _=>.ret | Sum.inr (x226,x227)=>.normal) [0,2,8,9,10,26,30] [0,1,2,3,4,5,6,7,8,9,10] (after:=(fun y=>match y with | Sum.inl _=>⟨[V 0 (.yld 10),V 2 (pt 9 1),V 8 (.fsl 1 (List.map c_L3 a0)),V 9 (iv (List.length a0:Int)),V 10 (iv x198),(26,.lit true),V 30 (bv false)],[(0,.rows 1 (List.map cI a1)),W 1 1 [.osl 5 0 (List.length x158) 2],W 2 1 [iv x198],W 3 1 [pt 4 4098],(4,.rows 4098 [List.map aI8 x157 ++ [.osl 5 0 (List.length x158) 2]]),(5,.rows 2 (List.map c_S_api_Deduced x158)),W 6 1 [iv x199],W 7 1 [iv x200],W 8 1 [.fsl 1 (List.map c_L3 a0)],W 9 1 [pt 4 4098],(10,prop_Run_m8296_lp41 a0 .done (some .ret))],11⟩ | Sum.inr (x226,x227)=>⟨[V 0 (.yld 10),V 2 (pt 9 1),V 8 (.fsl 1 (List.map c_L3 a0)),V 9 (iv (List.length a0:Int)),V 10 (iv x198),(26,.lit true),V 30 (bv true)],[(0,.rows 1 (List.map cI a1)),W 1 1 [nilS],W 2 1 [iv 0],W 3 1 [pt 4 4098],(4,.rows 4098 [List.map aI8 x157 ++ [.osl 5 0 (List.length x158) 2]]),(5,.rows 2 (List.map c_S_api_Deduced x158)),W 6 1 [iv x226],W 7 1 [iv x227],W 8 1 [.fsl 1 (List.map c_L3 a0)],W 9 1 [pt 4 4098],(10,prop_Run_m8296_lp41 a0 .ready none)],11⟩)) rfl rfl prop_Run_m8296_y21_aw prop_Run_m8296_y21_bw (by kernel_rfl) (by kernel_rfl) (yctx_of hc41 rfl) rfl (by kernel_rfl) rfl ?_ (by rintro (_ | ⟨x226,x227⟩) <;> exact⟨none,by kernel_rfl⟩) (by rintro (_ | ⟨x226,x227⟩) <;> kernel_rfl) ?_
      ·intro F47 hy47
       refine jS ⟨[V 4 (pt 1 1),V 5 (pt 2 1),V 6 (pt 3 1),V 9 (pt 6 1),V 10 (pt 7 1),V 11 (iv x198),V 43 (iv x219)],[(0,.rows 1 (List.map cI a1)),W 1 1 [nilS],W 2 1 [iv 0],W 3 1 [pt 4 4098],(4,.rows 4098 [List.map aI8 x157 ++ [.osl 5 0 (List.length x158) 2]]),(5,.rows 2 (List.map c_S_api_Deduced x158)),W 6 1 [iv x199],W 7 1 [iv x200],W 8 1 [.fsl 1 (List.map c_L3 a0)],W 9 1 [pt 4 4098],(10,prop_Run_m8296_lp41 a0 .ready none)],11⟩ ?_
       refine jT ⟨[V 4 (pt 1 1),V 5 (pt 2 1),V 6 (pt 3 1),V 9 (pt 6 1),V 10 (pt 7 1),V 11 (iv x198),V 12 (iv x219)],[(0,.rows 1 (List.map cI a1)),W 1 1 [nilS],W 2 1 [iv 0],W 3 1 [pt 4 4098],(4,.rows 4098 [List.map aI8 x157 ++ [.osl 5 0 (List.length x158) 2]]),(5,.rows 2 (List.map c_S_api_Deduced x158)),W 6 1 [iv x199],W 7 1 [iv x200],W 8 1 [.fsl 1 (List.map c_L3 a0)],W 9 1 [pt 4 4098],(10,prop_Run_m8296_lp41 a0 .ready none)],11⟩ ?_
       refine jx_asg hy47 rfl ?_
       refine jc_block ?_
       refine jc_seq ?_
       refine jS ⟨[V 4 (pt 1 1),V 5 (pt 2 1),V 6 (pt 3 1),V 9 (pt 6 1),V 10 (pt 7 1),V 11 (iv x198),V 12 (iv x219),V 45 (bv (x219 == 0))],[(0,.rows 1 (List.map cI a1)),W 1 1 [nilS],W 2 1 [iv 0],W 3 1 [pt 4 4098],(4,.rows 4098 [List.map aI8 x157 ++ [.osl 5 0 (List.length x158) 2]]),(5,.rows 2 (List.map c_S_api_Deduced x158)),W 6 1 [iv x199],W 7 1 [iv x200],W 8 1 [.fsl 1 (List.map c_L3 a0)],W 9 1 [pt 4 4098],(10,prop_Run_m8296_lp41 a0 .busy none)],11⟩ ?_
       refine jIf ?_ ?_
       ·refine jR ?_
        refine jG 0 3 ⟨[V 4 (pt 1 1),V 5 (pt 2 1),V 11 (iv x198),V 48 (.ptr 4 0 4098 4097)],[(0,.rows 1 (List.map cI a1)),W 1 1 [nilS],W 2 1 [iv 0],W 3 1 [pt 4 4098],(4,.rows 4098 [List.map aI8 x157 ++ [.osl 5 0 (List.length x158) 2]]),(5,.rows 2 (List.map c_S_api_Deduced x158)),W 6 1 [iv x199],W 7 1 [iv x200],W 8 1 [.fsl 1 (List.map c_L3 a0)],W 9 1 [pt 4 4098],(10,prop_Run_m8296_lp41 a0 .busy none)],11⟩ ?_
        refine jr_guard ?_
        intro x228 h228
        refine jr_one (i:=3) (v:=.osl 5 0 (List.length x158) 2) (us:=[]) rfl rfl rfl rfl (aop_ldr (l:=x157) (c:=aI8) (rest:=[.osl 5 0 (List.length x158) 2]) (id:=4) (sz:=4098) (m:=4097) (q:=0) (by kernel_rfl) (by kernel_rfl) (by kernel_rfl) (by kernel_rfl) (lenA_iff h228) (by kernel_rfl)) rfl ?_
        refine jG 4 3 ⟨[],[(0,.rows 1 (List.map cI a1)),W 1 1 [.osl 5 0 (List.length x158) 2],W 2 1 [iv x198],W 3 1 [pt 4 4098],(4,.rows 4098 [List.map aI8 x157 ++ [.osl 5 0 (List.length x158) 2]]),(5,.rows 2 (List.map c_S_api_Deduced x158)),W 6 1 [iv x199],W 7 1 [iv x200],W 8 1 [.fsl 1 (List.map c_L3 a0)],W 9 1 [pt 4 4098],(10,prop_Run_m8296_lp41 a0 .busy none)],11⟩ ?_
        refine jN ?_
        refine jc_ret ?_
        refine jx_seqR ?_
        refine jx_blkR ?_
        exact jx_mid rfl (wkR [(0,some 0),(1,some 1),(2,some 2),(3,some 3),(4,some 4),(5,some 5),(6,some 6),(7,some 7),(8,some 8),(9,some 9),(10,some 10)] (fix_of hy47.2 (k:=11) rfl) (pc (hL 0 (noid_map ni_I _)) (pc (hC 1) (pc (hC 2) (pc (hC 3) (pc (hA 4) (pc (hL 5 (noid_map ni_S_api_Deduced _)) (pc (hC 6) (pc (hC 7) (pc (hC 8) (pc (hC 9) (pc (.inr (.inr ⟨10,_,_,rfl,rfl,rfl,by kernel_rfl⟩)) allp_nil))))))))))))
       refine jc_skip ?_
       refine jx_seqN ?_
       refine jS ⟨[V 9 (pt 6 1),V 10 (pt 7 1),V 11 (iv x198),V 12 (iv x219),V 52 (bv (decide (x199 < 0)))],[(0,.rows 1 (List.map cI a1)),W 1 1 [nilS],W 2 1 [iv 0],W 3 1 [pt 4 4098],(4,.rows 4098 [List.map aI8 x157 ++ [.osl 5 0 (List.length x158) 2]]),(5,.rows 2 (List.map c_S_api_Deduced x158)),W 6 1 [iv x199],W 7 1 [iv x200],W 8 1 [.fsl 1 (List.map c_L3 a0)],W 9 1 [pt 4 4098],(10,prop_Run_m8296_lp41 a0 .busy none)],11⟩ ?_
       refine jIf ?_ ?_
       ·refine jT ⟨[],[(0,.rows 1 (List.map cI a1)),W 1 1 [nilS],W 2 1 [iv 0],W 3 1 [pt 4 4098],(4,.rows 4098 [List.map aI8 x157 ++ [.osl 5 0 (List.length x158) 2]]),(5,.rows 2 (List.map c_S_api_Deduced x158)),W 6 1 [iv x198],W 7 1 [iv x219],W 8 1 [.fsl 1 (List.map c_L3 a0)],W 9 1 [pt 4 4098],(10,prop_Run_m8296_lp41 a0 .busy none)],11⟩ ?_
        refine jx_blkN ?_
        exact jx_mid rfl (wkR [(0,some 0),(1,some 1),(2,some 2),(3,some 3),(4,some 4),(5,some 5),(6,some 6),(7,some 7),(8,some 8),(9,some 9),(10,some 10)] (fix_of hy47.2 (k:=11) rfl) (pc (hL 0 (noid_map ni_I _)) (pc (hC 1) (pc (hC 2) (pc (hC 3) (pc (hA 4) (pc (hL 5 (noid_map ni_S_api_Deduced _)) (pc (hC 6) (pc (hC 7) (pc (hC 8) (pc (hC 9) (pc (.inr (.inr ⟨10,_,_,rfl,rfl,rfl,by kernel_rfl⟩)) allp_nil))))))))))))
       refine jc_skip ?_
       refine jx_blkN ?_
       exact jx_mid rfl (wkR [(0,some 0),(1,some 1),(2,some 2),(3,some 3),(4,some 4),(5,some 5),(6,some 6),(7,some 7),(8,some 8),(9,some 9),(10,some 10)] (fix_of hy47.2 (k:=11) rfl) (pc (hL 0 (noid_map ni_I _)) (pc (hC 1) (pc (hC 2) (pc (hC 3) (pc (hA 4) (pc (hL 5 (noid_map ni_S_api_Deduced _)) (pc (hC 6) (pc (hC 7) (pc (hC 8) (pc (hC 9) (pc (.inr (.inr ⟨10,_,_,rfl,rfl,rfl,by kernel_rfl⟩)) allp_nil))))))))))))
      rintro (_ | ⟨x226,x227⟩)
      ·refine jG 4 2 ⟨[V 0 (.yld 10),V 2 (pt 9 1),V 8 (.fsl 1 (List.map c_L3 a0)),V 9 (iv (List.length a0:Int)),V 10 (iv x198),V 32 (bv true)],[(0,.rows 1 (List.map cI a1)),W 1 1 [.osl 5 0 (List.length x158) 2],W 2 1 [iv x198],W 3 1 [pt 4 4098],(4,.rows 4098 [List.map aI8 x157 ++ [.osl 5 0 (List.length x158) 2]]),(5,.rows 2 (List.map c_S_api_Deduced x158)),W 6 1 [iv x199],W 7 1 [iv x200],W 8 1 [.fsl 1 (List.map c_L3 a0)],W 9 1 [pt 4 4098],(10,prop_Run_m8296_lp41 a0 .done (some .ret))],11⟩ ?_
       refine jr_nil rfl ?_
       exact jx_mid rfl (wkR [(0,some 0),(1,some 1),(2,some 2),(3,some 3),(4,some 4),(5,some 5),(6,some 6),(7,some 7),(8,some 8),(9,some 9),(10,some 10)] (fix_of hc41.2.2 (k:=11) rfl) (pc (hL 0 (noid_map ni_I _)) (pc (hC 1) (pc (hC 2) (pc (hC 3) (pc (hA 4) (pc (hL 5 (noid_map ni_S_api_Deduced _)) (pc (hC 6) (pc (hC 7) (pc (hC 8) (pc (hC 9) (pc (.inr (.inr ⟨10,_,_,rfl,rfl,rfl,by kernel_rfl⟩)) allp_nil))))))))))))
      refine jG 4 2 ⟨[V 0 (.yld 10),V 2 (pt 9 1),V 8 (.fsl 1 (List.map c_L3 a0)),V 9 (iv (List.length a0:Int)),V 10 (iv x198),V 32 (bv false)],[(0,.rows 1 (List.map cI a1)),W 1 1 [nilS],W 2 1 [iv 0],W 3 1 [pt 4 4098],(4,.rows 4098 [List.map aI8 x157 ++ [.osl 5 0 (List.length x158) 2]]),(5,.rows 2 (List.map c_S_api_Deduced x158)),W 6 1 [iv x226],W 7 1 [iv x227],W 8 1 [.fsl 1 (List.map c_L3 a0)],W 9 1 [pt 4 4098],(10,prop_Run_m8296_lp41 a0 .ready none)],11⟩ ?_
      refine jr_nil rfl ?_
      exact jx_mid rfl (wkR [(0,some 0),(1,some 1),(2,some 2),(3,some 3),(4,some 4),(5,some 5),(6,some 6),(7,some 7),(8,some 8),(9,some 9),(10,some 10)] (fix_of hc41.2.2 (k:=11) rfl) (pc (hL 0 (noid_map ni_I _)) (pc (hC 1) (pc (hC 2) (pc (hC 3) (pc (hA 4) (pc (hL 5 (noid_map ni_S_api_Deduced _)) (pc (hC 6) (pc (hC 7) (pc (hC 8) (pc (hC 9) (pc (.inr (.inr ⟨10,_,_,rfl,rfl,rfl,by kernel_rfl⟩)) allp_nil))))))))))))
     refine jG 0 6 ⟨[V 0 (.yld 10),V 2 (pt 9 1),V 8 (.fsl 1 (List.map c_L3 a0)),V 9 (iv (List.length a0:Int)),V 10 (iv x198),V 32 (bv false)],[(0,.rows 1 (List.map cI a1)),W 1 1 [nilS],W 2 1 [iv 0],W 3 1 [pt 4 4098],(4,.rows 4098 [List.map aI8 x157 ++ [.osl 5 0 (List.length x158) 2]]),(5,.rows 2 (List.map c_S_api_Deduced x158)),W 6 1 [iv x199],W 7 1 [iv x200],W 8 1 [.fsl 1 (List.map c_L3 a0)],W 9 1 [pt 4 4098],(10,prop_Run_m8296_lp41 a0 .ready none)],11⟩ ?_
     refine jr_nil rfl ?_
     exact jx_mid rfl (wkR [(0,some 0),(1,some 1),(2,some 2),(3,some 3),(4,some 4),(5,some 5),(6,some 6),(7,some 7),(8,some 8),(9,some 9),(10,some 10)] (fix_of hc41.2.2 (k:=11) rfl) (pc (hL 0 (noid_map ni_I _)) (pc (hC 1) (pc (hC 2) (pc (hC 3) (pc (hA 4) (pc (hL 5 (noid_map ni_S_api_Deduced _)) (pc (hC 6) (pc (hC 7) (pc (hC 8) (pc (hC 9) (pc (.inr (.inr ⟨10,_,_,rfl,rfl,rfl,by kernel_rfl⟩)) allp_nil))))))))))))
    rintro (_ | ⟨x223,x224⟩)
    ·refine jN ?_
     refine jc_condK (c:=true) (by kernel_rfl) ?_
     refine jc_ret ?_
     refine jx_blkR ?_
     refine jx_seqR ?_
     exact jx_done rfl nofun (wkR [(0,some 0),(1,some 1),(2,some 2),(3,some 3),(4,some 4),(5,some 5),(6,some 6),(7,some 7),(8,some 8),(9,some 9),(10,some 10)] (fix_of hc41.2.2 (k:=11) rfl) (pc (hL 0 (noid_map ni_I _)) (pc (hC 1) (pc (hC 2) (pc (hC 3) (pc (hA 4) (pc (hL 5 (noid_map ni_S_api_Deduced _)) (pc (hC 6) (pc (hC 7) (pc (hC 8) (pc (hC 9) (pc (.inr (.inr ⟨10,_,_,rfl,rfl,rfl,by kernel_rfl⟩)) allp_nil))))))))))))
    refine jN ?_
    refine jc_condK (c:=false) (by kernel_rfl) ?_
    refine jc_skip ?_
    refine jx_blkN ?_
    refine jx_seqN ?_
    refine jT ⟨[V 0 (.yld 10),V 2 (pt 9 1),V 8 (.fsl 1 (List.map c_L3 a0)),V 9 (iv (List.length a0:Int)),V 10 (iv (w64 (x198 + 1)))],[(0,.rows 1 (List.map cI a1)),W 1 1 [nilS],W 2 1 [iv 0],W 3 1 [pt 4 4098],(4,.rows 4098 [List.map aI8 x157 ++ [.osl 5 0 (List.length x158) 2]]),(5,.rows 2 (List.map c_S_api_Deduced x158)),W 6 1 [iv x223],W 7 1 [iv x224],W 8 1 [.fsl 1 (List.map c_L3 a0)],W 9 1 [pt 4 4098],(10,prop_Run_m8296_lp41 a0 .ready none)],11⟩ ?_
    exact jx_next (wkR [(0,some 0),(1,some 1),(2,some 2),(3,some 3),(4,some 4),(5,some 5),(6,some 6),(7,some 7),(8,some 8),(9,some 9),(10,some 10)] (fix_of hc41.2.2 (k:=11) rfl) (pc (hL 0 (noid_map ni_I _)) (pc (hC 1) (pc (hC 2) (pc (hC 3) (pc (hA 4) (pc (hL 5 (noid_map ni_S_api_Deduced _)) (pc (hC 6) (pc (hC 7) (pc (hC 8) (pc (hC 9) (pc (.inr (.inr ⟨10,_,_,rfl,rfl,rfl,by kernel_rfl⟩)) allp_nil))))))))))))
   refine jc_exit ?_
   refine jx_seqE ?_
   exact jx_done rfl nofun (wkR [(0,some 0),(1,some 1),(2,some 2),(3,some 3),(4,some 4),(5,some 5),(6,some 6),(7,some 7),(8,some 8),(9,some 9),(10,some 10)] (fix_of hc41.2.2 (k:=11) rfl) (pc (hL 0 (noid_map ni_I _)) (pc (hC 1) (pc (hC 2) (pc (hC 3) (pc (hA 4) (pc (hL 5 (noid_map ni_S_api_Deduced _)) (pc (hC 6) (pc (hC 7) (pc (hC 8) (pc (hC 9) (pc (.inr (.inr ⟨10,_,_,rfl,rfl,rfl,by kernel_rfl⟩)) allp_nil))))))))))))
  rintro (⟨x212,x213,x214⟩ | ⟨x215,x216⟩)
  ·refine jx_blkR ?_
   refine jx_rng hc41 (.inr rfl) rfl nofun rfl ?_
   refine jx_blkR ?_
   refine jx_seqR ?_
   refine jx_blkR ?_
   exact jx_done rfl nofun (wkR [(0,some 0),(1,some 1),(2,some 5),(3,some 2)] (fix_of hF (k:=1) rfl) (pc (hL 0 (noid_map ni_I _)) (pc (hC 1) (pc (hL 5 (noid_map ni_S_api_Deduced _)) (pc (hC 2) allp_nil)))))
  refine jx_blkE ?_
  refine jx_rng hc41 (.inl rfl) rfl nofun rfl ?_
  refine jx_blkN ?_
  refine jx_seqN ?_
  refine jc_seq ?_
  refine jS ⟨[V 0 (.fsl 1 (List.map c_L3 a0)),V 4 (pt 1 1),V 5 (pt 2 1),V 6 (pt 3 1),V 9 (pt 6 1),V 10 (pt 7 1),V 56 (bv (decide (x215 < 0)))],[(0,.rows 1 (List.map cI a1)),W 1 1 [nilS],W 2 1 [iv 0],W 3 1 [pt 4 4098],(4,.rows 4098 [List.map aI8 x157 ++ [.osl 5 0 (List.length x158) 2]]),(5,.rows 2 (List.map c_S_api_Deduced x158)),W 6 1 [iv x215],W 7 1 [iv x216]],11⟩ ?_
  refine jIf ?_ ?_
  ·refine jc_exit ?_
   refine jx_seqE ?_
   refine jx_blkX rfl ?_
   exact jx_done rfl nofun (wkR [(0,some 0),(1,some 1),(2,some 2),(3,some 3),(4,some 4),(5,some 5)] (fix_of hF (k:=1) rfl) (pc (hL 0 (noid_map ni_I _)) (pc (hC 1) (pc (hC 2) (pc (hC 3) (pc (hA 4) (pc (hL 5 (noid_map ni_S_api_Deduced _)) allp_nil)))))))
  refine jc_skip ?_
  refine jx_seqN ?_
  refine jc_reg ?_
  refine jG 0 3 ⟨[V 0 (.fsl 1 (List.map c_L3 a0)),V 4 (pt 1 1),V 5 (pt 2 1),V 6 (pt 3 1),V 57 (pt 4 4098),V 58 (iv x216),V 59 (iv x215)],[(0,.rows 1 (List.map cI a1)),W 1 1 [nilS],W 2 1 [iv 0],W 3 1 [pt 4 4098],(4,.rows 4098 [List.map aI8 x157 ++ [.osl 5 0 (List.length x158) 2]]),(5,.rows 2 (List.map c_S_api_Deduced x158))],11⟩ ?_
  refine jr_callM 3 [(0,some 4),(1,some 5)] [(4,some 0),(11,some 2)] (fun r:List Int × List S_api_Deduced=>[(0,.rows 1 (List.map cI a1)),W 1 1 [nilS],W 2 1 [iv 0],W 3 1 [pt 4 4098],(4,.rows 4098 [List.map aI8 r.1 ++ [.osl 11 0 (List.length r.2) 2]]),(11,.rows 2 (List.map c_S_api_Deduced r.2))]) (fun r:List Int × List S_api_Deduced=>.tup []) 12 (prop_sheet_set_ok x157 x158 x216 x215) (pc (hA 4) (pc (hL 5 (noid_map ni_S_api_Deduced _)) allp_nil)) (fun r=>(pc (.inl ⟨rfl,rfl⟩) (pc (.inl ⟨rfl,rfl⟩) (pc (.inl ⟨rfl,rfl⟩) (pc (.inl ⟨rfl,rfl⟩) (pc (.inr (hA 0)) (pc (.inr (hL 2 (noid_map ni_S_api_Deduced _))) allp_nil))))))) ?_
  rintro⟨x229,x230⟩ hm49
  refine jr_nil rfl ?_
  refine jx_blkN ?_
  exact jx_next (wkR [(0,some 0),(1,some 1),(2,some 2),(3,some 3),(4,some 4),(5,some 11)] (fix_of hF (k:=1) rfl) (pc (hL 0 (noid_map ni_I _)) (pc (hC 1) (pc (hC 2) (pc (hC 3) (pc (hA 4) (pc (hL 11 (noid_map ni_S_api_Deduced _)) allp_nil)))))))
 rintro (⟨x188,x189⟩ | ⟨x190,x191⟩)
 ·refine jx_blkR ?_
  refine jx_seqR ?_
  refine jx_scopeR ?_
  exact jx_retM (prop_Run_m8296_T a0 a1 (x188,x189)) (.inr rfl) (wkR [(0,some 0),(1,some 1),(2,some 2),(3,some 3)] (fix_of hF (k:=1) rfl) (pc (hL 0 (noid_map ni_I _)) (pc (hC 1) (pc (hL 2 (noid_map ni_S_api_Deduced _)) (pc (hC 3) allp_nil)))))
 refine jx_blkE ?_
 refine jx_seqN ?_
 refine jR ?_
 refine jG 0 3 ⟨[V 4 (pt 1 1),V 5 (pt 2 1),V 63 (.ptr 4 0 4098 4097)],[(0,.rows 1 (List.map cI a1)),W 1 1 [nilS],W 2 1 [iv 0],(4,.rows 4098 [List.map aI8 x190 ++ [.osl 5 0 (List.length x191) 2]]),(5,.rows 2 (List.map c_S_api_Deduced x191))],6⟩ ?_
 refine jr_guard ?_
 intro x231 h231
 refine jr_one (i:=3) (v:=.osl 5 0 (List.length x191) 2) (us:=[]) rfl rfl rfl rfl (aop_ldr (l:=x190) (c:=aI8) (rest:=[.osl 5 0 (List.length x191) 2]) (id:=4) (sz:=4098) (m:=4097) (q:=0) (by kernel_rfl) (by kernel_rfl) (by kernel_rfl) (by kernel_rfl) (lenA_iff h231) (by kernel_rfl)) rfl ?_
 refine jG 4 2 ⟨[V 4 (pt 1 1),V 5 (pt 2 1)],[(0,.rows 1 (List.map cI a1)),W 1 1 [.osl 5 0 (List.length x191) 2],W 2 1 [iv (-1)],(5,.rows 2 (List.map c_S_api_Deduced x191))],6⟩ ?_
 refine jN ?_
 refine jc_ret ?_
 refine jx_scopeR ?_
 exact jx_retM (prop_Run_m8296_T a0 a1 (x191,(-1))) (.inr rfl) (wkR [(0,some 0),(1,some 1),(2,some 5),(3,some 2)] (fix_of hF (k:=1) rfl) (pc (hL 0 (noid_map ni_I _)) (pc (hC 1) (pc (hL 5 (noid_map ni_S_api_Deduced _)) (pc (hC 2) allp_nil))))))
abbrev prop_Follows_r1:List LO:=[lo 4 (.assign (.const (.bool false))) 4]
abbrev prop_Follows_r2:List LO:=[lo 5 (.assign (.const (.slice none 0 0))) 23]
abbrev prop_Follows_r3:List LO:=[lm 10 1 23,lo 11 (.call ⟨.builtin .len,#[.tmp 10],#[23]⟩) 3,lo 12 (.move (.const (.int .i64 0))) 3]
abbrev prop_Follows_r4:List LO:=[lo 13 (.binOp .lss 3 (.tmp 12) (.tmp 11) 3) 0]
abbrev prop_Follows_r5:List LO:=[lo 14 (.indexAddr 23 (.tmp 10) (.tmp 12)) 0,lo 15 (.load 3 (.tmp 14)) 3,lo 7 (.assign (.tmp 15)) 3]
abbrev prop_Follows_r6:List LO:=[lm 16 7 3,lo 17 (.call ⟨.value (.func 25),#[.tmp 16],#[3]⟩) 4,lo 18 (.unOp .not 4 (.tmp 17)) 4]
abbrev prop_Follows_r7:List LO:=[lo 4 (.assign (.const (.bool false))) 4]
abbrev prop_Follows_r8:List LO:=[lm 19 5 23,lm 20 7 3,lo 21 (.unOp .neg 3 (.tmp 20)) 3,lo 22 (.buildSlice 23 1 #[(0,.tmp 21)]) 23,lo 23 (.call ⟨.builtin .append,#[.tmp 19,.tmp 22],#[23,23]⟩) 23,lo 5 (.assign (.tmp 23)) 23]
abbrev prop_Follows_r9:List LO:=[lo 24 (.binOp .add 3 (.tmp 12) (.const (.int .i64 1)) 3) 3,lm 12 24 3]
abbrev prop_Follows_r10:List LO:=[lm 26 0 22,lm 27 5 23,lo 28 (.call ⟨.value (.func 8),#[.tmp 26,.tmp 27],#[22,23]⟩) 26,lm 25 28 26,lo 29 (.extract (.tmp 25) 0) 25,lo 30 (.extract (.tmp 25) 1) 3,lo 8 (.assign (.tmp 29)) 25,lo 9 (.assign (.tmp 30)) 3]
abbrev prop_Follows_r11:List LO:=[lm 31 9 3,lo 32 (.binOp .neq 3 (.tmp 31) (.const (.int .i64 (-1))) 3) 4,lo 4 (.assign (.tmp 32)) 4]
abbrev prop_Follows_c:LC:=.seq (.reg false prop_Follows_r1) (.seq (.reg false prop_Follows_r2) (.seq (.seq (.reg false prop_Follows_r3) (.block 0 (.loop (.seq (.reg false prop_Follows_r4) (.seq (.cond (.tmp 13) .skip (.exit 0)) (.seq (.block 1 (.seq (.reg false prop_Follows_r5) (.seq (.seq (.reg false prop_Follows_r6) (.cond (.tmp 18) (.seq (.reg false prop_Follows_r7) .ret) .skip)) (.reg false prop_Follows_r8)))) (.reg false prop_Follows_r9))))))) (.seq (.reg false prop_Follows_r10) (.seq (.reg false prop_Follows_r11) .ret))))
theorem prop_Follows_k:FnOk E 19 33 [.tmp 4] prop_Follows_c:=⟨⟨Go.Proofs.Try.f19,by kernel_rfl,by kernel_rfl,by kernel_rfl,by kernel_rfl,by kernel_rfl⟩,rfl,rfl⟩
noncomputable def prop_Follows_l1 (a1:(List Int)):(List Int × Int)→Option (Step (List Int × Int) ((Unit) ⊕ (List Int))):=fun (x4,x5)=>(if (decide (x5 < (List.length a1:Int)))=true then Option.bind (ixl a1 x5) (fun x12=>Option.bind (prop_literal x12) (fun x13=>(if (!x13)=true then some (Step.done (Sum.inl ())) else Option.bind (app 8 x4 [(w64 (0 - x12))]) (fun x14=>some (Step.next (x14,(w64 (x5 + 1)))))))) else some (Step.done (Sum.inr x4)))
noncomputable def prop_Follows (a0:(List (List Int))) (a1:(List Int)):Option (Bool):=Option.bind (loopC (prop_Follows_l1 a1) ([],0)) (fun y=>match y with | Sum.inl _=>some false | Sum.inr x11=>Option.bind (prop_Run_m8296 a0 x11) (fun (x15,x16)=>some (x16 != (-1))))
theorem prop_Follows_ok (a0:(List (List Int))) (a1:(List Int)):Ct E 19 [.fsl 1 (List.map c_L3 a0),.fsl 1 (List.map cI a1)] (prop_Follows a0 a1) (fun r:Bool=>bv r):=ct_intro (N:=33) (L:=prop_Follows_c) prop_Follows_k rfl (Nat.le_of_ble_eq_true rfl) (by kernel_rfl) (by
 unfold prop_Follows
 refine jS ⟨[V 0 (.fsl 1 (List.map c_L3 a0)),V 1 (.fsl 1 (List.map cI a1))],[],0⟩ ?_
 refine jS ⟨[V 0 (.fsl 1 (List.map c_L3 a0)),V 1 (.fsl 1 (List.map cI a1)),V 5 (nilS)],[],0⟩ ?_
 refine jc_seq ?_
 refine jR ?_
 refine jG 0 3 ⟨[V 0 (.fsl 1 (List.map c_L3 a0)),V 5 (nilS),V 10 (.fsl 1 (List.map cI a1)),V 11 (iv (List.length (List.map cI a1):Int)),V 12 (iv 0)],[],0⟩ ?_
 simp only[List.length_map]
 refine jN ?_
 refine jc_block ?_
 refine jc_bind (fun y=>match y with | Sum.inl _=>⟨[V 4 (bv false)],[],0⟩ | Sum.inr x11=>⟨[V 0 (.fsl 1 (List.map c_L3 a0)),V 5 (.osl 0 0 (List.length x11) 1)],[(0,.rows 1 (List.map cI x11))],1⟩) (fun y=>match y with | Sum.inl _=>.ret | Sum.inr x11=>(.exit 0)) (jc_loop (fun (x4,x5)=>⟨[V 0 (.fsl 1 (List.map c_L3 a0)),V 5 (.osl 0 0 (List.length x4) 1),V 10 (.fsl 1 (List.map cI a1)),V 11 (iv (List.length a1:Int)),V 12 (iv x5)],[(0,.rows 1 (List.map cI x4))],1⟩) (wkR [(0,none)] (fix_nil _) (pc hZ allp_nil)) ?_) ?_
 ·rintro⟨x4,x5⟩
  unfold prop_Follows_l1
  refine jS ⟨[V 0 (.fsl 1 (List.map c_L3 a0)),V 5 (.osl 0 0 (List.length x4) 1),V 10 (.fsl 1 (List.map cI a1)),V 11 (iv (List.length a1:Int)),V 12 (iv x5),V 13 (bv (decide (x5 < (List.length a1:Int))))],[(0,.rows 1 (List.map cI x4))],1⟩ ?_
  refine jc_seq ?_
  refine jIf ?_ ?_
  ·refine jc_skip ?_
   refine jx_seqN ?_
   refine jc_seq ?_
   refine jc_block ?_
   refine jR ?_
   refine jr_part (i:=0) (mo:=ixl a1 x5) rfl rfl rfl rfl (fun _ hc=>aop_ixf (c:=cI) (sz:=1) (e:=3) (kk:=.i64) (by kernel_rfl) (by kernel_rfl) (by kernel_rfl) (by kernel_rfl) hc) (fun _=>rfl) ?_
   intro x12 h12
   refine jG 1 2 ⟨[V 0 (.fsl 1 (List.map c_L3 a0)),V 5 (.osl 0 0 (List.length x4) 1),V 7 (iv x12),V 10 (.fsl 1 (List.map cI a1)),V 11 (iv (List.length a1:Int)),V 12 (iv x5)],[(0,.rows 1 (List.map cI x4))],1⟩ ?_
   refine jN ?_
   refine jc_seq ?_
   refine jR ?_
   refine jG 0 1 ⟨[V 0 (.fsl 1 (List.map c_L3 a0)),V 5 (.osl 0 0 (List.length x4) 1),V 7 (iv x12),V 10 (.fsl 1 (List.map cI a1)),V 11 (iv (List.length a1:Int)),V 12 (iv x5),V 16 (iv x12)],[(0,.rows 1 (List.map cI x4))],1⟩ ?_
   refine jK 1 (prop_literal_ok x12) ?_
   intro x13 h13
   refine jG 2 1 ⟨[V 0 (.fsl 1 (List.map c_L3 a0)),V 5 (.osl 0 0 (List.length x4) 1),V 7 (iv x12),V 10 (.fsl 1 (List.map cI a1)),V 11 (iv (List.length a1:Int)),V 12 (iv x5),V 18 (bv (!x13))],[(0,.rows 1 (List.map cI x4))],1⟩ ?_
   refine jN ?_
   refine jIf ?_ ?_
   ·refine jS ⟨[V 4 (bv false)],[],1⟩ ?_
    refine jc_ret ?_
    refine jx_seqR ?_
    refine jx_blkR ?_
    refine jx_seqR ?_
    exact jx_done rfl nofun (wkR [] (fix_nil _) allp_nil)
   refine jc_skip ?_
   refine jx_seqN ?_
   refine jc_reg ?_
   refine jG 0 4 ⟨[V 0 (.fsl 1 (List.map c_L3 a0)),V 10 (.fsl 1 (List.map cI a1)),V 11 (iv (List.length a1:Int)),V 12 (iv x5),V 19 (.osl 0 0 (List.length x4) 1),V 22 (.osl 1 0 (List.length [(w64 (0 - x12))]) 1)],[(0,.rows 1 (List.map cI x4)),(1,.rows 1 (List.map cI [(w64 (0 - x12))]))],2⟩ ?_
   refine jr_part (i:=4) (mo:=app 8 x4 [(w64 (0 - x12))]) rfl rfl rfl rfl (fun _ hc=>aop_app (u:=.osl 0 0 (List.length x4) 1) (w:=.osl 1 0 (List.length [(w64 (0 - x12))]) 1) (e:=3) (td:=.slice 3) (by kernel_rfl) (by kernel_rfl) (by kernel_rfl) (by kernel_rfl) (.inl ⟨_,rfl⟩) (appendOf_own (c:=cI) (sz:=1) (b:=8) (id:=0) (by kernel_rfl) (by kernel_rfl) (rows_own (by kernel_rfl)) (List.cons_ne_nil _ _) hc)) (fun _=>rfl) ?_
   intro x14 h14
   refine jG 5 1 ⟨[V 0 (.fsl 1 (List.map c_L3 a0)),V 5 (.osl 2 0 (List.length x14) 1),V 10 (.fsl 1 (List.map cI a1)),V 11 (iv (List.length a1:Int)),V 12 (iv x5)],[(2,.rows 1 (List.map cI x14))],3⟩ ?_
   refine jr_nil rfl ?_
   refine jx_blkN ?_
   refine jx_seqN ?_
   refine jT ⟨[V 0 (.fsl 1 (List.map c_L3 a0)),V 5 (.osl 2 0 (List.length x14) 1),V 10 (.fsl 1 (List.map cI a1)),V 11 (iv (List.length a1:Int)),V 12 (iv (w64 (x5 + 1)))],[(2,.rows 1 (List.map cI x14))],3⟩ ?_
   exact jx_next (wkR [(0,some 2)] (fix_nil _) (pc (hL 2 (noid_map ni_I _)) allp_nil))
  refine jc_exit ?_
  refine jx_seqE ?_
  exact jx_done rfl nofun (wkR [(0,some 0)] (fix_nil _) (pc (hL 0 (noid_map ni_I _)) allp_nil))
 rintro (_ | x11)
 ·refine jx_blkR ?_
  refine jx_seqR ?_
  exact jx_retF (.inr rfl) (v:=bv false) (by kernel_rfl) rfl (fle_refl _)
 refine jx_blkE ?_
 refine jx_seqN ?_
 refine jR ?_
 refine jG 0 2 ⟨[V 26 (.fsl 1 (List.map c_L3 a0)),V 27 (.osl 0 0 (List.length x11) 1)],[(0,.rows 1 (List.map cI x11))],1⟩ ?_
 refine jr_callM 2 [(0,some 0)] [(0,some 0),(2,some 2)] (fun r:List S_api_Deduced × Int=>[(0,.rows 1 (List.map cI x11)),(2,.rows 2 (List.map c_S_api_Deduced r.1))]) (fun r:List S_api_Deduced × Int=>.tup [.osl 2 0 (List.length r.1) 2,iv r.2]) 4 (prop_Run_m8296_ok a0 x11) (pc (hL 0 (noid_map ni_I _)) allp_nil) (fun r=>(pc (.inr (hL 0 (noid_map ni_I _))) (pc (.inr (hL 2 (noid_map ni_S_api_Deduced _))) allp_nil))) ?_
 rintro⟨x15,x16⟩ hm1
 refine jG 3 5 ⟨[V 9 (iv x16)],[],4⟩ ?_
 refine jN ?_
 refine jS ⟨[V 4 (bv (x16 != (-1)))],[],4⟩ ?_
 refine jc_ret ?_
 exact jx_retF (.inr rfl) (v:=bv (x16 != (-1))) (by kernel_rfl) rfl (fle_refl _))
abbrev law26_PropSound_r1:List LO:=[lo 7 (.box 34 (.tmp 3)) 0,lo 8 (.assign (.const (.bool false))) 4]
abbrev law26_PropSound_r2:List LO:=[lm 24 0 22,lo 25 (.call ⟨.value (.func 7),#[.tmp 24],#[22]⟩) 22,lo 9 (.assign (.tmp 25)) 22]
abbrev law26_PropSound_r3:List LO:=[lo 26 (.makeFunc (Fn.func 17) #[] #[.tmp 7]) 35,lo 10 (.alloc 35) 0,ln (.store 35 (.tmp 10) (.tmp 26)) 0]
abbrev law26_PropSound_r4:List LO:=[lo 27 (.makeFunc (Fn.func 18) #[] #[.tmp 10]) 36,lo 11 (.assign (.tmp 27)) 36]
abbrev law26_PropSound_r5:List LO:=[lo 28 (.buildSlice 22 0 #[]) 22,lm 29 9 22,lo 30 (.call ⟨.builtin .append,#[.tmp 28,.tmp 29],#[22,22]⟩) 22,lm 31 1 23,lm 32 2 23,lo 33 (.buildSlice 22 2 #[(0,.tmp 31),(1,.tmp 32)]) 22,lo 34 (.call ⟨.builtin .append,#[.tmp 30,.tmp 33],#[22,22]⟩) 22,lo 35 (.call ⟨.builtin .len,#[.tmp 34],#[22]⟩) 3,lo 36 (.move (.const (.int .i64 0))) 3]
abbrev law26_PropSound_r6:List LO:=[lo 37 (.binOp .lss 3 (.tmp 36) (.tmp 35) 3) 0]
abbrev law26_PropSound_r7:List LO:=[lo 38 (.indexAddr 22 (.tmp 34) (.tmp 36)) 0,lo 39 (.load 23 (.tmp 38)) 23,lo 13 (.assign (.tmp 39)) 23]
abbrev law26_PropSound_r8:List LO:=[lm 40 13 23,lo 41 (.call ⟨.builtin .len,#[.tmp 40],#[23]⟩) 3,lo 42 (.move (.const (.int .i64 0))) 3]
abbrev law26_PropSound_r9:List LO:=[lo 43 (.binOp .lss 3 (.tmp 42) (.tmp 41) 3) 0]
abbrev law26_PropSound_r10:List LO:=[lo 44 (.indexAddr 23 (.tmp 40) (.tmp 42)) 0,lo 45 (.load 3 (.tmp 44)) 3,lo 15 (.assign (.tmp 45)) 3]
abbrev law26_PropSound_r11:List LO:=[lm 46 15 3,lo 47 (.binOp .eql 3 (.tmp 46) (.const (.int .i64 0)) 3) 4,lm 48 47 4,lmg 49 15 3 48 false,lg 50 (.binOp .gtr 3 (.tmp 49) (.const (.int .i64 30)) 3) 4 48 false,lo 51 (.pick (.tmp 48) (.const (.bool true)) (.tmp 50)) 4,lm 52 51 4,lmg 53 15 3 52 false,lg 54 (.binOp .lss 3 (.tmp 53) (.const (.int .i64 (-30))) 3) 4 52 false,lo 55 (.pick (.tmp 52) (.const (.bool true)) (.tmp 54)) 4]
abbrev law26_PropSound_r12:List LO:=[lo 56 (.call ⟨.value (.func 16),#[],#[]⟩) 4,lo 8 (.assign (.tmp 56)) 4]
abbrev law26_PropSound_r13:List LO:=[lo 57 (.binOp .add 3 (.tmp 42) (.const (.int .i64 1)) 3) 3,lm 42 57 3]
abbrev law26_PropSound_r14:List LO:=[lo 58 (.binOp .add 3 (.tmp 36) (.const (.int .i64 1)) 3) 3,lm 36 58 3]
abbrev law26_PropSound_r15:List LO:=[lm 59 9 22,lo 60 (.call ⟨.builtin .len,#[.tmp 59],#[22]⟩) 3,lo 61 (.move (.const (.int .i64 0))) 3]
abbrev law26_PropSound_r16:List LO:=[lo 62 (.binOp .lss 3 (.tmp 61) (.tmp 60) 3) 0]
abbrev law26_PropSound_r17:List LO:=[lo 63 (.indexAddr 22 (.tmp 59) (.tmp 61)) 0,lo 64 (.load 23 (.tmp 63)) 23,lo 17 (.assign (.tmp 64)) 23]
abbrev law26_PropSound_r18:List LO:=[lm 65 11 36,lm 66 17 23,lo 67 (.call ⟨.value (.tmp 65),#[.tmp 66],#[23]⟩) 4,lo 68 (.unOp .not 4 (.tmp 67)) 4]
abbrev law26_PropSound_r19:List LO:=[lo 69 (.call ⟨.value (.func 16),#[],#[]⟩) 4,lo 8 (.assign (.tmp 69)) 4]
abbrev law26_PropSound_r20:List LO:=[lo 70 (.binOp .add 3 (.tmp 61) (.const (.int .i64 1)) 3) 3,lm 61 70 3]
abbrev law26_PropSound_r21:List LO:=[lm 71 9 22,lm 72 2 23,lo 73 (.call ⟨.value (.func 19),#[.tmp 71,.tmp 72],#[22,23]⟩) 4,lm 74 73 4,lmg 75 11 36 74 true,lmg 76 2 23 74 true,lg 77 (.call ⟨.value (.tmp 75),#[.tmp 76],#[23]⟩) 4 74 true,lg 78 (.unOp .not 4 (.tmp 77)) 4 74 true,lo 79 (.pick (.tmp 74) (.tmp 78) (.const (.bool false))) 4]
abbrev law26_PropSound_r22:List LO:=[lo 8 (.assign (.const (.bool false))) 4]
abbrev law26_PropSound_r23:List LO:=[lm 80 1 23,lo 81 (.call ⟨.builtin .len,#[.tmp 80],#[23]⟩) 3,lo 82 (.move (.const (.int .i64 0))) 3]
abbrev law26_PropSound_r24:List LO:=[lo 83 (.binOp .lss 3 (.tmp 82) (.tmp 81) 3) 0]
abbrev law26_PropSound_r25:List LO:=[lo 84 (.indexAddr 23 (.tmp 80) (.tmp 82)) 0,lo 85 (.load 3 (.tmp 84)) 3,lo 19 (.assign (.tmp 85)) 3]
abbrev law26_PropSound_r26:List LO:=[lo 86 (.load 35 (.tmp 10)) 35,lm 87 19 3,lo 88 (.call ⟨.value (.tmp 86),#[.tmp 87],#[3]⟩) 4,lo 89 (.unOp .not 4 (.tmp 88)) 4]
abbrev law26_PropSound_r27:List LO:=[lo 90 (.call ⟨.value (.func 16),#[],#[]⟩) 4,lo 8 (.assign (.tmp 90)) 4]
abbrev law26_PropSound_r28:List LO:=[lo 91 (.binOp .add 3 (.tmp 82) (.const (.int .i64 1)) 3) 3,lm 82 91 3]
abbrev law26_PropSound_r29:List LO:=[lm 93 9 22,lm 94 1 23,lo 95 (.call ⟨.value (.func 8),#[.tmp 93,.tmp 94],#[22,23]⟩) 26,lm 92 95 26,lo 96 (.extract (.tmp 92) 0) 25,lo 97 (.extract (.tmp 92) 1) 3,lo 20 (.assign (.tmp 96)) 25,lo 21 (.assign (.tmp 97)) 3]
abbrev law26_PropSound_r30:List LO:=[lm 98 20 25,lo 99 (.call ⟨.builtin .len,#[.tmp 98],#[25]⟩) 3,lo 100 (.move (.const (.int .i64 0))) 3]
abbrev law26_PropSound_r31:List LO:=[lo 101 (.binOp .lss 3 (.tmp 100) (.tmp 99) 3) 0]
abbrev law26_PropSound_r32:List LO:=[lo 102 (.indexAddr 25 (.tmp 98) (.tmp 100)) 0,lo 103 (.load 39 (.tmp 102)) 39,lo 23 (.alloc 39) 0,ln (.store 39 (.tmp 23) (.tmp 103)) 0]
abbrev law26_PropSound_r33:List LO:=[lo 104 (.load 35 (.tmp 10)) 35,lo 105 (.fieldAddr 39 (.tmp 23) 0) 0,lo 106 (.load 3 (.tmp 105)) 3,lo 107 (.call ⟨.value (.tmp 104),#[.tmp 106],#[3]⟩) 4,lo 108 (.unOp .not 4 (.tmp 107)) 4]
abbrev law26_PropSound_r34:List LO:=[lo 8 (.assign (.const (.bool false))) 4]
abbrev law26_PropSound_r35:List LO:=[lo 109 (.binOp .add 3 (.tmp 100) (.const (.int .i64 1)) 3) 3,lm 100 109 3]
abbrev law26_PropSound_r36:List LO:=[lm 110 21 3,lo 111 (.binOp .eql 3 (.tmp 110) (.const (.int .i64 (-1))) 3) 4,lm 112 111 4,lg 113 (.call ⟨.value (.func 16),#[],#[]⟩) 4 112 true,lo 114 (.pick (.tmp 112) (.tmp 113) (.const (.bool false))) 4,lo 8 (.assign (.tmp 114)) 4]
abbrev law26_PropSound_c:LC:=.seq (.reg false law26_PropSound_r1) (.seq (.reg false law26_PropSound_r2) (.seq (.reg false law26_PropSound_r3) (.seq (.reg false law26_PropSound_r4) (.seq (.seq (.reg false law26_PropSound_r5) (.block 0 (.loop (.seq (.reg false law26_PropSound_r6) (.seq (.cond (.tmp 37) .skip (.exit 0)) (.seq (.block 1 (.seq (.reg false law26_PropSound_r7) (.seq (.reg false law26_PropSound_r8) (.block 2 (.loop (.seq (.reg false law26_PropSound_r9) (.seq (.cond (.tmp 43) .skip (.exit 2)) (.seq (.block 3 (.seq (.reg false law26_PropSound_r10) (.seq (.reg false law26_PropSound_r11) (.cond (.tmp 55) (.seq (.reg false law26_PropSound_r12) .ret) .skip)))) (.reg false law26_PropSound_r13))))))))) (.reg false law26_PropSound_r14))))))) (.seq (.seq (.reg false law26_PropSound_r15) (.block 4 (.loop (.seq (.reg false law26_PropSound_r16) (.seq (.cond (.tmp 62) .skip (.exit 4)) (.seq (.block 5 (.seq (.reg false law26_PropSound_r17) (.seq (.reg false law26_PropSound_r18) (.cond (.tmp 68) (.seq (.reg false law26_PropSound_r19) .ret) .skip)))) (.reg false law26_PropSound_r20))))))) (.seq (.seq (.reg false law26_PropSound_r21) (.cond (.tmp 79) (.seq (.reg false law26_PropSound_r22) .ret) .skip)) (.seq (.seq (.reg false law26_PropSound_r23) (.block 6 (.loop (.seq (.reg false law26_PropSound_r24) (.seq (.cond (.tmp 83) .skip (.exit 6)) (.seq (.block 7 (.seq (.reg false law26_PropSound_r25) (.seq (.reg false law26_PropSound_r26) (.cond (.tmp 89) (.seq (.reg false law26_PropSound_r27) .ret) .skip)))) (.reg false law26_PropSound_r28))))))) (.seq (.reg false law26_PropSound_r29) (.seq (.seq (.reg false law26_PropSound_r30) (.block 8 (.loop (.seq (.reg false law26_PropSound_r31) (.seq (.cond (.tmp 101) .skip (.exit 8)) (.seq (.block 9 (.seq (.reg false law26_PropSound_r32) (.seq (.reg false law26_PropSound_r33) (.cond (.tmp 108) (.seq (.reg false law26_PropSound_r34) .ret) .skip)))) (.reg false law26_PropSound_r35))))))) (.seq (.reg false law26_PropSound_r36) .ret))))))))))
theorem law26_PropSound_k:FnOk E 4 115 [.tmp 8] law26_PropSound_c:=⟨⟨Go.Proofs.Try.f4,by kernel_rfl,by kernel_rfl,by kernel_rfl,by kernel_rfl,by kernel_rfl⟩,rfl,rfl⟩
noncomputable def law26_PropSound_l1 (x23:(List Int)):Int→Option (Step (Int) ((Bool) ⊕ (Unit))):=fun x26=>(if (decide (x26 < (List.length x23:Int)))=true then Option.bind (ixl x23 x26) (fun x31=>(if (((x31 == 0) || (decide (x31 > 30))) || (decide (x31 < (-30))))=true then Option.bind (law26_awake) (fun x32=>some (Step.done (Sum.inl x32))) else some (Step.next (w64 (x26 + 1))))) else some (Step.done (Sum.inr ())))
noncomputable def law26_PropSound_l2 (x3:List (List Int)):Int→Option (Step (Int) ((Bool) ⊕ (Unit))):=fun x12=>(if (decide (x12 < (List.length x3:Int)))=true then Option.bind (ixl x3 x12) (fun x23=>Option.bind (loopC (law26_PropSound_l1 x23) 0) (fun y=>match y with | Sum.inl x30=>some (Step.done (Sum.inl x30)) | Sum.inr _=>some (Step.next (w64 (x12 + 1))))) else some (Step.done (Sum.inr ())))
noncomputable def law26_PropSound_l3 (a3:Int) (x1:(List (List Int))):Int→Option (Step (Int) ((Bool) ⊕ (Unit))):=fun x36=>(if (decide (x36 < (List.length x1:Int)))=true then Option.bind (ixl x1 x36) (fun x42=>Option.bind (law26_PropSound_2_sb1f3 x42 a3) (fun x43=>(if (!x43)=true then Option.bind (law26_awake) (fun x44=>some (Step.done (Sum.inl x44))) else some (Step.next (w64 (x36 + 1)))))) else some (Step.done (Sum.inr ())))
noncomputable def law26_PropSound_l4 (a1:(List Int)) (a3:Int):Int→Option (Step (Int) ((Bool) ⊕ (Unit))):=fun x52=>(if (decide (x52 < (List.length a1:Int)))=true then Option.bind (ixl a1 x52) (fun x58=>Option.bind (law26_PropSound_1_sb011 x58 a3) (fun x59=>(if (!x59)=true then Option.bind (law26_awake) (fun x60=>some (Step.done (Sum.inl x60))) else some (Step.next (w64 (x52 + 1)))))) else some (Step.done (Sum.inr ())))
noncomputable def law26_PropSound_l5 (a3:Int) (x61:List S_api_Deduced):Int→Option (Step (Int) ((Unit) ⊕ (Unit))):=fun x65=>(if (decide (x65 < (List.length x61:Int)))=true then Option.bind (ixl x61 x65) (fun x69=>Option.bind (law26_PropSound_1_sb011 x69.Lit a3) (fun x70=>(if (!x70)=true then some (Step.done (Sum.inl ())) else some (Step.next (w64 (x65 + 1)))))) else some (Step.done (Sum.inr ())))
noncomputable def law26_PropSound (a0:(List (List Int))) (a1:(List Int)) (a2:(List Int)) (a3:Int):Option (Bool):=Option.bind (law26_few a0) (fun x1=>Option.bind (app 24 ([]:List (List Int)) x1) (fun x2=>Option.bind (app 24 x2 [a1,a2]) (fun x3=>Option.bind (loopC (law26_PropSound_l2 x3) 0) (fun y=>match y with | Sum.inl x22=>some x22 | Sum.inr _=>Option.bind (loopC (law26_PropSound_l3 a3 x1) 0) (fun y=>match y with | Sum.inl x41=>some x41 | Sum.inr _=>Option.bind (prop_Follows x1 a2) (fun x45=>Option.bind (if x45=true then Option.bind (law26_PropSound_2_sb1f3 a2 a3) (fun x48=>some (!x48)) else some false:Option (Bool)) (fun x47=>(if x47=true then some false else Option.bind (loopC (law26_PropSound_l4 a1 a3) 0) (fun y=>match y with | Sum.inl x57=>some x57 | Sum.inr _=>Option.bind (prop_Run x1 a1) (fun (x61,x62)=>Option.bind (loopC (law26_PropSound_l5 a3 x61) 0) (fun y=>match y with | Sum.inl _=>some false | Sum.inr _=>Option.bind (if (x62 == (-1))=true then Option.bind (law26_awake) (fun x73=>some x73) else some false:Option (Bool)) (fun x72=>some x72))))))))))))
theorem law26_PropSound_ok (a0:(List (List Int))) (a1:(List Int)) (a2:(List Int)) (a3:Int):Ct E 4 [.fsl 1 (List.map c_L3 a0),.fsl 1 (List.map cI a1),.fsl 1 (List.map cI a2),.s (.int .u32 a3)] (law26_PropSound a0 a1 a2 a3) (fun r:Bool=>bv r):=ct_intro (N:=115) (L:=law26_PropSound_c) law26_PropSound_k rfl (Nat.le_of_ble_eq_true rfl) (by kernel_rfl) (by
 unfold law26_PropSound
 refine jS ⟨[V 0 (.fsl 1 (List.map c_L3 a0)),V 1 (.fsl 1 (List.map cI a1)),V 2 (.fsl 1 (List.map cI a2)),V 7 (pt 0 1)],[W 0 1 [.s (.int .u32 a3)]],1⟩ ?_
 refine jR ?_
 refine jG 0 1 ⟨[V 1 (.fsl 1 (List.map cI a1)),V 2 (.fsl 1 (List.map cI a2)),V 7 (pt 0 1),V 24 (.fsl 1 (List.map c_L3 a0))],[W 0 1 [.s (.int .u32 a3)]],1⟩ ?_
 refine jK 1 (law26_few_ok a0) ?_
 intro x1 h1
 refine jG 2 1 ⟨[V 1 (.fsl 1 (List.map cI a1)),V 2 (.fsl 1 (List.map cI a2)),V 7 (pt 0 1),V 9 (.fsl 1 (List.map c_L3 x1))],[W 0 1 [.s (.int .u32 a3)]],1⟩ ?_
 refine jN ?_
 refine jS ⟨[V 1 (.fsl 1 (List.map cI a1)),V 2 (.fsl 1 (List.map cI a2)),V 9 (.fsl 1 (List.map c_L3 x1)),V 10 (pt 1 1)],[W 0 1 [.s (.int .u32 a3)],W 1 1 [.fn 17 [pt 0 1]]],2⟩ ?_
 refine jS ⟨[V 1 (.fsl 1 (List.map cI a1)),V 2 (.fsl 1 (List.map cI a2)),V 9 (.fsl 1 (List.map c_L3 x1)),V 10 (pt 1 1),V 11 (.fn 18 [pt 1 1])],[W 0 1 [.s (.int .u32 a3)],W 1 1 [.fn 17 [pt 0 1]]],2⟩ ?_
 refine jc_seq ?_
 refine jR ?_
 refine jG 0 2 ⟨[V 1 (.fsl 1 (List.map cI a1)),V 2 (.fsl 1 (List.map cI a2)),V 9 (.fsl 1 (List.map c_L3 x1)),V 10 (pt 1 1),V 11 (.fn 18 [pt 1 1]),V 28 (.osl 2 0 (List.length ([]:List (List Int))) 1),V 29 (.fsl 1 (List.map c_L3 x1))],[W 0 1 [.s (.int .u32 a3)],W 1 1 [.fn 17 [pt 0 1]],(2,.rows 1 (List.map c_L3 ([]:List (List Int))))],3⟩ ?_
 refine jr_two (i:=2) (C:=x1=[]) (st1:=fun x2=>⟨[V 1 (.fsl 1 (List.map cI a1)),V 2 (.fsl 1 (List.map cI a2)),V 9 (.fsl 1 (List.map c_L3 x1)),V 10 (pt 1 1),V 11 (.fn 18 [pt 1 1]),V 30 (.osl 3 0 (List.length x2) 1)],[W 0 1 [.s (.int .u32 a3)],W 1 1 [.fn 17 [pt 0 1]],(3,.rows 1 (List.map c_L3 x2))],4⟩) rfl rfl rfl rfl (fun q _ hc=>aop_app (u:=.osl 2 0 (List.length ([]:List (List Int))) 1) (w:=.fsl 1 (List.map c_L3 x1)) (e:=23) (td:=.slice 23) (by kernel_rfl) (by kernel_rfl) (by kernel_rfl) (by kernel_rfl) (.inl ⟨_,rfl⟩) (appendOf_own (c:=c_L3) (sz:=1) (b:=24) (id:=2) (by kernel_rfl) (by kernel_rfl) rows_fsl q hc)) (fun q _ hc=>aop_app (u:=.osl 2 0 (List.length ([]:List (List Int))) 1) (w:=.fsl 1 (List.map c_L3 x1)) (e:=23) (td:=.slice 23) (by kernel_rfl) (by kernel_rfl) (by kernel_rfl) (by kernel_rfl) (.inl ⟨_,rfl⟩) (appendOf_same (c:=c_L3) (sz:=1) (b:=24) (m:=x1) (by kernel_rfl) (.inr (.inr ⟨_,_,_,_,rfl⟩)) rows_fsl q)) (fun _=>rfl) (fun _=>rfl) (fun _=>wkR [(0,some 0),(1,some 1),(3,some 3)] (fix_nil _) (pc (hC 0) (pc (hC 1) (pc (hL 3 (noid_map ni_L3 _)) allp_nil)))) (fun q _ hc=>by cases app_same q hc; exact wkR [(0,some 0),(1,some 1),(3,some 2)] (fix_nil _) (pc (hC 0) (pc (hC 1) (pc (hL 2 (noid_map ni_L3 _)) allp_nil)))) ?_
 intro x2 h2
 refine jG 3 3 ⟨[V 1 (.fsl 1 (List.map cI a1)),V 2 (.fsl 1 (List.map cI a2)),V 9 (.fsl 1 (List.map c_L3 x1)),V 10 (pt 1 1),V 11 (.fn 18 [pt 1 1]),V 30 (.osl 3 0 (List.length x2) 1),V 33 (.osl 4 0 (List.length [a1,a2]) 1)],[W 0 1 [.s (.int .u32 a3)],W 1 1 [.fn 17 [pt 0 1]],(3,.rows 1 (List.map c_L3 x2)),(4,.rows 1 (List.map c_L3 [a1,a2]))],5⟩ ?_
 refine jr_part (i:=6) (mo:=app 24 x2 [a1,a2]) rfl rfl rfl rfl (fun _ hc=>aop_app (u:=.osl 3 0 (List.length x2) 1) (w:=.osl 4 0 (List.length [a1,a2]) 1) (e:=23) (td:=.slice 23) (by kernel_rfl) (by kernel_rfl) (by kernel_rfl) (by kernel_rfl) (.inl ⟨_,rfl⟩) (appendOf_own (c:=c_L3) (sz:=1) (b:=24) (id:=3) (by kernel_rfl) (by kernel_rfl) (rows_own (by kernel_rfl)) (List.cons_ne_nil _ _) hc)) (fun _=>rfl) ?_
 intro x3 h3
 refine jG 7 2 ⟨[V 1 (.fsl 1 (List.map cI a1)),V 2 (.fsl 1 (List.map cI a2)),V 9 (.fsl 1 (List.map c_L3 x1)),V 10 (pt 1 1),V 11 (.fn 18 [pt 1 1]),V 34 (.osl 5 0 (List.length x3) 1),V 35 (iv (List.length x3:Int)),V 36 (iv 0)],[W 0 1 [.s (.int .u32 a3)],W 1 1 [.fn 17 [pt 0 1]],(5,.rows 1 (List.map c_L3 x3))],6⟩ ?_
 refine jN ?_
 refine jc_block ?_
 refine jc_bind (fun y=>match y with | Sum.inl x22=>⟨[V 8 (bv x22)],[],0⟩ | Sum.inr _=>⟨[V 1 (.fsl 1 (List.map cI a1)),V 2 (.fsl 1 (List.map cI a2)),V 9 (.fsl 1 (List.map c_L3 x1)),V 10 (pt 0 1),V 11 (.fn 18 [pt 0 1])],[W 0 1 [.fn 17 [pt 1 1]],W 1 1 [.s (.int .u32 a3)]],2⟩) (fun y=>match y with | Sum.inl x22=>.ret | Sum.inr _=>(.exit 0)) (jc_loop (fun x12=>⟨[V 1 (.fsl 1 (List.map cI a1)),V 2 (.fsl 1 (List.map cI a2)),V 9 (.fsl 1 (List.map c_L3 x1)),V 10 (pt 0 1),V 11 (.fn 18 [pt 0 1]),V 34 (.osl 2 0 (List.length x3) 1),V 35 (iv (List.length x3:Int)),V 36 (iv x12)],[W 0 1 [.fn 17 [pt 1 1]],W 1 1 [.s (.int .u32 a3)],(2,.rows 1 (List.map c_L3 x3))],3⟩) (wkR [(0,some 1),(1,some 0),(2,some 5)] (fix_nil _) (pc (hC 1) (pc (hC 0) (pc (hL 5 (noid_map ni_L3 _)) allp_nil)))) ?_) ?_
 ·intro x12
  unfold law26_PropSound_l2
  refine jS ⟨[V 1 (.fsl 1 (List.map cI a1)),V 2 (.fsl 1 (List.map cI a2)),V 9 (.fsl 1 (List.map c_L3 x1)),V 10 (pt 0 1),V 11 (.fn 18 [pt 0 1]),V 34 (.osl 2 0 (List.length x3) 1),V 35 (iv (List.length x3:Int)),V 36 (iv x12),V 37 (bv (decide (x12 < (List.length x3:Int))))],[W 0 1 [.fn 17 [pt 1 1]],W 1 1 [.s (.int .u32 a3)],(2,.rows 1 (List.map c_L3 x3))],3⟩ ?_
  refine jc_seq ?_
  refine jIf ?_ ?_
  ·refine jc_skip ?_
   refine jx_seqN ?_
   refine jc_seq ?_
   refine jc_block ?_
   refine jR ?_
   refine jr_part (i:=0) (mo:=ixl x3 x12) rfl rfl rfl rfl (fun _ hc=>aop_ixo0 (sz:=1) (e:=23) (kk:=.i64) (id:=2) (by kernel_rfl) (by kernel_rfl) (by kernel_rfl) (by kernel_rfl) hc) (fun _=>rfl) ?_
   intro x23 h23
   refine jr_one (i:=1) (v:=.fsl 1 (List.map cI x23)) rfl rfl rfl rfl (aop_ldo (l:=x3) (c:=c_L3) (id:=2) (k:=(Int.toNat x12)) (sz:=1) (off:=0) (a:=x23) (by kernel_rfl) (by kernel_rfl) (ixl_lt h23).2.2 (by kernel_rfl)) rfl ?_
   refine jG 2 1 ⟨[V 1 (.fsl 1 (List.map cI a1)),V 2 (.fsl 1 (List.map cI a2)),V 9 (.fsl 1 (List.map c_L3 x1)),V 10 (pt 0 1),V 11 (.fn 18 [pt 0 1]),V 13 (.fsl 1 (List.map cI x23)),V 34 (.osl 2 0 (List.length x3) 1),V 35 (iv (List.length x3:Int)),V 36 (iv x12)],[W 0 1 [.fn 17 [pt 1 1]],W 1 1 [.s (.int .u32 a3)],(2,.rows 1 (List.map c_L3 x3))],3⟩ ?_
   refine jN ?_
   refine jR ?_
   refine jG 0 3 ⟨[V 1 (.fsl 1 (List.map cI a1)),V 2 (.fsl 1 (List.map cI a2)),V 9 (.fsl 1 (List.map c_L3 x1)),V 10 (pt 0 1),V 11 (.fn 18 [pt 0 1]),V 34 (.osl 2 0 (List.length x3) 1),V 35 (iv (List.length x3:Int)),V 36 (iv x12),V 40 (.fsl 1 (List.map cI x23)),V 41 (iv (List.length (List.map cI x23):Int)),V 42 (iv 0)],[W 0 1 [.fn 17 [pt 1 1]],W 1 1 [.s (.int .u32 a3)],(2,.rows 1 (List.map c_L3 x3))],3⟩ ?_
   simp only[List.length_map]
   refine jN ?_
   refine jc_block ?_
   refine jc_bind (fun y=>match y with | Sum.inl x30=>⟨[V 8 (bv x30)],[],0⟩ | Sum.inr _=>⟨[V 1 (.fsl 1 (List.map cI a1)),V 2 (.fsl 1 (List.map cI a2)),V 9 (.fsl 1 (List.map c_L3 x1)),V 10 (pt 0 1),V 11 (.fn 18 [pt 0 1]),V 34 (.osl 2 0 (List.length x3) 1),V 35 (iv (List.length x3:Int)),V 36 (iv x12)],[W 0 1 [.fn 17 [pt 1 1]],W 1 1 [.s (.int .u32 a3)],(2,.rows 1 (List.map c_L3 x3))],3⟩) (fun y=>match y with | Sum.inl x30=>.ret | Sum.inr _=>(.exit 2)) (jc_loop (fun x26=>⟨[V 1 (.fsl 1 (List.map cI a1)),V 2 (.fsl 1 (List.map cI a2)),V 9 (.fsl 1 (List.map c_L3 x1)),V 10 (pt 0 1),V 11 (.fn 18 [pt 0 1]),V 34 (.osl 2 0 (List.length x3) 1),V 35 (iv (List.length x3:Int)),V 36 (iv x12),V 40 (.fsl 1 (List.map cI x23)),V 41 (iv (List.length x23:Int)),V 42 (iv x26)],[W 0 1 [.fn 17 [pt 1 1]],W 1 1 [.s (.int .u32 a3)],(2,.rows 1 (List.map c_L3 x3))],3⟩) (wkR [(0,some 0),(1,some 1),(2,some 2)] (fix_nil _) (pc (hC 0) (pc (hC 1) (pc (hL 2 (noid_map ni_L3 _)) allp_nil)))) ?_) ?_
   ·intro x26
    unfold law26_PropSound_l1
    refine jS ⟨[V 1 (.fsl 1 (List.map cI a1)),V 2 (.fsl 1 (List.map cI a2)),V 9 (.fsl 1 (List.map c_L3 x1)),V 10 (pt 0 1),V 11 (.fn 18 [pt 0 1]),V 34 (.osl 2 0 (List.length x3) 1),V 35 (iv (List.length x3:Int)),V 36 (iv x12),V 40 (.fsl 1 (List.map cI x23)),V 41 (iv (List.length x23:Int)),V 42 (iv x26),V 43 (bv (decide (x26 < (List.length x23:Int))))],[W 0 1 [.fn 17 [pt 1 1]],W 1 1 [.s (.int .u32 a3)],(2,.rows 1 (List.map c_L3 x3))],3⟩ ?_
    refine jc_seq ?_
    refine jIf ?_ ?_
    ·refine jc_skip ?_
     refine jx_seqN ?_
     refine jc_seq ?_
     refine jc_block ?_
     refine jR ?_
     refine jr_part (i:=0) (mo:=ixl x23 x26) rfl rfl rfl rfl (fun _ hc=>aop_ixf (c:=cI) (sz:=1) (e:=3) (kk:=.i64) (by kernel_rfl) (by kernel_rfl) (by kernel_rfl) (by kernel_rfl) hc) (fun _=>rfl) ?_
     intro x31 h31
     refine jG 1 2 ⟨[V 1 (.fsl 1 (List.map cI a1)),V 2 (.fsl 1 (List.map cI a2)),V 9 (.fsl 1 (List.map c_L3 x1)),V 10 (pt 0 1),V 11 (.fn 18 [pt 0 1]),V 15 (iv x31),V 34 (.osl 2 0 (List.length x3) 1),V 35 (iv (List.length x3:Int)),V 36 (iv x12),V 40 (.fsl 1 (List.map cI x23)),V 41 (iv (List.length x23:Int)),V 42 (iv x26)],[W 0 1 [.fn 17 [pt 1 1]],W 1 1 [.s (.int .u32 a3)],(2,.rows 1 (List.map c_L3 x3))],3⟩ ?_
     refine jN ?_
     refine jS ⟨[V 1 (.fsl 1 (List.map cI a1)),V 2 (.fsl 1 (List.map cI a2)),V 9 (.fsl 1 (List.map c_L3 x1)),V 10 (pt 0 1),V 11 (.fn 18 [pt 0 1]),V 34 (.osl 2 0 (List.length x3) 1),V 35 (iv (List.length x3:Int)),V 36 (iv x12),V 40 (.fsl 1 (List.map cI x23)),V 41 (iv (List.length x23:Int)),V 42 (iv x26),V 55 (bv (((x31 == 0) || (decide (x31 > 30))) || (decide (x31 < (-30)))))],[W 0 1 [.fn 17 [pt 1 1]],W 1 1 [.s (.int .u32 a3)],(2,.rows 1 (List.map c_L3 x3))],3⟩ ?_
     refine jIf ?_ ?_
     ·refine jR ?_
      refine jK 0 (law26_awake_ok) ?_
      intro x32 h32
      refine jG 1 1 ⟨[V 8 (bv x32)],[],3⟩ ?_
      refine jN ?_
      refine jc_ret ?_
      refine jx_blkR ?_
      refine jx_seqR ?_
      exact jx_done rfl nofun (wkR [] (fix_nil _) allp_nil)
     refine jc_skip ?_
     refine jx_blkN ?_
     refine jx_seqN ?_
     refine jT ⟨[V 1 (.fsl 1 (List.map cI a1)),V 2 (.fsl 1 (List.map cI a2)),V 9 (.fsl 1 (List.map c_L3 x1)),V 10 (pt 0 1),V 11 (.fn 18 [pt 0 1]),V 34 (.osl 2 0 (List.length x3) 1),V 35 (iv (List.length x3:Int)),V 36 (iv x12),V 40 (.fsl 1 (List.map cI x23)),V 41 (iv (List.length x23:Int)),V 42 (iv (w64 (x26 + 1)))],[W 0 1 [.fn 17 [pt 1 1]],W 1 1 [.s (.int .u32 a3)],(2,.rows 1 (List.map c_L3 x3))],3⟩ ?_
     exact jx_next (wkR [(0,some 0),(1,some 1),(2,some 2)] (fix_nil _) (pc (hC 0) (pc (hC 1) (pc (hL 2 (noid_map ni_L3 _)) allp_nil))))
    refine jc_exit ?_
    refine jx_seqE ?_
    exact jx_done rfl nofun (wkR [(0,some 0),(1,some 1),(2,some 2)] (fix_nil _) (pc (hC 0) (pc (hC 1) (pc (hL 2 (noid_map ni_L3 _)) allp_nil))))
   rintro (x30 | _)
   ·refine jx_blkR ?_
    refine jx_blkR ?_
    refine jx_seqR ?_
    exact jx_done rfl nofun (wkR [] (fix_nil _) allp_nil)
   refine jx_blkE ?_
   refine jx_blkN ?_
   refine jx_seqN ?_
   refine jT ⟨[V 1 (.fsl 1 (List.map cI a1)),V 2 (.fsl 1 (List.map cI a2)),V 9 (.fsl 1 (List.map c_L3 x1)),V 10 (pt 0 1),V 11 (.fn 18 [pt 0 1]),V 34 (.osl 2 0 (List.length x3) 1),V 35 (iv (List.length x3:Int)),V 36 (iv (w64 (x12 + 1)))],[W 0 1 [.fn 17 [pt 1 1]],W 1 1 [.s (.int .u32 a3)],(2,.rows 1 (List.map c_L3 x3))],3⟩ ?_
   exact jx_next (wkR [(0,some 0),(1,some 1),(2,some 2)] (fix_nil _) (pc (hC 0) (pc (hC 1) (pc (hL 2 (noid_map ni_L3 _)) allp_nil))))
  refine jc_exit ?_
  refine jx_seqE ?_
  exact jx_done rfl nofun (wkR [(0,some 0),(1,some 1)] (fix_nil _) (pc (hC 0) (pc (hC 1) allp_nil)))
 rintro (x22 | _)
 ·refine jx_blkR ?_
  refine jx_seqR ?_
  exact jx_retF (.inr rfl) (v:=bv x22) (by kernel_rfl) rfl (fle_refl _)
 refine jx_blkE ?_
 refine jx_seqN ?_
 refine jc_seq ?_
 refine jR ?_
 refine jG 0 3 ⟨[V 1 (.fsl 1 (List.map cI a1)),V 2 (.fsl 1 (List.map cI a2)),V 9 (.fsl 1 (List.map c_L3 x1)),V 10 (pt 0 1),V 11 (.fn 18 [pt 0 1]),V 59 (.fsl 1 (List.map c_L3 x1)),V 60 (iv (List.length (List.map c_L3 x1):Int)),V 61 (iv 0)],[W 0 1 [.fn 17 [pt 1 1]],W 1 1 [.s (.int .u32 a3)]],2⟩ ?_
 simp only[List.length_map]
 refine jN ?_
 refine jc_block ?_
 refine jc_bind (fun y=>match y with | Sum.inl x41=>⟨[V 8 (bv x41)],[],0⟩ | Sum.inr _=>⟨[V 1 (.fsl 1 (List.map cI a1)),V 2 (.fsl 1 (List.map cI a2)),V 9 (.fsl 1 (List.map c_L3 x1)),V 10 (pt 0 1),V 11 (.fn 18 [pt 0 1])],[W 0 1 [.fn 17 [pt 1 1]],W 1 1 [.s (.int .u32 a3)]],2⟩) (fun y=>match y with | Sum.inl x41=>.ret | Sum.inr _=>(.exit 4)) (jc_loop (fun x36=>⟨[V 1 (.fsl 1 (List.map cI a1)),V 2 (.fsl 1 (List.map cI a2)),V 9 (.fsl 1 (List.map c_L3 x1)),V 10 (pt 0 1),V 11 (.fn 18 [pt 0 1]),V 59 (.fsl 1 (List.map c_L3 x1)),V 60 (iv (List.length x1:Int)),V 61 (iv x36)],[W 0 1 [.fn 17 [pt 1 1]],W 1 1 [.s (.int .u32 a3)]],2⟩) (wkR [(0,some 0),(1,some 1)] (fix_nil _) (pc (hC 0) (pc (hC 1) allp_nil))) ?_) ?_
 ·intro x36
  unfold law26_PropSound_l3
  refine jS ⟨[V 1 (.fsl 1 (List.map cI a1)),V 2 (.fsl 1 (List.map cI a2)),V 9 (.fsl 1 (List.map c_L3 x1)),V 10 (pt 0 1),V 11 (.fn 18 [pt 0 1]),V 59 (.fsl 1 (List.map c_L3 x1)),V 60 (iv (List.length x1:Int)),V 61 (iv x36),V 62 (bv (decide (x36 < (List.length x1:Int))))],[W 0 1 [.fn 17 [pt 1 1]],W 1 1 [.s (.int .u32 a3)]],2⟩ ?_
  refine jc_seq ?_
  refine jIf ?_ ?_
  ·refine jc_skip ?_
   refine jx_seqN ?_
   refine jc_seq ?_
   refine jc_block ?_
   refine jR ?_
   refine jr_part (i:=0) (mo:=ixl x1 x36) rfl rfl rfl rfl (fun _ hc=>aop_ixf (c:=c_L3) (sz:=1) (e:=23) (kk:=.i64) (by kernel_rfl) (by kernel_rfl) (by kernel_rfl) (by kernel_rfl) hc) (fun _=>rfl) ?_
   intro x42 h42
   refine jG 1 2 ⟨[V 1 (.fsl 1 (List.map cI a1)),V 2 (.fsl 1 (List.map cI a2)),V 9 (.fsl 1 (List.map c_L3 x1)),V 10 (pt 0 1),V 11 (.fn 18 [pt 0 1]),V 17 (.fsl 1 (List.map cI x42)),V 59 (.fsl 1 (List.map c_L3 x1)),V 60 (iv (List.length x1:Int)),V 61 (iv x36)],[W 0 1 [.fn 17 [pt 1 1]],W 1 1 [.s (.int .u32 a3)]],2⟩ ?_
   refine jN ?_
   refine jR ?_
   refine jG 0 2 ⟨[V 1 (.fsl 1 (List.map cI a1)),V 2 (.fsl 1 (List.map cI a2)),V 9 (.fsl 1 (List.map c_L3 x1)),V 10 (pt 0 1),V 11 (.fn 18 [pt 0 1]),V 59 (.fsl 1 (List.map c_L3 x1)),V 60 (iv (List.length x1:Int)),V 61 (iv x36),V 65 (.fn 18 [pt 0 1]),V 66 (.fsl 1 (List.map cI x42))],[W 0 1 [.fn 17 [pt 1 1]],W 1 1 [.s (.int .u32 a3)]],2⟩ ?_
   refine jr_callV (i:=2) rfl rfl rfl rfl (g:=18) (caps:=[pt 0 1]) (avs:=[.fsl 1 (List.map cI x42)]) (vs:=[.fsl 1 (List.map cI x42),pt 0 1]) (vs0:=[.fsl 1 (List.map cI x42),.fptr [.fn 17 [.fptr [.s (.int .u32 a3)] 0]] 0]) (b:=true) (by kernel_rfl) (by kernel_rfl) rfl (by kernel_rfl) (all2_cons (fle_refl _) (all2_cons (fle_refl _) all2_nil)) (law26_PropSound_2_sb1f3_ok x42 a3) (fun _=>rfl) (fun _=>rfl) ?_
   intro x43 h43
   refine jG 3 1 ⟨[V 1 (.fsl 1 (List.map cI a1)),V 2 (.fsl 1 (List.map cI a2)),V 9 (.fsl 1 (List.map c_L3 x1)),V 10 (pt 0 1),V 11 (.fn 18 [pt 0 1]),V 59 (.fsl 1 (List.map c_L3 x1)),V 60 (iv (List.length x1:Int)),V 61 (iv x36),V 68 (bv (!x43))],[W 0 1 [.fn 17 [pt 1 1]],W 1 1 [.s (.int .u32 a3)]],2⟩ ?_
   refine jN ?_
   refine jIf ?_ ?_
   ·refine jR ?_
    refine jK 0 (law26_awake_ok) ?_
    intro x44 h44
    refine jG 1 1 ⟨[V 8 (bv x44)],[],2⟩ ?_
    refine jN ?_
    refine jc_ret ?_
    refine jx_blkR ?_
    refine jx_seqR ?_
    exact jx_done rfl nofun (wkR [] (fix_nil _) allp_nil)
   refine jc_skip ?_
   refine jx_blkN ?_
   refine jx_seqN ?_
   refine jT ⟨[V 1 (.fsl 1 (List.map cI a1)),V 2 (.fsl 1 (List.map cI a2)),V 9 (.fsl 1 (List.map c_L3 x1)),V 10 (pt 0 1),V 11 (.fn 18 [pt 0 1]),V 59 (.fsl 1 (List.map c_L3 x1)),V 60 (iv (List.length x1:Int)),V 61 (iv (w64 (x36 + 1)))],[W 0 1 [.fn 17 [pt 1 1]],W 1 1 [.s (.int .u32 a3)]],2⟩ ?_
   exact jx_next (wkR [(0,some 0),(1,some 1)] (fix_nil _) (pc (hC 0) (pc (hC 1) allp_nil)))
  refine jc_exit ?_
  refine jx_seqE ?_
  exact jx_done rfl nofun (wkR [(0,some 0),(1,some 1)] (fix_nil _) (pc (hC 0) (pc (hC 1) allp_nil)))
 rintro (x41 | _)
 ·refine jx_blkR ?_
  refine jx_seqR ?_
  exact jx_retF (.inr rfl) (v:=bv x41) (by kernel_rfl) rfl (fle_refl _)
 refine jx_blkE ?_
 refine jx_seqN ?_
 refine jc_seq ?_
 refine jR ?_
 refine jG 0 2 ⟨[V 1 (.fsl 1 (List.map cI a1)),V 2 (.fsl 1 (List.map cI a2)),V 9 (.fsl 1 (List.map c_L3 x1)),V 10 (pt 0 1),V 11 (.fn 18 [pt 0 1]),V 71 (.fsl 1 (List.map c_L3 x1)),V 72 (.fsl 1 (List.map cI a2))],[W 0 1 [.fn 17 [pt 1 1]],W 1 1 [.s (.int .u32 a3)]],2⟩ ?_
 refine jK 2 (prop_Follows_ok x1 a2) ?_
 intro x45 h45
 refine jG 3 1 ⟨[V 1 (.fsl 1 (List.map cI a1)),V 2 (.fsl 1 (List.map cI a2)),V 9 (.fsl 1 (List.map c_L3 x1)),V 10 (pt 0 1),V 11 (.fn 18 [pt 0 1]),V 74 (bv x45)],[W 0 1 [.fn 17 [pt 1 1]],W 1 1 [.s (.int .u32 a3)]],2⟩ ?_
 refine jr_bind 4 5 (fun x47=>⟨[V 1 (.fsl 1 (List.map cI a1)),V 9 (.fsl 1 (List.map c_L3 x1)),V 10 (pt 0 1),V 79 (bv x47)],[W 0 1 [.fn 17 [pt 1 1]],W 1 1 [.s (.int .u32 a3)]],2⟩) ?_ ?_
 ·refine jSp 74 ?_ ?_
  ·refine jG 0 2 ⟨[V 1 (.fsl 1 (List.map cI a1)),V 9 (.fsl 1 (List.map c_L3 x1)),V 10 (pt 0 1),(74,.lit true),V 75 (.fn 18 [pt 0 1]),V 76 (.fsl 1 (List.map cI a2))],[W 0 1 [.fn 17 [pt 1 1]],W 1 1 [.s (.int .u32 a3)]],2⟩ ?_
   refine jr_callV (i:=2) rfl rfl rfl rfl (g:=18) (caps:=[pt 0 1]) (avs:=[.fsl 1 (List.map cI a2)]) (vs:=[.fsl 1 (List.map cI a2),pt 0 1]) (vs0:=[.fsl 1 (List.map cI a2),.fptr [.fn 17 [.fptr [.s (.int .u32 a3)] 0]] 0]) (b:=true) (by kernel_rfl) (by kernel_rfl) rfl (by kernel_rfl) (all2_cons (fle_refl _) (all2_cons (fle_refl _) all2_nil)) (law26_PropSound_2_sb1f3_ok a2 a3) (fun _=>rfl) (fun _=>rfl) ?_
   intro x48 h48
   refine jG 3 2 ⟨[V 1 (.fsl 1 (List.map cI a1)),V 9 (.fsl 1 (List.map c_L3 x1)),V 10 (pt 0 1),V 79 (bv (!x48))],[W 0 1 [.fn 17 [pt 1 1]],W 1 1 [.s (.int .u32 a3)]],2⟩ ?_
   refine jr_nil rfl ?_
   exact jx_mid rfl (wkR [(0,some 0),(1,some 1)] (fix_nil _) (pc (hC 0) (pc (hC 1) allp_nil)))
  refine jG 0 5 ⟨[V 1 (.fsl 1 (List.map cI a1)),V 9 (.fsl 1 (List.map c_L3 x1)),V 10 (pt 0 1),V 79 (bv false)],[W 0 1 [.fn 17 [pt 1 1]],W 1 1 [.s (.int .u32 a3)]],2⟩ ?_
  refine jr_nil rfl ?_
  exact jx_mid rfl (wkR [(0,some 0),(1,some 1)] (fix_nil _) (pc (hC 0) (pc (hC 1) allp_nil)))
 intro x47
 refine jN ?_
 refine jIf ?_ ?_
 ·refine jS ⟨[V 8 (bv false)],[],2⟩ ?_
  refine jc_ret ?_
  refine jx_seqR ?_
  exact jx_retF (.inr rfl) (v:=bv false) (by kernel_rfl) rfl (fle_refl _)
 refine jc_skip ?_
 refine jx_seqN ?_
 refine jc_seq ?_
 refine jR ?_
 refine jG 0 3 ⟨[V 1 (.fsl 1 (List.map cI a1)),V 9 (.fsl 1 (List.map c_L3 x1)),V 10 (pt 0 1),V 80 (.fsl 1 (List.map cI a1)),V 81 (iv (List.length (List.map cI a1):Int)),V 82 (iv 0)],[W 0 1 [.fn 17 [pt 1 1]],W 1 1 [.s (.int .u32 a3)]],2⟩ ?_
 simp only[List.length_map]
 refine jN ?_
 refine jc_block ?_
 refine jc_bind (fun y=>match y with | Sum.inl x57=>⟨[V 8 (bv x57)],[],0⟩ | Sum.inr _=>⟨[V 1 (.fsl 1 (List.map cI a1)),V 9 (.fsl 1 (List.map c_L3 x1)),V 10 (pt 0 1)],[W 0 1 [.fn 17 [pt 1 1]],W 1 1 [.s (.int .u32 a3)]],2⟩) (fun y=>match y with | Sum.inl x57=>.ret | Sum.inr _=>(.exit 6)) (jc_loop (fun x52=>⟨[V 1 (.fsl 1 (List.map cI a1)),V 9 (.fsl 1 (List.map c_L3 x1)),V 10 (pt 0 1),V 80 (.fsl 1 (List.map cI a1)),V 81 (iv (List.length a1:Int)),V 82 (iv x52)],[W 0 1 [.fn 17 [pt 1 1]],W 1 1 [.s (.int .u32 a3)]],2⟩) (wkR [(0,some 0),(1,some 1)] (fix_nil _) (pc (hC 0) (pc (hC 1) allp_nil))) ?_) ?_
 ·intro x52
  unfold law26_PropSound_l4
  refine jS ⟨[V 1 (.fsl 1 (List.map cI a1)),V 9 (.fsl 1 (List.map c_L3 x1)),V 10 (pt 0 1),V 80 (.fsl 1 (List.map cI a1)),V 81 (iv (List.length a1:Int)),V 82 (iv x52),V 83 (bv (decide (x52 < (List.length a1:Int))))],[W 0 1 [.fn 17 [pt 1 1]],W 1 1 [.s (.int .u32 a3)]],2⟩ ?_
  refine jc_seq ?_
  refine jIf ?_ ?_
  ·refine jc_skip ?_
   refine jx_seqN ?_
   refine jc_seq ?_
   refine jc_block ?_
   refine jR ?_
   refine jr_part (i:=0) (mo:=ixl a1 x52) rfl rfl rfl rfl (fun _ hc=>aop_ixf (c:=cI) (sz:=1) (e:=3) (kk:=.i64) (by kernel_rfl) (by kernel_rfl) (by kernel_rfl) (by kernel_rfl) hc) (fun _=>rfl) ?_
   intro x58 h58
   refine jG 1 2 ⟨[V 1 (.fsl 1 (List.map cI a1)),V 9 (.fsl 1 (List.map c_L3 x1)),V 10 (pt 0 1),V 19 (iv x58),V 80 (.fsl 1 (List.map cI a1)),V 81 (iv (List.length a1:Int)),V 82 (iv x52)],[W 0 1 [.fn 17 [pt 1 1]],W 1 1 [.s (.int .u32 a3)]],2⟩ ?_
   refine jN ?_
   refine jR ?_
   refine jG 0 2 ⟨[V 1 (.fsl 1 (List.map cI a1)),V 9 (.fsl 1 (List.map c_L3 x1)),V 10 (pt 0 1),V 80 (.fsl 1 (List.map cI a1)),V 81 (iv (List.length a1:Int)),V 82 (iv x52),V 86 (.fn 17 [pt 1 1]),V 87 (iv x58)],[W 0 1 [.fn 17 [pt 1 1]],W 1 1 [.s (.int .u32 a3)]],2⟩ ?_
   refine jr_callV (i:=2) rfl rfl rfl rfl (g:=17) (caps:=[pt 1 1]) (avs:=[iv x58]) (vs:=[iv x58,pt 1 1]) (vs0:=[iv x58,.fptr [.s (.int .u32 a3)] 0]) (b:=true) (by kernel_rfl) (by kernel_rfl) rfl (by kernel_rfl) (all2_cons (fle_refl _) (all2_cons (fle_refl _) all2_nil)) (law26_PropSound_1_sb011_ok x58 a3) (fun _=>rfl) (fun _=>rfl) ?_
   intro x59 h59
   refine jG 3 1 ⟨[V 1 (.fsl 1 (List.map cI a1)),V 9 (.fsl 1 (List.map c_L3 x1)),V 10 (pt 0 1),V 80 (.fsl 1 (List.map cI a1)),V 81 (iv (List.length a1:Int)),V 82 (iv x52),V 89 (bv (!x59))],[W 0 1 [.fn 17 [pt 1 1]],W 1 1 [.s (.int .u32 a3)]],2⟩ ?_
   refine jN ?_
   refine jIf ?_ ?_
   ·refine jR ?_
    refine jK 0 (law26_awake_ok) ?_
    intro x60 h60
    refine jG 1 1 ⟨[V 8 (bv x60)],[],2⟩ ?_
    refine jN ?_
    refine jc_ret ?_
    refine jx_blkR ?_
    refine jx_seqR ?_
    exact jx_done rfl nofun (wkR [] (fix_nil _) allp_nil)
   refine jc_skip ?_
   refine jx_blkN ?_
   refine jx_seqN ?_
   refine jT ⟨[V 1 (.fsl 1 (List.map cI a1)),V 9 (.fsl 1 (List.map c_L3 x1)),V 10 (pt 0 1),V 80 (.fsl 1 (List.map cI a1)),V 81 (iv (List.length a1:Int)),V 82 (iv (w64 (x52 + 1)))],[W 0 1 [.fn 17 [pt 1 1]],W 1 1 [.s (.int .u32 a3)]],2⟩ ?_
   exact jx_next (wkR [(0,some 0),(1,some 1)] (fix_nil _) (pc (hC 0) (pc (hC 1) allp_nil)))
  refine jc_exit ?_
  refine jx_seqE ?_
  exact jx_done rfl nofun (wkR [(0,some 0),(1,some 1)] (fix_nil _) (pc (hC 0) (pc (hC 1) allp_nil)))
 rintro (x57 | _)
 ·refine jx_blkR ?_
  refine jx_seqR ?_
  exact jx_retF (.inr rfl) (v:=bv x57) (by kernel_rfl) rfl (fle_refl _)
 refine jx_blkE ?_
 refine jx_seqN ?_
 refine jR ?_
 refine jG 0 2 ⟨[V 10 (pt 0 1),V 93 (.fsl 1 (List.map c_L3 x1)),V 94 (.fsl 1 (List.map cI a1))],[W 0 1 [.fn 17 [pt 1 1]],W 1 1 [.s (.int .u32 a3)]],2⟩ ?_
 refine jr_callM 2 [] [(3,some 1)] (fun r:List S_api_Deduced × Int=>[W 0 1 [.fn 17 [pt 1 1]],W 1 1 [.s (.int .u32 a3)],(3,.rows 2 (List.map c_S_api_Deduced r.1))]) (fun r:List S_api_Deduced × Int=>.tup [.osl 3 0 (List.length r.1) 2,iv r.2]) 5 (prop_Run_ok x1 a1) allp_nil (fun r=>(pc (.inl ⟨rfl,rfl⟩) (pc (.inl ⟨rfl,rfl⟩) (pc (.inr (hL 1 (noid_map ni_S_api_Deduced _))) allp_nil)))) ?_
 rintro⟨x61,x62⟩ hm1
 refine jG 3 5 ⟨[V 10 (pt 0 1),V 20 (.osl 3 0 (List.length x61) 2),V 21 (iv x62)],[W 0 1 [.fn 17 [pt 1 1]],W 1 1 [.s (.int .u32 a3)],(3,.rows 2 (List.map c_S_api_Deduced x61))],5⟩ ?_
 refine jN ?_
 refine jc_seq ?_
 refine jS ⟨[V 10 (pt 0 1),V 21 (iv x62),V 98 (.osl 3 0 (List.length x61) 2),V 99 (iv (List.length x61:Int)),V 100 (iv 0)],[W 0 1 [.fn 17 [pt 1 1]],W 1 1 [.s (.int .u32 a3)],(3,.rows 2 (List.map c_S_api_Deduced x61))],5⟩ ?_
 refine jc_block ?_
 refine jc_bind (fun y=>match y with | Sum.inl _=>⟨[V 8 (bv false)],[],0⟩ | Sum.inr _=>⟨[V 21 (iv x62)],[],0⟩) (fun y=>match y with | Sum.inl _=>.ret | Sum.inr _=>(.exit 8)) (jc_loop (fun x65=>⟨[V 10 (pt 0 1),V 21 (iv x62),V 98 (.osl 2 0 (List.length x61) 2),V 99 (iv (List.length x61:Int)),V 100 (iv x65)],[W 0 1 [.fn 17 [pt 1 1]],W 1 1 [.s (.int .u32 a3)],(2,.rows 2 (List.map c_S_api_Deduced x61))],3⟩) (wkR [(0,some 0),(1,some 1),(2,some 3)] (fix_nil _) (pc (hC 0) (pc (hC 1) (pc (hL 3 (noid_map ni_S_api_Deduced _)) allp_nil)))) ?_) ?_
 ·intro x65
  unfold law26_PropSound_l5
  refine jS ⟨[V 10 (pt 0 1),V 21 (iv x62),V 98 (.osl 2 0 (List.length x61) 2),V 99 (iv (List.length x61:Int)),V 100 (iv x65),V 101 (bv (decide (x65 < (List.length x61:Int))))],[W 0 1 [.fn 17 [pt 1 1]],W 1 1 [.s (.int .u32 a3)],(2,.rows 2 (List.map c_S_api_Deduced x61))],3⟩ ?_
  refine jc_seq ?_
  refine jIf ?_ ?_
  ·refine jc_skip ?_
   refine jx_seqN ?_
   refine jc_seq ?_
   refine jc_block ?_
   refine jR ?_
   refine jr_part (i:=0) (mo:=ixl x61 x65) rfl rfl rfl rfl (fun _ hc=>aop_ixo0 (sz:=2) (e:=39) (kk:=.i64) (id:=2) (by kernel_rfl) (by kernel_rfl) (by kernel_rfl) (by kernel_rfl) hc) (fun _=>rfl) ?_
   intro x69 h69
   refine jr_one (i:=1) (v:=.agg [iv x69.Lit,iv x69.Reason]) rfl rfl rfl rfl (aop_ldo (l:=x61) (c:=c_S_api_Deduced) (id:=2) (k:=(Int.toNat x65)) (sz:=2) (off:=0) (a:=x69) (by kernel_rfl) (by kernel_rfl) (ixl_lt h69).2.2 (by kernel_rfl)) rfl ?_
   refine jG 2 2 ⟨[V 10 (pt 0 1),V 21 (iv x62),V 23 (pt 3 2),V 98 (.osl 2 0 (List.length x61) 2),V 99 (iv (List.length x61:Int)),V 100 (iv x65)],[W 0 1 [.fn 17 [pt 1 1]],W 1 1 [.s (.int .u32 a3)],(2,.rows 2 (List.map c_S_api_Deduced x61)),W 3 2 [iv x69.Lit,iv x69.Reason]],4⟩ ?_
   refine jN ?_
   refine jR ?_
   refine jG 0 3 ⟨[V 10 (pt 0 1),V 21 (iv x62),V 98 (.osl 2 0 (List.length x61) 2),V 99 (iv (List.length x61:Int)),V 100 (iv x65),V 104 (.fn 17 [pt 1 1]),V 106 (iv x69.Lit)],[W 0 1 [.fn 17 [pt 1 1]],W 1 1 [.s (.int .u32 a3)],(2,.rows 2 (List.map c_S_api_Deduced x61))],4⟩ ?_
   refine jr_callV (i:=3) rfl rfl rfl rfl (g:=17) (caps:=[pt 1 1]) (avs:=[iv x69.Lit]) (vs:=[iv x69.Lit,pt 1 1]) (vs0:=[iv x69.Lit,.fptr [.s (.int .u32 a3)] 0]) (b:=true) (by kernel_rfl) (by kernel_rfl) rfl (by kernel_rfl) (all2_cons (fle_refl _) (all2_cons (fle_refl _) all2_nil)) (law26_PropSound_1_sb011_ok x69.Lit a3) (fun _=>rfl) (fun _=>rfl) ?_
   intro x70 h70
   refine jG 4 1 ⟨[V 10 (pt 0 1),V 21 (iv x62),V 98 (.osl 2 0 (List.length x61) 2),V 99 (iv (List.length x61:Int)),V 100 (iv x65),V 108 (bv (!x70))],[W 0 1 [.fn 17 [pt 1 1]],W 1 1 [.s (.int .u32 a3)],(2,.rows 2 (List.map c_S_api_Deduced x61))],4⟩ ?_
   refine jN ?_
   refine jIf ?_ ?_
   ·refine jS ⟨[V 8 (bv false)],[],4⟩ ?_
    refine jc_ret ?_
    refine jx_blkR ?_
    refine jx_seqR ?_
    exact jx_done rfl nofun (wkR [] (fix_nil _) allp_nil)
   refine jc_skip ?_
   refine jx_blkN ?_
   refine jx_seqN ?_
   refine jT ⟨[V 10 (pt 0 1),V 21 (iv x62),V 98 (.osl 2 0 (List.length x61) 2),V 99 (iv (List.length x61:Int)),V 100 (iv (w64 (x65 + 1)))],[W 0 1 [.fn 17 [pt 1 1]],W 1 1 [.s (.int .u32 a3)],(2,.rows 2 (List.map c_S_api_Deduced x61))],4⟩ ?_
   exact jx_next (wkR [(0,some 0),(1,some 1),(2,some 2)] (fix_nil _) (pc (hC 0) (pc (hC 1) (pc (hL 2 (noid_map ni_S_api_Deduced _)) allp_nil))))
  refine jc_exit ?_
  refine jx_seqE ?_
  exact jx_done rfl nofun (wkR [] (fix_nil _) allp_nil)
 rintro (_ | _)
 ·refine jx_blkR ?_
  refine jx_seqR ?_
  exact jx_retF (.inr rfl) (v:=bv false) (by kernel_rfl) rfl (fle_refl _)
 refine jx_blkE ?_
 refine jx_seqN ?_
 refine jR ?_
 refine jG 0 3 ⟨[V 112 (bv (x62 == (-1)))],[],0⟩ ?_
 refine jr_bind 3 2 (fun x72=>⟨[V 114 (bv x72)],[],0⟩) ?_ ?_
 ·refine jSp 112 ?_ ?_
  ·refine jK 0 (law26_awake_ok) ?_
   intro x73 h73
   refine jG 1 1 ⟨[V 114 (bv x73)],[],0⟩ ?_
   refine jr_nil rfl ?_
   exact jx_mid rfl (wkR [] (fix_nil _) allp_nil)
  refine jG 0 2 ⟨[V 114 (bv false)],[],0⟩ ?_
  refine jr_nil rfl ?_
  exact jx_mid rfl (wkR [] (fix_nil _) allp_nil)
 intro x72
 refine jG 5 1 ⟨[V 8 (bv x72)],[],0⟩ ?_
 refine jN ?_
 refine jc_ret ?_
 exact jx_retF (.inr rfl) (v:=bv x72) (by kernel_rfl) rfl (fle_refl _))
end Go.Vm

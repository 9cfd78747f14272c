/- The law PropOrder, a part of its proof: what the functions that it reaches compute. -/
import Derived.Test.YtegkglnbjbaibaaG0PropOrder
import Derived.Test.YtegkglnbjbaibaaW26PropOrder
set_option linter.unusedVariables false
set_option linter.unusedSimpArgs false
set_option maxRecDepth 100000
set_option maxHeartbeats 0
set_option linter.unusedVariables false
set_option linter.unusedSimpArgs false
namespace Go.Vm
open Go
abbrev prop_Close_m2d81_r1:List LO:=[lo 4 (.assign (.const (.slice none 0 0))) 23,lo 5 (.assign (.const (.bool false))) 4]
abbrev prop_Close_m2d81_r2:List LO:=[lm 10 0 22,lm 11 1 23,lo 12 (.call ⟨.value (.func 14),#[.tmp 10,.tmp 11],#[22,23]⟩) 33,lm 9 12 33,lo 13 (.extract (.tmp 9) 0) 24,lo 14 (.extract (.tmp 9) 1) 3,lo 6 (.assign (.tmp 13)) 24,lo 7 (.assign (.tmp 14)) 3]
abbrev prop_Close_m2d81_r3:List LO:=[lm 15 7 3,lo 16 (.binOp .neq 3 (.tmp 15) (.const (.int .i64 (-1))) 3) 4]
abbrev prop_Close_m2d81_r4:List LO:=[lo 4 (.assign (.const (.slice none 0 0))) 23,lo 5 (.assign (.const (.bool false))) 4]
abbrev prop_Close_m2d81_r5:List LO:=[lm 17 6 24,lo 18 (.call ⟨.value (.func 15),#[.tmp 17],#[24]⟩) 23,lo 8 (.assign (.tmp 18)) 23]
abbrev prop_Close_m2d81_r6:List LO:=[lm 19 8 23,lo 20 (.call ⟨.value (.func 16),#[.tmp 19,.func 17],#[23,39]⟩) 0]
abbrev prop_Close_m2d81_r7:List LO:=[lm 21 8 23,lo 4 (.assign (.tmp 21)) 23,lo 5 (.assign (.const (.bool true))) 4]
abbrev prop_Close_m2d81_c:LC:=.seq (.reg false prop_Close_m2d81_r1) (.seq (.reg false prop_Close_m2d81_r2) (.seq (.seq (.reg false prop_Close_m2d81_r3) (.cond (.tmp 16) (.seq (.reg false prop_Close_m2d81_r4) .ret) .skip)) (.seq (.reg false prop_Close_m2d81_r5) (.seq (.reg false prop_Close_m2d81_r6) (.seq (.reg false prop_Close_m2d81_r7) .ret)))))
theorem prop_Close_m2d81_k:FnOk E 6 22 [.tmp 4,.tmp 5] prop_Close_m2d81_c:=⟨⟨Go.Proofs.Try.f6,by kernel_rfl,by kernel_rfl,by kernel_rfl,by kernel_rfl,by kernel_rfl⟩,rfl,rfl⟩
abbrev prop_Close_m2d81_T (a0:List (List Int)) (a1:List Int) (r:List Int × Bool):CS:=⟨[V 4 (.osl 1 0 (List.length r.1) 1),V 5 (bv r.2)],[(0,.rows 1 (List.map c_L3 a0)),(1,.rows 1 (List.map cI r.1))],2⟩
noncomputable def prop_Close_m2d81 (a0:List (List Int)) (a1:List Int):Option (List Int × Bool):=Option.bind (prop_Run_m2d81 a0 a1) (fun (x7,x8)=>(if (x8 != (-1))=true then some ([],false) else Option.bind (prop_Lits x7) (fun x9=>Option.bind (slices_SortFuncI x9) (fun x10=>some (x10,true)))))
theorem prop_Close_m2d81_ok (a0:List (List Int)) (a1:List Int):CtM E 6 [.osl 0 0 (List.length a0) 1,.fsl 1 (List.map cI a1)] [(0,.rows 1 (List.map c_L3 a0))] 1 (prop_Close_m2d81 a0 a1) (fun r:List Int × Bool=>.tup [.osl 1 0 (List.length r.1) 1,bv r.2]) (fun r:List Int × Bool=>[(0,.rows 1 (List.map c_L3 a0)),(1,.rows 1 (List.map cI r.1))]) 2:=ctm_intro (N:=22) (L:=prop_Close_m2d81_c) prop_Close_m2d81_k rfl (Nat.le_of_ble_eq_true rfl) (fun F hF=>by
 unfold prop_Close_m2d81
 refine jS ⟨[V 0 (.osl 0 0 (List.length a0) 1),V 1 (.fsl 1 (List.map cI a1))],[(0,.rows 1 (List.map c_L3 a0))],1⟩ ?_
 refine jR ?_
 refine jG 0 2 ⟨[V 10 (.osl 0 0 (List.length a0) 1),V 11 (.fsl 1 (List.map cI a1))],[(0,.rows 1 (List.map c_L3 a0))],1⟩ ?_
 refine jr_callM 2 [(0,some 0)] [(0,some 0),(2,some 2)] (fun r:List S_api_Deduced × Int=>[(0,.rows 1 (List.map c_L3 a0)),(2,.rows 2 (List.map c_S_api_Deduced r.1))]) (fun r:List S_api_Deduced × Int=>.tup [.osl 2 0 (List.length r.1) 2,iv r.2]) 4 (prop_Run_m2d81_ok a0 a1) (pc (hL 0 (noid_map ni_L3 _)) allp_nil) (fun r=>(pc (.inr (hL 0 (noid_map ni_L3 _))) (pc (.inr (hL 2 (noid_map ni_S_api_Deduced _))) allp_nil))) ?_
 rintro⟨x7,x8⟩ hm6
 refine jG 3 5 ⟨[V 6 (.osl 2 0 (List.length x7) 2),V 7 (iv x8)],[(0,.rows 1 (List.map c_L3 a0)),(2,.rows 2 (List.map c_S_api_Deduced x7))],4⟩ ?_
 refine jN ?_
 refine jc_seq ?_
 refine jS ⟨[V 6 (.osl 2 0 (List.length x7) 2),V 16 (bv (x8 != (-1)))],[(0,.rows 1 (List.map c_L3 a0)),(2,.rows 2 (List.map c_S_api_Deduced x7))],4⟩ ?_
 refine jIf ?_ ?_
 ·refine jS ⟨[V 4 (nilS),V 5 (bv false)],[(0,.rows 1 (List.map c_L3 a0))],4⟩ ?_
  refine jc_ret ?_
  refine jx_seqR ?_
  exact jx_retM (prop_Close_m2d81_T a0 a1 ([],false)) (.inr rfl) (wkR [(0,some 0),(1,none)] (fix_of hF (k:=1) rfl) (pc (hL 0 (noid_map ni_L3 _)) (pc hZ allp_nil)))
 refine jc_skip ?_
 refine jx_seqN ?_
 refine jR ?_
 refine jG 0 1 ⟨[V 17 (.osl 2 0 (List.length x7) 2)],[(0,.rows 1 (List.map c_L3 a0)),(2,.rows 2 (List.map c_S_api_Deduced x7))],4⟩ ?_
 refine jr_callM 1 [(0,some 2)] [(2,some 0),(4,some 1)] (fun r:List Int=>[(0,.rows 1 (List.map c_L3 a0)),(2,.rows 2 (List.map c_S_api_Deduced x7)),(4,.rows 1 (List.map cI r))]) (fun r:List Int=>.osl 4 0 (List.length r) 1) 5 (prop_Lits_ok x7) (pc (hL 2 (noid_map ni_S_api_Deduced _)) allp_nil) (fun r=>(pc (.inl ⟨rfl,rfl⟩) (pc (.inr (hL 0 (noid_map ni_S_api_Deduced _))) (pc (.inr (hL 1 (noid_map ni_I _))) allp_nil)))) ?_
 rintro x9 hm5
 refine jG 2 1 ⟨[V 8 (.osl 4 0 (List.length x9) 1)],[(0,.rows 1 (List.map c_L3 a0)),(4,.rows 1 (List.map cI x9))],5⟩ ?_
 refine jN ?_
 refine jR ?_
 refine jG 0 1 ⟨[V 8 (.osl 4 0 (List.length x9) 1),V 19 (.osl 4 0 (List.length x9) 1)],[(0,.rows 1 (List.map c_L3 a0)),(4,.rows 1 (List.map cI x9))],5⟩ ?_
 refine jr_callM 1 [(0,some 4)] [(4,some 0)] (fun r:List Int=>[(0,.rows 1 (List.map c_L3 a0)),(4,.rows 1 (List.map cI r))]) (fun r:List Int=>.tup []) 5 (slices_SortFuncI_ok x9) (pc (hL 4 (noid_map ni_I _)) allp_nil) (fun r=>(pc (.inl ⟨rfl,rfl⟩) (pc (.inr (hL 0 (noid_map ni_I _))) allp_nil))) ?_
 rintro x10 hm4
 try rw[← slices_SortFuncI_len hm4]
 refine jN ?_
 refine jS ⟨[V 4 (.osl 4 0 (List.length x10) 1),V 5 (bv true)],[(0,.rows 1 (List.map c_L3 a0)),(4,.rows 1 (List.map cI x10))],5⟩ ?_
 refine jc_ret ?_
 exact jx_retM (prop_Close_m2d81_T a0 a1 (x10,true)) (.inr rfl) (wkR [(0,some 0),(1,some 4)] (fix_of hF (k:=1) rfl) (pc (hL 0 (noid_map ni_L3 _)) (pc (hL 4 (noid_map ni_I _)) allp_nil))))
abbrev law26_PropOrder_r1:List LO:=[lo 6 (.assign (.const (.bool false))) 4]
abbrev law26_PropOrder_r2:List LO:=[lm 24 0 22,lo 25 (.call ⟨.value (.func 5),#[.tmp 24],#[22]⟩) 22,lm 26 1 23,lm 27 1 23,lo 28 (.call ⟨.builtin .len,#[.tmp 27],#[23]⟩) 3,lo 29 (.call ⟨.builtin .min,#[.tmp 28,.const (.int .i64 30)],#[3,3]⟩) 3,lo 30 (.slice 23 (.tmp 26) none (some (.tmp 29)) none) 23,lo 7 (.assign (.tmp 25)) 22,lo 8 (.assign (.tmp 30)) 23]
abbrev law26_PropOrder_r3:List LO:=[lm 32 7 22,lm 33 8 23,lo 34 (.call ⟨.value (.func 14),#[.tmp 32,.tmp 33],#[22,23]⟩) 33,lm 31 34 33,lo 35 (.extract (.tmp 31) 0) 24,lo 36 (.extract (.tmp 31) 1) 3,lo 9 (.assign (.tmp 35)) 24,lo 10 (.assign (.tmp 36)) 3]
abbrev law26_PropOrder_r4:List LO:=[lm 37 7 22,lm 38 9 24,lo 39 (.call ⟨.value (.func 10),#[.tmp 37,.tmp 38],#[22,24]⟩) 4,lo 40 (.unOp .not 4 (.tmp 39)) 4]
abbrev law26_PropOrder_r5:List LO:=[lo 6 (.assign (.const (.bool false))) 4]
abbrev law26_PropOrder_r6:List LO:=[lo 11 (.assign (.const (.slice none 0 0))) 22]
abbrev law26_PropOrder_r7:List LO:=[lm 41 7 22,lo 42 (.call ⟨.builtin .len,#[.tmp 41],#[22]⟩) 3,lo 43 (.binOp .sub 3 (.tmp 42) (.const (.int .i64 1)) 3) 3,lo 12 (.assign (.tmp 43)) 3]
abbrev law26_PropOrder_r8:List LO:=[lm 44 12 3,lo 45 (.binOp .geq 3 (.tmp 44) (.const (.int .i64 0)) 3) 4]
abbrev law26_PropOrder_r9:List LO:=[lm 48 11 22,lm 49 7 22,lm 50 12 3,lo 51 (.indexAddr 22 (.tmp 49) (.tmp 50)) 0,lo 52 (.load 23 (.tmp 51)) 23,lo 53 (.buildSlice 22 1 #[(0,.tmp 52)]) 22,lo 54 (.call ⟨.builtin .append,#[.tmp 48,.tmp 53],#[22,22]⟩) 22,lo 11 (.assign (.tmp 54)) 22]
abbrev law26_PropOrder_r10:List LO:=[lm 46 12 3,lo 47 (.binOp .sub 3 (.tmp 46) (.const (.int .i64 1)) 3) 3,lo 12 (.assign (.tmp 47)) 3]
abbrev law26_PropOrder_r11:List LO:=[lm 56 7 22,lm 57 8 23,lo 58 (.call ⟨.value (.func 6),#[.tmp 56,.tmp 57],#[22,23]⟩) 26,lm 55 58 26,lo 59 (.extract (.tmp 55) 0) 23,lo 60 (.extract (.tmp 55) 1) 4,lo 13 (.assign (.tmp 59)) 23,lo 14 (.assign (.tmp 60)) 4]
abbrev law26_PropOrder_r12:List LO:=[lm 62 11 22,lm 63 8 23,lo 64 (.call ⟨.value (.func 6),#[.tmp 62,.tmp 63],#[22,23]⟩) 26,lm 61 64 26,lo 65 (.extract (.tmp 61) 0) 23,lo 66 (.extract (.tmp 61) 1) 4,lo 15 (.assign (.tmp 65)) 23,lo 16 (.assign (.tmp 66)) 4]
abbrev law26_PropOrder_r13:List LO:=[lm 68 7 22,lo 69 (.buildSlice 23 0 #[]) 23,lm 70 8 23,lo 71 (.call ⟨.builtin .append,#[.tmp 69,.tmp 70],#[23,23]⟩) 23,lm 72 2 3,lo 73 (.buildSlice 23 1 #[(0,.tmp 72)]) 23,lo 74 (.call ⟨.builtin .append,#[.tmp 71,.tmp 73],#[23,23]⟩) 23,lo 75 (.call ⟨.value (.func 6),#[.tmp 68,.tmp 74],#[22,23]⟩) 26,lm 67 75 26,lo 76 (.extract (.tmp 67) 0) 23,lo 77 (.extract (.tmp 67) 1) 4,lo 17 (.assign (.tmp 76)) 23,lo 18 (.assign (.tmp 77)) 4]
abbrev law26_PropOrder_r14:List LO:=[lm 78 13 23,lm 79 15 23,lo 80 (.call ⟨.value (.func 12),#[.tmp 78,.tmp 79],#[23,23]⟩) 4,lo 81 (.unOp .not 4 (.tmp 80)) 4,lm 82 81 4,lmg 83 14 4 82 false,lmg 84 16 4 82 false,lg 85 (.binOp .neq 4 (.tmp 83) (.tmp 84) 4) 4 82 false,lo 86 (.pick (.tmp 82) (.const (.bool true)) (.tmp 85)) 4,lm 87 86 4,lmg 88 18 4 87 false,lmg 89 88 4 87 false,lmg 90 14 4 89 true,lg 91 (.unOp .not 4 (.tmp 90)) 4 89 true,lg 92 (.pick (.tmp 89) (.tmp 91) (.const (.bool false))) 4 87 false,lo 93 (.pick (.tmp 87) (.const (.bool true)) (.tmp 92)) 4]
abbrev law26_PropOrder_r15:List LO:=[lo 6 (.assign (.const (.bool false))) 4]
abbrev law26_PropOrder_r16:List LO:=[lm 94 13 23,lo 95 (.call ⟨.builtin .len,#[.tmp 94],#[23]⟩) 3,lo 96 (.move (.const (.int .i64 0))) 3]
abbrev law26_PropOrder_r17:List LO:=[lo 97 (.binOp .lss 3 (.tmp 96) (.tmp 95) 3) 0]
abbrev law26_PropOrder_r18:List LO:=[lo 98 (.indexAddr 23 (.tmp 94) (.tmp 96)) 0,lo 99 (.load 3 (.tmp 98)) 3,lo 20 (.assign (.tmp 99)) 3]
abbrev law26_PropOrder_r19:List LO:=[lm 100 18 4,lo 101 (.unOp .not 4 (.tmp 100)) 4,lo 21 (.assign (.tmp 101)) 4]
abbrev law26_PropOrder_r20:List LO:=[lm 102 17 23,lo 103 (.call ⟨.builtin .len,#[.tmp 102],#[23]⟩) 3,lo 104 (.move (.const (.int .i64 0))) 3]
abbrev law26_PropOrder_r21:List LO:=[lo 105 (.binOp .lss 3 (.tmp 104) (.tmp 103) 3) 0]
abbrev law26_PropOrder_r22:List LO:=[lo 106 (.indexAddr 23 (.tmp 102) (.tmp 104)) 0,lo 107 (.load 3 (.tmp 106)) 3,lo 23 (.assign (.tmp 107)) 3]
abbrev law26_PropOrder_r23:List LO:=[lm 108 21 4,lm 109 108 4,lmg 110 23 3 109 false,lmg 111 20 3 109 false,lg 112 (.binOp .eql 3 (.tmp 110) (.tmp 111) 3) 4 109 false,lo 113 (.pick (.tmp 109) (.const (.bool true)) (.tmp 112)) 4,lo 21 (.assign (.tmp 113)) 4]
abbrev law26_PropOrder_r24:List LO:=[lo 114 (.binOp .add 3 (.tmp 104) (.const (.int .i64 1)) 3) 3,lm 104 114 3]
abbrev law26_PropOrder_r25:List LO:=[lm 115 21 4,lo 116 (.unOp .not 4 (.tmp 115)) 4]
abbrev law26_PropOrder_r26:List LO:=[lo 6 (.assign (.const (.bool false))) 4]
abbrev law26_PropOrder_r27:List LO:=[lo 117 (.binOp .add 3 (.tmp 96) (.const (.int .i64 1)) 3) 3,lm 96 117 3]
abbrev law26_PropOrder_r28:List LO:=[lo 118 (.call ⟨.value (.func 13),#[],#[]⟩) 4,lo 6 (.assign (.tmp 118)) 4]
abbrev law26_PropOrder_c:LC:=.seq (.reg false law26_PropOrder_r1) (.seq (.reg true law26_PropOrder_r2) (.seq (.reg false law26_PropOrder_r3) (.seq (.seq (.reg false law26_PropOrder_r4) (.cond (.tmp 40) (.seq (.reg false law26_PropOrder_r5) .ret) .skip)) (.seq (.reg false law26_PropOrder_r6) (.seq (.seq (.reg false law26_PropOrder_r7) (.block 0 (.loop (.seq (.seq (.reg false law26_PropOrder_r8) (.cond (.tmp 45) .skip (.exit 0))) (.seq (.block 1 (.reg false law26_PropOrder_r9)) (.reg false law26_PropOrder_r10)))))) (.seq (.reg false law26_PropOrder_r11) (.seq (.reg false law26_PropOrder_r12) (.seq (.reg false law26_PropOrder_r13) (.seq (.seq (.reg false law26_PropOrder_r14) (.cond (.tmp 93) (.seq (.reg false law26_PropOrder_r15) .ret) .skip)) (.seq (.seq (.reg false law26_PropOrder_r16) (.block 2 (.loop (.seq (.reg false law26_PropOrder_r17) (.seq (.cond (.tmp 97) .skip (.exit 2)) (.seq (.block 3 (.seq (.reg false law26_PropOrder_r18) (.seq (.reg false law26_PropOrder_r19) (.seq (.seq (.reg false law26_PropOrder_r20) (.block 4 (.loop (.seq (.reg false law26_PropOrder_r21) (.seq (.cond (.tmp 105) .skip (.exit 4)) (.seq (.block 5 (.seq (.reg false law26_PropOrder_r22) (.reg false law26_PropOrder_r23))) (.reg false law26_PropOrder_r24))))))) (.seq (.reg false law26_PropOrder_r25) (.cond (.tmp 116) (.seq (.reg false law26_PropOrder_r26) .ret) .skip)))))) (.reg false law26_PropOrder_r27))))))) (.seq (.reg false law26_PropOrder_r28) .ret)))))))))))
theorem law26_PropOrder_k:FnOk E 4 119 [.tmp 6] law26_PropOrder_c:=⟨⟨Go.Proofs.Try.f4,by kernel_rfl,by kernel_rfl,by kernel_rfl,by kernel_rfl,by kernel_rfl⟩,rfl,rfl⟩
noncomputable def law26_PropOrder_l1 (x1:(List (List Int))):(List (List Int) × Int)→Option (Step (List (List Int) × Int) (List (List Int))):=fun (x8,x9)=>(if (decide (x9≥0))=true then Option.bind (ixl x1 x9) (fun x15=>Option.bind (app 24 x8 [x15]) (fun x16=>some (Step.next (x16,(w64 (x9 - 1)))))) else some (Step.done x8))
noncomputable def law26_PropOrder_l2 (x23:List Int) (x44:Int):(Bool × Int)→Option (Step (Bool × Int) (Bool)):=fun (x46,x47)=>(if (decide (x47 < (List.length x23:Int)))=true then Option.bind (ixl x23 x47) (fun x52=>some (Step.next ((x46 || (x52 == x44)),(w64 (x47 + 1))))) else some (Step.done x46))
noncomputable def law26_PropOrder_l3 (x17:List Int) (x23:List Int) (x24:Bool):Int→Option (Step (Int) ((Unit) ⊕ (Unit))):=fun x34=>(if (decide (x34 < (List.length x17:Int)))=true then Option.bind (ixl x17 x34) (fun x44=>Option.bind (loopC (law26_PropOrder_l2 x23 x44) ((!x24),0)) (fun x51=>(if (!x51)=true then some (Step.done (Sum.inl ())) else some (Step.next (w64 (x34 + 1)))))) else some (Step.done (Sum.inr ())))
noncomputable def law26_PropOrder (a0:(List (List Int))) (a1:(List Int)) (a2:Int):Option (Bool):=Option.bind (law26_few a0) (fun x1=>Option.bind (subl a1 0 (if 30 < (List.length a1:Int) then 30 else (List.length a1:Int))) (fun x2=>Option.bind (prop_Run x1 x2) (fun (x3,x4)=>Option.bind (prop_Right x1 x3) (fun x5=>(if (!x5)=true then some false else Option.bind (loopC (law26_PropOrder_l1 x1) ([],(w64 ((List.length x1:Int) - 1)))) (fun x14=>Option.bind (prop_Close x1 x2) (fun (x17,x18)=>Option.bind (prop_Close_m2d81 x14 x2) (fun (x19,x20)=>Option.bind (app 8 ([]:List Int) x2) (fun x21=>Option.bind (app 8 x21 [a2]) (fun x22=>Option.bind (prop_Close_m8296 x1 x22) (fun (x23,x24)=>Option.bind (ref26_Ints x17 x19) (fun x25=>(if (((!x25) || (!(x18 == x20))) || (x24 && (!x18)))=true then some false else Option.bind (loopC (law26_PropOrder_l3 x17 x23 x24) 0) (fun y=>match y with | Sum.inl _=>some false | Sum.inr _=>Option.bind (law26_awake) (fun x53=>some x53)))))))))))))))
theorem law26_PropOrder_ok (a0:(List (List Int))) (a1:(List Int)) (a2:Int):Ct E 4 [.fsl 1 (List.map c_L3 a0),.fsl 1 (List.map cI a1),iv a2] (law26_PropOrder a0 a1 a2) (fun r:Bool=>bv r):=ct_intro (N:=119) (L:=law26_PropOrder_c) law26_PropOrder_k rfl (Nat.le_of_ble_eq_true rfl) (by kernel_rfl) (by
 unfold law26_PropOrder
 refine jS ⟨[V 0 (.fsl 1 (List.map c_L3 a0)),V 1 (.fsl 1 (List.map cI a1)),V 2 (iv a2)],[],0⟩ ?_
 refine jR ?_
 refine jG 0 1 ⟨[V 1 (.fsl 1 (List.map cI a1)),V 2 (iv a2),V 24 (.fsl 1 (List.map c_L3 a0))],[],0⟩ ?_
 refine jK 1 (law26_few_ok a0) ?_
 intro x1 h1
 refine jG 2 4 ⟨[V 2 (iv a2),V 25 (.fsl 1 (List.map c_L3 x1)),V 26 (.fsl 1 (List.map cI a1)),V 29 (iv (if 30 < (List.length (List.map cI a1):Int) then 30 else (List.length (List.map cI a1):Int)))],[],0⟩ ?_
 simp only[List.length_map]
 refine jr_part (i:=6) (mo:=subl a1 0 (if 30 < (List.length a1:Int) then 30 else (List.length a1:Int))) rfl rfl rfl rfl (fun _ hc=>aop_subf (c:=cI) (sz:=1) (e:=3) (by kernel_rfl) (by kernel_rfl) (by kernel_rfl) (by kernel_rfl) (by kernel_rfl) hc) (fun _=>rfl) ?_
 intro x2 h2
 refine jG 7 2 ⟨[V 2 (iv a2),V 7 (.fsl 1 (List.map c_L3 x1)),V 8 (.fsl 1 (List.map cI x2))],[],0⟩ ?_
 refine jN ?_
 refine jR ?_
 refine jG 0 2 ⟨[V 2 (iv a2),V 7 (.fsl 1 (List.map c_L3 x1)),V 8 (.fsl 1 (List.map cI x2)),V 32 (.fsl 1 (List.map c_L3 x1)),V 33 (.fsl 1 (List.map cI x2))],[],0⟩ ?_
 refine jr_callM 2 [] [(1,some 1)] (fun r:List S_api_Deduced × Int=>[(1,.rows 2 (List.map c_S_api_Deduced r.1))]) (fun r:List S_api_Deduced × Int=>.tup [.osl 1 0 (List.length r.1) 2,iv r.2]) 3 (prop_Run_ok x1 x2) allp_nil (fun r=>(pc (.inr (hL 1 (noid_map ni_S_api_Deduced _))) allp_nil)) ?_
 rintro⟨x3,x4⟩ hm4
 refine jG 3 5 ⟨[V 2 (iv a2),V 7 (.fsl 1 (List.map c_L3 x1)),V 8 (.fsl 1 (List.map cI x2)),V 9 (.osl 1 0 (List.length x3) 2)],[(1,.rows 2 (List.map c_S_api_Deduced x3))],3⟩ ?_
 refine jN ?_
 refine jc_seq ?_
 refine jR ?_
 refine jG 0 2 ⟨[V 2 (iv a2),V 7 (.fsl 1 (List.map c_L3 x1)),V 8 (.fsl 1 (List.map cI x2)),V 37 (.fsl 1 (List.map c_L3 x1)),V 38 (.osl 1 0 (List.length x3) 2)],[(1,.rows 2 (List.map c_S_api_Deduced x3))],3⟩ ?_
 refine jr_callF (i:=2) rfl rfl rfl rfl (vs:=[.fsl 1 (List.map c_L3 x1),.osl 1 0 (List.length x3) 2]) (by kernel_rfl) (snapL_cons rfl (snapL_cons (snapc_own fz_S_api_Deduced (by kernel_rfl)) (snapL_nil _))) (all2_cons (fle_refl _) (all2_cons (fle_refl _) all2_nil)) (prop_Right_ok x1 x3) (fun _=>rfl) (fun _=>rfl) ?_
 intro x5 h5
 refine jG 3 1 ⟨[V 2 (iv a2),V 7 (.fsl 1 (List.map c_L3 x1)),V 8 (.fsl 1 (List.map cI x2)),V 40 (bv (!x5))],[],3⟩ ?_
 refine jN ?_
 refine jIf ?_ ?_
 ·refine jS ⟨[V 6 (bv false)],[],3⟩ ?_
  refine jc_ret ?_
  refine jx_seqR ?_
  exact jx_retF (.inr rfl) (v:=bv false) (by kernel_rfl) rfl (fle_refl _)
 refine jc_skip ?_
 refine jx_seqN ?_
 refine jS ⟨[V 2 (iv a2),V 7 (.fsl 1 (List.map c_L3 x1)),V 8 (.fsl 1 (List.map cI x2)),V 11 (nilS)],[],3⟩ ?_
 refine jc_seq ?_
 refine jR ?_
 refine jG 0 4 ⟨[V 2 (iv a2),V 7 (.fsl 1 (List.map c_L3 x1)),V 8 (.fsl 1 (List.map cI x2)),V 11 (nilS),V 12 (iv (w64 ((List.length (List.map c_L3 x1):Int) - 1)))],[],3⟩ ?_
 simp only[List.length_map]
 refine jN ?_
 refine jc_block ?_
 refine jc_bind (fun x14=>⟨[V 2 (iv a2),V 7 (.fsl 1 (List.map c_L3 x1)),V 8 (.fsl 1 (List.map cI x2)),V 11 (.osl 0 0 (List.length x14) 1)],[(0,.rows 1 (List.map c_L3 x14))],1⟩) (fun x14=>(.exit 0)) (jc_loop (fun (x8,x9)=>⟨[V 2 (iv a2),V 7 (.fsl 1 (List.map c_L3 x1)),V 8 (.fsl 1 (List.map cI x2)),V 11 (.osl 0 0 (List.length x8) 1),V 12 (iv x9)],[(0,.rows 1 (List.map c_L3 x8))],1⟩) (wkR [(0,none)] (fix_nil _) (pc hZ allp_nil)) ?_) ?_
 ·rintro⟨x8,x9⟩
  unfold law26_PropOrder_l1
  refine jc_seq ?_
  refine jS ⟨[V 2 (iv a2),V 7 (.fsl 1 (List.map c_L3 x1)),V 8 (.fsl 1 (List.map cI x2)),V 11 (.osl 0 0 (List.length x8) 1),V 12 (iv x9),V 45 (bv (decide (x9≥0)))],[(0,.rows 1 (List.map c_L3 x8))],1⟩ ?_
  refine jIf ?_ ?_
  ·refine jc_skip ?_
   refine jx_seqN ?_
   refine jc_seq ?_
   refine jc_block ?_
   refine jc_reg ?_
   refine jG 0 3 ⟨[V 2 (iv a2),V 7 (.fsl 1 (List.map c_L3 x1)),V 8 (.fsl 1 (List.map cI x2)),V 12 (iv x9),V 48 (.osl 0 0 (List.length x8) 1),V 49 (.fsl 1 (List.map c_L3 x1)),V 50 (iv x9)],[(0,.rows 1 (List.map c_L3 x8))],1⟩ ?_
   refine jr_part (i:=3) (mo:=ixl x1 x9) rfl rfl rfl rfl (fun _ hc=>aop_ixf (c:=c_L3) (sz:=1) (e:=23) (kk:=.i64) (by kernel_rfl) (by kernel_rfl) (by kernel_rfl) (by kernel_rfl) hc) (fun _=>rfl) ?_
   intro x15 h15
   refine jG 4 2 ⟨[V 2 (iv a2),V 7 (.fsl 1 (List.map c_L3 x1)),V 8 (.fsl 1 (List.map cI x2)),V 12 (iv x9),V 48 (.osl 0 0 (List.length x8) 1),V 53 (.osl 1 0 (List.length [x15]) 1)],[(0,.rows 1 (List.map c_L3 x8)),(1,.rows 1 (List.map c_L3 [x15]))],2⟩ ?_
   refine jr_part (i:=6) (mo:=app 24 x8 [x15]) rfl rfl rfl rfl (fun _ hc=>aop_app (u:=.osl 0 0 (List.length x8) 1) (w:=.osl 1 0 (List.length [x15]) 1) (e:=23) (td:=.slice 23) (by kernel_rfl) (by kernel_rfl) (by kernel_rfl) (by kernel_rfl) (.inl ⟨_,rfl⟩) (appendOf_own (c:=c_L3) (sz:=1) (b:=24) (id:=0) (by kernel_rfl) (by kernel_rfl) (rows_own (by kernel_rfl)) (List.cons_ne_nil _ _) hc)) (fun _=>rfl) ?_
   intro x16 h16
   refine jG 7 1 ⟨[V 2 (iv a2),V 7 (.fsl 1 (List.map c_L3 x1)),V 8 (.fsl 1 (List.map cI x2)),V 11 (.osl 2 0 (List.length x16) 1),V 12 (iv x9)],[(2,.rows 1 (List.map c_L3 x16))],3⟩ ?_
   refine jr_nil rfl ?_
   refine jx_blkN ?_
   refine jx_seqN ?_
   refine jT ⟨[V 2 (iv a2),V 7 (.fsl 1 (List.map c_L3 x1)),V 8 (.fsl 1 (List.map cI x2)),V 11 (.osl 2 0 (List.length x16) 1),V 12 (iv (w64 (x9 - 1)))],[(2,.rows 1 (List.map c_L3 x16))],3⟩ ?_
   exact jx_next (wkR [(0,some 2)] (fix_nil _) (pc (hL 2 (noid_map ni_L3 _)) allp_nil))
  refine jc_exit ?_
  refine jx_seqE ?_
  exact jx_done rfl nofun (wkR [(0,some 0)] (fix_nil _) (pc (hL 0 (noid_map ni_L3 _)) allp_nil))
 intro x14
 refine jx_blkE ?_
 refine jx_seqN ?_
 refine jR ?_
 refine jG 0 2 ⟨[V 2 (iv a2),V 7 (.fsl 1 (List.map c_L3 x1)),V 8 (.fsl 1 (List.map cI x2)),V 11 (.osl 0 0 (List.length x14) 1),V 56 (.fsl 1 (List.map c_L3 x1)),V 57 (.fsl 1 (List.map cI x2))],[(0,.rows 1 (List.map c_L3 x14))],1⟩ ?_
 refine jr_callM 2 [] [(1,some 0)] (fun r:List Int × Bool=>[(0,.rows 1 (List.map c_L3 x14)),(1,.rows 1 (List.map cI r.1))]) (fun r:List Int × Bool=>.tup [.osl 1 0 (List.length r.1) 1,bv r.2]) 2 (prop_Close_ok x1 x2) allp_nil (fun r=>(pc (.inl ⟨rfl,rfl⟩) (pc (.inr (hL 0 (noid_map ni_I _))) allp_nil))) ?_
 rintro⟨x17,x18⟩ hm3
 refine jG 3 5 ⟨[V 2 (iv a2),V 7 (.fsl 1 (List.map c_L3 x1)),V 8 (.fsl 1 (List.map cI x2)),V 11 (.osl 0 0 (List.length x14) 1),V 13 (.osl 1 0 (List.length x17) 1),V 14 (bv x18)],[(0,.rows 1 (List.map c_L3 x14)),(1,.rows 1 (List.map cI x17))],2⟩ ?_
 refine jN ?_
 refine jR ?_
 refine jG 0 2 ⟨[V 2 (iv a2),V 7 (.fsl 1 (List.map c_L3 x1)),V 8 (.fsl 1 (List.map cI x2)),V 13 (.osl 1 0 (List.length x17) 1),V 14 (bv x18),V 62 (.osl 0 0 (List.length x14) 1),V 63 (.fsl 1 (List.map cI x2))],[(0,.rows 1 (List.map c_L3 x14)),(1,.rows 1 (List.map cI x17))],2⟩ ?_
 refine jr_callM 2 [(0,some 0)] [(0,some 0),(2,some 1)] (fun r:List Int × Bool=>[(0,.rows 1 (List.map c_L3 x14)),(1,.rows 1 (List.map cI x17)),(2,.rows 1 (List.map cI r.1))]) (fun r:List Int × Bool=>.tup [.osl 2 0 (List.length r.1) 1,bv r.2]) 3 (prop_Close_m2d81_ok x14 x2) (pc (hL 0 (noid_map ni_L3 _)) allp_nil) (fun r=>(pc (.inr (hL 0 (noid_map ni_L3 _))) (pc (.inl ⟨rfl,rfl⟩) (pc (.inr (hL 1 (noid_map ni_I _))) allp_nil)))) ?_
 rintro⟨x19,x20⟩ hm2
 refine jG 3 5 ⟨[V 2 (iv a2),V 7 (.fsl 1 (List.map c_L3 x1)),V 8 (.fsl 1 (List.map cI x2)),V 13 (.osl 1 0 (List.length x17) 1),V 14 (bv x18),V 15 (.osl 2 0 (List.length x19) 1),V 16 (bv x20)],[(1,.rows 1 (List.map cI x17)),(2,.rows 1 (List.map cI x19))],3⟩ ?_
 refine jN ?_
 refine jR ?_
 refine jG 0 3 ⟨[V 2 (iv a2),V 13 (.osl 1 0 (List.length x17) 1),V 14 (bv x18),V 15 (.osl 2 0 (List.length x19) 1),V 16 (bv x20),V 68 (.fsl 1 (List.map c_L3 x1)),V 69 (.osl 3 0 (List.length ([]:List Int)) 1),V 70 (.fsl 1 (List.map cI x2))],[(1,.rows 1 (List.map cI x17)),(2,.rows 1 (List.map cI x19)),(3,.rows 1 (List.map cI ([]:List Int)))],4⟩ ?_
 refine jr_two (i:=3) (C:=x2=[]) (st1:=fun x21=>⟨[V 2 (iv a2),V 13 (.osl 1 0 (List.length x17) 1),V 14 (bv x18),V 15 (.osl 2 0 (List.length x19) 1),V 16 (bv x20),V 68 (.fsl 1 (List.map c_L3 x1)),V 71 (.osl 4 0 (List.length x21) 1)],[(1,.rows 1 (List.map cI x17)),(2,.rows 1 (List.map cI x19)),(4,.rows 1 (List.map cI x21))],5⟩) rfl rfl rfl rfl (fun q _ hc=>aop_app (u:=.osl 3 0 (List.length ([]:List Int)) 1) (w:=.fsl 1 (List.map cI x2)) (e:=3) (td:=.slice 3) (by kernel_rfl) (by kernel_rfl) (by kernel_rfl) (by kernel_rfl) (.inl ⟨_,rfl⟩) (appendOf_own (c:=cI) (sz:=1) (b:=8) (id:=3) (by kernel_rfl) (by kernel_rfl) rows_fsl q hc)) (fun q _ hc=>aop_app (u:=.osl 3 0 (List.length ([]:List Int)) 1) (w:=.fsl 1 (List.map cI x2)) (e:=3) (td:=.slice 3) (by kernel_rfl) (by kernel_rfl) (by kernel_rfl) (by kernel_rfl) (.inl ⟨_,rfl⟩) (appendOf_same (c:=cI) (sz:=1) (b:=8) (m:=x2) (by kernel_rfl) (.inr (.inr ⟨_,_,_,_,rfl⟩)) rows_fsl q)) (fun _=>rfl) (fun _=>rfl) (fun _=>wkR [(1,some 1),(2,some 2),(4,some 4)] (fix_nil _) (pc (hL 1 (noid_map ni_I _)) (pc (hL 2 (noid_map ni_I _)) (pc (hL 4 (noid_map ni_I _)) allp_nil)))) (fun q _ hc=>by cases app_same q hc; exact wkR [(1,some 1),(2,some 2),(4,some 3)] (fix_nil _) (pc (hL 1 (noid_map ni_I _)) (pc (hL 2 (noid_map ni_I _)) (pc (hL 3 (noid_map ni_I _)) allp_nil)))) ?_
 intro x21 h21
 refine jG 4 2 ⟨[V 13 (.osl 1 0 (List.length x17) 1),V 14 (bv x18),V 15 (.osl 2 0 (List.length x19) 1),V 16 (bv x20),V 68 (.fsl 1 (List.map c_L3 x1)),V 71 (.osl 4 0 (List.length x21) 1),V 73 (.osl 5 0 (List.length [a2]) 1)],[(1,.rows 1 (List.map cI x17)),(2,.rows 1 (List.map cI x19)),(4,.rows 1 (List.map cI x21)),(5,.rows 1 (List.map cI [a2]))],6⟩ ?_
 refine jr_part (i:=6) (mo:=app 8 x21 [a2]) rfl rfl rfl rfl (fun _ hc=>aop_app (u:=.osl 4 0 (List.length x21) 1) (w:=.osl 5 0 (List.length [a2]) 1) (e:=3) (td:=.slice 3) (by kernel_rfl) (by kernel_rfl) (by kernel_rfl) (by kernel_rfl) (.inl ⟨_,rfl⟩) (appendOf_own (c:=cI) (sz:=1) (b:=8) (id:=4) (by kernel_rfl) (by kernel_rfl) (rows_own (by kernel_rfl)) (List.cons_ne_nil _ _) hc)) (fun _=>rfl) ?_
 intro x22 h22
 refine jr_callM 7 [(0,some 6)] [(6,some 0),(7,some 1)] (fun r:List Int × Bool=>[(1,.rows 1 (List.map cI x17)),(2,.rows 1 (List.map cI x19)),(5,.rows 1 (List.map cI [a2])),(6,.rows 1 (List.map cI x22)),(7,.rows 1 (List.map cI r.1))]) (fun r:List Int × Bool=>.tup [.osl 7 0 (List.length r.1) 1,bv r.2]) 8 (prop_Close_m8296_ok x1 x22) (pc (hL 6 (noid_map ni_I _)) allp_nil) (fun r=>(pc (.inl ⟨rfl,rfl⟩) (pc (.inl ⟨rfl,rfl⟩) (pc (.inl ⟨rfl,rfl⟩) (pc (.inr (hL 0 (noid_map ni_I _))) (pc (.inr (hL 1 (noid_map ni_I _))) allp_nil)))))) ?_
 rintro⟨x23,x24⟩ hm1
 refine jG 8 5 ⟨[V 13 (.osl 1 0 (List.length x17) 1),V 14 (bv x18),V 15 (.osl 2 0 (List.length x19) 1),V 16 (bv x20),V 17 (.osl 7 0 (List.length x23) 1),V 18 (bv x24)],[(1,.rows 1 (List.map cI x17)),(2,.rows 1 (List.map cI x19)),(7,.rows 1 (List.map cI x23))],8⟩ ?_
 refine jN ?_
 refine jc_seq ?_
 refine jR ?_
 refine jG 0 2 ⟨[V 13 (.osl 1 0 (List.length x17) 1),V 14 (bv x18),V 16 (bv x20),V 17 (.osl 7 0 (List.length x23) 1),V 18 (bv x24),V 78 (.osl 1 0 (List.length x17) 1),V 79 (.osl 2 0 (List.length x19) 1)],[(1,.rows 1 (List.map cI x17)),(2,.rows 1 (List.map cI x19)),(7,.rows 1 (List.map cI x23))],8⟩ ?_
 refine jr_callF (i:=2) rfl rfl rfl rfl (vs:=[.osl 1 0 (List.length x17) 1,.osl 2 0 (List.length x19) 1]) (by kernel_rfl) (snapL_cons (snapc_own fz_I (by kernel_rfl)) (snapL_cons (snapc_own fz_I (by kernel_rfl)) (snapL_nil _))) (all2_cons (fle_refl _) (all2_cons (fle_refl _) all2_nil)) (ref26_Ints_ok x17 x19) (fun _=>rfl) (fun _=>rfl) ?_
 intro x25 h25
 refine jG 3 13 ⟨[V 13 (.osl 1 0 (List.length x17) 1),V 17 (.osl 7 0 (List.length x23) 1),V 18 (bv x24),V 93 (bv (((!x25) || (!(x18 == x20))) || (x24 && (!x18))))],[(1,.rows 1 (List.map cI x17)),(7,.rows 1 (List.map cI x23))],8⟩ ?_
 refine jN ?_
 refine jIf ?_ ?_
 ·refine jS ⟨[V 6 (bv false)],[],8⟩ ?_
  refine jc_ret ?_
  refine jx_seqR ?_
  exact jx_retF (.inr rfl) (v:=bv false) (by kernel_rfl) rfl (fle_refl _)
 refine jc_skip ?_
 refine jx_seqN ?_
 refine jc_seq ?_
 refine jS ⟨[V 17 (.osl 7 0 (List.length x23) 1),V 18 (bv x24),V 94 (.osl 1 0 (List.length x17) 1),V 95 (iv (List.length x17:Int)),V 96 (iv 0)],[(1,.rows 1 (List.map cI x17)),(7,.rows 1 (List.map cI x23))],8⟩ ?_
 refine jc_block ?_
 refine jc_bind (fun y=>match y with | Sum.inl _=>⟨[V 6 (bv false)],[],0⟩ | Sum.inr _=>⟨[],[],0⟩) (fun y=>match y with | Sum.inl _=>.ret | Sum.inr _=>(.exit 2)) (jc_loop (fun x34=>⟨[V 17 (.osl 0 0 (List.length x23) 1),V 18 (bv x24),V 94 (.osl 1 0 (List.length x17) 1),V 95 (iv (List.length x17:Int)),V 96 (iv x34)],[(0,.rows 1 (List.map cI x23)),(1,.rows 1 (List.map cI x17))],2⟩) (wkR [(0,some 7),(1,some 1)] (fix_nil _) (pc (hL 7 (noid_map ni_I _)) (pc (hL 1 (noid_map ni_I _)) allp_nil))) ?_) ?_
 ·intro x34
  unfold law26_PropOrder_l3
  refine jS ⟨[V 17 (.osl 0 0 (List.length x23) 1),V 18 (bv x24),V 94 (.osl 1 0 (List.length x17) 1),V 95 (iv (List.length x17:Int)),V 96 (iv x34),V 97 (bv (decide (x34 < (List.length x17:Int))))],[(0,.rows 1 (List.map cI x23)),(1,.rows 1 (List.map cI x17))],2⟩ ?_
  refine jc_seq ?_
  refine jIf ?_ ?_
  ·refine jc_skip ?_
   refine jx_seqN ?_
   refine jc_seq ?_
   refine jc_block ?_
   refine jR ?_
   refine jr_part (i:=0) (mo:=ixl x17 x34) rfl rfl rfl rfl (fun _ hc=>aop_ixo0 (sz:=1) (e:=3) (kk:=.i64) (id:=1) (by kernel_rfl) (by kernel_rfl) (by kernel_rfl) (by kernel_rfl) hc) (fun _=>rfl) ?_
   intro x44 h44
   refine jr_one (i:=1) (v:=iv x44) rfl rfl rfl rfl (aop_ldo (l:=x17) (c:=cI) (id:=1) (k:=(Int.toNat x34)) (sz:=1) (off:=0) (a:=x44) (by kernel_rfl) (by kernel_rfl) (ixl_lt h44).2.2 (by kernel_rfl)) rfl ?_
   refine jG 2 1 ⟨[V 17 (.osl 0 0 (List.length x23) 1),V 18 (bv x24),V 20 (iv x44),V 94 (.osl 1 0 (List.length x17) 1),V 95 (iv (List.length x17:Int)),V 96 (iv x34)],[(0,.rows 1 (List.map cI x23)),(1,.rows 1 (List.map cI x17))],2⟩ ?_
   refine jN ?_
   refine jS ⟨[V 17 (.osl 0 0 (List.length x23) 1),V 18 (bv x24),V 20 (iv x44),V 21 (bv (!x24)),V 94 (.osl 1 0 (List.length x17) 1),V 95 (iv (List.length x17:Int)),V 96 (iv x34)],[(0,.rows 1 (List.map cI x23)),(1,.rows 1 (List.map cI x17))],2⟩ ?_
   refine jc_seq ?_
   refine jS ⟨[V 17 (.osl 0 0 (List.length x23) 1),V 18 (bv x24),V 20 (iv x44),V 21 (bv (!x24)),V 94 (.osl 1 0 (List.length x17) 1),V 95 (iv (List.length x17:Int)),V 96 (iv x34),V 102 (.osl 0 0 (List.length x23) 1),V 103 (iv (List.length x23:Int)),V 104 (iv 0)],[(0,.rows 1 (List.map cI x23)),(1,.rows 1 (List.map cI x17))],2⟩ ?_
   refine jc_block ?_
   refine jc_bind (fun x51=>⟨[V 17 (.osl 0 0 (List.length x23) 1),V 18 (bv x24),V 21 (bv x51),V 94 (.osl 1 0 (List.length x17) 1),V 95 (iv (List.length x17:Int)),V 96 (iv x34)],[(0,.rows 1 (List.map cI x23)),(1,.rows 1 (List.map cI x17))],2⟩) (fun x51=>(.exit 4)) (jc_loop (fun (x46,x47)=>⟨[V 17 (.osl 0 0 (List.length x23) 1),V 18 (bv x24),V 20 (iv x44),V 21 (bv x46),V 94 (.osl 1 0 (List.length x17) 1),V 95 (iv (List.length x17:Int)),V 96 (iv x34),V 102 (.osl 0 0 (List.length x23) 1),V 103 (iv (List.length x23:Int)),V 104 (iv x47)],[(0,.rows 1 (List.map cI x23)),(1,.rows 1 (List.map cI x17))],2⟩) (wkR [(0,some 0),(1,some 1)] (fix_nil _) (pc (hL 0 (noid_map ni_I _)) (pc (hL 1 (noid_map ni_I _)) allp_nil))) ?_) ?_
   ·rintro⟨x46,x47⟩
    unfold law26_PropOrder_l2
    refine jS ⟨[V 17 (.osl 0 0 (List.length x23) 1),V 18 (bv x24),V 20 (iv x44),V 21 (bv x46),V 94 (.osl 1 0 (List.length x17) 1),V 95 (iv (List.length x17:Int)),V 96 (iv x34),V 102 (.osl 0 0 (List.length x23) 1),V 103 (iv (List.length x23:Int)),V 104 (iv x47),V 105 (bv (decide (x47 < (List.length x23:Int))))],[(0,.rows 1 (List.map cI x23)),(1,.rows 1 (List.map cI x17))],2⟩ ?_
    refine jc_seq ?_
    refine jIf ?_ ?_
    ·refine jc_skip ?_
     refine jx_seqN ?_
     refine jc_seq ?_
     refine jc_block ?_
     refine jR ?_
     refine jr_part (i:=0) (mo:=ixl x23 x47) rfl rfl rfl rfl (fun _ hc=>aop_ixo0 (sz:=1) (e:=3) (kk:=.i64) (id:=0) (by kernel_rfl) (by kernel_rfl) (by kernel_rfl) (by kernel_rfl) hc) (fun _=>rfl) ?_
     intro x52 h52
     refine jr_one (i:=1) (v:=iv x52) rfl rfl rfl rfl (aop_ldo (l:=x23) (c:=cI) (id:=0) (k:=(Int.toNat x47)) (sz:=1) (off:=0) (a:=x52) (by kernel_rfl) (by kernel_rfl) (ixl_lt h52).2.2 (by kernel_rfl)) rfl ?_
     refine jG 2 1 ⟨[V 17 (.osl 0 0 (List.length x23) 1),V 18 (bv x24),V 20 (iv x44),V 21 (bv x46),V 23 (iv x52),V 94 (.osl 1 0 (List.length x17) 1),V 95 (iv (List.length x17:Int)),V 96 (iv x34),V 102 (.osl 0 0 (List.length x23) 1),V 103 (iv (List.length x23:Int)),V 104 (iv x47)],[(0,.rows 1 (List.map cI x23)),(1,.rows 1 (List.map cI x17))],2⟩ ?_
     refine jN ?_
     refine jT ⟨[V 17 (.osl 0 0 (List.length x23) 1),V 18 (bv x24),V 20 (iv x44),V 21 (bv (x46 || (x52 == x44))),V 94 (.osl 1 0 (List.length x17) 1),V 95 (iv (List.length x17:Int)),V 96 (iv x34),V 102 (.osl 0 0 (List.length x23) 1),V 103 (iv (List.length x23:Int)),V 104 (iv x47)],[(0,.rows 1 (List.map cI x23)),(1,.rows 1 (List.map cI x17))],2⟩ ?_
     refine jx_blkN ?_
     refine jx_seqN ?_
     refine jT ⟨[V 17 (.osl 0 0 (List.length x23) 1),V 18 (bv x24),V 20 (iv x44),V 21 (bv (x46 || (x52 == x44))),V 94 (.osl 1 0 (List.length x17) 1),V 95 (iv (List.length x17:Int)),V 96 (iv x34),V 102 (.osl 0 0 (List.length x23) 1),V 103 (iv (List.length x23:Int)),V 104 (iv (w64 (x47 + 1)))],[(0,.rows 1 (List.map cI x23)),(1,.rows 1 (List.map cI x17))],2⟩ ?_
     exact jx_next (wkR [(0,some 0),(1,some 1)] (fix_nil _) (pc (hL 0 (noid_map ni_I _)) (pc (hL 1 (noid_map ni_I _)) allp_nil)))
    refine jc_exit ?_
    refine jx_seqE ?_
    exact jx_done rfl nofun (wkR [(0,some 0),(1,some 1)] (fix_nil _) (pc (hL 0 (noid_map ni_I _)) (pc (hL 1 (noid_map ni_I _)) allp_nil)))
   intro x51
   refine jx_blkE ?_
   refine jx_seqN ?_
   refine jS ⟨[V 17 (.osl 0 0 (List.length x23) 1),V 18 (bv x24),V 94 (.osl 1 0 (List.length x17) 1),V 95 (iv (List.length x17:Int)),V 96 (iv x34),V 116 (bv (!x51))],[(0,.rows 1 (List.map cI x23)),(1,.rows 1 (List.map cI x17))],2⟩ ?_
   refine jIf ?_ ?_
   ·refine jS ⟨[V 6 (bv false)],[],2⟩ ?_
    refine jc_ret ?_
    refine jx_blkR ?_
    refine jx_seqR ?_
    exact jx_done rfl nofun (wkR [] (fix_nil _) allp_nil)
   refine jc_skip ?_
   refine jx_blkN ?_
   refine jx_seqN ?_
   refine jT ⟨[V 17 (.osl 0 0 (List.length x23) 1),V 18 (bv x24),V 94 (.osl 1 0 (List.length x17) 1),V 95 (iv (List.length x17:Int)),V 96 (iv (w64 (x34 + 1)))],[(0,.rows 1 (List.map cI x23)),(1,.rows 1 (List.map cI x17))],2⟩ ?_
   exact jx_next (wkR [(0,some 0),(1,some 1)] (fix_nil _) (pc (hL 0 (noid_map ni_I _)) (pc (hL 1 (noid_map ni_I _)) allp_nil)))
  refine jc_exit ?_
  refine jx_seqE ?_
  exact jx_done rfl nofun (wkR [] (fix_nil _) allp_nil)
 rintro (_ | _)
 ·refine jx_blkR ?_
  refine jx_seqR ?_
  exact jx_retF (.inr rfl) (v:=bv false) (by kernel_rfl) rfl (fle_refl _)
 refine jx_blkE ?_
 refine jx_seqN ?_
 refine jR ?_
 refine jK 0 (law26_awake_ok) ?_
 intro x53 h53
 refine jG 1 1 ⟨[V 6 (bv x53)],[],0⟩ ?_
 refine jN ?_
 refine jc_ret ?_
 exact jx_retF (.inr rfl) (v:=bv x53) (by kernel_rfl) rfl (fle_refl _))
end Go.Vm

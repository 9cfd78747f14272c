/- The law CnfTexts, a part of its proof: what the functions that it reaches compute. -/
import Derived.Test.YtodndfhcfhemdaaDoorG0CnfTexts
import Derived.Test.YtodndfhcfhemdaaDoorW24CnfTexts
set_option linter.unusedVariables false
set_option linter.unusedSimpArgs false
set_option maxRecDepth 100000
set_option maxHeartbeats 0
set_option linter.unusedVariables false
set_option linter.unusedSimpArgs false
namespace Go.Vm
open Go
abbrev ref24_Read_r1:List LO:=[lo 2 (.alloc 25) 0,lo 3 (.alloc 50) 0]
abbrev ref24_Read_r2:List LO:=[lm 10 0 9,lo 11 (.call ⟨.builtin .len,#[.tmp 10],#[9]⟩) 3,lo 12 (.binOp .gtr 3 (.tmp 11) (.const (.int .i64 65536)) 3) 4]
abbrev ref24_Read_r3:List LO:=[lo 13 (.build 25 #[]) 25,lo 14 (.build 50 #[(0,.const (.int .i64 12)),(1,.const (.int .i64 65536))]) 50,ln (.store 25 (.tmp 2) (.tmp 13)) 0,ln (.store 50 (.tmp 3) (.tmp 14)) 0]
abbrev ref24_Read_r4:List LO:=[lm 15 0 9,lo 16 (.build 98 #[(0,.tmp 15)]) 98,lo 17 (.box 98 (.tmp 16)) 96,lo 4 (.assign (.tmp 17)) 96]
abbrev ref24_Read_r5:List LO:=[lo 18 (.build 25 #[]) 25,lo 5 (.alloc 25) 0,ln (.store 25 (.tmp 5) (.tmp 18)) 0]
abbrev ref24_Read_r6:List LO:=[lm 19 4 96,lo 20 (.call ⟨.value (.func 62),#[.tmp 19,.const (.string ⟨#[112,32,99,110,102,32]⟩)],#[96,9]⟩) 0]
abbrev ref24_Read_r7:List LO:=[lm 21 4 96,lo 22 (.call ⟨.value (.func 63),#[.tmp 21],#[96]⟩) 3,lo 23 (.fieldAddr 25 (.tmp 5) 0) 0,ln (.store 3 (.tmp 23) (.tmp 22)) 0]
abbrev ref24_Read_r8:List LO:=[lm 24 4 96,lo 25 (.call ⟨.value (.func 62),#[.tmp 24,.const (.string ⟨#[32]⟩)],#[96,9]⟩) 0]
abbrev ref24_Read_r9:List LO:=[lm 26 4 96,lo 27 (.call ⟨.value (.func 63),#[.tmp 26],#[96]⟩) 3,lo 6 (.assign (.tmp 27)) 3]
abbrev ref24_Read_r10:List LO:=[lm 28 4 96,lo 29 (.call ⟨.value (.func 62),#[.tmp 28,.const (.string ⟨#[10]⟩)],#[96,9]⟩) 0]
abbrev ref24_Read_r11:List LO:=[lo 7 (.assign (.const (.int .i64 0))) 3]
abbrev ref24_Read_r12:List LO:=[lm 30 7 3,lm 31 6 3,lo 32 (.binOp .lss 3 (.tmp 30) (.tmp 31) 3) 4,lm 33 32 4,lmg 34 4 96 33 true,lg 35 (.nilCheck (.tmp 34)) 0 33 true,lg 36 (.fieldAddr 98 (.tmp 35) 2) 0 33 true,lg 37 (.load 3 (.tmp 36)) 3 33 true,lg 38 (.binOp .eql 3 (.tmp 37) (.const (.int .i64 0)) 3) 4 33 true,lo 39 (.pick (.tmp 33) (.tmp 38) (.const (.bool false))) 4]
abbrev ref24_Read_r13:List LO:=[lo 42 (.build 55 #[]) 55,lo 8 (.alloc 55) 0,ln (.store 55 (.tmp 8) (.tmp 42)) 0]
abbrev ref24_Read_r14:List LO:=[lm 43 4 96,lo 44 (.nilCheck (.tmp 43)) 0,lo 45 (.fieldAddr 98 (.tmp 44) 2) 0,lo 46 (.load 3 (.tmp 45)) 3,lo 47 (.binOp .eql 3 (.tmp 46) (.const (.int .i64 0)) 3) 4,lm 48 47 4,lmg 49 4 96 48 true,lg 50 (.call ⟨.value (.func 64),#[.tmp 49,.const (.int .u8 48)],#[96,5]⟩) 4 48 true,lg 51 (.unOp .not 4 (.tmp 50)) 4 48 true,lo 52 (.pick (.tmp 48) (.tmp 51) (.const (.bool false))) 4]
abbrev ref24_Read_r15:List LO:=[lo 53 (.fieldAddr 55 (.tmp 8) 0) 0,lo 54 (.load 23 (.tmp 53)) 23,lm 55 4 96,lo 56 (.call ⟨.value (.func 65),#[.tmp 55],#[96]⟩) 3,lo 57 (.buildSlice 23 1 #[(0,.tmp 56)]) 23,lo 58 (.call ⟨.builtin .append,#[.tmp 54,.tmp 57],#[23,23]⟩) 23,lo 59 (.fieldAddr 55 (.tmp 8) 0) 0,ln (.store 23 (.tmp 59) (.tmp 58)) 0]
abbrev ref24_Read_r16:List LO:=[lm 60 4 96,lo 61 (.call ⟨.value (.func 62),#[.tmp 60,.const (.string ⟨#[32]⟩)],#[96,9]⟩) 0]
abbrev ref24_Read_r17:List LO:=[lm 62 4 96,lo 63 (.call ⟨.value (.func 62),#[.tmp 62,.const (.string ⟨#[48,10]⟩)],#[96,9]⟩) 0]
abbrev ref24_Read_r18:List LO:=[lo 64 (.fieldAddr 25 (.tmp 5) 1) 0,lo 65 (.load 22 (.tmp 64)) 22,lo 66 (.load 55 (.tmp 8)) 55,lo 67 (.buildSlice 22 1 #[(0,.tmp 66)]) 22,lo 68 (.call ⟨.builtin .append,#[.tmp 65,.tmp 67],#[22,22]⟩) 22,lo 69 (.fieldAddr 25 (.tmp 5) 1) 0,ln (.store 22 (.tmp 69) (.tmp 68)) 0]
abbrev ref24_Read_r19:List LO:=[lm 40 7 3,lo 41 (.binOp .add 3 (.tmp 40) (.const (.int .i64 1)) 3) 3,lo 7 (.assign (.tmp 41)) 3]
abbrev ref24_Read_r20:List LO:=[lm 70 4 96,lo 71 (.nilCheck (.tmp 70)) 0,lo 72 (.fieldAddr 98 (.tmp 71) 2) 0,lo 73 (.load 3 (.tmp 72)) 3,lo 74 (.binOp .eql 3 (.tmp 73) (.const (.int .i64 0)) 3) 4,lm 75 74 4,lmg 76 4 96 75 true,lg 77 (.nilCheck (.tmp 76)) 0 75 true,lg 78 (.fieldAddr 98 (.tmp 77) 1) 0 75 true,lg 79 (.load 3 (.tmp 78)) 3 75 true,lmg 80 0 9 75 true,lg 81 (.call ⟨.builtin .len,#[.tmp 80],#[9]⟩) 3 75 true,lg 82 (.binOp .lss 3 (.tmp 79) (.tmp 81) 3) 4 75 true,lo 83 (.pick (.tmp 75) (.tmp 82) (.const (.bool false))) 4]
abbrev ref24_Read_r21:List LO:=[lm 84 4 96,lo 85 (.call ⟨.value (.func 62),#[.tmp 84,.const (.string ⟨#[99,32,111,114,100,101,114]⟩)],#[96,9]⟩) 0]
abbrev ref24_Read_r22:List LO:=[lo 9 (.assign (.const (.bool true))) 4]
abbrev ref24_Read_r23:List LO:=[lm 86 4 96,lo 87 (.nilCheck (.tmp 86)) 0,lo 88 (.fieldAddr 98 (.tmp 87) 2) 0,lo 89 (.load 3 (.tmp 88)) 3,lo 90 (.binOp .eql 3 (.tmp 89) (.const (.int .i64 0)) 3) 4,lm 91 90 4,lmg 92 9 4 91 true,lmg 93 92 4 91 true,lmg 94 4 96 93 false,lg 95 (.call ⟨.value (.func 64),#[.tmp 94,.const (.int .u8 10)],#[96,5]⟩) 4 93 false,lg 96 (.unOp .not 4 (.tmp 95)) 4 93 false,lg 97 (.pick (.tmp 93) (.const (.bool true)) (.tmp 96)) 4 91 true,lo 98 (.pick (.tmp 91) (.tmp 97) (.const (.bool false))) 4]
abbrev ref24_Read_r24:List LO:=[lm 99 4 96,lo 100 (.call ⟨.value (.func 62),#[.tmp 99,.const (.string ⟨#[32]⟩)],#[96,9]⟩) 0]
abbrev ref24_Read_r25:List LO:=[lo 101 (.fieldAddr 25 (.tmp 5) 2) 0,lo 102 (.load 23 (.tmp 101)) 23,lm 103 4 96,lo 104 (.call ⟨.value (.func 65),#[.tmp 103],#[96]⟩) 3,lo 105 (.buildSlice 23 1 #[(0,.tmp 104)]) 23,lo 106 (.call ⟨.builtin .append,#[.tmp 102,.tmp 105],#[23,23]⟩) 23,lo 107 (.fieldAddr 25 (.tmp 5) 2) 0,ln (.store 23 (.tmp 107) (.tmp 106)) 0]
abbrev ref24_Read_r26:List LO:=[lo 9 (.assign (.const (.bool false))) 4]
abbrev ref24_Read_r27:List LO:=[lm 108 4 96,lo 109 (.call ⟨.value (.func 62),#[.tmp 108,.const (.string ⟨#[10]⟩)],#[96,9]⟩) 0]
abbrev ref24_Read_r28:List LO:=[lm 110 4 96,lo 111 (.nilCheck (.tmp 110)) 0,lo 112 (.fieldAddr 98 (.tmp 111) 2) 0,lo 113 (.load 3 (.tmp 112)) 3,lo 114 (.binOp .eql 3 (.tmp 113) (.const (.int .i64 0)) 3) 4,lm 115 114 4,lmg 116 4 96 115 true,lg 117 (.nilCheck (.tmp 116)) 0 115 true,lg 118 (.fieldAddr 98 (.tmp 117) 1) 0 115 true,lg 119 (.load 3 (.tmp 118)) 3 115 true,lmg 120 0 9 115 true,lg 121 (.call ⟨.builtin .len,#[.tmp 120],#[9]⟩) 3 115 true,lg 122 (.binOp .lss 3 (.tmp 119) (.tmp 121) 3) 4 115 true,lo 123 (.pick (.tmp 115) (.tmp 122) (.const (.bool false))) 4]
abbrev ref24_Read_r29:List LO:=[lm 124 4 96,lo 125 (.call ⟨.value (.func 66),#[.tmp 124],#[96]⟩) 0]
abbrev ref24_Read_r30:List LO:=[lm 126 4 96,lo 127 (.nilCheck (.tmp 126)) 0,lo 128 (.fieldAddr 98 (.tmp 127) 2) 0,lo 129 (.load 3 (.tmp 128)) 3,lo 130 (.binOp .neq 3 (.tmp 129) (.const (.int .i64 0)) 3) 4]
abbrev ref24_Read_r31:List LO:=[lo 131 (.build 25 #[]) 25,lm 132 4 96,lo 133 (.nilCheck (.tmp 132)) 0,lo 134 (.fieldAddr 98 (.tmp 133) 2) 0,lo 135 (.load 3 (.tmp 134)) 3,lm 136 4 96,lo 137 (.nilCheck (.tmp 136)) 0,lo 138 (.fieldAddr 98 (.tmp 137) 1) 0,lo 139 (.load 3 (.tmp 138)) 3,lo 140 (.build 50 #[(0,.tmp 135),(1,.tmp 139)]) 50,ln (.store 25 (.tmp 2) (.tmp 131)) 0,ln (.store 50 (.tmp 3) (.tmp 140)) 0]
abbrev ref24_Read_r32:List LO:=[lo 141 (.load 25 (.tmp 5)) 25,lo 142 (.call ⟨.value (.func 10),#[.tmp 141],#[25]⟩) 4,lo 143 (.unOp .not 4 (.tmp 142)) 4]
abbrev ref24_Read_r33:List LO:=[lo 144 (.build 25 #[]) 25,lm 145 0 9,lo 146 (.call ⟨.builtin .len,#[.tmp 145],#[9]⟩) 3,lo 147 (.build 50 #[(0,.const (.int .i64 32)),(1,.tmp 146)]) 50,ln (.store 25 (.tmp 2) (.tmp 144)) 0,ln (.store 50 (.tmp 3) (.tmp 147)) 0]
abbrev ref24_Read_r34:List LO:=[lo 148 (.load 25 (.tmp 5)) 25,lo 149 (.build 50 #[]) 50,ln (.store 25 (.tmp 2) (.tmp 148)) 0,ln (.store 50 (.tmp 3) (.tmp 149)) 0]
noncomputable abbrev ref24_Read_c:LC:=.seq (.reg false ref24_Read_r1) (.seq (.seq (.reg false ref24_Read_r2) (.cond (.tmp 12) (.seq (.reg false ref24_Read_r3) .ret) .skip)) (.seq (.reg false ref24_Read_r4) (.seq (.reg false ref24_Read_r5) (.seq (.reg false ref24_Read_r6) (.seq (.reg false ref24_Read_r7) (.seq (.reg false ref24_Read_r8) (.seq (.reg false ref24_Read_r9) (.seq (.reg false ref24_Read_r10) (.seq (.seq (.reg false ref24_Read_r11) (.block 0 (.loop (.seq (.seq (.reg false ref24_Read_r12) (.cond (.tmp 39) .skip (.exit 0))) (.seq (.block 1 (.seq (.reg false ref24_Read_r13) (.seq (.block 2 (.loop (.seq (.seq (.reg false ref24_Read_r14) (.cond (.tmp 52) .skip (.exit 2))) (.block 3 (.seq (.full (regOps (codeSub (bodyOf Go.Proofs.Tryd.f26) [1,1,1,1,1,1,1,1,1,0,1,0,0,1,0,0,1,0,0,0,1,0,0]))) (.reg false ref24_Read_r16)))))) (.seq (.reg false ref24_Read_r17) (.reg false ref24_Read_r18))))) (.reg false ref24_Read_r19)))))) (.seq (.seq (.reg false ref24_Read_r20) (.cond (.tmp 83) (.seq (.reg false ref24_Read_r21) (.seq (.seq (.reg false ref24_Read_r22) (.block 4 (.loop (.seq (.seq (.reg false ref24_Read_r23) (.cond (.tmp 98) .skip (.exit 4))) (.seq (.block 5 (.seq (.reg false ref24_Read_r24) (.full (regOps (codeSub (bodyOf Go.Proofs.Tryd.f26) [1,1,1,1,1,1,1,1,1,1,0,1,0,1,0,1,0,0,1,0,0,1]))))) (.reg false ref24_Read_r26)))))) (.seq (.reg false ref24_Read_r27) (.seq (.reg false ref24_Read_r28) (.cond (.tmp 123) (.reg false ref24_Read_r29) .skip))))) .skip)) (.seq (.seq (.reg false ref24_Read_r30) (.cond (.tmp 130) (.seq (.full (regOps (codeSub (bodyOf Go.Proofs.Tryd.f26) [1,1,1,1,1,1,1,1,1,1,1,0,1,0,0]))) .ret) .skip)) (.seq (.seq (.reg false ref24_Read_r32) (.cond (.tmp 143) (.seq (.reg false ref24_Read_r33) .ret) .skip)) (.seq (.reg false ref24_Read_r34) .ret)))))))))))))
theorem ref24_Read_k:FnOk E 26 150 [.cell 2 25,.cell 3 50] ref24_Read_c:=⟨⟨Go.Proofs.Tryd.f26,by kernel_rfl,by kernel_rfl,by kernel_rfl,by kernel_rfl,by kernel_rfl⟩,rfl,rfl⟩
noncomputable def ref24_Read_l1 (a0:Str):(Int × Int × List Int)→Option (Step (Int × Int × List Int) (Int × Int × List Int)):=fun (x88,x89,x90)=>Option.bind (if (x89 == 0)=true then Option.bind (ref24_Reader_is_s1fbc a0 x88 x89 48) (fun x107=>some (!x107)) else some false:Option (Bool)) (fun x106=>(if x106=true then Option.bind (ref24_Reader_literal a0 x88 x89) (fun (x108,x109,x110)=>Option.bind (app 8 x90 [x108]) (fun x111=>Option.bind (ref24_Reader_all a0 x109 x110 [32]) (fun (x112,x113)=>some (Step.next (x112,x113,x111))))) else some (Step.done (x88,x89,x90))))
noncomputable def ref24_Read_l2 (a0:Str) (x8:Int):(Int × Int × List S_api_Clause × Int)→Option (Step (Int × Int × List S_api_Clause × Int) (Int × Int × List S_api_Clause)):=fun (x41,x42,x43,x44)=>(if ((decide (x44 < x8)) && (x42 == 0))=true then Option.bind (loopC (ref24_Read_l1 a0) (x41,x42,[])) (fun (x102,x103,x104)=>Option.bind (ref24_Reader_all a0 x102 x103 [48,10]) (fun (x114,x115)=>Option.bind (app 32 x43 [(S_api_Clause.mk x104 0)]) (fun x116=>some (Step.next (x114,x115,x116,(w64 (x44 + 1))))))) else some (Step.done (x41,x42,x43)))
noncomputable def ref24_Read_l3 (a0:Str):(Int × Int × List Int × Bool)→Option (Step (Int × Int × List Int × Bool) (Int × Int × List Int)):=fun (x161,x162,x163,x164)=>Option.bind (if (x162 == 0)=true then Option.bind (if x164=true then some true else Option.bind (ref24_Reader_is_s1fbc a0 x161 x162 10) (fun x186=>some (!x186)):Option (Bool)) (fun x185=>some (true && x185)) else some false:Option (Bool)) (fun x183=>(if x183=true then Option.bind (ref24_Reader_all a0 x161 x162 [32]) (fun (x187,x188)=>Option.bind (ref24_Reader_literal a0 x187 x188) (fun (x189,x190,x191)=>Option.bind (app 8 x163 [x189]) (fun x192=>some (Step.next (x190,x191,x192,false))))) else some (Step.done (x161,x162,x163))))
noncomputable def ref24_Read (a0:Str):Option (S_api_Formula × S_api_Fault):=(if (decide ((List.length a0:Int) > 65536))=true then some ((S_api_Formula.mk 0 [] []),(S_api_Fault.mk 12 65536)) else Option.bind (ref24_Reader_all a0 0 0 [112,32,99,110,102,32]) (fun (x1,x2)=>Option.bind (ref24_Reader_number a0 x1 x2) (fun (x3,x4,x5)=>Option.bind (ref24_Reader_all a0 x4 x5 [32]) (fun (x6,x7)=>Option.bind (ref24_Reader_number a0 x6 x7) (fun (x8,x9,x10)=>Option.bind (ref24_Reader_all a0 x9 x10 [10]) (fun (x11,x12)=>Option.bind (loopC (ref24_Read_l2 a0 x8) (x11,x12,[],0)) (fun (x77,x78,x79)=>Option.bind ((if ((x78 == 0) && (decide (x77 < (List.length a0:Int))))=true then Option.bind (ref24_Reader_all a0 x77 x78 [99,32,111,114,100,101,114]) (fun (x152,x153)=>Option.bind (loopC (ref24_Read_l3 a0) (x152,x153,[],true)) (fun (x178,x179,x180)=>Option.bind (ref24_Reader_all a0 x178 x179 [10]) (fun (x193,x194)=>(if ((x194 == 0) && (decide (x193 < (List.length a0:Int))))=true then Option.bind (ref24_Reader_none a0 x193 x194) (fun x195=>some (x193,x195,x180)) else some (x193,x194,x180))))) else some (x77,x78,[])):Option (Int × Int × List Int)) (fun (x149,x150,x151)=>(if (x150 != 0)=true then some ((S_api_Formula.mk 0 [] []),(S_api_Fault.mk x150 x149)) else Option.bind (ref24_Fit (S_api_Formula.mk x3 x79 x151)) (fun x196=>(if (!x196)=true then some ((S_api_Formula.mk 0 [] []),(S_api_Fault.mk 32 (List.length a0:Int))) else some ((S_api_Formula.mk x3 x79 x151),(S_api_Fault.mk 0 0)))))))))))))
theorem ref24_Read_ok (a0:Str):Ct E 26 [bs a0] (ref24_Read a0) (fun r:S_api_Formula × S_api_Fault=>.tup [.agg [iv r.1.Vars,.fsl 2 (List.map c_S_api_Clause r.1.Clauses),.fsl 1 (List.map cI r.1.Order)],.agg [iv r.2.Err,iv r.2.At]]):=ct_intro (N:=150) (L:=ref24_Read_c) ref24_Read_k rfl (Nat.le_of_ble_eq_true rfl) (by kernel_rfl) (by
 unfold ref24_Read
 refine jS ⟨[V 0 (bs a0),V 2 (pt 0 3),V 3 (pt 1 2)],[W 0 3 [iv 0,nilS,nilS],W 1 2 [iv 0,iv 0]],2⟩ ?_
 refine jc_seq ?_
 refine jS ⟨[V 0 (bs a0),V 2 (pt 0 3),V 3 (pt 1 2),V 12 (bv (decide ((List.length a0:Int) > 65536)))],[W 0 3 [iv 0,nilS,nilS],W 1 2 [iv 0,iv 0]],2⟩ ?_
 refine jIf ?_ ?_
 ·refine jS ⟨[V 2 (pt 0 3),V 3 (pt 1 2)],[W 0 3 [iv 0,nilS,nilS],W 1 2 [iv 12,iv 65536]],2⟩ ?_
  refine jc_ret ?_
  refine jx_seqR ?_
  exact jx_retF (.inr rfl) (v:=.tup [.agg [iv 0,nilS,nilS],.agg [iv 12,iv 65536]]) (by kernel_rfl) (snapc_tup (snapL_cons (snapc_agg (snapL_cons rfl (snapL_cons rfl (snapL_cons rfl (snapL_nil _))))) (snapL_cons rfl (snapL_nil _)))) (fle_tup (all2_cons (fle_agg (all2_cons (fle_refl _) (all2_cons (fle_nil _) (all2_cons (fle_nil _) all2_nil)))) (all2_cons (fle_refl _) all2_nil)))
 refine jc_skip ?_
 refine jx_seqN ?_
 refine jS ⟨[V 0 (bs a0),V 2 (pt 0 3),V 3 (pt 1 2),V 4 (pt 2 3)],[W 0 3 [iv 0,nilS,nilS],W 1 2 [iv 0,iv 0],W 2 3 [bs a0,iv 0,iv 0]],3⟩ ?_
 refine jS ⟨[V 0 (bs a0),V 2 (pt 0 3),V 3 (pt 1 2),V 4 (pt 2 3),V 5 (pt 3 3)],[W 0 3 [iv 0,nilS,nilS],W 1 2 [iv 0,iv 0],W 2 3 [bs a0,iv 0,iv 0],W 3 3 [iv 0,nilS,nilS]],4⟩ ?_
 refine jR ?_
 refine jG 0 1 ⟨[V 0 (bs a0),V 2 (pt 0 3),V 3 (pt 1 2),V 4 (pt 2 3),V 5 (pt 3 3),V 19 (pt 2 3)],[W 0 3 [iv 0,nilS,nilS],W 1 2 [iv 0,iv 0],W 2 3 [bs a0,iv 0,iv 0],W 3 3 [iv 0,nilS,nilS]],4⟩ ?_
 refine jr_callM 1 [(0,some 2)] [(2,some 0)] (fun r:Int × Int=>[W 0 3 [iv 0,nilS,nilS],W 1 2 [iv 0,iv 0],W 2 3 [bs a0,iv r.1,iv r.2],W 3 3 [iv 0,nilS,nilS]]) (fun r:Int × Int=>.tup []) 4 (ref24_Reader_all_ok a0 0 0 [112,32,99,110,102,32]) (pc (hC 2) allp_nil) (fun r=>(pc (.inl ⟨rfl,rfl⟩) (pc (.inl ⟨rfl,rfl⟩) (pc (.inr (hC 0)) (pc (.inl ⟨rfl,rfl⟩) allp_nil))))) ?_
 rintro⟨x1,x2⟩ hm38
 refine jN ?_
 refine jR ?_
 refine jG 0 1 ⟨[V 0 (bs a0),V 2 (pt 0 3),V 3 (pt 1 2),V 4 (pt 2 3),V 5 (pt 3 3),V 21 (pt 2 3)],[W 0 3 [iv 0,nilS,nilS],W 1 2 [iv 0,iv 0],W 2 3 [bs a0,iv x1,iv x2],W 3 3 [iv 0,nilS,nilS]],4⟩ ?_
 refine jr_callM 1 [(0,some 2)] [(2,some 0)] (fun r:Int × Int × Int=>[W 0 3 [iv 0,nilS,nilS],W 1 2 [iv 0,iv 0],W 2 3 [bs a0,iv r.2.1,iv r.2.2],W 3 3 [iv 0,nilS,nilS]]) (fun r:Int × Int × Int=>iv r.1) 4 (ref24_Reader_number_ok a0 x1 x2) (pc (hC 2) allp_nil) (fun r=>(pc (.inl ⟨rfl,rfl⟩) (pc (.inl ⟨rfl,rfl⟩) (pc (.inr (hC 0)) (pc (.inl ⟨rfl,rfl⟩) allp_nil))))) ?_
 rintro⟨x3,x4,x5⟩ hm37
 refine jG 2 2 ⟨[V 0 (bs a0),V 2 (pt 0 3),V 3 (pt 1 2),V 4 (pt 2 3),V 5 (pt 3 3)],[W 0 3 [iv 0,nilS,nilS],W 1 2 [iv 0,iv 0],W 2 3 [bs a0,iv x4,iv x5],W 3 3 [iv x3,nilS,nilS]],4⟩ ?_
 refine jN ?_
 refine jR ?_
 refine jG 0 1 ⟨[V 0 (bs a0),V 2 (pt 0 3),V 3 (pt 1 2),V 4 (pt 2 3),V 5 (pt 3 3),V 24 (pt 2 3)],[W 0 3 [iv 0,nilS,nilS],W 1 2 [iv 0,iv 0],W 2 3 [bs a0,iv x4,iv x5],W 3 3 [iv x3,nilS,nilS]],4⟩ ?_
 refine jr_callM 1 [(0,some 2)] [(2,some 0)] (fun r:Int × Int=>[W 0 3 [iv 0,nilS,nilS],W 1 2 [iv 0,iv 0],W 2 3 [bs a0,iv r.1,iv r.2],W 3 3 [iv x3,nilS,nilS]]) (fun r:Int × Int=>.tup []) 4 (ref24_Reader_all_ok a0 x4 x5 [32]) (pc (hC 2) allp_nil) (fun r=>(pc (.inl ⟨rfl,rfl⟩) (pc (.inl ⟨rfl,rfl⟩) (pc (.inr (hC 0)) (pc (.inl ⟨rfl,rfl⟩) allp_nil))))) ?_
 rintro⟨x6,x7⟩ hm36
 refine jN ?_
 refine jR ?_
 refine jG 0 1 ⟨[V 0 (bs a0),V 2 (pt 0 3),V 3 (pt 1 2),V 4 (pt 2 3),V 5 (pt 3 3),V 26 (pt 2 3)],[W 0 3 [iv 0,nilS,nilS],W 1 2 [iv 0,iv 0],W 2 3 [bs a0,iv x6,iv x7],W 3 3 [iv x3,nilS,nilS]],4⟩ ?_
 refine jr_callM 1 [(0,some 2)] [(2,some 0)] (fun r:Int × Int × Int=>[W 0 3 [iv 0,nilS,nilS],W 1 2 [iv 0,iv 0],W 2 3 [bs a0,iv r.2.1,iv r.2.2],W 3 3 [iv x3,nilS,nilS]]) (fun r:Int × Int × Int=>iv r.1) 4 (ref24_Reader_number_ok a0 x6 x7) (pc (hC 2) allp_nil) (fun r=>(pc (.inl ⟨rfl,rfl⟩) (pc (.inl ⟨rfl,rfl⟩) (pc (.inr (hC 0)) (pc (.inl ⟨rfl,rfl⟩) allp_nil))))) ?_
 rintro⟨x8,x9,x10⟩ hm35
 refine jG 2 1 ⟨[V 0 (bs a0),V 2 (pt 0 3),V 3 (pt 1 2),V 4 (pt 2 3),V 5 (pt 3 3),V 6 (iv x8)],[W 0 3 [iv 0,nilS,nilS],W 1 2 [iv 0,iv 0],W 2 3 [bs a0,iv x9,iv x10],W 3 3 [iv x3,nilS,nilS]],4⟩ ?_
 refine jN ?_
 refine jR ?_
 refine jG 0 1 ⟨[V 0 (bs a0),V 2 (pt 0 3),V 3 (pt 1 2),V 4 (pt 2 3),V 5 (pt 3 3),V 6 (iv x8),V 28 (pt 2 3)],[W 0 3 [iv 0,nilS,nilS],W 1 2 [iv 0,iv 0],W 2 3 [bs a0,iv x9,iv x10],W 3 3 [iv x3,nilS,nilS]],4⟩ ?_
 refine jr_callM 1 [(0,some 2)] [(2,some 0)] (fun r:Int × Int=>[W 0 3 [iv 0,nilS,nilS],W 1 2 [iv 0,iv 0],W 2 3 [bs a0,iv r.1,iv r.2],W 3 3 [iv x3,nilS,nilS]]) (fun r:Int × Int=>.tup []) 4 (ref24_Reader_all_ok a0 x9 x10 [10]) (pc (hC 2) allp_nil) (fun r=>(pc (.inl ⟨rfl,rfl⟩) (pc (.inl ⟨rfl,rfl⟩) (pc (.inr (hC 0)) (pc (.inl ⟨rfl,rfl⟩) allp_nil))))) ?_
 rintro⟨x11,x12⟩ hm34
 refine jN ?_
 refine jc_seq ?_
 refine jS ⟨[V 0 (bs a0),V 2 (pt 0 3),V 3 (pt 1 2),V 4 (pt 2 3),V 5 (pt 3 3),V 6 (iv x8),V 7 (iv 0)],[W 0 3 [iv 0,nilS,nilS],W 1 2 [iv 0,iv 0],W 2 3 [bs a0,iv x11,iv x12],W 3 3 [iv x3,nilS,nilS]],4⟩ ?_
 refine jc_block ?_
 refine jc_bind (fun (x77,x78,x79)=>⟨[V 0 (bs a0),V 2 (pt 0 3),V 3 (pt 1 2),V 4 (pt 2 3),V 5 (pt 3 3)],[W 0 3 [iv 0,nilS,nilS],W 1 2 [iv 0,iv 0],W 2 3 [bs a0,iv x77,iv x78],W 3 3 [iv x3,.osl 4 0 (List.length x79) 2,nilS],(4,.rows 2 (List.map c_S_api_Clause x79))],5⟩) (fun (x77,x78,x79)=>(.exit 0)) (jc_loop (fun (x41,x42,x43,x44)=>⟨[V 0 (bs a0),V 2 (pt 0 3),V 3 (pt 1 2),V 4 (pt 2 3),V 5 (pt 3 3),V 6 (iv x8),V 7 (iv x44)],[W 0 3 [iv 0,nilS,nilS],W 1 2 [iv 0,iv 0],W 2 3 [bs a0,iv x41,iv x42],W 3 3 [iv x3,.osl 4 0 (List.length x43) 2,nilS],(4,.rows 2 (List.map c_S_api_Clause x43))],5⟩) (wkR [(0,some 0),(1,some 1),(2,some 2),(3,some 3),(4,none)] (fix_nil _) (pc (hC 0) (pc (hC 1) (pc (hC 2) (pc (hC 3) (pc hZ allp_nil)))))) ?_) ?_
 ·rintro⟨x41,x42,x43,x44⟩
  unfold ref24_Read_l2
  refine jc_seq ?_
  refine jS ⟨[V 0 (bs a0),V 2 (pt 0 3),V 3 (pt 1 2),V 4 (pt 2 3),V 5 (pt 3 3),V 6 (iv x8),V 7 (iv x44),V 39 (bv ((decide (x44 < x8)) && (x42 == 0)))],[W 0 3 [iv 0,nilS,nilS],W 1 2 [iv 0,iv 0],W 2 3 [bs a0,iv x41,iv x42],W 3 3 [iv x3,.osl 4 0 (List.length x43) 2,nilS],(4,.rows 2 (List.map c_S_api_Clause x43))],5⟩ ?_
  refine jIf ?_ ?_
  ·refine jc_skip ?_
   refine jx_seqN ?_
   refine jc_seq ?_
   refine jc_block ?_
   refine jS ⟨[V 0 (bs a0),V 2 (pt 0 3),V 3 (pt 1 2),V 4 (pt 2 3),V 5 (pt 3 3),V 6 (iv x8),V 7 (iv x44),V 8 (pt 5 2)],[W 0 3 [iv 0,nilS,nilS],W 1 2 [iv 0,iv 0],W 2 3 [bs a0,iv x41,iv x42],W 3 3 [iv x3,.osl 4 0 (List.length x43) 2,nilS],(4,.rows 2 (List.map c_S_api_Clause x43)),W 5 2 [nilS,iv 0]],6⟩ ?_
   refine jc_seq ?_
   refine jc_block ?_
   refine jc_bind (fun (x102,x103,x104)=>⟨[V 0 (bs a0),V 2 (pt 0 3),V 3 (pt 1 2),V 4 (pt 2 3),V 5 (pt 3 3),V 6 (iv x8),V 7 (iv x44),V 8 (pt 5 2)],[W 0 3 [iv 0,nilS,nilS],W 1 2 [iv 0,iv 0],W 2 3 [bs a0,iv x102,iv x103],W 3 3 [iv x3,.osl 4 0 (List.length x43) 2,nilS],(4,.rows 2 (List.map c_S_api_Clause x43)),W 5 2 [.osl 6 0 (List.length x104) 1,iv 0],(6,.rows 1 (List.map cI x104))],7⟩) (fun (x102,x103,x104)=>(.exit 2)) (jc_loop (fun (x88,x89,x90)=>⟨[V 0 (bs a0),V 2 (pt 0 3),V 3 (pt 1 2),V 4 (pt 2 3),V 5 (pt 3 3),V 6 (iv x8),V 7 (iv x44),V 8 (pt 5 2)],[W 0 3 [iv 0,nilS,nilS],W 1 2 [iv 0,iv 0],W 2 3 [bs a0,iv x88,iv x89],W 3 3 [iv x3,.osl 4 0 (List.length x43) 2,nilS],(4,.rows 2 (List.map c_S_api_Clause x43)),W 5 2 [.osl 6 0 (List.length x90) 1,iv 0],(6,.rows 1 (List.map cI x90))],7⟩) (wkR [(0,some 0),(1,some 1),(2,some 2),(3,some 3),(4,some 4),(5,some 5),(6,none)] (fix_nil _) (pc (hC 0) (pc (hC 1) (pc (hC 2) (pc (hC 3) (pc (hL 4 (noid_map ni_S_api_Clause _)) (pc (hC 5) (pc hZ allp_nil)))))))) ?_) ?_
   ·rintro⟨x88,x89,x90⟩
    unfold ref24_Read_l1
    refine jc_seq ?_
    refine jR ?_
    refine jG 0 6 ⟨[V 0 (bs a0),V 2 (pt 0 3),V 3 (pt 1 2),V 4 (pt 2 3),V 5 (pt 3 3),V 6 (iv x8),V 7 (iv x44),V 8 (pt 5 2),V 48 (bv (x89 == 0))],[W 0 3 [iv 0,nilS,nilS],W 1 2 [iv 0,iv 0],W 2 3 [bs a0,iv x88,iv x89],W 3 3 [iv x3,.osl 4 0 (List.length x43) 2,nilS],(4,.rows 2 (List.map c_S_api_Clause x43)),W 5 2 [.osl 6 0 (List.length x90) 1,iv 0],(6,.rows 1 (List.map cI x90))],7⟩ ?_
    refine jr_bind 6 4 (fun x106=>⟨[V 0 (bs a0),V 2 (pt 0 3),V 3 (pt 1 2),V 4 (pt 2 3),V 5 (pt 3 3),V 6 (iv x8),V 7 (iv x44),V 8 (pt 5 2),V 52 (bv x106)],[W 0 3 [iv 0,nilS,nilS],W 1 2 [iv 0,iv 0],W 2 3 [bs a0,iv x88,iv x89],W 3 3 [iv x3,.osl 4 0 (List.length x43) 2,nilS],(4,.rows 2 (List.map c_S_api_Clause x43)),W 5 2 [.osl 6 0 (List.length x90) 1,iv 0],(6,.rows 1 (List.map cI x90))],7⟩) ?_ ?_
    ·refine jSp 48 ?_ ?_
     ·refine jG 0 1 ⟨[V 0 (bs a0),V 2 (pt 0 3),V 3 (pt 1 2),V 4 (pt 2 3),V 5 (pt 3 3),V 6 (iv x8),V 7 (iv x44),V 8 (pt 5 2),(48,.lit true),V 49 (pt 2 3)],[W 0 3 [iv 0,nilS,nilS],W 1 2 [iv 0,iv 0],W 2 3 [bs a0,iv x88,iv x89],W 3 3 [iv x3,.osl 4 0 (List.length x43) 2,nilS],(4,.rows 2 (List.map c_S_api_Clause x43)),W 5 2 [.osl 6 0 (List.length x90) 1,iv 0],(6,.rows 1 (List.map cI x90))],7⟩ ?_
      refine jr_callF (i:=1) rfl rfl rfl rfl (vs:=[pt 2 3,.s (.int .u8 48)]) (vs0:=[.fptr [bs a0,iv x88,iv x89] 0,.s (.int .u8 48)]) (b:=true) (by kernel_rfl) (by kernel_rfl) (all2_cons (fle_refl _) (all2_cons (fle_refl _) all2_nil)) (ref24_Reader_is_s1fbc_ok a0 x88 x89 48) (fun _=>rfl) (fun _=>rfl) ?_
      intro x107 h107
      refine jG 2 2 ⟨[V 0 (bs a0),V 2 (pt 0 3),V 3 (pt 1 2),V 4 (pt 2 3),V 5 (pt 3 3),V 6 (iv x8),V 7 (iv x44),V 8 (pt 5 2),V 52 (bv (!x107))],[W 0 3 [iv 0,nilS,nilS],W 1 2 [iv 0,iv 0],W 2 3 [bs a0,iv x88,iv x89],W 3 3 [iv x3,.osl 4 0 (List.length x43) 2,nilS],(4,.rows 2 (List.map c_S_api_Clause x43)),W 5 2 [.osl 6 0 (List.length x90) 1,iv 0],(6,.rows 1 (List.map cI x90))],7⟩ ?_
      refine jr_nil rfl ?_
      exact jx_mid rfl (wkR [(0,some 0),(1,some 1),(2,some 2),(3,some 3),(4,some 4),(5,some 5),(6,some 6)] (fix_nil _) (pc (hC 0) (pc (hC 1) (pc (hC 2) (pc (hC 3) (pc (hL 4 (noid_map ni_S_api_Clause _)) (pc (hC 5) (pc (hL 6 (noid_map ni_I _)) allp_nil))))))))
     refine jG 0 4 ⟨[V 0 (bs a0),V 2 (pt 0 3),V 3 (pt 1 2),V 4 (pt 2 3),V 5 (pt 3 3),V 6 (iv x8),V 7 (iv x44),V 8 (pt 5 2),V 52 (bv false)],[W 0 3 [iv 0,nilS,nilS],W 1 2 [iv 0,iv 0],W 2 3 [bs a0,iv x88,iv x89],W 3 3 [iv x3,.osl 4 0 (List.length x43) 2,nilS],(4,.rows 2 (List.map c_S_api_Clause x43)),W 5 2 [.osl 6 0 (List.length x90) 1,iv 0],(6,.rows 1 (List.map cI x90))],7⟩ ?_
     refine jr_nil rfl ?_
     exact jx_mid rfl (wkR [(0,some 0),(1,some 1),(2,some 2),(3,some 3),(4,some 4),(5,some 5),(6,some 6)] (fix_nil _) (pc (hC 0) (pc (hC 1) (pc (hC 2) (pc (hC 3) (pc (hL 4 (noid_map ni_S_api_Clause _)) (pc (hC 5) (pc (hL 6 (noid_map ni_I _)) allp_nil))))))))
    intro x106
    refine jN ?_
    refine jIf ?_ ?_
    ·refine jc_skip ?_
     refine jx_seqN ?_
     refine jc_block ?_
     refine jc_seq ?_
     refine jc_fullM ref24_Read_r15 [] [53] 3 ⟨[V 0 (bs a0),V 2 (pt 0 3),V 3 (pt 1 2),V 4 (pt 2 3),V 5 (pt 3 3),V 6 (iv x8),V 7 (iv x44),V 8 (pt 5 2),V 53 (pt 5 2),V 54 (.osl 6 0 (List.length x90) 1),V 55 (pt 2 3)],[W 0 3 [iv 0,nilS,nilS],W 1 2 [iv 0,iv 0],W 2 3 [bs a0,iv x88,iv x89],W 3 3 [iv x3,.osl 4 0 (List.length x43) 2,nilS],(4,.rows 2 (List.map c_S_api_Clause x43)),W 5 2 [.osl 6 0 (List.length x90) 1,iv 0],(6,.rows 1 (List.map cI x90))],7⟩ [(0,some 2)] [(2,some 0)] (fun r:Int × Int × Int=>[W 0 3 [iv 0,nilS,nilS],W 1 2 [iv 0,iv 0],W 2 3 [bs a0,iv r.2.1,iv r.2.2],W 3 3 [iv x3,.osl 4 0 (List.length x43) 2,nilS],(4,.rows 2 (List.map c_S_api_Clause x43)),W 5 2 [.osl 6 0 (List.length x90) 1,iv 0],(6,.rows 1 (List.map cI x90))]) (fun r:Int × Int × Int=>iv r.1) 7 (ref24_Reader_literal_ok a0 x88 x89) (pc (hC 2) allp_nil) (fun r=>(pc (.inl ⟨rfl,rfl⟩) (pc (.inl ⟨rfl,rfl⟩) (pc (.inr (hC 0)) (pc (.inl ⟨rfl,rfl⟩) (pc (.inl ⟨rfl,rfl⟩) (pc (.inl ⟨rfl,rfl⟩) (pc (.inl ⟨rfl,rfl⟩) allp_nil)))))))) ?_
     rintro⟨x108,x109,x110⟩ hm16
     refine jG 4 1 ⟨[V 0 (bs a0),V 2 (pt 0 3),V 3 (pt 1 2),V 4 (pt 2 3),V 5 (pt 3 3),V 6 (iv x8),V 7 (iv x44),V 8 (pt 5 2),V 53 (pt 5 2),V 54 (.osl 6 0 (List.length x90) 1),V 57 (.fsl 1 (List.map cI [x108]))],[W 0 3 [iv 0,nilS,nilS],W 1 2 [iv 0,iv 0],W 2 3 [bs a0,iv x109,iv x110],W 3 3 [iv x3,.osl 4 0 (List.length x43) 2,nilS],(4,.rows 2 (List.map c_S_api_Clause x43)),W 5 2 [.osl 6 0 (List.length x90) 1,iv 0],(6,.rows 1 (List.map cI x90))],7⟩ ?_
     refine jr_part (i:=5) (mo:=app 8 x90 [x108]) rfl rfl rfl rfl (fun _ hc=>aop_app (u:=.osl 6 0 (List.length x90) 1) (w:=.fsl 1 (List.map cI [x108])) (e:=3) (td:=.slice 3) (by kernel_rfl) (by kernel_rfl) (by kernel_rfl) (by kernel_rfl) (.inl ⟨_,rfl⟩) (appendOf_own (c:=cI) (sz:=1) (b:=8) (id:=6) (by kernel_rfl) (by kernel_rfl) rows_fsl (List.cons_ne_nil _ _) hc)) (fun _=>rfl) ?_
     intro x111 h111
     refine jG 6 2 ⟨[V 0 (bs a0),V 2 (pt 0 3),V 3 (pt 1 2),V 4 (pt 2 3),V 5 (pt 3 3),V 6 (iv x8),V 7 (iv x44),V 8 (pt 5 2),V 53 (pt 5 2)],[W 0 3 [iv 0,nilS,nilS],W 1 2 [iv 0,iv 0],W 2 3 [bs a0,iv x109,iv x110],W 3 3 [iv x3,.osl 4 0 (List.length x43) 2,nilS],(4,.rows 2 (List.map c_S_api_Clause x43)),W 5 2 [.osl 7 0 (List.length x111) 1,iv 0],(7,.rows 1 (List.map cI x111))],8⟩ ?_
     refine jr_nil rfl ?_
     refine jx_full ?_
     refine jx_seqN ?_
     refine jc_reg ?_
     refine jG 0 1 ⟨[V 0 (bs a0),V 2 (pt 0 3),V 3 (pt 1 2),V 4 (pt 2 3),V 5 (pt 3 3),V 6 (iv x8),V 7 (iv x44),V 8 (pt 5 2),V 60 (pt 2 3)],[W 0 3 [iv 0,nilS,nilS],W 1 2 [iv 0,iv 0],W 2 3 [bs a0,iv x109,iv x110],W 3 3 [iv x3,.osl 4 0 (List.length x43) 2,nilS],(4,.rows 2 (List.map c_S_api_Clause x43)),W 5 2 [.osl 7 0 (List.length x111) 1,iv 0],(7,.rows 1 (List.map cI x111))],8⟩ ?_
     refine jr_callM 1 [(0,some 2)] [(2,some 0)] (fun r:Int × Int=>[W 0 3 [iv 0,nilS,nilS],W 1 2 [iv 0,iv 0],W 2 3 [bs a0,iv r.1,iv r.2],W 3 3 [iv x3,.osl 4 0 (List.length x43) 2,nilS],(4,.rows 2 (List.map c_S_api_Clause x43)),W 5 2 [.osl 7 0 (List.length x111) 1,iv 0],(7,.rows 1 (List.map cI x111))]) (fun r:Int × Int=>.tup []) 8 (ref24_Reader_all_ok a0 x109 x110 [32]) (pc (hC 2) allp_nil) (fun r=>(pc (.inl ⟨rfl,rfl⟩) (pc (.inl ⟨rfl,rfl⟩) (pc (.inr (hC 0)) (pc (.inl ⟨rfl,rfl⟩) (pc (.inl ⟨rfl,rfl⟩) (pc (.inl ⟨rfl,rfl⟩) (pc (.inl ⟨rfl,rfl⟩) allp_nil)))))))) ?_
     rintro⟨x112,x113⟩ hm15
     refine jr_nil rfl ?_
     refine jx_blkN ?_
     exact jx_next (wkR [(0,some 0),(1,some 1),(2,some 2),(3,some 3),(4,some 4),(5,some 5),(6,some 7)] (fix_nil _) (pc (hC 0) (pc (hC 1) (pc (hC 2) (pc (hC 3) (pc (hL 4 (noid_map ni_S_api_Clause _)) (pc (hC 5) (pc (hL 7 (noid_map ni_I _)) allp_nil))))))))
    refine jc_exit ?_
    refine jx_seqE ?_
    exact jx_done rfl nofun (wkR [(0,some 0),(1,some 1),(2,some 2),(3,some 3),(4,some 4),(5,some 5),(6,some 6)] (fix_nil _) (pc (hC 0) (pc (hC 1) (pc (hC 2) (pc (hC 3) (pc (hL 4 (noid_map ni_S_api_Clause _)) (pc (hC 5) (pc (hL 6 (noid_map ni_I _)) allp_nil))))))))
   rintro⟨x102,x103,x104⟩
   refine jx_blkE ?_
   refine jx_seqN ?_
   refine jR ?_
   refine jG 0 1 ⟨[V 0 (bs a0),V 2 (pt 0 3),V 3 (pt 1 2),V 4 (pt 2 3),V 5 (pt 3 3),V 6 (iv x8),V 7 (iv x44),V 8 (pt 5 2),V 62 (pt 2 3)],[W 0 3 [iv 0,nilS,nilS],W 1 2 [iv 0,iv 0],W 2 3 [bs a0,iv x102,iv x103],W 3 3 [iv x3,.osl 4 0 (List.length x43) 2,nilS],(4,.rows 2 (List.map c_S_api_Clause x43)),W 5 2 [.osl 6 0 (List.length x104) 1,iv 0],(6,.rows 1 (List.map cI x104))],7⟩ ?_
   refine jr_callM 1 [(0,some 2)] [(2,some 0)] (fun r:Int × Int=>[W 0 3 [iv 0,nilS,nilS],W 1 2 [iv 0,iv 0],W 2 3 [bs a0,iv r.1,iv r.2],W 3 3 [iv x3,.osl 4 0 (List.length x43) 2,nilS],(4,.rows 2 (List.map c_S_api_Clause x43)),W 5 2 [.osl 6 0 (List.length x104) 1,iv 0],(6,.rows 1 (List.map cI x104))]) (fun r:Int × Int=>.tup []) 7 (ref24_Reader_all_ok a0 x102 x103 [48,10]) (pc (hC 2) allp_nil) (fun r=>(pc (.inl ⟨rfl,rfl⟩) (pc (.inl ⟨rfl,rfl⟩) (pc (.inr (hC 0)) (pc (.inl ⟨rfl,rfl⟩) (pc (.inl ⟨rfl,rfl⟩) (pc (.inl ⟨rfl,rfl⟩) (pc (.inl ⟨rfl,rfl⟩) allp_nil)))))))) ?_
   rintro⟨x114,x115⟩ hm17
   refine jN ?_
   refine jc_reg ?_
   refine jG 0 4 ⟨[V 0 (bs a0),V 2 (pt 0 3),V 3 (pt 1 2),V 4 (pt 2 3),V 5 (pt 3 3),V 6 (iv x8),V 7 (iv x44),V 65 (.osl 4 0 (List.length x43) 2),V 67 (.osl 7 0 1 2)],[W 0 3 [iv 0,nilS,nilS],W 1 2 [iv 0,iv 0],W 2 3 [bs a0,iv x114,iv x115],W 3 3 [iv x3,.osl 4 0 (List.length x43) 2,nilS],(4,.rows 2 (List.map c_S_api_Clause x43)),(6,.rows 1 (List.map cI x104)),W 7 2 [.osl 6 0 (List.length x104) 1,iv 0]],8⟩ ?_
   refine jr_part (i:=4) (mo:=app 32 x43 [(S_api_Clause.mk x104 0)]) rfl rfl rfl rfl (fun _ hc=>aop_appZ (u:=.osl 4 0 (List.length x43) 2) (idy:=7) (off:=0) (len:=1) (sz:=2) (rows:=[[.osl 6 0 (List.length x104) 1,iv 0]]) (e:=55) (q:=55) (rs:=List.map c_S_api_Clause [(S_api_Clause.mk x104 0)]) (ids:=[6]) (by kernel_rfl) (by kernel_rfl) (by kernel_rfl) (by kernel_rfl) (by kernel_rfl) (by kernel_rfl) (by kernel_rfl) (frz_one (frzL_own (fun _=>rfl) (by kernel_rfl) (frzL_pl rfl frzL_nil))) (appendOf_own (c:=c_S_api_Clause) (sz:=2) (b:=32) (id:=4) (m:=[(S_api_Clause.mk x104 0)]) (by kernel_rfl) (by kernel_rfl) rows_fsl (List.cons_ne_nil _ _) hc)) (fun _=>rfl) ?_
   intro x116 h116
   refine jG 5 2 ⟨[V 0 (bs a0),V 2 (pt 0 3),V 3 (pt 1 2),V 4 (pt 2 3),V 5 (pt 3 3),V 6 (iv x8),V 7 (iv x44)],[W 0 3 [iv 0,nilS,nilS],W 1 2 [iv 0,iv 0],W 2 3 [bs a0,iv x114,iv x115],W 3 3 [iv x3,.osl 8 0 (List.length x116) 2,nilS],(8,.rows 2 (List.map c_S_api_Clause x116))],9⟩ ?_
   refine jr_nil rfl ?_
   refine jx_blkN ?_
   refine jx_seqN ?_
   refine jT ⟨[V 0 (bs a0),V 2 (pt 0 3),V 3 (pt 1 2),V 4 (pt 2 3),V 5 (pt 3 3),V 6 (iv x8),V 7 (iv (w64 (x44 + 1)))],[W 0 3 [iv 0,nilS,nilS],W 1 2 [iv 0,iv 0],W 2 3 [bs a0,iv x114,iv x115],W 3 3 [iv x3,.osl 8 0 (List.length x116) 2,nilS],(8,.rows 2 (List.map c_S_api_Clause x116))],9⟩ ?_
   exact jx_next (wkR [(0,some 0),(1,some 1),(2,some 2),(3,some 3),(4,some 8)] (fix_nil _) (pc (hC 0) (pc (hC 1) (pc (hC 2) (pc (hC 3) (pc (hL 8 (noid_map ni_S_api_Clause _)) allp_nil))))))
  refine jc_exit ?_
  refine jx_seqE ?_
  exact jx_done rfl nofun (wkR [(0,some 0),(1,some 1),(2,some 2),(3,some 3),(4,some 4)] (fix_nil _) (pc (hC 0) (pc (hC 1) (pc (hC 2) (pc (hC 3) (pc (hL 4 (noid_map ni_S_api_Clause _)) allp_nil))))))
 rintro⟨x77,x78,x79⟩
 refine jx_blkE ?_
 refine jx_seqN ?_
 refine jc_seq ?_
 refine jc_bind (fun (x149,x150,x151)=>⟨[V 0 (bs a0),V 2 (pt 0 3),V 3 (pt 1 2),V 4 (pt 2 3),V 5 (pt 3 3)],[W 0 3 [iv 0,nilS,nilS],W 1 2 [iv 0,iv 0],W 2 3 [bs a0,iv x149,iv x150],W 3 3 [iv x3,.osl 4 0 (List.length x79) 2,.osl 5 0 (List.length x151) 1],(4,.rows 2 (List.map c_S_api_Clause x79)),(5,.rows 1 (List.map cI x151))],6⟩) (fun (x149,x150,x151)=>.normal) ?_ ?_
 ·refine jS ⟨[V 0 (bs a0),V 2 (pt 0 3),V 3 (pt 1 2),V 4 (pt 2 3),V 5 (pt 3 3),V 83 (bv ((x78 == 0) && (decide (x77 < (List.length a0:Int)))))],[W 0 3 [iv 0,nilS,nilS],W 1 2 [iv 0,iv 0],W 2 3 [bs a0,iv x77,iv x78],W 3 3 [iv x3,.osl 4 0 (List.length x79) 2,nilS],(4,.rows 2 (List.map c_S_api_Clause x79))],5⟩ ?_
  refine jIf ?_ ?_
  ·refine jR ?_
   refine jG 0 1 ⟨[V 0 (bs a0),V 2 (pt 0 3),V 3 (pt 1 2),V 4 (pt 2 3),V 5 (pt 3 3),V 84 (pt 2 3)],[W 0 3 [iv 0,nilS,nilS],W 1 2 [iv 0,iv 0],W 2 3 [bs a0,iv x77,iv x78],W 3 3 [iv x3,.osl 4 0 (List.length x79) 2,nilS],(4,.rows 2 (List.map c_S_api_Clause x79))],5⟩ ?_
   refine jr_callM 1 [(0,some 2)] [(2,some 0)] (fun r:Int × Int=>[W 0 3 [iv 0,nilS,nilS],W 1 2 [iv 0,iv 0],W 2 3 [bs a0,iv r.1,iv r.2],W 3 3 [iv x3,.osl 4 0 (List.length x79) 2,nilS],(4,.rows 2 (List.map c_S_api_Clause x79))]) (fun r:Int × Int=>.tup []) 5 (ref24_Reader_all_ok a0 x77 x78 [99,32,111,114,100,101,114]) (pc (hC 2) allp_nil) (fun r=>(pc (.inl ⟨rfl,rfl⟩) (pc (.inl ⟨rfl,rfl⟩) (pc (.inr (hC 0)) (pc (.inl ⟨rfl,rfl⟩) (pc (.inl ⟨rfl,rfl⟩) allp_nil)))))) ?_
   rintro⟨x152,x153⟩ hm33
   refine jN ?_
   refine jc_seq ?_
   refine jS ⟨[V 0 (bs a0),V 2 (pt 0 3),V 3 (pt 1 2),V 4 (pt 2 3),V 5 (pt 3 3),V 9 (bv true)],[W 0 3 [iv 0,nilS,nilS],W 1 2 [iv 0,iv 0],W 2 3 [bs a0,iv x152,iv x153],W 3 3 [iv x3,.osl 4 0 (List.length x79) 2,nilS],(4,.rows 2 (List.map c_S_api_Clause x79))],5⟩ ?_
   refine jc_block ?_
   refine jc_bind (fun (x178,x179,x180)=>⟨[V 0 (bs a0),V 2 (pt 0 3),V 3 (pt 1 2),V 4 (pt 2 3),V 5 (pt 3 3)],[W 0 3 [iv 0,nilS,nilS],W 1 2 [iv 0,iv 0],W 2 3 [bs a0,iv x178,iv x179],W 3 3 [iv x3,.osl 4 0 (List.length x79) 2,.osl 5 0 (List.length x180) 1],(4,.rows 2 (List.map c_S_api_Clause x79)),(5,.rows 1 (List.map cI x180))],6⟩) (fun (x178,x179,x180)=>(.exit 4)) (jc_loop (fun (x161,x162,x163,x164)=>⟨[V 0 (bs a0),V 2 (pt 0 3),V 3 (pt 1 2),V 4 (pt 2 3),V 5 (pt 3 3),V 9 (bv x164)],[W 0 3 [iv 0,nilS,nilS],W 1 2 [iv 0,iv 0],W 2 3 [bs a0,iv x161,iv x162],W 3 3 [iv x3,.osl 4 0 (List.length x79) 2,.osl 5 0 (List.length x163) 1],(4,.rows 2 (List.map c_S_api_Clause x79)),(5,.rows 1 (List.map cI x163))],6⟩) (wkR [(0,some 0),(1,some 1),(2,some 2),(3,some 3),(4,some 4),(5,none)] (fix_nil _) (pc (hC 0) (pc (hC 1) (pc (hC 2) (pc (hC 3) (pc (hL 4 (noid_map ni_S_api_Clause _)) (pc hZ allp_nil))))))) ?_) ?_
   ·rintro⟨x161,x162,x163,x164⟩
    unfold ref24_Read_l3
    refine jc_seq ?_
    refine jR ?_
    refine jG 0 6 ⟨[V 0 (bs a0),V 2 (pt 0 3),V 3 (pt 1 2),V 4 (pt 2 3),V 5 (pt 3 3),V 9 (bv x164),V 91 (bv (x162 == 0))],[W 0 3 [iv 0,nilS,nilS],W 1 2 [iv 0,iv 0],W 2 3 [bs a0,iv x161,iv x162],W 3 3 [iv x3,.osl 4 0 (List.length x79) 2,.osl 5 0 (List.length x163) 1],(4,.rows 2 (List.map c_S_api_Clause x79)),(5,.rows 1 (List.map cI x163))],6⟩ ?_
    refine jr_bind 6 7 (fun x183=>⟨[V 0 (bs a0),V 2 (pt 0 3),V 3 (pt 1 2),V 4 (pt 2 3),V 5 (pt 3 3),V 98 (bv x183)],[W 0 3 [iv 0,nilS,nilS],W 1 2 [iv 0,iv 0],W 2 3 [bs a0,iv x161,iv x162],W 3 3 [iv x3,.osl 4 0 (List.length x79) 2,.osl 5 0 (List.length x163) 1],(4,.rows 2 (List.map c_S_api_Clause x79)),(5,.rows 1 (List.map cI x163))],6⟩) ?_ ?_
    ·refine jSp 91 ?_ ?_
     ·refine jG 0 2 ⟨[V 0 (bs a0),V 2 (pt 0 3),V 3 (pt 1 2),V 4 (pt 2 3),V 5 (pt 3 3),(91,.lit true),V 93 (bv x164)],[W 0 3 [iv 0,nilS,nilS],W 1 2 [iv 0,iv 0],W 2 3 [bs a0,iv x161,iv x162],W 3 3 [iv x3,.osl 4 0 (List.length x79) 2,.osl 5 0 (List.length x163) 1],(4,.rows 2 (List.map c_S_api_Clause x79)),(5,.rows 1 (List.map cI x163))],6⟩ ?_
      refine jr_bind 2 4 (fun x185=>⟨[V 0 (bs a0),V 2 (pt 0 3),V 3 (pt 1 2),V 4 (pt 2 3),V 5 (pt 3 3),V 91 (bv true),V 97 (bv x185)],[W 0 3 [iv 0,nilS,nilS],W 1 2 [iv 0,iv 0],W 2 3 [bs a0,iv x161,iv x162],W 3 3 [iv x3,.osl 4 0 (List.length x79) 2,.osl 5 0 (List.length x163) 1],(4,.rows 2 (List.map c_S_api_Clause x79)),(5,.rows 1 (List.map cI x163))],6⟩) ?_ ?_
      ·refine jSp 93 ?_ ?_
       ·refine jG 0 4 ⟨[V 0 (bs a0),V 2 (pt 0 3),V 3 (pt 1 2),V 4 (pt 2 3),V 5 (pt 3 3),(91,.lit true),V 97 (bv true)],[W 0 3 [iv 0,nilS,nilS],W 1 2 [iv 0,iv 0],W 2 3 [bs a0,iv x161,iv x162],W 3 3 [iv x3,.osl 4 0 (List.length x79) 2,.osl 5 0 (List.length x163) 1],(4,.rows 2 (List.map c_S_api_Clause x79)),(5,.rows 1 (List.map cI x163))],6⟩ ?_
        refine jr_nil rfl ?_
        exact jx_mid rfl (wkR [(0,some 0),(1,some 1),(2,some 2),(3,some 3),(4,some 4),(5,some 5)] (fix_nil _) (pc (hC 0) (pc (hC 1) (pc (hC 2) (pc (hC 3) (pc (hL 4 (noid_map ni_S_api_Clause _)) (pc (hL 5 (noid_map ni_I _)) allp_nil)))))))
       refine jG 0 1 ⟨[V 0 (bs a0),V 2 (pt 0 3),V 3 (pt 1 2),V 4 (pt 2 3),V 5 (pt 3 3),(91,.lit true),(93,.lit false),V 94 (pt 2 3)],[W 0 3 [iv 0,nilS,nilS],W 1 2 [iv 0,iv 0],W 2 3 [bs a0,iv x161,iv x162],W 3 3 [iv x3,.osl 4 0 (List.length x79) 2,.osl 5 0 (List.length x163) 1],(4,.rows 2 (List.map c_S_api_Clause x79)),(5,.rows 1 (List.map cI x163))],6⟩ ?_
       refine jr_callF (i:=1) rfl rfl rfl rfl (vs:=[pt 2 3,.s (.int .u8 10)]) (vs0:=[.fptr [bs a0,iv x161,iv x162] 0,.s (.int .u8 10)]) (b:=true) (by kernel_rfl) (by kernel_rfl) (all2_cons (fle_refl _) (all2_cons (fle_refl _) all2_nil)) (ref24_Reader_is_s1fbc_ok a0 x161 x162 10) (fun _=>rfl) (fun _=>rfl) ?_
       intro x186 h186
       refine jG 2 2 ⟨[V 0 (bs a0),V 2 (pt 0 3),V 3 (pt 1 2),V 4 (pt 2 3),V 5 (pt 3 3),(91,.lit true),V 97 (bv (!x186))],[W 0 3 [iv 0,nilS,nilS],W 1 2 [iv 0,iv 0],W 2 3 [bs a0,iv x161,iv x162],W 3 3 [iv x3,.osl 4 0 (List.length x79) 2,.osl 5 0 (List.length x163) 1],(4,.rows 2 (List.map c_S_api_Clause x79)),(5,.rows 1 (List.map cI x163))],6⟩ ?_
       refine jr_nil rfl ?_
       exact jx_mid rfl (wkR [(0,some 0),(1,some 1),(2,some 2),(3,some 3),(4,some 4),(5,some 5)] (fix_nil _) (pc (hC 0) (pc (hC 1) (pc (hC 2) (pc (hC 3) (pc (hL 4 (noid_map ni_S_api_Clause _)) (pc (hL 5 (noid_map ni_I _)) allp_nil)))))))
      intro x185
      refine jG 6 1 ⟨[V 0 (bs a0),V 2 (pt 0 3),V 3 (pt 1 2),V 4 (pt 2 3),V 5 (pt 3 3),V 98 (bv (true && x185))],[W 0 3 [iv 0,nilS,nilS],W 1 2 [iv 0,iv 0],W 2 3 [bs a0,iv x161,iv x162],W 3 3 [iv x3,.osl 4 0 (List.length x79) 2,.osl 5 0 (List.length x163) 1],(4,.rows 2 (List.map c_S_api_Clause x79)),(5,.rows 1 (List.map cI x163))],6⟩ ?_
      refine jr_nil rfl ?_
      exact jx_mid rfl (wkR [(0,some 0),(1,some 1),(2,some 2),(3,some 3),(4,some 4),(5,some 5)] (fix_nil _) (pc (hC 0) (pc (hC 1) (pc (hC 2) (pc (hC 3) (pc (hL 4 (noid_map ni_S_api_Clause _)) (pc (hL 5 (noid_map ni_I _)) allp_nil)))))))
     refine jG 0 7 ⟨[V 0 (bs a0),V 2 (pt 0 3),V 3 (pt 1 2),V 4 (pt 2 3),V 5 (pt 3 3),V 98 (bv false)],[W 0 3 [iv 0,nilS,nilS],W 1 2 [iv 0,iv 0],W 2 3 [bs a0,iv x161,iv x162],W 3 3 [iv x3,.osl 4 0 (List.length x79) 2,.osl 5 0 (List.length x163) 1],(4,.rows 2 (List.map c_S_api_Clause x79)),(5,.rows 1 (List.map cI x163))],6⟩ ?_
     refine jr_nil rfl ?_
     exact jx_mid rfl (wkR [(0,some 0),(1,some 1),(2,some 2),(3,some 3),(4,some 4),(5,some 5)] (fix_nil _) (pc (hC 0) (pc (hC 1) (pc (hC 2) (pc (hC 3) (pc (hL 4 (noid_map ni_S_api_Clause _)) (pc (hL 5 (noid_map ni_I _)) allp_nil)))))))
    intro x183
    refine jN ?_
    refine jIf ?_ ?_
    ·refine jc_skip ?_
     refine jx_seqN ?_
     refine jc_seq ?_
     refine jc_block ?_
     refine jR ?_
     refine jG 0 1 ⟨[V 0 (bs a0),V 2 (pt 0 3),V 3 (pt 1 2),V 4 (pt 2 3),V 5 (pt 3 3),V 99 (pt 2 3)],[W 0 3 [iv 0,nilS,nilS],W 1 2 [iv 0,iv 0],W 2 3 [bs a0,iv x161,iv x162],W 3 3 [iv x3,.osl 4 0 (List.length x79) 2,.osl 5 0 (List.length x163) 1],(4,.rows 2 (List.map c_S_api_Clause x79)),(5,.rows 1 (List.map cI x163))],6⟩ ?_
     refine jr_callM 1 [(0,some 2)] [(2,some 0)] (fun r:Int × Int=>[W 0 3 [iv 0,nilS,nilS],W 1 2 [iv 0,iv 0],W 2 3 [bs a0,iv r.1,iv r.2],W 3 3 [iv x3,.osl 4 0 (List.length x79) 2,.osl 5 0 (List.length x163) 1],(4,.rows 2 (List.map c_S_api_Clause x79)),(5,.rows 1 (List.map cI x163))]) (fun r:Int × Int=>.tup []) 6 (ref24_Reader_all_ok a0 x161 x162 [32]) (pc (hC 2) allp_nil) (fun r=>(pc (.inl ⟨rfl,rfl⟩) (pc (.inl ⟨rfl,rfl⟩) (pc (.inr (hC 0)) (pc (.inl ⟨rfl,rfl⟩) (pc (.inl ⟨rfl,rfl⟩) (pc (.inl ⟨rfl,rfl⟩) allp_nil))))))) ?_
     rintro⟨x187,x188⟩ hm30
     refine jN ?_
     refine jc_fullM ref24_Read_r25 [] [101] 3 ⟨[V 0 (bs a0),V 2 (pt 0 3),V 3 (pt 1 2),V 4 (pt 2 3),V 5 (pt 3 3),V 101 (.ptr 3 0 3 2),V 102 (.osl 5 0 (List.length x163) 1),V 103 (pt 2 3)],[W 0 3 [iv 0,nilS,nilS],W 1 2 [iv 0,iv 0],W 2 3 [bs a0,iv x187,iv x188],W 3 3 [iv x3,.osl 4 0 (List.length x79) 2,.osl 5 0 (List.length x163) 1],(4,.rows 2 (List.map c_S_api_Clause x79)),(5,.rows 1 (List.map cI x163))],6⟩ [(0,some 2)] [(2,some 0)] (fun r:Int × Int × Int=>[W 0 3 [iv 0,nilS,nilS],W 1 2 [iv 0,iv 0],W 2 3 [bs a0,iv r.2.1,iv r.2.2],W 3 3 [iv x3,.osl 4 0 (List.length x79) 2,.osl 5 0 (List.length x163) 1],(4,.rows 2 (List.map c_S_api_Clause x79)),(5,.rows 1 (List.map cI x163))]) (fun r:Int × Int × Int=>iv r.1) 6 (ref24_Reader_literal_ok a0 x187 x188) (pc (hC 2) allp_nil) (fun r=>(pc (.inl ⟨rfl,rfl⟩) (pc (.inl ⟨rfl,rfl⟩) (pc (.inr (hC 0)) (pc (.inl ⟨rfl,rfl⟩) (pc (.inl ⟨rfl,rfl⟩) (pc (.inl ⟨rfl,rfl⟩) allp_nil))))))) ?_
     rintro⟨x189,x190,x191⟩ hm29
     refine jG 4 1 ⟨[V 0 (bs a0),V 2 (pt 0 3),V 3 (pt 1 2),V 4 (pt 2 3),V 5 (pt 3 3),V 101 (.ptr 3 0 3 2),V 102 (.osl 5 0 (List.length x163) 1),V 105 (.fsl 1 (List.map cI [x189]))],[W 0 3 [iv 0,nilS,nilS],W 1 2 [iv 0,iv 0],W 2 3 [bs a0,iv x190,iv x191],W 3 3 [iv x3,.osl 4 0 (List.length x79) 2,.osl 5 0 (List.length x163) 1],(4,.rows 2 (List.map c_S_api_Clause x79)),(5,.rows 1 (List.map cI x163))],6⟩ ?_
     refine jr_part (i:=5) (mo:=app 8 x163 [x189]) rfl rfl rfl rfl (fun _ hc=>aop_app (u:=.osl 5 0 (List.length x163) 1) (w:=.fsl 1 (List.map cI [x189])) (e:=3) (td:=.slice 3) (by kernel_rfl) (by kernel_rfl) (by kernel_rfl) (by kernel_rfl) (.inl ⟨_,rfl⟩) (appendOf_own (c:=cI) (sz:=1) (b:=8) (id:=5) (by kernel_rfl) (by kernel_rfl) rows_fsl (List.cons_ne_nil _ _) hc)) (fun _=>rfl) ?_
     intro x192 h192
     refine jG 6 2 ⟨[V 0 (bs a0),V 2 (pt 0 3),V 3 (pt 1 2),V 4 (pt 2 3),V 5 (pt 3 3),V 101 (.ptr 3 0 3 2)],[W 0 3 [iv 0,nilS,nilS],W 1 2 [iv 0,iv 0],W 2 3 [bs a0,iv x190,iv x191],W 3 3 [iv x3,.osl 4 0 (List.length x79) 2,.osl 6 0 (List.length x192) 1],(4,.rows 2 (List.map c_S_api_Clause x79)),(6,.rows 1 (List.map cI x192))],7⟩ ?_
     refine jr_nil rfl ?_
     refine jx_full ?_
     refine jx_blkN ?_
     refine jx_seqN ?_
     refine jT ⟨[V 0 (bs a0),V 2 (pt 0 3),V 3 (pt 1 2),V 4 (pt 2 3),V 5 (pt 3 3),V 9 (bv false)],[W 0 3 [iv 0,nilS,nilS],W 1 2 [iv 0,iv 0],W 2 3 [bs a0,iv x190,iv x191],W 3 3 [iv x3,.osl 4 0 (List.length x79) 2,.osl 6 0 (List.length x192) 1],(4,.rows 2 (List.map c_S_api_Clause x79)),(6,.rows 1 (List.map cI x192))],7⟩ ?_
     exact jx_next (wkR [(0,some 0),(1,some 1),(2,some 2),(3,some 3),(4,some 4),(5,some 6)] (fix_nil _) (pc (hC 0) (pc (hC 1) (pc (hC 2) (pc (hC 3) (pc (hL 4 (noid_map ni_S_api_Clause _)) (pc (hL 6 (noid_map ni_I _)) allp_nil)))))))
    refine jc_exit ?_
    refine jx_seqE ?_
    exact jx_done rfl nofun (wkR [(0,some 0),(1,some 1),(2,some 2),(3,some 3),(4,some 4),(5,some 5)] (fix_nil _) (pc (hC 0) (pc (hC 1) (pc (hC 2) (pc (hC 3) (pc (hL 4 (noid_map ni_S_api_Clause _)) (pc (hL 5 (noid_map ni_I _)) allp_nil)))))))
   rintro⟨x178,x179,x180⟩
   refine jx_blkE ?_
   refine jx_seqN ?_
   refine jR ?_
   refine jG 0 1 ⟨[V 0 (bs a0),V 2 (pt 0 3),V 3 (pt 1 2),V 4 (pt 2 3),V 5 (pt 3 3),V 108 (pt 2 3)],[W 0 3 [iv 0,nilS,nilS],W 1 2 [iv 0,iv 0],W 2 3 [bs a0,iv x178,iv x179],W 3 3 [iv x3,.osl 4 0 (List.length x79) 2,.osl 5 0 (List.length x180) 1],(4,.rows 2 (List.map c_S_api_Clause x79)),(5,.rows 1 (List.map cI x180))],6⟩ ?_
   refine jr_callM 1 [(0,some 2)] [(2,some 0)] (fun r:Int × Int=>[W 0 3 [iv 0,nilS,nilS],W 1 2 [iv 0,iv 0],W 2 3 [bs a0,iv r.1,iv r.2],W 3 3 [iv x3,.osl 4 0 (List.length x79) 2,.osl 5 0 (List.length x180) 1],(4,.rows 2 (List.map c_S_api_Clause x79)),(5,.rows 1 (List.map cI x180))]) (fun r:Int × Int=>.tup []) 6 (ref24_Reader_all_ok a0 x178 x179 [10]) (pc (hC 2) allp_nil) (fun r=>(pc (.inl ⟨rfl,rfl⟩) (pc (.inl ⟨rfl,rfl⟩) (pc (.inr (hC 0)) (pc (.inl ⟨rfl,rfl⟩) (pc (.inl ⟨rfl,rfl⟩) (pc (.inl ⟨rfl,rfl⟩) allp_nil))))))) ?_
   rintro⟨x193,x194⟩ hm32
   refine jN ?_
   refine jS ⟨[V 0 (bs a0),V 2 (pt 0 3),V 3 (pt 1 2),V 4 (pt 2 3),V 5 (pt 3 3),V 123 (bv ((x194 == 0) && (decide (x193 < (List.length a0:Int)))))],[W 0 3 [iv 0,nilS,nilS],W 1 2 [iv 0,iv 0],W 2 3 [bs a0,iv x193,iv x194],W 3 3 [iv x3,.osl 4 0 (List.length x79) 2,.osl 5 0 (List.length x180) 1],(4,.rows 2 (List.map c_S_api_Clause x79)),(5,.rows 1 (List.map cI x180))],6⟩ ?_
   refine jIf ?_ ?_
   ·refine jc_reg ?_
    refine jG 0 1 ⟨[V 0 (bs a0),V 2 (pt 0 3),V 3 (pt 1 2),V 4 (pt 2 3),V 5 (pt 3 3),V 124 (pt 2 3)],[W 0 3 [iv 0,nilS,nilS],W 1 2 [iv 0,iv 0],W 2 3 [bs a0,iv x193,iv x194],W 3 3 [iv x3,.osl 4 0 (List.length x79) 2,.osl 5 0 (List.length x180) 1],(4,.rows 2 (List.map c_S_api_Clause x79)),(5,.rows 1 (List.map cI x180))],6⟩ ?_
    refine jr_callM 1 [(0,some 2)] [(2,some 0)] (fun r:Int=>[W 0 3 [iv 0,nilS,nilS],W 1 2 [iv 0,iv 0],W 2 3 [bs a0,iv x193,iv r],W 3 3 [iv x3,.osl 4 0 (List.length x79) 2,.osl 5 0 (List.length x180) 1],(4,.rows 2 (List.map c_S_api_Clause x79)),(5,.rows 1 (List.map cI x180))]) (fun r:Int=>.tup []) 6 (ref24_Reader_none_ok a0 x193 x194) (pc (hC 2) allp_nil) (fun r=>(pc (.inl ⟨rfl,rfl⟩) (pc (.inl ⟨rfl,rfl⟩) (pc (.inr (hC 0)) (pc (.inl ⟨rfl,rfl⟩) (pc (.inl ⟨rfl,rfl⟩) (pc (.inl ⟨rfl,rfl⟩) allp_nil))))))) ?_
    rintro x195 hm31
    refine jr_nil rfl ?_
    exact jx_mid rfl (wkR [(0,some 0),(1,some 1),(2,some 2),(3,some 3),(4,some 4),(5,some 5)] (fix_nil _) (pc (hC 0) (pc (hC 1) (pc (hC 2) (pc (hC 3) (pc (hL 4 (noid_map ni_S_api_Clause _)) (pc (hL 5 (noid_map ni_I _)) allp_nil)))))))
   refine jc_skip ?_
   exact jx_mid rfl (wkR [(0,some 0),(1,some 1),(2,some 2),(3,some 3),(4,some 4),(5,some 5)] (fix_nil _) (pc (hC 0) (pc (hC 1) (pc (hC 2) (pc (hC 3) (pc (hL 4 (noid_map ni_S_api_Clause _)) (pc (hL 5 (noid_map ni_I _)) allp_nil)))))))
  refine jc_skip ?_
  exact jx_mid rfl (wkR [(0,some 0),(1,some 1),(2,some 2),(3,some 3),(4,some 4),(5,none)] (fix_nil _) (pc (hC 0) (pc (hC 1) (pc (hC 2) (pc (hC 3) (pc (hL 4 (noid_map ni_S_api_Clause _)) (pc hZ allp_nil)))))))
 rintro⟨x149,x150,x151⟩
 refine jx_seqN ?_
 refine jc_seq ?_
 refine jS ⟨[V 0 (bs a0),V 2 (pt 0 3),V 3 (pt 1 2),V 4 (pt 2 3),V 5 (pt 3 3),V 130 (bv (x150 != 0))],[W 0 3 [iv 0,nilS,nilS],W 1 2 [iv 0,iv 0],W 2 3 [bs a0,iv x149,iv x150],W 3 3 [iv x3,.osl 4 0 (List.length x79) 2,.osl 5 0 (List.length x151) 1],(4,.rows 2 (List.map c_S_api_Clause x79)),(5,.rows 1 (List.map cI x151))],6⟩ ?_
 refine jIf ?_ ?_
 ·refine jc_seq ?_
  refine jc_full ref24_Read_r31 [(134,2),(138,2)] ?_
  refine jG 0 12 ⟨[V 2 (pt 0 3),V 3 (pt 1 2),V 134 (.ptr 2 0 3 2),V 138 (.ptr 2 0 3 1)],[W 0 3 [iv 0,nilS,nilS],W 1 2 [iv x150,iv x149],W 2 3 [bs a0,iv x149,iv x150]],6⟩ ?_
  refine jr_nil rfl ?_
  refine jx_full ?_
  refine jx_seqN ?_
  refine jc_ret ?_
  refine jx_seqR ?_
  exact jx_retF (.inr rfl) (v:=.tup [.agg [iv 0,nilS,nilS],.agg [iv x150,iv x149]]) (by kernel_rfl) (snapc_tup (snapL_cons (snapc_agg (snapL_cons rfl (snapL_cons rfl (snapL_cons rfl (snapL_nil _))))) (snapL_cons rfl (snapL_nil _)))) (fle_tup (all2_cons (fle_agg (all2_cons (fle_refl _) (all2_cons (fle_nil _) (all2_cons (fle_nil _) all2_nil)))) (all2_cons (fle_refl _) all2_nil)))
 refine jc_skip ?_
 refine jx_seqN ?_
 refine jc_seq ?_
 refine jR ?_
 refine jG 0 1 ⟨[V 0 (bs a0),V 2 (pt 0 3),V 3 (pt 1 2),V 5 (pt 3 3),V 141 (.agg [iv x3,.osl 4 0 (List.length x79) 2,.osl 5 0 (List.length x151) 1])],[W 0 3 [iv 0,nilS,nilS],W 1 2 [iv 0,iv 0],W 3 3 [iv x3,.osl 4 0 (List.length x79) 2,.osl 5 0 (List.length x151) 1],(4,.rows 2 (List.map c_S_api_Clause x79)),(5,.rows 1 (List.map cI x151))],6⟩ ?_
 refine jr_callF (i:=1) rfl rfl rfl rfl (vs:=[.agg [iv x3,.osl 4 0 (List.length x79) 2,.osl 5 0 (List.length x151) 1]]) (by kernel_rfl) (snapL_cons (snapc_agg (snapL_cons rfl (snapL_cons (snapc_own fz_S_api_Clause (by kernel_rfl)) (snapL_cons (snapc_own fz_I (by kernel_rfl)) (snapL_nil _))))) (snapL_nil _)) (all2_cons (fle_agg (all2_cons (fle_refl _) (all2_cons (fle_refl _) (all2_cons (fle_refl _) all2_nil)))) all2_nil) (ref24_Fit_ok (S_api_Formula.mk x3 x79 x151)) (fun _=>rfl) (fun _=>rfl) ?_
 intro x196 h196
 refine jG 2 1 ⟨[V 0 (bs a0),V 2 (pt 0 3),V 3 (pt 1 2),V 5 (pt 3 3),V 143 (bv (!x196))],[W 0 3 [iv 0,nilS,nilS],W 1 2 [iv 0,iv 0],W 3 3 [iv x3,.osl 4 0 (List.length x79) 2,.osl 5 0 (List.length x151) 1],(4,.rows 2 (List.map c_S_api_Clause x79)),(5,.rows 1 (List.map cI x151))],6⟩ ?_
 refine jN ?_
 refine jIf ?_ ?_
 ·refine jS ⟨[V 2 (pt 0 3),V 3 (pt 1 2)],[W 0 3 [iv 0,nilS,nilS],W 1 2 [iv 32,iv (List.length a0:Int)]],6⟩ ?_
  refine jc_ret ?_
  refine jx_seqR ?_
  exact jx_retF (.inr rfl) (v:=.tup [.agg [iv 0,nilS,nilS],.agg [iv 32,iv (List.length a0:Int)]]) (by kernel_rfl) (snapc_tup (snapL_cons (snapc_agg (snapL_cons rfl (snapL_cons rfl (snapL_cons rfl (snapL_nil _))))) (snapL_cons rfl (snapL_nil _)))) (fle_tup (all2_cons (fle_agg (all2_cons (fle_refl _) (all2_cons (fle_nil _) (all2_cons (fle_nil _) all2_nil)))) (all2_cons (fle_refl _) all2_nil)))
 refine jc_skip ?_
 refine jx_seqN ?_
 refine jS ⟨[V 2 (pt 0 3),V 3 (pt 1 2)],[W 0 3 [iv x3,.osl 4 0 (List.length x79) 2,.osl 5 0 (List.length x151) 1],W 1 2 [iv 0,iv 0],(4,.rows 2 (List.map c_S_api_Clause x79)),(5,.rows 1 (List.map cI x151))],6⟩ ?_
 refine jc_ret ?_
 exact jx_retF (.inr rfl) (v:=.tup [.agg [iv x3,.osl 4 0 (List.length x79) 2,.osl 5 0 (List.length x151) 1],.agg [iv 0,iv 0]]) (by kernel_rfl) (snapc_tup (snapL_cons (snapc_agg (snapL_cons rfl (snapL_cons (snapc_own fz_S_api_Clause (by kernel_rfl)) (snapL_cons (snapc_own fz_I (by kernel_rfl)) (snapL_nil _))))) (snapL_cons rfl (snapL_nil _)))) (fle_tup (all2_cons (fle_agg (all2_cons (fle_refl _) (all2_cons (fle_refl _) (all2_cons (fle_refl _) all2_nil)))) (all2_cons (fle_refl _) all2_nil))))
abbrev ref24_Clauses_r1:List LO:=[lo 4 (.assign (.const (.bool false))) 4]
abbrev ref24_Clauses_r2:List LO:=[lm 6 0 22,lo 7 (.call ⟨.builtin .len,#[.tmp 6],#[22]⟩) 3,lm 8 1 22,lo 9 (.call ⟨.builtin .len,#[.tmp 8],#[22]⟩) 3,lo 10 (.binOp .neq 3 (.tmp 7) (.tmp 9) 3) 4]
abbrev ref24_Clauses_r3:List LO:=[lo 4 (.assign (.const (.bool false))) 4]
abbrev ref24_Clauses_r4:List LO:=[lo 5 (.assign (.const (.int .i64 0))) 3]
abbrev ref24_Clauses_r5:List LO:=[lm 11 5 3,lm 12 0 22,lo 13 (.call ⟨.builtin .len,#[.tmp 12],#[22]⟩) 3,lo 14 (.binOp .lss 3 (.tmp 11) (.tmp 13) 3) 4]
abbrev ref24_Clauses_r6:List LO:=[lm 17 0 22,lm 18 5 3,lo 19 (.indexAddr 22 (.tmp 17) (.tmp 18)) 0,lo 20 (.fieldAddr 55 (.tmp 19) 1) 0,lo 21 (.load 3 (.tmp 20)) 3,lm 22 1 22,lm 23 5 3,lo 24 (.indexAddr 22 (.tmp 22) (.tmp 23)) 0,lo 25 (.fieldAddr 55 (.tmp 24) 1) 0,lo 26 (.load 3 (.tmp 25)) 3,lo 27 (.binOp .neq 3 (.tmp 21) (.tmp 26) 3) 4,lm 28 27 4,lmg 29 0 22 28 false,lmg 30 5 3 28 false,lg 31 (.indexAddr 22 (.tmp 29) (.tmp 30)) 0 28 false,lg 32 (.fieldAddr 55 (.tmp 31) 0) 0 28 false,lg 33 (.load 23 (.tmp 32)) 23 28 false,lmg 34 1 22 28 false,lmg 35 5 3 28 false,lg 36 (.indexAddr 22 (.tmp 34) (.tmp 35)) 0 28 false,lg 37 (.fieldAddr 55 (.tmp 36) 0) 0 28 false,lg 38 (.load 23 (.tmp 37)) 23 28 false,lg 39 (.call ⟨.value (.func 11),#[.tmp 33,.tmp 38],#[23,23]⟩) 4 28 false,lg 40 (.unOp .not 4 (.tmp 39)) 4 28 false,lo 41 (.pick (.tmp 28) (.const (.bool true)) (.tmp 40)) 4]
abbrev ref24_Clauses_r7:List LO:=[lo 4 (.assign (.const (.bool false))) 4]
abbrev ref24_Clauses_r8:List LO:=[lm 15 5 3,lo 16 (.binOp .add 3 (.tmp 15) (.const (.int .i64 1)) 3) 3,lo 5 (.assign (.tmp 16)) 3]
abbrev ref24_Clauses_r9:List LO:=[lo 4 (.assign (.const (.bool true))) 4]
abbrev ref24_Clauses_c:LC:=.seq (.reg false ref24_Clauses_r1) (.seq (.seq (.reg false ref24_Clauses_r2) (.cond (.tmp 10) (.seq (.reg false ref24_Clauses_r3) .ret) .skip)) (.seq (.seq (.reg false ref24_Clauses_r4) (.block 0 (.loop (.seq (.seq (.reg false ref24_Clauses_r5) (.cond (.tmp 14) .skip (.exit 0))) (.seq (.block 1 (.seq (.reg true ref24_Clauses_r6) (.cond (.tmp 41) (.seq (.reg false ref24_Clauses_r7) .ret) .skip))) (.reg false ref24_Clauses_r8)))))) (.seq (.reg false ref24_Clauses_r9) .ret)))
theorem ref24_Clauses_k:FnOk E 68 42 [.tmp 4] ref24_Clauses_c:=⟨⟨Go.Proofs.Tryd.f68,by kernel_rfl,by kernel_rfl,by kernel_rfl,by kernel_rfl,by kernel_rfl⟩,rfl,rfl⟩
noncomputable def ref24_Clauses_l1 (a0:(List S_api_Clause)) (a1:(List S_api_Clause)):Int→Option (Step (Int) ((Unit) ⊕ (Unit))):=fun x7=>(if (decide (x7 < (List.length a0:Int)))=true then Option.bind (ixl a0 x7) (fun x15=>Option.bind (ixl a1 x7) (fun x16=>Option.bind (if (x15.Tag != x16.Tag)=true then some true else Option.bind (ixl a0 x7) (fun x21=>Option.bind (ixl a1 x7) (fun x22=>Option.bind (ref24_Ints x21.Lits x22.Lits) (fun x23=>some (!x23)))):Option (Bool)) (fun x20=>(if x20=true then some (Step.done (Sum.inl ())) else some (Step.next (w64 (x7 + 1))))))) else some (Step.done (Sum.inr ())))
noncomputable def ref24_Clauses (a0:(List S_api_Clause)) (a1:(List S_api_Clause)):Option (Bool):=(if ((List.length a0:Int) != (List.length a1:Int))=true then some false else Option.bind (loopC (ref24_Clauses_l1 a0 a1) 0) (fun y=>match y with | Sum.inl _=>some false | Sum.inr _=>some true))
theorem ref24_Clauses_ok (a0:(List S_api_Clause)) (a1:(List S_api_Clause)):Ct E 68 [.fsl 2 (List.map c_S_api_Clause a0),.fsl 2 (List.map c_S_api_Clause a1)] (ref24_Clauses a0 a1) (fun r:Bool=>bv r):=ct_intro (N:=42) (L:=ref24_Clauses_c) ref24_Clauses_k rfl (Nat.le_of_ble_eq_true rfl) (by kernel_rfl) (by
 unfold ref24_Clauses
 refine jS ⟨[V 0 (.fsl 2 (List.map c_S_api_Clause a0)),V 1 (.fsl 2 (List.map c_S_api_Clause a1))],[],0⟩ ?_
 refine jc_seq ?_
 refine jR ?_
 refine jG 0 5 ⟨[V 0 (.fsl 2 (List.map c_S_api_Clause a0)),V 1 (.fsl 2 (List.map c_S_api_Clause a1)),V 10 (bv ((List.length (List.map c_S_api_Clause a0):Int) != (List.length (List.map c_S_api_Clause a1):Int)))],[],0⟩ ?_
 simp only[List.length_map]
 refine jN ?_
 refine jIf ?_ ?_
 ·refine jS ⟨[V 4 (bv false)],[],0⟩ ?_
  refine jc_ret ?_
  refine jx_seqR ?_
  exact jx_retF (.inr rfl) (v:=bv false) (by kernel_rfl) rfl (fle_refl _)
 refine jc_skip ?_
 refine jx_seqN ?_
 refine jc_seq ?_
 refine jS ⟨[V 0 (.fsl 2 (List.map c_S_api_Clause a0)),V 1 (.fsl 2 (List.map c_S_api_Clause a1)),V 5 (iv 0)],[],0⟩ ?_
 refine jc_block ?_
 refine jc_bind (fun y=>match y with | Sum.inl _=>⟨[V 4 (bv false)],[],0⟩ | Sum.inr _=>⟨[],[],0⟩) (fun y=>match y with | Sum.inl _=>.ret | Sum.inr _=>(.exit 0)) (jc_loop (fun x7=>⟨[V 0 (.fsl 2 (List.map c_S_api_Clause a0)),V 1 (.fsl 2 (List.map c_S_api_Clause a1)),V 5 (iv x7)],[],0⟩) (wkR [] (fix_nil _) allp_nil) ?_) ?_
 ·intro x7
  unfold ref24_Clauses_l1
  refine jc_seq ?_
  refine jR ?_
  refine jG 0 4 ⟨[V 0 (.fsl 2 (List.map c_S_api_Clause a0)),V 1 (.fsl 2 (List.map c_S_api_Clause a1)),V 5 (iv x7),V 14 (bv (decide (x7 < (List.length (List.map c_S_api_Clause a0):Int))))],[],0⟩ ?_
  simp only[List.length_map]
  refine jN ?_
  refine jIf ?_ ?_
  ·refine jc_skip ?_
   refine jx_seqN ?_
   refine jc_seq ?_
   refine jc_block ?_
   refine jR ?_
   refine jG 0 2 ⟨[V 0 (.fsl 2 (List.map c_S_api_Clause a0)),V 1 (.fsl 2 (List.map c_S_api_Clause a1)),V 5 (iv x7),V 17 (.fsl 2 (List.map c_S_api_Clause a0)),V 18 (iv x7)],[],0⟩ ?_
   refine jr_part (i:=2) (mo:=ixl a0 x7) rfl rfl rfl rfl (fun _ hc=>aop_ixf (c:=c_S_api_Clause) (sz:=2) (e:=55) (kk:=.i64) (by kernel_rfl) (by kernel_rfl) (by kernel_rfl) (by kernel_rfl) hc) (fun _=>rfl) ?_
   intro x15 h15
   refine jG 3 4 ⟨[V 0 (.fsl 2 (List.map c_S_api_Clause a0)),V 1 (.fsl 2 (List.map c_S_api_Clause a1)),V 5 (iv x7),V 21 (iv x15.Tag),V 22 (.fsl 2 (List.map c_S_api_Clause a1)),V 23 (iv x7)],[],0⟩ ?_
   refine jr_part (i:=7) (mo:=ixl a1 x7) rfl rfl rfl rfl (fun _ hc=>aop_ixf (c:=c_S_api_Clause) (sz:=2) (e:=55) (kk:=.i64) (by kernel_rfl) (by kernel_rfl) (by kernel_rfl) (by kernel_rfl) hc) (fun _=>rfl) ?_
   intro x16 h16
   refine jG 8 4 ⟨[V 0 (.fsl 2 (List.map c_S_api_Clause a0)),V 1 (.fsl 2 (List.map c_S_api_Clause a1)),V 5 (iv x7),V 28 (bv (x15.Tag != x16.Tag))],[],0⟩ ?_
   refine jr_bind 12 13 (fun x20=>⟨[V 0 (.fsl 2 (List.map c_S_api_Clause a0)),V 1 (.fsl 2 (List.map c_S_api_Clause a1)),V 5 (iv x7),V 41 (bv x20)],[],0⟩) ?_ ?_
   ·refine jSp 28 ?_ ?_
    ·refine jG 0 13 ⟨[V 0 (.fsl 2 (List.map c_S_api_Clause a0)),V 1 (.fsl 2 (List.map c_S_api_Clause a1)),V 5 (iv x7),V 41 (bv true)],[],0⟩ ?_
     refine jr_nil rfl ?_
     exact jx_mid rfl (wkR [] (fix_nil _) allp_nil)
    refine jG 0 2 ⟨[V 0 (.fsl 2 (List.map c_S_api_Clause a0)),V 1 (.fsl 2 (List.map c_S_api_Clause a1)),V 5 (iv x7),(28,.lit false),V 29 (.fsl 2 (List.map c_S_api_Clause a0)),V 30 (iv x7)],[],0⟩ ?_
    refine jr_part (i:=2) (mo:=ixl a0 x7) rfl rfl rfl rfl (fun _ hc=>aop_ixf (c:=c_S_api_Clause) (sz:=2) (e:=55) (kk:=.i64) (by kernel_rfl) (by kernel_rfl) (by kernel_rfl) (by kernel_rfl) hc) (fun _=>rfl) ?_
    intro x21 h21
    refine jG 3 4 ⟨[V 0 (.fsl 2 (List.map c_S_api_Clause a0)),V 1 (.fsl 2 (List.map c_S_api_Clause a1)),V 5 (iv x7),(28,.lit false),V 33 (.fsl 1 (List.map cI x21.Lits)),V 34 (.fsl 2 (List.map c_S_api_Clause a1)),V 35 (iv x7)],[],0⟩ ?_
    refine jr_part (i:=7) (mo:=ixl a1 x7) rfl rfl rfl rfl (fun _ hc=>aop_ixf (c:=c_S_api_Clause) (sz:=2) (e:=55) (kk:=.i64) (by kernel_rfl) (by kernel_rfl) (by kernel_rfl) (by kernel_rfl) hc) (fun _=>rfl) ?_
    intro x22 h22
    refine jG 8 2 ⟨[V 0 (.fsl 2 (List.map c_S_api_Clause a0)),V 1 (.fsl 2 (List.map c_S_api_Clause a1)),V 5 (iv x7),(28,.lit false),V 33 (.fsl 1 (List.map cI x21.Lits)),V 38 (.fsl 1 (List.map cI x22.Lits))],[],0⟩ ?_
    refine jK 10 (ref24_Ints_ok x21.Lits x22.Lits) ?_
    intro x23 h23
    refine jG 11 2 ⟨[V 0 (.fsl 2 (List.map c_S_api_Clause a0)),V 1 (.fsl 2 (List.map c_S_api_Clause a1)),V 5 (iv x7),V 41 (bv (!x23))],[],0⟩ ?_
    refine jr_nil rfl ?_
    exact jx_mid rfl (wkR [] (fix_nil _) allp_nil)
   intro x20
   refine jN ?_
   refine jIf ?_ ?_
   ·refine jS ⟨[V 4 (bv false)],[],0⟩ ?_
    refine jc_ret ?_
    refine jx_blkR ?_
    refine jx_seqR ?_
    exact jx_done rfl nofun (wkR [] (fix_nil _) allp_nil)
   refine jc_skip ?_
   refine jx_blkN ?_
   refine jx_seqN ?_
   refine jT ⟨[V 0 (.fsl 2 (List.map c_S_api_Clause a0)),V 1 (.fsl 2 (List.map c_S_api_Clause a1)),V 5 (iv (w64 (x7 + 1)))],[],0⟩ ?_
   exact jx_next (wkR [] (fix_nil _) allp_nil)
  refine jc_exit ?_
  refine jx_seqE ?_
  exact jx_done rfl nofun (wkR [] (fix_nil _) allp_nil)
 rintro (_ | _)
 ·refine jx_blkR ?_
  refine jx_seqR ?_
  exact jx_retF (.inr rfl) (v:=bv false) (by kernel_rfl) rfl (fle_refl _)
 refine jx_blkE ?_
 refine jx_seqN ?_
 refine jS ⟨[V 4 (bv true)],[],0⟩ ?_
 refine jc_ret ?_
 exact jx_retF (.inr rfl) (v:=bv true) (by kernel_rfl) rfl (fle_refl _))
abbrev ref24_Same_r1:List LO:=[lo 2 (.box 25 (.tmp 0)) 0,lo 3 (.box 25 (.tmp 1)) 0,lo 4 (.assign (.const (.bool false))) 4]
abbrev ref24_Same_r2:List LO:=[lo 5 (.fieldAddr 25 (.tmp 2) 0) 0,lo 6 (.load 3 (.tmp 5)) 3,lo 7 (.fieldAddr 25 (.tmp 3) 0) 0,lo 8 (.load 3 (.tmp 7)) 3,lo 9 (.binOp .eql 3 (.tmp 6) (.tmp 8) 3) 4,lm 10 9 4,lg 11 (.fieldAddr 25 (.tmp 2) 1) 0 10 true,lg 12 (.load 22 (.tmp 11)) 22 10 true,lg 13 (.fieldAddr 25 (.tmp 3) 1) 0 10 true,lg 14 (.load 22 (.tmp 13)) 22 10 true,lg 15 (.call ⟨.value (.func 68),#[.tmp 12,.tmp 14],#[22,22]⟩) 4 10 true,lo 16 (.pick (.tmp 10) (.tmp 15) (.const (.bool false))) 4,lm 17 16 4,lg 18 (.fieldAddr 25 (.tmp 2) 2) 0 17 true,lg 19 (.load 23 (.tmp 18)) 23 17 true,lg 20 (.fieldAddr 25 (.tmp 3) 2) 0 17 true,lg 21 (.load 23 (.tmp 20)) 23 17 true,lg 22 (.call ⟨.value (.func 11),#[.tmp 19,.tmp 21],#[23,23]⟩) 4 17 true,lo 23 (.pick (.tmp 17) (.tmp 22) (.const (.bool false))) 4,lo 4 (.assign (.tmp 23)) 4]
abbrev ref24_Same_c:LC:=.seq (.reg false ref24_Same_r1) (.seq (.reg false ref24_Same_r2) .ret)
theorem ref24_Same_k:FnOk E 28 24 [.tmp 4] ref24_Same_c:=⟨⟨Go.Proofs.Tryd.f28,by kernel_rfl,by kernel_rfl,by kernel_rfl,by kernel_rfl,by kernel_rfl⟩,rfl,rfl⟩
noncomputable def ref24_Same (a0:S_api_Formula) (a1:S_api_Formula):Option (Bool):=Option.bind (if (a0.Vars == a1.Vars)=true then Option.bind (ref24_Clauses a0.Clauses a1.Clauses) (fun x3=>some x3) else some false:Option (Bool)) (fun x2=>Option.bind (if x2=true then Option.bind (ref24_Ints a0.Order a1.Order) (fun x6=>some x6) else some false:Option (Bool)) (fun x5=>some x5))
theorem ref24_Same_ok (a0:S_api_Formula) (a1:S_api_Formula):Ct E 28 [.agg [iv a0.Vars,.fsl 2 (List.map c_S_api_Clause a0.Clauses),.fsl 1 (List.map cI a0.Order)],.agg [iv a1.Vars,.fsl 2 (List.map c_S_api_Clause a1.Clauses),.fsl 1 (List.map cI a1.Order)]] (ref24_Same a0 a1) (fun r:Bool=>bv r):=ct_intro (N:=24) (L:=ref24_Same_c) ref24_Same_k rfl (Nat.le_of_ble_eq_true rfl) (by kernel_rfl) (by
 unfold ref24_Same
 refine jS ⟨[V 2 (pt 0 3),V 3 (pt 1 3)],[W 0 3 [iv a0.Vars,.fsl 2 (List.map c_S_api_Clause a0.Clauses),.fsl 1 (List.map cI a0.Order)],W 1 3 [iv a1.Vars,.fsl 2 (List.map c_S_api_Clause a1.Clauses),.fsl 1 (List.map cI a1.Order)]],2⟩ ?_
 refine jR ?_
 refine jG 0 6 ⟨[V 2 (pt 0 3),V 3 (pt 1 3),V 10 (bv (a0.Vars == a1.Vars))],[W 0 3 [iv a0.Vars,.fsl 2 (List.map c_S_api_Clause a0.Clauses),.fsl 1 (List.map cI a0.Order)],W 1 3 [iv a1.Vars,.fsl 2 (List.map c_S_api_Clause a1.Clauses),.fsl 1 (List.map cI a1.Order)]],2⟩ ?_
 refine jr_bind 6 6 (fun x2=>⟨[V 2 (pt 0 3),V 3 (pt 1 3),V 16 (bv x2)],[W 0 3 [iv a0.Vars,.fsl 2 (List.map c_S_api_Clause a0.Clauses),.fsl 1 (List.map cI a0.Order)],W 1 3 [iv a1.Vars,.fsl 2 (List.map c_S_api_Clause a1.Clauses),.fsl 1 (List.map cI a1.Order)]],2⟩) ?_ ?_
 ·refine jSp 10 ?_ ?_
  ·refine jG 0 4 ⟨[V 2 (pt 0 3),V 3 (pt 1 3),(10,.lit true),V 12 (.fsl 2 (List.map c_S_api_Clause a0.Clauses)),V 14 (.fsl 2 (List.map c_S_api_Clause a1.Clauses))],[W 0 3 [iv a0.Vars,.fsl 2 (List.map c_S_api_Clause a0.Clauses),.fsl 1 (List.map cI a0.Order)],W 1 3 [iv a1.Vars,.fsl 2 (List.map c_S_api_Clause a1.Clauses),.fsl 1 (List.map cI a1.Order)]],2⟩ ?_
   refine jK 4 (ref24_Clauses_ok a0.Clauses a1.Clauses) ?_
   intro x3 h3
   refine jG 5 1 ⟨[V 2 (pt 0 3),V 3 (pt 1 3),V 16 (bv x3)],[W 0 3 [iv a0.Vars,.fsl 2 (List.map c_S_api_Clause a0.Clauses),.fsl 1 (List.map cI a0.Order)],W 1 3 [iv a1.Vars,.fsl 2 (List.map c_S_api_Clause a1.Clauses),.fsl 1 (List.map cI a1.Order)]],2⟩ ?_
   refine jr_nil rfl ?_
   exact jx_mid rfl (wkR [(0,some 0),(1,some 1)] (fix_nil _) (pc (hC 0) (pc (hC 1) allp_nil)))
  refine jG 0 6 ⟨[V 2 (pt 0 3),V 3 (pt 1 3),V 16 (bv false)],[W 0 3 [iv a0.Vars,.fsl 2 (List.map c_S_api_Clause a0.Clauses),.fsl 1 (List.map cI a0.Order)],W 1 3 [iv a1.Vars,.fsl 2 (List.map c_S_api_Clause a1.Clauses),.fsl 1 (List.map cI a1.Order)]],2⟩ ?_
  refine jr_nil rfl ?_
  exact jx_mid rfl (wkR [(0,some 0),(1,some 1)] (fix_nil _) (pc (hC 0) (pc (hC 1) allp_nil)))
 intro x2
 refine jG 12 1 ⟨[V 2 (pt 0 3),V 3 (pt 1 3),V 17 (bv x2)],[W 0 3 [iv a0.Vars,.fsl 2 (List.map c_S_api_Clause a0.Clauses),.fsl 1 (List.map cI a0.Order)],W 1 3 [iv a1.Vars,.fsl 2 (List.map c_S_api_Clause a1.Clauses),.fsl 1 (List.map cI a1.Order)]],2⟩ ?_
 refine jr_bind 13 6 (fun x5=>⟨[V 23 (bv x5)],[],0⟩) ?_ ?_
 ·refine jSp 17 ?_ ?_
  ·refine jG 0 4 ⟨[(17,.lit true),V 19 (.fsl 1 (List.map cI a0.Order)),V 21 (.fsl 1 (List.map cI a1.Order))],[],2⟩ ?_
   refine jK 4 (ref24_Ints_ok a0.Order a1.Order) ?_
   intro x6 h6
   refine jG 5 1 ⟨[V 23 (bv x6)],[],2⟩ ?_
   refine jr_nil rfl ?_
   exact jx_mid rfl (wkR [] (fix_nil _) allp_nil)
  refine jG 0 6 ⟨[V 23 (bv false)],[],2⟩ ?_
  refine jr_nil rfl ?_
  exact jx_mid rfl (wkR [] (fix_nil _) allp_nil)
 intro x5
 refine jG 19 1 ⟨[V 4 (bv x5)],[],0⟩ ?_
 refine jN ?_
 refine jc_ret ?_
 exact jx_retF (.inr rfl) (v:=bv x5) (by kernel_rfl) rfl (fle_refl _))
abbrev law24_CnfTexts_r1:List LO:=[lo 2 (.box 25 (.tmp 0)) 0,lo 4 (.assign (.const (.bool false))) 4]
abbrev law24_CnfTexts_r2:List LO:=[lo 11 (.load 25 (.tmp 2)) 25,lo 12 (.call ⟨.value (.func 24),#[.tmp 11],#[25]⟩) 9,lo 5 (.assign (.tmp 12)) 9]
abbrev law24_CnfTexts_r3:List LO:=[lm 14 1 9,lo 15 (.call ⟨.value (.func 25),#[.tmp 14],#[9]⟩) 51,lm 13 15 51,lo 16 (.extract (.tmp 13) 0) 25,lo 17 (.extract (.tmp 13) 1) 50,lo 6 (.alloc 25) 0,lo 7 (.alloc 50) 0,ln (.store 25 (.tmp 6) (.tmp 16)) 0,ln (.store 50 (.tmp 7) (.tmp 17)) 0]
abbrev law24_CnfTexts_r4:List LO:=[lm 19 1 9,lo 20 (.call ⟨.value (.func 26),#[.tmp 19],#[9]⟩) 51,lm 18 20 51,lo 21 (.extract (.tmp 18) 0) 25,lo 22 (.extract (.tmp 18) 1) 50,lo 8 (.alloc 25) 0,lo 9 (.alloc 50) 0,ln (.store 25 (.tmp 8) (.tmp 21)) 0,ln (.store 50 (.tmp 9) (.tmp 22)) 0]
abbrev law24_CnfTexts_r5:List LO:=[lm 23 5 9,lo 24 (.load 25 (.tmp 2)) 25,lo 25 (.call ⟨.value (.func 27),#[.tmp 24],#[25]⟩) 9,lo 26 (.binOp .neq 9 (.tmp 23) (.tmp 25) 9) 4,lm 27 26 4,lg 28 (.load 25 (.tmp 6)) 25 27 false,lg 29 (.load 25 (.tmp 8)) 25 27 false,lg 30 (.call ⟨.value (.func 28),#[.tmp 28,.tmp 29],#[25,25]⟩) 4 27 false,lg 31 (.unOp .not 4 (.tmp 30)) 4 27 false,lo 32 (.pick (.tmp 27) (.const (.bool true)) (.tmp 31)) 4,lm 33 32 4,lg 34 (.load 50 (.tmp 7)) 50 33 false,lg 35 (.load 50 (.tmp 9)) 50 33 false,lg 36 (.binOp .neq 50 (.tmp 34) (.tmp 35) 50) 4 33 false,lo 37 (.pick (.tmp 33) (.const (.bool true)) (.tmp 36)) 4]
abbrev law24_CnfTexts_r6:List LO:=[lo 4 (.assign (.const (.bool false))) 4]
abbrev law24_CnfTexts_r7:List LO:=[lm 38 5 9,lo 39 (.binOp .eql 9 (.tmp 38) (.const (.string ⟨#[]⟩)) 9) 4,lm 40 39 4,lmg 41 5 9 40 false,lg 42 (.call ⟨.builtin .len,#[.tmp 41],#[9]⟩) 3 40 false,lg 43 (.binOp .gtr 3 (.tmp 42) (.const (.int .i64 65536)) 3) 4 40 false,lo 44 (.pick (.tmp 40) (.const (.bool true)) (.tmp 43)) 4]
abbrev law24_CnfTexts_r8:List LO:=[lo 45 (.call ⟨.value (.func 16),#[],#[]⟩) 4,lo 4 (.assign (.tmp 45)) 4]
abbrev law24_CnfTexts_r9:List LO:=[lm 47 5 9,lo 48 (.call ⟨.value (.func 25),#[.tmp 47],#[9]⟩) 51,lm 46 48 51,lo 49 (.extract (.tmp 46) 0) 25,lo 50 (.extract (.tmp 46) 1) 50,ln (.store 25 (.tmp 6) (.tmp 49)) 0,ln (.store 50 (.tmp 7) (.tmp 50)) 0]
abbrev law24_CnfTexts_r10:List LO:=[lo 51 (.fieldAddr 25 (.tmp 2) 1) 0,lo 52 (.load 22 (.tmp 51)) 22,lo 53 (.call ⟨.builtin .len,#[.tmp 52],#[22]⟩) 3,lo 54 (.move (.const (.int .i64 0))) 3]
abbrev law24_CnfTexts_r11:List LO:=[lo 55 (.binOp .lss 3 (.tmp 54) (.tmp 53) 3) 0]
abbrev law24_CnfTexts_r12:List LO:=[lm 56 54 3,lo 10 (.assign (.tmp 56)) 3]
abbrev law24_CnfTexts_r13:List LO:=[lo 57 (.load 50 (.tmp 7)) 50,lo 58 (.build 50 #[]) 50,lo 59 (.binOp .neq 50 (.tmp 57) (.tmp 58) 50) 4,lm 60 59 4,lg 61 (.fieldAddr 25 (.tmp 6) 1) 0 60 false,lg 62 (.load 22 (.tmp 61)) 22 60 false,lg 63 (.call ⟨.builtin .len,#[.tmp 62],#[22]⟩) 3 60 false,lg 64 (.fieldAddr 25 (.tmp 2) 1) 0 60 false,lg 65 (.load 22 (.tmp 64)) 22 60 false,lg 66 (.call ⟨.builtin .len,#[.tmp 65],#[22]⟩) 3 60 false,lg 67 (.binOp .neq 3 (.tmp 63) (.tmp 66) 3) 4 60 false,lo 68 (.pick (.tmp 60) (.const (.bool true)) (.tmp 67)) 4,lm 69 68 4,lg 70 (.fieldAddr 25 (.tmp 6) 1) 0 69 false,lg 71 (.load 22 (.tmp 70)) 22 69 false,lmg 72 10 3 69 false,lg 73 (.indexAddr 22 (.tmp 71) (.tmp 72)) 0 69 false,lg 74 (.fieldAddr 55 (.tmp 73) 0) 0 69 false,lg 75 (.load 23 (.tmp 74)) 23 69 false,lg 76 (.fieldAddr 25 (.tmp 2) 1) 0 69 false,lg 77 (.load 22 (.tmp 76)) 22 69 false,lmg 78 10 3 69 false,lg 79 (.indexAddr 22 (.tmp 77) (.tmp 78)) 0 69 false,lg 80 (.fieldAddr 55 (.tmp 79) 0) 0 69 false,lg 81 (.load 23 (.tmp 80)) 23 69 false,lg 82 (.call ⟨.value (.func 11),#[.tmp 75,.tmp 81],#[23,23]⟩) 4 69 false,lg 83 (.unOp .not 4 (.tmp 82)) 4 69 false,lo 84 (.pick (.tmp 69) (.const (.bool true)) (.tmp 83)) 4,lm 85 84 4,lg 86 (.fieldAddr 25 (.tmp 6) 1) 0 85 false,lg 87 (.load 22 (.tmp 86)) 22 85 false,lmg 88 10 3 85 false,lg 89 (.indexAddr 22 (.tmp 87) (.tmp 88)) 0 85 false,lg 90 (.fieldAddr 55 (.tmp 89) 1) 0 85 false,lg 91 (.load 3 (.tmp 90)) 3 85 false,lg 92 (.binOp .neq 3 (.tmp 91) (.const (.int .i64 0)) 3) 4 85 false,lo 93 (.pick (.tmp 85) (.const (.bool true)) (.tmp 92)) 4]
abbrev law24_CnfTexts_r14:List LO:=[lo 4 (.assign (.const (.bool false))) 4]
abbrev law24_CnfTexts_r15:List LO:=[lo 94 (.binOp .add 3 (.tmp 54) (.const (.int .i64 1)) 3) 3,lm 54 94 3]
abbrev law24_CnfTexts_r16:List LO:=[lo 95 (.load 50 (.tmp 7)) 50,lo 96 (.build 50 #[]) 50,lo 97 (.binOp .eql 50 (.tmp 95) (.tmp 96) 50) 4,lm 98 97 4,lg 99 (.fieldAddr 25 (.tmp 6) 0) 0 98 true,lg 100 (.load 3 (.tmp 99)) 3 98 true,lg 101 (.fieldAddr 25 (.tmp 2) 0) 0 98 true,lg 102 (.load 3 (.tmp 101)) 3 98 true,lg 103 (.binOp .eql 3 (.tmp 100) (.tmp 102) 3) 4 98 true,lo 104 (.pick (.tmp 98) (.tmp 103) (.const (.bool false))) 4,lm 105 104 4,lg 106 (.fieldAddr 25 (.tmp 6) 2) 0 105 true,lg 107 (.load 23 (.tmp 106)) 23 105 true,lg 108 (.fieldAddr 25 (.tmp 2) 2) 0 105 true,lg 109 (.load 23 (.tmp 108)) 23 105 true,lg 110 (.call ⟨.value (.func 11),#[.tmp 107,.tmp 109],#[23,23]⟩) 4 105 true,lo 111 (.pick (.tmp 105) (.tmp 110) (.const (.bool false))) 4,lm 112 111 4,lg 113 (.call ⟨.value (.func 16),#[],#[]⟩) 4 112 true,lo 114 (.pick (.tmp 112) (.tmp 113) (.const (.bool false))) 4,lo 4 (.assign (.tmp 114)) 4]
abbrev law24_CnfTexts_c:LC:=.seq (.reg false law24_CnfTexts_r1) (.seq (.reg false law24_CnfTexts_r2) (.seq (.reg false law24_CnfTexts_r3) (.seq (.reg false law24_CnfTexts_r4) (.seq (.seq (.reg false law24_CnfTexts_r5) (.cond (.tmp 37) (.seq (.reg false law24_CnfTexts_r6) .ret) .skip)) (.seq (.seq (.reg false law24_CnfTexts_r7) (.cond (.tmp 44) (.seq (.reg false law24_CnfTexts_r8) .ret) .skip)) (.seq (.reg false law24_CnfTexts_r9) (.seq (.seq (.reg false law24_CnfTexts_r10) (.block 0 (.loop (.seq (.reg false law24_CnfTexts_r11) (.seq (.cond (.tmp 55) .skip (.exit 0)) (.seq (.block 1 (.seq (.reg false law24_CnfTexts_r12) (.seq (.reg true law24_CnfTexts_r13) (.cond (.tmp 93) (.seq (.reg false law24_CnfTexts_r14) .ret) .skip)))) (.reg false law24_CnfTexts_r15))))))) (.seq (.reg false law24_CnfTexts_r16) .ret))))))))
theorem law24_CnfTexts_k:FnOk E 6 115 [.tmp 4] law24_CnfTexts_c:=⟨⟨Go.Proofs.Tryd.f6,by kernel_rfl,by kernel_rfl,by kernel_rfl,by kernel_rfl,by kernel_rfl⟩,rfl,rfl⟩
noncomputable def law24_CnfTexts_l1 (a0:S_api_Formula) (x9:S_api_Formula × S_api_Fault):Int→Option (Step (Int) ((Unit) ⊕ (Unit))):=fun x16=>(if (decide (x16 < (List.length a0.Clauses:Int)))=true then Option.bind (if ((!((x9.2.Err == 0) && (x9.2.At == 0))) || ((List.length x9.1.Clauses:Int) != (List.length a0.Clauses:Int)))=true then some true else Option.bind (ixl x9.1.Clauses x16) (fun x28=>Option.bind (ixl a0.Clauses x16) (fun x29=>Option.bind (ref24_Ints x28.Lits x29.Lits) (fun x30=>some (!x30)))):Option (Bool)) (fun x27=>Option.bind (if x27=true then some true else Option.bind (ixl x9.1.Clauses x16) (fun x33=>some (x33.Tag != 0)):Option (Bool)) (fun x32=>(if x32=true then some (Step.done (Sum.inl ())) else some (Step.next (w64 (x16 + 1)))))) else some (Step.done (Sum.inr ())))
noncomputable def law24_CnfTexts (a0:S_api_Formula) (a1:Str):Option (Bool):=Option.bind (cnf_Dimacs a0) (fun x1=>Option.bind (cnf_Read a1) (fun x2=>Option.bind (ref24_Read a1) (fun x3=>Option.bind (ref24_Dimacs a0) (fun x4=>Option.bind (if (!(x1 == x4))=true then some true else Option.bind (ref24_Same (S_api_Formula.mk x2.1.Vars x2.1.Clauses x2.1.Order) (S_api_Formula.mk x3.1.Vars x3.1.Clauses x3.1.Order)) (fun x7=>some (!x7)):Option (Bool)) (fun x6=>(if (x6 || (!((x2.2.Err == x3.2.Err) && (x2.2.At == x3.2.At))))=true then some false else (if ((x1 == []) || (decide ((List.length x1:Int) > 65536)))=true then Option.bind (law24_awake) (fun x8=>some x8) else Option.bind (cnf_Read x1) (fun x9=>Option.bind (loopC (law24_CnfTexts_l1 a0 x9) 0) (fun y=>match y with | Sum.inl _=>some false | Sum.inr _=>Option.bind (if (((x9.2.Err == 0) && (x9.2.At == 0)) && (x9.1.Vars == a0.Vars))=true then Option.bind (ref24_Ints x9.1.Order a0.Order) (fun x36=>some x36) else some false:Option (Bool)) (fun x35=>Option.bind (if x35=true then Option.bind (law24_awake) (fun x39=>some x39) else some false:Option (Bool)) (fun x38=>some x38)))))))))))
theorem law24_CnfTexts_ok (a0:S_api_Formula) (a1:Str):Ct E 6 [.agg [iv a0.Vars,.fsl 2 (List.map c_S_api_Clause a0.Clauses),.fsl 1 (List.map cI a0.Order)],bs a1] (law24_CnfTexts a0 a1) (fun r:Bool=>bv r):=ct_intro (N:=115) (L:=law24_CnfTexts_c) law24_CnfTexts_k rfl (Nat.le_of_ble_eq_true rfl) (by kernel_rfl) (by
 unfold law24_CnfTexts
 refine jS ⟨[V 1 (bs a1),V 2 (pt 0 3)],[W 0 3 [iv a0.Vars,.fsl 2 (List.map c_S_api_Clause a0.Clauses),.fsl 1 (List.map cI a0.Order)]],1⟩ ?_
 refine jR ?_
 refine jG 0 1 ⟨[V 1 (bs a1),V 2 (pt 0 3),V 11 (.agg [iv a0.Vars,.fsl 2 (List.map c_S_api_Clause a0.Clauses),.fsl 1 (List.map cI a0.Order)])],[W 0 3 [iv a0.Vars,.fsl 2 (List.map c_S_api_Clause a0.Clauses),.fsl 1 (List.map cI a0.Order)]],1⟩ ?_
 refine jK 1 (cnf_Dimacs_ok a0) ?_
 intro x1 h1
 refine jG 2 1 ⟨[V 1 (bs a1),V 2 (pt 0 3),V 5 (bs x1)],[W 0 3 [iv a0.Vars,.fsl 2 (List.map c_S_api_Clause a0.Clauses),.fsl 1 (List.map cI a0.Order)]],1⟩ ?_
 refine jN ?_
 refine jR ?_
 refine jG 0 1 ⟨[V 1 (bs a1),V 2 (pt 0 3),V 5 (bs x1),V 14 (bs a1)],[W 0 3 [iv a0.Vars,.fsl 2 (List.map c_S_api_Clause a0.Clauses),.fsl 1 (List.map cI a0.Order)]],1⟩ ?_
 refine jK 1 (cnf_Read_ok a1) ?_
 intro x2 h2
 refine jG 2 7 ⟨[V 1 (bs a1),V 2 (pt 0 3),V 5 (bs x1),V 6 (pt 1 3),V 7 (pt 2 2)],[W 0 3 [iv a0.Vars,.fsl 2 (List.map c_S_api_Clause a0.Clauses),.fsl 1 (List.map cI a0.Order)],W 1 3 [iv x2.1.Vars,.fsl 2 (List.map c_S_api_Clause x2.1.Clauses),.fsl 1 (List.map cI x2.1.Order)],W 2 2 [iv x2.2.Err,iv x2.2.At]],3⟩ ?_
 refine jN ?_
 refine jR ?_
 refine jG 0 1 ⟨[V 2 (pt 0 3),V 5 (bs x1),V 6 (pt 1 3),V 7 (pt 2 2),V 19 (bs a1)],[W 0 3 [iv a0.Vars,.fsl 2 (List.map c_S_api_Clause a0.Clauses),.fsl 1 (List.map cI a0.Order)],W 1 3 [iv x2.1.Vars,.fsl 2 (List.map c_S_api_Clause x2.1.Clauses),.fsl 1 (List.map cI x2.1.Order)],W 2 2 [iv x2.2.Err,iv x2.2.At]],3⟩ ?_
 refine jK 1 (ref24_Read_ok a1) ?_
 intro x3 h3
 refine jG 2 7 ⟨[V 2 (pt 0 3),V 5 (bs x1),V 6 (pt 1 3),V 7 (pt 2 2),V 8 (pt 3 3),V 9 (pt 4 2)],[W 0 3 [iv a0.Vars,.fsl 2 (List.map c_S_api_Clause a0.Clauses),.fsl 1 (List.map cI a0.Order)],W 1 3 [iv x2.1.Vars,.fsl 2 (List.map c_S_api_Clause x2.1.Clauses),.fsl 1 (List.map cI x2.1.Order)],W 2 2 [iv x2.2.Err,iv x2.2.At],W 3 3 [iv x3.1.Vars,.fsl 2 (List.map c_S_api_Clause x3.1.Clauses),.fsl 1 (List.map cI x3.1.Order)],W 4 2 [iv x3.2.Err,iv x3.2.At]],5⟩ ?_
 refine jN ?_
 refine jc_seq ?_
 refine jR ?_
 refine jG 0 2 ⟨[V 2 (pt 0 3),V 5 (bs x1),V 6 (pt 1 3),V 7 (pt 2 2),V 8 (pt 3 3),V 9 (pt 4 2),V 23 (bs x1),V 24 (.agg [iv a0.Vars,.fsl 2 (List.map c_S_api_Clause a0.Clauses),.fsl 1 (List.map cI a0.Order)])],[W 0 3 [iv a0.Vars,.fsl 2 (List.map c_S_api_Clause a0.Clauses),.fsl 1 (List.map cI a0.Order)],W 1 3 [iv x2.1.Vars,.fsl 2 (List.map c_S_api_Clause x2.1.Clauses),.fsl 1 (List.map cI x2.1.Order)],W 2 2 [iv x2.2.Err,iv x2.2.At],W 3 3 [iv x3.1.Vars,.fsl 2 (List.map c_S_api_Clause x3.1.Clauses),.fsl 1 (List.map cI x3.1.Order)],W 4 2 [iv x3.2.Err,iv x3.2.At]],5⟩ ?_
 refine jK 2 (ref24_Dimacs_ok a0) ?_
 intro x4 h4
 refine jG 3 2 ⟨[V 2 (pt 0 3),V 5 (bs x1),V 6 (pt 1 3),V 7 (pt 2 2),V 8 (pt 3 3),V 9 (pt 4 2),V 27 (bv (!(x1 == x4)))],[W 0 3 [iv a0.Vars,.fsl 2 (List.map c_S_api_Clause a0.Clauses),.fsl 1 (List.map cI a0.Order)],W 1 3 [iv x2.1.Vars,.fsl 2 (List.map c_S_api_Clause x2.1.Clauses),.fsl 1 (List.map cI x2.1.Order)],W 2 2 [iv x2.2.Err,iv x2.2.At],W 3 3 [iv x3.1.Vars,.fsl 2 (List.map c_S_api_Clause x3.1.Clauses),.fsl 1 (List.map cI x3.1.Order)],W 4 2 [iv x3.2.Err,iv x3.2.At]],5⟩ ?_
 refine jr_bind 5 5 (fun x6=>⟨[V 2 (pt 0 3),V 5 (bs x1),V 6 (pt 1 3),V 7 (pt 2 2),V 9 (pt 3 2),V 32 (bv x6)],[W 0 3 [iv a0.Vars,.fsl 2 (List.map c_S_api_Clause a0.Clauses),.fsl 1 (List.map cI a0.Order)],W 1 3 [iv x2.1.Vars,.fsl 2 (List.map c_S_api_Clause x2.1.Clauses),.fsl 1 (List.map cI x2.1.Order)],W 2 2 [iv x2.2.Err,iv x2.2.At],W 3 2 [iv x3.2.Err,iv x3.2.At]],4⟩) ?_ ?_
 ·refine jSp 27 ?_ ?_
  ·refine jG 0 5 ⟨[V 2 (pt 0 3),V 5 (bs x1),V 6 (pt 1 3),V 7 (pt 2 2),V 9 (pt 4 2),V 32 (bv true)],[W 0 3 [iv a0.Vars,.fsl 2 (List.map c_S_api_Clause a0.Clauses),.fsl 1 (List.map cI a0.Order)],W 1 3 [iv x2.1.Vars,.fsl 2 (List.map c_S_api_Clause x2.1.Clauses),.fsl 1 (List.map cI x2.1.Order)],W 2 2 [iv x2.2.Err,iv x2.2.At],W 4 2 [iv x3.2.Err,iv x3.2.At]],5⟩ ?_
   refine jr_nil rfl ?_
   exact jx_mid rfl (wkR [(0,some 0),(1,some 1),(2,some 2),(3,some 4)] (fix_nil _) (pc (hC 0) (pc (hC 1) (pc (hC 2) (pc (hC 4) allp_nil)))))
  refine jG 0 2 ⟨[V 2 (pt 0 3),V 5 (bs x1),V 6 (pt 1 3),V 7 (pt 2 2),V 9 (pt 4 2),(27,.lit false),V 28 (.agg [iv x2.1.Vars,.fsl 2 (List.map c_S_api_Clause x2.1.Clauses),.fsl 1 (List.map cI x2.1.Order)]),V 29 (.agg [iv x3.1.Vars,.fsl 2 (List.map c_S_api_Clause x3.1.Clauses),.fsl 1 (List.map cI x3.1.Order)])],[W 0 3 [iv a0.Vars,.fsl 2 (List.map c_S_api_Clause a0.Clauses),.fsl 1 (List.map cI a0.Order)],W 1 3 [iv x2.1.Vars,.fsl 2 (List.map c_S_api_Clause x2.1.Clauses),.fsl 1 (List.map cI x2.1.Order)],W 2 2 [iv x2.2.Err,iv x2.2.At],W 4 2 [iv x3.2.Err,iv x3.2.At]],5⟩ ?_
  refine jK 2 (ref24_Same_ok (S_api_Formula.mk x2.1.Vars x2.1.Clauses x2.1.Order) (S_api_Formula.mk x3.1.Vars x3.1.Clauses x3.1.Order)) ?_
  intro x7 h7
  refine jG 3 2 ⟨[V 2 (pt 0 3),V 5 (bs x1),V 6 (pt 1 3),V 7 (pt 2 2),V 9 (pt 4 2),V 32 (bv (!x7))],[W 0 3 [iv a0.Vars,.fsl 2 (List.map c_S_api_Clause a0.Clauses),.fsl 1 (List.map cI a0.Order)],W 1 3 [iv x2.1.Vars,.fsl 2 (List.map c_S_api_Clause x2.1.Clauses),.fsl 1 (List.map cI x2.1.Order)],W 2 2 [iv x2.2.Err,iv x2.2.At],W 4 2 [iv x3.2.Err,iv x3.2.At]],5⟩ ?_
  refine jr_nil rfl ?_
  exact jx_mid rfl (wkR [(0,some 0),(1,some 1),(2,some 2),(3,some 4)] (fix_nil _) (pc (hC 0) (pc (hC 1) (pc (hC 2) (pc (hC 4) allp_nil)))))
 intro x6
 refine jG 10 5 ⟨[V 2 (pt 0 3),V 5 (bs x1),V 6 (pt 1 3),V 7 (pt 2 2),V 37 (bv (x6 || (!((x2.2.Err == x3.2.Err) && (x2.2.At == x3.2.At)))))],[W 0 3 [iv a0.Vars,.fsl 2 (List.map c_S_api_Clause a0.Clauses),.fsl 1 (List.map cI a0.Order)],W 1 3 [iv x2.1.Vars,.fsl 2 (List.map c_S_api_Clause x2.1.Clauses),.fsl 1 (List.map cI x2.1.Order)],W 2 2 [iv x2.2.Err,iv x2.2.At]],4⟩ ?_
 refine jN ?_
 refine jIf ?_ ?_
 ·refine jS ⟨[V 4 (bv false)],[],4⟩ ?_
  refine jc_ret ?_
  refine jx_seqR ?_
  exact jx_retF (.inr rfl) (v:=bv false) (by kernel_rfl) rfl (fle_refl _)
 refine jc_skip ?_
 refine jx_seqN ?_
 refine jc_seq ?_
 refine jS ⟨[V 2 (pt 0 3),V 5 (bs x1),V 6 (pt 1 3),V 7 (pt 2 2),V 44 (bv ((x1 == []) || (decide ((List.length x1:Int) > 65536))))],[W 0 3 [iv a0.Vars,.fsl 2 (List.map c_S_api_Clause a0.Clauses),.fsl 1 (List.map cI a0.Order)],W 1 3 [iv x2.1.Vars,.fsl 2 (List.map c_S_api_Clause x2.1.Clauses),.fsl 1 (List.map cI x2.1.Order)],W 2 2 [iv x2.2.Err,iv x2.2.At]],4⟩ ?_
 refine jIf ?_ ?_
 ·refine jR ?_
  refine jK 0 (law24_awake_ok) ?_
  intro x8 h8
  refine jG 1 1 ⟨[V 4 (bv x8)],[],4⟩ ?_
  refine jN ?_
  refine jc_ret ?_
  refine jx_seqR ?_
  exact jx_retF (.inr rfl) (v:=bv x8) (by kernel_rfl) rfl (fle_refl _)
 refine jc_skip ?_
 refine jx_seqN ?_
 refine jR ?_
 refine jG 0 1 ⟨[V 2 (pt 0 3),V 6 (pt 1 3),V 7 (pt 2 2),V 47 (bs x1)],[W 0 3 [iv a0.Vars,.fsl 2 (List.map c_S_api_Clause a0.Clauses),.fsl 1 (List.map cI a0.Order)],W 1 3 [iv x2.1.Vars,.fsl 2 (List.map c_S_api_Clause x2.1.Clauses),.fsl 1 (List.map cI x2.1.Order)],W 2 2 [iv x2.2.Err,iv x2.2.At]],4⟩ ?_
 refine jK 1 (cnf_Read_ok x1) ?_
 intro x9 h9
 refine jG 2 5 ⟨[V 2 (pt 0 3),V 6 (pt 1 3),V 7 (pt 2 2)],[W 0 3 [iv a0.Vars,.fsl 2 (List.map c_S_api_Clause a0.Clauses),.fsl 1 (List.map cI a0.Order)],W 1 3 [iv x9.1.Vars,.fsl 2 (List.map c_S_api_Clause x9.1.Clauses),.fsl 1 (List.map cI x9.1.Order)],W 2 2 [iv x9.2.Err,iv x9.2.At]],4⟩ ?_
 refine jN ?_
 refine jc_seq ?_
 refine jR ?_
 refine jG 0 4 ⟨[V 2 (pt 0 3),V 6 (pt 1 3),V 7 (pt 2 2),V 53 (iv (List.length (List.map c_S_api_Clause a0.Clauses):Int)),V 54 (iv 0)],[W 0 3 [iv a0.Vars,.fsl 2 (List.map c_S_api_Clause a0.Clauses),.fsl 1 (List.map cI a0.Order)],W 1 3 [iv x9.1.Vars,.fsl 2 (List.map c_S_api_Clause x9.1.Clauses),.fsl 1 (List.map cI x9.1.Order)],W 2 2 [iv x9.2.Err,iv x9.2.At]],4⟩ ?_
 simp only[List.length_map]
 refine jN ?_
 refine jc_block ?_
 refine jc_bind (fun y=>match y with | Sum.inl _=>⟨[V 4 (bv false)],[],0⟩ | Sum.inr _=>⟨[V 2 (pt 0 3),V 6 (pt 1 3),V 7 (pt 2 2)],[W 0 3 [iv a0.Vars,.fsl 2 (List.map c_S_api_Clause a0.Clauses),.fsl 1 (List.map cI a0.Order)],W 1 3 [iv x9.1.Vars,.fsl 2 (List.map c_S_api_Clause x9.1.Clauses),.fsl 1 (List.map cI x9.1.Order)],W 2 2 [iv x9.2.Err,iv x9.2.At]],3⟩) (fun y=>match y with | Sum.inl _=>.ret | Sum.inr _=>(.exit 0)) (jc_loop (fun x16=>⟨[V 2 (pt 0 3),V 6 (pt 1 3),V 7 (pt 2 2),V 53 (iv (List.length a0.Clauses:Int)),V 54 (iv x16)],[W 0 3 [iv a0.Vars,.fsl 2 (List.map c_S_api_Clause a0.Clauses),.fsl 1 (List.map cI a0.Order)],W 1 3 [iv x9.1.Vars,.fsl 2 (List.map c_S_api_Clause x9.1.Clauses),.fsl 1 (List.map cI x9.1.Order)],W 2 2 [iv x9.2.Err,iv x9.2.At]],3⟩) (wkR [(0,some 0),(1,some 1),(2,some 2)] (fix_nil _) (pc (hC 0) (pc (hC 1) (pc (hC 2) allp_nil)))) ?_) ?_
 ·intro x16
  unfold law24_CnfTexts_l1
  refine jS ⟨[V 2 (pt 0 3),V 6 (pt 1 3),V 7 (pt 2 2),V 53 (iv (List.length a0.Clauses:Int)),V 54 (iv x16),V 55 (bv (decide (x16 < (List.length a0.Clauses:Int))))],[W 0 3 [iv a0.Vars,.fsl 2 (List.map c_S_api_Clause a0.Clauses),.fsl 1 (List.map cI a0.Order)],W 1 3 [iv x9.1.Vars,.fsl 2 (List.map c_S_api_Clause x9.1.Clauses),.fsl 1 (List.map cI x9.1.Order)],W 2 2 [iv x9.2.Err,iv x9.2.At]],3⟩ ?_
  refine jc_seq ?_
  refine jIf ?_ ?_
  ·refine jc_skip ?_
   refine jx_seqN ?_
   refine jc_seq ?_
   refine jc_block ?_
   refine jS ⟨[V 2 (pt 0 3),V 6 (pt 1 3),V 7 (pt 2 2),V 10 (iv x16),V 53 (iv (List.length a0.Clauses:Int)),V 54 (iv x16)],[W 0 3 [iv a0.Vars,.fsl 2 (List.map c_S_api_Clause a0.Clauses),.fsl 1 (List.map cI a0.Order)],W 1 3 [iv x9.1.Vars,.fsl 2 (List.map c_S_api_Clause x9.1.Clauses),.fsl 1 (List.map cI x9.1.Order)],W 2 2 [iv x9.2.Err,iv x9.2.At]],3⟩ ?_
   refine jR ?_
   refine jG 0 13 ⟨[V 2 (pt 0 3),V 6 (pt 1 3),V 7 (pt 2 2),V 10 (iv x16),V 53 (iv (List.length a0.Clauses:Int)),V 54 (iv x16),V 69 (bv ((!((x9.2.Err == 0) && (x9.2.At == 0))) || ((List.length (List.map c_S_api_Clause x9.1.Clauses):Int) != (List.length (List.map c_S_api_Clause a0.Clauses):Int))))],[W 0 3 [iv a0.Vars,.fsl 2 (List.map c_S_api_Clause a0.Clauses),.fsl 1 (List.map cI a0.Order)],W 1 3 [iv x9.1.Vars,.fsl 2 (List.map c_S_api_Clause x9.1.Clauses),.fsl 1 (List.map cI x9.1.Order)],W 2 2 [iv x9.2.Err,iv x9.2.At]],3⟩ ?_
   simp only[List.length_map]
   refine jr_bind 13 15 (fun x27=>⟨[V 2 (pt 0 3),V 6 (pt 1 3),V 7 (pt 2 2),V 10 (iv x16),V 53 (iv (List.length a0.Clauses:Int)),V 54 (iv x16),V 84 (bv x27)],[W 0 3 [iv a0.Vars,.fsl 2 (List.map c_S_api_Clause a0.Clauses),.fsl 1 (List.map cI a0.Order)],W 1 3 [iv x9.1.Vars,.fsl 2 (List.map c_S_api_Clause x9.1.Clauses),.fsl 1 (List.map cI x9.1.Order)],W 2 2 [iv x9.2.Err,iv x9.2.At]],3⟩) ?_ ?_
   ·refine jSp 69 ?_ ?_
    ·refine jG 0 15 ⟨[V 2 (pt 0 3),V 6 (pt 1 3),V 7 (pt 2 2),V 10 (iv x16),V 53 (iv (List.length a0.Clauses:Int)),V 54 (iv x16),V 84 (bv true)],[W 0 3 [iv a0.Vars,.fsl 2 (List.map c_S_api_Clause a0.Clauses),.fsl 1 (List.map cI a0.Order)],W 1 3 [iv x9.1.Vars,.fsl 2 (List.map c_S_api_Clause x9.1.Clauses),.fsl 1 (List.map cI x9.1.Order)],W 2 2 [iv x9.2.Err,iv x9.2.At]],3⟩ ?_
     refine jr_nil rfl ?_
     exact jx_mid rfl (wkR [(0,some 0),(1,some 1),(2,some 2)] (fix_nil _) (pc (hC 0) (pc (hC 1) (pc (hC 2) allp_nil))))
    refine jG 0 3 ⟨[V 2 (pt 0 3),V 6 (pt 1 3),V 7 (pt 2 2),V 10 (iv x16),V 53 (iv (List.length a0.Clauses:Int)),V 54 (iv x16),(69,.lit false),V 71 (.fsl 2 (List.map c_S_api_Clause x9.1.Clauses)),V 72 (iv x16)],[W 0 3 [iv a0.Vars,.fsl 2 (List.map c_S_api_Clause a0.Clauses),.fsl 1 (List.map cI a0.Order)],W 1 3 [iv x9.1.Vars,.fsl 2 (List.map c_S_api_Clause x9.1.Clauses),.fsl 1 (List.map cI x9.1.Order)],W 2 2 [iv x9.2.Err,iv x9.2.At]],3⟩ ?_
    refine jr_part (i:=3) (mo:=ixl x9.1.Clauses x16) rfl rfl rfl rfl (fun _ hc=>aop_ixf (c:=c_S_api_Clause) (sz:=2) (e:=55) (kk:=.i64) (by kernel_rfl) (by kernel_rfl) (by kernel_rfl) (by kernel_rfl) hc) (fun _=>rfl) ?_
    intro x28 h28
    refine jG 4 5 ⟨[V 2 (pt 0 3),V 6 (pt 1 3),V 7 (pt 2 2),V 10 (iv x16),V 53 (iv (List.length a0.Clauses:Int)),V 54 (iv x16),(69,.lit false),V 75 (.fsl 1 (List.map cI x28.Lits)),V 77 (.fsl 2 (List.map c_S_api_Clause a0.Clauses)),V 78 (iv x16)],[W 0 3 [iv a0.Vars,.fsl 2 (List.map c_S_api_Clause a0.Clauses),.fsl 1 (List.map cI a0.Order)],W 1 3 [iv x9.1.Vars,.fsl 2 (List.map c_S_api_Clause x9.1.Clauses),.fsl 1 (List.map cI x9.1.Order)],W 2 2 [iv x9.2.Err,iv x9.2.At]],3⟩ ?_
    refine jr_part (i:=9) (mo:=ixl a0.Clauses x16) rfl rfl rfl rfl (fun _ hc=>aop_ixf (c:=c_S_api_Clause) (sz:=2) (e:=55) (kk:=.i64) (by kernel_rfl) (by kernel_rfl) (by kernel_rfl) (by kernel_rfl) hc) (fun _=>rfl) ?_
    intro x29 h29
    refine jG 10 2 ⟨[V 2 (pt 0 3),V 6 (pt 1 3),V 7 (pt 2 2),V 10 (iv x16),V 53 (iv (List.length a0.Clauses:Int)),V 54 (iv x16),(69,.lit false),V 75 (.fsl 1 (List.map cI x28.Lits)),V 81 (.fsl 1 (List.map cI x29.Lits))],[W 0 3 [iv a0.Vars,.fsl 2 (List.map c_S_api_Clause a0.Clauses),.fsl 1 (List.map cI a0.Order)],W 1 3 [iv x9.1.Vars,.fsl 2 (List.map c_S_api_Clause x9.1.Clauses),.fsl 1 (List.map cI x9.1.Order)],W 2 2 [iv x9.2.Err,iv x9.2.At]],3⟩ ?_
    refine jK 12 (ref24_Ints_ok x28.Lits x29.Lits) ?_
    intro x30 h30
    refine jG 13 2 ⟨[V 2 (pt 0 3),V 6 (pt 1 3),V 7 (pt 2 2),V 10 (iv x16),V 53 (iv (List.length a0.Clauses:Int)),V 54 (iv x16),V 84 (bv (!x30))],[W 0 3 [iv a0.Vars,.fsl 2 (List.map c_S_api_Clause a0.Clauses),.fsl 1 (List.map cI a0.Order)],W 1 3 [iv x9.1.Vars,.fsl 2 (List.map c_S_api_Clause x9.1.Clauses),.fsl 1 (List.map cI x9.1.Order)],W 2 2 [iv x9.2.Err,iv x9.2.At]],3⟩ ?_
    refine jr_nil rfl ?_
    exact jx_mid rfl (wkR [(0,some 0),(1,some 1),(2,some 2)] (fix_nil _) (pc (hC 0) (pc (hC 1) (pc (hC 2) allp_nil))))
   intro x27
   refine jG 28 1 ⟨[V 2 (pt 0 3),V 6 (pt 1 3),V 7 (pt 2 2),V 10 (iv x16),V 53 (iv (List.length a0.Clauses:Int)),V 54 (iv x16),V 85 (bv x27)],[W 0 3 [iv a0.Vars,.fsl 2 (List.map c_S_api_Clause a0.Clauses),.fsl 1 (List.map cI a0.Order)],W 1 3 [iv x9.1.Vars,.fsl 2 (List.map c_S_api_Clause x9.1.Clauses),.fsl 1 (List.map cI x9.1.Order)],W 2 2 [iv x9.2.Err,iv x9.2.At]],3⟩ ?_
   refine jr_bind 29 8 (fun x32=>⟨[V 2 (pt 0 3),V 6 (pt 1 3),V 7 (pt 2 2),V 53 (iv (List.length a0.Clauses:Int)),V 54 (iv x16),V 93 (bv x32)],[W 0 3 [iv a0.Vars,.fsl 2 (List.map c_S_api_Clause a0.Clauses),.fsl 1 (List.map cI a0.Order)],W 1 3 [iv x9.1.Vars,.fsl 2 (List.map c_S_api_Clause x9.1.Clauses),.fsl 1 (List.map cI x9.1.Order)],W 2 2 [iv x9.2.Err,iv x9.2.At]],3⟩) ?_ ?_
   ·refine jSp 85 ?_ ?_
    ·refine jG 0 8 ⟨[V 2 (pt 0 3),V 6 (pt 1 3),V 7 (pt 2 2),V 53 (iv (List.length a0.Clauses:Int)),V 54 (iv x16),V 93 (bv true)],[W 0 3 [iv a0.Vars,.fsl 2 (List.map c_S_api_Clause a0.Clauses),.fsl 1 (List.map cI a0.Order)],W 1 3 [iv x9.1.Vars,.fsl 2 (List.map c_S_api_Clause x9.1.Clauses),.fsl 1 (List.map cI x9.1.Order)],W 2 2 [iv x9.2.Err,iv x9.2.At]],3⟩ ?_
     refine jr_nil rfl ?_
     exact jx_mid rfl (wkR [(0,some 0),(1,some 1),(2,some 2)] (fix_nil _) (pc (hC 0) (pc (hC 1) (pc (hC 2) allp_nil))))
    refine jG 0 3 ⟨[V 2 (pt 0 3),V 6 (pt 1 3),V 7 (pt 2 2),V 53 (iv (List.length a0.Clauses:Int)),V 54 (iv x16),(85,.lit false),V 87 (.fsl 2 (List.map c_S_api_Clause x9.1.Clauses)),V 88 (iv x16)],[W 0 3 [iv a0.Vars,.fsl 2 (List.map c_S_api_Clause a0.Clauses),.fsl 1 (List.map cI a0.Order)],W 1 3 [iv x9.1.Vars,.fsl 2 (List.map c_S_api_Clause x9.1.Clauses),.fsl 1 (List.map cI x9.1.Order)],W 2 2 [iv x9.2.Err,iv x9.2.At]],3⟩ ?_
    refine jr_part (i:=3) (mo:=ixl x9.1.Clauses x16) rfl rfl rfl rfl (fun _ hc=>aop_ixf (c:=c_S_api_Clause) (sz:=2) (e:=55) (kk:=.i64) (by kernel_rfl) (by kernel_rfl) (by kernel_rfl) (by kernel_rfl) hc) (fun _=>rfl) ?_
    intro x33 h33
    refine jG 4 4 ⟨[V 2 (pt 0 3),V 6 (pt 1 3),V 7 (pt 2 2),V 53 (iv (List.length a0.Clauses:Int)),V 54 (iv x16),V 93 (bv (x33.Tag != 0))],[W 0 3 [iv a0.Vars,.fsl 2 (List.map c_S_api_Clause a0.Clauses),.fsl 1 (List.map cI a0.Order)],W 1 3 [iv x9.1.Vars,.fsl 2 (List.map c_S_api_Clause x9.1.Clauses),.fsl 1 (List.map cI x9.1.Order)],W 2 2 [iv x9.2.Err,iv x9.2.At]],3⟩ ?_
    refine jr_nil rfl ?_
    exact jx_mid rfl (wkR [(0,some 0),(1,some 1),(2,some 2)] (fix_nil _) (pc (hC 0) (pc (hC 1) (pc (hC 2) allp_nil))))
   intro x32
   refine jN ?_
   refine jIf ?_ ?_
   ·refine jS ⟨[V 4 (bv false)],[],3⟩ ?_
    refine jc_ret ?_
    refine jx_blkR ?_
    refine jx_seqR ?_
    exact jx_done rfl nofun (wkR [] (fix_nil _) allp_nil)
   refine jc_skip ?_
   refine jx_blkN ?_
   refine jx_seqN ?_
   refine jT ⟨[V 2 (pt 0 3),V 6 (pt 1 3),V 7 (pt 2 2),V 53 (iv (List.length a0.Clauses:Int)),V 54 (iv (w64 (x16 + 1)))],[W 0 3 [iv a0.Vars,.fsl 2 (List.map c_S_api_Clause a0.Clauses),.fsl 1 (List.map cI a0.Order)],W 1 3 [iv x9.1.Vars,.fsl 2 (List.map c_S_api_Clause x9.1.Clauses),.fsl 1 (List.map cI x9.1.Order)],W 2 2 [iv x9.2.Err,iv x9.2.At]],3⟩ ?_
   exact jx_next (wkR [(0,some 0),(1,some 1),(2,some 2)] (fix_nil _) (pc (hC 0) (pc (hC 1) (pc (hC 2) allp_nil))))
  refine jc_exit ?_
  refine jx_seqE ?_
  exact jx_done rfl nofun (wkR [(0,some 0),(1,some 1),(2,some 2)] (fix_nil _) (pc (hC 0) (pc (hC 1) (pc (hC 2) allp_nil))))
 rintro (_ | _)
 ·refine jx_blkR ?_
  refine jx_seqR ?_
  exact jx_retF (.inr rfl) (v:=bv false) (by kernel_rfl) rfl (fle_refl _)
 refine jx_blkE ?_
 refine jx_seqN ?_
 refine jR ?_
 refine jG 0 11 ⟨[V 2 (pt 0 3),V 6 (pt 1 3),V 105 (bv (((x9.2.Err == 0) && (x9.2.At == 0)) && (x9.1.Vars == a0.Vars)))],[W 0 3 [iv a0.Vars,.fsl 2 (List.map c_S_api_Clause a0.Clauses),.fsl 1 (List.map cI a0.Order)],W 1 3 [iv x9.1.Vars,.fsl 2 (List.map c_S_api_Clause x9.1.Clauses),.fsl 1 (List.map cI x9.1.Order)]],3⟩ ?_
 refine jr_bind 11 6 (fun x35=>⟨[V 111 (bv x35)],[],0⟩) ?_ ?_
 ·refine jSp 105 ?_ ?_
  ·refine jG 0 4 ⟨[(105,.lit true),V 107 (.fsl 1 (List.map cI x9.1.Order)),V 109 (.fsl 1 (List.map cI a0.Order))],[],3⟩ ?_
   refine jK 4 (ref24_Ints_ok x9.1.Order a0.Order) ?_
   intro x36 h36
   refine jG 5 1 ⟨[V 111 (bv x36)],[],3⟩ ?_
   refine jr_nil rfl ?_
   exact jx_mid rfl (wkR [] (fix_nil _) allp_nil)
  refine jG 0 6 ⟨[V 111 (bv false)],[],3⟩ ?_
  refine jr_nil rfl ?_
  exact jx_mid rfl (wkR [] (fix_nil _) allp_nil)
 intro x35
 refine jG 17 1 ⟨[V 112 (bv x35)],[],0⟩ ?_
 refine jr_bind 18 2 (fun x38=>⟨[V 114 (bv x38)],[],0⟩) ?_ ?_
 ·refine jSp 112 ?_ ?_
  ·refine jK 0 (law24_awake_ok) ?_
   intro x39 h39
   refine jG 1 1 ⟨[V 114 (bv x39)],[],0⟩ ?_
   refine jr_nil rfl ?_
   exact jx_mid rfl (wkR [] (fix_nil _) allp_nil)
  refine jG 0 2 ⟨[V 114 (bv false)],[],0⟩ ?_
  refine jr_nil rfl ?_
  exact jx_mid rfl (wkR [] (fix_nil _) allp_nil)
 intro x38
 refine jG 20 1 ⟨[V 4 (bv x38)],[],0⟩ ?_
 refine jN ?_
 refine jc_ret ?_
 exact jx_retF (.inr rfl) (v:=bv x38) (by kernel_rfl) rfl (fle_refl _))
end Go.Vm

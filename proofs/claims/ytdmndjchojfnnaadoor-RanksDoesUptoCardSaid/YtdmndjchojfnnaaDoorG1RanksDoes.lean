/- The law RanksDoes, a part of its proof: what the functions that it reaches compute. -/
import Derived.Test.YtdmndjchojfnnaaDoorG0RanksDoes
import Derived.Test.YtdmndjchojfnnaaDoorW07RanksDoes
set_option maxRecDepth 100000
set_option maxHeartbeats 0
set_option linter.unusedVariables false
set_option linter.unusedSimpArgs false
namespace Go.Vm
open Go
abbrev ref07_Meet_r1:List LO:=[lo 4 (.assign (.const (.slice none 0 0))) 22]
abbrev ref07_Meet_r2:List LO:=[lm 5 0 22,lm 6 1 22,lo 7 (.call ⟨.value (.func 51),#[.tmp 5,.tmp 6,.const (.bool false),.const (.bool true),.const (.bool false)],#[22,22,4,4,4]⟩) 22,lo 4 (.assign (.tmp 7)) 22]
abbrev ref07_Meet_c:LC:=.seq (.reg false ref07_Meet_r1) (.seq (.reg false ref07_Meet_r2) .ret)
theorem ref07_Meet_k:FnOk E 25 8 [.tmp 4] ref07_Meet_c:=⟨⟨Go.Proofs.Tryd.f25,by kernel_rfl,by kernel_rfl,by kernel_rfl,by kernel_rfl,by kernel_rfl⟩,rfl,rfl⟩
noncomputable def ref07_Meet (a0:(List S_api_Span)) (a1:(List S_api_Span)):Option ((List S_api_Span)):=Option.bind (ref07_both a0 a1 false true false) (fun x1=>some x1)
theorem ref07_Meet_ok (a0:(List S_api_Span)) (a1:(List S_api_Span)):Ct E 25 [.fsl 2 (List.map c_S_api_Span a0),.fsl 2 (List.map c_S_api_Span a1)] (ref07_Meet a0 a1) (fun r:(List S_api_Span)=>.fsl 2 (List.map c_S_api_Span r)):=ct_intro (N:=8) (L:=ref07_Meet_c) ref07_Meet_k rfl (Nat.le_of_ble_eq_true rfl) (by kernel_rfl) (by
 unfold ref07_Meet
 refine jS ⟨[V 0 (.fsl 2 (List.map c_S_api_Span a0)),V 1 (.fsl 2 (List.map c_S_api_Span a1))],[],0⟩ ?_
 refine jR ?_
 refine jG 0 2 ⟨[V 5 (.fsl 2 (List.map c_S_api_Span a0)),V 6 (.fsl 2 (List.map c_S_api_Span a1))],[],0⟩ ?_
 refine jK 2 (ref07_both_ok a0 a1 false true false) ?_
 intro x1 h1
 refine jG 3 1 ⟨[V 4 (.fsl 2 (List.map c_S_api_Span x1))],[],0⟩ ?_
 refine jN ?_
 refine jc_ret ?_
 exact jx_retF (.inr rfl) (v:=.fsl 2 (List.map c_S_api_Span x1)) (by kernel_rfl) rfl (fle_refl _))
abbrev ref07_Minus_r1:List LO:=[lo 4 (.assign (.const (.slice none 0 0))) 22]
abbrev ref07_Minus_r2:List LO:=[lm 5 0 22,lm 6 1 22,lo 7 (.call ⟨.value (.func 51),#[.tmp 5,.tmp 6,.const (.bool true),.const (.bool false),.const (.bool false)],#[22,22,4,4,4]⟩) 22,lo 4 (.assign (.tmp 7)) 22]
abbrev ref07_Minus_c:LC:=.seq (.reg false ref07_Minus_r1) (.seq (.reg false ref07_Minus_r2) .ret)
theorem ref07_Minus_k:FnOk E 26 8 [.tmp 4] ref07_Minus_c:=⟨⟨Go.Proofs.Tryd.f26,by kernel_rfl,by kernel_rfl,by kernel_rfl,by kernel_rfl,by kernel_rfl⟩,rfl,rfl⟩
noncomputable def ref07_Minus (a0:(List S_api_Span)) (a1:(List S_api_Span)):Option ((List S_api_Span)):=Option.bind (ref07_both a0 a1 true false false) (fun x1=>some x1)
theorem ref07_Minus_ok (a0:(List S_api_Span)) (a1:(List S_api_Span)):Ct E 26 [.fsl 2 (List.map c_S_api_Span a0),.fsl 2 (List.map c_S_api_Span a1)] (ref07_Minus a0 a1) (fun r:(List S_api_Span)=>.fsl 2 (List.map c_S_api_Span r)):=ct_intro (N:=8) (L:=ref07_Minus_c) ref07_Minus_k rfl (Nat.le_of_ble_eq_true rfl) (by kernel_rfl) (by
 unfold ref07_Minus
 refine jS ⟨[V 0 (.fsl 2 (List.map c_S_api_Span a0)),V 1 (.fsl 2 (List.map c_S_api_Span a1))],[],0⟩ ?_
 refine jR ?_
 refine jG 0 2 ⟨[V 5 (.fsl 2 (List.map c_S_api_Span a0)),V 6 (.fsl 2 (List.map c_S_api_Span a1))],[],0⟩ ?_
 refine jK 2 (ref07_both_ok a0 a1 true false false) ?_
 intro x1 h1
 refine jG 3 1 ⟨[V 4 (.fsl 2 (List.map c_S_api_Span x1))],[],0⟩ ?_
 refine jN ?_
 refine jc_ret ?_
 exact jx_retF (.inr rfl) (v:=.fsl 2 (List.map c_S_api_Span x1)) (by kernel_rfl) rfl (fle_refl _))
abbrev ref07_Not_r1:List LO:=[lo 4 (.assign (.const (.slice none 0 0))) 22]
abbrev ref07_Not_r2:List LO:=[lm 5 0 3,lo 6 (.call ⟨.value (.func 21),#[.tmp 5],#[3]⟩) 22,lm 7 1 22,lo 8 (.call ⟨.value (.func 26),#[.tmp 6,.tmp 7],#[22,22]⟩) 22,lo 4 (.assign (.tmp 8)) 22]
abbrev ref07_Not_c:LC:=.seq (.reg false ref07_Not_r1) (.seq (.reg false ref07_Not_r2) .ret)
theorem ref07_Not_k:FnOk E 27 9 [.tmp 4] ref07_Not_c:=⟨⟨Go.Proofs.Tryd.f27,by kernel_rfl,by kernel_rfl,by kernel_rfl,by kernel_rfl,by kernel_rfl⟩,rfl,rfl⟩
noncomputable def ref07_Not (a0:Int) (a1:(List S_api_Span)):Option ((List S_api_Span)):=Option.bind (ref07_All a0) (fun x1=>Option.bind (ref07_Minus x1 a1) (fun x2=>some x2))
theorem ref07_Not_ok (a0:Int) (a1:(List S_api_Span)):Ct E 27 [iv a0,.fsl 2 (List.map c_S_api_Span a1)] (ref07_Not a0 a1) (fun r:(List S_api_Span)=>.fsl 2 (List.map c_S_api_Span r)):=ct_intro (N:=9) (L:=ref07_Not_c) ref07_Not_k rfl (Nat.le_of_ble_eq_true rfl) (by kernel_rfl) (by
 unfold ref07_Not
 refine jS ⟨[V 0 (iv a0),V 1 (.fsl 2 (List.map c_S_api_Span a1))],[],0⟩ ?_
 refine jR ?_
 refine jG 0 1 ⟨[V 1 (.fsl 2 (List.map c_S_api_Span a1)),V 5 (iv a0)],[],0⟩ ?_
 refine jK 1 (ref07_All_ok a0) ?_
 intro x1 h1
 refine jG 2 1 ⟨[V 6 (.fsl 2 (List.map c_S_api_Span x1)),V 7 (.fsl 2 (List.map c_S_api_Span a1))],[],0⟩ ?_
 refine jK 3 (ref07_Minus_ok x1 a1) ?_
 intro x2 h2
 refine jG 4 1 ⟨[V 4 (.fsl 2 (List.map c_S_api_Span x2))],[],0⟩ ?_
 refine jN ?_
 refine jc_ret ?_
 exact jx_retF (.inr rfl) (v:=.fsl 2 (List.map c_S_api_Span x2)) (by kernel_rfl) rfl (fle_refl _))
abbrev ref07_Count_r1:List LO:=[lo 2 (.assign (.const (.int .i64 0))) 3]
abbrev ref07_Count_r2:List LO:=[lm 3 0 22,lo 4 (.call ⟨.value (.func 32),#[.tmp 3],#[22]⟩) 31,lo 5 (.call ⟨.builtin .len,#[.tmp 4],#[31]⟩) 3,lo 2 (.assign (.tmp 5)) 3]
abbrev ref07_Count_c:LC:=.seq (.reg false ref07_Count_r1) (.seq (.reg false ref07_Count_r2) .ret)
theorem ref07_Count_k:FnOk E 34 6 [.tmp 2] ref07_Count_c:=⟨⟨Go.Proofs.Tryd.f34,by kernel_rfl,by kernel_rfl,by kernel_rfl,by kernel_rfl,by kernel_rfl⟩,rfl,rfl⟩
noncomputable def ref07_Count (a0:(List S_api_Span)):Option (Int):=Option.bind (ref07_List a0) (fun x1=>some (List.length x1:Int))
theorem ref07_Count_ok (a0:(List S_api_Span)):Ct E 34 [.fsl 2 (List.map c_S_api_Span a0)] (ref07_Count a0) (fun r:Int=>iv r):=ct_intro (N:=6) (L:=ref07_Count_c) ref07_Count_k rfl (Nat.le_of_ble_eq_true rfl) (by kernel_rfl) (by
 unfold ref07_Count
 refine jS ⟨[V 0 (.fsl 2 (List.map c_S_api_Span a0))],[],0⟩ ?_
 refine jR ?_
 refine jG 0 1 ⟨[V 3 (.fsl 2 (List.map c_S_api_Span a0))],[],0⟩ ?_
 refine jK 1 (ref07_List_ok a0) ?_
 intro x1 h1
 refine jG 2 2 ⟨[V 2 (iv (List.length (List.map cI x1):Int))],[],0⟩ ?_
 simp only[List.length_map]
 refine jN ?_
 refine jc_ret ?_
 exact jx_retF (.inr rfl) (v:=iv (List.length x1:Int)) (by kernel_rfl) rfl (fle_refl _))
abbrev ref07_Within_r1:List LO:=[lo 4 (.assign (.const (.bool false))) 4]
abbrev ref07_Within_r2:List LO:=[lm 5 0 22,lm 6 1 22,lo 7 (.call ⟨.value (.func 26),#[.tmp 5,.tmp 6],#[22,22]⟩) 22,lo 8 (.call ⟨.builtin .len,#[.tmp 7],#[22]⟩) 3,lo 9 (.binOp .eql 3 (.tmp 8) (.const (.int .i64 0)) 3) 4,lo 4 (.assign (.tmp 9)) 4]
abbrev ref07_Within_c:LC:=.seq (.reg false ref07_Within_r1) (.seq (.reg false ref07_Within_r2) .ret)
theorem ref07_Within_k:FnOk E 36 10 [.tmp 4] ref07_Within_c:=⟨⟨Go.Proofs.Tryd.f36,by kernel_rfl,by kernel_rfl,by kernel_rfl,by kernel_rfl,by kernel_rfl⟩,rfl,rfl⟩
noncomputable def ref07_Within (a0:(List S_api_Span)) (a1:(List S_api_Span)):Option (Bool):=Option.bind (ref07_Minus a0 a1) (fun x1=>some ((List.length x1:Int) == 0))
theorem ref07_Within_ok (a0:(List S_api_Span)) (a1:(List S_api_Span)):Ct E 36 [.fsl 2 (List.map c_S_api_Span a0),.fsl 2 (List.map c_S_api_Span a1)] (ref07_Within a0 a1) (fun r:Bool=>bv r):=ct_intro (N:=10) (L:=ref07_Within_c) ref07_Within_k rfl (Nat.le_of_ble_eq_true rfl) (by kernel_rfl) (by
 unfold ref07_Within
 refine jS ⟨[V 0 (.fsl 2 (List.map c_S_api_Span a0)),V 1 (.fsl 2 (List.map c_S_api_Span a1))],[],0⟩ ?_
 refine jR ?_
 refine jG 0 2 ⟨[V 5 (.fsl 2 (List.map c_S_api_Span a0)),V 6 (.fsl 2 (List.map c_S_api_Span a1))],[],0⟩ ?_
 refine jK 2 (ref07_Minus_ok a0 a1) ?_
 intro x1 h1
 refine jG 3 3 ⟨[V 4 (bv ((List.length (List.map c_S_api_Span x1):Int) == 0))],[],0⟩ ?_
 simp only[List.length_map]
 refine jN ?_
 refine jc_ret ?_
 exact jx_retF (.inr rfl) (v:=bv ((List.length x1:Int) == 0)) (by kernel_rfl) rfl (fle_refl _))
abbrev ranks_Text_r1:List LO:=[lo 2 (.assign (.const (.string ⟨#[]⟩))) 9]
abbrev ranks_Text_r2:List LO:=[lm 7 0 22,lo 8 (.call ⟨.builtin .len,#[.tmp 7],#[22]⟩) 3,lo 9 (.binOp .eql 3 (.tmp 8) (.const (.int .i64 0)) 3) 4]
abbrev ranks_Text_r3:List LO:=[lo 2 (.assign (.const (.string ⟨#[110,111,110,101]⟩))) 9]
abbrev ranks_Text_r4:List LO:=[lo 3 (.assign (.const (.slice none 0 0))) 57]
abbrev ranks_Text_r5:List LO:=[lm 10 0 22,lo 11 (.call ⟨.builtin .len,#[.tmp 10],#[22]⟩) 3,lo 12 (.move (.const (.int .i64 0))) 3]
abbrev ranks_Text_r6:List LO:=[lo 13 (.binOp .lss 3 (.tmp 12) (.tmp 11) 3) 0]
abbrev ranks_Text_r7:List LO:=[lo 14 (.indexAddr 22 (.tmp 10) (.tmp 12)) 0,lo 15 (.load 45 (.tmp 14)) 45,lo 5 (.alloc 45) 0,ln (.store 45 (.tmp 5) (.tmp 15)) 0]
abbrev ranks_Text_r8:List LO:=[lo 16 (.fieldAddr 45 (.tmp 5) 0) 0,lo 17 (.load 3 (.tmp 16)) 3,lo 18 (.call ⟨.value (.func 54),#[.tmp 17],#[3]⟩) 9,lo 6 (.assign (.tmp 18)) 9]
abbrev ranks_Text_r9:List LO:=[lo 19 (.fieldAddr 45 (.tmp 5) 1) 0,lo 20 (.load 3 (.tmp 19)) 3,lo 21 (.fieldAddr 45 (.tmp 5) 0) 0,lo 22 (.load 3 (.tmp 21)) 3,lo 23 (.binOp .sub 3 (.tmp 20) (.tmp 22) 3) 3,lo 24 (.binOp .gtr 3 (.tmp 23) (.const (.int .i64 1)) 3) 4]
abbrev ranks_Text_r10:List LO:=[lm 25 6 9,lo 26 (.fieldAddr 45 (.tmp 5) 1) 0,lo 27 (.load 3 (.tmp 26)) 3,lo 28 (.binOp .sub 3 (.tmp 27) (.const (.int .i64 1)) 3) 3,lo 29 (.call ⟨.value (.func 54),#[.tmp 28],#[3]⟩) 9,lo 30 (.binOp .add 9 (.const (.string ⟨#[45]⟩)) (.tmp 29) 9) 9,lo 31 (.binOp .add 9 (.tmp 25) (.tmp 30) 9) 9,lo 6 (.assign (.tmp 31)) 9]
abbrev ranks_Text_r11:List LO:=[lm 32 3 57,lm 33 6 9,lo 34 (.buildSlice 57 1 #[(0,.tmp 33)]) 57,lo 35 (.call ⟨.builtin .append,#[.tmp 32,.tmp 34],#[57,57]⟩) 57,lo 3 (.assign (.tmp 35)) 57]
abbrev ranks_Text_r12:List LO:=[lo 36 (.binOp .add 3 (.tmp 12) (.const (.int .i64 1)) 3) 3,lm 12 36 3]
abbrev ranks_Text_r13:List LO:=[lm 37 3 57,lo 38 (.call ⟨.value (.func 55),#[.tmp 37,.const (.string ⟨#[44]⟩)],#[57,9]⟩) 9,lo 2 (.assign (.tmp 38)) 9]
abbrev ranks_Text_c:LC:=.seq (.reg false ranks_Text_r1) (.seq (.seq (.reg false ranks_Text_r2) (.cond (.tmp 9) (.seq (.reg false ranks_Text_r3) .ret) .skip)) (.seq (.reg false ranks_Text_r4) (.seq (.seq (.reg false ranks_Text_r5) (.block 0 (.loop (.seq (.reg false ranks_Text_r6) (.seq (.cond (.tmp 13) .skip (.exit 0)) (.seq (.block 1 (.seq (.reg false ranks_Text_r7) (.seq (.reg false ranks_Text_r8) (.seq (.seq (.reg false ranks_Text_r9) (.cond (.tmp 24) (.reg false ranks_Text_r10) .skip)) (.reg false ranks_Text_r11))))) (.reg false ranks_Text_r12))))))) (.seq (.reg false ranks_Text_r13) .ret))))
theorem ranks_Text_k:FnOk E 37 39 [.tmp 2] ranks_Text_c:=⟨⟨Go.Proofs.Tryd.f37,by kernel_rfl,by kernel_rfl,by kernel_rfl,by kernel_rfl,by kernel_rfl⟩,rfl,rfl⟩
noncomputable def ranks_Text_l1 (a0:(List S_api_Span)):(List Str × Int)→Option (Step (List Str × Int) (List Str)):=fun (x8,x9)=>(if (decide (x9 < (List.length a0:Int)))=true then Option.bind (ixl a0 x9) (fun x20=>Option.bind (strconv_Itoa x20.Lo) (fun x21=>Option.bind ((if (decide ((w64 (x20.Hi - x20.Lo)) > 1))=true then Option.bind (strconv_Itoa (w64 (x20.Hi - 1))) (fun x26=>Option.bind (cat [45] x26) (fun x27=>Option.bind (cat x21 x27) (fun x28=>some x28))) else some x21):Option (Str)) (fun x25=>Option.bind (app 16 x8 [x25]) (fun x29=>some (Step.next (x29,(w64 (x9 + 1)))))))) else some (Step.done x8))
noncomputable def ranks_Text (a0:(List S_api_Span)):Option (Str):=(if ((List.length a0:Int) == 0)=true then some [110,111,110,101] else Option.bind (loopC (ranks_Text_l1 a0) ([],0)) (fun x19=>Option.bind (strings_Join x19 [44]) (fun x30=>some x30)))
theorem ranks_Text_ok (a0:(List S_api_Span)):Ct E 37 [.fsl 2 (List.map c_S_api_Span a0)] (ranks_Text a0) (fun r:Str=>bs r):=ct_intro (N:=39) (L:=ranks_Text_c) ranks_Text_k rfl (Nat.le_of_ble_eq_true rfl) (by kernel_rfl) (by
 unfold ranks_Text
 refine jS ⟨[V 0 (.fsl 2 (List.map c_S_api_Span a0))],[],0⟩ ?_
 refine jc_seq ?_
 refine jR ?_
 refine jG 0 3 ⟨[V 0 (.fsl 2 (List.map c_S_api_Span a0)),V 9 (bv ((List.length (List.map c_S_api_Span a0):Int) == 0))],[],0⟩ ?_
 simp only[List.length_map]
 refine jN ?_
 refine jIf ?_ ?_
 ·refine jS ⟨[V 2 (bs [110,111,110,101])],[],0⟩ ?_
  refine jc_ret ?_
  refine jx_seqR ?_
  exact jx_retF (.inr rfl) (v:=bs [110,111,110,101]) (by kernel_rfl) rfl (fle_refl _)
 refine jc_skip ?_
 refine jx_seqN ?_
 refine jS ⟨[V 0 (.fsl 2 (List.map c_S_api_Span a0)),V 3 (nilS)],[],0⟩ ?_
 refine jc_seq ?_
 refine jR ?_
 refine jG 0 3 ⟨[V 3 (nilS),V 10 (.fsl 2 (List.map c_S_api_Span a0)),V 11 (iv (List.length (List.map c_S_api_Span a0):Int)),V 12 (iv 0)],[],0⟩ ?_
 simp only[List.length_map]
 refine jN ?_
 refine jc_block ?_
 refine jc_bind (fun x19=>⟨[V 3 (.osl 0 0 (List.length x19) 1)],[(0,.rows 1 (List.map cS x19))],1⟩) (fun x19=>(.exit 0)) (jc_loop (fun (x8,x9)=>⟨[V 3 (.osl 0 0 (List.length x8) 1),V 10 (.fsl 2 (List.map c_S_api_Span a0)),V 11 (iv (List.length a0:Int)),V 12 (iv x9)],[(0,.rows 1 (List.map cS x8))],1⟩) (wkR [(0,none)] (fix_nil _) (pc hZ allp_nil)) ?_) ?_
 ·rintro⟨x8,x9⟩
  unfold ranks_Text_l1
  refine jS ⟨[V 3 (.osl 0 0 (List.length x8) 1),V 10 (.fsl 2 (List.map c_S_api_Span a0)),V 11 (iv (List.length a0:Int)),V 12 (iv x9),V 13 (bv (decide (x9 < (List.length a0:Int))))],[(0,.rows 1 (List.map cS x8))],1⟩ ?_
  refine jc_seq ?_
  refine jIf ?_ ?_
  ·refine jc_skip ?_
   refine jx_seqN ?_
   refine jc_seq ?_
   refine jc_block ?_
   refine jR ?_
   refine jr_part (i:=0) (mo:=ixl a0 x9) rfl rfl rfl rfl (fun _ hc=>aop_ixf (c:=c_S_api_Span) (sz:=2) (e:=45) (kk:=.i64) (by kernel_rfl) (by kernel_rfl) (by kernel_rfl) (by kernel_rfl) hc) (fun _=>rfl) ?_
   intro x20 h20
   refine jG 1 3 ⟨[V 3 (.osl 0 0 (List.length x8) 1),V 5 (pt 1 2),V 10 (.fsl 2 (List.map c_S_api_Span a0)),V 11 (iv (List.length a0:Int)),V 12 (iv x9)],[(0,.rows 1 (List.map cS x8)),W 1 2 [iv x20.Lo,iv x20.Hi]],2⟩ ?_
   refine jN ?_
   refine jR ?_
   refine jG 0 2 ⟨[V 3 (.osl 0 0 (List.length x8) 1),V 5 (pt 1 2),V 10 (.fsl 2 (List.map c_S_api_Span a0)),V 11 (iv (List.length a0:Int)),V 12 (iv x9),V 17 (iv x20.Lo)],[(0,.rows 1 (List.map cS x8)),W 1 2 [iv x20.Lo,iv x20.Hi]],2⟩ ?_
   refine jr_callPF (i:=2) rfl rfl (vs:=[iv x20.Lo]) (by kernel_rfl) rfl (strconv_Itoa_ok x20.Lo) (fun _=>rfl) ?_
   intro x21 h21
   refine jG 3 1 ⟨[V 3 (.osl 0 0 (List.length x8) 1),V 5 (pt 1 2),V 6 (bs x21),V 10 (.fsl 2 (List.map c_S_api_Span a0)),V 11 (iv (List.length a0:Int)),V 12 (iv x9)],[(0,.rows 1 (List.map cS x8)),W 1 2 [iv x20.Lo,iv x20.Hi]],2⟩ ?_
   refine jN ?_
   refine jc_seq ?_
   refine jc_bind (fun x25=>⟨[V 3 (.osl 0 0 (List.length x8) 1),V 6 (bs x25),V 10 (.fsl 2 (List.map c_S_api_Span a0)),V 11 (iv (List.length a0:Int)),V 12 (iv x9)],[(0,.rows 1 (List.map cS x8))],1⟩) (fun x25=>.normal) ?_ ?_
   ·refine jS ⟨[V 3 (.osl 0 0 (List.length x8) 1),V 5 (pt 1 2),V 6 (bs x21),V 10 (.fsl 2 (List.map c_S_api_Span a0)),V 11 (iv (List.length a0:Int)),V 12 (iv x9),V 24 (bv (decide ((w64 (x20.Hi - x20.Lo)) > 1)))],[(0,.rows 1 (List.map cS x8)),W 1 2 [iv x20.Lo,iv x20.Hi]],2⟩ ?_
    refine jIf ?_ ?_
    ·refine jc_reg ?_
     refine jG 0 4 ⟨[V 3 (.osl 0 0 (List.length x8) 1),V 10 (.fsl 2 (List.map c_S_api_Span a0)),V 11 (iv (List.length a0:Int)),V 12 (iv x9),V 25 (bs x21),V 28 (iv (w64 (x20.Hi - 1)))],[(0,.rows 1 (List.map cS x8))],2⟩ ?_
     refine jr_callPF (i:=4) rfl rfl (vs:=[iv (w64 (x20.Hi - 1))]) (by kernel_rfl) rfl (strconv_Itoa_ok (w64 (x20.Hi - 1))) (fun _=>rfl) ?_
     intro x26 h26
     refine jr_part (i:=5) (mo:=cat [45] x26) rfl rfl rfl rfl (fun _ hc=>aop_cat (by kernel_rfl) (by kernel_rfl) hc) (fun _=>rfl) ?_
     intro x27 h27
     refine jr_part (i:=6) (mo:=cat x21 x27) rfl rfl rfl rfl (fun _ hc=>aop_cat (by kernel_rfl) (by kernel_rfl) hc) (fun _=>rfl) ?_
     intro x28 h28
     refine jG 7 1 ⟨[V 3 (.osl 0 0 (List.length x8) 1),V 6 (bs x28),V 10 (.fsl 2 (List.map c_S_api_Span a0)),V 11 (iv (List.length a0:Int)),V 12 (iv x9)],[(0,.rows 1 (List.map cS x8))],2⟩ ?_
     refine jr_nil rfl ?_
     exact jx_mid rfl (wkR [(0,some 0)] (fix_nil _) (pc (hL 0 (noid_map ni_S _)) allp_nil))
    refine jc_skip ?_
    exact jx_mid rfl (wkR [(0,some 0)] (fix_nil _) (pc (hL 0 (noid_map ni_S _)) allp_nil))
   intro x25
   refine jx_seqN ?_
   refine jc_reg ?_
   refine jG 0 3 ⟨[V 10 (.fsl 2 (List.map c_S_api_Span a0)),V 11 (iv (List.length a0:Int)),V 12 (iv x9),V 32 (.osl 0 0 (List.length x8) 1),V 34 (.osl 1 0 (List.length [x25]) 1)],[(0,.rows 1 (List.map cS x8)),(1,.rows 1 (List.map cS [x25]))],2⟩ ?_
   refine jr_part (i:=3) (mo:=app 16 x8 [x25]) rfl rfl rfl rfl (fun _ hc=>aop_app (u:=.osl 0 0 (List.length x8) 1) (w:=.osl 1 0 (List.length [x25]) 1) (e:=9) (td:=.slice 9) (by kernel_rfl) (by kernel_rfl) (by kernel_rfl) (by kernel_rfl) (.inl ⟨_,rfl⟩) (appendOf_own (c:=cS) (sz:=1) (b:=16) (id:=0) (by kernel_rfl) (by kernel_rfl) (rows_own (by kernel_rfl)) (List.cons_ne_nil _ _) hc)) (fun _=>rfl) ?_
   intro x29 h29
   refine jG 4 1 ⟨[V 3 (.osl 2 0 (List.length x29) 1),V 10 (.fsl 2 (List.map c_S_api_Span a0)),V 11 (iv (List.length a0:Int)),V 12 (iv x9)],[(2,.rows 1 (List.map cS x29))],3⟩ ?_
   refine jr_nil rfl ?_
   refine jx_blkN ?_
   refine jx_seqN ?_
   refine jT ⟨[V 3 (.osl 2 0 (List.length x29) 1),V 10 (.fsl 2 (List.map c_S_api_Span a0)),V 11 (iv (List.length a0:Int)),V 12 (iv (w64 (x9 + 1)))],[(2,.rows 1 (List.map cS x29))],3⟩ ?_
   exact jx_next (wkR [(0,some 2)] (fix_nil _) (pc (hL 2 (noid_map ni_S _)) allp_nil))
  refine jc_exit ?_
  refine jx_seqE ?_
  exact jx_done rfl nofun (wkR [(0,some 0)] (fix_nil _) (pc (hL 0 (noid_map ni_S _)) allp_nil))
 intro x19
 refine jx_blkE ?_
 refine jx_seqN ?_
 refine jR ?_
 refine jG 0 1 ⟨[V 37 (.osl 0 0 (List.length x19) 1)],[(0,.rows 1 (List.map cS x19))],1⟩ ?_
 refine jr_callF (i:=1) rfl rfl rfl rfl (vs:=[.osl 0 0 (List.length x19) 1,bs [44]]) (by kernel_rfl) (snapL_cons (snapc_own fz_S (by kernel_rfl)) (snapL_cons rfl (snapL_nil _))) (all2_cons (fle_refl _) (all2_cons (fle_refl _) all2_nil)) (strings_Join_ok x19 [44]) (fun _=>rfl) (fun _=>rfl) ?_
 intro x30 h30
 refine jG 2 1 ⟨[V 2 (bs x30)],[],1⟩ ?_
 refine jN ?_
 refine jc_ret ?_
 exact jx_retF (.inr rfl) (v:=bs x30) (by kernel_rfl) rfl (fle_refl _))
abbrev ref07_Text_r1:List LO:=[lo 2 (.assign (.const (.string ⟨#[]⟩))) 9]
abbrev ref07_Text_r2:List LO:=[lm 5 0 22,lo 6 (.call ⟨.builtin .len,#[.tmp 5],#[22]⟩) 3,lo 7 (.binOp .eql 3 (.tmp 6) (.const (.int .i64 0)) 3) 4]
abbrev ref07_Text_r3:List LO:=[lo 2 (.assign (.const (.string ⟨#[110,111,110,101]⟩))) 9]
abbrev ref07_Text_r4:List LO:=[lo 3 (.assign (.const (.string ⟨#[]⟩))) 9]
abbrev ref07_Text_r5:List LO:=[lo 4 (.assign (.const (.int .i64 0))) 3]
abbrev ref07_Text_r6:List LO:=[lm 8 4 3,lm 9 0 22,lo 10 (.call ⟨.builtin .len,#[.tmp 9],#[22]⟩) 3,lo 11 (.binOp .lss 3 (.tmp 8) (.tmp 10) 3) 4]
abbrev ref07_Text_r7:List LO:=[lm 14 4 3,lo 15 (.binOp .gtr 3 (.tmp 14) (.const (.int .i64 0)) 3) 4]
abbrev ref07_Text_r8:List LO:=[lm 16 3 9,lo 17 (.binOp .add 9 (.tmp 16) (.const (.string ⟨#[44]⟩)) 9) 9,lo 3 (.assign (.tmp 17)) 9]
abbrev ref07_Text_r9:List LO:=[lm 18 3 9,lm 19 0 22,lm 20 4 3,lo 21 (.indexAddr 22 (.tmp 19) (.tmp 20)) 0,lo 22 (.fieldAddr 45 (.tmp 21) 0) 0,lo 23 (.load 3 (.tmp 22)) 3,lo 24 (.call ⟨.value (.func 54),#[.tmp 23],#[3]⟩) 9,lo 25 (.binOp .add 9 (.tmp 18) (.tmp 24) 9) 9,lo 3 (.assign (.tmp 25)) 9]
abbrev ref07_Text_r10:List LO:=[lm 26 0 22,lm 27 4 3,lo 28 (.indexAddr 22 (.tmp 26) (.tmp 27)) 0,lo 29 (.fieldAddr 45 (.tmp 28) 1) 0,lo 30 (.load 3 (.tmp 29)) 3,lm 31 0 22,lm 32 4 3,lo 33 (.indexAddr 22 (.tmp 31) (.tmp 32)) 0,lo 34 (.fieldAddr 45 (.tmp 33) 0) 0,lo 35 (.load 3 (.tmp 34)) 3,lo 36 (.binOp .add 3 (.tmp 35) (.const (.int .i64 1)) 3) 3,lo 37 (.binOp .gtr 3 (.tmp 30) (.tmp 36) 3) 4]
abbrev ref07_Text_r11:List LO:=[lm 38 3 9,lo 39 (.binOp .add 9 (.tmp 38) (.const (.string ⟨#[45]⟩)) 9) 9,lm 40 0 22,lm 41 4 3,lo 42 (.indexAddr 22 (.tmp 40) (.tmp 41)) 0,lo 43 (.fieldAddr 45 (.tmp 42) 1) 0,lo 44 (.load 3 (.tmp 43)) 3,lo 45 (.binOp .sub 3 (.tmp 44) (.const (.int .i64 1)) 3) 3,lo 46 (.call ⟨.value (.func 54),#[.tmp 45],#[3]⟩) 9,lo 47 (.binOp .add 9 (.tmp 39) (.tmp 46) 9) 9,lo 3 (.assign (.tmp 47)) 9]
abbrev ref07_Text_r12:List LO:=[lm 12 4 3,lo 13 (.binOp .add 3 (.tmp 12) (.const (.int .i64 1)) 3) 3,lo 4 (.assign (.tmp 13)) 3]
abbrev ref07_Text_r13:List LO:=[lm 48 3 9,lo 2 (.assign (.tmp 48)) 9]
abbrev ref07_Text_c:LC:=.seq (.reg false ref07_Text_r1) (.seq (.seq (.reg false ref07_Text_r2) (.cond (.tmp 7) (.seq (.reg false ref07_Text_r3) .ret) .skip)) (.seq (.reg false ref07_Text_r4) (.seq (.seq (.reg false ref07_Text_r5) (.block 0 (.loop (.seq (.seq (.reg false ref07_Text_r6) (.cond (.tmp 11) .skip (.exit 0))) (.seq (.block 1 (.seq (.seq (.reg false ref07_Text_r7) (.cond (.tmp 15) (.reg false ref07_Text_r8) .skip)) (.seq (.reg false ref07_Text_r9) (.seq (.reg true ref07_Text_r10) (.cond (.tmp 37) (.reg false ref07_Text_r11) .skip))))) (.reg false ref07_Text_r12)))))) (.seq (.reg false ref07_Text_r13) .ret))))
theorem ref07_Text_k:FnOk E 38 49 [.tmp 2] ref07_Text_c:=⟨⟨Go.Proofs.Tryd.f38,by kernel_rfl,by kernel_rfl,by kernel_rfl,by kernel_rfl,by kernel_rfl⟩,rfl,rfl⟩
noncomputable def ref07_Text_l1 (a0:(List S_api_Span)):(Str × Int)→Option (Step (Str × Int) (Str)):=fun (x11,x12)=>(if (decide (x12 < (List.length a0:Int)))=true then Option.bind (Option.bind ((if (decide (x12 > 0))=true then Option.bind (cat x11 [44]) (fun x42=>some x42) else some x11):Option (Str)) (fun x41=>Option.bind (ixl a0 x12) (fun x43=>Option.bind (strconv_Itoa x43.Lo) (fun x44=>Option.bind (cat x41 x44) (fun x45=>Option.bind (ixl a0 x12) (fun x46=>Option.bind (ixl a0 x12) (fun x47=>(if (decide (x46.Hi > (w64 (x47.Lo + 1))))=true then Option.bind (cat x45 [45]) (fun x48=>Option.bind (ixl a0 x12) (fun x49=>Option.bind (strconv_Itoa (w64 (x49.Hi - 1))) (fun x50=>Option.bind (cat x48 x50) (fun x51=>some x51)))) else some x45))))))):Option (Str)) (fun x39=>some (Step.next (x39,(w64 (x12 + 1))))) else some (Step.done x11))
noncomputable def ref07_Text (a0:(List S_api_Span)):Option (Str):=(if ((List.length a0:Int) == 0)=true then some [110,111,110,101] else Option.bind (loopC (ref07_Text_l1 a0) ([],0)) (fun x27=>some x27))
theorem ref07_Text_ok (a0:(List S_api_Span)):Ct E 38 [.fsl 2 (List.map c_S_api_Span a0)] (ref07_Text a0) (fun r:Str=>bs r):=ct_intro (N:=49) (L:=ref07_Text_c) ref07_Text_k rfl (Nat.le_of_ble_eq_true rfl) (by kernel_rfl) (by
 unfold ref07_Text
 refine jS ⟨[V 0 (.fsl 2 (List.map c_S_api_Span a0))],[],0⟩ ?_
 refine jc_seq ?_
 refine jR ?_
 refine jG 0 3 ⟨[V 0 (.fsl 2 (List.map c_S_api_Span a0)),V 7 (bv ((List.length (List.map c_S_api_Span a0):Int) == 0))],[],0⟩ ?_
 simp only[List.length_map]
 refine jN ?_
 refine jIf ?_ ?_
 ·refine jS ⟨[V 2 (bs [110,111,110,101])],[],0⟩ ?_
  refine jc_ret ?_
  refine jx_seqR ?_
  exact jx_retF (.inr rfl) (v:=bs [110,111,110,101]) (by kernel_rfl) rfl (fle_refl _)
 refine jc_skip ?_
 refine jx_seqN ?_
 refine jS ⟨[V 0 (.fsl 2 (List.map c_S_api_Span a0)),V 3 (bs [])],[],0⟩ ?_
 refine jc_seq ?_
 refine jS ⟨[V 0 (.fsl 2 (List.map c_S_api_Span a0)),V 3 (bs []),V 4 (iv 0)],[],0⟩ ?_
 refine jc_block ?_
 refine jc_bind (fun x27=>⟨[V 3 (bs x27)],[],0⟩) (fun x27=>(.exit 0)) (jc_loop (fun (x11,x12)=>⟨[V 0 (.fsl 2 (List.map c_S_api_Span a0)),V 3 (bs x11),V 4 (iv x12)],[],0⟩) (wkR [] (fix_nil _) allp_nil) ?_) ?_
 ·rintro⟨x11,x12⟩
  unfold ref07_Text_l1
  refine jc_seq ?_
  refine jR ?_
  refine jG 0 4 ⟨[V 0 (.fsl 2 (List.map c_S_api_Span a0)),V 3 (bs x11),V 4 (iv x12),V 11 (bv (decide (x12 < (List.length (List.map c_S_api_Span a0):Int))))],[],0⟩ ?_
  simp only[List.length_map]
  refine jN ?_
  refine jIf ?_ ?_
  ·refine jc_skip ?_
   refine jx_seqN ?_
   refine jc_seq ?_
   refine jc_bind (fun x39=>⟨[V 0 (.fsl 2 (List.map c_S_api_Span a0)),V 3 (bs x39),V 4 (iv x12)],[],0⟩) (fun x39=>.normal) ?_ ?_
   ·refine jc_block ?_
    refine jc_seq ?_
    refine jc_bind (fun x41=>⟨[V 0 (.fsl 2 (List.map c_S_api_Span a0)),V 3 (bs x41),V 4 (iv x12)],[],0⟩) (fun x41=>.normal) ?_ ?_
    ·refine jS ⟨[V 0 (.fsl 2 (List.map c_S_api_Span a0)),V 3 (bs x11),V 4 (iv x12),V 15 (bv (decide (x12 > 0)))],[],0⟩ ?_
     refine jIf ?_ ?_
     ·refine jc_reg ?_
      refine jG 0 1 ⟨[V 0 (.fsl 2 (List.map c_S_api_Span a0)),V 4 (iv x12),V 16 (bs x11)],[],0⟩ ?_
      refine jr_part (i:=1) (mo:=cat x11 [44]) rfl rfl rfl rfl (fun _ hc=>aop_cat (by kernel_rfl) (by kernel_rfl) hc) (fun _=>rfl) ?_
      intro x42 h42
      refine jG 2 1 ⟨[V 0 (.fsl 2 (List.map c_S_api_Span a0)),V 3 (bs x42),V 4 (iv x12)],[],0⟩ ?_
      refine jr_nil rfl ?_
      exact jx_mid rfl (wkR [] (fix_nil _) allp_nil)
     refine jc_skip ?_
     exact jx_mid rfl (wkR [] (fix_nil _) allp_nil)
    intro x41
    refine jx_seqN ?_
    refine jR ?_
    refine jG 0 3 ⟨[V 0 (.fsl 2 (List.map c_S_api_Span a0)),V 4 (iv x12),V 18 (bs x41),V 19 (.fsl 2 (List.map c_S_api_Span a0)),V 20 (iv x12)],[],0⟩ ?_
    refine jr_part (i:=3) (mo:=ixl a0 x12) rfl rfl rfl rfl (fun _ hc=>aop_ixf (c:=c_S_api_Span) (sz:=2) (e:=45) (kk:=.i64) (by kernel_rfl) (by kernel_rfl) (by kernel_rfl) (by kernel_rfl) hc) (fun _=>rfl) ?_
    intro x43 h43
    refine jG 4 2 ⟨[V 0 (.fsl 2 (List.map c_S_api_Span a0)),V 4 (iv x12),V 18 (bs x41),V 23 (iv x43.Lo)],[],0⟩ ?_
    refine jr_callPF (i:=6) rfl rfl (vs:=[iv x43.Lo]) (by kernel_rfl) rfl (strconv_Itoa_ok x43.Lo) (fun _=>rfl) ?_
    intro x44 h44
    refine jr_part (i:=7) (mo:=cat x41 x44) rfl rfl rfl rfl (fun _ hc=>aop_cat (by kernel_rfl) (by kernel_rfl) hc) (fun _=>rfl) ?_
    intro x45 h45
    refine jG 8 1 ⟨[V 0 (.fsl 2 (List.map c_S_api_Span a0)),V 3 (bs x45),V 4 (iv x12)],[],0⟩ ?_
    refine jN ?_
    refine jR ?_
    refine jG 0 2 ⟨[V 0 (.fsl 2 (List.map c_S_api_Span a0)),V 3 (bs x45),V 4 (iv x12),V 26 (.fsl 2 (List.map c_S_api_Span a0)),V 27 (iv x12)],[],0⟩ ?_
    refine jr_part (i:=2) (mo:=ixl a0 x12) rfl rfl rfl rfl (fun _ hc=>aop_ixf (c:=c_S_api_Span) (sz:=2) (e:=45) (kk:=.i64) (by kernel_rfl) (by kernel_rfl) (by kernel_rfl) (by kernel_rfl) hc) (fun _=>rfl) ?_
    intro x46 h46
    refine jG 3 4 ⟨[V 0 (.fsl 2 (List.map c_S_api_Span a0)),V 3 (bs x45),V 4 (iv x12),V 30 (iv x46.Hi),V 31 (.fsl 2 (List.map c_S_api_Span a0)),V 32 (iv x12)],[],0⟩ ?_
    refine jr_part (i:=7) (mo:=ixl a0 x12) rfl rfl rfl rfl (fun _ hc=>aop_ixf (c:=c_S_api_Span) (sz:=2) (e:=45) (kk:=.i64) (by kernel_rfl) (by kernel_rfl) (by kernel_rfl) (by kernel_rfl) hc) (fun _=>rfl) ?_
    intro x47 h47
    refine jG 8 4 ⟨[V 0 (.fsl 2 (List.map c_S_api_Span a0)),V 3 (bs x45),V 4 (iv x12),V 37 (bv (decide (x46.Hi > (w64 (x47.Lo + 1)))))],[],0⟩ ?_
    refine jN ?_
    refine jIf ?_ ?_
    ·refine jc_reg ?_
     refine jG 0 1 ⟨[V 0 (.fsl 2 (List.map c_S_api_Span a0)),V 4 (iv x12),V 38 (bs x45)],[],0⟩ ?_
     refine jr_part (i:=1) (mo:=cat x45 [45]) rfl rfl rfl rfl (fun _ hc=>aop_cat (by kernel_rfl) (by kernel_rfl) hc) (fun _=>rfl) ?_
     intro x48 h48
     refine jG 2 2 ⟨[V 0 (.fsl 2 (List.map c_S_api_Span a0)),V 4 (iv x12),V 39 (bs x48),V 40 (.fsl 2 (List.map c_S_api_Span a0)),V 41 (iv x12)],[],0⟩ ?_
     refine jr_part (i:=4) (mo:=ixl a0 x12) rfl rfl rfl rfl (fun _ hc=>aop_ixf (c:=c_S_api_Span) (sz:=2) (e:=45) (kk:=.i64) (by kernel_rfl) (by kernel_rfl) (by kernel_rfl) (by kernel_rfl) hc) (fun _=>rfl) ?_
     intro x49 h49
     refine jG 5 3 ⟨[V 0 (.fsl 2 (List.map c_S_api_Span a0)),V 4 (iv x12),V 39 (bs x48),V 45 (iv (w64 (x49.Hi - 1)))],[],0⟩ ?_
     refine jr_callPF (i:=8) rfl rfl (vs:=[iv (w64 (x49.Hi - 1))]) (by kernel_rfl) rfl (strconv_Itoa_ok (w64 (x49.Hi - 1))) (fun _=>rfl) ?_
     intro x50 h50
     refine jr_part (i:=9) (mo:=cat x48 x50) rfl rfl rfl rfl (fun _ hc=>aop_cat (by kernel_rfl) (by kernel_rfl) hc) (fun _=>rfl) ?_
     intro x51 h51
     refine jG 10 1 ⟨[V 0 (.fsl 2 (List.map c_S_api_Span a0)),V 3 (bs x51),V 4 (iv x12)],[],0⟩ ?_
     refine jr_nil rfl ?_
     refine jx_blkN ?_
     exact jx_mid rfl (wkR [] (fix_nil _) allp_nil)
    refine jc_skip ?_
    refine jx_blkN ?_
    exact jx_mid rfl (wkR [] (fix_nil _) allp_nil)
   intro x39
   refine jx_seqN ?_
   refine jT ⟨[V 0 (.fsl 2 (List.map c_S_api_Span a0)),V 3 (bs x39),V 4 (iv (w64 (x12 + 1)))],[],0⟩ ?_
   exact jx_next (wkR [] (fix_nil _) allp_nil)
  refine jc_exit ?_
  refine jx_seqE ?_
  exact jx_done rfl nofun (wkR [] (fix_nil _) allp_nil)
 intro x27
 refine jx_blkE ?_
 refine jx_seqN ?_
 refine jS ⟨[V 2 (bs x27)],[],0⟩ ?_
 refine jc_ret ?_
 exact jx_retF (.inr rfl) (v:=bs x27) (by kernel_rfl) rfl (fle_refl _))
abbrev law07_RanksDoes_r1:List LO:=[lo 8 (.assign (.const (.bool false))) 4]
abbrev law07_RanksDoes_r2:List LO:=[lm 12 0 3,lm 13 1 22,lo 14 (.call ⟨.value (.func 7),#[.tmp 12,.tmp 13],#[3,22]⟩) 4,lo 15 (.unOp .not 4 (.tmp 14)) 4,lm 16 15 4,lmg 17 0 3 16 false,lmg 18 2 22 16 false,lg 19 (.call ⟨.value (.func 7),#[.tmp 17,.tmp 18],#[3,22]⟩) 4 16 false,lg 20 (.unOp .not 4 (.tmp 19)) 4 16 false,lo 21 (.pick (.tmp 16) (.const (.bool true)) (.tmp 20)) 4]
abbrev law07_RanksDoes_r3:List LO:=[lm 22 1 22,lm 23 2 22,lo 24 (.call ⟨.value (.func 22),#[.tmp 22,.tmp 23],#[22,22]⟩) 4,lm 25 1 22,lm 26 2 22,lo 27 (.call ⟨.value (.func 13),#[.tmp 25,.tmp 26],#[22,22]⟩) 4,lo 28 (.binOp .eql 4 (.tmp 24) (.tmp 27) 4) 4,lm 29 28 4,lg 30 (.call ⟨.value (.func 8),#[],#[]⟩) 4 29 true,lo 31 (.pick (.tmp 29) (.tmp 30) (.const (.bool false))) 4,lo 8 (.assign (.tmp 31)) 4]
abbrev law07_RanksDoes_r4:List LO:=[lm 32 1 22,lo 33 (.call ⟨.value (.func 23),#[.tmp 32],#[22]⟩) 22,lm 34 2 22,lo 35 (.call ⟨.value (.func 23),#[.tmp 34],#[22]⟩) 22,lo 9 (.assign (.tmp 33)) 22,lo 10 (.assign (.tmp 35)) 22]
abbrev law07_RanksDoes_r5:List LO:=[lm 36 9 22,lm 37 10 22,lo 38 (.call ⟨.value (.func 9),#[.tmp 36,.tmp 37],#[22,22]⟩) 22,lm 39 1 22,lm 40 2 22,lo 41 (.call ⟨.value (.func 24),#[.tmp 39,.tmp 40],#[22,22]⟩) 22,lo 42 (.call ⟨.value (.func 13),#[.tmp 38,.tmp 41],#[22,22]⟩) 4,lm 43 42 4,lmg 44 9 22 43 true,lmg 45 10 22 43 true,lg 46 (.call ⟨.value (.func 10),#[.tmp 44,.tmp 45],#[22,22]⟩) 22 43 true,lmg 47 1 22 43 true,lmg 48 2 22 43 true,lg 49 (.call ⟨.value (.func 25),#[.tmp 47,.tmp 48],#[22,22]⟩) 22 43 true,lg 50 (.call ⟨.value (.func 13),#[.tmp 46,.tmp 49],#[22,22]⟩) 4 43 true,lo 51 (.pick (.tmp 43) (.tmp 50) (.const (.bool false))) 4,lm 52 51 4,lmg 53 9 22 52 true,lmg 54 10 22 52 true,lg 55 (.call ⟨.value (.func 15),#[.tmp 53,.tmp 54],#[22,22]⟩) 22 52 true,lmg 56 1 22 52 true,lmg 57 2 22 52 true,lg 58 (.call ⟨.value (.func 26),#[.tmp 56,.tmp 57],#[22,22]⟩) 22 52 true,lg 59 (.call ⟨.value (.func 13),#[.tmp 55,.tmp 58],#[22,22]⟩) 4 52 true,lo 60 (.pick (.tmp 52) (.tmp 59) (.const (.bool false))) 4,lm 61 60 4,lmg 62 0 3 61 true,lmg 63 9 22 61 true,lg 64 (.call ⟨.value (.func 12),#[.tmp 62,.tmp 63],#[3,22]⟩) 22 61 true,lmg 65 0 3 61 true,lmg 66 1 22 61 true,lg 67 (.call ⟨.value (.func 27),#[.tmp 65,.tmp 66],#[3,22]⟩) 22 61 true,lg 68 (.call ⟨.value (.func 13),#[.tmp 64,.tmp 67],#[22,22]⟩) 4 61 true,lo 69 (.pick (.tmp 61) (.tmp 68) (.const (.bool false))) 4,lm 70 69 4,lmg 71 9 22 70 true,lmg 72 3 3 70 true,lg 73 (.call ⟨.value (.func 28),#[.tmp 71,.tmp 72],#[22,3]⟩) 4 70 true,lmg 74 1 22 70 true,lmg 75 3 3 70 true,lg 76 (.call ⟨.value (.func 29),#[.tmp 74,.tmp 75],#[22,3]⟩) 4 70 true,lg 77 (.binOp .eql 4 (.tmp 73) (.tmp 76) 4) 4 70 true,lo 78 (.pick (.tmp 70) (.tmp 77) (.const (.bool false))) 4,lm 79 78 4,lmg 80 9 22 79 true,lg 81 (.call ⟨.value (.func 31),#[.tmp 80],#[22]⟩) 31 79 true,lmg 82 1 22 79 true,lg 83 (.call ⟨.value (.func 32),#[.tmp 82],#[22]⟩) 31 79 true,lg 84 (.call ⟨.value (.func 30),#[.tmp 81,.tmp 83],#[31,31]⟩) 4 79 true,lo 85 (.pick (.tmp 79) (.tmp 84) (.const (.bool false))) 4,lm 86 85 4,lmg 87 9 22 86 true,lg 88 (.call ⟨.value (.func 33),#[.tmp 87],#[22]⟩) 3 86 true,lmg 89 1 22 86 true,lg 90 (.call ⟨.value (.func 34),#[.tmp 89],#[22]⟩) 3 86 true,lg 91 (.binOp .eql 3 (.tmp 88) (.tmp 90) 3) 4 86 true,lo 92 (.pick (.tmp 86) (.tmp 91) (.const (.bool false))) 4,lm 93 92 4,lmg 94 9 22 93 true,lmg 95 10 22 93 true,lg 96 (.call ⟨.value (.func 35),#[.tmp 94,.tmp 95],#[22,22]⟩) 4 93 true,lmg 97 1 22 93 true,lmg 98 2 22 93 true,lg 99 (.call ⟨.value (.func 36),#[.tmp 97,.tmp 98],#[22,22]⟩) 4 93 true,lg 100 (.binOp .eql 4 (.tmp 96) (.tmp 99) 4) 4 93 true,lo 101 (.pick (.tmp 93) (.tmp 100) (.const (.bool false))) 4,lm 102 101 4,lmg 103 9 22 102 true,lmg 104 10 22 102 true,lg 105 (.call ⟨.value (.func 22),#[.tmp 103,.tmp 104],#[22,22]⟩) 4 102 true,lmg 106 1 22 102 true,lmg 107 2 22 102 true,lg 108 (.call ⟨.value (.func 13),#[.tmp 106,.tmp 107],#[22,22]⟩) 4 102 true,lg 109 (.binOp .eql 4 (.tmp 105) (.tmp 108) 4) 4 102 true,lo 110 (.pick (.tmp 102) (.tmp 109) (.const (.bool false))) 4,lm 111 110 4,lmg 112 9 22 111 true,lg 113 (.call ⟨.value (.func 37),#[.tmp 112],#[22]⟩) 9 111 true,lmg 114 1 22 111 true,lg 115 (.call ⟨.value (.func 38),#[.tmp 114],#[22]⟩) 9 111 true,lg 116 (.binOp .eql 9 (.tmp 113) (.tmp 115) 9) 4 111 true,lo 117 (.pick (.tmp 111) (.tmp 116) (.const (.bool false))) 4,lo 11 (.assign (.tmp 117)) 4]
abbrev law07_RanksDoes_r6:List LO:=[lm 118 11 4,lm 119 118 4,lmg 120 9 22 119 true,lmg 121 1 22 119 true,lg 122 (.call ⟨.value (.func 13),#[.tmp 120,.tmp 121],#[22,22]⟩) 4 119 true,lo 123 (.pick (.tmp 119) (.tmp 122) (.const (.bool false))) 4,lm 124 123 4,lmg 125 10 22 124 true,lmg 126 2 22 124 true,lg 127 (.call ⟨.value (.func 13),#[.tmp 125,.tmp 126],#[22,22]⟩) 4 124 true,lo 128 (.pick (.tmp 124) (.tmp 127) (.const (.bool false))) 4,lm 129 128 4,lg 130 (.call ⟨.value (.func 8),#[],#[]⟩) 4 129 true,lo 131 (.pick (.tmp 129) (.tmp 130) (.const (.bool false))) 4,lo 8 (.assign (.tmp 131)) 4]
abbrev law07_RanksDoes_c:LC:=.seq (.reg false law07_RanksDoes_r1) (.seq (.seq (.reg false law07_RanksDoes_r2) (.cond (.tmp 21) (.seq (.reg false law07_RanksDoes_r3) .ret) .skip)) (.seq (.reg false law07_RanksDoes_r4) (.seq (.reg false law07_RanksDoes_r5) (.seq (.reg false law07_RanksDoes_r6) .ret))))
theorem law07_RanksDoes_k:FnOk E 5 132 [.tmp 8] law07_RanksDoes_c:=⟨⟨Go.Proofs.Tryd.f5,by kernel_rfl,by kernel_rfl,by kernel_rfl,by kernel_rfl,by kernel_rfl⟩,rfl,rfl⟩
noncomputable def law07_RanksDoes (a0:Int) (a1:(List S_api_Span)) (a2:(List S_api_Span)) (a3:Int):Option (Bool):=Option.bind (ref07_Fit a0 a1) (fun x1=>Option.bind (if (!x1)=true then some true else Option.bind (ref07_Fit a0 a2) (fun x4=>some (!x4)):Option (Bool)) (fun x3=>(if x3=true then Option.bind (ranks_Same a1 a2) (fun x5=>Option.bind (ref07_Same a1 a2) (fun x6=>Option.bind (if (x5 == x6)=true then Option.bind (law07_awake) (fun x9=>some x9) else some false:Option (Bool)) (fun x8=>some x8))) else Option.bind (law07_copied a1) (fun x10=>Option.bind (law07_copied a2) (fun x11=>Option.bind (ranks_Union x10 x11) (fun x12=>Option.bind (ref07_Union a1 a2) (fun x13=>Option.bind (ref07_Same x12 x13) (fun x14=>Option.bind (if x14=true then Option.bind (ranks_Meet x10 x11) (fun x19=>Option.bind (ref07_Meet a1 a2) (fun x20=>Option.bind (ref07_Same x19 x20) (fun x21=>some x21))) else some false:Option (Bool)) (fun x18=>Option.bind (if x18=true then Option.bind (ranks_Minus x10 x11) (fun x26=>Option.bind (ref07_Minus a1 a2) (fun x27=>Option.bind (ref07_Same x26 x27) (fun x28=>some x28))) else some false:Option (Bool)) (fun x25=>Option.bind (if x25=true then Option.bind (ranks_Not a0 x10) (fun x33=>Option.bind (ref07_Not a0 a1) (fun x34=>Option.bind (ref07_Same x33 x34) (fun x35=>some x35))) else some false:Option (Bool)) (fun x32=>Option.bind (if x32=true then Option.bind (ranks_Has x10 a3) (fun x39=>Option.bind (ref07_Has a1 a3) (fun x40=>some (x39 == x40))) else some false:Option (Bool)) (fun x38=>Option.bind (if x38=true then Option.bind (ranks_List x10) (fun x45=>Option.bind (ref07_List a1) (fun x46=>Option.bind (law07_ints x45 x46) (fun x47=>some x47))) else some false:Option (Bool)) (fun x44=>Option.bind (if x44=true then Option.bind (ranks_Count x10) (fun x51=>Option.bind (ref07_Count a1) (fun x52=>some (x51 == x52))) else some false:Option (Bool)) (fun x50=>Option.bind (if x50=true then Option.bind (ranks_Within x10 x11) (fun x56=>Option.bind (ref07_Within a1 a2) (fun x57=>some (x56 == x57))) else some false:Option (Bool)) (fun x55=>Option.bind (if x55=true then Option.bind (ranks_Same x10 x11) (fun x61=>Option.bind (ref07_Same a1 a2) (fun x62=>some (x61 == x62))) else some false:Option (Bool)) (fun x60=>Option.bind (if x60=true then Option.bind (ranks_Text x10) (fun x66=>Option.bind (ref07_Text a1) (fun x67=>some (x66 == x67))) else some false:Option (Bool)) (fun x65=>Option.bind (if x65=true then Option.bind (ref07_Same x10 a1) (fun x70=>some x70) else some false:Option (Bool)) (fun x69=>Option.bind (if x69=true then Option.bind (ref07_Same x11 a2) (fun x73=>some x73) else some false:Option (Bool)) (fun x72=>Option.bind (if x72=true then Option.bind (law07_awake) (fun x76=>some x76) else some false:Option (Bool)) (fun x75=>some x75))))))))))))))))))))
theorem law07_RanksDoes_ok (a0:Int) (a1:(List S_api_Span)) (a2:(List S_api_Span)) (a3:Int):Ct E 5 [iv a0,.fsl 2 (List.map c_S_api_Span a1),.fsl 2 (List.map c_S_api_Span a2),iv a3] (law07_RanksDoes a0 a1 a2 a3) (fun r:Bool=>bv r):=ct_intro (N:=132) (L:=law07_RanksDoes_c) law07_RanksDoes_k rfl (Nat.le_of_ble_eq_true rfl) (by kernel_rfl) (by
 unfold law07_RanksDoes
 refine jS ⟨[V 0 (iv a0),V 1 (.fsl 2 (List.map c_S_api_Span a1)),V 2 (.fsl 2 (List.map c_S_api_Span a2)),V 3 (iv a3)],[],0⟩ ?_
 refine jc_seq ?_
 refine jR ?_
 refine jG 0 2 ⟨[V 0 (iv a0),V 1 (.fsl 2 (List.map c_S_api_Span a1)),V 2 (.fsl 2 (List.map c_S_api_Span a2)),V 3 (iv a3),V 12 (iv a0),V 13 (.fsl 2 (List.map c_S_api_Span a1))],[],0⟩ ?_
 refine jK 2 (ref07_Fit_ok a0 a1) ?_
 intro x1 h1
 refine jG 3 2 ⟨[V 0 (iv a0),V 1 (.fsl 2 (List.map c_S_api_Span a1)),V 2 (.fsl 2 (List.map c_S_api_Span a2)),V 3 (iv a3),V 16 (bv (!x1))],[],0⟩ ?_
 refine jr_bind 5 5 (fun x3=>⟨[V 0 (iv a0),V 1 (.fsl 2 (List.map c_S_api_Span a1)),V 2 (.fsl 2 (List.map c_S_api_Span a2)),V 3 (iv a3),V 21 (bv x3)],[],0⟩) ?_ ?_
 ·refine jSp 16 ?_ ?_
  ·refine jG 0 5 ⟨[V 0 (iv a0),V 1 (.fsl 2 (List.map c_S_api_Span a1)),V 2 (.fsl 2 (List.map c_S_api_Span a2)),V 3 (iv a3),V 21 (bv true)],[],0⟩ ?_
   refine jr_nil rfl ?_
   exact jx_mid rfl (wkR [] (fix_nil _) allp_nil)
  refine jG 0 2 ⟨[V 0 (iv a0),V 1 (.fsl 2 (List.map c_S_api_Span a1)),V 2 (.fsl 2 (List.map c_S_api_Span a2)),V 3 (iv a3),(16,.lit false),V 17 (iv a0),V 18 (.fsl 2 (List.map c_S_api_Span a2))],[],0⟩ ?_
  refine jK 2 (ref07_Fit_ok a0 a2) ?_
  intro x4 h4
  refine jG 3 2 ⟨[V 0 (iv a0),V 1 (.fsl 2 (List.map c_S_api_Span a1)),V 2 (.fsl 2 (List.map c_S_api_Span a2)),V 3 (iv a3),V 21 (bv (!x4))],[],0⟩ ?_
  refine jr_nil rfl ?_
  exact jx_mid rfl (wkR [] (fix_nil _) allp_nil)
 intro x3
 refine jN ?_
 refine jIf ?_ ?_
 ·refine jR ?_
  refine jG 0 2 ⟨[V 1 (.fsl 2 (List.map c_S_api_Span a1)),V 2 (.fsl 2 (List.map c_S_api_Span a2)),V 22 (.fsl 2 (List.map c_S_api_Span a1)),V 23 (.fsl 2 (List.map c_S_api_Span a2))],[],0⟩ ?_
  refine jK 2 (ranks_Same_ok a1 a2) ?_
  intro x5 h5
  refine jG 3 2 ⟨[V 24 (bv x5),V 25 (.fsl 2 (List.map c_S_api_Span a1)),V 26 (.fsl 2 (List.map c_S_api_Span a2))],[],0⟩ ?_
  refine jK 5 (ref07_Same_ok a1 a2) ?_
  intro x6 h6
  refine jG 6 2 ⟨[V 29 (bv (x5 == x6))],[],0⟩ ?_
  refine jr_bind 8 2 (fun x8=>⟨[V 31 (bv x8)],[],0⟩) ?_ ?_
  ·refine jSp 29 ?_ ?_
   ·refine jK 0 (law07_awake_ok) ?_
    intro x9 h9
    refine jG 1 1 ⟨[V 31 (bv x9)],[],0⟩ ?_
    refine jr_nil rfl ?_
    exact jx_mid rfl (wkR [] (fix_nil _) allp_nil)
   refine jG 0 2 ⟨[V 31 (bv false)],[],0⟩ ?_
   refine jr_nil rfl ?_
   exact jx_mid rfl (wkR [] (fix_nil _) allp_nil)
  intro x8
  refine jG 10 1 ⟨[V 8 (bv x8)],[],0⟩ ?_
  refine jN ?_
  refine jc_ret ?_
  refine jx_seqR ?_
  exact jx_retF (.inr rfl) (v:=bv x8) (by kernel_rfl) rfl (fle_refl _)
 refine jc_skip ?_
 refine jx_seqN ?_
 refine jR ?_
 refine jG 0 1 ⟨[V 0 (iv a0),V 1 (.fsl 2 (List.map c_S_api_Span a1)),V 2 (.fsl 2 (List.map c_S_api_Span a2)),V 3 (iv a3),V 32 (.fsl 2 (List.map c_S_api_Span a1))],[],0⟩ ?_
 refine jK 1 (law07_copied_ok a1) ?_
 intro x10 h10
 refine jG 2 1 ⟨[V 0 (iv a0),V 1 (.fsl 2 (List.map c_S_api_Span a1)),V 2 (.fsl 2 (List.map c_S_api_Span a2)),V 3 (iv a3),V 33 (.fsl 2 (List.map c_S_api_Span x10)),V 34 (.fsl 2 (List.map c_S_api_Span a2))],[],0⟩ ?_
 refine jK 3 (law07_copied_ok a2) ?_
 intro x11 h11
 refine jG 4 2 ⟨[V 0 (iv a0),V 1 (.fsl 2 (List.map c_S_api_Span a1)),V 2 (.fsl 2 (List.map c_S_api_Span a2)),V 3 (iv a3),V 9 (.fsl 2 (List.map c_S_api_Span x10)),V 10 (.fsl 2 (List.map c_S_api_Span x11))],[],0⟩ ?_
 refine jN ?_
 refine jR ?_
 refine jG 0 2 ⟨[V 0 (iv a0),V 1 (.fsl 2 (List.map c_S_api_Span a1)),V 2 (.fsl 2 (List.map c_S_api_Span a2)),V 3 (iv a3),V 9 (.fsl 2 (List.map c_S_api_Span x10)),V 10 (.fsl 2 (List.map c_S_api_Span x11)),V 36 (.fsl 2 (List.map c_S_api_Span x10)),V 37 (.fsl 2 (List.map c_S_api_Span x11))],[],0⟩ ?_
 refine jK 2 (ranks_Union_ok x10 x11) ?_
 intro x12 h12
 refine jG 3 2 ⟨[V 0 (iv a0),V 1 (.fsl 2 (List.map c_S_api_Span a1)),V 2 (.fsl 2 (List.map c_S_api_Span a2)),V 3 (iv a3),V 9 (.fsl 2 (List.map c_S_api_Span x10)),V 10 (.fsl 2 (List.map c_S_api_Span x11)),V 38 (.fsl 2 (List.map c_S_api_Span x12)),V 39 (.fsl 2 (List.map c_S_api_Span a1)),V 40 (.fsl 2 (List.map c_S_api_Span a2))],[],0⟩ ?_
 refine jK 5 (ref07_Union_ok a1 a2) ?_
 intro x13 h13
 refine jK 6 (ref07_Same_ok x12 x13) ?_
 intro x14 h14
 refine jG 7 1 ⟨[V 0 (iv a0),V 1 (.fsl 2 (List.map c_S_api_Span a1)),V 2 (.fsl 2 (List.map c_S_api_Span a2)),V 3 (iv a3),V 9 (.fsl 2 (List.map c_S_api_Span x10)),V 10 (.fsl 2 (List.map c_S_api_Span x11)),V 43 (bv x14)],[],0⟩ ?_
 refine jr_bind 8 8 (fun x18=>⟨[V 0 (iv a0),V 1 (.fsl 2 (List.map c_S_api_Span a1)),V 2 (.fsl 2 (List.map c_S_api_Span a2)),V 3 (iv a3),V 9 (.fsl 2 (List.map c_S_api_Span x10)),V 10 (.fsl 2 (List.map c_S_api_Span x11)),V 51 (bv x18)],[],0⟩) ?_ ?_
 ·refine jSp 43 ?_ ?_
  ·refine jG 0 2 ⟨[V 0 (iv a0),V 1 (.fsl 2 (List.map c_S_api_Span a1)),V 2 (.fsl 2 (List.map c_S_api_Span a2)),V 3 (iv a3),V 9 (.fsl 2 (List.map c_S_api_Span x10)),V 10 (.fsl 2 (List.map c_S_api_Span x11)),(43,.lit true),V 44 (.fsl 2 (List.map c_S_api_Span x10)),V 45 (.fsl 2 (List.map c_S_api_Span x11))],[],0⟩ ?_
   refine jK 2 (ranks_Meet_ok x10 x11) ?_
   intro x19 h19
   refine jG 3 2 ⟨[V 0 (iv a0),V 1 (.fsl 2 (List.map c_S_api_Span a1)),V 2 (.fsl 2 (List.map c_S_api_Span a2)),V 3 (iv a3),V 9 (.fsl 2 (List.map c_S_api_Span x10)),V 10 (.fsl 2 (List.map c_S_api_Span x11)),(43,.lit true),V 46 (.fsl 2 (List.map c_S_api_Span x19)),V 47 (.fsl 2 (List.map c_S_api_Span a1)),V 48 (.fsl 2 (List.map c_S_api_Span a2))],[],0⟩ ?_
   refine jK 5 (ref07_Meet_ok a1 a2) ?_
   intro x20 h20
   refine jK 6 (ref07_Same_ok x19 x20) ?_
   intro x21 h21
   refine jG 7 1 ⟨[V 0 (iv a0),V 1 (.fsl 2 (List.map c_S_api_Span a1)),V 2 (.fsl 2 (List.map c_S_api_Span a2)),V 3 (iv a3),V 9 (.fsl 2 (List.map c_S_api_Span x10)),V 10 (.fsl 2 (List.map c_S_api_Span x11)),V 51 (bv x21)],[],0⟩ ?_
   refine jr_nil rfl ?_
   exact jx_mid rfl (wkR [] (fix_nil _) allp_nil)
  refine jG 0 8 ⟨[V 0 (iv a0),V 1 (.fsl 2 (List.map c_S_api_Span a1)),V 2 (.fsl 2 (List.map c_S_api_Span a2)),V 3 (iv a3),V 9 (.fsl 2 (List.map c_S_api_Span x10)),V 10 (.fsl 2 (List.map c_S_api_Span x11)),V 51 (bv false)],[],0⟩ ?_
  refine jr_nil rfl ?_
  exact jx_mid rfl (wkR [] (fix_nil _) allp_nil)
 intro x18
 refine jG 16 1 ⟨[V 0 (iv a0),V 1 (.fsl 2 (List.map c_S_api_Span a1)),V 2 (.fsl 2 (List.map c_S_api_Span a2)),V 3 (iv a3),V 9 (.fsl 2 (List.map c_S_api_Span x10)),V 10 (.fsl 2 (List.map c_S_api_Span x11)),V 52 (bv x18)],[],0⟩ ?_
 refine jr_bind 17 8 (fun x25=>⟨[V 0 (iv a0),V 1 (.fsl 2 (List.map c_S_api_Span a1)),V 2 (.fsl 2 (List.map c_S_api_Span a2)),V 3 (iv a3),V 9 (.fsl 2 (List.map c_S_api_Span x10)),V 10 (.fsl 2 (List.map c_S_api_Span x11)),V 60 (bv x25)],[],0⟩) ?_ ?_
 ·refine jSp 52 ?_ ?_
  ·refine jG 0 2 ⟨[V 0 (iv a0),V 1 (.fsl 2 (List.map c_S_api_Span a1)),V 2 (.fsl 2 (List.map c_S_api_Span a2)),V 3 (iv a3),V 9 (.fsl 2 (List.map c_S_api_Span x10)),V 10 (.fsl 2 (List.map c_S_api_Span x11)),(52,.lit true),V 53 (.fsl 2 (List.map c_S_api_Span x10)),V 54 (.fsl 2 (List.map c_S_api_Span x11))],[],0⟩ ?_
   refine jK 2 (ranks_Minus_ok x10 x11) ?_
   intro x26 h26
   refine jG 3 2 ⟨[V 0 (iv a0),V 1 (.fsl 2 (List.map c_S_api_Span a1)),V 2 (.fsl 2 (List.map c_S_api_Span a2)),V 3 (iv a3),V 9 (.fsl 2 (List.map c_S_api_Span x10)),V 10 (.fsl 2 (List.map c_S_api_Span x11)),(52,.lit true),V 55 (.fsl 2 (List.map c_S_api_Span x26)),V 56 (.fsl 2 (List.map c_S_api_Span a1)),V 57 (.fsl 2 (List.map c_S_api_Span a2))],[],0⟩ ?_
   refine jK 5 (ref07_Minus_ok a1 a2) ?_
   intro x27 h27
   refine jK 6 (ref07_Same_ok x26 x27) ?_
   intro x28 h28
   refine jG 7 1 ⟨[V 0 (iv a0),V 1 (.fsl 2 (List.map c_S_api_Span a1)),V 2 (.fsl 2 (List.map c_S_api_Span a2)),V 3 (iv a3),V 9 (.fsl 2 (List.map c_S_api_Span x10)),V 10 (.fsl 2 (List.map c_S_api_Span x11)),V 60 (bv x28)],[],0⟩ ?_
   refine jr_nil rfl ?_
   exact jx_mid rfl (wkR [] (fix_nil _) allp_nil)
  refine jG 0 8 ⟨[V 0 (iv a0),V 1 (.fsl 2 (List.map c_S_api_Span a1)),V 2 (.fsl 2 (List.map c_S_api_Span a2)),V 3 (iv a3),V 9 (.fsl 2 (List.map c_S_api_Span x10)),V 10 (.fsl 2 (List.map c_S_api_Span x11)),V 60 (bv false)],[],0⟩ ?_
  refine jr_nil rfl ?_
  exact jx_mid rfl (wkR [] (fix_nil _) allp_nil)
 intro x25
 refine jG 25 1 ⟨[V 0 (iv a0),V 1 (.fsl 2 (List.map c_S_api_Span a1)),V 2 (.fsl 2 (List.map c_S_api_Span a2)),V 3 (iv a3),V 9 (.fsl 2 (List.map c_S_api_Span x10)),V 10 (.fsl 2 (List.map c_S_api_Span x11)),V 61 (bv x25)],[],0⟩ ?_
 refine jr_bind 26 8 (fun x32=>⟨[V 1 (.fsl 2 (List.map c_S_api_Span a1)),V 2 (.fsl 2 (List.map c_S_api_Span a2)),V 3 (iv a3),V 9 (.fsl 2 (List.map c_S_api_Span x10)),V 10 (.fsl 2 (List.map c_S_api_Span x11)),V 69 (bv x32)],[],0⟩) ?_ ?_
 ·refine jSp 61 ?_ ?_
  ·refine jG 0 2 ⟨[V 0 (iv a0),V 1 (.fsl 2 (List.map c_S_api_Span a1)),V 2 (.fsl 2 (List.map c_S_api_Span a2)),V 3 (iv a3),V 9 (.fsl 2 (List.map c_S_api_Span x10)),V 10 (.fsl 2 (List.map c_S_api_Span x11)),(61,.lit true),V 62 (iv a0),V 63 (.fsl 2 (List.map c_S_api_Span x10))],[],0⟩ ?_
   refine jK 2 (ranks_Not_ok a0 x10) ?_
   intro x33 h33
   refine jG 3 2 ⟨[V 1 (.fsl 2 (List.map c_S_api_Span a1)),V 2 (.fsl 2 (List.map c_S_api_Span a2)),V 3 (iv a3),V 9 (.fsl 2 (List.map c_S_api_Span x10)),V 10 (.fsl 2 (List.map c_S_api_Span x11)),(61,.lit true),V 64 (.fsl 2 (List.map c_S_api_Span x33)),V 65 (iv a0),V 66 (.fsl 2 (List.map c_S_api_Span a1))],[],0⟩ ?_
   refine jK 5 (ref07_Not_ok a0 a1) ?_
   intro x34 h34
   refine jK 6 (ref07_Same_ok x33 x34) ?_
   intro x35 h35
   refine jG 7 1 ⟨[V 1 (.fsl 2 (List.map c_S_api_Span a1)),V 2 (.fsl 2 (List.map c_S_api_Span a2)),V 3 (iv a3),V 9 (.fsl 2 (List.map c_S_api_Span x10)),V 10 (.fsl 2 (List.map c_S_api_Span x11)),V 69 (bv x35)],[],0⟩ ?_
   refine jr_nil rfl ?_
   exact jx_mid rfl (wkR [] (fix_nil _) allp_nil)
  refine jG 0 8 ⟨[V 1 (.fsl 2 (List.map c_S_api_Span a1)),V 2 (.fsl 2 (List.map c_S_api_Span a2)),V 3 (iv a3),V 9 (.fsl 2 (List.map c_S_api_Span x10)),V 10 (.fsl 2 (List.map c_S_api_Span x11)),V 69 (bv false)],[],0⟩ ?_
  refine jr_nil rfl ?_
  exact jx_mid rfl (wkR [] (fix_nil _) allp_nil)
 intro x32
 refine jG 34 1 ⟨[V 1 (.fsl 2 (List.map c_S_api_Span a1)),V 2 (.fsl 2 (List.map c_S_api_Span a2)),V 3 (iv a3),V 9 (.fsl 2 (List.map c_S_api_Span x10)),V 10 (.fsl 2 (List.map c_S_api_Span x11)),V 70 (bv x32)],[],0⟩ ?_
 refine jr_bind 35 8 (fun x38=>⟨[V 1 (.fsl 2 (List.map c_S_api_Span a1)),V 2 (.fsl 2 (List.map c_S_api_Span a2)),V 9 (.fsl 2 (List.map c_S_api_Span x10)),V 10 (.fsl 2 (List.map c_S_api_Span x11)),V 78 (bv x38)],[],0⟩) ?_ ?_
 ·refine jSp 70 ?_ ?_
  ·refine jG 0 2 ⟨[V 1 (.fsl 2 (List.map c_S_api_Span a1)),V 2 (.fsl 2 (List.map c_S_api_Span a2)),V 3 (iv a3),V 9 (.fsl 2 (List.map c_S_api_Span x10)),V 10 (.fsl 2 (List.map c_S_api_Span x11)),(70,.lit true),V 71 (.fsl 2 (List.map c_S_api_Span x10)),V 72 (iv a3)],[],0⟩ ?_
   refine jK 2 (ranks_Has_ok x10 a3) ?_
   intro x39 h39
   refine jG 3 2 ⟨[V 1 (.fsl 2 (List.map c_S_api_Span a1)),V 2 (.fsl 2 (List.map c_S_api_Span a2)),V 9 (.fsl 2 (List.map c_S_api_Span x10)),V 10 (.fsl 2 (List.map c_S_api_Span x11)),(70,.lit true),V 73 (bv x39),V 74 (.fsl 2 (List.map c_S_api_Span a1)),V 75 (iv a3)],[],0⟩ ?_
   refine jK 5 (ref07_Has_ok a1 a3) ?_
   intro x40 h40
   refine jG 6 2 ⟨[V 1 (.fsl 2 (List.map c_S_api_Span a1)),V 2 (.fsl 2 (List.map c_S_api_Span a2)),V 9 (.fsl 2 (List.map c_S_api_Span x10)),V 10 (.fsl 2 (List.map c_S_api_Span x11)),V 78 (bv (x39 == x40))],[],0⟩ ?_
   refine jr_nil rfl ?_
   exact jx_mid rfl (wkR [] (fix_nil _) allp_nil)
  refine jG 0 8 ⟨[V 1 (.fsl 2 (List.map c_S_api_Span a1)),V 2 (.fsl 2 (List.map c_S_api_Span a2)),V 9 (.fsl 2 (List.map c_S_api_Span x10)),V 10 (.fsl 2 (List.map c_S_api_Span x11)),V 78 (bv false)],[],0⟩ ?_
  refine jr_nil rfl ?_
  exact jx_mid rfl (wkR [] (fix_nil _) allp_nil)
 intro x38
 refine jG 43 1 ⟨[V 1 (.fsl 2 (List.map c_S_api_Span a1)),V 2 (.fsl 2 (List.map c_S_api_Span a2)),V 9 (.fsl 2 (List.map c_S_api_Span x10)),V 10 (.fsl 2 (List.map c_S_api_Span x11)),V 79 (bv x38)],[],0⟩ ?_
 refine jr_bind 44 6 (fun x44=>⟨[V 1 (.fsl 2 (List.map c_S_api_Span a1)),V 2 (.fsl 2 (List.map c_S_api_Span a2)),V 9 (.fsl 2 (List.map c_S_api_Span x10)),V 10 (.fsl 2 (List.map c_S_api_Span x11)),V 85 (bv x44)],[],0⟩) ?_ ?_
 ·refine jSp 79 ?_ ?_
  ·refine jG 0 1 ⟨[V 1 (.fsl 2 (List.map c_S_api_Span a1)),V 2 (.fsl 2 (List.map c_S_api_Span a2)),V 9 (.fsl 2 (List.map c_S_api_Span x10)),V 10 (.fsl 2 (List.map c_S_api_Span x11)),(79,.lit true),V 80 (.fsl 2 (List.map c_S_api_Span x10))],[],0⟩ ?_
   refine jK 1 (ranks_List_ok x10) ?_
   intro x45 h45
   refine jG 2 1 ⟨[V 1 (.fsl 2 (List.map c_S_api_Span a1)),V 2 (.fsl 2 (List.map c_S_api_Span a2)),V 9 (.fsl 2 (List.map c_S_api_Span x10)),V 10 (.fsl 2 (List.map c_S_api_Span x11)),(79,.lit true),V 81 (.fsl 1 (List.map cI x45)),V 82 (.fsl 2 (List.map c_S_api_Span a1))],[],0⟩ ?_
   refine jK 3 (ref07_List_ok a1) ?_
   intro x46 h46
   refine jK 4 (law07_ints_ok x45 x46) ?_
   intro x47 h47
   refine jG 5 1 ⟨[V 1 (.fsl 2 (List.map c_S_api_Span a1)),V 2 (.fsl 2 (List.map c_S_api_Span a2)),V 9 (.fsl 2 (List.map c_S_api_Span x10)),V 10 (.fsl 2 (List.map c_S_api_Span x11)),V 85 (bv x47)],[],0⟩ ?_
   refine jr_nil rfl ?_
   exact jx_mid rfl (wkR [] (fix_nil _) allp_nil)
  refine jG 0 6 ⟨[V 1 (.fsl 2 (List.map c_S_api_Span a1)),V 2 (.fsl 2 (List.map c_S_api_Span a2)),V 9 (.fsl 2 (List.map c_S_api_Span x10)),V 10 (.fsl 2 (List.map c_S_api_Span x11)),V 85 (bv false)],[],0⟩ ?_
  refine jr_nil rfl ?_
  exact jx_mid rfl (wkR [] (fix_nil _) allp_nil)
 intro x44
 refine jG 50 1 ⟨[V 1 (.fsl 2 (List.map c_S_api_Span a1)),V 2 (.fsl 2 (List.map c_S_api_Span a2)),V 9 (.fsl 2 (List.map c_S_api_Span x10)),V 10 (.fsl 2 (List.map c_S_api_Span x11)),V 86 (bv x44)],[],0⟩ ?_
 refine jr_bind 51 6 (fun x50=>⟨[V 1 (.fsl 2 (List.map c_S_api_Span a1)),V 2 (.fsl 2 (List.map c_S_api_Span a2)),V 9 (.fsl 2 (List.map c_S_api_Span x10)),V 10 (.fsl 2 (List.map c_S_api_Span x11)),V 92 (bv x50)],[],0⟩) ?_ ?_
 ·refine jSp 86 ?_ ?_
  ·refine jG 0 1 ⟨[V 1 (.fsl 2 (List.map c_S_api_Span a1)),V 2 (.fsl 2 (List.map c_S_api_Span a2)),V 9 (.fsl 2 (List.map c_S_api_Span x10)),V 10 (.fsl 2 (List.map c_S_api_Span x11)),(86,.lit true),V 87 (.fsl 2 (List.map c_S_api_Span x10))],[],0⟩ ?_
   refine jK 1 (ranks_Count_ok x10) ?_
   intro x51 h51
   refine jG 2 1 ⟨[V 1 (.fsl 2 (List.map c_S_api_Span a1)),V 2 (.fsl 2 (List.map c_S_api_Span a2)),V 9 (.fsl 2 (List.map c_S_api_Span x10)),V 10 (.fsl 2 (List.map c_S_api_Span x11)),(86,.lit true),V 88 (iv x51),V 89 (.fsl 2 (List.map c_S_api_Span a1))],[],0⟩ ?_
   refine jK 3 (ref07_Count_ok a1) ?_
   intro x52 h52
   refine jG 4 2 ⟨[V 1 (.fsl 2 (List.map c_S_api_Span a1)),V 2 (.fsl 2 (List.map c_S_api_Span a2)),V 9 (.fsl 2 (List.map c_S_api_Span x10)),V 10 (.fsl 2 (List.map c_S_api_Span x11)),V 92 (bv (x51 == x52))],[],0⟩ ?_
   refine jr_nil rfl ?_
   exact jx_mid rfl (wkR [] (fix_nil _) allp_nil)
  refine jG 0 6 ⟨[V 1 (.fsl 2 (List.map c_S_api_Span a1)),V 2 (.fsl 2 (List.map c_S_api_Span a2)),V 9 (.fsl 2 (List.map c_S_api_Span x10)),V 10 (.fsl 2 (List.map c_S_api_Span x11)),V 92 (bv false)],[],0⟩ ?_
  refine jr_nil rfl ?_
  exact jx_mid rfl (wkR [] (fix_nil _) allp_nil)
 intro x50
 refine jG 57 1 ⟨[V 1 (.fsl 2 (List.map c_S_api_Span a1)),V 2 (.fsl 2 (List.map c_S_api_Span a2)),V 9 (.fsl 2 (List.map c_S_api_Span x10)),V 10 (.fsl 2 (List.map c_S_api_Span x11)),V 93 (bv x50)],[],0⟩ ?_
 refine jr_bind 58 8 (fun x55=>⟨[V 1 (.fsl 2 (List.map c_S_api_Span a1)),V 2 (.fsl 2 (List.map c_S_api_Span a2)),V 9 (.fsl 2 (List.map c_S_api_Span x10)),V 10 (.fsl 2 (List.map c_S_api_Span x11)),V 101 (bv x55)],[],0⟩) ?_ ?_
 ·refine jSp 93 ?_ ?_
  ·refine jG 0 2 ⟨[V 1 (.fsl 2 (List.map c_S_api_Span a1)),V 2 (.fsl 2 (List.map c_S_api_Span a2)),V 9 (.fsl 2 (List.map c_S_api_Span x10)),V 10 (.fsl 2 (List.map c_S_api_Span x11)),(93,.lit true),V 94 (.fsl 2 (List.map c_S_api_Span x10)),V 95 (.fsl 2 (List.map c_S_api_Span x11))],[],0⟩ ?_
   refine jK 2 (ranks_Within_ok x10 x11) ?_
   intro x56 h56
   refine jG 3 2 ⟨[V 1 (.fsl 2 (List.map c_S_api_Span a1)),V 2 (.fsl 2 (List.map c_S_api_Span a2)),V 9 (.fsl 2 (List.map c_S_api_Span x10)),V 10 (.fsl 2 (List.map c_S_api_Span x11)),(93,.lit true),V 96 (bv x56),V 97 (.fsl 2 (List.map c_S_api_Span a1)),V 98 (.fsl 2 (List.map c_S_api_Span a2))],[],0⟩ ?_
   refine jK 5 (ref07_Within_ok a1 a2) ?_
   intro x57 h57
   refine jG 6 2 ⟨[V 1 (.fsl 2 (List.map c_S_api_Span a1)),V 2 (.fsl 2 (List.map c_S_api_Span a2)),V 9 (.fsl 2 (List.map c_S_api_Span x10)),V 10 (.fsl 2 (List.map c_S_api_Span x11)),V 101 (bv (x56 == x57))],[],0⟩ ?_
   refine jr_nil rfl ?_
   exact jx_mid rfl (wkR [] (fix_nil _) allp_nil)
  refine jG 0 8 ⟨[V 1 (.fsl 2 (List.map c_S_api_Span a1)),V 2 (.fsl 2 (List.map c_S_api_Span a2)),V 9 (.fsl 2 (List.map c_S_api_Span x10)),V 10 (.fsl 2 (List.map c_S_api_Span x11)),V 101 (bv false)],[],0⟩ ?_
  refine jr_nil rfl ?_
  exact jx_mid rfl (wkR [] (fix_nil _) allp_nil)
 intro x55
 refine jG 66 1 ⟨[V 1 (.fsl 2 (List.map c_S_api_Span a1)),V 2 (.fsl 2 (List.map c_S_api_Span a2)),V 9 (.fsl 2 (List.map c_S_api_Span x10)),V 10 (.fsl 2 (List.map c_S_api_Span x11)),V 102 (bv x55)],[],0⟩ ?_
 refine jr_bind 67 8 (fun x60=>⟨[V 1 (.fsl 2 (List.map c_S_api_Span a1)),V 2 (.fsl 2 (List.map c_S_api_Span a2)),V 9 (.fsl 2 (List.map c_S_api_Span x10)),V 10 (.fsl 2 (List.map c_S_api_Span x11)),V 110 (bv x60)],[],0⟩) ?_ ?_
 ·refine jSp 102 ?_ ?_
  ·refine jG 0 2 ⟨[V 1 (.fsl 2 (List.map c_S_api_Span a1)),V 2 (.fsl 2 (List.map c_S_api_Span a2)),V 9 (.fsl 2 (List.map c_S_api_Span x10)),V 10 (.fsl 2 (List.map c_S_api_Span x11)),(102,.lit true),V 103 (.fsl 2 (List.map c_S_api_Span x10)),V 104 (.fsl 2 (List.map c_S_api_Span x11))],[],0⟩ ?_
   refine jK 2 (ranks_Same_ok x10 x11) ?_
   intro x61 h61
   refine jG 3 2 ⟨[V 1 (.fsl 2 (List.map c_S_api_Span a1)),V 2 (.fsl 2 (List.map c_S_api_Span a2)),V 9 (.fsl 2 (List.map c_S_api_Span x10)),V 10 (.fsl 2 (List.map c_S_api_Span x11)),(102,.lit true),V 105 (bv x61),V 106 (.fsl 2 (List.map c_S_api_Span a1)),V 107 (.fsl 2 (List.map c_S_api_Span a2))],[],0⟩ ?_
   refine jK 5 (ref07_Same_ok a1 a2) ?_
   intro x62 h62
   refine jG 6 2 ⟨[V 1 (.fsl 2 (List.map c_S_api_Span a1)),V 2 (.fsl 2 (List.map c_S_api_Span a2)),V 9 (.fsl 2 (List.map c_S_api_Span x10)),V 10 (.fsl 2 (List.map c_S_api_Span x11)),V 110 (bv (x61 == x62))],[],0⟩ ?_
   refine jr_nil rfl ?_
   exact jx_mid rfl (wkR [] (fix_nil _) allp_nil)
  refine jG 0 8 ⟨[V 1 (.fsl 2 (List.map c_S_api_Span a1)),V 2 (.fsl 2 (List.map c_S_api_Span a2)),V 9 (.fsl 2 (List.map c_S_api_Span x10)),V 10 (.fsl 2 (List.map c_S_api_Span x11)),V 110 (bv false)],[],0⟩ ?_
  refine jr_nil rfl ?_
  exact jx_mid rfl (wkR [] (fix_nil _) allp_nil)
 intro x60
 refine jG 75 1 ⟨[V 1 (.fsl 2 (List.map c_S_api_Span a1)),V 2 (.fsl 2 (List.map c_S_api_Span a2)),V 9 (.fsl 2 (List.map c_S_api_Span x10)),V 10 (.fsl 2 (List.map c_S_api_Span x11)),V 111 (bv x60)],[],0⟩ ?_
 refine jr_bind 76 6 (fun x65=>⟨[V 1 (.fsl 2 (List.map c_S_api_Span a1)),V 2 (.fsl 2 (List.map c_S_api_Span a2)),V 9 (.fsl 2 (List.map c_S_api_Span x10)),V 10 (.fsl 2 (List.map c_S_api_Span x11)),V 117 (bv x65)],[],0⟩) ?_ ?_
 ·refine jSp 111 ?_ ?_
  ·refine jG 0 1 ⟨[V 1 (.fsl 2 (List.map c_S_api_Span a1)),V 2 (.fsl 2 (List.map c_S_api_Span a2)),V 9 (.fsl 2 (List.map c_S_api_Span x10)),V 10 (.fsl 2 (List.map c_S_api_Span x11)),(111,.lit true),V 112 (.fsl 2 (List.map c_S_api_Span x10))],[],0⟩ ?_
   refine jK 1 (ranks_Text_ok x10) ?_
   intro x66 h66
   refine jG 2 1 ⟨[V 1 (.fsl 2 (List.map c_S_api_Span a1)),V 2 (.fsl 2 (List.map c_S_api_Span a2)),V 9 (.fsl 2 (List.map c_S_api_Span x10)),V 10 (.fsl 2 (List.map c_S_api_Span x11)),(111,.lit true),V 113 (bs x66),V 114 (.fsl 2 (List.map c_S_api_Span a1))],[],0⟩ ?_
   refine jK 3 (ref07_Text_ok a1) ?_
   intro x67 h67
   refine jG 4 2 ⟨[V 1 (.fsl 2 (List.map c_S_api_Span a1)),V 2 (.fsl 2 (List.map c_S_api_Span a2)),V 9 (.fsl 2 (List.map c_S_api_Span x10)),V 10 (.fsl 2 (List.map c_S_api_Span x11)),V 117 (bv (x66 == x67))],[],0⟩ ?_
   refine jr_nil rfl ?_
   exact jx_mid rfl (wkR [] (fix_nil _) allp_nil)
  refine jG 0 6 ⟨[V 1 (.fsl 2 (List.map c_S_api_Span a1)),V 2 (.fsl 2 (List.map c_S_api_Span a2)),V 9 (.fsl 2 (List.map c_S_api_Span x10)),V 10 (.fsl 2 (List.map c_S_api_Span x11)),V 117 (bv false)],[],0⟩ ?_
  refine jr_nil rfl ?_
  exact jx_mid rfl (wkR [] (fix_nil _) allp_nil)
 intro x65
 refine jG 82 1 ⟨[V 1 (.fsl 2 (List.map c_S_api_Span a1)),V 2 (.fsl 2 (List.map c_S_api_Span a2)),V 9 (.fsl 2 (List.map c_S_api_Span x10)),V 10 (.fsl 2 (List.map c_S_api_Span x11)),V 11 (bv x65)],[],0⟩ ?_
 refine jN ?_
 refine jR ?_
 refine jG 0 2 ⟨[V 1 (.fsl 2 (List.map c_S_api_Span a1)),V 2 (.fsl 2 (List.map c_S_api_Span a2)),V 9 (.fsl 2 (List.map c_S_api_Span x10)),V 10 (.fsl 2 (List.map c_S_api_Span x11)),V 119 (bv x65)],[],0⟩ ?_
 refine jr_bind 2 4 (fun x69=>⟨[V 2 (.fsl 2 (List.map c_S_api_Span a2)),V 10 (.fsl 2 (List.map c_S_api_Span x11)),V 123 (bv x69)],[],0⟩) ?_ ?_
 ·refine jSp 119 ?_ ?_
  ·refine jG 0 2 ⟨[V 2 (.fsl 2 (List.map c_S_api_Span a2)),V 10 (.fsl 2 (List.map c_S_api_Span x11)),(119,.lit true),V 120 (.fsl 2 (List.map c_S_api_Span x10)),V 121 (.fsl 2 (List.map c_S_api_Span a1))],[],0⟩ ?_
   refine jK 2 (ref07_Same_ok x10 a1) ?_
   intro x70 h70
   refine jG 3 1 ⟨[V 2 (.fsl 2 (List.map c_S_api_Span a2)),V 10 (.fsl 2 (List.map c_S_api_Span x11)),V 123 (bv x70)],[],0⟩ ?_
   refine jr_nil rfl ?_
   exact jx_mid rfl (wkR [] (fix_nil _) allp_nil)
  refine jG 0 4 ⟨[V 2 (.fsl 2 (List.map c_S_api_Span a2)),V 10 (.fsl 2 (List.map c_S_api_Span x11)),V 123 (bv false)],[],0⟩ ?_
  refine jr_nil rfl ?_
  exact jx_mid rfl (wkR [] (fix_nil _) allp_nil)
 intro x69
 refine jG 6 1 ⟨[V 2 (.fsl 2 (List.map c_S_api_Span a2)),V 10 (.fsl 2 (List.map c_S_api_Span x11)),V 124 (bv x69)],[],0⟩ ?_
 refine jr_bind 7 4 (fun x72=>⟨[V 128 (bv x72)],[],0⟩) ?_ ?_
 ·refine jSp 124 ?_ ?_
  ·refine jG 0 2 ⟨[(124,.lit true),V 125 (.fsl 2 (List.map c_S_api_Span x11)),V 126 (.fsl 2 (List.map c_S_api_Span a2))],[],0⟩ ?_
   refine jK 2 (ref07_Same_ok x11 a2) ?_
   intro x73 h73
   refine jG 3 1 ⟨[V 128 (bv x73)],[],0⟩ ?_
   refine jr_nil rfl ?_
   exact jx_mid rfl (wkR [] (fix_nil _) allp_nil)
  refine jG 0 4 ⟨[V 128 (bv false)],[],0⟩ ?_
  refine jr_nil rfl ?_
  exact jx_mid rfl (wkR [] (fix_nil _) allp_nil)
 intro x72
 refine jG 11 1 ⟨[V 129 (bv x72)],[],0⟩ ?_
 refine jr_bind 12 2 (fun x75=>⟨[V 131 (bv x75)],[],0⟩) ?_ ?_
 ·refine jSp 129 ?_ ?_
  ·refine jK 0 (law07_awake_ok) ?_
   intro x76 h76
   refine jG 1 1 ⟨[V 131 (bv x76)],[],0⟩ ?_
   refine jr_nil rfl ?_
   exact jx_mid rfl (wkR [] (fix_nil _) allp_nil)
  refine jG 0 2 ⟨[V 131 (bv false)],[],0⟩ ?_
  refine jr_nil rfl ?_
  exact jx_mid rfl (wkR [] (fix_nil _) allp_nil)
 intro x75
 refine jG 14 1 ⟨[V 8 (bv x75)],[],0⟩ ?_
 refine jN ?_
 refine jc_ret ?_
 exact jx_retF (.inr rfl) (v:=bv x75) (by kernel_rfl) rfl (fle_refl _))
end Go.Vm

/- The law RupChecks, a part of its proof: what the functions that it reaches compute. -/
import Derived.Test.YteaakndjbedilaaGreatDoorG0RupChecks
import Derived.Test.YteaakndjbedilaaGreatDoorW29RupChecks
set_option linter.unusedVariables false
set_option linter.unusedSimpArgs false
set_option maxRecDepth 100000
set_option maxHeartbeats 0
set_option linter.unusedVariables false
set_option linter.unusedSimpArgs false
namespace Go.Vm
open Go
abbrev law29_RupChecks_r1:List LO:=[lo 6 (.assign (.const (.bool false))) 4]
abbrev law29_RupChecks_r2:List LO:=[lm 14 0 22,lo 15 (.call ⟨.value (.func 5),#[.tmp 14],#[22]⟩) 22,lm 16 1 22,lo 17 (.call ⟨.value (.func 5),#[.tmp 16],#[22]⟩) 22,lm 18 2 23,lm 19 2 23,lo 20 (.call ⟨.builtin .len,#[.tmp 19],#[23]⟩) 3,lo 21 (.call ⟨.builtin .min,#[.tmp 20,.const (.int .i64 30)],#[3,3]⟩) 3,lo 22 (.slice 23 (.tmp 18) none (some (.tmp 21)) none) 23,lo 7 (.assign (.tmp 15)) 22,lo 8 (.assign (.tmp 17)) 22,lo 9 (.assign (.tmp 22)) 23]
abbrev law29_RupChecks_r3:List LO:=[lm 24 7 22,lm 25 9 23,lo 26 (.call ⟨.value (.func 6),#[.tmp 24,.tmp 25],#[22,23]⟩) 25,lm 23 26 25,lo 27 (.extract (.tmp 23) 0) 23,lo 28 (.extract (.tmp 23) 1) 4,lo 10 (.assign (.tmp 27)) 23,lo 11 (.assign (.tmp 28)) 4]
abbrev law29_RupChecks_r4:List LO:=[lm 30 7 22,lm 31 9 23,lo 32 (.call ⟨.value (.func 7),#[.tmp 30,.tmp 31],#[22,23]⟩) 25,lm 29 32 25,lo 33 (.extract (.tmp 29) 0) 23,lo 34 (.extract (.tmp 29) 1) 4,lo 12 (.assign (.tmp 33)) 23,lo 13 (.assign (.tmp 34)) 4]
abbrev law29_RupChecks_r5:List LO:=[lm 35 10 23,lm 36 12 23,lo 37 (.call ⟨.value (.func 8),#[.tmp 35,.tmp 36],#[23,23]⟩) 4,lm 38 37 4,lmg 39 11 4 38 true,lmg 40 13 4 38 true,lg 41 (.binOp .eql 4 (.tmp 39) (.tmp 40) 4) 4 38 true,lo 42 (.pick (.tmp 38) (.tmp 41) (.const (.bool false))) 4,lm 43 42 4,lmg 44 7 22 43 true,lmg 45 9 23 43 true,lg 46 (.call ⟨.value (.func 9),#[.tmp 44,.tmp 45],#[22,23]⟩) 4 43 true,lmg 47 7 22 43 true,lmg 48 9 23 43 true,lg 49 (.call ⟨.value (.func 10),#[.tmp 47,.tmp 48],#[22,23]⟩) 4 43 true,lg 50 (.binOp .eql 4 (.tmp 46) (.tmp 49) 4) 4 43 true,lo 51 (.pick (.tmp 43) (.tmp 50) (.const (.bool false))) 4,lm 52 51 4,lmg 53 7 22 52 true,lmg 54 8 22 52 true,lg 55 (.call ⟨.value (.func 11),#[.tmp 53,.tmp 54],#[22,22]⟩) 3 52 true,lmg 56 7 22 52 true,lmg 57 8 22 52 true,lg 58 (.call ⟨.value (.func 12),#[.tmp 56,.tmp 57],#[22,22]⟩) 3 52 true,lg 59 (.binOp .eql 3 (.tmp 55) (.tmp 58) 3) 4 52 true,lo 60 (.pick (.tmp 52) (.tmp 59) (.const (.bool false))) 4,lm 61 60 4,lmg 62 7 22 61 true,lmg 63 8 22 61 true,lg 64 (.call ⟨.value (.func 13),#[.tmp 62,.tmp 63],#[22,22]⟩) 4 61 true,lmg 65 7 22 61 true,lmg 66 8 22 61 true,lg 67 (.call ⟨.value (.func 14),#[.tmp 65,.tmp 66],#[22,22]⟩) 4 61 true,lg 68 (.binOp .eql 4 (.tmp 64) (.tmp 67) 4) 4 61 true,lo 69 (.pick (.tmp 61) (.tmp 68) (.const (.bool false))) 4,lm 70 69 4,lg 71 (.call ⟨.value (.func 15),#[],#[]⟩) 4 70 true,lo 72 (.pick (.tmp 70) (.tmp 71) (.const (.bool false))) 4,lo 6 (.assign (.tmp 72)) 4]
abbrev law29_RupChecks_c:LC:=.seq (.reg false law29_RupChecks_r1) (.seq (.reg true law29_RupChecks_r2) (.seq (.reg false law29_RupChecks_r3) (.seq (.reg false law29_RupChecks_r4) (.seq (.reg false law29_RupChecks_r5) .ret))))
theorem law29_RupChecks_k:FnOk E 3 73 [.tmp 6] law29_RupChecks_c:=⟨⟨Go.Proofs.Tryz.f3,by kernel_rfl,by kernel_rfl,by kernel_rfl,by kernel_rfl,by kernel_rfl⟩,rfl,rfl⟩
noncomputable def law29_RupChecks (a0:(List (List Int))) (a1:(List (List Int))) (a2:(List Int)):Option (Bool):=Option.bind (law29_few a0) (fun x1=>Option.bind (law29_few a1) (fun x2=>Option.bind (subl a2 0 (if 30 < (List.length a2:Int) then 30 else (List.length a2:Int))) (fun x3=>Option.bind (rup_Units x1 x3) (fun (x4,x5)=>Option.bind (ref29_Units x1 x3) (fun x6=>Option.bind (law29_ints x4 x6.1) (fun x7=>Option.bind (if (x7 && (x5 == x6.2))=true then Option.bind (rup_Step x1 x3) (fun x11=>Option.bind (ref29_Step x1 x3) (fun x12=>some (x11 == x12))) else some false:Option (Bool)) (fun x10=>Option.bind (if x10=true then Option.bind (rup_Check x1 x2) (fun x16=>Option.bind (ref29_Check x1 x2) (fun x17=>some (x16 == x17))) else some false:Option (Bool)) (fun x15=>Option.bind (if x15=true then Option.bind (rup_Refutes x1 x2) (fun x21=>Option.bind (ref29_Refutes x1 x2) (fun x22=>some (x21 == x22))) else some false:Option (Bool)) (fun x20=>Option.bind (if x20=true then Option.bind (law29_awake) (fun x25=>some x25) else some false:Option (Bool)) (fun x24=>some x24))))))))))
theorem law29_RupChecks_ok (a0:(List (List Int))) (a1:(List (List Int))) (a2:(List Int)):Ct E 3 [.fsl 1 (List.map c_L3 a0),.fsl 1 (List.map c_L3 a1),.fsl 1 (List.map cI a2)] (law29_RupChecks a0 a1 a2) (fun r:Bool=>bv r):=ct_intro (N:=73) (L:=law29_RupChecks_c) law29_RupChecks_k rfl (Nat.le_of_ble_eq_true rfl) (by kernel_rfl) (by
 unfold law29_RupChecks
 refine jS ⟨[V 0 (.fsl 1 (List.map c_L3 a0)),V 1 (.fsl 1 (List.map c_L3 a1)),V 2 (.fsl 1 (List.map cI a2))],[],0⟩ ?_
 refine jR ?_
 refine jG 0 1 ⟨[V 1 (.fsl 1 (List.map c_L3 a1)),V 2 (.fsl 1 (List.map cI a2)),V 14 (.fsl 1 (List.map c_L3 a0))],[],0⟩ ?_
 refine jK 1 (law29_few_ok a0) ?_
 intro x1 h1
 refine jG 2 1 ⟨[V 2 (.fsl 1 (List.map cI a2)),V 15 (.fsl 1 (List.map c_L3 x1)),V 16 (.fsl 1 (List.map c_L3 a1))],[],0⟩ ?_
 refine jK 3 (law29_few_ok a1) ?_
 intro x2 h2
 refine jG 4 4 ⟨[V 15 (.fsl 1 (List.map c_L3 x1)),V 17 (.fsl 1 (List.map c_L3 x2)),V 18 (.fsl 1 (List.map cI a2)),V 21 (iv (if 30 < (List.length (List.map cI a2):Int) then 30 else (List.length (List.map cI a2):Int)))],[],0⟩ ?_
 simp only[List.length_map]
 refine jr_part (i:=8) (mo:=subl a2 0 (if 30 < (List.length a2:Int) then 30 else (List.length a2:Int))) rfl rfl rfl rfl (fun _ hc=>aop_subf (c:=cI) (sz:=1) (e:=3) (by kernel_rfl) (by kernel_rfl) (by kernel_rfl) (by kernel_rfl) (by kernel_rfl) hc) (fun _=>rfl) ?_
 intro x3 h3
 refine jG 9 3 ⟨[V 7 (.fsl 1 (List.map c_L3 x1)),V 8 (.fsl 1 (List.map c_L3 x2)),V 9 (.fsl 1 (List.map cI x3))],[],0⟩ ?_
 refine jN ?_
 refine jR ?_
 refine jG 0 2 ⟨[V 7 (.fsl 1 (List.map c_L3 x1)),V 8 (.fsl 1 (List.map c_L3 x2)),V 9 (.fsl 1 (List.map cI x3)),V 24 (.fsl 1 (List.map c_L3 x1)),V 25 (.fsl 1 (List.map cI x3))],[],0⟩ ?_
 refine jr_callM 2 [] [(1,some 1)] (fun r:List Int × Bool=>[(1,.rows 1 (List.map cI r.1))]) (fun r:List Int × Bool=>.tup [.osl 1 0 (List.length r.1) 1,bv r.2]) 2 (rup_Units_ok x1 x3) allp_nil (fun r=>(pc (.inr (hL 1 (noid_map ni_I _))) allp_nil)) ?_
 rintro⟨x4,x5⟩ hm1
 refine jG 3 5 ⟨[V 7 (.fsl 1 (List.map c_L3 x1)),V 8 (.fsl 1 (List.map c_L3 x2)),V 9 (.fsl 1 (List.map cI x3)),V 10 (.osl 1 0 (List.length x4) 1),V 11 (bv x5)],[(1,.rows 1 (List.map cI x4))],2⟩ ?_
 refine jN ?_
 refine jR ?_
 refine jG 0 2 ⟨[V 7 (.fsl 1 (List.map c_L3 x1)),V 8 (.fsl 1 (List.map c_L3 x2)),V 9 (.fsl 1 (List.map cI x3)),V 10 (.osl 1 0 (List.length x4) 1),V 11 (bv x5),V 30 (.fsl 1 (List.map c_L3 x1)),V 31 (.fsl 1 (List.map cI x3))],[(1,.rows 1 (List.map cI x4))],2⟩ ?_
 refine jK 2 (ref29_Units_ok x1 x3) ?_
 intro x6 h6
 refine jG 3 5 ⟨[V 7 (.fsl 1 (List.map c_L3 x1)),V 8 (.fsl 1 (List.map c_L3 x2)),V 9 (.fsl 1 (List.map cI x3)),V 10 (.osl 1 0 (List.length x4) 1),V 11 (bv x5),V 12 (.fsl 1 (List.map cI x6.1)),V 13 (bv x6.2)],[(1,.rows 1 (List.map cI x4))],2⟩ ?_
 refine jN ?_
 refine jR ?_
 refine jG 0 2 ⟨[V 7 (.fsl 1 (List.map c_L3 x1)),V 8 (.fsl 1 (List.map c_L3 x2)),V 9 (.fsl 1 (List.map cI x3)),V 11 (bv x5),V 13 (bv x6.2),V 35 (.osl 1 0 (List.length x4) 1),V 36 (.fsl 1 (List.map cI x6.1))],[(1,.rows 1 (List.map cI x4))],2⟩ ?_
 refine jr_callF (i:=2) rfl rfl rfl rfl (vs:=[.osl 1 0 (List.length x4) 1,.fsl 1 (List.map cI x6.1)]) (by kernel_rfl) (snapL_cons (snapc_own fz_I (by kernel_rfl)) (snapL_cons rfl (snapL_nil _))) (all2_cons (fle_refl _) (all2_cons (fle_refl _) all2_nil)) (law29_ints_ok x4 x6.1) (fun _=>rfl) (fun _=>rfl) ?_
 intro x7 h7
 refine jG 3 6 ⟨[V 7 (.fsl 1 (List.map c_L3 x1)),V 8 (.fsl 1 (List.map c_L3 x2)),V 9 (.fsl 1 (List.map cI x3)),V 43 (bv (x7 && (x5 == x6.2)))],[],2⟩ ?_
 refine jr_bind 9 8 (fun x10=>⟨[V 7 (.fsl 1 (List.map c_L3 x1)),V 8 (.fsl 1 (List.map c_L3 x2)),V 51 (bv x10)],[],0⟩) ?_ ?_
 ·refine jSp 43 ?_ ?_
  ·refine jG 0 2 ⟨[V 7 (.fsl 1 (List.map c_L3 x1)),V 8 (.fsl 1 (List.map c_L3 x2)),V 9 (.fsl 1 (List.map cI x3)),(43,.lit true),V 44 (.fsl 1 (List.map c_L3 x1)),V 45 (.fsl 1 (List.map cI x3))],[],2⟩ ?_
   refine jK 2 (rup_Step_ok x1 x3) ?_
   intro x11 h11
   refine jG 3 2 ⟨[V 7 (.fsl 1 (List.map c_L3 x1)),V 8 (.fsl 1 (List.map c_L3 x2)),(43,.lit true),V 46 (bv x11),V 47 (.fsl 1 (List.map c_L3 x1)),V 48 (.fsl 1 (List.map cI x3))],[],2⟩ ?_
   refine jK 5 (ref29_Step_ok x1 x3) ?_
   intro x12 h12
   refine jG 6 2 ⟨[V 7 (.fsl 1 (List.map c_L3 x1)),V 8 (.fsl 1 (List.map c_L3 x2)),V 51 (bv (x11 == x12))],[],2⟩ ?_
   refine jr_nil rfl ?_
   exact jx_mid rfl (wkR [] (fix_nil _) allp_nil)
  refine jG 0 8 ⟨[V 7 (.fsl 1 (List.map c_L3 x1)),V 8 (.fsl 1 (List.map c_L3 x2)),V 51 (bv false)],[],2⟩ ?_
  refine jr_nil rfl ?_
  exact jx_mid rfl (wkR [] (fix_nil _) allp_nil)
 intro x10
 refine jG 17 1 ⟨[V 7 (.fsl 1 (List.map c_L3 x1)),V 8 (.fsl 1 (List.map c_L3 x2)),V 52 (bv x10)],[],0⟩ ?_
 refine jr_bind 18 8 (fun x15=>⟨[V 7 (.fsl 1 (List.map c_L3 x1)),V 8 (.fsl 1 (List.map c_L3 x2)),V 60 (bv x15)],[],0⟩) ?_ ?_
 ·refine jSp 52 ?_ ?_
  ·refine jG 0 2 ⟨[V 7 (.fsl 1 (List.map c_L3 x1)),V 8 (.fsl 1 (List.map c_L3 x2)),(52,.lit true),V 53 (.fsl 1 (List.map c_L3 x1)),V 54 (.fsl 1 (List.map c_L3 x2))],[],0⟩ ?_
   refine jK 2 (rup_Check_ok x1 x2) ?_
   intro x16 h16
   refine jG 3 2 ⟨[V 7 (.fsl 1 (List.map c_L3 x1)),V 8 (.fsl 1 (List.map c_L3 x2)),(52,.lit true),V 55 (iv x16),V 56 (.fsl 1 (List.map c_L3 x1)),V 57 (.fsl 1 (List.map c_L3 x2))],[],0⟩ ?_
   refine jK 5 (ref29_Check_ok x1 x2) ?_
   intro x17 h17
   refine jG 6 2 ⟨[V 7 (.fsl 1 (List.map c_L3 x1)),V 8 (.fsl 1 (List.map c_L3 x2)),V 60 (bv (x16 == x17))],[],0⟩ ?_
   refine jr_nil rfl ?_
   exact jx_mid rfl (wkR [] (fix_nil _) allp_nil)
  refine jG 0 8 ⟨[V 7 (.fsl 1 (List.map c_L3 x1)),V 8 (.fsl 1 (List.map c_L3 x2)),V 60 (bv false)],[],0⟩ ?_
  refine jr_nil rfl ?_
  exact jx_mid rfl (wkR [] (fix_nil _) allp_nil)
 intro x15
 refine jG 26 1 ⟨[V 7 (.fsl 1 (List.map c_L3 x1)),V 8 (.fsl 1 (List.map c_L3 x2)),V 61 (bv x15)],[],0⟩ ?_
 refine jr_bind 27 8 (fun x20=>⟨[V 69 (bv x20)],[],0⟩) ?_ ?_
 ·refine jSp 61 ?_ ?_
  ·refine jG 0 2 ⟨[V 7 (.fsl 1 (List.map c_L3 x1)),V 8 (.fsl 1 (List.map c_L3 x2)),(61,.lit true),V 62 (.fsl 1 (List.map c_L3 x1)),V 63 (.fsl 1 (List.map c_L3 x2))],[],0⟩ ?_
   refine jK 2 (rup_Refutes_ok x1 x2) ?_
   intro x21 h21
   refine jG 3 2 ⟨[(61,.lit true),V 64 (bv x21),V 65 (.fsl 1 (List.map c_L3 x1)),V 66 (.fsl 1 (List.map c_L3 x2))],[],0⟩ ?_
   refine jK 5 (ref29_Refutes_ok x1 x2) ?_
   intro x22 h22
   refine jG 6 2 ⟨[V 69 (bv (x21 == x22))],[],0⟩ ?_
   refine jr_nil rfl ?_
   exact jx_mid rfl (wkR [] (fix_nil _) allp_nil)
  refine jG 0 8 ⟨[V 69 (bv false)],[],0⟩ ?_
  refine jr_nil rfl ?_
  exact jx_mid rfl (wkR [] (fix_nil _) allp_nil)
 intro x20
 refine jG 35 1 ⟨[V 70 (bv x20)],[],0⟩ ?_
 refine jr_bind 36 2 (fun x24=>⟨[V 72 (bv x24)],[],0⟩) ?_ ?_
 ·refine jSp 70 ?_ ?_
  ·refine jK 0 (law29_awake_ok) ?_
   intro x25 h25
   refine jG 1 1 ⟨[V 72 (bv x25)],[],0⟩ ?_
   refine jr_nil rfl ?_
   exact jx_mid rfl (wkR [] (fix_nil _) allp_nil)
  refine jG 0 2 ⟨[V 72 (bv false)],[],0⟩ ?_
  refine jr_nil rfl ?_
  exact jx_mid rfl (wkR [] (fix_nil _) allp_nil)
 intro x24
 refine jG 38 1 ⟨[V 6 (bv x24)],[],0⟩ ?_
 refine jN ?_
 refine jc_ret ?_
 exact jx_retF (.inr rfl) (v:=bv x24) (by kernel_rfl) rfl (fle_refl _))
end Go.Vm

/- The law PepReads, a part of its proof: what the functions that it reaches compute. -/
import Derived.Test.YthifafijkpkliaaGreatDoorG0PepReads
import Derived.Test.YthifafijkpkliaaGreatDoorG1PepReads
set_option maxRecDepth 100000
set_option maxHeartbeats 0
set_option linter.unusedVariables false
set_option linter.unusedSimpArgs false
namespace Go.Vm
open Go
abbrev ref03_Order_r1:List LO:=[lo 2 (.box 24 (.tmp 0)) 0,lo 3 (.box 24 (.tmp 1)) 0,lo 4 (.assign (.const (.int .i64 0))) 3]
abbrev ref03_Order_r2:List LO:=[lo 7 (.load 24 (.tmp 2)) 24,lo 8 (.call ⟨.value (.func 18),#[.tmp 7],#[24]⟩) 4,lo 9 (.unOp .not 4 (.tmp 8)) 4,lm 10 9 4,lg 11 (.load 24 (.tmp 3)) 24 10 false,lg 12 (.call ⟨.value (.func 18),#[.tmp 11],#[24]⟩) 4 10 false,lg 13 (.unOp .not 4 (.tmp 12)) 4 10 false,lo 14 (.pick (.tmp 10) (.const (.bool true)) (.tmp 13)) 4]
abbrev ref03_Order_r3:List LO:=[lo 4 (.assign (.const (.int .i64 0))) 3]
abbrev ref03_Order_r4:List LO:=[lo 15 (.fieldAddr 24 (.tmp 2) 0) 0,lo 16 (.load 9 (.tmp 15)) 9,lo 17 (.fieldAddr 24 (.tmp 3) 0) 0,lo 18 (.load 9 (.tmp 17)) 9,lo 19 (.call ⟨.value (.func 73),#[.tmp 16,.tmp 18],#[9,9]⟩) 3,lo 20 (.fieldAddr 24 (.tmp 2) 1) 0,lo 21 (.load 22 (.tmp 20)) 22,lo 22 (.fieldAddr 24 (.tmp 3) 1) 0,lo 23 (.load 22 (.tmp 22)) 22,lo 24 (.call ⟨.value (.func 74),#[.tmp 21,.tmp 23],#[22,22]⟩) 3,lo 25 (.load 24 (.tmp 2)) 24,lo 26 (.call ⟨.value (.func 75),#[.tmp 25],#[24]⟩) 3,lo 27 (.load 24 (.tmp 3)) 24,lo 28 (.call ⟨.value (.func 75),#[.tmp 27],#[24]⟩) 3,lo 29 (.call ⟨.value (.func 54),#[.tmp 26,.tmp 28],#[3,3]⟩) 3,lo 30 (.fieldAddr 24 (.tmp 2) 3) 0,lo 31 (.load 9 (.tmp 30)) 9,lo 32 (.fieldAddr 24 (.tmp 3) 3) 0,lo 33 (.load 9 (.tmp 32)) 9,lo 34 (.call ⟨.value (.func 73),#[.tmp 31,.tmp 33],#[9,9]⟩) 3,lo 35 (.fieldAddr 24 (.tmp 2) 4) 0,lo 36 (.load 4 (.tmp 35)) 4,lo 37 (.call ⟨.value (.func 55),#[.tmp 36],#[4]⟩) 3,lo 38 (.fieldAddr 24 (.tmp 3) 4) 0,lo 39 (.load 4 (.tmp 38)) 4,lo 40 (.call ⟨.value (.func 55),#[.tmp 39],#[4]⟩) 3,lo 41 (.call ⟨.value (.func 54),#[.tmp 37,.tmp 40],#[3,3]⟩) 3,lo 42 (.fieldAddr 24 (.tmp 2) 5) 0,lo 43 (.load 9 (.tmp 42)) 9,lo 44 (.fieldAddr 24 (.tmp 3) 5) 0,lo 45 (.load 9 (.tmp 44)) 9,lo 46 (.call ⟨.value (.func 73),#[.tmp 43,.tmp 45],#[9,9]⟩) 3,lo 47 (.fieldAddr 24 (.tmp 2) 6) 0,lo 48 (.load 4 (.tmp 47)) 4,lo 49 (.unOp .not 4 (.tmp 48)) 4,lo 50 (.call ⟨.value (.func 55),#[.tmp 49],#[4]⟩) 3,lo 51 (.fieldAddr 24 (.tmp 3) 6) 0,lo 52 (.load 4 (.tmp 51)) 4,lo 53 (.unOp .not 4 (.tmp 52)) 4,lo 54 (.call ⟨.value (.func 55),#[.tmp 53],#[4]⟩) 3,lo 55 (.call ⟨.value (.func 54),#[.tmp 50,.tmp 54],#[3,3]⟩) 3,lo 56 (.fieldAddr 24 (.tmp 2) 7) 0,lo 57 (.load 9 (.tmp 56)) 9,lo 58 (.fieldAddr 24 (.tmp 3) 7) 0,lo 59 (.load 9 (.tmp 58)) 9,lo 60 (.call ⟨.value (.func 73),#[.tmp 57,.tmp 59],#[9,9]⟩) 3,lo 61 (.fieldAddr 24 (.tmp 2) 8) 0,lo 62 (.load 22 (.tmp 61)) 22,lo 63 (.fieldAddr 24 (.tmp 3) 8) 0,lo 64 (.load 22 (.tmp 63)) 22,lo 65 (.call ⟨.value (.func 76),#[.tmp 62,.tmp 64],#[22,22]⟩) 3,lo 66 (.buildSlice 76 9 #[(0,.tmp 19),(1,.tmp 24),(2,.tmp 29),(3,.tmp 34),(4,.tmp 41),(5,.tmp 46),(6,.tmp 55),(7,.tmp 60),(8,.tmp 65)]) 76,lo 5 (.assign (.tmp 66)) 76]
abbrev ref03_Order_r5:List LO:=[lo 6 (.assign (.const (.int .i64 0))) 3]
abbrev ref03_Order_r6:List LO:=[lm 67 6 3,lm 68 5 76,lo 69 (.call ⟨.builtin .len,#[.tmp 68],#[76]⟩) 3,lo 70 (.binOp .lss 3 (.tmp 67) (.tmp 69) 3) 4]
abbrev ref03_Order_r7:List LO:=[lm 73 5 76,lm 74 6 3,lo 75 (.indexAddr 76 (.tmp 73) (.tmp 74)) 0,lo 76 (.load 3 (.tmp 75)) 3,lo 77 (.binOp .neq 3 (.tmp 76) (.const (.int .i64 0)) 3) 4]
abbrev ref03_Order_r8:List LO:=[lm 78 5 76,lm 79 6 3,lo 80 (.indexAddr 76 (.tmp 78) (.tmp 79)) 0,lo 81 (.load 3 (.tmp 80)) 3,lo 4 (.assign (.tmp 81)) 3]
abbrev ref03_Order_r9:List LO:=[lm 71 6 3,lo 72 (.binOp .add 3 (.tmp 71) (.const (.int .i64 1)) 3) 3,lo 6 (.assign (.tmp 72)) 3]
abbrev ref03_Order_r10:List LO:=[lo 4 (.assign (.const (.int .i64 0))) 3]
abbrev ref03_Order_c:LC:=.seq (.reg false ref03_Order_r1) (.seq (.seq (.reg false ref03_Order_r2) (.cond (.tmp 14) (.seq (.reg false ref03_Order_r3) .ret) .skip)) (.seq (.reg true ref03_Order_r4) (.seq (.seq (.reg false ref03_Order_r5) (.block 0 (.loop (.seq (.seq (.reg false ref03_Order_r6) (.cond (.tmp 70) .skip (.exit 0))) (.seq (.block 1 (.seq (.reg false ref03_Order_r7) (.cond (.tmp 77) (.seq (.reg false ref03_Order_r8) .ret) .skip))) (.reg false ref03_Order_r9)))))) (.seq (.reg false ref03_Order_r10) .ret))))
theorem ref03_Order_k:FnOk E 22 82 [.tmp 4] ref03_Order_c:=⟨⟨Go.Proofs.Tryz.f22,by kernel_rfl,by kernel_rfl,by kernel_rfl,by kernel_rfl,by kernel_rfl⟩,rfl,rfl⟩
noncomputable def ref03_Order_l1 (x5:Int) (x6:Int) (x9:Int) (x10:Int) (x13:Int) (x14:Int) (x17:Int) (x18:Int) (x19:Int):Int→Option (Step (Int) ((Int) ⊕ (Unit))):=fun x22=>(if (decide (x22 < (List.length [x5,x6,x9,x10,x13,x14,x17,x18,x19]:Int)))=true then Option.bind (ixl [x5,x6,x9,x10,x13,x14,x17,x18,x19] x22) (fun x27=>(if (x27 != 0)=true then Option.bind (ixl [x5,x6,x9,x10,x13,x14,x17,x18,x19] x22) (fun x28=>some (Step.done (Sum.inl x28))) else some (Step.next (w64 (x22 + 1))))) else some (Step.done (Sum.inr ())))
noncomputable def ref03_Order (a0:S_api_Pep) (a1:S_api_Pep):Option (Int):=Option.bind (ref03_Fit a0) (fun x1=>Option.bind (if (!x1)=true then some true else Option.bind (ref03_Fit a1) (fun x4=>some (!x4)):Option (Bool)) (fun x3=>(if x3=true then some 0 else Option.bind (ref01_Cmp a0.Epoch a1.Epoch) (fun x5=>Option.bind (ref03_release a0.Release a1.Release) (fun x6=>Option.bind (ref03_class a0) (fun x7=>Option.bind (ref03_class a1) (fun x8=>Option.bind (ref03_ints x7 x8) (fun x9=>Option.bind (ref01_Cmp a0.PreNum a1.PreNum) (fun x10=>Option.bind (ref03_rank a0.Post) (fun x11=>Option.bind (ref03_rank a1.Post) (fun x12=>Option.bind (ref03_ints x11 x12) (fun x13=>Option.bind (ref01_Cmp a0.PostNum a1.PostNum) (fun x14=>Option.bind (ref03_rank (!a0.Dev)) (fun x15=>Option.bind (ref03_rank (!a1.Dev)) (fun x16=>Option.bind (ref03_ints x15 x16) (fun x17=>Option.bind (ref01_Cmp a0.DevNum a1.DevNum) (fun x18=>Option.bind (ref03_locals a0.Local a1.Local) (fun x19=>Option.bind (loopC (ref03_Order_l1 x5 x6 x9 x10 x13 x14 x17 x18 x19) 0) (fun y=>match y with | Sum.inl x26=>some x26 | Sum.inr _=>some 0)))))))))))))))))))
theorem ref03_Order_ok (a0:S_api_Pep) (a1:S_api_Pep):Ct E 22 [.agg [bs a0.Epoch,.fsl 1 (List.map cS a0.Release),.s (.int .u8 a0.Pre),bs a0.PreNum,bv a0.Post,bs a0.PostNum,bv a0.Dev,bs a0.DevNum,.fsl 1 (List.map cS a0.Local)],.agg [bs a1.Epoch,.fsl 1 (List.map cS a1.Release),.s (.int .u8 a1.Pre),bs a1.PreNum,bv a1.Post,bs a1.PostNum,bv a1.Dev,bs a1.DevNum,.fsl 1 (List.map cS a1.Local)]] (ref03_Order a0 a1) (fun r:Int=>iv r):=ct_intro (N:=82) (L:=ref03_Order_c) ref03_Order_k rfl (Nat.le_of_ble_eq_true rfl) (by kernel_rfl) (by
 unfold ref03_Order
 refine jS ⟨[V 2 (pt 0 9),V 3 (pt 1 9)],[W 0 9 [bs a0.Epoch,.fsl 1 (List.map cS a0.Release),.s (.int .u8 a0.Pre),bs a0.PreNum,bv a0.Post,bs a0.PostNum,bv a0.Dev,bs a0.DevNum,.fsl 1 (List.map cS a0.Local)],W 1 9 [bs a1.Epoch,.fsl 1 (List.map cS a1.Release),.s (.int .u8 a1.Pre),bs a1.PreNum,bv a1.Post,bs a1.PostNum,bv a1.Dev,bs a1.DevNum,.fsl 1 (List.map cS a1.Local)]],2⟩ ?_
 refine jc_seq ?_
 refine jR ?_
 refine jG 0 1 ⟨[V 2 (pt 0 9),V 3 (pt 1 9),V 7 (.agg [bs a0.Epoch,.fsl 1 (List.map cS a0.Release),.s (.int .u8 a0.Pre),bs a0.PreNum,bv a0.Post,bs a0.PostNum,bv a0.Dev,bs a0.DevNum,.fsl 1 (List.map cS a0.Local)])],[W 0 9 [bs a0.Epoch,.fsl 1 (List.map cS a0.Release),.s (.int .u8 a0.Pre),bs a0.PreNum,bv a0.Post,bs a0.PostNum,bv a0.Dev,bs a0.DevNum,.fsl 1 (List.map cS a0.Local)],W 1 9 [bs a1.Epoch,.fsl 1 (List.map cS a1.Release),.s (.int .u8 a1.Pre),bs a1.PreNum,bv a1.Post,bs a1.PostNum,bv a1.Dev,bs a1.DevNum,.fsl 1 (List.map cS a1.Local)]],2⟩ ?_
 refine jK 1 (ref03_Fit_ok a0) ?_
 intro x1 h1
 refine jG 2 2 ⟨[V 2 (pt 0 9),V 3 (pt 1 9),V 10 (bv (!x1))],[W 0 9 [bs a0.Epoch,.fsl 1 (List.map cS a0.Release),.s (.int .u8 a0.Pre),bs a0.PreNum,bv a0.Post,bs a0.PostNum,bv a0.Dev,bs a0.DevNum,.fsl 1 (List.map cS a0.Local)],W 1 9 [bs a1.Epoch,.fsl 1 (List.map cS a1.Release),.s (.int .u8 a1.Pre),bs a1.PreNum,bv a1.Post,bs a1.PostNum,bv a1.Dev,bs a1.DevNum,.fsl 1 (List.map cS a1.Local)]],2⟩ ?_
 refine jr_bind 4 4 (fun x3=>⟨[V 2 (pt 0 9),V 3 (pt 1 9),V 14 (bv x3)],[W 0 9 [bs a0.Epoch,.fsl 1 (List.map cS a0.Release),.s (.int .u8 a0.Pre),bs a0.PreNum,bv a0.Post,bs a0.PostNum,bv a0.Dev,bs a0.DevNum,.fsl 1 (List.map cS a0.Local)],W 1 9 [bs a1.Epoch,.fsl 1 (List.map cS a1.Release),.s (.int .u8 a1.Pre),bs a1.PreNum,bv a1.Post,bs a1.PostNum,bv a1.Dev,bs a1.DevNum,.fsl 1 (List.map cS a1.Local)]],2⟩) ?_ ?_
 ·refine jSp 10 ?_ ?_
  ·refine jG 0 4 ⟨[V 2 (pt 0 9),V 3 (pt 1 9),V 14 (bv true)],[W 0 9 [bs a0.Epoch,.fsl 1 (List.map cS a0.Release),.s (.int .u8 a0.Pre),bs a0.PreNum,bv a0.Post,bs a0.PostNum,bv a0.Dev,bs a0.DevNum,.fsl 1 (List.map cS a0.Local)],W 1 9 [bs a1.Epoch,.fsl 1 (List.map cS a1.Release),.s (.int .u8 a1.Pre),bs a1.PreNum,bv a1.Post,bs a1.PostNum,bv a1.Dev,bs a1.DevNum,.fsl 1 (List.map cS a1.Local)]],2⟩ ?_
   refine jr_nil rfl ?_
   exact jx_mid rfl (wkR [(0,some 0),(1,some 1)] (fix_nil _) (pc (hC 0) (pc (hC 1) allp_nil)))
  refine jG 0 1 ⟨[V 2 (pt 0 9),V 3 (pt 1 9),(10,.lit false),V 11 (.agg [bs a1.Epoch,.fsl 1 (List.map cS a1.Release),.s (.int .u8 a1.Pre),bs a1.PreNum,bv a1.Post,bs a1.PostNum,bv a1.Dev,bs a1.DevNum,.fsl 1 (List.map cS a1.Local)])],[W 0 9 [bs a0.Epoch,.fsl 1 (List.map cS a0.Release),.s (.int .u8 a0.Pre),bs a0.PreNum,bv a0.Post,bs a0.PostNum,bv a0.Dev,bs a0.DevNum,.fsl 1 (List.map cS a0.Local)],W 1 9 [bs a1.Epoch,.fsl 1 (List.map cS a1.Release),.s (.int .u8 a1.Pre),bs a1.PreNum,bv a1.Post,bs a1.PostNum,bv a1.Dev,bs a1.DevNum,.fsl 1 (List.map cS a1.Local)]],2⟩ ?_
  refine jK 1 (ref03_Fit_ok a1) ?_
  intro x4 h4
  refine jG 2 2 ⟨[V 2 (pt 0 9),V 3 (pt 1 9),V 14 (bv (!x4))],[W 0 9 [bs a0.Epoch,.fsl 1 (List.map cS a0.Release),.s (.int .u8 a0.Pre),bs a0.PreNum,bv a0.Post,bs a0.PostNum,bv a0.Dev,bs a0.DevNum,.fsl 1 (List.map cS a0.Local)],W 1 9 [bs a1.Epoch,.fsl 1 (List.map cS a1.Release),.s (.int .u8 a1.Pre),bs a1.PreNum,bv a1.Post,bs a1.PostNum,bv a1.Dev,bs a1.DevNum,.fsl 1 (List.map cS a1.Local)]],2⟩ ?_
  refine jr_nil rfl ?_
  exact jx_mid rfl (wkR [(0,some 0),(1,some 1)] (fix_nil _) (pc (hC 0) (pc (hC 1) allp_nil)))
 intro x3
 refine jN ?_
 refine jIf ?_ ?_
 ·refine jS ⟨[V 4 (iv 0)],[],2⟩ ?_
  refine jc_ret ?_
  refine jx_seqR ?_
  exact jx_retF (.inr rfl) (v:=iv 0) (by kernel_rfl) rfl (fle_refl _)
 refine jc_skip ?_
 refine jx_seqN ?_
 refine jR ?_
 refine jG 0 4 ⟨[V 2 (pt 0 9),V 3 (pt 1 9),V 16 (bs a0.Epoch),V 18 (bs a1.Epoch)],[W 0 9 [bs a0.Epoch,.fsl 1 (List.map cS a0.Release),.s (.int .u8 a0.Pre),bs a0.PreNum,bv a0.Post,bs a0.PostNum,bv a0.Dev,bs a0.DevNum,.fsl 1 (List.map cS a0.Local)],W 1 9 [bs a1.Epoch,.fsl 1 (List.map cS a1.Release),.s (.int .u8 a1.Pre),bs a1.PreNum,bv a1.Post,bs a1.PostNum,bv a1.Dev,bs a1.DevNum,.fsl 1 (List.map cS a1.Local)]],2⟩ ?_
 refine jK 4 (ref01_Cmp_ok a0.Epoch a1.Epoch) ?_
 intro x5 h5
 refine jG 5 4 ⟨[V 2 (pt 0 9),V 3 (pt 1 9),V 19 (iv x5),V 21 (.fsl 1 (List.map cS a0.Release)),V 23 (.fsl 1 (List.map cS a1.Release))],[W 0 9 [bs a0.Epoch,.fsl 1 (List.map cS a0.Release),.s (.int .u8 a0.Pre),bs a0.PreNum,bv a0.Post,bs a0.PostNum,bv a0.Dev,bs a0.DevNum,.fsl 1 (List.map cS a0.Local)],W 1 9 [bs a1.Epoch,.fsl 1 (List.map cS a1.Release),.s (.int .u8 a1.Pre),bs a1.PreNum,bv a1.Post,bs a1.PostNum,bv a1.Dev,bs a1.DevNum,.fsl 1 (List.map cS a1.Local)]],2⟩ ?_
 refine jK 9 (ref03_release_ok a0.Release a1.Release) ?_
 intro x6 h6
 refine jG 10 1 ⟨[V 2 (pt 0 9),V 3 (pt 1 9),V 19 (iv x5),V 24 (iv x6),V 25 (.agg [bs a0.Epoch,.fsl 1 (List.map cS a0.Release),.s (.int .u8 a0.Pre),bs a0.PreNum,bv a0.Post,bs a0.PostNum,bv a0.Dev,bs a0.DevNum,.fsl 1 (List.map cS a0.Local)])],[W 0 9 [bs a0.Epoch,.fsl 1 (List.map cS a0.Release),.s (.int .u8 a0.Pre),bs a0.PreNum,bv a0.Post,bs a0.PostNum,bv a0.Dev,bs a0.DevNum,.fsl 1 (List.map cS a0.Local)],W 1 9 [bs a1.Epoch,.fsl 1 (List.map cS a1.Release),.s (.int .u8 a1.Pre),bs a1.PreNum,bv a1.Post,bs a1.PostNum,bv a1.Dev,bs a1.DevNum,.fsl 1 (List.map cS a1.Local)]],2⟩ ?_
 refine jK 11 (ref03_class_ok a0) ?_
 intro x7 h7
 refine jG 12 1 ⟨[V 2 (pt 0 9),V 3 (pt 1 9),V 19 (iv x5),V 24 (iv x6),V 26 (iv x7),V 27 (.agg [bs a1.Epoch,.fsl 1 (List.map cS a1.Release),.s (.int .u8 a1.Pre),bs a1.PreNum,bv a1.Post,bs a1.PostNum,bv a1.Dev,bs a1.DevNum,.fsl 1 (List.map cS a1.Local)])],[W 0 9 [bs a0.Epoch,.fsl 1 (List.map cS a0.Release),.s (.int .u8 a0.Pre),bs a0.PreNum,bv a0.Post,bs a0.PostNum,bv a0.Dev,bs a0.DevNum,.fsl 1 (List.map cS a0.Local)],W 1 9 [bs a1.Epoch,.fsl 1 (List.map cS a1.Release),.s (.int .u8 a1.Pre),bs a1.PreNum,bv a1.Post,bs a1.PostNum,bv a1.Dev,bs a1.DevNum,.fsl 1 (List.map cS a1.Local)]],2⟩ ?_
 refine jK 13 (ref03_class_ok a1) ?_
 intro x8 h8
 refine jK 14 (ref03_ints_ok x7 x8) ?_
 intro x9 h9
 refine jG 15 4 ⟨[V 2 (pt 0 9),V 3 (pt 1 9),V 19 (iv x5),V 24 (iv x6),V 29 (iv x9),V 31 (bs a0.PreNum),V 33 (bs a1.PreNum)],[W 0 9 [bs a0.Epoch,.fsl 1 (List.map cS a0.Release),.s (.int .u8 a0.Pre),bs a0.PreNum,bv a0.Post,bs a0.PostNum,bv a0.Dev,bs a0.DevNum,.fsl 1 (List.map cS a0.Local)],W 1 9 [bs a1.Epoch,.fsl 1 (List.map cS a1.Release),.s (.int .u8 a1.Pre),bs a1.PreNum,bv a1.Post,bs a1.PostNum,bv a1.Dev,bs a1.DevNum,.fsl 1 (List.map cS a1.Local)]],2⟩ ?_
 refine jK 19 (ref01_Cmp_ok a0.PreNum a1.PreNum) ?_
 intro x10 h10
 refine jG 20 2 ⟨[V 2 (pt 0 9),V 3 (pt 1 9),V 19 (iv x5),V 24 (iv x6),V 29 (iv x9),V 34 (iv x10),V 36 (bv a0.Post)],[W 0 9 [bs a0.Epoch,.fsl 1 (List.map cS a0.Release),.s (.int .u8 a0.Pre),bs a0.PreNum,bv a0.Post,bs a0.PostNum,bv a0.Dev,bs a0.DevNum,.fsl 1 (List.map cS a0.Local)],W 1 9 [bs a1.Epoch,.fsl 1 (List.map cS a1.Release),.s (.int .u8 a1.Pre),bs a1.PreNum,bv a1.Post,bs a1.PostNum,bv a1.Dev,bs a1.DevNum,.fsl 1 (List.map cS a1.Local)]],2⟩ ?_
 refine jK 22 (ref03_rank_ok a0.Post) ?_
 intro x11 h11
 refine jG 23 2 ⟨[V 2 (pt 0 9),V 3 (pt 1 9),V 19 (iv x5),V 24 (iv x6),V 29 (iv x9),V 34 (iv x10),V 37 (iv x11),V 39 (bv a1.Post)],[W 0 9 [bs a0.Epoch,.fsl 1 (List.map cS a0.Release),.s (.int .u8 a0.Pre),bs a0.PreNum,bv a0.Post,bs a0.PostNum,bv a0.Dev,bs a0.DevNum,.fsl 1 (List.map cS a0.Local)],W 1 9 [bs a1.Epoch,.fsl 1 (List.map cS a1.Release),.s (.int .u8 a1.Pre),bs a1.PreNum,bv a1.Post,bs a1.PostNum,bv a1.Dev,bs a1.DevNum,.fsl 1 (List.map cS a1.Local)]],2⟩ ?_
 refine jK 25 (ref03_rank_ok a1.Post) ?_
 intro x12 h12
 refine jK 26 (ref03_ints_ok x11 x12) ?_
 intro x13 h13
 refine jG 27 4 ⟨[V 2 (pt 0 9),V 3 (pt 1 9),V 19 (iv x5),V 24 (iv x6),V 29 (iv x9),V 34 (iv x10),V 41 (iv x13),V 43 (bs a0.PostNum),V 45 (bs a1.PostNum)],[W 0 9 [bs a0.Epoch,.fsl 1 (List.map cS a0.Release),.s (.int .u8 a0.Pre),bs a0.PreNum,bv a0.Post,bs a0.PostNum,bv a0.Dev,bs a0.DevNum,.fsl 1 (List.map cS a0.Local)],W 1 9 [bs a1.Epoch,.fsl 1 (List.map cS a1.Release),.s (.int .u8 a1.Pre),bs a1.PreNum,bv a1.Post,bs a1.PostNum,bv a1.Dev,bs a1.DevNum,.fsl 1 (List.map cS a1.Local)]],2⟩ ?_
 refine jK 31 (ref01_Cmp_ok a0.PostNum a1.PostNum) ?_
 intro x14 h14
 refine jG 32 3 ⟨[V 2 (pt 0 9),V 3 (pt 1 9),V 19 (iv x5),V 24 (iv x6),V 29 (iv x9),V 34 (iv x10),V 41 (iv x13),V 46 (iv x14),V 49 (bv (!a0.Dev))],[W 0 9 [bs a0.Epoch,.fsl 1 (List.map cS a0.Release),.s (.int .u8 a0.Pre),bs a0.PreNum,bv a0.Post,bs a0.PostNum,bv a0.Dev,bs a0.DevNum,.fsl 1 (List.map cS a0.Local)],W 1 9 [bs a1.Epoch,.fsl 1 (List.map cS a1.Release),.s (.int .u8 a1.Pre),bs a1.PreNum,bv a1.Post,bs a1.PostNum,bv a1.Dev,bs a1.DevNum,.fsl 1 (List.map cS a1.Local)]],2⟩ ?_
 refine jK 35 (ref03_rank_ok (!a0.Dev)) ?_
 intro x15 h15
 refine jG 36 3 ⟨[V 2 (pt 0 9),V 3 (pt 1 9),V 19 (iv x5),V 24 (iv x6),V 29 (iv x9),V 34 (iv x10),V 41 (iv x13),V 46 (iv x14),V 50 (iv x15),V 53 (bv (!a1.Dev))],[W 0 9 [bs a0.Epoch,.fsl 1 (List.map cS a0.Release),.s (.int .u8 a0.Pre),bs a0.PreNum,bv a0.Post,bs a0.PostNum,bv a0.Dev,bs a0.DevNum,.fsl 1 (List.map cS a0.Local)],W 1 9 [bs a1.Epoch,.fsl 1 (List.map cS a1.Release),.s (.int .u8 a1.Pre),bs a1.PreNum,bv a1.Post,bs a1.PostNum,bv a1.Dev,bs a1.DevNum,.fsl 1 (List.map cS a1.Local)]],2⟩ ?_
 refine jK 39 (ref03_rank_ok (!a1.Dev)) ?_
 intro x16 h16
 refine jK 40 (ref03_ints_ok x15 x16) ?_
 intro x17 h17
 refine jG 41 4 ⟨[V 2 (pt 0 9),V 3 (pt 1 9),V 19 (iv x5),V 24 (iv x6),V 29 (iv x9),V 34 (iv x10),V 41 (iv x13),V 46 (iv x14),V 55 (iv x17),V 57 (bs a0.DevNum),V 59 (bs a1.DevNum)],[W 0 9 [bs a0.Epoch,.fsl 1 (List.map cS a0.Release),.s (.int .u8 a0.Pre),bs a0.PreNum,bv a0.Post,bs a0.PostNum,bv a0.Dev,bs a0.DevNum,.fsl 1 (List.map cS a0.Local)],W 1 9 [bs a1.Epoch,.fsl 1 (List.map cS a1.Release),.s (.int .u8 a1.Pre),bs a1.PreNum,bv a1.Post,bs a1.PostNum,bv a1.Dev,bs a1.DevNum,.fsl 1 (List.map cS a1.Local)]],2⟩ ?_
 refine jK 45 (ref01_Cmp_ok a0.DevNum a1.DevNum) ?_
 intro x18 h18
 refine jG 46 4 ⟨[V 19 (iv x5),V 24 (iv x6),V 29 (iv x9),V 34 (iv x10),V 41 (iv x13),V 46 (iv x14),V 55 (iv x17),V 60 (iv x18),V 62 (.fsl 1 (List.map cS a0.Local)),V 64 (.fsl 1 (List.map cS a1.Local))],[],2⟩ ?_
 refine jK 50 (ref03_locals_ok a0.Local a1.Local) ?_
 intro x19 h19
 refine jG 51 2 ⟨[V 5 (.fsl 1 (List.map cI [x5,x6,x9,x10,x13,x14,x17,x18,x19]))],[],2⟩ ?_
 refine jN ?_
 refine jc_seq ?_
 refine jS ⟨[V 5 (.fsl 1 (List.map cI [x5,x6,x9,x10,x13,x14,x17,x18,x19])),V 6 (iv 0)],[],2⟩ ?_
 refine jc_block ?_
 refine jc_bind (fun y=>match y with | Sum.inl x26=>⟨[V 4 (iv x26)],[],0⟩ | Sum.inr _=>⟨[],[],0⟩) (fun y=>match y with | Sum.inl x26=>.ret | Sum.inr _=>(.exit 0)) (jc_loop (fun x22=>⟨[V 5 (.fsl 1 (List.map cI [x5,x6,x9,x10,x13,x14,x17,x18,x19])),V 6 (iv x22)],[],0⟩) (wkR [] (fix_nil _) allp_nil) ?_) ?_
 ·intro x22
  unfold ref03_Order_l1
  refine jc_seq ?_
  refine jR ?_
  refine jG 0 4 ⟨[V 5 (.fsl 1 (List.map cI [x5,x6,x9,x10,x13,x14,x17,x18,x19])),V 6 (iv x22),V 70 (bv (decide (x22 < (List.length (List.map cI [x5,x6,x9,x10,x13,x14,x17,x18,x19]):Int))))],[],0⟩ ?_
  simp only[List.length_map]
  refine jN ?_
  refine jIf ?_ ?_
  ·refine jc_skip ?_
   refine jx_seqN ?_
   refine jc_seq ?_
   refine jc_block ?_
   refine jR ?_
   refine jG 0 2 ⟨[V 5 (.fsl 1 (List.map cI [x5,x6,x9,x10,x13,x14,x17,x18,x19])),V 6 (iv x22),V 73 (.fsl 1 (List.map cI [x5,x6,x9,x10,x13,x14,x17,x18,x19])),V 74 (iv x22)],[],0⟩ ?_
   refine jr_part (i:=2) (mo:=ixl [x5,x6,x9,x10,x13,x14,x17,x18,x19] x22) rfl rfl rfl rfl (fun _ hc=>aop_ixf (c:=cI) (sz:=1) (e:=3) (kk:=.i64) (by kernel_rfl) (by kernel_rfl) (by kernel_rfl) (by kernel_rfl) hc) (fun _=>rfl) ?_
   intro x27 h27
   refine jG 3 2 ⟨[V 5 (.fsl 1 (List.map cI [x5,x6,x9,x10,x13,x14,x17,x18,x19])),V 6 (iv x22),V 77 (bv (x27 != 0))],[],0⟩ ?_
   refine jN ?_
   refine jIf ?_ ?_
   ·refine jR ?_
    refine jG 0 2 ⟨[V 78 (.fsl 1 (List.map cI [x5,x6,x9,x10,x13,x14,x17,x18,x19])),V 79 (iv x22)],[],0⟩ ?_
    refine jr_part (i:=2) (mo:=ixl [x5,x6,x9,x10,x13,x14,x17,x18,x19] x22) rfl rfl rfl rfl (fun _ hc=>aop_ixf (c:=cI) (sz:=1) (e:=3) (kk:=.i64) (by kernel_rfl) (by kernel_rfl) (by kernel_rfl) (by kernel_rfl) hc) (fun _=>rfl) ?_
    intro x28 h28
    refine jG 3 2 ⟨[V 4 (iv x28)],[],0⟩ ?_
    refine jN ?_
    refine jc_ret ?_
    refine jx_blkR ?_
    refine jx_seqR ?_
    exact jx_done rfl nofun (wkR [] (fix_nil _) allp_nil)
   refine jc_skip ?_
   refine jx_blkN ?_
   refine jx_seqN ?_
   refine jT ⟨[V 5 (.fsl 1 (List.map cI [x5,x6,x9,x10,x13,x14,x17,x18,x19])),V 6 (iv (w64 (x22 + 1)))],[],0⟩ ?_
   exact jx_next (wkR [] (fix_nil _) allp_nil)
  refine jc_exit ?_
  refine jx_seqE ?_
  exact jx_done rfl nofun (wkR [] (fix_nil _) allp_nil)
 rintro (x26 | _)
 ·refine jx_blkR ?_
  refine jx_seqR ?_
  exact jx_retF (.inr rfl) (v:=iv x26) (by kernel_rfl) rfl (fle_refl _)
 refine jx_blkE ?_
 refine jx_seqN ?_
 refine jS ⟨[V 4 (iv 0)],[],0⟩ ?_
 refine jc_ret ?_
 exact jx_retF (.inr rfl) (v:=iv 0) (by kernel_rfl) rfl (fle_refl _))
abbrev ref03_reader_digits_r1:List LO:=[lo 2 (.assign (.const (.string ⟨#[]⟩))) 9]
abbrev ref03_reader_digits_r2:List LO:=[lm 5 0 59,lo 6 (.nilCheck (.tmp 5)) 0,lo 7 (.fieldAddr 61 (.tmp 6) 0) 0,lo 8 (.load 9 (.tmp 7)) 9,lm 9 0 59,lo 10 (.nilCheck (.tmp 9)) 0,lo 11 (.fieldAddr 61 (.tmp 10) 1) 0,lo 12 (.load 3 (.tmp 11)) 3,lo 13 (.call ⟨.value (.func 44),#[.tmp 8,.tmp 12,.const (.int .i64 1)],#[9,3,3]⟩) 3,lo 3 (.assign (.tmp 13)) 3]
abbrev ref03_reader_digits_r3:List LO:=[lm 14 0 59,lo 15 (.nilCheck (.tmp 14)) 0,lo 16 (.fieldAddr 61 (.tmp 15) 0) 0,lo 17 (.load 9 (.tmp 16)) 9,lm 18 0 59,lo 19 (.nilCheck (.tmp 18)) 0,lo 20 (.fieldAddr 61 (.tmp 19) 1) 0,lo 21 (.load 3 (.tmp 20)) 3,lm 22 3 3,lo 23 (.slice 9 (.tmp 17) (some (.tmp 21)) (some (.tmp 22)) none) 9,lo 4 (.assign (.tmp 23)) 9]
abbrev ref03_reader_digits_r4:List LO:=[lm 24 0 59,lm 25 3 3,lo 26 (.nilCheck (.tmp 24)) 0,lo 27 (.fieldAddr 61 (.tmp 26) 1) 0,ln (.store 3 (.tmp 27) (.tmp 25)) 0]
abbrev ref03_reader_digits_r5:List LO:=[lm 28 4 9,lo 29 (.call ⟨.value (.func 98),#[.tmp 28],#[9]⟩) 9,lo 2 (.assign (.tmp 29)) 9]
abbrev ref03_reader_digits_c:LC:=.seq (.reg false ref03_reader_digits_r1) (.seq (.reg true ref03_reader_digits_r2) (.seq (.reg true ref03_reader_digits_r3) (.seq (.reg false ref03_reader_digits_r4) (.seq (.reg false ref03_reader_digits_r5) .ret))))
theorem ref03_reader_digits_k:FnOk E 45 30 [.tmp 2] ref03_reader_digits_c:=⟨⟨Go.Proofs.Tryz.f45,by kernel_rfl,by kernel_rfl,by kernel_rfl,by kernel_rfl,by kernel_rfl⟩,rfl,rfl⟩
abbrev ref03_reader_digits_T (a0:Str) (a1:Int) (a2:Int) (a3:Int) (r:Str × Int):CS:=⟨[V 2 (bs r.1)],[W 0 4 [bs a0,iv r.2,iv a2,iv a3]],1⟩
noncomputable def ref03_reader_digits (a0:Str) (a1:Int) (a2:Int) (a3:Int):Option (Str × Int):=Option.bind (ref01_Run a0 a1 1) (fun x6=>Option.bind (subl a0 a1 x6) (fun x7=>Option.bind (ref01_Trim x7) (fun x8=>some (x8,x6))))
theorem ref03_reader_digits_ok (a0:Str) (a1:Int) (a2:Int) (a3:Int):CtM E 45 [pt 0 4] [W 0 4 [bs a0,iv a1,iv a2,iv a3]] 1 (ref03_reader_digits a0 a1 a2 a3) (fun r:Str × Int=>bs r.1) (fun r:Str × Int=>[W 0 4 [bs a0,iv r.2,iv a2,iv a3]]) 1:=ctm_intro (N:=30) (L:=ref03_reader_digits_c) ref03_reader_digits_k rfl (Nat.le_of_ble_eq_true rfl) (fun F hF=>by
 unfold ref03_reader_digits
 refine jS ⟨[V 0 (pt 0 4)],[W 0 4 [bs a0,iv a1,iv a2,iv a3]],1⟩ ?_
 refine jR ?_
 refine jG 0 8 ⟨[V 0 (pt 0 4),V 8 (bs a0),V 12 (iv a1)],[W 0 4 [bs a0,iv a1,iv a2,iv a3]],1⟩ ?_
 refine jK 8 (ref01_Run_ok a0 a1 1) ?_
 intro x6 h6
 refine jG 9 1 ⟨[V 0 (pt 0 4),V 3 (iv x6)],[W 0 4 [bs a0,iv a1,iv a2,iv a3]],1⟩ ?_
 refine jN ?_
 refine jR ?_
 refine jG 0 9 ⟨[V 0 (pt 0 4),V 3 (iv x6),V 17 (bs a0),V 21 (iv a1),V 22 (iv x6)],[W 0 4 [bs a0,iv a1,iv a2,iv a3]],1⟩ ?_
 refine jr_part (i:=9) (mo:=subl a0 a1 x6) rfl rfl rfl rfl (fun _ hc=>aop_subs (by kernel_rfl) (by kernel_rfl) (by kernel_rfl) (by kernel_rfl) hc) (fun _=>rfl) ?_
 intro x7 h7
 refine jG 10 1 ⟨[V 0 (pt 0 4),V 3 (iv x6),V 4 (bs x7)],[W 0 4 [bs a0,iv a1,iv a2,iv a3]],1⟩ ?_
 refine jN ?_
 refine jS ⟨[V 4 (bs x7)],[W 0 4 [bs a0,iv x6,iv a2,iv a3]],1⟩ ?_
 refine jR ?_
 refine jG 0 1 ⟨[V 28 (bs x7)],[W 0 4 [bs a0,iv x6,iv a2,iv a3]],1⟩ ?_
 refine jK 1 (ref01_Trim_ok x7) ?_
 intro x8 h8
 refine jG 2 1 ⟨[V 2 (bs x8)],[W 0 4 [bs a0,iv x6,iv a2,iv a3]],1⟩ ?_
 refine jN ?_
 refine jc_ret ?_
 exact jx_retM (ref03_reader_digits_T a0 a1 a2 a3 (x8,x6)) (.inr rfl) (wkR [(0,some 0)] (fix_of hF (k:=1) rfl) (pc (hC 0) allp_nil)))
abbrev ref03_reader_byteIs_s52fb_r1:List LO:=[lo 6 (.assign (.const (.bool false))) 4]
abbrev ref03_reader_byteIs_s52fb_r2:List LO:=[lm 7 0 59,lo 8 (.nilCheck (.tmp 7)) 0,lo 9 (.fieldAddr 61 (.tmp 8) 1) 0,lo 10 (.load 3 (.tmp 9)) 3,lm 11 1 3,lo 12 (.binOp .add 3 (.tmp 10) (.tmp 11) 3) 3,lm 13 0 59,lo 14 (.nilCheck (.tmp 13)) 0,lo 15 (.fieldAddr 61 (.tmp 14) 0) 0,lo 16 (.load 9 (.tmp 15)) 9,lo 17 (.call ⟨.builtin .len,#[.tmp 16],#[9]⟩) 3,lo 18 (.binOp .lss 3 (.tmp 12) (.tmp 17) 3) 4,lm 19 18 4,lmg 20 0 59 19 true,lg 21 (.nilCheck (.tmp 20)) 0 19 true,lg 22 (.fieldAddr 61 (.tmp 21) 0) 0 19 true,lg 23 (.load 9 (.tmp 22)) 9 19 true,lmg 24 0 59 19 true,lg 25 (.nilCheck (.tmp 24)) 0 19 true,lg 26 (.fieldAddr 61 (.tmp 25) 1) 0 19 true,lg 27 (.load 3 (.tmp 26)) 3 19 true,lmg 28 1 3 19 true,lg 29 (.binOp .add 3 (.tmp 27) (.tmp 28) 3) 3 19 true,lg 30 (.index 9 (.tmp 23) (.tmp 29)) 5 19 true,lmg 31 2 3 19 true,lg 32 (.call ⟨.value (.func 97),#[.tmp 30,.tmp 31],#[5,3]⟩) 4 19 true,lo 33 (.pick (.tmp 19) (.tmp 32) (.const (.bool false))) 4,lo 6 (.assign (.tmp 33)) 4]
abbrev ref03_reader_byteIs_s52fb_c:LC:=.seq (.reg false ref03_reader_byteIs_s52fb_r1) (.seq (.reg true ref03_reader_byteIs_s52fb_r2) .ret)
theorem ref03_reader_byteIs_s52fb_k:FnOk E 46 34 [.tmp 6] ref03_reader_byteIs_s52fb_c:=⟨⟨Go.Proofs.Tryz.f46,by kernel_rfl,by kernel_rfl,by kernel_rfl,by kernel_rfl,by kernel_rfl⟩,rfl,rfl⟩
noncomputable def ref03_reader_byteIs_s52fb (a0:Str) (a1:Int) (a2:Int) (a3:Int) (a4:Int) (a5:Int):Option (Bool):=Option.bind (if (decide ((w64 (a1 + a4)) < (List.length a0:Int)))=true then Option.bind (idx a0 (w64 (a1 + a4))) (fun x4=>Option.bind (ref01_Is x4 a5) (fun x5=>some x5)) else some false:Option (Bool)) (fun x3=>some x3)
theorem ref03_reader_byteIs_s52fb_ok (a0:Str) (a1:Int) (a2:Int) (a3:Int) (a4:Int) (a5:Int):Ct E 46 [.fptr [bs a0,iv a1,iv a2,iv a3] 0,iv a4,iv a5] (ref03_reader_byteIs_s52fb a0 a1 a2 a3 a4 a5) (fun r:Bool=>bv r):=ct_intro (N:=34) (L:=ref03_reader_byteIs_s52fb_c) ref03_reader_byteIs_s52fb_k rfl (Nat.le_of_ble_eq_true rfl) (by kernel_rfl) (by
 unfold ref03_reader_byteIs_s52fb
 refine jS ⟨[V 0 (.fptr [bs a0,iv a1,iv a2,iv a3] 0),V 1 (iv a4),V 2 (iv a5)],[],0⟩ ?_
 refine jR ?_
 refine jG 0 13 ⟨[V 0 (.fptr [bs a0,iv a1,iv a2,iv a3] 0),V 1 (iv a4),V 2 (iv a5),V 19 (bv (decide ((w64 (a1 + a4)) < (List.length a0:Int))))],[],0⟩ ?_
 refine jr_bind 13 14 (fun x3=>⟨[V 33 (bv x3)],[],0⟩) ?_ ?_
 ·refine jSp 19 ?_ ?_
  ·refine jG 0 10 ⟨[V 2 (iv a5),(19,.lit true),V 23 (bs a0),V 29 (iv (w64 (a1 + a4)))],[],0⟩ ?_
   refine jr_part (i:=10) (mo:=idx a0 (w64 (a1 + a4))) rfl rfl rfl rfl (fun _ hc=>aop_index (kk:=.i64) (by kernel_rfl) (by kernel_rfl) (by kernel_rfl) hc) (fun _=>rfl) ?_
   intro x4 h4
   refine jG 11 1 ⟨[(19,.lit true),V 30 (.s (.int .u8 x4)),V 31 (iv a5)],[],0⟩ ?_
   refine jK 12 (ref01_Is_ok x4 a5) ?_
   intro x5 h5
   refine jG 13 1 ⟨[V 33 (bv x5)],[],0⟩ ?_
   refine jr_nil rfl ?_
   exact jx_mid rfl (wkR [] (fix_nil _) allp_nil)
  refine jG 0 14 ⟨[V 33 (bv false)],[],0⟩ ?_
  refine jr_nil rfl ?_
  exact jx_mid rfl (wkR [] (fix_nil _) allp_nil)
 intro x3
 refine jG 27 1 ⟨[V 6 (bv x3)],[],0⟩ ?_
 refine jN ?_
 refine jc_ret ?_
 exact jx_retF (.inr rfl) (v:=bv x3) (by kernel_rfl) rfl (fle_refl _))
abbrev ref03_reader_fail_r1:List LO:=[lm 3 0 59,lo 4 (.nilCheck (.tmp 3)) 0,lo 5 (.fieldAddr 61 (.tmp 4) 2) 0,lo 6 (.fieldAddr 27 (.tmp 5) 0) 0,lo 7 (.load 25 (.tmp 6)) 25,lo 8 (.binOp .neq 25 (.tmp 7) (.const (.int .i64 0)) 25) 4]
abbrev ref03_reader_fail_r2:List LO:=[lo 2 (.assign (.const (.int .i64 10))) 25]
abbrev ref03_reader_fail_r3:List LO:=[lm 9 0 59,lo 10 (.nilCheck (.tmp 9)) 0,lo 11 (.fieldAddr 61 (.tmp 10) 1) 0,lo 12 (.load 3 (.tmp 11)) 3,lm 13 0 59,lo 14 (.nilCheck (.tmp 13)) 0,lo 15 (.fieldAddr 61 (.tmp 14) 0) 0,lo 16 (.load 9 (.tmp 15)) 9,lo 17 (.call ⟨.builtin .len,#[.tmp 16],#[9]⟩) 3,lo 18 (.binOp .geq 3 (.tmp 12) (.tmp 17) 3) 4]
abbrev ref03_reader_fail_r4:List LO:=[lo 2 (.assign (.const (.int .i64 11))) 25]
abbrev ref03_reader_fail_r5:List LO:=[lm 19 0 59,lm 20 2 25,lm 21 0 59,lo 22 (.nilCheck (.tmp 21)) 0,lo 23 (.fieldAddr 61 (.tmp 22) 1) 0,lo 24 (.load 3 (.tmp 23)) 3,lo 25 (.build 27 #[(0,.tmp 20),(1,.tmp 24)]) 27,lo 26 (.nilCheck (.tmp 19)) 0,lo 27 (.fieldAddr 61 (.tmp 26) 2) 0,ln (.store 27 (.tmp 27) (.tmp 25)) 0]
abbrev ref03_reader_fail_c:LC:=.seq (.seq (.reg false ref03_reader_fail_r1) (.cond (.tmp 8) .ret .skip)) (.seq (.reg false ref03_reader_fail_r2) (.seq (.seq (.reg true ref03_reader_fail_r3) (.cond (.tmp 18) (.reg false ref03_reader_fail_r4) .skip)) (.reg false ref03_reader_fail_r5)))
theorem ref03_reader_fail_k:FnOk E 47 28 [] ref03_reader_fail_c:=⟨⟨Go.Proofs.Tryz.f47,by kernel_rfl,by kernel_rfl,by kernel_rfl,by kernel_rfl,by kernel_rfl⟩,rfl,rfl⟩
abbrev ref03_reader_fail_T (a0:Str) (a1:Int) (a2:Int) (a3:Int) (r:Int × Int):CS:=⟨[],[W 0 4 [bs a0,iv a1,iv r.1,iv r.2]],1⟩
noncomputable def ref03_reader_fail (a0:Str) (a1:Int) (a2:Int) (a3:Int):Option (Int × Int):=(if (a2 != 0)=true then some (a2,a3) else Option.bind ((if (decide (a1≥(List.length a0:Int)))=true then some 11 else some 10):Option (Int)) (fun x4=>some (x4,a1)))
theorem ref03_reader_fail_ok (a0:Str) (a1:Int) (a2:Int) (a3:Int):CtM E 47 [pt 0 4] [W 0 4 [bs a0,iv a1,iv a2,iv a3]] 1 (ref03_reader_fail a0 a1 a2 a3) (fun r:Int × Int=>.tup []) (fun r:Int × Int=>[W 0 4 [bs a0,iv a1,iv r.1,iv r.2]]) 1:=ctm_intro (N:=28) (L:=ref03_reader_fail_c) ref03_reader_fail_k rfl (Nat.le_of_ble_eq_true rfl) (fun F hF=>by
 unfold ref03_reader_fail
 refine jc_seq ?_
 refine jS ⟨[V 0 (pt 0 4),V 8 (bv (a2 != 0))],[W 0 4 [bs a0,iv a1,iv a2,iv a3]],1⟩ ?_
 refine jIf ?_ ?_
 ·refine jc_ret ?_
  refine jx_seqR ?_
  exact jx_retM (ref03_reader_fail_T a0 a1 a2 a3 (a2,a3)) (.inr rfl) (wkR [(0,some 0)] (fix_of hF (k:=1) rfl) (pc (hC 0) allp_nil))
 refine jc_skip ?_
 refine jx_seqN ?_
 refine jS ⟨[V 0 (pt 0 4),V 2 (iv 10)],[W 0 4 [bs a0,iv a1,iv a2,iv a3]],1⟩ ?_
 refine jc_seq ?_
 refine jc_bind (fun x4=>⟨[V 0 (pt 0 4),V 2 (iv x4)],[W 0 4 [bs a0,iv a1,iv a2,iv a3]],1⟩) (fun x4=>.normal) ?_ ?_
 ·refine jS ⟨[V 0 (pt 0 4),V 2 (iv 10),V 18 (bv (decide (a1≥(List.length a0:Int))))],[W 0 4 [bs a0,iv a1,iv a2,iv a3]],1⟩ ?_
  refine jIf ?_ ?_
  ·refine jT ⟨[V 0 (pt 0 4),V 2 (iv 11)],[W 0 4 [bs a0,iv a1,iv a2,iv a3]],1⟩ ?_
   exact jx_mid rfl (wkR [(0,some 0)] (fix_of hF (k:=1) rfl) (pc (hC 0) allp_nil))
  refine jc_skip ?_
  exact jx_mid rfl (wkR [(0,some 0)] (fix_of hF (k:=1) rfl) (pc (hC 0) allp_nil))
 intro x4
 refine jx_seqN ?_
 refine jT ⟨[],[W 0 4 [bs a0,iv a1,iv x4,iv a1]],1⟩ ?_
 exact jx_retM (ref03_reader_fail_T a0 a1 a2 a3 (x4,a1)) (.inl rfl) (wkR [(0,some 0)] (fix_of hF (k:=1) rfl) (pc (hC 0) allp_nil)))
abbrev ref03_mark_r1:List LO:=[lo 2 (.assign (.const (.bool false))) 4]
abbrev ref03_mark_r2:List LO:=[lm 3 0 5,lo 4 (.binOp .eql 5 (.tmp 3) (.const (.int .u8 45)) 5) 4,lm 5 4 4,lmg 6 0 5 5 false,lg 7 (.binOp .eql 5 (.tmp 6) (.const (.int .u8 95)) 5) 4 5 false,lo 8 (.pick (.tmp 5) (.const (.bool true)) (.tmp 7)) 4,lm 9 8 4,lmg 10 0 5 9 false,lg 11 (.binOp .eql 5 (.tmp 10) (.const (.int .u8 46)) 5) 4 9 false,lo 12 (.pick (.tmp 9) (.const (.bool true)) (.tmp 11)) 4,lo 2 (.assign (.tmp 12)) 4]
abbrev ref03_mark_c:LC:=.seq (.reg false ref03_mark_r1) (.seq (.reg false ref03_mark_r2) .ret)
theorem ref03_mark_k:FnOk E 135 13 [.tmp 2] ref03_mark_c:=⟨⟨Go.Proofs.Tryz.f135,by kernel_rfl,by kernel_rfl,by kernel_rfl,by kernel_rfl,by kernel_rfl⟩,rfl,rfl⟩
noncomputable def ref03_mark (a0:Int):Option (Bool):=some (((a0 == 45) || (a0 == 95)) || (a0 == 46))
theorem ref03_mark_ok (a0:Int):Ct E 135 [.s (.int .u8 a0)] (ref03_mark a0) (fun r:Bool=>bv r):=ct_intro (N:=13) (L:=ref03_mark_c) ref03_mark_k rfl (Nat.le_of_ble_eq_true rfl) (by kernel_rfl) (by
 unfold ref03_mark
 refine jS ⟨[V 0 (.s (.int .u8 a0))],[],0⟩ ?_
 refine jS ⟨[V 2 (bv (((a0 == 45) || (a0 == 95)) || (a0 == 46)))],[],0⟩ ?_
 refine jc_ret ?_
 exact jx_retF (.inr rfl) (v:=bv (((a0 == 45) || (a0 == 95)) || (a0 == 46))) (by kernel_rfl) rfl (fle_refl _))
abbrev ref03_reader_markAt_sb17f_r1:List LO:=[lo 4 (.assign (.const (.bool false))) 4]
abbrev ref03_reader_markAt_sb17f_r2:List LO:=[lm 5 0 59,lo 6 (.nilCheck (.tmp 5)) 0,lo 7 (.fieldAddr 61 (.tmp 6) 1) 0,lo 8 (.load 3 (.tmp 7)) 3,lm 9 1 3,lo 10 (.binOp .add 3 (.tmp 8) (.tmp 9) 3) 3,lm 11 0 59,lo 12 (.nilCheck (.tmp 11)) 0,lo 13 (.fieldAddr 61 (.tmp 12) 0) 0,lo 14 (.load 9 (.tmp 13)) 9,lo 15 (.call ⟨.builtin .len,#[.tmp 14],#[9]⟩) 3,lo 16 (.binOp .lss 3 (.tmp 10) (.tmp 15) 3) 4,lm 17 16 4,lmg 18 0 59 17 true,lg 19 (.nilCheck (.tmp 18)) 0 17 true,lg 20 (.fieldAddr 61 (.tmp 19) 0) 0 17 true,lg 21 (.load 9 (.tmp 20)) 9 17 true,lmg 22 0 59 17 true,lg 23 (.nilCheck (.tmp 22)) 0 17 true,lg 24 (.fieldAddr 61 (.tmp 23) 1) 0 17 true,lg 25 (.load 3 (.tmp 24)) 3 17 true,lmg 26 1 3 17 true,lg 27 (.binOp .add 3 (.tmp 25) (.tmp 26) 3) 3 17 true,lg 28 (.index 9 (.tmp 21) (.tmp 27)) 5 17 true,lg 29 (.call ⟨.value (.func 135),#[.tmp 28],#[5]⟩) 4 17 true,lo 30 (.pick (.tmp 17) (.tmp 29) (.const (.bool false))) 4,lo 4 (.assign (.tmp 30)) 4]
abbrev ref03_reader_markAt_sb17f_c:LC:=.seq (.reg false ref03_reader_markAt_sb17f_r1) (.seq (.reg true ref03_reader_markAt_sb17f_r2) .ret)
theorem ref03_reader_markAt_sb17f_k:FnOk E 99 31 [.tmp 4] ref03_reader_markAt_sb17f_c:=⟨⟨Go.Proofs.Tryz.f99,by kernel_rfl,by kernel_rfl,by kernel_rfl,by kernel_rfl,by kernel_rfl⟩,rfl,rfl⟩
noncomputable def ref03_reader_markAt_sb17f (a0:Str) (a1:Int) (a2:Int) (a3:Int) (a4:Int):Option (Bool):=Option.bind (if (decide ((w64 (a1 + a4)) < (List.length a0:Int)))=true then Option.bind (idx a0 (w64 (a1 + a4))) (fun x4=>Option.bind (ref03_mark x4) (fun x5=>some x5)) else some false:Option (Bool)) (fun x3=>some x3)
theorem ref03_reader_markAt_sb17f_ok (a0:Str) (a1:Int) (a2:Int) (a3:Int) (a4:Int):Ct E 99 [.fptr [bs a0,iv a1,iv a2,iv a3] 0,iv a4] (ref03_reader_markAt_sb17f a0 a1 a2 a3 a4) (fun r:Bool=>bv r):=ct_intro (N:=31) (L:=ref03_reader_markAt_sb17f_c) ref03_reader_markAt_sb17f_k rfl (Nat.le_of_ble_eq_true rfl) (by kernel_rfl) (by
 unfold ref03_reader_markAt_sb17f
 refine jS ⟨[V 0 (.fptr [bs a0,iv a1,iv a2,iv a3] 0),V 1 (iv a4)],[],0⟩ ?_
 refine jR ?_
 refine jG 0 13 ⟨[V 0 (.fptr [bs a0,iv a1,iv a2,iv a3] 0),V 1 (iv a4),V 17 (bv (decide ((w64 (a1 + a4)) < (List.length a0:Int))))],[],0⟩ ?_
 refine jr_bind 13 13 (fun x3=>⟨[V 30 (bv x3)],[],0⟩) ?_ ?_
 ·refine jSp 17 ?_ ?_
  ·refine jG 0 10 ⟨[(17,.lit true),V 21 (bs a0),V 27 (iv (w64 (a1 + a4)))],[],0⟩ ?_
   refine jr_part (i:=10) (mo:=idx a0 (w64 (a1 + a4))) rfl rfl rfl rfl (fun _ hc=>aop_index (kk:=.i64) (by kernel_rfl) (by kernel_rfl) (by kernel_rfl) hc) (fun _=>rfl) ?_
   intro x4 h4
   refine jK 11 (ref03_mark_ok x4) ?_
   intro x5 h5
   refine jG 12 1 ⟨[V 30 (bv x5)],[],0⟩ ?_
   refine jr_nil rfl ?_
   exact jx_mid rfl (wkR [] (fix_nil _) allp_nil)
  refine jG 0 13 ⟨[V 30 (bv false)],[],0⟩ ?_
  refine jr_nil rfl ?_
  exact jx_mid rfl (wkR [] (fix_nil _) allp_nil)
 intro x3
 refine jG 26 1 ⟨[V 4 (bv x3)],[],0⟩ ?_
 refine jN ?_
 refine jc_ret ?_
 exact jx_retF (.inr rfl) (v:=bv x3) (by kernel_rfl) rfl (fle_refl _))
abbrev ref03_reader_word_r1:List LO:=[lo 4 (.assign (.const (.string ⟨#[]⟩))) 9,lo 5 (.assign (.const (.bool false))) 4]
abbrev ref03_reader_word_r2:List LO:=[lo 6 (.assign (.const (.int .i64 0))) 3]
abbrev ref03_reader_word_r3:List LO:=[lm 9 0 59,lo 10 (.call ⟨.value (.func 99),#[.tmp 9,.const (.int .i64 0)],#[59,3]⟩) 4]
abbrev ref03_reader_word_r4:List LO:=[lo 6 (.assign (.const (.int .i64 1))) 3]
abbrev ref03_reader_word_r5:List LO:=[lm 12 0 59,lo 13 (.nilCheck (.tmp 12)) 0,lo 14 (.fieldAddr 61 (.tmp 13) 0) 0,lo 15 (.load 9 (.tmp 14)) 9,lm 16 0 59,lo 17 (.nilCheck (.tmp 16)) 0,lo 18 (.fieldAddr 61 (.tmp 17) 1) 0,lo 19 (.load 3 (.tmp 18)) 3,lm 20 6 3,lo 21 (.binOp .add 3 (.tmp 19) (.tmp 20) 3) 3,lm 22 1 22,lo 23 (.call ⟨.value (.func 100),#[.tmp 15,.tmp 21,.tmp 22],#[9,3,22]⟩) 55,lm 11 23 55,lo 24 (.extract (.tmp 11) 0) 9,lo 25 (.extract (.tmp 11) 1) 4,lo 7 (.assign (.tmp 24)) 9,lo 8 (.assign (.tmp 25)) 4]
abbrev ref03_reader_word_r6:List LO:=[lm 26 8 4]
abbrev ref03_reader_word_r7:List LO:=[lm 27 0 59,lm 28 0 59,lo 29 (.nilCheck (.tmp 28)) 0,lo 30 (.fieldAddr 61 (.tmp 29) 1) 0,lo 31 (.load 3 (.tmp 30)) 3,lm 32 6 3,lo 33 (.binOp .add 3 (.tmp 31) (.tmp 32) 3) 3,lm 34 7 9,lo 35 (.call ⟨.builtin .len,#[.tmp 34],#[9]⟩) 3,lo 36 (.binOp .add 3 (.tmp 33) (.tmp 35) 3) 3,lo 37 (.nilCheck (.tmp 27)) 0,lo 38 (.fieldAddr 61 (.tmp 37) 1) 0,ln (.store 3 (.tmp 38) (.tmp 36)) 0]
abbrev ref03_reader_word_r8:List LO:=[lm 39 7 9,lm 40 8 4,lo 4 (.assign (.tmp 39)) 9,lo 5 (.assign (.tmp 40)) 4]
abbrev ref03_reader_word_c:LC:=.seq (.reg false ref03_reader_word_r1) (.seq (.reg false ref03_reader_word_r2) (.seq (.seq (.reg false ref03_reader_word_r3) (.cond (.tmp 10) (.reg false ref03_reader_word_r4) .skip)) (.seq (.reg true ref03_reader_word_r5) (.seq (.seq (.reg false ref03_reader_word_r6) (.cond (.tmp 26) (.reg false ref03_reader_word_r7) .skip)) (.seq (.reg false ref03_reader_word_r8) .ret)))))
theorem ref03_reader_word_k:FnOk E 48 41 [.tmp 4,.tmp 5] ref03_reader_word_c:=⟨⟨Go.Proofs.Tryz.f48,by kernel_rfl,by kernel_rfl,by kernel_rfl,by kernel_rfl,by kernel_rfl⟩,rfl,rfl⟩
abbrev ref03_reader_word_T (a0:Str) (a1:Int) (a2:Int) (a3:Int) (a4:List Str) (r:Str × Bool × Int):CS:=⟨[V 4 (bs r.1),V 5 (bv r.2.1)],[W 0 4 [bs a0,iv r.2.2,iv a2,iv a3],(1,.rows 1 (List.map cS a4))],2⟩
noncomputable def ref03_reader_word (a0:Str) (a1:Int) (a2:Int) (a3:Int) (a4:List Str):Option (Str × Bool × Int):=Option.bind (Option.bind (ref03_reader_markAt_sb17f a0 a1 a2 a3 0) (fun x10=>(if x10=true then some 1 else some 0)):Option (Int)) (fun x9=>Option.bind (ref01_Word a0 (w64 (a1 + x9)) a4) (fun x11=>Option.bind ((if x11.2=true then some (w64 ((w64 (a1 + x9)) + (List.length x11.1:Int))) else some a1):Option (Int)) (fun x12=>some (x11.1,x11.2,x12))))
theorem ref03_reader_word_ok (a0:Str) (a1:Int) (a2:Int) (a3:Int) (a4:List Str):CtM E 48 [pt 0 4,.osl 1 0 (List.length a4) 1] [W 0 4 [bs a0,iv a1,iv a2,iv a3],(1,.rows 1 (List.map cS a4))] 2 (ref03_reader_word a0 a1 a2 a3 a4) (fun r:Str × Bool × Int=>.tup [bs r.1,bv r.2.1]) (fun r:Str × Bool × Int=>[W 0 4 [bs a0,iv r.2.2,iv a2,iv a3],(1,.rows 1 (List.map cS a4))]) 2:=ctm_intro (N:=41) (L:=ref03_reader_word_c) ref03_reader_word_k rfl (Nat.le_of_ble_eq_true rfl) (fun F hF=>by
 unfold ref03_reader_word
 refine jS ⟨[V 0 (pt 0 4),V 1 (.osl 1 0 (List.length a4) 1)],[W 0 4 [bs a0,iv a1,iv a2,iv a3],(1,.rows 1 (List.map cS a4))],2⟩ ?_
 refine jS ⟨[V 0 (pt 0 4),V 1 (.osl 1 0 (List.length a4) 1),V 6 (iv 0)],[W 0 4 [bs a0,iv a1,iv a2,iv a3],(1,.rows 1 (List.map cS a4))],2⟩ ?_
 refine jc_seq ?_
 refine jc_bind (fun x9=>⟨[V 0 (pt 0 4),V 1 (.osl 1 0 (List.length a4) 1),V 6 (iv x9)],[W 0 4 [bs a0,iv a1,iv a2,iv a3],(1,.rows 1 (List.map cS a4))],2⟩) (fun x9=>.normal) ?_ ?_
 ·refine jR ?_
  refine jG 0 1 ⟨[V 0 (pt 0 4),V 1 (.osl 1 0 (List.length a4) 1),V 6 (iv 0),V 9 (pt 0 4)],[W 0 4 [bs a0,iv a1,iv a2,iv a3],(1,.rows 1 (List.map cS a4))],2⟩ ?_
  refine jr_callF (i:=1) rfl rfl rfl rfl (vs:=[pt 0 4,iv 0]) (vs0:=[.fptr [bs a0,iv a1,iv a2,iv a3] 0,iv 0]) (b:=true) (by kernel_rfl) (by kernel_rfl) (all2_cons (fle_refl _) (all2_cons (fle_refl _) all2_nil)) (ref03_reader_markAt_sb17f_ok a0 a1 a2 a3 0) (fun _=>rfl) (fun _=>rfl) ?_
  intro x10 h10
  refine jN ?_
  refine jIf ?_ ?_
  ·refine jT ⟨[V 0 (pt 0 4),V 1 (.osl 1 0 (List.length a4) 1),V 6 (iv 1)],[W 0 4 [bs a0,iv a1,iv a2,iv a3],(1,.rows 1 (List.map cS a4))],2⟩ ?_
   exact jx_mid rfl (wkR [(0,some 0),(1,some 1)] (fix_of hF (k:=2) rfl) (pc (hC 0) (pc (hL 1 (noid_map ni_S _)) allp_nil)))
  refine jc_skip ?_
  exact jx_mid rfl (wkR [(0,some 0),(1,some 1)] (fix_of hF (k:=2) rfl) (pc (hC 0) (pc (hL 1 (noid_map ni_S _)) allp_nil)))
 intro x9
 refine jx_seqN ?_
 refine jR ?_
 refine jG 0 11 ⟨[V 0 (pt 0 4),V 6 (iv x9),V 15 (bs a0),V 21 (iv (w64 (a1 + x9))),V 22 (.osl 1 0 (List.length a4) 1)],[W 0 4 [bs a0,iv a1,iv a2,iv a3],(1,.rows 1 (List.map cS a4))],2⟩ ?_
 refine jr_callF (i:=11) rfl rfl rfl rfl (vs:=[bs a0,iv (w64 (a1 + x9)),.osl 1 0 (List.length a4) 1]) (by kernel_rfl) (snapL_cons rfl (snapL_cons rfl (snapL_cons (snapc_own fz_S (by kernel_rfl)) (snapL_nil _)))) (all2_cons (fle_refl _) (all2_cons (fle_refl _) (all2_cons (fle_refl _) all2_nil))) (ref01_Word_ok a0 (w64 (a1 + x9)) a4) (fun _=>rfl) (fun _=>rfl) ?_
 intro x11 h11
 refine jG 12 5 ⟨[V 0 (pt 0 4),V 6 (iv x9),V 7 (bs x11.1),V 8 (bv x11.2)],[W 0 4 [bs a0,iv a1,iv a2,iv a3],(1,.rows 1 (List.map cS a4))],2⟩ ?_
 refine jN ?_
 refine jc_seq ?_
 refine jc_bind (fun x12=>⟨[V 7 (bs x11.1),V 8 (bv x11.2)],[W 0 4 [bs a0,iv x12,iv a2,iv a3],(1,.rows 1 (List.map cS a4))],2⟩) (fun x12=>.normal) ?_ ?_
 ·refine jS ⟨[V 0 (pt 0 4),V 6 (iv x9),V 7 (bs x11.1),V 8 (bv x11.2),V 26 (bv x11.2)],[W 0 4 [bs a0,iv a1,iv a2,iv a3],(1,.rows 1 (List.map cS a4))],2⟩ ?_
  refine jIf ?_ ?_
  ·refine jT ⟨[V 7 (bs x11.1),V 8 (bv x11.2)],[W 0 4 [bs a0,iv (w64 ((w64 (a1 + x9)) + (List.length x11.1:Int))),iv a2,iv a3],(1,.rows 1 (List.map cS a4))],2⟩ ?_
   exact jx_mid rfl (wkR [(0,some 0),(1,some 1)] (fix_of hF (k:=2) rfl) (pc (hC 0) (pc (hL 1 (noid_map ni_S _)) allp_nil)))
  refine jc_skip ?_
  exact jx_mid rfl (wkR [(0,some 0),(1,some 1)] (fix_of hF (k:=2) rfl) (pc (hC 0) (pc (hL 1 (noid_map ni_S _)) allp_nil)))
 intro x12
 refine jx_seqN ?_
 refine jS ⟨[V 4 (bs x11.1),V 5 (bv x11.2)],[W 0 4 [bs a0,iv x12,iv a2,iv a3],(1,.rows 1 (List.map cS a4))],2⟩ ?_
 refine jc_ret ?_
 exact jx_retM (ref03_reader_word_T a0 a1 a2 a3 a4 (x11.1,x11.2,x12)) (.inr rfl) (wkR [(0,some 0),(1,some 1)] (fix_of hF (k:=2) rfl) (pc (hC 0) (pc (hL 1 (noid_map ni_S _)) allp_nil))))
abbrev ref03_letter_r1:List LO:=[lo 2 (.assign (.const (.int .u8 0))) 5]
abbrev ref03_letter_r2:List LO:=[lm 3 0 9]
abbrev ref03_letter_r3:List LO:=[lo 5 (.binOp .eql 9 (.tmp 3) (.const (.string ⟨#[97,108,112,104,97]⟩)) 9) 4,lo 4 (.assign (.tmp 5)) 4]
abbrev ref03_letter_r4:List LO:=[lo 6 (.binOp .eql 9 (.tmp 3) (.const (.string ⟨#[97]⟩)) 9) 4,lo 4 (.assign (.tmp 6)) 4]
abbrev ref03_letter_r5:List LO:=[lo 2 (.assign (.const (.int .u8 97))) 5]
abbrev ref03_letter_r6:List LO:=[lo 8 (.binOp .eql 9 (.tmp 3) (.const (.string ⟨#[98,101,116,97]⟩)) 9) 4,lo 7 (.assign (.tmp 8)) 4]
abbrev ref03_letter_r7:List LO:=[lo 9 (.binOp .eql 9 (.tmp 3) (.const (.string ⟨#[98]⟩)) 9) 4,lo 7 (.assign (.tmp 9)) 4]
abbrev ref03_letter_r8:List LO:=[lo 2 (.assign (.const (.int .u8 98))) 5]
abbrev ref03_letter_r9:List LO:=[lo 2 (.assign (.const (.int .u8 114))) 5]
abbrev ref03_letter_c:LC:=.seq (.reg false ref03_letter_r1) (.seq (.seq (.reg false ref03_letter_r2) (.block 0 (.seq (.seq (.reg false ref03_letter_r3) (.cond (.tmp 4) .skip (.reg false ref03_letter_r4))) (.cond (.tmp 4) (.seq (.reg false ref03_letter_r5) .ret) (.seq (.seq (.reg false ref03_letter_r6) (.cond (.tmp 7) .skip (.reg false ref03_letter_r7))) (.cond (.tmp 7) (.seq (.reg false ref03_letter_r8) .ret) .skip)))))) (.seq (.reg false ref03_letter_r9) .ret))
theorem ref03_letter_k:FnOk E 49 10 [.tmp 2] ref03_letter_c:=⟨⟨Go.Proofs.Tryz.f49,by kernel_rfl,by kernel_rfl,by kernel_rfl,by kernel_rfl,by kernel_rfl⟩,rfl,rfl⟩
noncomputable def ref03_letter (a0:Str):Option (Int):=Option.bind ((if (a0 == [97,108,112,104,97])=true then some true else some (a0 == [97])):Option (Bool)) (fun x1=>(if x1=true then some 97 else Option.bind ((if (a0 == [98,101,116,97])=true then some true else some (a0 == [98])):Option (Bool)) (fun x2=>(if x2=true then some 98 else some 114))))
theorem ref03_letter_ok (a0:Str):Ct E 49 [bs a0] (ref03_letter a0) (fun r:Int=>.s (.int .u8 r)):=ct_intro (N:=10) (L:=ref03_letter_c) ref03_letter_k rfl (Nat.le_of_ble_eq_true rfl) (by kernel_rfl) (by
 unfold ref03_letter
 refine jS ⟨[V 0 (bs a0)],[],0⟩ ?_
 refine jc_seq ?_
 refine jS ⟨[V 3 (bs a0)],[],0⟩ ?_
 refine jc_block ?_
 refine jc_seq ?_
 refine jc_bind (fun x1=>⟨[V 3 (bs a0),V 4 (bv x1)],[],0⟩) (fun x1=>.normal) ?_ ?_
 ·refine jS ⟨[V 3 (bs a0),V 4 (bv (a0 == [97,108,112,104,97]))],[],0⟩ ?_
  refine jIf ?_ ?_
  ·refine jc_skip ?_
   exact jx_mid rfl (wkR [] (fix_nil _) allp_nil)
  refine jT ⟨[V 3 (bs a0),V 4 (bv (a0 == [97]))],[],0⟩ ?_
  exact jx_mid rfl (wkR [] (fix_nil _) allp_nil)
 intro x1
 refine jx_seqN ?_
 refine jIf ?_ ?_
 ·refine jS ⟨[V 2 (.s (.int .u8 97))],[],0⟩ ?_
  refine jc_ret ?_
  refine jx_blkR ?_
  refine jx_seqR ?_
  exact jx_retF (.inr rfl) (v:=.s (.int .u8 97)) (by kernel_rfl) rfl (fle_refl _)
 refine jc_seq ?_
 refine jc_bind (fun x2=>⟨[V 7 (bv x2)],[],0⟩) (fun x2=>.normal) ?_ ?_
 ·refine jS ⟨[V 3 (bs a0),V 7 (bv (a0 == [98,101,116,97]))],[],0⟩ ?_
  refine jIf ?_ ?_
  ·refine jc_skip ?_
   exact jx_mid rfl (wkR [] (fix_nil _) allp_nil)
  refine jT ⟨[V 7 (bv (a0 == [98]))],[],0⟩ ?_
  exact jx_mid rfl (wkR [] (fix_nil _) allp_nil)
 intro x2
 refine jx_seqN ?_
 refine jIf ?_ ?_
 ·refine jS ⟨[V 2 (.s (.int .u8 98))],[],0⟩ ?_
  refine jc_ret ?_
  refine jx_blkR ?_
  refine jx_seqR ?_
  exact jx_retF (.inr rfl) (v:=.s (.int .u8 98)) (by kernel_rfl) rfl (fle_refl _)
 refine jc_skip ?_
 refine jx_blkN ?_
 refine jx_seqN ?_
 refine jS ⟨[V 2 (.s (.int .u8 114))],[],0⟩ ?_
 refine jc_ret ?_
 exact jx_retF (.inr rfl) (v:=.s (.int .u8 114)) (by kernel_rfl) rfl (fle_refl _))
abbrev ref03_reader_number_r1:List LO:=[lo 2 (.assign (.const (.string ⟨#[]⟩))) 9]
abbrev ref03_reader_number_r2:List LO:=[lm 3 0 59,lo 4 (.call ⟨.value (.func 99),#[.tmp 3,.const (.int .i64 0)],#[59,3]⟩) 4,lm 5 4 4,lmg 6 0 59 5 true,lg 7 (.call ⟨.value (.func 46),#[.tmp 6,.const (.int .i64 1),.const (.int .i64 1)],#[59,3,3]⟩) 4 5 true,lo 8 (.pick (.tmp 5) (.tmp 7) (.const (.bool false))) 4]
abbrev ref03_reader_number_r3:List LO:=[lm 9 0 59,lo 10 (.nilCheck (.tmp 9)) 0,lo 11 (.fieldAddr 61 (.tmp 10) 1) 0,lo 12 (.load 3 (.tmp 11)) 3,lo 13 (.binOp .add 3 (.tmp 12) (.const (.int .i64 1)) 3) 3,lo 14 (.nilCheck (.tmp 9)) 0,lo 15 (.fieldAddr 61 (.tmp 14) 1) 0,ln (.store 3 (.tmp 15) (.tmp 13)) 0]
abbrev ref03_reader_number_r4:List LO:=[lm 16 0 59,lo 17 (.call ⟨.value (.func 46),#[.tmp 16,.const (.int .i64 0),.const (.int .i64 1)],#[59,3,3]⟩) 4,lo 18 (.unOp .not 4 (.tmp 17)) 4]
abbrev ref03_reader_number_r5:List LO:=[lo 2 (.assign (.const (.string ⟨#[48]⟩))) 9]
abbrev ref03_reader_number_r6:List LO:=[lm 19 0 59,lo 20 (.call ⟨.value (.func 45),#[.tmp 19],#[59]⟩) 9,lo 2 (.assign (.tmp 20)) 9]
abbrev ref03_reader_number_c:LC:=.seq (.reg false ref03_reader_number_r1) (.seq (.seq (.reg false ref03_reader_number_r2) (.cond (.tmp 8) (.reg false ref03_reader_number_r3) .skip)) (.seq (.seq (.reg false ref03_reader_number_r4) (.cond (.tmp 18) (.seq (.reg false ref03_reader_number_r5) .ret) .skip)) (.seq (.reg false ref03_reader_number_r6) .ret)))
theorem ref03_reader_number_k:FnOk E 50 21 [.tmp 2] ref03_reader_number_c:=⟨⟨Go.Proofs.Tryz.f50,by kernel_rfl,by kernel_rfl,by kernel_rfl,by kernel_rfl,by kernel_rfl⟩,rfl,rfl⟩
abbrev ref03_reader_number_T (a0:Str) (a1:Int) (a2:Int) (a3:Int) (r:Str × Int):CS:=⟨[V 2 (bs r.1)],[W 0 4 [bs a0,iv r.2,iv a2,iv a3]],1⟩
noncomputable def ref03_reader_number (a0:Str) (a1:Int) (a2:Int) (a3:Int):Option (Str × Int):=Option.bind (Option.bind (ref03_reader_markAt_sb17f a0 a1 a2 a3 0) (fun x14=>Option.bind (if x14=true then Option.bind (ref03_reader_byteIs_s52fb a0 a1 a2 a3 1 1) (fun x17=>some x17) else some false:Option (Bool)) (fun x16=>(if x16=true then some (w64 (a1 + 1)) else some a1))):Option (Int)) (fun x13=>Option.bind (ref03_reader_byteIs_s52fb a0 x13 a2 a3 0 1) (fun x18=>(if (!x18)=true then some ([48],x13) else Option.bind (ref03_reader_digits a0 x13 a2 a3) (fun (x19,x20)=>some (x19,x20)))))
theorem ref03_reader_number_ok (a0:Str) (a1:Int) (a2:Int) (a3:Int):CtM E 50 [pt 0 4] [W 0 4 [bs a0,iv a1,iv a2,iv a3]] 1 (ref03_reader_number a0 a1 a2 a3) (fun r:Str × Int=>bs r.1) (fun r:Str × Int=>[W 0 4 [bs a0,iv r.2,iv a2,iv a3]]) 1:=ctm_intro (N:=21) (L:=ref03_reader_number_c) ref03_reader_number_k rfl (Nat.le_of_ble_eq_true rfl) (fun F hF=>by
 unfold ref03_reader_number
 refine jS ⟨[V 0 (pt 0 4)],[W 0 4 [bs a0,iv a1,iv a2,iv a3]],1⟩ ?_
 refine jc_seq ?_
 refine jc_bind (fun x13=>⟨[V 0 (pt 0 4)],[W 0 4 [bs a0,iv x13,iv a2,iv a3]],1⟩) (fun x13=>.normal) ?_ ?_
 ·refine jR ?_
  refine jG 0 1 ⟨[V 0 (pt 0 4),V 3 (pt 0 4)],[W 0 4 [bs a0,iv a1,iv a2,iv a3]],1⟩ ?_
  refine jr_callF (i:=1) rfl rfl rfl rfl (vs:=[pt 0 4,iv 0]) (vs0:=[.fptr [bs a0,iv a1,iv a2,iv a3] 0,iv 0]) (b:=true) (by kernel_rfl) (by kernel_rfl) (all2_cons (fle_refl _) (all2_cons (fle_refl _) all2_nil)) (ref03_reader_markAt_sb17f_ok a0 a1 a2 a3 0) (fun _=>rfl) (fun _=>rfl) ?_
  intro x14 h14
  refine jG 2 1 ⟨[V 0 (pt 0 4),V 5 (bv x14)],[W 0 4 [bs a0,iv a1,iv a2,iv a3]],1⟩ ?_
  refine jr_bind 3 3 (fun x16=>⟨[V 0 (pt 0 4),V 8 (bv x16)],[W 0 4 [bs a0,iv a1,iv a2,iv a3]],1⟩) ?_ ?_
  ·refine jSp 5 ?_ ?_
   ·refine jG 0 1 ⟨[V 0 (pt 0 4),(5,.lit true),V 6 (pt 0 4)],[W 0 4 [bs a0,iv a1,iv a2,iv a3]],1⟩ ?_
    refine jr_callF (i:=1) rfl rfl rfl rfl (vs:=[pt 0 4,iv 1,iv 1]) (vs0:=[.fptr [bs a0,iv a1,iv a2,iv a3] 0,iv 1,iv 1]) (b:=true) (by kernel_rfl) (by kernel_rfl) (all2_cons (fle_refl _) (all2_cons (fle_refl _) (all2_cons (fle_refl _) all2_nil))) (ref03_reader_byteIs_s52fb_ok a0 a1 a2 a3 1 1) (fun _=>rfl) (fun _=>rfl) ?_
    intro x17 h17
    refine jG 2 1 ⟨[V 0 (pt 0 4),V 8 (bv x17)],[W 0 4 [bs a0,iv a1,iv a2,iv a3]],1⟩ ?_
    refine jr_nil rfl ?_
    exact jx_mid rfl (wkR [(0,some 0)] (fix_of hF (k:=1) rfl) (pc (hC 0) allp_nil))
   refine jG 0 3 ⟨[V 0 (pt 0 4),V 8 (bv false)],[W 0 4 [bs a0,iv a1,iv a2,iv a3]],1⟩ ?_
   refine jr_nil rfl ?_
   exact jx_mid rfl (wkR [(0,some 0)] (fix_of hF (k:=1) rfl) (pc (hC 0) allp_nil))
  intro x16
  refine jN ?_
  refine jIf ?_ ?_
  ·refine jT ⟨[V 0 (pt 0 4)],[W 0 4 [bs a0,iv (w64 (a1 + 1)),iv a2,iv a3]],1⟩ ?_
   exact jx_mid rfl (wkR [(0,some 0)] (fix_of hF (k:=1) rfl) (pc (hC 0) allp_nil))
  refine jc_skip ?_
  exact jx_mid rfl (wkR [(0,some 0)] (fix_of hF (k:=1) rfl) (pc (hC 0) allp_nil))
 intro x13
 refine jx_seqN ?_
 refine jc_seq ?_
 refine jR ?_
 refine jG 0 1 ⟨[V 0 (pt 0 4),V 16 (pt 0 4)],[W 0 4 [bs a0,iv x13,iv a2,iv a3]],1⟩ ?_
 refine jr_callF (i:=1) rfl rfl rfl rfl (vs:=[pt 0 4,iv 0,iv 1]) (vs0:=[.fptr [bs a0,iv x13,iv a2,iv a3] 0,iv 0,iv 1]) (b:=true) (by kernel_rfl) (by kernel_rfl) (all2_cons (fle_refl _) (all2_cons (fle_refl _) (all2_cons (fle_refl _) all2_nil))) (ref03_reader_byteIs_s52fb_ok a0 x13 a2 a3 0 1) (fun _=>rfl) (fun _=>rfl) ?_
 intro x18 h18
 refine jG 2 1 ⟨[V 0 (pt 0 4),V 18 (bv (!x18))],[W 0 4 [bs a0,iv x13,iv a2,iv a3]],1⟩ ?_
 refine jN ?_
 refine jIf ?_ ?_
 ·refine jS ⟨[V 2 (bs [48])],[W 0 4 [bs a0,iv x13,iv a2,iv a3]],1⟩ ?_
  refine jc_ret ?_
  refine jx_seqR ?_
  exact jx_retM (ref03_reader_number_T a0 a1 a2 a3 ([48],x13)) (.inr rfl) (wkR [(0,some 0)] (fix_of hF (k:=1) rfl) (pc (hC 0) allp_nil))
 refine jc_skip ?_
 refine jx_seqN ?_
 refine jR ?_
 refine jG 0 1 ⟨[V 19 (pt 0 4)],[W 0 4 [bs a0,iv x13,iv a2,iv a3]],1⟩ ?_
 refine jr_callM 1 [(0,some 0)] [(0,some 0)] (fun r:Str × Int=>[W 0 4 [bs a0,iv r.2,iv a2,iv a3]]) (fun r:Str × Int=>bs r.1) 1 (ref03_reader_digits_ok a0 x13 a2 a3) (pc (hC 0) allp_nil) (fun r=>(pc (.inr (hC 0)) allp_nil)) ?_
 rintro⟨x19,x20⟩ hm2
 refine jG 2 1 ⟨[V 2 (bs x19)],[W 0 4 [bs a0,iv x20,iv a2,iv a3]],1⟩ ?_
 refine jN ?_
 refine jc_ret ?_
 exact jx_retM (ref03_reader_number_T a0 a1 a2 a3 (x19,x20)) (.inr rfl) (wkR [(0,some 0)] (fix_of hF (k:=1) rfl) (pc (hC 0) allp_nil)))
abbrev ref03_reader_local_r1:List LO:=[lo 2 (.assign (.const (.slice none 0 0))) 22]
abbrev ref03_reader_local_r2:List LO:=[lo 3 (.assign (.const (.slice none 0 0))) 22]
abbrev ref03_reader_local_r3:List LO:=[lm 6 0 59,lo 7 (.nilCheck (.tmp 6)) 0,lo 8 (.fieldAddr 61 (.tmp 7) 1) 0,lo 9 (.load 3 (.tmp 8)) 3,lo 10 (.binOp .add 3 (.tmp 9) (.const (.int .i64 1)) 3) 3,lo 11 (.nilCheck (.tmp 6)) 0,lo 12 (.fieldAddr 61 (.tmp 11) 1) 0,ln (.store 3 (.tmp 12) (.tmp 10)) 0]
abbrev ref03_reader_local_r4:List LO:=[lm 13 0 59,lo 14 (.nilCheck (.tmp 13)) 0,lo 15 (.fieldAddr 61 (.tmp 14) 0) 0,lo 16 (.load 9 (.tmp 15)) 9,lm 17 0 59,lo 18 (.nilCheck (.tmp 17)) 0,lo 19 (.fieldAddr 61 (.tmp 18) 1) 0,lo 20 (.load 3 (.tmp 19)) 3,lo 21 (.call ⟨.value (.func 44),#[.tmp 16,.tmp 20,.const (.int .i64 5)],#[9,3,3]⟩) 3,lo 4 (.assign (.tmp 21)) 3]
abbrev ref03_reader_local_r5:List LO:=[lm 22 4 3,lm 23 0 59,lo 24 (.nilCheck (.tmp 23)) 0,lo 25 (.fieldAddr 61 (.tmp 24) 1) 0,lo 26 (.load 3 (.tmp 25)) 3,lo 27 (.binOp .eql 3 (.tmp 22) (.tmp 26) 3) 4]
abbrev ref03_reader_local_r6:List LO:=[lm 28 0 59,lo 29 (.call ⟨.value (.func 47),#[.tmp 28],#[59]⟩) 0]
abbrev ref03_reader_local_r7:List LO:=[lo 2 (.assign (.const (.slice none 0 0))) 22]
abbrev ref03_reader_local_r8:List LO:=[lm 30 0 59,lo 31 (.nilCheck (.tmp 30)) 0,lo 32 (.fieldAddr 61 (.tmp 31) 0) 0,lo 33 (.load 9 (.tmp 32)) 9,lm 34 0 59,lo 35 (.nilCheck (.tmp 34)) 0,lo 36 (.fieldAddr 61 (.tmp 35) 1) 0,lo 37 (.load 3 (.tmp 36)) 3,lm 38 4 3,lo 39 (.slice 9 (.tmp 33) (some (.tmp 37)) (some (.tmp 38)) none) 9,lo 5 (.assign (.tmp 39)) 9]
abbrev ref03_reader_local_r9:List LO:=[lm 40 5 9,lo 41 (.call ⟨.value (.func 44),#[.tmp 40,.const (.int .i64 0),.const (.int .i64 1)],#[9,3,3]⟩) 3,lm 42 5 9,lo 43 (.call ⟨.builtin .len,#[.tmp 42],#[9]⟩) 3,lo 44 (.binOp .eql 3 (.tmp 41) (.tmp 43) 3) 4]
abbrev ref03_reader_local_r10:List LO:=[lm 45 5 9,lo 46 (.call ⟨.value (.func 98),#[.tmp 45],#[9]⟩) 9,lo 5 (.assign (.tmp 46)) 9]
abbrev ref03_reader_local_r11:List LO:=[lm 47 3 22,lm 48 5 9,lo 49 (.buildSlice 22 1 #[(0,.tmp 48)]) 22,lo 50 (.call ⟨.builtin .append,#[.tmp 47,.tmp 49],#[22,22]⟩) 22,lo 3 (.assign (.tmp 50)) 22]
abbrev ref03_reader_local_r12:List LO:=[lm 51 0 59,lm 52 4 3,lo 53 (.nilCheck (.tmp 51)) 0,lo 54 (.fieldAddr 61 (.tmp 53) 1) 0,ln (.store 3 (.tmp 54) (.tmp 52)) 0]
abbrev ref03_reader_local_r13:List LO:=[lm 55 0 59,lo 56 (.call ⟨.value (.func 99),#[.tmp 55,.const (.int .i64 0)],#[59,3]⟩) 4,lo 57 (.unOp .not 4 (.tmp 56)) 4,lm 58 57 4,lmg 59 0 59 58 false,lg 60 (.call ⟨.value (.func 46),#[.tmp 59,.const (.int .i64 1),.const (.int .i64 5)],#[59,3,3]⟩) 4 58 false,lg 61 (.unOp .not 4 (.tmp 60)) 4 58 false,lo 62 (.pick (.tmp 58) (.const (.bool true)) (.tmp 61)) 4]
abbrev ref03_reader_local_r14:List LO:=[lm 63 3 22,lo 2 (.assign (.tmp 63)) 22]
abbrev ref03_reader_local_r15:List LO:=[lm 64 0 59,lo 65 (.nilCheck (.tmp 64)) 0,lo 66 (.fieldAddr 61 (.tmp 65) 1) 0,lo 67 (.load 3 (.tmp 66)) 3,lo 68 (.binOp .add 3 (.tmp 67) (.const (.int .i64 1)) 3) 3,lo 69 (.nilCheck (.tmp 64)) 0,lo 70 (.fieldAddr 61 (.tmp 69) 1) 0,ln (.store 3 (.tmp 70) (.tmp 68)) 0]
abbrev ref03_reader_local_c:LC:=.seq (.reg false ref03_reader_local_r1) (.seq (.reg false ref03_reader_local_r2) (.seq (.reg false ref03_reader_local_r3) (.block 0 (.loop (.block 1 (.seq (.reg true ref03_reader_local_r4) (.seq (.seq (.reg false ref03_reader_local_r5) (.cond (.tmp 27) (.seq (.reg false ref03_reader_local_r6) (.seq (.reg false ref03_reader_local_r7) .ret)) .skip)) (.seq (.reg true ref03_reader_local_r8) (.seq (.seq (.reg false ref03_reader_local_r9) (.cond (.tmp 44) (.reg false ref03_reader_local_r10) .skip)) (.seq (.reg false ref03_reader_local_r11) (.seq (.reg false ref03_reader_local_r12) (.seq (.seq (.reg false ref03_reader_local_r13) (.cond (.tmp 62) (.seq (.reg false ref03_reader_local_r14) .ret) .skip)) (.reg false ref03_reader_local_r15)))))))))))))
theorem ref03_reader_local_k:FnOk E 51 71 [.tmp 2] ref03_reader_local_c:=⟨⟨Go.Proofs.Tryz.f51,by kernel_rfl,by kernel_rfl,by kernel_rfl,by kernel_rfl,by kernel_rfl⟩,rfl,rfl⟩
noncomputable def ref03_reader_local_l1 (a0:Str) (a2:Int) (a3:Int):(Int × List Str)→Option (Step (Int × List Str) (List Str × Int × Int × Int)):=fun (x46,x47)=>Option.bind (ref01_Run a0 x46 5) (fun x65=>(if (x65 == x46)=true then Option.bind (ref03_reader_fail a0 x46 a2 a3) (fun (x66,x67)=>some (Step.done ([],x46,x66,x67))) else Option.bind (subl a0 x46 x65) (fun x68=>Option.bind (Option.bind (ref01_Run x68 0 1) (fun x72=>(if (x72 == (List.length x68:Int))=true then Option.bind (ref01_Trim x68) (fun x73=>some x73) else some x68)):Option (Str)) (fun x71=>Option.bind (app 16 x47 [x71]) (fun x74=>Option.bind (ref03_reader_markAt_sb17f a0 x65 a2 a3 0) (fun x75=>Option.bind (if (!x75)=true then some true else Option.bind (ref03_reader_byteIs_s52fb a0 x65 a2 a3 1 5) (fun x78=>some (!x78)):Option (Bool)) (fun x77=>(if x77=true then some (Step.done (x74,x65,a2,a3)) else some (Step.next ((w64 (x65 + 1)),x74))))))))))
abbrev ref03_reader_local_T (a0:Str) (a1:Int) (a2:Int) (a3:Int) (r:List Str × Int × Int × Int):CS:=⟨[V 2 (.osl 1 0 (List.length r.1) 1)],[W 0 4 [bs a0,iv r.2.1,iv r.2.2.1,iv r.2.2.2],(1,.rows 1 (List.map cS r.1))],2⟩
noncomputable def ref03_reader_local (a0:Str) (a1:Int) (a2:Int) (a3:Int):Option (List Str × Int × Int × Int):=Option.bind (loopC (ref03_reader_local_l1 a0 a2 a3) ((w64 (a1 + 1)),[])) (fun (x61,x62,x63,x64)=>some (x61,x62,x63,x64))
theorem ref03_reader_local_ok (a0:Str) (a1:Int) (a2:Int) (a3:Int):CtM E 51 [pt 0 4] [W 0 4 [bs a0,iv a1,iv a2,iv a3]] 1 (ref03_reader_local a0 a1 a2 a3) (fun r:List Str × Int × Int × Int=>.osl 1 0 (List.length r.1) 1) (fun r:List Str × Int × Int × Int=>[W 0 4 [bs a0,iv r.2.1,iv r.2.2.1,iv r.2.2.2],(1,.rows 1 (List.map cS r.1))]) 2:=ctm_intro (N:=71) (L:=ref03_reader_local_c) ref03_reader_local_k rfl (Nat.le_of_ble_eq_true rfl) (fun F hF=>by
 unfold ref03_reader_local
 refine jS ⟨[V 0 (pt 0 4)],[W 0 4 [bs a0,iv a1,iv a2,iv a3]],1⟩ ?_
 refine jS ⟨[V 0 (pt 0 4),V 3 (nilS)],[W 0 4 [bs a0,iv a1,iv a2,iv a3]],1⟩ ?_
 refine jS ⟨[V 0 (pt 0 4),V 3 (nilS)],[W 0 4 [bs a0,iv (w64 (a1 + 1)),iv a2,iv a3]],1⟩ ?_
 refine jc_block ?_
 refine jc_bind (fun (x61,x62,x63,x64)=>⟨[V 2 (.osl 1 0 (List.length x61) 1)],[W 0 4 [bs a0,iv x62,iv x63,iv x64],(1,.rows 1 (List.map cS x61))],2⟩) (fun (x61,x62,x63,x64)=>.ret) (jc_loop (fun (x46,x47)=>⟨[V 0 (pt 0 4),V 3 (.osl 1 0 (List.length x47) 1)],[W 0 4 [bs a0,iv x46,iv a2,iv a3],(1,.rows 1 (List.map cS x47))],2⟩) (wkR [(0,some 0),(1,none)] (fix_of hF (k:=1) rfl) (pc (hC 0) (pc hZ allp_nil))) ?_) ?_
 ·rintro⟨x46,x47⟩
  unfold ref03_reader_local_l1
  refine jc_block ?_
  refine jR ?_
  refine jG 0 8 ⟨[V 0 (pt 0 4),V 3 (.osl 1 0 (List.length x47) 1),V 16 (bs a0),V 20 (iv x46)],[W 0 4 [bs a0,iv x46,iv a2,iv a3],(1,.rows 1 (List.map cS x47))],2⟩ ?_
  refine jK 8 (ref01_Run_ok a0 x46 5) ?_
  intro x65 h65
  refine jG 9 1 ⟨[V 0 (pt 0 4),V 3 (.osl 1 0 (List.length x47) 1),V 4 (iv x65)],[W 0 4 [bs a0,iv x46,iv a2,iv a3],(1,.rows 1 (List.map cS x47))],2⟩ ?_
  refine jN ?_
  refine jc_seq ?_
  refine jS ⟨[V 0 (pt 0 4),V 3 (.osl 1 0 (List.length x47) 1),V 4 (iv x65),V 27 (bv (x65 == x46))],[W 0 4 [bs a0,iv x46,iv a2,iv a3],(1,.rows 1 (List.map cS x47))],2⟩ ?_
  refine jIf ?_ ?_
  ·refine jR ?_
   refine jG 0 1 ⟨[V 28 (pt 0 4)],[W 0 4 [bs a0,iv x46,iv a2,iv a3]],2⟩ ?_
   refine jr_callM 1 [(0,some 0)] [(0,some 0)] (fun r:Int × Int=>[W 0 4 [bs a0,iv x46,iv r.1,iv r.2]]) (fun r:Int × Int=>.tup []) 2 (ref03_reader_fail_ok a0 x46 a2 a3) (pc (hC 0) allp_nil) (fun r=>(pc (.inr (hC 0)) allp_nil)) ?_
   rintro⟨x66,x67⟩ hm5
   refine jN ?_
   refine jS ⟨[V 2 (nilS)],[W 0 4 [bs a0,iv x46,iv x66,iv x67]],2⟩ ?_
   refine jc_ret ?_
   refine jx_seqR ?_
   refine jx_blkR ?_
   exact jx_done rfl nofun (wkR [(0,some 0),(1,none)] (fix_of hF (k:=1) rfl) (pc (hC 0) (pc hZ allp_nil)))
  refine jc_skip ?_
  refine jx_seqN ?_
  refine jR ?_
  refine jG 0 9 ⟨[V 0 (pt 0 4),V 3 (.osl 1 0 (List.length x47) 1),V 4 (iv x65),V 33 (bs a0),V 37 (iv x46),V 38 (iv x65)],[W 0 4 [bs a0,iv x46,iv a2,iv a3],(1,.rows 1 (List.map cS x47))],2⟩ ?_
  refine jr_part (i:=9) (mo:=subl a0 x46 x65) rfl rfl rfl rfl (fun _ hc=>aop_subs (by kernel_rfl) (by kernel_rfl) (by kernel_rfl) (by kernel_rfl) hc) (fun _=>rfl) ?_
  intro x68 h68
  refine jG 10 1 ⟨[V 0 (pt 0 4),V 3 (.osl 1 0 (List.length x47) 1),V 4 (iv x65),V 5 (bs x68)],[W 0 4 [bs a0,iv x46,iv a2,iv a3],(1,.rows 1 (List.map cS x47))],2⟩ ?_
  refine jN ?_
  refine jc_seq ?_
  refine jc_bind (fun x71=>⟨[V 0 (pt 0 4),V 3 (.osl 1 0 (List.length x47) 1),V 4 (iv x65),V 5 (bs x71)],[W 0 4 [bs a0,iv x46,iv a2,iv a3],(1,.rows 1 (List.map cS x47))],2⟩) (fun x71=>.normal) ?_ ?_
  ·refine jR ?_
   refine jG 0 1 ⟨[V 0 (pt 0 4),V 3 (.osl 1 0 (List.length x47) 1),V 4 (iv x65),V 5 (bs x68),V 40 (bs x68)],[W 0 4 [bs a0,iv x46,iv a2,iv a3],(1,.rows 1 (List.map cS x47))],2⟩ ?_
   refine jK 1 (ref01_Run_ok x68 0 1) ?_
   intro x72 h72
   refine jG 2 3 ⟨[V 0 (pt 0 4),V 3 (.osl 1 0 (List.length x47) 1),V 4 (iv x65),V 5 (bs x68),V 44 (bv (x72 == (List.length x68:Int)))],[W 0 4 [bs a0,iv x46,iv a2,iv a3],(1,.rows 1 (List.map cS x47))],2⟩ ?_
   refine jN ?_
   refine jIf ?_ ?_
   ·refine jc_reg ?_
    refine jG 0 1 ⟨[V 0 (pt 0 4),V 3 (.osl 1 0 (List.length x47) 1),V 4 (iv x65),V 45 (bs x68)],[W 0 4 [bs a0,iv x46,iv a2,iv a3],(1,.rows 1 (List.map cS x47))],2⟩ ?_
    refine jK 1 (ref01_Trim_ok x68) ?_
    intro x73 h73
    refine jG 2 1 ⟨[V 0 (pt 0 4),V 3 (.osl 1 0 (List.length x47) 1),V 4 (iv x65),V 5 (bs x73)],[W 0 4 [bs a0,iv x46,iv a2,iv a3],(1,.rows 1 (List.map cS x47))],2⟩ ?_
    refine jr_nil rfl ?_
    exact jx_mid rfl (wkR [(0,some 0),(1,some 1)] (fix_of hF (k:=1) rfl) (pc (hC 0) (pc (hL 1 (noid_map ni_S _)) allp_nil)))
   refine jc_skip ?_
   exact jx_mid rfl (wkR [(0,some 0),(1,some 1)] (fix_of hF (k:=1) rfl) (pc (hC 0) (pc (hL 1 (noid_map ni_S _)) allp_nil)))
  intro x71
  refine jx_seqN ?_
  refine jR ?_
  refine jG 0 3 ⟨[V 0 (pt 0 4),V 4 (iv x65),V 47 (.osl 1 0 (List.length x47) 1),V 49 (.osl 2 0 (List.length [x71]) 1)],[W 0 4 [bs a0,iv x46,iv a2,iv a3],(1,.rows 1 (List.map cS x47)),(2,.rows 1 (List.map cS [x71]))],3⟩ ?_
  refine jr_part (i:=3) (mo:=app 16 x47 [x71]) rfl rfl rfl rfl (fun _ hc=>aop_app (u:=.osl 1 0 (List.length x47) 1) (w:=.osl 2 0 (List.length [x71]) 1) (e:=9) (td:=.slice 9) (by kernel_rfl) (by kernel_rfl) (by kernel_rfl) (by kernel_rfl) (.inl ⟨_,rfl⟩) (appendOf_own (c:=cS) (sz:=1) (b:=16) (id:=1) (by kernel_rfl) (by kernel_rfl) (rows_own (by kernel_rfl)) (List.cons_ne_nil _ _) hc)) (fun _=>rfl) ?_
  intro x74 h74
  refine jG 4 1 ⟨[V 0 (pt 0 4),V 3 (.osl 3 0 (List.length x74) 1),V 4 (iv x65)],[W 0 4 [bs a0,iv x46,iv a2,iv a3],(3,.rows 1 (List.map cS x74))],4⟩ ?_
  refine jN ?_
  refine jS ⟨[V 0 (pt 0 4),V 3 (.osl 3 0 (List.length x74) 1)],[W 0 4 [bs a0,iv x65,iv a2,iv a3],(3,.rows 1 (List.map cS x74))],4⟩ ?_
  refine jc_seq ?_
  refine jR ?_
  refine jG 0 1 ⟨[V 0 (pt 0 4),V 3 (.osl 3 0 (List.length x74) 1),V 55 (pt 0 4)],[W 0 4 [bs a0,iv x65,iv a2,iv a3],(3,.rows 1 (List.map cS x74))],4⟩ ?_
  refine jr_callF (i:=1) rfl rfl rfl rfl (vs:=[pt 0 4,iv 0]) (vs0:=[.fptr [bs a0,iv x65,iv a2,iv a3] 0,iv 0]) (b:=true) (by kernel_rfl) (by kernel_rfl) (all2_cons (fle_refl _) (all2_cons (fle_refl _) all2_nil)) (ref03_reader_markAt_sb17f_ok a0 x65 a2 a3 0) (fun _=>rfl) (fun _=>rfl) ?_
  intro x75 h75
  refine jG 2 2 ⟨[V 0 (pt 0 4),V 3 (.osl 3 0 (List.length x74) 1),V 58 (bv (!x75))],[W 0 4 [bs a0,iv x65,iv a2,iv a3],(3,.rows 1 (List.map cS x74))],4⟩ ?_
  refine jr_bind 4 4 (fun x77=>⟨[V 0 (pt 0 4),V 3 (.osl 1 0 (List.length x74) 1),V 62 (bv x77)],[W 0 4 [bs a0,iv x65,iv a2,iv a3],(1,.rows 1 (List.map cS x74))],2⟩) ?_ ?_
  ·refine jSp 58 ?_ ?_
   ·refine jG 0 4 ⟨[V 0 (pt 0 4),V 3 (.osl 3 0 (List.length x74) 1),V 62 (bv true)],[W 0 4 [bs a0,iv x65,iv a2,iv a3],(3,.rows 1 (List.map cS x74))],4⟩ ?_
    refine jr_nil rfl ?_
    exact jx_mid rfl (wkR [(0,some 0),(1,some 3)] (fix_of hF (k:=1) rfl) (pc (hC 0) (pc (hL 3 (noid_map ni_S _)) allp_nil)))
   refine jG 0 1 ⟨[V 0 (pt 0 4),V 3 (.osl 3 0 (List.length x74) 1),(58,.lit false),V 59 (pt 0 4)],[W 0 4 [bs a0,iv x65,iv a2,iv a3],(3,.rows 1 (List.map cS x74))],4⟩ ?_
   refine jr_callF (i:=1) rfl rfl rfl rfl (vs:=[pt 0 4,iv 1,iv 5]) (vs0:=[.fptr [bs a0,iv x65,iv a2,iv a3] 0,iv 1,iv 5]) (b:=true) (by kernel_rfl) (by kernel_rfl) (all2_cons (fle_refl _) (all2_cons (fle_refl _) (all2_cons (fle_refl _) all2_nil))) (ref03_reader_byteIs_s52fb_ok a0 x65 a2 a3 1 5) (fun _=>rfl) (fun _=>rfl) ?_
   intro x78 h78
   refine jG 2 2 ⟨[V 0 (pt 0 4),V 3 (.osl 3 0 (List.length x74) 1),V 62 (bv (!x78))],[W 0 4 [bs a0,iv x65,iv a2,iv a3],(3,.rows 1 (List.map cS x74))],4⟩ ?_
   refine jr_nil rfl ?_
   exact jx_mid rfl (wkR [(0,some 0),(1,some 3)] (fix_of hF (k:=1) rfl) (pc (hC 0) (pc (hL 3 (noid_map ni_S _)) allp_nil)))
  intro x77
  refine jN ?_
  refine jIf ?_ ?_
  ·refine jS ⟨[V 2 (.osl 1 0 (List.length x74) 1)],[W 0 4 [bs a0,iv x65,iv a2,iv a3],(1,.rows 1 (List.map cS x74))],2⟩ ?_
   refine jc_ret ?_
   refine jx_seqR ?_
   refine jx_blkR ?_
   exact jx_done rfl nofun (wkR [(0,some 0),(1,some 1)] (fix_of hF (k:=1) rfl) (pc (hC 0) (pc (hL 1 (noid_map ni_S _)) allp_nil)))
  refine jc_skip ?_
  refine jx_seqN ?_
  refine jT ⟨[V 0 (pt 0 4),V 3 (.osl 1 0 (List.length x74) 1)],[W 0 4 [bs a0,iv (w64 (x65 + 1)),iv a2,iv a3],(1,.rows 1 (List.map cS x74))],2⟩ ?_
  refine jx_blkN ?_
  exact jx_next (wkR [(0,some 0),(1,some 1)] (fix_of hF (k:=1) rfl) (pc (hC 0) (pc (hL 1 (noid_map ni_S _)) allp_nil)))
 rintro⟨x61,x62,x63,x64⟩
 refine jx_blkR ?_
 exact jx_retM (ref03_reader_local_T a0 a1 a2 a3 (x61,x62,x63,x64)) (.inr rfl) (wkR [(0,some 0),(1,some 1)] (fix_of hF (k:=1) rfl) (pc (hC 0) (pc (hL 1 (noid_map ni_S _)) allp_nil))))
abbrev ref03_Parse_r1:List LO:=[lo 2 (.alloc 24) 0,lo 3 (.alloc 27) 0]
abbrev ref03_Parse_r2:List LO:=[lm 9 0 9,lo 10 (.call ⟨.builtin .len,#[.tmp 9],#[9]⟩) 3,lo 11 (.binOp .gtr 3 (.tmp 10) (.const (.int .i64 64)) 3) 4]
abbrev ref03_Parse_r3:List LO:=[lo 12 (.build 24 #[]) 24,lo 13 (.build 27 #[(0,.const (.int .i64 12)),(1,.const (.int .i64 64))]) 27,ln (.store 24 (.tmp 2) (.tmp 12)) 0,ln (.store 27 (.tmp 3) (.tmp 13)) 0]
abbrev ref03_Parse_r4:List LO:=[lm 14 0 9,lo 15 (.call ⟨.value (.func 43),#[.tmp 14],#[9]⟩) 9,lo 16 (.build 61 #[(0,.tmp 15)]) 61,lo 17 (.box 61 (.tmp 16)) 59,lo 4 (.assign (.tmp 17)) 59]
abbrev ref03_Parse_r5:List LO:=[lo 18 (.build 24 #[(0,.const (.string ⟨#[48]⟩))]) 24,lo 5 (.alloc 24) 0,ln (.store 24 (.tmp 5) (.tmp 18)) 0]
abbrev ref03_Parse_r6:List LO:=[lm 19 4 59,lo 20 (.nilCheck (.tmp 19)) 0,lo 21 (.fieldAddr 61 (.tmp 20) 1) 0,lo 22 (.load 3 (.tmp 21)) 3,lm 23 4 59,lo 24 (.nilCheck (.tmp 23)) 0,lo 25 (.fieldAddr 61 (.tmp 24) 0) 0,lo 26 (.load 9 (.tmp 25)) 9,lo 27 (.call ⟨.builtin .len,#[.tmp 26],#[9]⟩) 3,lo 28 (.binOp .lss 3 (.tmp 22) (.tmp 27) 3) 4,lm 29 28 4,lmg 30 4 59 29 true,lg 31 (.nilCheck (.tmp 30)) 0 29 true,lg 32 (.fieldAddr 61 (.tmp 31) 0) 0 29 true,lg 33 (.load 9 (.tmp 32)) 9 29 true,lg 34 (.index 9 (.tmp 33) (.const (.int .i64 0))) 5 29 true,lg 35 (.binOp .eql 5 (.tmp 34) (.const (.int .u8 118)) 5) 4 29 true,lo 36 (.pick (.tmp 29) (.tmp 35) (.const (.bool false))) 4]
abbrev ref03_Parse_r7:List LO:=[lm 37 4 59,lo 38 (.nilCheck (.tmp 37)) 0,lo 39 (.fieldAddr 61 (.tmp 38) 1) 0,lo 40 (.load 3 (.tmp 39)) 3,lo 41 (.binOp .add 3 (.tmp 40) (.const (.int .i64 1)) 3) 3,lo 42 (.nilCheck (.tmp 37)) 0,lo 43 (.fieldAddr 61 (.tmp 42) 1) 0,ln (.store 3 (.tmp 43) (.tmp 41)) 0]
abbrev ref03_Parse_r8:List LO:=[lm 44 4 59,lo 45 (.nilCheck (.tmp 44)) 0,lo 46 (.fieldAddr 61 (.tmp 45) 0) 0,lo 47 (.load 9 (.tmp 46)) 9,lm 48 4 59,lo 49 (.nilCheck (.tmp 48)) 0,lo 50 (.fieldAddr 61 (.tmp 49) 1) 0,lo 51 (.load 3 (.tmp 50)) 3,lo 52 (.call ⟨.value (.func 44),#[.tmp 47,.tmp 51,.const (.int .i64 1)],#[9,3,3]⟩) 3,lo 6 (.assign (.tmp 52)) 3]
abbrev ref03_Parse_r9:List LO:=[lm 53 6 3,lm 54 4 59,lo 55 (.nilCheck (.tmp 54)) 0,lo 56 (.fieldAddr 61 (.tmp 55) 1) 0,lo 57 (.load 3 (.tmp 56)) 3,lo 58 (.binOp .gtr 3 (.tmp 53) (.tmp 57) 3) 4,lm 59 58 4,lmg 60 6 3 59 true,lmg 61 4 59 59 true,lg 62 (.nilCheck (.tmp 61)) 0 59 true,lg 63 (.fieldAddr 61 (.tmp 62) 0) 0 59 true,lg 64 (.load 9 (.tmp 63)) 9 59 true,lg 65 (.call ⟨.builtin .len,#[.tmp 64],#[9]⟩) 3 59 true,lg 66 (.binOp .lss 3 (.tmp 60) (.tmp 65) 3) 4 59 true,lo 67 (.pick (.tmp 59) (.tmp 66) (.const (.bool false))) 4,lm 68 67 4,lmg 69 4 59 68 true,lg 70 (.nilCheck (.tmp 69)) 0 68 true,lg 71 (.fieldAddr 61 (.tmp 70) 0) 0 68 true,lg 72 (.load 9 (.tmp 71)) 9 68 true,lmg 73 6 3 68 true,lg 74 (.index 9 (.tmp 72) (.tmp 73)) 5 68 true,lg 75 (.binOp .eql 5 (.tmp 74) (.const (.int .u8 33)) 5) 4 68 true,lo 76 (.pick (.tmp 68) (.tmp 75) (.const (.bool false))) 4]
abbrev ref03_Parse_r10:List LO:=[lm 77 4 59,lo 78 (.call ⟨.value (.func 45),#[.tmp 77],#[59]⟩) 9,lo 79 (.fieldAddr 24 (.tmp 5) 0) 0,ln (.store 9 (.tmp 79) (.tmp 78)) 0]
abbrev ref03_Parse_r11:List LO:=[lm 80 4 59,lo 81 (.nilCheck (.tmp 80)) 0,lo 82 (.fieldAddr 61 (.tmp 81) 1) 0,lo 83 (.load 3 (.tmp 82)) 3,lo 84 (.binOp .add 3 (.tmp 83) (.const (.int .i64 1)) 3) 3,lo 85 (.nilCheck (.tmp 80)) 0,lo 86 (.fieldAddr 61 (.tmp 85) 1) 0,ln (.store 3 (.tmp 86) (.tmp 84)) 0]
abbrev ref03_Parse_r12:List LO:=[lm 87 4 59,lo 88 (.call ⟨.value (.func 46),#[.tmp 87,.const (.int .i64 0),.const (.int .i64 1)],#[59,3,3]⟩) 4,lo 89 (.unOp .not 4 (.tmp 88)) 4]
abbrev ref03_Parse_r13:List LO:=[lm 90 4 59,lo 91 (.call ⟨.value (.func 47),#[.tmp 90],#[59]⟩) 0]
abbrev ref03_Parse_r14:List LO:=[lo 92 (.build 24 #[]) 24,lm 93 4 59,lo 94 (.nilCheck (.tmp 93)) 0,lo 95 (.fieldAddr 61 (.tmp 94) 2) 0,lo 96 (.load 27 (.tmp 95)) 27,ln (.store 24 (.tmp 2) (.tmp 92)) 0,ln (.store 27 (.tmp 3) (.tmp 96)) 0]
abbrev ref03_Parse_r15:List LO:=[lo 97 (.fieldAddr 24 (.tmp 5) 1) 0,lo 98 (.load 22 (.tmp 97)) 22,lm 99 4 59,lo 100 (.call ⟨.value (.func 45),#[.tmp 99],#[59]⟩) 9,lo 101 (.buildSlice 22 1 #[(0,.tmp 100)]) 22,lo 102 (.call ⟨.builtin .append,#[.tmp 98,.tmp 101],#[22,22]⟩) 22,lo 103 (.fieldAddr 24 (.tmp 5) 1) 0,ln (.store 22 (.tmp 103) (.tmp 102)) 0]
abbrev ref03_Parse_r16:List LO:=[lm 104 4 59,lo 105 (.nilCheck (.tmp 104)) 0,lo 106 (.fieldAddr 61 (.tmp 105) 1) 0,lo 107 (.load 3 (.tmp 106)) 3,lm 108 4 59,lo 109 (.nilCheck (.tmp 108)) 0,lo 110 (.fieldAddr 61 (.tmp 109) 0) 0,lo 111 (.load 9 (.tmp 110)) 9,lo 112 (.call ⟨.builtin .len,#[.tmp 111],#[9]⟩) 3,lo 113 (.binOp .lss 3 (.tmp 107) (.tmp 112) 3) 4,lm 114 113 4,lmg 115 4 59 114 true,lg 116 (.nilCheck (.tmp 115)) 0 114 true,lg 117 (.fieldAddr 61 (.tmp 116) 0) 0 114 true,lg 118 (.load 9 (.tmp 117)) 9 114 true,lmg 119 4 59 114 true,lg 120 (.nilCheck (.tmp 119)) 0 114 true,lg 121 (.fieldAddr 61 (.tmp 120) 1) 0 114 true,lg 122 (.load 3 (.tmp 121)) 3 114 true,lg 123 (.index 9 (.tmp 118) (.tmp 122)) 5 114 true,lg 124 (.binOp .eql 5 (.tmp 123) (.const (.int .u8 46)) 5) 4 114 true,lo 125 (.pick (.tmp 114) (.tmp 124) (.const (.bool false))) 4,lm 126 125 4,lmg 127 4 59 126 true,lg 128 (.call ⟨.value (.func 46),#[.tmp 127,.const (.int .i64 1),.const (.int .i64 1)],#[59,3,3]⟩) 4 126 true,lo 129 (.pick (.tmp 126) (.tmp 128) (.const (.bool false))) 4]
abbrev ref03_Parse_r17:List LO:=[lm 130 4 59,lo 131 (.nilCheck (.tmp 130)) 0,lo 132 (.fieldAddr 61 (.tmp 131) 1) 0,lo 133 (.load 3 (.tmp 132)) 3,lo 134 (.binOp .add 3 (.tmp 133) (.const (.int .i64 1)) 3) 3,lo 135 (.nilCheck (.tmp 130)) 0,lo 136 (.fieldAddr 61 (.tmp 135) 1) 0,ln (.store 3 (.tmp 136) (.tmp 134)) 0]
abbrev ref03_Parse_r18:List LO:=[lo 137 (.fieldAddr 24 (.tmp 5) 1) 0,lo 138 (.load 22 (.tmp 137)) 22,lm 139 4 59,lo 140 (.call ⟨.value (.func 45),#[.tmp 139],#[59]⟩) 9,lo 141 (.buildSlice 22 1 #[(0,.tmp 140)]) 22,lo 142 (.call ⟨.builtin .append,#[.tmp 138,.tmp 141],#[22,22]⟩) 22,lo 143 (.fieldAddr 24 (.tmp 5) 1) 0,ln (.store 22 (.tmp 143) (.tmp 142)) 0]
abbrev ref03_Parse_r19:List LO:=[lm 145 4 59,lo 146 (.buildSlice 22 8 #[(0,.const (.string ⟨#[97,108,112,104,97]⟩)),(1,.const (.string ⟨#[97]⟩)),(2,.const (.string ⟨#[98,101,116,97]⟩)),(3,.const (.string ⟨#[98]⟩)),(4,.const (.string ⟨#[112,114,101,118,105,101,119]⟩)),(5,.const (.string ⟨#[112,114,101]⟩)),(6,.const (.string ⟨#[99]⟩)),(7,.const (.string ⟨#[114,99]⟩))]) 22,lo 147 (.call ⟨.value (.func 48),#[.tmp 145,.tmp 146],#[59,22]⟩) 55,lm 144 147 55,lo 148 (.extract (.tmp 144) 0) 9,lo 149 (.extract (.tmp 144) 1) 4,lo 7 (.assign (.tmp 148)) 9,lo 8 (.assign (.tmp 149)) 4]
abbrev ref03_Parse_r20:List LO:=[lm 150 8 4]
abbrev ref03_Parse_r21:List LO:=[lm 151 7 9,lo 152 (.call ⟨.value (.func 49),#[.tmp 151],#[9]⟩) 5,lo 153 (.fieldAddr 24 (.tmp 5) 2) 0,ln (.store 5 (.tmp 153) (.tmp 152)) 0]
abbrev ref03_Parse_r22:List LO:=[lm 154 4 59,lo 155 (.call ⟨.value (.func 50),#[.tmp 154],#[59]⟩) 9,lo 156 (.fieldAddr 24 (.tmp 5) 3) 0,ln (.store 9 (.tmp 156) (.tmp 155)) 0]
abbrev ref03_Parse_r23:List LO:=[lm 157 4 59,lo 158 (.nilCheck (.tmp 157)) 0,lo 159 (.fieldAddr 61 (.tmp 158) 1) 0,lo 160 (.load 3 (.tmp 159)) 3,lm 161 4 59,lo 162 (.nilCheck (.tmp 161)) 0,lo 163 (.fieldAddr 61 (.tmp 162) 0) 0,lo 164 (.load 9 (.tmp 163)) 9,lo 165 (.call ⟨.builtin .len,#[.tmp 164],#[9]⟩) 3,lo 166 (.binOp .lss 3 (.tmp 160) (.tmp 165) 3) 4,lm 167 166 4,lmg 168 4 59 167 true,lg 169 (.nilCheck (.tmp 168)) 0 167 true,lg 170 (.fieldAddr 61 (.tmp 169) 0) 0 167 true,lg 171 (.load 9 (.tmp 170)) 9 167 true,lmg 172 4 59 167 true,lg 173 (.nilCheck (.tmp 172)) 0 167 true,lg 174 (.fieldAddr 61 (.tmp 173) 1) 0 167 true,lg 175 (.load 3 (.tmp 174)) 3 167 true,lg 176 (.index 9 (.tmp 171) (.tmp 175)) 5 167 true,lg 177 (.binOp .eql 5 (.tmp 176) (.const (.int .u8 45)) 5) 4 167 true,lo 178 (.pick (.tmp 167) (.tmp 177) (.const (.bool false))) 4,lm 179 178 4,lmg 180 4 59 179 true,lg 181 (.call ⟨.value (.func 46),#[.tmp 180,.const (.int .i64 1),.const (.int .i64 1)],#[59,3,3]⟩) 4 179 true,lo 182 (.pick (.tmp 179) (.tmp 181) (.const (.bool false))) 4]
abbrev ref03_Parse_r24:List LO:=[lm 183 4 59,lo 184 (.nilCheck (.tmp 183)) 0,lo 185 (.fieldAddr 61 (.tmp 184) 1) 0,lo 186 (.load 3 (.tmp 185)) 3,lo 187 (.binOp .add 3 (.tmp 186) (.const (.int .i64 1)) 3) 3,lo 188 (.nilCheck (.tmp 183)) 0,lo 189 (.fieldAddr 61 (.tmp 188) 1) 0,ln (.store 3 (.tmp 189) (.tmp 187)) 0]
abbrev ref03_Parse_r25:List LO:=[lo 190 (.fieldAddr 24 (.tmp 5) 4) 0,ln (.store 4 (.tmp 190) (.const (.bool true))) 0]
abbrev ref03_Parse_r26:List LO:=[lm 191 4 59,lo 192 (.call ⟨.value (.func 45),#[.tmp 191],#[59]⟩) 9,lo 193 (.fieldAddr 24 (.tmp 5) 5) 0,ln (.store 9 (.tmp 193) (.tmp 192)) 0]
abbrev ref03_Parse_r27:List LO:=[lm 195 4 59,lo 196 (.buildSlice 22 3 #[(0,.const (.string ⟨#[112,111,115,116]⟩)),(1,.const (.string ⟨#[114,101,118]⟩)),(2,.const (.string ⟨#[114]⟩))]) 22,lo 197 (.call ⟨.value (.func 48),#[.tmp 195,.tmp 196],#[59,22]⟩) 55,lm 194 197 55,lo 198 (.extract (.tmp 194) 0) 9,lo 199 (.extract (.tmp 194) 1) 4,lo 8 (.assign (.tmp 199)) 4]
abbrev ref03_Parse_r28:List LO:=[lm 200 8 4]
abbrev ref03_Parse_r29:List LO:=[lo 201 (.fieldAddr 24 (.tmp 5) 4) 0,ln (.store 4 (.tmp 201) (.const (.bool true))) 0]
abbrev ref03_Parse_r30:List LO:=[lm 202 4 59,lo 203 (.call ⟨.value (.func 50),#[.tmp 202],#[59]⟩) 9,lo 204 (.fieldAddr 24 (.tmp 5) 5) 0,ln (.store 9 (.tmp 204) (.tmp 203)) 0]
abbrev ref03_Parse_r31:List LO:=[lm 206 4 59,lo 207 (.buildSlice 22 1 #[(0,.const (.string ⟨#[100,101,118]⟩))]) 22,lo 208 (.call ⟨.value (.func 48),#[.tmp 206,.tmp 207],#[59,22]⟩) 55,lm 205 208 55,lo 209 (.extract (.tmp 205) 0) 9,lo 210 (.extract (.tmp 205) 1) 4,lo 8 (.assign (.tmp 210)) 4]
abbrev ref03_Parse_r32:List LO:=[lm 211 8 4]
abbrev ref03_Parse_r33:List LO:=[lo 212 (.fieldAddr 24 (.tmp 5) 6) 0,ln (.store 4 (.tmp 212) (.const (.bool true))) 0]
abbrev ref03_Parse_r34:List LO:=[lm 213 4 59,lo 214 (.call ⟨.value (.func 50),#[.tmp 213],#[59]⟩) 9,lo 215 (.fieldAddr 24 (.tmp 5) 7) 0,ln (.store 9 (.tmp 215) (.tmp 214)) 0]
abbrev ref03_Parse_r35:List LO:=[lm 216 4 59,lo 217 (.nilCheck (.tmp 216)) 0,lo 218 (.fieldAddr 61 (.tmp 217) 1) 0,lo 219 (.load 3 (.tmp 218)) 3,lm 220 4 59,lo 221 (.nilCheck (.tmp 220)) 0,lo 222 (.fieldAddr 61 (.tmp 221) 0) 0,lo 223 (.load 9 (.tmp 222)) 9,lo 224 (.call ⟨.builtin .len,#[.tmp 223],#[9]⟩) 3,lo 225 (.binOp .lss 3 (.tmp 219) (.tmp 224) 3) 4,lm 226 225 4,lmg 227 4 59 226 true,lg 228 (.nilCheck (.tmp 227)) 0 226 true,lg 229 (.fieldAddr 61 (.tmp 228) 0) 0 226 true,lg 230 (.load 9 (.tmp 229)) 9 226 true,lmg 231 4 59 226 true,lg 232 (.nilCheck (.tmp 231)) 0 226 true,lg 233 (.fieldAddr 61 (.tmp 232) 1) 0 226 true,lg 234 (.load 3 (.tmp 233)) 3 226 true,lg 235 (.index 9 (.tmp 230) (.tmp 234)) 5 226 true,lg 236 (.binOp .eql 5 (.tmp 235) (.const (.int .u8 43)) 5) 4 226 true,lo 237 (.pick (.tmp 226) (.tmp 236) (.const (.bool false))) 4]
abbrev ref03_Parse_r36:List LO:=[lm 238 4 59,lo 239 (.call ⟨.value (.func 51),#[.tmp 238],#[59]⟩) 22,lo 240 (.fieldAddr 24 (.tmp 5) 8) 0,ln (.store 22 (.tmp 240) (.tmp 239)) 0]
abbrev ref03_Parse_r37:List LO:=[lm 241 4 59,lo 242 (.nilCheck (.tmp 241)) 0,lo 243 (.fieldAddr 61 (.tmp 242) 2) 0,lo 244 (.fieldAddr 27 (.tmp 243) 0) 0,lo 245 (.load 25 (.tmp 244)) 25,lo 246 (.binOp .eql 25 (.tmp 245) (.const (.int .i64 0)) 25) 4,lm 247 246 4,lmg 248 4 59 247 true,lg 249 (.nilCheck (.tmp 248)) 0 247 true,lg 250 (.fieldAddr 61 (.tmp 249) 1) 0 247 true,lg 251 (.load 3 (.tmp 250)) 3 247 true,lmg 252 4 59 247 true,lg 253 (.nilCheck (.tmp 252)) 0 247 true,lg 254 (.fieldAddr 61 (.tmp 253) 0) 0 247 true,lg 255 (.load 9 (.tmp 254)) 9 247 true,lg 256 (.call ⟨.builtin .len,#[.tmp 255],#[9]⟩) 3 247 true,lg 257 (.binOp .lss 3 (.tmp 251) (.tmp 256) 3) 4 247 true,lo 258 (.pick (.tmp 247) (.tmp 257) (.const (.bool false))) 4]
abbrev ref03_Parse_r38:List LO:=[lm 259 4 59,lo 260 (.call ⟨.value (.func 47),#[.tmp 259],#[59]⟩) 0]
abbrev ref03_Parse_r39:List LO:=[lm 261 4 59,lo 262 (.nilCheck (.tmp 261)) 0,lo 263 (.fieldAddr 61 (.tmp 262) 2) 0,lo 264 (.fieldAddr 27 (.tmp 263) 0) 0,lo 265 (.load 25 (.tmp 264)) 25,lo 266 (.binOp .neq 25 (.tmp 265) (.const (.int .i64 0)) 25) 4]
abbrev ref03_Parse_r40:List LO:=[lo 267 (.build 24 #[]) 24,lm 268 4 59,lo 269 (.nilCheck (.tmp 268)) 0,lo 270 (.fieldAddr 61 (.tmp 269) 2) 0,lo 271 (.load 27 (.tmp 270)) 27,ln (.store 24 (.tmp 2) (.tmp 267)) 0,ln (.store 27 (.tmp 3) (.tmp 271)) 0]
abbrev ref03_Parse_r41:List LO:=[lo 272 (.load 24 (.tmp 5)) 24,lo 273 (.build 27 #[]) 27,ln (.store 24 (.tmp 2) (.tmp 272)) 0,ln (.store 27 (.tmp 3) (.tmp 273)) 0]
noncomputable abbrev ref03_Parse_c:LC:=.seq (.reg false ref03_Parse_r1) (.seq (.seq (.reg false ref03_Parse_r2) (.cond (.tmp 11) (.seq (.reg false ref03_Parse_r3) .ret) .skip)) (.seq (.reg false ref03_Parse_r4) (.seq (.reg false ref03_Parse_r5) (.seq (.seq (.reg true ref03_Parse_r6) (.cond (.tmp 36) (.reg false ref03_Parse_r7) .skip)) (.seq (.reg true ref03_Parse_r8) (.seq (.seq (.reg false ref03_Parse_r9) (.cond (.tmp 76) (.seq (.reg false ref03_Parse_r10) (.reg false ref03_Parse_r11)) .skip)) (.seq (.seq (.reg false ref03_Parse_r12) (.cond (.tmp 89) (.seq (.reg false ref03_Parse_r13) (.seq (.full (regOps (codeSub (bodyOf Go.Proofs.Tryz.f9) [1,1,1,1,1,1,1,0,1,0,1,0]))) .ret)) .skip)) (.seq (.full (regOps (codeSub (bodyOf Go.Proofs.Tryz.f9) [1,1,1,1,1,1,1,1,0]))) (.seq (.block 0 (.loop (.seq (.seq (.reg true ref03_Parse_r16) (.cond (.tmp 129) .skip (.exit 0))) (.block 1 (.seq (.reg false ref03_Parse_r17) (.full (regOps (codeSub (bodyOf Go.Proofs.Tryz.f9) [1,1,1,1,1,1,1,1,1,0,0,0,1,0,1])))))))) (.seq (.reg false ref03_Parse_r19) (.seq (.seq (.reg false ref03_Parse_r20) (.cond (.tmp 150) (.seq (.reg false ref03_Parse_r21) (.reg false ref03_Parse_r22)) .skip)) (.seq (.seq (.reg true ref03_Parse_r23) (.cond (.tmp 182) (.seq (.reg false ref03_Parse_r24) (.seq (.reg false ref03_Parse_r25) (.reg false ref03_Parse_r26))) (.seq (.reg false ref03_Parse_r27) (.seq (.reg false ref03_Parse_r28) (.cond (.tmp 200) (.seq (.reg false ref03_Parse_r29) (.reg false ref03_Parse_r30)) .skip))))) (.seq (.reg false ref03_Parse_r31) (.seq (.seq (.reg false ref03_Parse_r32) (.cond (.tmp 211) (.seq (.reg false ref03_Parse_r33) (.reg false ref03_Parse_r34)) .skip)) (.seq (.seq (.reg true ref03_Parse_r35) (.cond (.tmp 237) (.reg false ref03_Parse_r36) .skip)) (.seq (.seq (.reg true ref03_Parse_r37) (.cond (.tmp 258) (.reg false ref03_Parse_r38) .skip)) (.seq (.seq (.reg false ref03_Parse_r39) (.cond (.tmp 266) (.seq (.full (regOps (codeSub (bodyOf Go.Proofs.Tryz.f9) [1,1,1,1,1,1,1,1,1,1,1,1,1,1,1,1,1,0,1,0,0]))) .ret) .skip)) (.seq (.reg false ref03_Parse_r41) .ret))))))))))))))))))
theorem ref03_Parse_k:FnOk E 9 274 [.cell 2 24,.cell 3 27] ref03_Parse_c:=⟨⟨Go.Proofs.Tryz.f9,by kernel_rfl,by kernel_rfl,by kernel_rfl,by kernel_rfl,by kernel_rfl⟩,rfl,rfl⟩
noncomputable def ref03_Parse_l1 (x1:Str):(Int × List Str)→Option (Step (Int × List Str) (Int × List Str)):=fun (x33,x34)=>Option.bind (if (decide (x33 < (List.length x1:Int)))=true then Option.bind (idx x1 x33) (fun x48=>some (x48 == 46)) else some false:Option (Bool)) (fun x47=>Option.bind (if x47=true then Option.bind (ref03_reader_byteIs_s52fb x1 x33 0 0 1 1) (fun x51=>some x51) else some false:Option (Bool)) (fun x50=>(if x50=true then Option.bind (ref03_reader_digits x1 (w64 (x33 + 1)) 0 0) (fun (x52,x53)=>Option.bind (app 16 x34 [x52]) (fun x54=>some (Step.next (x53,x54)))) else some (Step.done (x33,x34)))))
noncomputable def ref03_Parse (a0:Str):Option (S_api_Pep × S_api_Fault):=(if (decide ((List.length a0:Int) > 64))=true then some ((S_api_Pep.mk [] [] 0 [] false [] false [] []),(S_api_Fault.mk 12 64)) else Option.bind (ref01_Lower a0) (fun x1=>Option.bind (Option.bind (if (decide (0 < (List.length x1:Int)))=true then Option.bind (idx x1 0) (fun x7=>some (x7 == 118)) else some false:Option (Bool)) (fun x6=>(if x6=true then some (w64 (0 + 1)) else some 0)):Option (Int)) (fun x4=>Option.bind (ref01_Run x1 x4 1) (fun x8=>Option.bind (Option.bind (if ((decide (x8 > x4)) && (decide (x8 < (List.length x1:Int))))=true then Option.bind (idx x1 x8) (fun x17=>some (x17 == 33)) else some false:Option (Bool)) (fun x16=>(if x16=true then Option.bind (ref03_reader_digits x1 x4 0 0) (fun (x18,x19)=>some ((w64 (x19 + 1)),x18)) else some (x4,[48]))):Option (Int × Str)) (fun (x13,x14)=>Option.bind (ref03_reader_byteIs_s52fb x1 x13 0 0 0 1) (fun x20=>(if (!x20)=true then Option.bind (ref03_reader_fail x1 x13 0 0) (fun (x21,x22)=>some ((S_api_Pep.mk [] [] 0 [] false [] false [] []),(S_api_Fault.mk x21 x22))) else Option.bind (ref03_reader_digits x1 x13 0 0) (fun (x23,x24)=>Option.bind (app 16 ([]:List Str) [x23]) (fun x25=>Option.bind (loopC (ref03_Parse_l1 x1) (x24,x25)) (fun (x44,x45)=>Option.bind (ref03_reader_word x1 x44 0 0 ([[97,108,112,104,97],[97],[98,101,116,97],[98],[112,114,101,118,105,101,119],[112,114,101],[99],[114,99]])) (fun (x55,x56,x57)=>Option.bind ((if x56=true then Option.bind (ref03_letter x55) (fun x64=>Option.bind (ref03_reader_number x1 x57 0 0) (fun (x65,x66)=>some (x66,x64,x65))) else some (x57,0,[])):Option (Int × Int × Str)) (fun (x61,x62,x63)=>Option.bind (Option.bind (if (decide (x61 < (List.length x1:Int)))=true then Option.bind (idx x1 x61) (fun x83=>some (x83 == 45)) else some false:Option (Bool)) (fun x82=>Option.bind (if x82=true then Option.bind (ref03_reader_byteIs_s52fb x1 x61 0 0 1 1) (fun x86=>some x86) else some false:Option (Bool)) (fun x85=>(if x85=true then Option.bind (ref03_reader_digits x1 (w64 (x61 + 1)) 0 0) (fun (x87,x88)=>some (x88,true,x87)) else Option.bind (ref03_reader_word x1 x61 0 0 ([[112,111,115,116],[114,101,118],[114]])) (fun (x89,x90,x91)=>(if x90=true then Option.bind (ref03_reader_number x1 x91 0 0) (fun (x92,x93)=>some (x93,true,x92)) else some (x91,false,[])))))):Option (Int × Bool × Str)) (fun (x78,x79,x80)=>Option.bind (ref03_reader_word x1 x78 0 0 ([[100,101,118]])) (fun (x94,x95,x96)=>Option.bind ((if x95=true then Option.bind (ref03_reader_number x1 x96 0 0) (fun (x102,x103)=>some (x103,true,x102)) else some (x96,false,[])):Option (Int × Bool × Str)) (fun (x99,x100,x101)=>Option.bind (Option.bind (if (decide (x99 < (List.length x1:Int)))=true then Option.bind (idx x1 x99) (fun x116=>some (x116 == 43)) else some false:Option (Bool)) (fun x115=>(if x115=true then Option.bind (ref03_reader_local x1 x99 0 0) (fun (x117,x118,x119,x120)=>some (x118,x119,x120,x117)) else some (x99,0,0,[]))):Option (Int × Int × Int × List Str)) (fun (x110,x111,x112,x113)=>Option.bind ((if ((x111 == 0) && (decide (x110 < (List.length x1:Int))))=true then Option.bind (ref03_reader_fail x1 x110 x111 x112) (fun (x125,x126)=>some (x125,x126)) else some (x111,x112)):Option (Int × Int)) (fun (x123,x124)=>(if (x123 != 0)=true then some ((S_api_Pep.mk [] [] 0 [] false [] false [] []),(S_api_Fault.mk x123 x124)) else some ((S_api_Pep.mk x14 x45 x62 x63 x79 x80 x100 x101 x113),(S_api_Fault.mk 0 0))))))))))))))))))))
theorem ref03_Parse_ok (a0:Str):Ct E 9 [bs a0] (ref03_Parse a0) (fun r:S_api_Pep × S_api_Fault=>.tup [.agg [bs r.1.Epoch,.fsl 1 (List.map cS r.1.Release),.s (.int .u8 r.1.Pre),bs r.1.PreNum,bv r.1.Post,bs r.1.PostNum,bv r.1.Dev,bs r.1.DevNum,.fsl 1 (List.map cS r.1.Local)],.agg [iv r.2.Err,iv r.2.At]]):=ct_intro (N:=274) (L:=ref03_Parse_c) ref03_Parse_k rfl (Nat.le_of_ble_eq_true rfl) (by kernel_rfl) (by
 unfold ref03_Parse
 refine jS ⟨[V 0 (bs a0),V 2 (pt 0 9),V 3 (pt 1 2)],[W 0 9 [bs [],nilS,.s (.int .u8 0),bs [],bv false,bs [],bv false,bs [],nilS],W 1 2 [iv 0,iv 0]],2⟩ ?_
 refine jc_seq ?_
 refine jS ⟨[V 0 (bs a0),V 2 (pt 0 9),V 3 (pt 1 2),V 11 (bv (decide ((List.length a0:Int) > 64)))],[W 0 9 [bs [],nilS,.s (.int .u8 0),bs [],bv false,bs [],bv false,bs [],nilS],W 1 2 [iv 0,iv 0]],2⟩ ?_
 refine jIf ?_ ?_
 ·refine jS ⟨[V 2 (pt 0 9),V 3 (pt 1 2)],[W 0 9 [bs [],nilS,.s (.int .u8 0),bs [],bv false,bs [],bv false,bs [],nilS],W 1 2 [iv 12,iv 64]],2⟩ ?_
  refine jc_ret ?_
  refine jx_seqR ?_
  exact jx_retF (.inr rfl) (v:=.tup [.agg [bs [],nilS,.s (.int .u8 0),bs [],bv false,bs [],bv false,bs [],nilS],.agg [iv 12,iv 64]]) (by kernel_rfl) (snapc_tup (snapL_cons (snapc_agg (snapL_cons rfl (snapL_cons rfl (snapL_cons rfl (snapL_cons rfl (snapL_cons rfl (snapL_cons rfl (snapL_cons rfl (snapL_cons rfl (snapL_cons rfl (snapL_nil _))))))))))) (snapL_cons rfl (snapL_nil _)))) (fle_tup (all2_cons (fle_agg (all2_cons (fle_refl _) (all2_cons (fle_nil _) (all2_cons (fle_refl _) (all2_cons (fle_refl _) (all2_cons (fle_refl _) (all2_cons (fle_refl _) (all2_cons (fle_refl _) (all2_cons (fle_refl _) (all2_cons (fle_nil _) all2_nil)))))))))) (all2_cons (fle_refl _) all2_nil)))
 refine jc_skip ?_
 refine jx_seqN ?_
 refine jR ?_
 refine jG 0 1 ⟨[V 2 (pt 0 9),V 3 (pt 1 2),V 14 (bs a0)],[W 0 9 [bs [],nilS,.s (.int .u8 0),bs [],bv false,bs [],bv false,bs [],nilS],W 1 2 [iv 0,iv 0]],2⟩ ?_
 refine jK 1 (ref01_Lower_ok a0) ?_
 intro x1 h1
 refine jG 2 3 ⟨[V 2 (pt 0 9),V 3 (pt 1 2),V 4 (pt 2 4)],[W 0 9 [bs [],nilS,.s (.int .u8 0),bs [],bv false,bs [],bv false,bs [],nilS],W 1 2 [iv 0,iv 0],W 2 4 [bs x1,iv 0,iv 0,iv 0]],3⟩ ?_
 refine jN ?_
 refine jS ⟨[V 2 (pt 0 9),V 3 (pt 1 2),V 4 (pt 2 4),V 5 (pt 3 9)],[W 0 9 [bs [],nilS,.s (.int .u8 0),bs [],bv false,bs [],bv false,bs [],nilS],W 1 2 [iv 0,iv 0],W 2 4 [bs x1,iv 0,iv 0,iv 0],W 3 9 [bs [48],nilS,.s (.int .u8 0),bs [],bv false,bs [],bv false,bs [],nilS]],4⟩ ?_
 refine jc_seq ?_
 refine jc_bind (fun x4=>⟨[V 2 (pt 0 9),V 3 (pt 1 2),V 4 (pt 2 4),V 5 (pt 3 9)],[W 0 9 [bs [],nilS,.s (.int .u8 0),bs [],bv false,bs [],bv false,bs [],nilS],W 1 2 [iv 0,iv 0],W 2 4 [bs x1,iv x4,iv 0,iv 0],W 3 9 [bs [48],nilS,.s (.int .u8 0),bs [],bv false,bs [],bv false,bs [],nilS]],4⟩) (fun x4=>.normal) ?_ ?_
 ·refine jR ?_
  refine jG 0 11 ⟨[V 2 (pt 0 9),V 3 (pt 1 2),V 4 (pt 2 4),V 5 (pt 3 9),V 29 (bv (decide (0 < (List.length x1:Int))))],[W 0 9 [bs [],nilS,.s (.int .u8 0),bs [],bv false,bs [],bv false,bs [],nilS],W 1 2 [iv 0,iv 0],W 2 4 [bs x1,iv 0,iv 0,iv 0],W 3 9 [bs [48],nilS,.s (.int .u8 0),bs [],bv false,bs [],bv false,bs [],nilS]],4⟩ ?_
  refine jr_bind 11 7 (fun x6=>⟨[V 2 (pt 0 9),V 3 (pt 1 2),V 4 (pt 2 4),V 5 (pt 3 9),V 36 (bv x6)],[W 0 9 [bs [],nilS,.s (.int .u8 0),bs [],bv false,bs [],bv false,bs [],nilS],W 1 2 [iv 0,iv 0],W 2 4 [bs x1,iv 0,iv 0,iv 0],W 3 9 [bs [48],nilS,.s (.int .u8 0),bs [],bv false,bs [],bv false,bs [],nilS]],4⟩) ?_ ?_
  ·refine jSp 29 ?_ ?_
   ·refine jG 0 4 ⟨[V 2 (pt 0 9),V 3 (pt 1 2),V 4 (pt 2 4),V 5 (pt 3 9),(29,.lit true),V 33 (bs x1)],[W 0 9 [bs [],nilS,.s (.int .u8 0),bs [],bv false,bs [],bv false,bs [],nilS],W 1 2 [iv 0,iv 0],W 2 4 [bs x1,iv 0,iv 0,iv 0],W 3 9 [bs [48],nilS,.s (.int .u8 0),bs [],bv false,bs [],bv false,bs [],nilS]],4⟩ ?_
    refine jr_part (i:=4) (mo:=idx x1 0) rfl rfl rfl rfl (fun _ hc=>aop_index (kk:=.i64) (by kernel_rfl) (by kernel_rfl) (by kernel_rfl) hc) (fun _=>rfl) ?_
    intro x7 h7
    refine jG 5 2 ⟨[V 2 (pt 0 9),V 3 (pt 1 2),V 4 (pt 2 4),V 5 (pt 3 9),V 36 (bv (x7 == 118))],[W 0 9 [bs [],nilS,.s (.int .u8 0),bs [],bv false,bs [],bv false,bs [],nilS],W 1 2 [iv 0,iv 0],W 2 4 [bs x1,iv 0,iv 0,iv 0],W 3 9 [bs [48],nilS,.s (.int .u8 0),bs [],bv false,bs [],bv false,bs [],nilS]],4⟩ ?_
    refine jr_nil rfl ?_
    exact jx_mid rfl (wkR [(0,some 0),(1,some 1),(2,some 2),(3,some 3)] (fix_nil _) (pc (hC 0) (pc (hC 1) (pc (hC 2) (pc (hC 3) allp_nil)))))
   refine jG 0 7 ⟨[V 2 (pt 0 9),V 3 (pt 1 2),V 4 (pt 2 4),V 5 (pt 3 9),V 36 (bv false)],[W 0 9 [bs [],nilS,.s (.int .u8 0),bs [],bv false,bs [],bv false,bs [],nilS],W 1 2 [iv 0,iv 0],W 2 4 [bs x1,iv 0,iv 0,iv 0],W 3 9 [bs [48],nilS,.s (.int .u8 0),bs [],bv false,bs [],bv false,bs [],nilS]],4⟩ ?_
   refine jr_nil rfl ?_
   exact jx_mid rfl (wkR [(0,some 0),(1,some 1),(2,some 2),(3,some 3)] (fix_nil _) (pc (hC 0) (pc (hC 1) (pc (hC 2) (pc (hC 3) allp_nil)))))
  intro x6
  refine jN ?_
  refine jIf ?_ ?_
  ·refine jT ⟨[V 2 (pt 0 9),V 3 (pt 1 2),V 4 (pt 2 4),V 5 (pt 3 9)],[W 0 9 [bs [],nilS,.s (.int .u8 0),bs [],bv false,bs [],bv false,bs [],nilS],W 1 2 [iv 0,iv 0],W 2 4 [bs x1,iv (w64 (0 + 1)),iv 0,iv 0],W 3 9 [bs [48],nilS,.s (.int .u8 0),bs [],bv false,bs [],bv false,bs [],nilS]],4⟩ ?_
   exact jx_mid rfl (wkR [(0,some 0),(1,some 1),(2,some 2),(3,some 3)] (fix_nil _) (pc (hC 0) (pc (hC 1) (pc (hC 2) (pc (hC 3) allp_nil)))))
  refine jc_skip ?_
  exact jx_mid rfl (wkR [(0,some 0),(1,some 1),(2,some 2),(3,some 3)] (fix_nil _) (pc (hC 0) (pc (hC 1) (pc (hC 2) (pc (hC 3) allp_nil)))))
 intro x4
 refine jx_seqN ?_
 refine jR ?_
 refine jG 0 8 ⟨[V 2 (pt 0 9),V 3 (pt 1 2),V 4 (pt 2 4),V 5 (pt 3 9),V 47 (bs x1),V 51 (iv x4)],[W 0 9 [bs [],nilS,.s (.int .u8 0),bs [],bv false,bs [],bv false,bs [],nilS],W 1 2 [iv 0,iv 0],W 2 4 [bs x1,iv x4,iv 0,iv 0],W 3 9 [bs [48],nilS,.s (.int .u8 0),bs [],bv false,bs [],bv false,bs [],nilS]],4⟩ ?_
 refine jK 8 (ref01_Run_ok x1 x4 1) ?_
 intro x8 h8
 refine jG 9 1 ⟨[V 2 (pt 0 9),V 3 (pt 1 2),V 4 (pt 2 4),V 5 (pt 3 9),V 6 (iv x8)],[W 0 9 [bs [],nilS,.s (.int .u8 0),bs [],bv false,bs [],bv false,bs [],nilS],W 1 2 [iv 0,iv 0],W 2 4 [bs x1,iv x4,iv 0,iv 0],W 3 9 [bs [48],nilS,.s (.int .u8 0),bs [],bv false,bs [],bv false,bs [],nilS]],4⟩ ?_
 refine jN ?_
 refine jc_seq ?_
 refine jc_bind (fun (x13,x14)=>⟨[V 2 (pt 0 9),V 3 (pt 1 2),V 4 (pt 2 4),V 5 (pt 3 9)],[W 0 9 [bs [],nilS,.s (.int .u8 0),bs [],bv false,bs [],bv false,bs [],nilS],W 1 2 [iv 0,iv 0],W 2 4 [bs x1,iv x13,iv 0,iv 0],W 3 9 [bs x14,nilS,.s (.int .u8 0),bs [],bv false,bs [],bv false,bs [],nilS]],4⟩) (fun (x13,x14)=>.normal) ?_ ?_
 ·refine jR ?_
  refine jG 0 16 ⟨[V 2 (pt 0 9),V 3 (pt 1 2),V 4 (pt 2 4),V 5 (pt 3 9),V 6 (iv x8),V 68 (bv ((decide (x8 > x4)) && (decide (x8 < (List.length x1:Int)))))],[W 0 9 [bs [],nilS,.s (.int .u8 0),bs [],bv false,bs [],bv false,bs [],nilS],W 1 2 [iv 0,iv 0],W 2 4 [bs x1,iv x4,iv 0,iv 0],W 3 9 [bs [48],nilS,.s (.int .u8 0),bs [],bv false,bs [],bv false,bs [],nilS]],4⟩ ?_
  refine jr_bind 16 8 (fun x16=>⟨[V 2 (pt 0 9),V 3 (pt 1 2),V 4 (pt 2 4),V 5 (pt 3 9),V 76 (bv x16)],[W 0 9 [bs [],nilS,.s (.int .u8 0),bs [],bv false,bs [],bv false,bs [],nilS],W 1 2 [iv 0,iv 0],W 2 4 [bs x1,iv x4,iv 0,iv 0],W 3 9 [bs [48],nilS,.s (.int .u8 0),bs [],bv false,bs [],bv false,bs [],nilS]],4⟩) ?_ ?_
  ·refine jSp 68 ?_ ?_
   ·refine jG 0 5 ⟨[V 2 (pt 0 9),V 3 (pt 1 2),V 4 (pt 2 4),V 5 (pt 3 9),(68,.lit true),V 72 (bs x1),V 73 (iv x8)],[W 0 9 [bs [],nilS,.s (.int .u8 0),bs [],bv false,bs [],bv false,bs [],nilS],W 1 2 [iv 0,iv 0],W 2 4 [bs x1,iv x4,iv 0,iv 0],W 3 9 [bs [48],nilS,.s (.int .u8 0),bs [],bv false,bs [],bv false,bs [],nilS]],4⟩ ?_
    refine jr_part (i:=5) (mo:=idx x1 x8) rfl rfl rfl rfl (fun _ hc=>aop_index (kk:=.i64) (by kernel_rfl) (by kernel_rfl) (by kernel_rfl) hc) (fun _=>rfl) ?_
    intro x17 h17
    refine jG 6 2 ⟨[V 2 (pt 0 9),V 3 (pt 1 2),V 4 (pt 2 4),V 5 (pt 3 9),V 76 (bv (x17 == 33))],[W 0 9 [bs [],nilS,.s (.int .u8 0),bs [],bv false,bs [],bv false,bs [],nilS],W 1 2 [iv 0,iv 0],W 2 4 [bs x1,iv x4,iv 0,iv 0],W 3 9 [bs [48],nilS,.s (.int .u8 0),bs [],bv false,bs [],bv false,bs [],nilS]],4⟩ ?_
    refine jr_nil rfl ?_
    exact jx_mid rfl (wkR [(0,some 0),(1,some 1),(2,some 2),(3,some 3)] (fix_nil _) (pc (hC 0) (pc (hC 1) (pc (hC 2) (pc (hC 3) allp_nil)))))
   refine jG 0 8 ⟨[V 2 (pt 0 9),V 3 (pt 1 2),V 4 (pt 2 4),V 5 (pt 3 9),V 76 (bv false)],[W 0 9 [bs [],nilS,.s (.int .u8 0),bs [],bv false,bs [],bv false,bs [],nilS],W 1 2 [iv 0,iv 0],W 2 4 [bs x1,iv x4,iv 0,iv 0],W 3 9 [bs [48],nilS,.s (.int .u8 0),bs [],bv false,bs [],bv false,bs [],nilS]],4⟩ ?_
   refine jr_nil rfl ?_
   exact jx_mid rfl (wkR [(0,some 0),(1,some 1),(2,some 2),(3,some 3)] (fix_nil _) (pc (hC 0) (pc (hC 1) (pc (hC 2) (pc (hC 3) allp_nil)))))
  intro x16
  refine jN ?_
  refine jIf ?_ ?_
  ·refine jR ?_
   refine jG 0 1 ⟨[V 2 (pt 0 9),V 3 (pt 1 2),V 4 (pt 2 4),V 5 (pt 3 9),V 77 (pt 2 4)],[W 0 9 [bs [],nilS,.s (.int .u8 0),bs [],bv false,bs [],bv false,bs [],nilS],W 1 2 [iv 0,iv 0],W 2 4 [bs x1,iv x4,iv 0,iv 0],W 3 9 [bs [48],nilS,.s (.int .u8 0),bs [],bv false,bs [],bv false,bs [],nilS]],4⟩ ?_
   refine jr_callM 1 [(0,some 2)] [(2,some 0)] (fun r:Str × Int=>[W 0 9 [bs [],nilS,.s (.int .u8 0),bs [],bv false,bs [],bv false,bs [],nilS],W 1 2 [iv 0,iv 0],W 2 4 [bs x1,iv r.2,iv 0,iv 0],W 3 9 [bs [48],nilS,.s (.int .u8 0),bs [],bv false,bs [],bv false,bs [],nilS]]) (fun r:Str × Int=>bs r.1) 4 (ref03_reader_digits_ok x1 x4 0 0) (pc (hC 2) allp_nil) (fun r=>(pc (.inl ⟨rfl,rfl⟩) (pc (.inl ⟨rfl,rfl⟩) (pc (.inr (hC 0)) (pc (.inl ⟨rfl,rfl⟩) allp_nil))))) ?_
   rintro⟨x18,x19⟩ hm2
   refine jG 2 2 ⟨[V 2 (pt 0 9),V 3 (pt 1 2),V 4 (pt 2 4),V 5 (pt 3 9)],[W 0 9 [bs [],nilS,.s (.int .u8 0),bs [],bv false,bs [],bv false,bs [],nilS],W 1 2 [iv 0,iv 0],W 2 4 [bs x1,iv x19,iv 0,iv 0],W 3 9 [bs x18,nilS,.s (.int .u8 0),bs [],bv false,bs [],bv false,bs [],nilS]],4⟩ ?_
   refine jN ?_
   refine jT ⟨[V 2 (pt 0 9),V 3 (pt 1 2),V 4 (pt 2 4),V 5 (pt 3 9)],[W 0 9 [bs [],nilS,.s (.int .u8 0),bs [],bv false,bs [],bv false,bs [],nilS],W 1 2 [iv 0,iv 0],W 2 4 [bs x1,iv (w64 (x19 + 1)),iv 0,iv 0],W 3 9 [bs x18,nilS,.s (.int .u8 0),bs [],bv false,bs [],bv false,bs [],nilS]],4⟩ ?_
   exact jx_mid rfl (wkR [(0,some 0),(1,some 1),(2,some 2),(3,some 3)] (fix_nil _) (pc (hC 0) (pc (hC 1) (pc (hC 2) (pc (hC 3) allp_nil)))))
  refine jc_skip ?_
  exact jx_mid rfl (wkR [(0,some 0),(1,some 1),(2,some 2),(3,some 3)] (fix_nil _) (pc (hC 0) (pc (hC 1) (pc (hC 2) (pc (hC 3) allp_nil)))))
 rintro⟨x13,x14⟩
 refine jx_seqN ?_
 refine jc_seq ?_
 refine jR ?_
 refine jG 0 1 ⟨[V 2 (pt 0 9),V 3 (pt 1 2),V 4 (pt 2 4),V 5 (pt 3 9),V 87 (pt 2 4)],[W 0 9 [bs [],nilS,.s (.int .u8 0),bs [],bv false,bs [],bv false,bs [],nilS],W 1 2 [iv 0,iv 0],W 2 4 [bs x1,iv x13,iv 0,iv 0],W 3 9 [bs x14,nilS,.s (.int .u8 0),bs [],bv false,bs [],bv false,bs [],nilS]],4⟩ ?_
 refine jr_callF (i:=1) rfl rfl rfl rfl (vs:=[pt 2 4,iv 0,iv 1]) (vs0:=[.fptr [bs x1,iv x13,iv 0,iv 0] 0,iv 0,iv 1]) (b:=true) (by kernel_rfl) (by kernel_rfl) (all2_cons (fle_refl _) (all2_cons (fle_refl _) (all2_cons (fle_refl _) all2_nil))) (ref03_reader_byteIs_s52fb_ok x1 x13 0 0 0 1) (fun _=>rfl) (fun _=>rfl) ?_
 intro x20 h20
 refine jG 2 1 ⟨[V 2 (pt 0 9),V 3 (pt 1 2),V 4 (pt 2 4),V 5 (pt 3 9),V 89 (bv (!x20))],[W 0 9 [bs [],nilS,.s (.int .u8 0),bs [],bv false,bs [],bv false,bs [],nilS],W 1 2 [iv 0,iv 0],W 2 4 [bs x1,iv x13,iv 0,iv 0],W 3 9 [bs x14,nilS,.s (.int .u8 0),bs [],bv false,bs [],bv false,bs [],nilS]],4⟩ ?_
 refine jN ?_
 refine jIf ?_ ?_
 ·refine jR ?_
  refine jG 0 1 ⟨[V 2 (pt 0 9),V 3 (pt 1 2),V 4 (pt 2 4),V 90 (pt 2 4)],[W 0 9 [bs [],nilS,.s (.int .u8 0),bs [],bv false,bs [],bv false,bs [],nilS],W 1 2 [iv 0,iv 0],W 2 4 [bs x1,iv x13,iv 0,iv 0]],4⟩ ?_
  refine jr_callM 1 [(0,some 2)] [(2,some 0)] (fun r:Int × Int=>[W 0 9 [bs [],nilS,.s (.int .u8 0),bs [],bv false,bs [],bv false,bs [],nilS],W 1 2 [iv 0,iv 0],W 2 4 [bs x1,iv x13,iv r.1,iv r.2]]) (fun r:Int × Int=>.tup []) 4 (ref03_reader_fail_ok x1 x13 0 0) (pc (hC 2) allp_nil) (fun r=>(pc (.inl ⟨rfl,rfl⟩) (pc (.inl ⟨rfl,rfl⟩) (pc (.inr (hC 0)) allp_nil)))) ?_
  rintro⟨x21,x22⟩ hm3
  refine jN ?_
  refine jc_seq ?_
  refine jc_full ref03_Parse_r14 [(95,2)] ?_
  refine jG 0 7 ⟨[V 2 (pt 0 9),V 3 (pt 1 2),V 95 (.ptr 2 0 4 2)],[W 0 9 [bs [],nilS,.s (.int .u8 0),bs [],bv false,bs [],bv false,bs [],nilS],W 1 2 [iv x21,iv x22],W 2 4 [bs x1,iv x13,iv x21,iv x22]],4⟩ ?_
  refine jr_nil rfl ?_
  refine jx_full ?_
  refine jx_seqN ?_
  refine jc_ret ?_
  refine jx_seqR ?_
  exact jx_retF (.inr rfl) (v:=.tup [.agg [bs [],nilS,.s (.int .u8 0),bs [],bv false,bs [],bv false,bs [],nilS],.agg [iv x21,iv x22]]) (by kernel_rfl) (snapc_tup (snapL_cons (snapc_agg (snapL_cons rfl (snapL_cons rfl (snapL_cons rfl (snapL_cons rfl (snapL_cons rfl (snapL_cons rfl (snapL_cons rfl (snapL_cons rfl (snapL_cons rfl (snapL_nil _))))))))))) (snapL_cons rfl (snapL_nil _)))) (fle_tup (all2_cons (fle_agg (all2_cons (fle_refl _) (all2_cons (fle_nil _) (all2_cons (fle_refl _) (all2_cons (fle_refl _) (all2_cons (fle_refl _) (all2_cons (fle_refl _) (all2_cons (fle_refl _) (all2_cons (fle_refl _) (all2_cons (fle_nil _) all2_nil)))))))))) (all2_cons (fle_refl _) all2_nil)))
 refine jc_skip ?_
 refine jx_seqN ?_
 refine jc_seq ?_
 refine jc_fullM ref03_Parse_r15 [] [97] 3 ⟨[V 2 (pt 0 9),V 3 (pt 1 2),V 4 (pt 2 4),V 5 (pt 3 9),V 97 (.ptr 3 0 9 1),V 98 (nilS),V 99 (pt 2 4)],[W 0 9 [bs [],nilS,.s (.int .u8 0),bs [],bv false,bs [],bv false,bs [],nilS],W 1 2 [iv 0,iv 0],W 2 4 [bs x1,iv x13,iv 0,iv 0],W 3 9 [bs x14,nilS,.s (.int .u8 0),bs [],bv false,bs [],bv false,bs [],nilS]],4⟩ [(0,some 2)] [(2,some 0)] (fun r:Str × Int=>[W 0 9 [bs [],nilS,.s (.int .u8 0),bs [],bv false,bs [],bv false,bs [],nilS],W 1 2 [iv 0,iv 0],W 2 4 [bs x1,iv r.2,iv 0,iv 0],W 3 9 [bs x14,nilS,.s (.int .u8 0),bs [],bv false,bs [],bv false,bs [],nilS]]) (fun r:Str × Int=>bs r.1) 4 (ref03_reader_digits_ok x1 x13 0 0) (pc (hC 2) allp_nil) (fun r=>(pc (.inl ⟨rfl,rfl⟩) (pc (.inl ⟨rfl,rfl⟩) (pc (.inr (hC 0)) (pc (.inl ⟨rfl,rfl⟩) allp_nil))))) ?_
 rintro⟨x23,x24⟩ hm23
 refine jG 4 1 ⟨[V 2 (pt 0 9),V 3 (pt 1 2),V 4 (pt 2 4),V 5 (pt 3 9),V 97 (.ptr 3 0 9 1),V 98 (nilS),V 101 (.fsl 1 (List.map cS [x23]))],[W 0 9 [bs [],nilS,.s (.int .u8 0),bs [],bv false,bs [],bv false,bs [],nilS],W 1 2 [iv 0,iv 0],W 2 4 [bs x1,iv x24,iv 0,iv 0],W 3 9 [bs x14,nilS,.s (.int .u8 0),bs [],bv false,bs [],bv false,bs [],nilS]],4⟩ ?_
 refine jr_part (i:=5) (mo:=app 16 ([]:List Str) [x23]) rfl rfl rfl rfl (fun _ hc=>aop_app (u:=nilS) (w:=.fsl 1 (List.map cS [x23])) (e:=9) (td:=.slice 9) (by kernel_rfl) (by kernel_rfl) (by kernel_rfl) (by kernel_rfl) (.inl ⟨_,rfl⟩) (appendOf_nil (c:=cS) (sz:=1) (b:=16) (by kernel_rfl) (.inl rfl) rows_fsl (List.cons_ne_nil _ _) hc)) (fun _=>rfl) ?_
 intro x25 h25
 refine jG 6 2 ⟨[V 2 (pt 0 9),V 3 (pt 1 2),V 4 (pt 2 4),V 5 (pt 3 9),V 97 (.ptr 3 0 9 1)],[W 0 9 [bs [],nilS,.s (.int .u8 0),bs [],bv false,bs [],bv false,bs [],nilS],W 1 2 [iv 0,iv 0],W 2 4 [bs x1,iv x24,iv 0,iv 0],W 3 9 [bs x14,.osl 4 0 (List.length x25) 1,.s (.int .u8 0),bs [],bv false,bs [],bv false,bs [],nilS],(4,.rows 1 (List.map cS x25))],5⟩ ?_
 refine jr_nil rfl ?_
 refine jx_full ?_
 refine jx_seqN ?_
 refine jc_seq ?_
 refine jc_block ?_
 refine jc_bind (fun (x44,x45)=>⟨[V 2 (pt 0 9),V 3 (pt 1 2),V 4 (pt 2 4),V 5 (pt 3 9)],[W 0 9 [bs [],nilS,.s (.int .u8 0),bs [],bv false,bs [],bv false,bs [],nilS],W 1 2 [iv 0,iv 0],W 2 4 [bs x1,iv x44,iv 0,iv 0],W 3 9 [bs x14,.osl 4 0 (List.length x45) 1,.s (.int .u8 0),bs [],bv false,bs [],bv false,bs [],nilS],(4,.rows 1 (List.map cS x45))],5⟩) (fun (x44,x45)=>(.exit 0)) (jc_loop (fun (x33,x34)=>⟨[V 2 (pt 0 9),V 3 (pt 1 2),V 4 (pt 2 4),V 5 (pt 3 9)],[W 0 9 [bs [],nilS,.s (.int .u8 0),bs [],bv false,bs [],bv false,bs [],nilS],W 1 2 [iv 0,iv 0],W 2 4 [bs x1,iv x33,iv 0,iv 0],W 3 9 [bs x14,.osl 4 0 (List.length x34) 1,.s (.int .u8 0),bs [],bv false,bs [],bv false,bs [],nilS],(4,.rows 1 (List.map cS x34))],5⟩) (wkR [(0,some 0),(1,some 1),(2,some 2),(3,some 3),(4,some 4)] (fix_nil _) (pc (hC 0) (pc (hC 1) (pc (hC 2) (pc (hC 3) (pc (hL 4 (noid_map ni_S _)) allp_nil)))))) ?_) ?_
 ·rintro⟨x33,x34⟩
  unfold ref03_Parse_l1
  refine jc_seq ?_
  refine jR ?_
  refine jG 0 11 ⟨[V 2 (pt 0 9),V 3 (pt 1 2),V 4 (pt 2 4),V 5 (pt 3 9),V 114 (bv (decide (x33 < (List.length x1:Int))))],[W 0 9 [bs [],nilS,.s (.int .u8 0),bs [],bv false,bs [],bv false,bs [],nilS],W 1 2 [iv 0,iv 0],W 2 4 [bs x1,iv x33,iv 0,iv 0],W 3 9 [bs x14,.osl 4 0 (List.length x34) 1,.s (.int .u8 0),bs [],bv false,bs [],bv false,bs [],nilS],(4,.rows 1 (List.map cS x34))],5⟩ ?_
  refine jr_bind 11 11 (fun x47=>⟨[V 2 (pt 0 9),V 3 (pt 1 2),V 4 (pt 2 4),V 5 (pt 3 9),V 125 (bv x47)],[W 0 9 [bs [],nilS,.s (.int .u8 0),bs [],bv false,bs [],bv false,bs [],nilS],W 1 2 [iv 0,iv 0],W 2 4 [bs x1,iv x33,iv 0,iv 0],W 3 9 [bs x14,.osl 4 0 (List.length x34) 1,.s (.int .u8 0),bs [],bv false,bs [],bv false,bs [],nilS],(4,.rows 1 (List.map cS x34))],5⟩) ?_ ?_
  ·refine jSp 114 ?_ ?_
   ·refine jG 0 8 ⟨[V 2 (pt 0 9),V 3 (pt 1 2),V 4 (pt 2 4),V 5 (pt 3 9),(114,.lit true),V 118 (bs x1),V 122 (iv x33)],[W 0 9 [bs [],nilS,.s (.int .u8 0),bs [],bv false,bs [],bv false,bs [],nilS],W 1 2 [iv 0,iv 0],W 2 4 [bs x1,iv x33,iv 0,iv 0],W 3 9 [bs x14,.osl 4 0 (List.length x34) 1,.s (.int .u8 0),bs [],bv false,bs [],bv false,bs [],nilS],(4,.rows 1 (List.map cS x34))],5⟩ ?_
    refine jr_part (i:=8) (mo:=idx x1 x33) rfl rfl rfl rfl (fun _ hc=>aop_index (kk:=.i64) (by kernel_rfl) (by kernel_rfl) (by kernel_rfl) hc) (fun _=>rfl) ?_
    intro x48 h48
    refine jG 9 2 ⟨[V 2 (pt 0 9),V 3 (pt 1 2),V 4 (pt 2 4),V 5 (pt 3 9),V 125 (bv (x48 == 46))],[W 0 9 [bs [],nilS,.s (.int .u8 0),bs [],bv false,bs [],bv false,bs [],nilS],W 1 2 [iv 0,iv 0],W 2 4 [bs x1,iv x33,iv 0,iv 0],W 3 9 [bs x14,.osl 4 0 (List.length x34) 1,.s (.int .u8 0),bs [],bv false,bs [],bv false,bs [],nilS],(4,.rows 1 (List.map cS x34))],5⟩ ?_
    refine jr_nil rfl ?_
    exact jx_mid rfl (wkR [(0,some 0),(1,some 1),(2,some 2),(3,some 3),(4,some 4)] (fix_nil _) (pc (hC 0) (pc (hC 1) (pc (hC 2) (pc (hC 3) (pc (hL 4 (noid_map ni_S _)) allp_nil))))))
   refine jG 0 11 ⟨[V 2 (pt 0 9),V 3 (pt 1 2),V 4 (pt 2 4),V 5 (pt 3 9),V 125 (bv false)],[W 0 9 [bs [],nilS,.s (.int .u8 0),bs [],bv false,bs [],bv false,bs [],nilS],W 1 2 [iv 0,iv 0],W 2 4 [bs x1,iv x33,iv 0,iv 0],W 3 9 [bs x14,.osl 4 0 (List.length x34) 1,.s (.int .u8 0),bs [],bv false,bs [],bv false,bs [],nilS],(4,.rows 1 (List.map cS x34))],5⟩ ?_
   refine jr_nil rfl ?_
   exact jx_mid rfl (wkR [(0,some 0),(1,some 1),(2,some 2),(3,some 3),(4,some 4)] (fix_nil _) (pc (hC 0) (pc (hC 1) (pc (hC 2) (pc (hC 3) (pc (hL 4 (noid_map ni_S _)) allp_nil))))))
  intro x47
  refine jG 22 1 ⟨[V 2 (pt 0 9),V 3 (pt 1 2),V 4 (pt 2 4),V 5 (pt 3 9),V 126 (bv x47)],[W 0 9 [bs [],nilS,.s (.int .u8 0),bs [],bv false,bs [],bv false,bs [],nilS],W 1 2 [iv 0,iv 0],W 2 4 [bs x1,iv x33,iv 0,iv 0],W 3 9 [bs x14,.osl 4 0 (List.length x34) 1,.s (.int .u8 0),bs [],bv false,bs [],bv false,bs [],nilS],(4,.rows 1 (List.map cS x34))],5⟩ ?_
  refine jr_bind 23 3 (fun x50=>⟨[V 2 (pt 0 9),V 3 (pt 1 2),V 4 (pt 2 4),V 5 (pt 3 9),V 129 (bv x50)],[W 0 9 [bs [],nilS,.s (.int .u8 0),bs [],bv false,bs [],bv false,bs [],nilS],W 1 2 [iv 0,iv 0],W 2 4 [bs x1,iv x33,iv 0,iv 0],W 3 9 [bs x14,.osl 4 0 (List.length x34) 1,.s (.int .u8 0),bs [],bv false,bs [],bv false,bs [],nilS],(4,.rows 1 (List.map cS x34))],5⟩) ?_ ?_
  ·refine jSp 126 ?_ ?_
   ·refine jG 0 1 ⟨[V 2 (pt 0 9),V 3 (pt 1 2),V 4 (pt 2 4),V 5 (pt 3 9),(126,.lit true),V 127 (pt 2 4)],[W 0 9 [bs [],nilS,.s (.int .u8 0),bs [],bv false,bs [],bv false,bs [],nilS],W 1 2 [iv 0,iv 0],W 2 4 [bs x1,iv x33,iv 0,iv 0],W 3 9 [bs x14,.osl 4 0 (List.length x34) 1,.s (.int .u8 0),bs [],bv false,bs [],bv false,bs [],nilS],(4,.rows 1 (List.map cS x34))],5⟩ ?_
    refine jr_callF (i:=1) rfl rfl rfl rfl (vs:=[pt 2 4,iv 1,iv 1]) (vs0:=[.fptr [bs x1,iv x33,iv 0,iv 0] 0,iv 1,iv 1]) (b:=true) (by kernel_rfl) (by kernel_rfl) (all2_cons (fle_refl _) (all2_cons (fle_refl _) (all2_cons (fle_refl _) all2_nil))) (ref03_reader_byteIs_s52fb_ok x1 x33 0 0 1 1) (fun _=>rfl) (fun _=>rfl) ?_
    intro x51 h51
    refine jG 2 1 ⟨[V 2 (pt 0 9),V 3 (pt 1 2),V 4 (pt 2 4),V 5 (pt 3 9),V 129 (bv x51)],[W 0 9 [bs [],nilS,.s (.int .u8 0),bs [],bv false,bs [],bv false,bs [],nilS],W 1 2 [iv 0,iv 0],W 2 4 [bs x1,iv x33,iv 0,iv 0],W 3 9 [bs x14,.osl 4 0 (List.length x34) 1,.s (.int .u8 0),bs [],bv false,bs [],bv false,bs [],nilS],(4,.rows 1 (List.map cS x34))],5⟩ ?_
    refine jr_nil rfl ?_
    exact jx_mid rfl (wkR [(0,some 0),(1,some 1),(2,some 2),(3,some 3),(4,some 4)] (fix_nil _) (pc (hC 0) (pc (hC 1) (pc (hC 2) (pc (hC 3) (pc (hL 4 (noid_map ni_S _)) allp_nil))))))
   refine jG 0 3 ⟨[V 2 (pt 0 9),V 3 (pt 1 2),V 4 (pt 2 4),V 5 (pt 3 9),V 129 (bv false)],[W 0 9 [bs [],nilS,.s (.int .u8 0),bs [],bv false,bs [],bv false,bs [],nilS],W 1 2 [iv 0,iv 0],W 2 4 [bs x1,iv x33,iv 0,iv 0],W 3 9 [bs x14,.osl 4 0 (List.length x34) 1,.s (.int .u8 0),bs [],bv false,bs [],bv false,bs [],nilS],(4,.rows 1 (List.map cS x34))],5⟩ ?_
   refine jr_nil rfl ?_
   exact jx_mid rfl (wkR [(0,some 0),(1,some 1),(2,some 2),(3,some 3),(4,some 4)] (fix_nil _) (pc (hC 0) (pc (hC 1) (pc (hC 2) (pc (hC 3) (pc (hL 4 (noid_map ni_S _)) allp_nil))))))
  intro x50
  refine jN ?_
  refine jIf ?_ ?_
  ·refine jc_skip ?_
   refine jx_seqN ?_
   refine jc_block ?_
   refine jS ⟨[V 2 (pt 0 9),V 3 (pt 1 2),V 4 (pt 2 4),V 5 (pt 3 9)],[W 0 9 [bs [],nilS,.s (.int .u8 0),bs [],bv false,bs [],bv false,bs [],nilS],W 1 2 [iv 0,iv 0],W 2 4 [bs x1,iv (w64 (x33 + 1)),iv 0,iv 0],W 3 9 [bs x14,.osl 4 0 (List.length x34) 1,.s (.int .u8 0),bs [],bv false,bs [],bv false,bs [],nilS],(4,.rows 1 (List.map cS x34))],5⟩ ?_
   refine jc_fullM ref03_Parse_r18 [] [137] 3 ⟨[V 2 (pt 0 9),V 3 (pt 1 2),V 4 (pt 2 4),V 5 (pt 3 9),V 137 (.ptr 3 0 9 1),V 138 (.osl 4 0 (List.length x34) 1),V 139 (pt 2 4)],[W 0 9 [bs [],nilS,.s (.int .u8 0),bs [],bv false,bs [],bv false,bs [],nilS],W 1 2 [iv 0,iv 0],W 2 4 [bs x1,iv (w64 (x33 + 1)),iv 0,iv 0],W 3 9 [bs x14,.osl 4 0 (List.length x34) 1,.s (.int .u8 0),bs [],bv false,bs [],bv false,bs [],nilS],(4,.rows 1 (List.map cS x34))],5⟩ [(0,some 2)] [(2,some 0)] (fun r:Str × Int=>[W 0 9 [bs [],nilS,.s (.int .u8 0),bs [],bv false,bs [],bv false,bs [],nilS],W 1 2 [iv 0,iv 0],W 2 4 [bs x1,iv r.2,iv 0,iv 0],W 3 9 [bs x14,.osl 4 0 (List.length x34) 1,.s (.int .u8 0),bs [],bv false,bs [],bv false,bs [],nilS],(4,.rows 1 (List.map cS x34))]) (fun r:Str × Int=>bs r.1) 5 (ref03_reader_digits_ok x1 (w64 (x33 + 1)) 0 0) (pc (hC 2) allp_nil) (fun r=>(pc (.inl ⟨rfl,rfl⟩) (pc (.inl ⟨rfl,rfl⟩) (pc (.inr (hC 0)) (pc (.inl ⟨rfl,rfl⟩) (pc (.inl ⟨rfl,rfl⟩) allp_nil)))))) ?_
   rintro⟨x52,x53⟩ hm6
   refine jG 4 1 ⟨[V 2 (pt 0 9),V 3 (pt 1 2),V 4 (pt 2 4),V 5 (pt 3 9),V 137 (.ptr 3 0 9 1),V 138 (.osl 4 0 (List.length x34) 1),V 141 (.fsl 1 (List.map cS [x52]))],[W 0 9 [bs [],nilS,.s (.int .u8 0),bs [],bv false,bs [],bv false,bs [],nilS],W 1 2 [iv 0,iv 0],W 2 4 [bs x1,iv x53,iv 0,iv 0],W 3 9 [bs x14,.osl 4 0 (List.length x34) 1,.s (.int .u8 0),bs [],bv false,bs [],bv false,bs [],nilS],(4,.rows 1 (List.map cS x34))],5⟩ ?_
   refine jr_part (i:=5) (mo:=app 16 x34 [x52]) rfl rfl rfl rfl (fun _ hc=>aop_app (u:=.osl 4 0 (List.length x34) 1) (w:=.fsl 1 (List.map cS [x52])) (e:=9) (td:=.slice 9) (by kernel_rfl) (by kernel_rfl) (by kernel_rfl) (by kernel_rfl) (.inl ⟨_,rfl⟩) (appendOf_own (c:=cS) (sz:=1) (b:=16) (id:=4) (by kernel_rfl) (by kernel_rfl) rows_fsl (List.cons_ne_nil _ _) hc)) (fun _=>rfl) ?_
   intro x54 h54
   refine jG 6 2 ⟨[V 2 (pt 0 9),V 3 (pt 1 2),V 4 (pt 2 4),V 5 (pt 3 9),V 137 (.ptr 3 0 9 1)],[W 0 9 [bs [],nilS,.s (.int .u8 0),bs [],bv false,bs [],bv false,bs [],nilS],W 1 2 [iv 0,iv 0],W 2 4 [bs x1,iv x53,iv 0,iv 0],W 3 9 [bs x14,.osl 5 0 (List.length x54) 1,.s (.int .u8 0),bs [],bv false,bs [],bv false,bs [],nilS],(5,.rows 1 (List.map cS x54))],6⟩ ?_
   refine jr_nil rfl ?_
   refine jx_full ?_
   refine jx_blkN ?_
   exact jx_next (wkR [(0,some 0),(1,some 1),(2,some 2),(3,some 3),(4,some 5)] (fix_nil _) (pc (hC 0) (pc (hC 1) (pc (hC 2) (pc (hC 3) (pc (hL 5 (noid_map ni_S _)) allp_nil))))))
  refine jc_exit ?_
  refine jx_seqE ?_
  exact jx_done rfl nofun (wkR [(0,some 0),(1,some 1),(2,some 2),(3,some 3),(4,some 4)] (fix_nil _) (pc (hC 0) (pc (hC 1) (pc (hC 2) (pc (hC 3) (pc (hL 4 (noid_map ni_S _)) allp_nil))))))
 rintro⟨x44,x45⟩
 refine jx_blkE ?_
 refine jx_seqN ?_
 refine jR ?_
 refine jG 0 2 ⟨[V 2 (pt 0 9),V 3 (pt 1 2),V 4 (pt 2 4),V 5 (pt 3 9),V 145 (pt 2 4),V 146 (.osl 5 0 (List.length ([[97,108,112,104,97],[97],[98,101,116,97],[98],[112,114,101,118,105,101,119],[112,114,101],[99],[114,99]])) 1)],[W 0 9 [bs [],nilS,.s (.int .u8 0),bs [],bv false,bs [],bv false,bs [],nilS],W 1 2 [iv 0,iv 0],W 2 4 [bs x1,iv x44,iv 0,iv 0],W 3 9 [bs x14,.osl 4 0 (List.length x45) 1,.s (.int .u8 0),bs [],bv false,bs [],bv false,bs [],nilS],(4,.rows 1 (List.map cS x45)),(5,.rows 1 (List.map cS ([[97,108,112,104,97],[97],[98,101,116,97],[98],[112,114,101,118,105,101,119],[112,114,101],[99],[114,99]])))],6⟩ ?_
 refine jr_callM 2 [(0,some 2),(1,some 5)] [(2,some 0),(5,some 1)] (fun r:Str × Bool × Int=>[W 0 9 [bs [],nilS,.s (.int .u8 0),bs [],bv false,bs [],bv false,bs [],nilS],W 1 2 [iv 0,iv 0],W 2 4 [bs x1,iv r.2.2,iv 0,iv 0],W 3 9 [bs x14,.osl 4 0 (List.length x45) 1,.s (.int .u8 0),bs [],bv false,bs [],bv false,bs [],nilS],(4,.rows 1 (List.map cS x45)),(5,.rows 1 (List.map cS ([[97,108,112,104,97],[97],[98,101,116,97],[98],[112,114,101,118,105,101,119],[112,114,101],[99],[114,99]])))]) (fun r:Str × Bool × Int=>.tup [bs r.1,bv r.2.1]) 6 (ref03_reader_word_ok x1 x44 0 0 ([[97,108,112,104,97],[97],[98,101,116,97],[98],[112,114,101,118,105,101,119],[112,114,101],[99],[114,99]])) (pc (hC 2) (pc (hL 5 (noid_map ni_S _)) allp_nil)) (fun r=>(pc (.inl ⟨rfl,rfl⟩) (pc (.inl ⟨rfl,rfl⟩) (pc (.inr (hC 0)) (pc (.inl ⟨rfl,rfl⟩) (pc (.inl ⟨rfl,rfl⟩) (pc (.inr (hL 1 (noid_map ni_S _))) allp_nil))))))) ?_
 rintro⟨x55,x56,x57⟩ hm22
 refine jG 3 5 ⟨[V 2 (pt 0 9),V 3 (pt 1 2),V 4 (pt 2 4),V 5 (pt 3 9),V 7 (bs x55),V 8 (bv x56)],[W 0 9 [bs [],nilS,.s (.int .u8 0),bs [],bv false,bs [],bv false,bs [],nilS],W 1 2 [iv 0,iv 0],W 2 4 [bs x1,iv x57,iv 0,iv 0],W 3 9 [bs x14,.osl 4 0 (List.length x45) 1,.s (.int .u8 0),bs [],bv false,bs [],bv false,bs [],nilS],(4,.rows 1 (List.map cS x45))],6⟩ ?_
 refine jN ?_
 refine jc_seq ?_
 refine jc_bind (fun (x61,x62,x63)=>⟨[V 2 (pt 0 9),V 3 (pt 1 2),V 4 (pt 2 4),V 5 (pt 3 9)],[W 0 9 [bs [],nilS,.s (.int .u8 0),bs [],bv false,bs [],bv false,bs [],nilS],W 1 2 [iv 0,iv 0],W 2 4 [bs x1,iv x61,iv 0,iv 0],W 3 9 [bs x14,.osl 4 0 (List.length x45) 1,.s (.int .u8 x62),bs x63,bv false,bs [],bv false,bs [],nilS],(4,.rows 1 (List.map cS x45))],5⟩) (fun (x61,x62,x63)=>.normal) ?_ ?_
 ·refine jS ⟨[V 2 (pt 0 9),V 3 (pt 1 2),V 4 (pt 2 4),V 5 (pt 3 9),V 7 (bs x55),V 150 (bv x56)],[W 0 9 [bs [],nilS,.s (.int .u8 0),bs [],bv false,bs [],bv false,bs [],nilS],W 1 2 [iv 0,iv 0],W 2 4 [bs x1,iv x57,iv 0,iv 0],W 3 9 [bs x14,.osl 4 0 (List.length x45) 1,.s (.int .u8 0),bs [],bv false,bs [],bv false,bs [],nilS],(4,.rows 1 (List.map cS x45))],6⟩ ?_
  refine jIf ?_ ?_
  ·refine jR ?_
   refine jG 0 1 ⟨[V 2 (pt 0 9),V 3 (pt 1 2),V 4 (pt 2 4),V 5 (pt 3 9),V 151 (bs x55)],[W 0 9 [bs [],nilS,.s (.int .u8 0),bs [],bv false,bs [],bv false,bs [],nilS],W 1 2 [iv 0,iv 0],W 2 4 [bs x1,iv x57,iv 0,iv 0],W 3 9 [bs x14,.osl 4 0 (List.length x45) 1,.s (.int .u8 0),bs [],bv false,bs [],bv false,bs [],nilS],(4,.rows 1 (List.map cS x45))],6⟩ ?_
   refine jK 1 (ref03_letter_ok x55) ?_
   intro x64 h64
   refine jG 2 2 ⟨[V 2 (pt 0 9),V 3 (pt 1 2),V 4 (pt 2 4),V 5 (pt 3 9)],[W 0 9 [bs [],nilS,.s (.int .u8 0),bs [],bv false,bs [],bv false,bs [],nilS],W 1 2 [iv 0,iv 0],W 2 4 [bs x1,iv x57,iv 0,iv 0],W 3 9 [bs x14,.osl 4 0 (List.length x45) 1,.s (.int .u8 x64),bs [],bv false,bs [],bv false,bs [],nilS],(4,.rows 1 (List.map cS x45))],6⟩ ?_
   refine jN ?_
   refine jc_reg ?_
   refine jG 0 1 ⟨[V 2 (pt 0 9),V 3 (pt 1 2),V 4 (pt 2 4),V 5 (pt 3 9),V 154 (pt 2 4)],[W 0 9 [bs [],nilS,.s (.int .u8 0),bs [],bv false,bs [],bv false,bs [],nilS],W 1 2 [iv 0,iv 0],W 2 4 [bs x1,iv x57,iv 0,iv 0],W 3 9 [bs x14,.osl 4 0 (List.length x45) 1,.s (.int .u8 x64),bs [],bv false,bs [],bv false,bs [],nilS],(4,.rows 1 (List.map cS x45))],6⟩ ?_
   refine jr_callM 1 [(0,some 2)] [(2,some 0)] (fun r:Str × Int=>[W 0 9 [bs [],nilS,.s (.int .u8 0),bs [],bv false,bs [],bv false,bs [],nilS],W 1 2 [iv 0,iv 0],W 2 4 [bs x1,iv r.2,iv 0,iv 0],W 3 9 [bs x14,.osl 4 0 (List.length x45) 1,.s (.int .u8 x64),bs [],bv false,bs [],bv false,bs [],nilS],(4,.rows 1 (List.map cS x45))]) (fun r:Str × Int=>bs r.1) 6 (ref03_reader_number_ok x1 x57 0 0) (pc (hC 2) allp_nil) (fun r=>(pc (.inl ⟨rfl,rfl⟩) (pc (.inl ⟨rfl,rfl⟩) (pc (.inr (hC 0)) (pc (.inl ⟨rfl,rfl⟩) (pc (.inl ⟨rfl,rfl⟩) allp_nil)))))) ?_
   rintro⟨x65,x66⟩ hm8
   refine jG 2 2 ⟨[V 2 (pt 0 9),V 3 (pt 1 2),V 4 (pt 2 4),V 5 (pt 3 9)],[W 0 9 [bs [],nilS,.s (.int .u8 0),bs [],bv false,bs [],bv false,bs [],nilS],W 1 2 [iv 0,iv 0],W 2 4 [bs x1,iv x66,iv 0,iv 0],W 3 9 [bs x14,.osl 4 0 (List.length x45) 1,.s (.int .u8 x64),bs x65,bv false,bs [],bv false,bs [],nilS],(4,.rows 1 (List.map cS x45))],6⟩ ?_
   refine jr_nil rfl ?_
   exact jx_mid rfl (wkR [(0,some 0),(1,some 1),(2,some 2),(3,some 3),(4,some 4)] (fix_nil _) (pc (hC 0) (pc (hC 1) (pc (hC 2) (pc (hC 3) (pc (hL 4 (noid_map ni_S _)) allp_nil))))))
  refine jc_skip ?_
  exact jx_mid rfl (wkR [(0,some 0),(1,some 1),(2,some 2),(3,some 3),(4,some 4)] (fix_nil _) (pc (hC 0) (pc (hC 1) (pc (hC 2) (pc (hC 3) (pc (hL 4 (noid_map ni_S _)) allp_nil))))))
 rintro⟨x61,x62,x63⟩
 refine jx_seqN ?_
 refine jc_seq ?_
 refine jc_bind (fun (x78,x79,x80)=>⟨[V 2 (pt 0 9),V 3 (pt 1 2),V 4 (pt 2 4),V 5 (pt 3 9)],[W 0 9 [bs [],nilS,.s (.int .u8 0),bs [],bv false,bs [],bv false,bs [],nilS],W 1 2 [iv 0,iv 0],W 2 4 [bs x1,iv x78,iv 0,iv 0],W 3 9 [bs x14,.osl 4 0 (List.length x45) 1,.s (.int .u8 x62),bs x63,bv x79,bs x80,bv false,bs [],nilS],(4,.rows 1 (List.map cS x45))],5⟩) (fun (x78,x79,x80)=>.normal) ?_ ?_
 ·refine jR ?_
  refine jG 0 11 ⟨[V 2 (pt 0 9),V 3 (pt 1 2),V 4 (pt 2 4),V 5 (pt 3 9),V 167 (bv (decide (x61 < (List.length x1:Int))))],[W 0 9 [bs [],nilS,.s (.int .u8 0),bs [],bv false,bs [],bv false,bs [],nilS],W 1 2 [iv 0,iv 0],W 2 4 [bs x1,iv x61,iv 0,iv 0],W 3 9 [bs x14,.osl 4 0 (List.length x45) 1,.s (.int .u8 x62),bs x63,bv false,bs [],bv false,bs [],nilS],(4,.rows 1 (List.map cS x45))],5⟩ ?_
  refine jr_bind 11 11 (fun x82=>⟨[V 2 (pt 0 9),V 3 (pt 1 2),V 4 (pt 2 4),V 5 (pt 3 9),V 178 (bv x82)],[W 0 9 [bs [],nilS,.s (.int .u8 0),bs [],bv false,bs [],bv false,bs [],nilS],W 1 2 [iv 0,iv 0],W 2 4 [bs x1,iv x61,iv 0,iv 0],W 3 9 [bs x14,.osl 4 0 (List.length x45) 1,.s (.int .u8 x62),bs x63,bv false,bs [],bv false,bs [],nilS],(4,.rows 1 (List.map cS x45))],5⟩) ?_ ?_
  ·refine jSp 167 ?_ ?_
   ·refine jG 0 8 ⟨[V 2 (pt 0 9),V 3 (pt 1 2),V 4 (pt 2 4),V 5 (pt 3 9),(167,.lit true),V 171 (bs x1),V 175 (iv x61)],[W 0 9 [bs [],nilS,.s (.int .u8 0),bs [],bv false,bs [],bv false,bs [],nilS],W 1 2 [iv 0,iv 0],W 2 4 [bs x1,iv x61,iv 0,iv 0],W 3 9 [bs x14,.osl 4 0 (List.length x45) 1,.s (.int .u8 x62),bs x63,bv false,bs [],bv false,bs [],nilS],(4,.rows 1 (List.map cS x45))],5⟩ ?_
    refine jr_part (i:=8) (mo:=idx x1 x61) rfl rfl rfl rfl (fun _ hc=>aop_index (kk:=.i64) (by kernel_rfl) (by kernel_rfl) (by kernel_rfl) hc) (fun _=>rfl) ?_
    intro x83 h83
    refine jG 9 2 ⟨[V 2 (pt 0 9),V 3 (pt 1 2),V 4 (pt 2 4),V 5 (pt 3 9),V 178 (bv (x83 == 45))],[W 0 9 [bs [],nilS,.s (.int .u8 0),bs [],bv false,bs [],bv false,bs [],nilS],W 1 2 [iv 0,iv 0],W 2 4 [bs x1,iv x61,iv 0,iv 0],W 3 9 [bs x14,.osl 4 0 (List.length x45) 1,.s (.int .u8 x62),bs x63,bv false,bs [],bv false,bs [],nilS],(4,.rows 1 (List.map cS x45))],5⟩ ?_
    refine jr_nil rfl ?_
    exact jx_mid rfl (wkR [(0,some 0),(1,some 1),(2,some 2),(3,some 3),(4,some 4)] (fix_nil _) (pc (hC 0) (pc (hC 1) (pc (hC 2) (pc (hC 3) (pc (hL 4 (noid_map ni_S _)) allp_nil))))))
   refine jG 0 11 ⟨[V 2 (pt 0 9),V 3 (pt 1 2),V 4 (pt 2 4),V 5 (pt 3 9),V 178 (bv false)],[W 0 9 [bs [],nilS,.s (.int .u8 0),bs [],bv false,bs [],bv false,bs [],nilS],W 1 2 [iv 0,iv 0],W 2 4 [bs x1,iv x61,iv 0,iv 0],W 3 9 [bs x14,.osl 4 0 (List.length x45) 1,.s (.int .u8 x62),bs x63,bv false,bs [],bv false,bs [],nilS],(4,.rows 1 (List.map cS x45))],5⟩ ?_
   refine jr_nil rfl ?_
   exact jx_mid rfl (wkR [(0,some 0),(1,some 1),(2,some 2),(3,some 3),(4,some 4)] (fix_nil _) (pc (hC 0) (pc (hC 1) (pc (hC 2) (pc (hC 3) (pc (hL 4 (noid_map ni_S _)) allp_nil))))))
  intro x82
  refine jG 22 1 ⟨[V 2 (pt 0 9),V 3 (pt 1 2),V 4 (pt 2 4),V 5 (pt 3 9),V 179 (bv x82)],[W 0 9 [bs [],nilS,.s (.int .u8 0),bs [],bv false,bs [],bv false,bs [],nilS],W 1 2 [iv 0,iv 0],W 2 4 [bs x1,iv x61,iv 0,iv 0],W 3 9 [bs x14,.osl 4 0 (List.length x45) 1,.s (.int .u8 x62),bs x63,bv false,bs [],bv false,bs [],nilS],(4,.rows 1 (List.map cS x45))],5⟩ ?_
  refine jr_bind 23 3 (fun x85=>⟨[V 2 (pt 0 9),V 3 (pt 1 2),V 4 (pt 2 4),V 5 (pt 3 9),V 182 (bv x85)],[W 0 9 [bs [],nilS,.s (.int .u8 0),bs [],bv false,bs [],bv false,bs [],nilS],W 1 2 [iv 0,iv 0],W 2 4 [bs x1,iv x61,iv 0,iv 0],W 3 9 [bs x14,.osl 4 0 (List.length x45) 1,.s (.int .u8 x62),bs x63,bv false,bs [],bv false,bs [],nilS],(4,.rows 1 (List.map cS x45))],5⟩) ?_ ?_
  ·refine jSp 179 ?_ ?_
   ·refine jG 0 1 ⟨[V 2 (pt 0 9),V 3 (pt 1 2),V 4 (pt 2 4),V 5 (pt 3 9),(179,.lit true),V 180 (pt 2 4)],[W 0 9 [bs [],nilS,.s (.int .u8 0),bs [],bv false,bs [],bv false,bs [],nilS],W 1 2 [iv 0,iv 0],W 2 4 [bs x1,iv x61,iv 0,iv 0],W 3 9 [bs x14,.osl 4 0 (List.length x45) 1,.s (.int .u8 x62),bs x63,bv false,bs [],bv false,bs [],nilS],(4,.rows 1 (List.map cS x45))],5⟩ ?_
    refine jr_callF (i:=1) rfl rfl rfl rfl (vs:=[pt 2 4,iv 1,iv 1]) (vs0:=[.fptr [bs x1,iv x61,iv 0,iv 0] 0,iv 1,iv 1]) (b:=true) (by kernel_rfl) (by kernel_rfl) (all2_cons (fle_refl _) (all2_cons (fle_refl _) (all2_cons (fle_refl _) all2_nil))) (ref03_reader_byteIs_s52fb_ok x1 x61 0 0 1 1) (fun _=>rfl) (fun _=>rfl) ?_
    intro x86 h86
    refine jG 2 1 ⟨[V 2 (pt 0 9),V 3 (pt 1 2),V 4 (pt 2 4),V 5 (pt 3 9),V 182 (bv x86)],[W 0 9 [bs [],nilS,.s (.int .u8 0),bs [],bv false,bs [],bv false,bs [],nilS],W 1 2 [iv 0,iv 0],W 2 4 [bs x1,iv x61,iv 0,iv 0],W 3 9 [bs x14,.osl 4 0 (List.length x45) 1,.s (.int .u8 x62),bs x63,bv false,bs [],bv false,bs [],nilS],(4,.rows 1 (List.map cS x45))],5⟩ ?_
    refine jr_nil rfl ?_
    exact jx_mid rfl (wkR [(0,some 0),(1,some 1),(2,some 2),(3,some 3),(4,some 4)] (fix_nil _) (pc (hC 0) (pc (hC 1) (pc (hC 2) (pc (hC 3) (pc (hL 4 (noid_map ni_S _)) allp_nil))))))
   refine jG 0 3 ⟨[V 2 (pt 0 9),V 3 (pt 1 2),V 4 (pt 2 4),V 5 (pt 3 9),V 182 (bv false)],[W 0 9 [bs [],nilS,.s (.int .u8 0),bs [],bv false,bs [],bv false,bs [],nilS],W 1 2 [iv 0,iv 0],W 2 4 [bs x1,iv x61,iv 0,iv 0],W 3 9 [bs x14,.osl 4 0 (List.length x45) 1,.s (.int .u8 x62),bs x63,bv false,bs [],bv false,bs [],nilS],(4,.rows 1 (List.map cS x45))],5⟩ ?_
   refine jr_nil rfl ?_
   exact jx_mid rfl (wkR [(0,some 0),(1,some 1),(2,some 2),(3,some 3),(4,some 4)] (fix_nil _) (pc (hC 0) (pc (hC 1) (pc (hC 2) (pc (hC 3) (pc (hL 4 (noid_map ni_S _)) allp_nil))))))
  intro x85
  refine jN ?_
  refine jIf ?_ ?_
  ·refine jS ⟨[V 2 (pt 0 9),V 3 (pt 1 2),V 4 (pt 2 4),V 5 (pt 3 9)],[W 0 9 [bs [],nilS,.s (.int .u8 0),bs [],bv false,bs [],bv false,bs [],nilS],W 1 2 [iv 0,iv 0],W 2 4 [bs x1,iv (w64 (x61 + 1)),iv 0,iv 0],W 3 9 [bs x14,.osl 4 0 (List.length x45) 1,.s (.int .u8 x62),bs x63,bv false,bs [],bv false,bs [],nilS],(4,.rows 1 (List.map cS x45))],5⟩ ?_
   refine jS ⟨[V 2 (pt 0 9),V 3 (pt 1 2),V 4 (pt 2 4),V 5 (pt 3 9)],[W 0 9 [bs [],nilS,.s (.int .u8 0),bs [],bv false,bs [],bv false,bs [],nilS],W 1 2 [iv 0,iv 0],W 2 4 [bs x1,iv (w64 (x61 + 1)),iv 0,iv 0],W 3 9 [bs x14,.osl 4 0 (List.length x45) 1,.s (.int .u8 x62),bs x63,bv true,bs [],bv false,bs [],nilS],(4,.rows 1 (List.map cS x45))],5⟩ ?_
   refine jc_reg ?_
   refine jG 0 1 ⟨[V 2 (pt 0 9),V 3 (pt 1 2),V 4 (pt 2 4),V 5 (pt 3 9),V 191 (pt 2 4)],[W 0 9 [bs [],nilS,.s (.int .u8 0),bs [],bv false,bs [],bv false,bs [],nilS],W 1 2 [iv 0,iv 0],W 2 4 [bs x1,iv (w64 (x61 + 1)),iv 0,iv 0],W 3 9 [bs x14,.osl 4 0 (List.length x45) 1,.s (.int .u8 x62),bs x63,bv true,bs [],bv false,bs [],nilS],(4,.rows 1 (List.map cS x45))],5⟩ ?_
   refine jr_callM 1 [(0,some 2)] [(2,some 0)] (fun r:Str × Int=>[W 0 9 [bs [],nilS,.s (.int .u8 0),bs [],bv false,bs [],bv false,bs [],nilS],W 1 2 [iv 0,iv 0],W 2 4 [bs x1,iv r.2,iv 0,iv 0],W 3 9 [bs x14,.osl 4 0 (List.length x45) 1,.s (.int .u8 x62),bs x63,bv true,bs [],bv false,bs [],nilS],(4,.rows 1 (List.map cS x45))]) (fun r:Str × Int=>bs r.1) 5 (ref03_reader_digits_ok x1 (w64 (x61 + 1)) 0 0) (pc (hC 2) allp_nil) (fun r=>(pc (.inl ⟨rfl,rfl⟩) (pc (.inl ⟨rfl,rfl⟩) (pc (.inr (hC 0)) (pc (.inl ⟨rfl,rfl⟩) (pc (.inl ⟨rfl,rfl⟩) allp_nil)))))) ?_
   rintro⟨x87,x88⟩ hm12
   refine jG 2 2 ⟨[V 2 (pt 0 9),V 3 (pt 1 2),V 4 (pt 2 4),V 5 (pt 3 9)],[W 0 9 [bs [],nilS,.s (.int .u8 0),bs [],bv false,bs [],bv false,bs [],nilS],W 1 2 [iv 0,iv 0],W 2 4 [bs x1,iv x88,iv 0,iv 0],W 3 9 [bs x14,.osl 4 0 (List.length x45) 1,.s (.int .u8 x62),bs x63,bv true,bs x87,bv false,bs [],nilS],(4,.rows 1 (List.map cS x45))],5⟩ ?_
   refine jr_nil rfl ?_
   exact jx_mid rfl (wkR [(0,some 0),(1,some 1),(2,some 2),(3,some 3),(4,some 4)] (fix_nil _) (pc (hC 0) (pc (hC 1) (pc (hC 2) (pc (hC 3) (pc (hL 4 (noid_map ni_S _)) allp_nil))))))
  refine jR ?_
  refine jG 0 2 ⟨[V 2 (pt 0 9),V 3 (pt 1 2),V 4 (pt 2 4),V 5 (pt 3 9),V 195 (pt 2 4),V 196 (.osl 5 0 (List.length ([[112,111,115,116],[114,101,118],[114]])) 1)],[W 0 9 [bs [],nilS,.s (.int .u8 0),bs [],bv false,bs [],bv false,bs [],nilS],W 1 2 [iv 0,iv 0],W 2 4 [bs x1,iv x61,iv 0,iv 0],W 3 9 [bs x14,.osl 4 0 (List.length x45) 1,.s (.int .u8 x62),bs x63,bv false,bs [],bv false,bs [],nilS],(4,.rows 1 (List.map cS x45)),(5,.rows 1 (List.map cS ([[112,111,115,116],[114,101,118],[114]])))],6⟩ ?_
  refine jr_callM 2 [(0,some 2),(1,some 5)] [(2,some 0),(5,some 1)] (fun r:Str × Bool × Int=>[W 0 9 [bs [],nilS,.s (.int .u8 0),bs [],bv false,bs [],bv false,bs [],nilS],W 1 2 [iv 0,iv 0],W 2 4 [bs x1,iv r.2.2,iv 0,iv 0],W 3 9 [bs x14,.osl 4 0 (List.length x45) 1,.s (.int .u8 x62),bs x63,bv false,bs [],bv false,bs [],nilS],(4,.rows 1 (List.map cS x45)),(5,.rows 1 (List.map cS ([[112,111,115,116],[114,101,118],[114]])))]) (fun r:Str × Bool × Int=>.tup [bs r.1,bv r.2.1]) 6 (ref03_reader_word_ok x1 x61 0 0 ([[112,111,115,116],[114,101,118],[114]])) (pc (hC 2) (pc (hL 5 (noid_map ni_S _)) allp_nil)) (fun r=>(pc (.inl ⟨rfl,rfl⟩) (pc (.inl ⟨rfl,rfl⟩) (pc (.inr (hC 0)) (pc (.inl ⟨rfl,rfl⟩) (pc (.inl ⟨rfl,rfl⟩) (pc (.inr (hL 1 (noid_map ni_S _))) allp_nil))))))) ?_
  rintro⟨x89,x90,x91⟩ hm14
  refine jG 3 4 ⟨[V 2 (pt 0 9),V 3 (pt 1 2),V 4 (pt 2 4),V 5 (pt 3 9),V 8 (bv x90)],[W 0 9 [bs [],nilS,.s (.int .u8 0),bs [],bv false,bs [],bv false,bs [],nilS],W 1 2 [iv 0,iv 0],W 2 4 [bs x1,iv x91,iv 0,iv 0],W 3 9 [bs x14,.osl 4 0 (List.length x45) 1,.s (.int .u8 x62),bs x63,bv false,bs [],bv false,bs [],nilS],(4,.rows 1 (List.map cS x45))],6⟩ ?_
  refine jN ?_
  refine jS ⟨[V 2 (pt 0 9),V 3 (pt 1 2),V 4 (pt 2 4),V 5 (pt 3 9),V 200 (bv x90)],[W 0 9 [bs [],nilS,.s (.int .u8 0),bs [],bv false,bs [],bv false,bs [],nilS],W 1 2 [iv 0,iv 0],W 2 4 [bs x1,iv x91,iv 0,iv 0],W 3 9 [bs x14,.osl 4 0 (List.length x45) 1,.s (.int .u8 x62),bs x63,bv false,bs [],bv false,bs [],nilS],(4,.rows 1 (List.map cS x45))],6⟩ ?_
  refine jIf ?_ ?_
  ·refine jS ⟨[V 2 (pt 0 9),V 3 (pt 1 2),V 4 (pt 2 4),V 5 (pt 3 9)],[W 0 9 [bs [],nilS,.s (.int .u8 0),bs [],bv false,bs [],bv false,bs [],nilS],W 1 2 [iv 0,iv 0],W 2 4 [bs x1,iv x91,iv 0,iv 0],W 3 9 [bs x14,.osl 4 0 (List.length x45) 1,.s (.int .u8 x62),bs x63,bv true,bs [],bv false,bs [],nilS],(4,.rows 1 (List.map cS x45))],6⟩ ?_
   refine jc_reg ?_
   refine jG 0 1 ⟨[V 2 (pt 0 9),V 3 (pt 1 2),V 4 (pt 2 4),V 5 (pt 3 9),V 202 (pt 2 4)],[W 0 9 [bs [],nilS,.s (.int .u8 0),bs [],bv false,bs [],bv false,bs [],nilS],W 1 2 [iv 0,iv 0],W 2 4 [bs x1,iv x91,iv 0,iv 0],W 3 9 [bs x14,.osl 4 0 (List.length x45) 1,.s (.int .u8 x62),bs x63,bv true,bs [],bv false,bs [],nilS],(4,.rows 1 (List.map cS x45))],6⟩ ?_
   refine jr_callM 1 [(0,some 2)] [(2,some 0)] (fun r:Str × Int=>[W 0 9 [bs [],nilS,.s (.int .u8 0),bs [],bv false,bs [],bv false,bs [],nilS],W 1 2 [iv 0,iv 0],W 2 4 [bs x1,iv r.2,iv 0,iv 0],W 3 9 [bs x14,.osl 4 0 (List.length x45) 1,.s (.int .u8 x62),bs x63,bv true,bs [],bv false,bs [],nilS],(4,.rows 1 (List.map cS x45))]) (fun r:Str × Int=>bs r.1) 6 (ref03_reader_number_ok x1 x91 0 0) (pc (hC 2) allp_nil) (fun r=>(pc (.inl ⟨rfl,rfl⟩) (pc (.inl ⟨rfl,rfl⟩) (pc (.inr (hC 0)) (pc (.inl ⟨rfl,rfl⟩) (pc (.inl ⟨rfl,rfl⟩) allp_nil)))))) ?_
   rintro⟨x92,x93⟩ hm13
   refine jG 2 2 ⟨[V 2 (pt 0 9),V 3 (pt 1 2),V 4 (pt 2 4),V 5 (pt 3 9)],[W 0 9 [bs [],nilS,.s (.int .u8 0),bs [],bv false,bs [],bv false,bs [],nilS],W 1 2 [iv 0,iv 0],W 2 4 [bs x1,iv x93,iv 0,iv 0],W 3 9 [bs x14,.osl 4 0 (List.length x45) 1,.s (.int .u8 x62),bs x63,bv true,bs x92,bv false,bs [],nilS],(4,.rows 1 (List.map cS x45))],6⟩ ?_
   refine jr_nil rfl ?_
   exact jx_mid rfl (wkR [(0,some 0),(1,some 1),(2,some 2),(3,some 3),(4,some 4)] (fix_nil _) (pc (hC 0) (pc (hC 1) (pc (hC 2) (pc (hC 3) (pc (hL 4 (noid_map ni_S _)) allp_nil))))))
  refine jc_skip ?_
  exact jx_mid rfl (wkR [(0,some 0),(1,some 1),(2,some 2),(3,some 3),(4,some 4)] (fix_nil _) (pc (hC 0) (pc (hC 1) (pc (hC 2) (pc (hC 3) (pc (hL 4 (noid_map ni_S _)) allp_nil))))))
 rintro⟨x78,x79,x80⟩
 refine jx_seqN ?_
 refine jR ?_
 refine jG 0 2 ⟨[V 2 (pt 0 9),V 3 (pt 1 2),V 4 (pt 2 4),V 5 (pt 3 9),V 206 (pt 2 4),V 207 (.osl 5 0 (List.length ([[100,101,118]])) 1)],[W 0 9 [bs [],nilS,.s (.int .u8 0),bs [],bv false,bs [],bv false,bs [],nilS],W 1 2 [iv 0,iv 0],W 2 4 [bs x1,iv x78,iv 0,iv 0],W 3 9 [bs x14,.osl 4 0 (List.length x45) 1,.s (.int .u8 x62),bs x63,bv x79,bs x80,bv false,bs [],nilS],(4,.rows 1 (List.map cS x45)),(5,.rows 1 (List.map cS ([[100,101,118]])))],6⟩ ?_
 refine jr_callM 2 [(0,some 2),(1,some 5)] [(2,some 0),(5,some 1)] (fun r:Str × Bool × Int=>[W 0 9 [bs [],nilS,.s (.int .u8 0),bs [],bv false,bs [],bv false,bs [],nilS],W 1 2 [iv 0,iv 0],W 2 4 [bs x1,iv r.2.2,iv 0,iv 0],W 3 9 [bs x14,.osl 4 0 (List.length x45) 1,.s (.int .u8 x62),bs x63,bv x79,bs x80,bv false,bs [],nilS],(4,.rows 1 (List.map cS x45)),(5,.rows 1 (List.map cS ([[100,101,118]])))]) (fun r:Str × Bool × Int=>.tup [bs r.1,bv r.2.1]) 6 (ref03_reader_word_ok x1 x78 0 0 ([[100,101,118]])) (pc (hC 2) (pc (hL 5 (noid_map ni_S _)) allp_nil)) (fun r=>(pc (.inl ⟨rfl,rfl⟩) (pc (.inl ⟨rfl,rfl⟩) (pc (.inr (hC 0)) (pc (.inl ⟨rfl,rfl⟩) (pc (.inl ⟨rfl,rfl⟩) (pc (.inr (hL 1 (noid_map ni_S _))) allp_nil))))))) ?_
 rintro⟨x94,x95,x96⟩ hm21
 refine jG 3 4 ⟨[V 2 (pt 0 9),V 3 (pt 1 2),V 4 (pt 2 4),V 5 (pt 3 9),V 8 (bv x95)],[W 0 9 [bs [],nilS,.s (.int .u8 0),bs [],bv false,bs [],bv false,bs [],nilS],W 1 2 [iv 0,iv 0],W 2 4 [bs x1,iv x96,iv 0,iv 0],W 3 9 [bs x14,.osl 4 0 (List.length x45) 1,.s (.int .u8 x62),bs x63,bv x79,bs x80,bv false,bs [],nilS],(4,.rows 1 (List.map cS x45))],6⟩ ?_
 refine jN ?_
 refine jc_seq ?_
 refine jc_bind (fun (x99,x100,x101)=>⟨[V 2 (pt 0 9),V 3 (pt 1 2),V 4 (pt 2 4),V 5 (pt 3 9)],[W 0 9 [bs [],nilS,.s (.int .u8 0),bs [],bv false,bs [],bv false,bs [],nilS],W 1 2 [iv 0,iv 0],W 2 4 [bs x1,iv x99,iv 0,iv 0],W 3 9 [bs x14,.osl 4 0 (List.length x45) 1,.s (.int .u8 x62),bs x63,bv x79,bs x80,bv x100,bs x101,nilS],(4,.rows 1 (List.map cS x45))],5⟩) (fun (x99,x100,x101)=>.normal) ?_ ?_
 ·refine jS ⟨[V 2 (pt 0 9),V 3 (pt 1 2),V 4 (pt 2 4),V 5 (pt 3 9),V 211 (bv x95)],[W 0 9 [bs [],nilS,.s (.int .u8 0),bs [],bv false,bs [],bv false,bs [],nilS],W 1 2 [iv 0,iv 0],W 2 4 [bs x1,iv x96,iv 0,iv 0],W 3 9 [bs x14,.osl 4 0 (List.length x45) 1,.s (.int .u8 x62),bs x63,bv x79,bs x80,bv false,bs [],nilS],(4,.rows 1 (List.map cS x45))],6⟩ ?_
  refine jIf ?_ ?_
  ·refine jS ⟨[V 2 (pt 0 9),V 3 (pt 1 2),V 4 (pt 2 4),V 5 (pt 3 9)],[W 0 9 [bs [],nilS,.s (.int .u8 0),bs [],bv false,bs [],bv false,bs [],nilS],W 1 2 [iv 0,iv 0],W 2 4 [bs x1,iv x96,iv 0,iv 0],W 3 9 [bs x14,.osl 4 0 (List.length x45) 1,.s (.int .u8 x62),bs x63,bv x79,bs x80,bv true,bs [],nilS],(4,.rows 1 (List.map cS x45))],6⟩ ?_
   refine jc_reg ?_
   refine jG 0 1 ⟨[V 2 (pt 0 9),V 3 (pt 1 2),V 4 (pt 2 4),V 5 (pt 3 9),V 213 (pt 2 4)],[W 0 9 [bs [],nilS,.s (.int .u8 0),bs [],bv false,bs [],bv false,bs [],nilS],W 1 2 [iv 0,iv 0],W 2 4 [bs x1,iv x96,iv 0,iv 0],W 3 9 [bs x14,.osl 4 0 (List.length x45) 1,.s (.int .u8 x62),bs x63,bv x79,bs x80,bv true,bs [],nilS],(4,.rows 1 (List.map cS x45))],6⟩ ?_
   refine jr_callM 1 [(0,some 2)] [(2,some 0)] (fun r:Str × Int=>[W 0 9 [bs [],nilS,.s (.int .u8 0),bs [],bv false,bs [],bv false,bs [],nilS],W 1 2 [iv 0,iv 0],W 2 4 [bs x1,iv r.2,iv 0,iv 0],W 3 9 [bs x14,.osl 4 0 (List.length x45) 1,.s (.int .u8 x62),bs x63,bv x79,bs x80,bv true,bs [],nilS],(4,.rows 1 (List.map cS x45))]) (fun r:Str × Int=>bs r.1) 6 (ref03_reader_number_ok x1 x96 0 0) (pc (hC 2) allp_nil) (fun r=>(pc (.inl ⟨rfl,rfl⟩) (pc (.inl ⟨rfl,rfl⟩) (pc (.inr (hC 0)) (pc (.inl ⟨rfl,rfl⟩) (pc (.inl ⟨rfl,rfl⟩) allp_nil)))))) ?_
   rintro⟨x102,x103⟩ hm16
   refine jG 2 2 ⟨[V 2 (pt 0 9),V 3 (pt 1 2),V 4 (pt 2 4),V 5 (pt 3 9)],[W 0 9 [bs [],nilS,.s (.int .u8 0),bs [],bv false,bs [],bv false,bs [],nilS],W 1 2 [iv 0,iv 0],W 2 4 [bs x1,iv x103,iv 0,iv 0],W 3 9 [bs x14,.osl 4 0 (List.length x45) 1,.s (.int .u8 x62),bs x63,bv x79,bs x80,bv true,bs x102,nilS],(4,.rows 1 (List.map cS x45))],6⟩ ?_
   refine jr_nil rfl ?_
   exact jx_mid rfl (wkR [(0,some 0),(1,some 1),(2,some 2),(3,some 3),(4,some 4)] (fix_nil _) (pc (hC 0) (pc (hC 1) (pc (hC 2) (pc (hC 3) (pc (hL 4 (noid_map ni_S _)) allp_nil))))))
  refine jc_skip ?_
  exact jx_mid rfl (wkR [(0,some 0),(1,some 1),(2,some 2),(3,some 3),(4,some 4)] (fix_nil _) (pc (hC 0) (pc (hC 1) (pc (hC 2) (pc (hC 3) (pc (hL 4 (noid_map ni_S _)) allp_nil))))))
 rintro⟨x99,x100,x101⟩
 refine jx_seqN ?_
 refine jc_seq ?_
 refine jc_bind (fun (x110,x111,x112,x113)=>⟨[V 2 (pt 0 9),V 3 (pt 1 2),V 4 (pt 2 4),V 5 (pt 3 9)],[W 0 9 [bs [],nilS,.s (.int .u8 0),bs [],bv false,bs [],bv false,bs [],nilS],W 1 2 [iv 0,iv 0],W 2 4 [bs x1,iv x110,iv x111,iv x112],W 3 9 [bs x14,.osl 4 0 (List.length x45) 1,.s (.int .u8 x62),bs x63,bv x79,bs x80,bv x100,bs x101,.osl 5 0 (List.length x113) 1],(4,.rows 1 (List.map cS x45)),(5,.rows 1 (List.map cS x113))],6⟩) (fun (x110,x111,x112,x113)=>.normal) ?_ ?_
 ·refine jR ?_
  refine jG 0 11 ⟨[V 2 (pt 0 9),V 3 (pt 1 2),V 4 (pt 2 4),V 5 (pt 3 9),V 226 (bv (decide (x99 < (List.length x1:Int))))],[W 0 9 [bs [],nilS,.s (.int .u8 0),bs [],bv false,bs [],bv false,bs [],nilS],W 1 2 [iv 0,iv 0],W 2 4 [bs x1,iv x99,iv 0,iv 0],W 3 9 [bs x14,.osl 4 0 (List.length x45) 1,.s (.int .u8 x62),bs x63,bv x79,bs x80,bv x100,bs x101,nilS],(4,.rows 1 (List.map cS x45))],5⟩ ?_
  refine jr_bind 11 11 (fun x115=>⟨[V 2 (pt 0 9),V 3 (pt 1 2),V 4 (pt 2 4),V 5 (pt 3 9),V 237 (bv x115)],[W 0 9 [bs [],nilS,.s (.int .u8 0),bs [],bv false,bs [],bv false,bs [],nilS],W 1 2 [iv 0,iv 0],W 2 4 [bs x1,iv x99,iv 0,iv 0],W 3 9 [bs x14,.osl 4 0 (List.length x45) 1,.s (.int .u8 x62),bs x63,bv x79,bs x80,bv x100,bs x101,nilS],(4,.rows 1 (List.map cS x45))],5⟩) ?_ ?_
  ·refine jSp 226 ?_ ?_
   ·refine jG 0 8 ⟨[V 2 (pt 0 9),V 3 (pt 1 2),V 4 (pt 2 4),V 5 (pt 3 9),(226,.lit true),V 230 (bs x1),V 234 (iv x99)],[W 0 9 [bs [],nilS,.s (.int .u8 0),bs [],bv false,bs [],bv false,bs [],nilS],W 1 2 [iv 0,iv 0],W 2 4 [bs x1,iv x99,iv 0,iv 0],W 3 9 [bs x14,.osl 4 0 (List.length x45) 1,.s (.int .u8 x62),bs x63,bv x79,bs x80,bv x100,bs x101,nilS],(4,.rows 1 (List.map cS x45))],5⟩ ?_
    refine jr_part (i:=8) (mo:=idx x1 x99) rfl rfl rfl rfl (fun _ hc=>aop_index (kk:=.i64) (by kernel_rfl) (by kernel_rfl) (by kernel_rfl) hc) (fun _=>rfl) ?_
    intro x116 h116
    refine jG 9 2 ⟨[V 2 (pt 0 9),V 3 (pt 1 2),V 4 (pt 2 4),V 5 (pt 3 9),V 237 (bv (x116 == 43))],[W 0 9 [bs [],nilS,.s (.int .u8 0),bs [],bv false,bs [],bv false,bs [],nilS],W 1 2 [iv 0,iv 0],W 2 4 [bs x1,iv x99,iv 0,iv 0],W 3 9 [bs x14,.osl 4 0 (List.length x45) 1,.s (.int .u8 x62),bs x63,bv x79,bs x80,bv x100,bs x101,nilS],(4,.rows 1 (List.map cS x45))],5⟩ ?_
    refine jr_nil rfl ?_
    exact jx_mid rfl (wkR [(0,some 0),(1,some 1),(2,some 2),(3,some 3),(4,some 4)] (fix_nil _) (pc (hC 0) (pc (hC 1) (pc (hC 2) (pc (hC 3) (pc (hL 4 (noid_map ni_S _)) allp_nil))))))
   refine jG 0 11 ⟨[V 2 (pt 0 9),V 3 (pt 1 2),V 4 (pt 2 4),V 5 (pt 3 9),V 237 (bv false)],[W 0 9 [bs [],nilS,.s (.int .u8 0),bs [],bv false,bs [],bv false,bs [],nilS],W 1 2 [iv 0,iv 0],W 2 4 [bs x1,iv x99,iv 0,iv 0],W 3 9 [bs x14,.osl 4 0 (List.length x45) 1,.s (.int .u8 x62),bs x63,bv x79,bs x80,bv x100,bs x101,nilS],(4,.rows 1 (List.map cS x45))],5⟩ ?_
   refine jr_nil rfl ?_
   exact jx_mid rfl (wkR [(0,some 0),(1,some 1),(2,some 2),(3,some 3),(4,some 4)] (fix_nil _) (pc (hC 0) (pc (hC 1) (pc (hC 2) (pc (hC 3) (pc (hL 4 (noid_map ni_S _)) allp_nil))))))
  intro x115
  refine jN ?_
  refine jIf ?_ ?_
  ·refine jc_reg ?_
   refine jG 0 1 ⟨[V 2 (pt 0 9),V 3 (pt 1 2),V 4 (pt 2 4),V 5 (pt 3 9),V 238 (pt 2 4)],[W 0 9 [bs [],nilS,.s (.int .u8 0),bs [],bv false,bs [],bv false,bs [],nilS],W 1 2 [iv 0,iv 0],W 2 4 [bs x1,iv x99,iv 0,iv 0],W 3 9 [bs x14,.osl 4 0 (List.length x45) 1,.s (.int .u8 x62),bs x63,bv x79,bs x80,bv x100,bs x101,nilS],(4,.rows 1 (List.map cS x45))],5⟩ ?_
   refine jr_callM 1 [(0,some 2)] [(2,some 0),(5,some 1)] (fun r:List Str × Int × Int × Int=>[W 0 9 [bs [],nilS,.s (.int .u8 0),bs [],bv false,bs [],bv false,bs [],nilS],W 1 2 [iv 0,iv 0],W 2 4 [bs x1,iv r.2.1,iv r.2.2.1,iv r.2.2.2],W 3 9 [bs x14,.osl 4 0 (List.length x45) 1,.s (.int .u8 x62),bs x63,bv x79,bs x80,bv x100,bs x101,nilS],(4,.rows 1 (List.map cS x45)),(5,.rows 1 (List.map cS r.1))]) (fun r:List Str × Int × Int × Int=>.osl 5 0 (List.length r.1) 1) 6 (ref03_reader_local_ok x1 x99 0 0) (pc (hC 2) allp_nil) (fun r=>(pc (.inl ⟨rfl,rfl⟩) (pc (.inl ⟨rfl,rfl⟩) (pc (.inr (hC 0)) (pc (.inl ⟨rfl,rfl⟩) (pc (.inl ⟨rfl,rfl⟩) (pc (.inr (hL 1 (noid_map ni_S _))) allp_nil))))))) ?_
   rintro⟨x117,x118,x119,x120⟩ hm18
   refine jG 2 2 ⟨[V 2 (pt 0 9),V 3 (pt 1 2),V 4 (pt 2 4),V 5 (pt 3 9)],[W 0 9 [bs [],nilS,.s (.int .u8 0),bs [],bv false,bs [],bv false,bs [],nilS],W 1 2 [iv 0,iv 0],W 2 4 [bs x1,iv x118,iv x119,iv x120],W 3 9 [bs x14,.osl 4 0 (List.length x45) 1,.s (.int .u8 x62),bs x63,bv x79,bs x80,bv x100,bs x101,.osl 5 0 (List.length x117) 1],(4,.rows 1 (List.map cS x45)),(5,.rows 1 (List.map cS x117))],6⟩ ?_
   refine jr_nil rfl ?_
   exact jx_mid rfl (wkR [(0,some 0),(1,some 1),(2,some 2),(3,some 3),(4,some 4),(5,some 5)] (fix_nil _) (pc (hC 0) (pc (hC 1) (pc (hC 2) (pc (hC 3) (pc (hL 4 (noid_map ni_S _)) (pc (hL 5 (noid_map ni_S _)) allp_nil)))))))
  refine jc_skip ?_
  exact jx_mid rfl (wkR [(0,some 0),(1,some 1),(2,some 2),(3,some 3),(4,some 4),(5,none)] (fix_nil _) (pc (hC 0) (pc (hC 1) (pc (hC 2) (pc (hC 3) (pc (hL 4 (noid_map ni_S _)) (pc hZ allp_nil)))))))
 rintro⟨x110,x111,x112,x113⟩
 refine jx_seqN ?_
 refine jc_seq ?_
 refine jc_bind (fun (x123,x124)=>⟨[V 2 (pt 0 9),V 3 (pt 1 2),V 4 (pt 2 4),V 5 (pt 3 9)],[W 0 9 [bs [],nilS,.s (.int .u8 0),bs [],bv false,bs [],bv false,bs [],nilS],W 1 2 [iv 0,iv 0],W 2 4 [bs x1,iv x110,iv x123,iv x124],W 3 9 [bs x14,.osl 4 0 (List.length x45) 1,.s (.int .u8 x62),bs x63,bv x79,bs x80,bv x100,bs x101,.osl 5 0 (List.length x113) 1],(4,.rows 1 (List.map cS x45)),(5,.rows 1 (List.map cS x113))],6⟩) (fun (x123,x124)=>.normal) ?_ ?_
 ·refine jS ⟨[V 2 (pt 0 9),V 3 (pt 1 2),V 4 (pt 2 4),V 5 (pt 3 9),V 258 (bv ((x111 == 0) && (decide (x110 < (List.length x1:Int)))))],[W 0 9 [bs [],nilS,.s (.int .u8 0),bs [],bv false,bs [],bv false,bs [],nilS],W 1 2 [iv 0,iv 0],W 2 4 [bs x1,iv x110,iv x111,iv x112],W 3 9 [bs x14,.osl 4 0 (List.length x45) 1,.s (.int .u8 x62),bs x63,bv x79,bs x80,bv x100,bs x101,.osl 5 0 (List.length x113) 1],(4,.rows 1 (List.map cS x45)),(5,.rows 1 (List.map cS x113))],6⟩ ?_
  refine jIf ?_ ?_
  ·refine jc_reg ?_
   refine jG 0 1 ⟨[V 2 (pt 0 9),V 3 (pt 1 2),V 4 (pt 2 4),V 5 (pt 3 9),V 259 (pt 2 4)],[W 0 9 [bs [],nilS,.s (.int .u8 0),bs [],bv false,bs [],bv false,bs [],nilS],W 1 2 [iv 0,iv 0],W 2 4 [bs x1,iv x110,iv x111,iv x112],W 3 9 [bs x14,.osl 4 0 (List.length x45) 1,.s (.int .u8 x62),bs x63,bv x79,bs x80,bv x100,bs x101,.osl 5 0 (List.length x113) 1],(4,.rows 1 (List.map cS x45)),(5,.rows 1 (List.map cS x113))],6⟩ ?_
   refine jr_callM 1 [(0,some 2)] [(2,some 0)] (fun r:Int × Int=>[W 0 9 [bs [],nilS,.s (.int .u8 0),bs [],bv false,bs [],bv false,bs [],nilS],W 1 2 [iv 0,iv 0],W 2 4 [bs x1,iv x110,iv r.1,iv r.2],W 3 9 [bs x14,.osl 4 0 (List.length x45) 1,.s (.int .u8 x62),bs x63,bv x79,bs x80,bv x100,bs x101,.osl 5 0 (List.length x113) 1],(4,.rows 1 (List.map cS x45)),(5,.rows 1 (List.map cS x113))]) (fun r:Int × Int=>.tup []) 6 (ref03_reader_fail_ok x1 x110 x111 x112) (pc (hC 2) allp_nil) (fun r=>(pc (.inl ⟨rfl,rfl⟩) (pc (.inl ⟨rfl,rfl⟩) (pc (.inr (hC 0)) (pc (.inl ⟨rfl,rfl⟩) (pc (.inl ⟨rfl,rfl⟩) (pc (.inl ⟨rfl,rfl⟩) allp_nil))))))) ?_
   rintro⟨x125,x126⟩ hm20
   refine jr_nil rfl ?_
   exact jx_mid rfl (wkR [(0,some 0),(1,some 1),(2,some 2),(3,some 3),(4,some 4),(5,some 5)] (fix_nil _) (pc (hC 0) (pc (hC 1) (pc (hC 2) (pc (hC 3) (pc (hL 4 (noid_map ni_S _)) (pc (hL 5 (noid_map ni_S _)) allp_nil)))))))
  refine jc_skip ?_
  exact jx_mid rfl (wkR [(0,some 0),(1,some 1),(2,some 2),(3,some 3),(4,some 4),(5,some 5)] (fix_nil _) (pc (hC 0) (pc (hC 1) (pc (hC 2) (pc (hC 3) (pc (hL 4 (noid_map ni_S _)) (pc (hL 5 (noid_map ni_S _)) allp_nil)))))))
 rintro⟨x123,x124⟩
 refine jx_seqN ?_
 refine jc_seq ?_
 refine jS ⟨[V 2 (pt 0 9),V 3 (pt 1 2),V 4 (pt 2 4),V 5 (pt 3 9),V 266 (bv (x123 != 0))],[W 0 9 [bs [],nilS,.s (.int .u8 0),bs [],bv false,bs [],bv false,bs [],nilS],W 1 2 [iv 0,iv 0],W 2 4 [bs x1,iv x110,iv x123,iv x124],W 3 9 [bs x14,.osl 4 0 (List.length x45) 1,.s (.int .u8 x62),bs x63,bv x79,bs x80,bv x100,bs x101,.osl 5 0 (List.length x113) 1],(4,.rows 1 (List.map cS x45)),(5,.rows 1 (List.map cS x113))],6⟩ ?_
 refine jIf ?_ ?_
 ·refine jc_seq ?_
  refine jc_full ref03_Parse_r40 [(270,2)] ?_
  refine jG 0 7 ⟨[V 2 (pt 0 9),V 3 (pt 1 2),V 270 (.ptr 2 0 4 2)],[W 0 9 [bs [],nilS,.s (.int .u8 0),bs [],bv false,bs [],bv false,bs [],nilS],W 1 2 [iv x123,iv x124],W 2 4 [bs x1,iv x110,iv x123,iv x124]],6⟩ ?_
  refine jr_nil rfl ?_
  refine jx_full ?_
  refine jx_seqN ?_
  refine jc_ret ?_
  refine jx_seqR ?_
  exact jx_retF (.inr rfl) (v:=.tup [.agg [bs [],nilS,.s (.int .u8 0),bs [],bv false,bs [],bv false,bs [],nilS],.agg [iv x123,iv x124]]) (by kernel_rfl) (snapc_tup (snapL_cons (snapc_agg (snapL_cons rfl (snapL_cons rfl (snapL_cons rfl (snapL_cons rfl (snapL_cons rfl (snapL_cons rfl (snapL_cons rfl (snapL_cons rfl (snapL_cons rfl (snapL_nil _))))))))))) (snapL_cons rfl (snapL_nil _)))) (fle_tup (all2_cons (fle_agg (all2_cons (fle_refl _) (all2_cons (fle_nil _) (all2_cons (fle_refl _) (all2_cons (fle_refl _) (all2_cons (fle_refl _) (all2_cons (fle_refl _) (all2_cons (fle_refl _) (all2_cons (fle_refl _) (all2_cons (fle_nil _) all2_nil)))))))))) (all2_cons (fle_refl _) all2_nil)))
 refine jc_skip ?_
 refine jx_seqN ?_
 refine jS ⟨[V 2 (pt 0 9),V 3 (pt 1 2)],[W 0 9 [bs x14,.osl 4 0 (List.length x45) 1,.s (.int .u8 x62),bs x63,bv x79,bs x80,bv x100,bs x101,.osl 5 0 (List.length x113) 1],W 1 2 [iv 0,iv 0],(4,.rows 1 (List.map cS x45)),(5,.rows 1 (List.map cS x113))],6⟩ ?_
 refine jc_ret ?_
 exact jx_retF (.inr rfl) (v:=.tup [.agg [bs x14,.osl 4 0 (List.length x45) 1,.s (.int .u8 x62),bs x63,bv x79,bs x80,bv x100,bs x101,.osl 5 0 (List.length x113) 1],.agg [iv 0,iv 0]]) (by kernel_rfl) (snapc_tup (snapL_cons (snapc_agg (snapL_cons rfl (snapL_cons (snapc_own fz_S (by kernel_rfl)) (snapL_cons rfl (snapL_cons rfl (snapL_cons rfl (snapL_cons rfl (snapL_cons rfl (snapL_cons rfl (snapL_cons (snapc_own fz_S (by kernel_rfl)) (snapL_nil _))))))))))) (snapL_cons rfl (snapL_nil _)))) (fle_tup (all2_cons (fle_agg (all2_cons (fle_refl _) (all2_cons (fle_refl _) (all2_cons (fle_refl _) (all2_cons (fle_refl _) (all2_cons (fle_refl _) (all2_cons (fle_refl _) (all2_cons (fle_refl _) (all2_cons (fle_refl _) (all2_cons (fle_refl _) all2_nil)))))))))) (all2_cons (fle_refl _) all2_nil))))
abbrev ref03_Normal_r1:List LO:=[lo 2 (.assign (.const (.string ⟨#[]⟩))) 9]
abbrev ref03_Normal_r2:List LO:=[lm 6 0 9,lo 7 (.call ⟨.value (.func 9),#[.tmp 6],#[9]⟩) 28,lm 5 7 28,lo 8 (.extract (.tmp 5) 0) 24,lo 9 (.extract (.tmp 5) 1) 27,lo 3 (.alloc 24) 0,lo 4 (.alloc 27) 0,ln (.store 24 (.tmp 3) (.tmp 8)) 0,ln (.store 27 (.tmp 4) (.tmp 9)) 0]
abbrev ref03_Normal_r3:List LO:=[lo 10 (.fieldAddr 27 (.tmp 4) 0) 0,lo 11 (.load 25 (.tmp 10)) 25,lo 12 (.binOp .neq 25 (.tmp 11) (.const (.int .i64 0)) 25) 4]
abbrev ref03_Normal_r4:List LO:=[lo 2 (.assign (.const (.string ⟨#[]⟩))) 9]
abbrev ref03_Normal_r5:List LO:=[lo 13 (.load 24 (.tmp 3)) 24,lo 14 (.call ⟨.value (.func 52),#[.tmp 13],#[24]⟩) 9,lo 2 (.assign (.tmp 14)) 9]
abbrev ref03_Normal_c:LC:=.seq (.reg false ref03_Normal_r1) (.seq (.reg false ref03_Normal_r2) (.seq (.seq (.reg false ref03_Normal_r3) (.cond (.tmp 12) (.seq (.reg false ref03_Normal_r4) .ret) .skip)) (.seq (.reg false ref03_Normal_r5) .ret)))
theorem ref03_Normal_k:FnOk E 12 15 [.tmp 2] ref03_Normal_c:=⟨⟨Go.Proofs.Tryz.f12,by kernel_rfl,by kernel_rfl,by kernel_rfl,by kernel_rfl,by kernel_rfl⟩,rfl,rfl⟩
noncomputable def ref03_Normal (a0:Str):Option (Str):=Option.bind (ref03_Parse a0) (fun x1=>(if (x1.2.Err != 0)=true then some [] else Option.bind (ref03_raw (S_api_Pep.mk x1.1.Epoch x1.1.Release x1.1.Pre x1.1.PreNum x1.1.Post x1.1.PostNum x1.1.Dev x1.1.DevNum x1.1.Local)) (fun x2=>some x2)))
theorem ref03_Normal_ok (a0:Str):Ct E 12 [bs a0] (ref03_Normal a0) (fun r:Str=>bs r):=ct_intro (N:=15) (L:=ref03_Normal_c) ref03_Normal_k rfl (Nat.le_of_ble_eq_true rfl) (by kernel_rfl) (by
 unfold ref03_Normal
 refine jS ⟨[V 0 (bs a0)],[],0⟩ ?_
 refine jR ?_
 refine jG 0 1 ⟨[V 6 (bs a0)],[],0⟩ ?_
 refine jK 1 (ref03_Parse_ok a0) ?_
 intro x1 h1
 refine jG 2 7 ⟨[V 3 (pt 0 9),V 4 (pt 1 2)],[W 0 9 [bs x1.1.Epoch,.fsl 1 (List.map cS x1.1.Release),.s (.int .u8 x1.1.Pre),bs x1.1.PreNum,bv x1.1.Post,bs x1.1.PostNum,bv x1.1.Dev,bs x1.1.DevNum,.fsl 1 (List.map cS x1.1.Local)],W 1 2 [iv x1.2.Err,iv x1.2.At]],2⟩ ?_
 refine jN ?_
 refine jc_seq ?_
 refine jS ⟨[V 3 (pt 0 9),V 12 (bv (x1.2.Err != 0))],[W 0 9 [bs x1.1.Epoch,.fsl 1 (List.map cS x1.1.Release),.s (.int .u8 x1.1.Pre),bs x1.1.PreNum,bv x1.1.Post,bs x1.1.PostNum,bv x1.1.Dev,bs x1.1.DevNum,.fsl 1 (List.map cS x1.1.Local)]],2⟩ ?_
 refine jIf ?_ ?_
 ·refine jS ⟨[V 2 (bs [])],[],2⟩ ?_
  refine jc_ret ?_
  refine jx_seqR ?_
  exact jx_retF (.inr rfl) (v:=bs []) (by kernel_rfl) rfl (fle_refl _)
 refine jc_skip ?_
 refine jx_seqN ?_
 refine jR ?_
 refine jG 0 1 ⟨[V 13 (.agg [bs x1.1.Epoch,.fsl 1 (List.map cS x1.1.Release),.s (.int .u8 x1.1.Pre),bs x1.1.PreNum,bv x1.1.Post,bs x1.1.PostNum,bv x1.1.Dev,bs x1.1.DevNum,.fsl 1 (List.map cS x1.1.Local)])],[],2⟩ ?_
 refine jK 1 (ref03_raw_ok (S_api_Pep.mk x1.1.Epoch x1.1.Release x1.1.Pre x1.1.PreNum x1.1.Post x1.1.PostNum x1.1.Dev x1.1.DevNum x1.1.Local)) ?_
 intro x2 h2
 refine jG 2 1 ⟨[V 2 (bs x2)],[],2⟩ ?_
 refine jN ?_
 refine jc_ret ?_
 exact jx_retF (.inr rfl) (v:=bs x2) (by kernel_rfl) rfl (fle_refl _))
abbrev ref03_Compare_r1:List LO:=[lo 4 (.assign (.const (.int .i64 0))) 3]
abbrev ref03_Compare_r2:List LO:=[lm 10 0 9,lo 11 (.call ⟨.value (.func 9),#[.tmp 10],#[9]⟩) 28,lm 9 11 28,lo 12 (.extract (.tmp 9) 0) 24,lo 13 (.extract (.tmp 9) 1) 27,lo 5 (.alloc 24) 0,lo 6 (.alloc 27) 0,ln (.store 24 (.tmp 5) (.tmp 12)) 0,ln (.store 27 (.tmp 6) (.tmp 13)) 0]
abbrev ref03_Compare_r3:List LO:=[lm 15 1 9,lo 16 (.call ⟨.value (.func 9),#[.tmp 15],#[9]⟩) 28,lm 14 16 28,lo 17 (.extract (.tmp 14) 0) 24,lo 18 (.extract (.tmp 14) 1) 27,lo 7 (.alloc 24) 0,lo 8 (.alloc 27) 0,ln (.store 24 (.tmp 7) (.tmp 17)) 0,ln (.store 27 (.tmp 8) (.tmp 18)) 0]
abbrev ref03_Compare_r4:List LO:=[lo 19 (.fieldAddr 27 (.tmp 6) 0) 0,lo 20 (.load 25 (.tmp 19)) 25,lo 21 (.binOp .neq 25 (.tmp 20) (.const (.int .i64 0)) 25) 4,lm 22 21 4,lg 23 (.fieldAddr 27 (.tmp 8) 0) 0 22 false,lg 24 (.load 25 (.tmp 23)) 25 22 false,lg 25 (.binOp .neq 25 (.tmp 24) (.const (.int .i64 0)) 25) 4 22 false,lo 26 (.pick (.tmp 22) (.const (.bool true)) (.tmp 25)) 4]
abbrev ref03_Compare_r5:List LO:=[lo 27 (.fieldAddr 27 (.tmp 6) 0) 0,lo 28 (.load 25 (.tmp 27)) 25,lo 29 (.binOp .eql 25 (.tmp 28) (.const (.int .i64 0)) 25) 4,lo 30 (.call ⟨.value (.func 55),#[.tmp 29],#[4]⟩) 3,lo 31 (.fieldAddr 27 (.tmp 8) 0) 0,lo 32 (.load 25 (.tmp 31)) 25,lo 33 (.binOp .eql 25 (.tmp 32) (.const (.int .i64 0)) 25) 4,lo 34 (.call ⟨.value (.func 55),#[.tmp 33],#[4]⟩) 3,lo 35 (.call ⟨.value (.func 54),#[.tmp 30,.tmp 34],#[3,3]⟩) 3,lo 4 (.assign (.tmp 35)) 3]
abbrev ref03_Compare_r6:List LO:=[lo 36 (.load 24 (.tmp 5)) 24,lo 37 (.load 24 (.tmp 7)) 24,lo 38 (.call ⟨.value (.func 22),#[.tmp 36,.tmp 37],#[24,24]⟩) 3,lo 4 (.assign (.tmp 38)) 3]
abbrev ref03_Compare_c:LC:=.seq (.reg false ref03_Compare_r1) (.seq (.reg false ref03_Compare_r2) (.seq (.reg false ref03_Compare_r3) (.seq (.seq (.reg false ref03_Compare_r4) (.cond (.tmp 26) (.seq (.reg true ref03_Compare_r5) .ret) .skip)) (.seq (.reg false ref03_Compare_r6) .ret))))
theorem ref03_Compare_k:FnOk E 14 39 [.tmp 4] ref03_Compare_c:=⟨⟨Go.Proofs.Tryz.f14,by kernel_rfl,by kernel_rfl,by kernel_rfl,by kernel_rfl,by kernel_rfl⟩,rfl,rfl⟩
noncomputable def ref03_Compare (a0:Str) (a1:Str):Option (Int):=Option.bind (ref03_Parse a0) (fun x1=>Option.bind (ref03_Parse a1) (fun x2=>(if ((x1.2.Err != 0) || (x2.2.Err != 0))=true then Option.bind (ref03_rank (x1.2.Err == 0)) (fun x3=>Option.bind (ref03_rank (x2.2.Err == 0)) (fun x4=>Option.bind (ref03_ints x3 x4) (fun x5=>some x5))) else Option.bind (ref03_Order (S_api_Pep.mk x1.1.Epoch x1.1.Release x1.1.Pre x1.1.PreNum x1.1.Post x1.1.PostNum x1.1.Dev x1.1.DevNum x1.1.Local) (S_api_Pep.mk x2.1.Epoch x2.1.Release x2.1.Pre x2.1.PreNum x2.1.Post x2.1.PostNum x2.1.Dev x2.1.DevNum x2.1.Local)) (fun x6=>some x6))))
theorem ref03_Compare_ok (a0:Str) (a1:Str):Ct E 14 [bs a0,bs a1] (ref03_Compare a0 a1) (fun r:Int=>iv r):=ct_intro (N:=39) (L:=ref03_Compare_c) ref03_Compare_k rfl (Nat.le_of_ble_eq_true rfl) (by kernel_rfl) (by
 unfold ref03_Compare
 refine jS ⟨[V 0 (bs a0),V 1 (bs a1)],[],0⟩ ?_
 refine jR ?_
 refine jG 0 1 ⟨[V 1 (bs a1),V 10 (bs a0)],[],0⟩ ?_
 refine jK 1 (ref03_Parse_ok a0) ?_
 intro x1 h1
 refine jG 2 7 ⟨[V 1 (bs a1),V 5 (pt 0 9),V 6 (pt 1 2)],[W 0 9 [bs x1.1.Epoch,.fsl 1 (List.map cS x1.1.Release),.s (.int .u8 x1.1.Pre),bs x1.1.PreNum,bv x1.1.Post,bs x1.1.PostNum,bv x1.1.Dev,bs x1.1.DevNum,.fsl 1 (List.map cS x1.1.Local)],W 1 2 [iv x1.2.Err,iv x1.2.At]],2⟩ ?_
 refine jN ?_
 refine jR ?_
 refine jG 0 1 ⟨[V 5 (pt 0 9),V 6 (pt 1 2),V 15 (bs a1)],[W 0 9 [bs x1.1.Epoch,.fsl 1 (List.map cS x1.1.Release),.s (.int .u8 x1.1.Pre),bs x1.1.PreNum,bv x1.1.Post,bs x1.1.PostNum,bv x1.1.Dev,bs x1.1.DevNum,.fsl 1 (List.map cS x1.1.Local)],W 1 2 [iv x1.2.Err,iv x1.2.At]],2⟩ ?_
 refine jK 1 (ref03_Parse_ok a1) ?_
 intro x2 h2
 refine jG 2 7 ⟨[V 5 (pt 0 9),V 6 (pt 1 2),V 7 (pt 2 9),V 8 (pt 3 2)],[W 0 9 [bs x1.1.Epoch,.fsl 1 (List.map cS x1.1.Release),.s (.int .u8 x1.1.Pre),bs x1.1.PreNum,bv x1.1.Post,bs x1.1.PostNum,bv x1.1.Dev,bs x1.1.DevNum,.fsl 1 (List.map cS x1.1.Local)],W 1 2 [iv x1.2.Err,iv x1.2.At],W 2 9 [bs x2.1.Epoch,.fsl 1 (List.map cS x2.1.Release),.s (.int .u8 x2.1.Pre),bs x2.1.PreNum,bv x2.1.Post,bs x2.1.PostNum,bv x2.1.Dev,bs x2.1.DevNum,.fsl 1 (List.map cS x2.1.Local)],W 3 2 [iv x2.2.Err,iv x2.2.At]],4⟩ ?_
 refine jN ?_
 refine jc_seq ?_
 refine jS ⟨[V 5 (pt 0 9),V 6 (pt 1 2),V 7 (pt 2 9),V 8 (pt 3 2),V 26 (bv ((x1.2.Err != 0) || (x2.2.Err != 0)))],[W 0 9 [bs x1.1.Epoch,.fsl 1 (List.map cS x1.1.Release),.s (.int .u8 x1.1.Pre),bs x1.1.PreNum,bv x1.1.Post,bs x1.1.PostNum,bv x1.1.Dev,bs x1.1.DevNum,.fsl 1 (List.map cS x1.1.Local)],W 1 2 [iv x1.2.Err,iv x1.2.At],W 2 9 [bs x2.1.Epoch,.fsl 1 (List.map cS x2.1.Release),.s (.int .u8 x2.1.Pre),bs x2.1.PreNum,bv x2.1.Post,bs x2.1.PostNum,bv x2.1.Dev,bs x2.1.DevNum,.fsl 1 (List.map cS x2.1.Local)],W 3 2 [iv x2.2.Err,iv x2.2.At]],4⟩ ?_
 refine jIf ?_ ?_
 ·refine jR ?_
  refine jG 0 3 ⟨[V 8 (pt 3 2),V 29 (bv (x1.2.Err == 0))],[W 3 2 [iv x2.2.Err,iv x2.2.At]],4⟩ ?_
  refine jK 3 (ref03_rank_ok (x1.2.Err == 0)) ?_
  intro x3 h3
  refine jG 4 3 ⟨[V 30 (iv x3),V 33 (bv (x2.2.Err == 0))],[],4⟩ ?_
  refine jK 7 (ref03_rank_ok (x2.2.Err == 0)) ?_
  intro x4 h4
  refine jK 8 (ref03_ints_ok x3 x4) ?_
  intro x5 h5
  refine jG 9 1 ⟨[V 4 (iv x5)],[],4⟩ ?_
  refine jN ?_
  refine jc_ret ?_
  refine jx_seqR ?_
  exact jx_retF (.inr rfl) (v:=iv x5) (by kernel_rfl) rfl (fle_refl _)
 refine jc_skip ?_
 refine jx_seqN ?_
 refine jR ?_
 refine jG 0 2 ⟨[V 36 (.agg [bs x1.1.Epoch,.fsl 1 (List.map cS x1.1.Release),.s (.int .u8 x1.1.Pre),bs x1.1.PreNum,bv x1.1.Post,bs x1.1.PostNum,bv x1.1.Dev,bs x1.1.DevNum,.fsl 1 (List.map cS x1.1.Local)]),V 37 (.agg [bs x2.1.Epoch,.fsl 1 (List.map cS x2.1.Release),.s (.int .u8 x2.1.Pre),bs x2.1.PreNum,bv x2.1.Post,bs x2.1.PostNum,bv x2.1.Dev,bs x2.1.DevNum,.fsl 1 (List.map cS x2.1.Local)])],[],4⟩ ?_
 refine jK 2 (ref03_Order_ok (S_api_Pep.mk x1.1.Epoch x1.1.Release x1.1.Pre x1.1.PreNum x1.1.Post x1.1.PostNum x1.1.Dev x1.1.DevNum x1.1.Local) (S_api_Pep.mk x2.1.Epoch x2.1.Release x2.1.Pre x2.1.PreNum x2.1.Post x2.1.PostNum x2.1.Dev x2.1.DevNum x2.1.Local)) ?_
 intro x6 h6
 refine jG 3 1 ⟨[V 4 (iv x6)],[],4⟩ ?_
 refine jN ?_
 refine jc_ret ?_
 exact jx_retF (.inr rfl) (v:=iv x6) (by kernel_rfl) rfl (fle_refl _))
abbrev law03_PepReads_r1:List LO:=[lo 4 (.assign (.const (.bool false))) 4]
abbrev law03_PepReads_r2:List LO:=[lm 10 0 9,lo 11 (.call ⟨.value (.func 8),#[.tmp 10],#[9]⟩) 28,lm 9 11 28,lo 12 (.extract (.tmp 9) 0) 24,lo 13 (.extract (.tmp 9) 1) 27,lo 5 (.alloc 24) 0,lo 6 (.alloc 27) 0,ln (.store 24 (.tmp 5) (.tmp 12)) 0,ln (.store 27 (.tmp 6) (.tmp 13)) 0]
abbrev law03_PepReads_r3:List LO:=[lm 15 0 9,lo 16 (.call ⟨.value (.func 9),#[.tmp 15],#[9]⟩) 28,lm 14 16 28,lo 17 (.extract (.tmp 14) 0) 24,lo 18 (.extract (.tmp 14) 1) 27,lo 7 (.alloc 24) 0,lo 8 (.alloc 27) 0,ln (.store 24 (.tmp 7) (.tmp 17)) 0,ln (.store 27 (.tmp 8) (.tmp 18)) 0]
abbrev law03_PepReads_r4:List LO:=[lo 19 (.load 24 (.tmp 5)) 24,lo 20 (.load 24 (.tmp 7)) 24,lo 21 (.call ⟨.value (.func 10),#[.tmp 19,.tmp 20],#[24,24]⟩) 4,lm 22 21 4,lg 23 (.load 27 (.tmp 6)) 27 22 true,lg 24 (.load 27 (.tmp 8)) 27 22 true,lg 25 (.binOp .eql 27 (.tmp 23) (.tmp 24) 27) 4 22 true,lo 26 (.pick (.tmp 22) (.tmp 25) (.const (.bool false))) 4,lm 27 26 4,lmg 28 0 9 27 true,lg 29 (.call ⟨.value (.func 11),#[.tmp 28],#[9]⟩) 9 27 true,lmg 30 0 9 27 true,lg 31 (.call ⟨.value (.func 12),#[.tmp 30],#[9]⟩) 9 27 true,lg 32 (.binOp .eql 9 (.tmp 29) (.tmp 31) 9) 4 27 true,lo 33 (.pick (.tmp 27) (.tmp 32) (.const (.bool false))) 4,lm 34 33 4,lmg 35 0 9 34 true,lmg 36 1 9 34 true,lg 37 (.call ⟨.value (.func 13),#[.tmp 35,.tmp 36],#[9,9]⟩) 3 34 true,lmg 38 0 9 34 true,lmg 39 1 9 34 true,lg 40 (.call ⟨.value (.func 14),#[.tmp 38,.tmp 39],#[9,9]⟩) 3 34 true,lg 41 (.binOp .eql 3 (.tmp 37) (.tmp 40) 3) 4 34 true,lo 42 (.pick (.tmp 34) (.tmp 41) (.const (.bool false))) 4,lm 43 42 4,lg 44 (.call ⟨.value (.func 15),#[],#[]⟩) 4 43 true,lo 45 (.pick (.tmp 43) (.tmp 44) (.const (.bool false))) 4,lo 4 (.assign (.tmp 45)) 4]
abbrev law03_PepReads_c:LC:=.seq (.reg false law03_PepReads_r1) (.seq (.reg false law03_PepReads_r2) (.seq (.reg false law03_PepReads_r3) (.seq (.reg false law03_PepReads_r4) .ret)))
theorem law03_PepReads_k:FnOk E 3 46 [.tmp 4] law03_PepReads_c:=⟨⟨Go.Proofs.Tryz.f3,by kernel_rfl,by kernel_rfl,by kernel_rfl,by kernel_rfl,by kernel_rfl⟩,rfl,rfl⟩
noncomputable def law03_PepReads (a0:Str) (a1:Str):Option (Bool):=Option.bind (pep_Parse a0) (fun x1=>Option.bind (ref03_Parse a0) (fun x2=>Option.bind (ref03_Same (S_api_Pep.mk x1.1.Epoch x1.1.Release x1.1.Pre x1.1.PreNum x1.1.Post x1.1.PostNum x1.1.Dev x1.1.DevNum x1.1.Local) (S_api_Pep.mk x2.1.Epoch x2.1.Release x2.1.Pre x2.1.PreNum x2.1.Post x2.1.PostNum x2.1.Dev x2.1.DevNum x2.1.Local)) (fun x3=>Option.bind (if (x3 && ((x1.2.Err == x2.2.Err) && (x1.2.At == x2.2.At)))=true then Option.bind (pep_Normal a0) (fun x7=>Option.bind (ref03_Normal a0) (fun x8=>some (x7 == x8))) else some false:Option (Bool)) (fun x6=>Option.bind (if x6=true then Option.bind (pep_Compare a0 a1) (fun x12=>Option.bind (ref03_Compare a0 a1) (fun x13=>some (x12 == x13))) else some false:Option (Bool)) (fun x11=>Option.bind (if x11=true then Option.bind (law03_awake) (fun x16=>some x16) else some false:Option (Bool)) (fun x15=>some x15))))))
theorem law03_PepReads_ok (a0:Str) (a1:Str):Ct E 3 [bs a0,bs a1] (law03_PepReads a0 a1) (fun r:Bool=>bv r):=ct_intro (N:=46) (L:=law03_PepReads_c) law03_PepReads_k rfl (Nat.le_of_ble_eq_true rfl) (by kernel_rfl) (by
 unfold law03_PepReads
 refine jS ⟨[V 0 (bs a0),V 1 (bs a1)],[],0⟩ ?_
 refine jR ?_
 refine jG 0 1 ⟨[V 0 (bs a0),V 1 (bs a1),V 10 (bs a0)],[],0⟩ ?_
 refine jK 1 (pep_Parse_ok a0) ?_
 intro x1 h1
 refine jG 2 7 ⟨[V 0 (bs a0),V 1 (bs a1),V 5 (pt 0 9),V 6 (pt 1 2)],[W 0 9 [bs x1.1.Epoch,.fsl 1 (List.map cS x1.1.Release),.s (.int .u8 x1.1.Pre),bs x1.1.PreNum,bv x1.1.Post,bs x1.1.PostNum,bv x1.1.Dev,bs x1.1.DevNum,.fsl 1 (List.map cS x1.1.Local)],W 1 2 [iv x1.2.Err,iv x1.2.At]],2⟩ ?_
 refine jN ?_
 refine jR ?_
 refine jG 0 1 ⟨[V 0 (bs a0),V 1 (bs a1),V 5 (pt 0 9),V 6 (pt 1 2),V 15 (bs a0)],[W 0 9 [bs x1.1.Epoch,.fsl 1 (List.map cS x1.1.Release),.s (.int .u8 x1.1.Pre),bs x1.1.PreNum,bv x1.1.Post,bs x1.1.PostNum,bv x1.1.Dev,bs x1.1.DevNum,.fsl 1 (List.map cS x1.1.Local)],W 1 2 [iv x1.2.Err,iv x1.2.At]],2⟩ ?_
 refine jK 1 (ref03_Parse_ok a0) ?_
 intro x2 h2
 refine jG 2 7 ⟨[V 0 (bs a0),V 1 (bs a1),V 5 (pt 0 9),V 6 (pt 1 2),V 7 (pt 2 9),V 8 (pt 3 2)],[W 0 9 [bs x1.1.Epoch,.fsl 1 (List.map cS x1.1.Release),.s (.int .u8 x1.1.Pre),bs x1.1.PreNum,bv x1.1.Post,bs x1.1.PostNum,bv x1.1.Dev,bs x1.1.DevNum,.fsl 1 (List.map cS x1.1.Local)],W 1 2 [iv x1.2.Err,iv x1.2.At],W 2 9 [bs x2.1.Epoch,.fsl 1 (List.map cS x2.1.Release),.s (.int .u8 x2.1.Pre),bs x2.1.PreNum,bv x2.1.Post,bs x2.1.PostNum,bv x2.1.Dev,bs x2.1.DevNum,.fsl 1 (List.map cS x2.1.Local)],W 3 2 [iv x2.2.Err,iv x2.2.At]],4⟩ ?_
 refine jN ?_
 refine jR ?_
 refine jG 0 2 ⟨[V 0 (bs a0),V 1 (bs a1),V 6 (pt 1 2),V 8 (pt 3 2),V 19 (.agg [bs x1.1.Epoch,.fsl 1 (List.map cS x1.1.Release),.s (.int .u8 x1.1.Pre),bs x1.1.PreNum,bv x1.1.Post,bs x1.1.PostNum,bv x1.1.Dev,bs x1.1.DevNum,.fsl 1 (List.map cS x1.1.Local)]),V 20 (.agg [bs x2.1.Epoch,.fsl 1 (List.map cS x2.1.Release),.s (.int .u8 x2.1.Pre),bs x2.1.PreNum,bv x2.1.Post,bs x2.1.PostNum,bv x2.1.Dev,bs x2.1.DevNum,.fsl 1 (List.map cS x2.1.Local)])],[W 1 2 [iv x1.2.Err,iv x1.2.At],W 3 2 [iv x2.2.Err,iv x2.2.At]],4⟩ ?_
 refine jK 2 (ref03_Same_ok (S_api_Pep.mk x1.1.Epoch x1.1.Release x1.1.Pre x1.1.PreNum x1.1.Post x1.1.PostNum x1.1.Dev x1.1.DevNum x1.1.Local) (S_api_Pep.mk x2.1.Epoch x2.1.Release x2.1.Pre x2.1.PreNum x2.1.Post x2.1.PostNum x2.1.Dev x2.1.DevNum x2.1.Local)) ?_
 intro x3 h3
 refine jG 3 6 ⟨[V 0 (bs a0),V 1 (bs a1),V 27 (bv (x3 && ((x1.2.Err == x2.2.Err) && (x1.2.At == x2.2.At))))],[],4⟩ ?_
 refine jr_bind 9 6 (fun x6=>⟨[V 0 (bs a0),V 1 (bs a1),V 33 (bv x6)],[],0⟩) ?_ ?_
 ·refine jSp 27 ?_ ?_
  ·refine jG 0 1 ⟨[V 0 (bs a0),V 1 (bs a1),(27,.lit true),V 28 (bs a0)],[],4⟩ ?_
   refine jK 1 (pep_Normal_ok a0) ?_
   intro x7 h7
   refine jG 2 1 ⟨[V 0 (bs a0),V 1 (bs a1),(27,.lit true),V 29 (bs x7),V 30 (bs a0)],[],4⟩ ?_
   refine jK 3 (ref03_Normal_ok a0) ?_
   intro x8 h8
   refine jG 4 2 ⟨[V 0 (bs a0),V 1 (bs a1),V 33 (bv (x7 == x8))],[],4⟩ ?_
   refine jr_nil rfl ?_
   exact jx_mid rfl (wkR [] (fix_nil _) allp_nil)
  refine jG 0 6 ⟨[V 0 (bs a0),V 1 (bs a1),V 33 (bv false)],[],4⟩ ?_
  refine jr_nil rfl ?_
  exact jx_mid rfl (wkR [] (fix_nil _) allp_nil)
 intro x6
 refine jG 15 1 ⟨[V 0 (bs a0),V 1 (bs a1),V 34 (bv x6)],[],0⟩ ?_
 refine jr_bind 16 8 (fun x11=>⟨[V 42 (bv x11)],[],0⟩) ?_ ?_
 ·refine jSp 34 ?_ ?_
  ·refine jG 0 2 ⟨[V 0 (bs a0),V 1 (bs a1),(34,.lit true),V 35 (bs a0),V 36 (bs a1)],[],0⟩ ?_
   refine jK 2 (pep_Compare_ok a0 a1) ?_
   intro x12 h12
   refine jG 3 2 ⟨[(34,.lit true),V 37 (iv x12),V 38 (bs a0),V 39 (bs a1)],[],0⟩ ?_
   refine jK 5 (ref03_Compare_ok a0 a1) ?_
   intro x13 h13
   refine jG 6 2 ⟨[V 42 (bv (x12 == x13))],[],0⟩ ?_
   refine jr_nil rfl ?_
   exact jx_mid rfl (wkR [] (fix_nil _) allp_nil)
  refine jG 0 8 ⟨[V 42 (bv false)],[],0⟩ ?_
  refine jr_nil rfl ?_
  exact jx_mid rfl (wkR [] (fix_nil _) allp_nil)
 intro x11
 refine jG 24 1 ⟨[V 43 (bv x11)],[],0⟩ ?_
 refine jr_bind 25 2 (fun x15=>⟨[V 45 (bv x15)],[],0⟩) ?_ ?_
 ·refine jSp 43 ?_ ?_
  ·refine jK 0 (law03_awake_ok) ?_
   intro x16 h16
   refine jG 1 1 ⟨[V 45 (bv x16)],[],0⟩ ?_
   refine jr_nil rfl ?_
   exact jx_mid rfl (wkR [] (fix_nil _) allp_nil)
  refine jG 0 2 ⟨[V 45 (bv false)],[],0⟩ ?_
  refine jr_nil rfl ?_
  exact jx_mid rfl (wkR [] (fix_nil _) allp_nil)
 intro x15
 refine jG 27 1 ⟨[V 4 (bv x15)],[],0⟩ ?_
 refine jN ?_
 refine jc_ret ?_
 exact jx_retF (.inr rfl) (v:=bv x15) (by kernel_rfl) rfl (fle_refl _))
end Go.Vm

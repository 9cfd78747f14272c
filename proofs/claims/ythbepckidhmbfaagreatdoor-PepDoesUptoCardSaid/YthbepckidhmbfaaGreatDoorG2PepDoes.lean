/- The law PepDoes, a part of its proof: what the functions that it reaches compute. -/
import Derived.Test.YthbepckidhmbfaaGreatDoorG0PepDoes
import Derived.Test.YthbepckidhmbfaaGreatDoorG1PepDoes
set_option maxRecDepth 100000
set_option maxHeartbeats 0
set_option linter.unusedVariables false
set_option linter.unusedSimpArgs false
namespace Go.Vm
open Go
abbrev ref03_Order_r1 : List LO := [lo 2 (.box 24 (.tmp 0)) 0, lo 3 (.box 24 (.tmp 1)) 0, lo 4 (.assign (.const (.int .i64 0))) 3]
abbrev ref03_Order_r2 : List LO := [lo 7 (.load 24 (.tmp 2)) 24, lo 8 (.call ⟨.value (.func 18), #[.tmp 7], #[24]⟩) 4, lo 9 (.unOp .not 4 (.tmp 8)) 4, lm 10 9 4, lg 11 (.load 24 (.tmp 3)) 24 10 false, lg 12 (.call ⟨.value (.func 18), #[.tmp 11], #[24]⟩) 4 10 false, lg 13 (.unOp .not 4 (.tmp 12)) 4 10 false, lo 14 (.pick (.tmp 10) (.const (.bool true)) (.tmp 13)) 4]
abbrev ref03_Order_r3 : List LO := [lo 4 (.assign (.const (.int .i64 0))) 3]
abbrev ref03_Order_r4 : List LO := [lo 15 (.fieldAddr 24 (.tmp 2) 0) 0, lo 16 (.load 9 (.tmp 15)) 9, lo 17 (.fieldAddr 24 (.tmp 3) 0) 0, lo 18 (.load 9 (.tmp 17)) 9, lo 19 (.call ⟨.value (.func 73), #[.tmp 16, .tmp 18], #[9, 9]⟩) 3, lo 20 (.fieldAddr 24 (.tmp 2) 1) 0, lo 21 (.load 22 (.tmp 20)) 22, lo 22 (.fieldAddr 24 (.tmp 3) 1) 0, lo 23 (.load 22 (.tmp 22)) 22, lo 24 (.call ⟨.value (.func 74), #[.tmp 21, .tmp 23], #[22, 22]⟩) 3, lo 25 (.load 24 (.tmp 2)) 24, lo 26 (.call ⟨.value (.func 75), #[.tmp 25], #[24]⟩) 3, lo 27 (.load 24 (.tmp 3)) 24, lo 28 (.call ⟨.value (.func 75), #[.tmp 27], #[24]⟩) 3, lo 29 (.call ⟨.value (.func 54), #[.tmp 26, .tmp 28], #[3, 3]⟩) 3, lo 30 (.fieldAddr 24 (.tmp 2) 3) 0, lo 31 (.load 9 (.tmp 30)) 9, lo 32 (.fieldAddr 24 (.tmp 3) 3) 0, lo 33 (.load 9 (.tmp 32)) 9, lo 34 (.call ⟨.value (.func 73), #[.tmp 31, .tmp 33], #[9, 9]⟩) 3, lo 35 (.fieldAddr 24 (.tmp 2) 4) 0, lo 36 (.load 4 (.tmp 35)) 4, lo 37 (.call ⟨.value (.func 55), #[.tmp 36], #[4]⟩) 3, lo 38 (.fieldAddr 24 (.tmp 3) 4) 0, lo 39 (.load 4 (.tmp 38)) 4, lo 40 (.call ⟨.value (.func 55), #[.tmp 39], #[4]⟩) 3, lo 41 (.call ⟨.value (.func 54), #[.tmp 37, .tmp 40], #[3, 3]⟩) 3, lo 42 (.fieldAddr 24 (.tmp 2) 5) 0, lo 43 (.load 9 (.tmp 42)) 9, lo 44 (.fieldAddr 24 (.tmp 3) 5) 0, lo 45 (.load 9 (.tmp 44)) 9, lo 46 (.call ⟨.value (.func 73), #[.tmp 43, .tmp 45], #[9, 9]⟩) 3, lo 47 (.fieldAddr 24 (.tmp 2) 6) 0, lo 48 (.load 4 (.tmp 47)) 4, lo 49 (.unOp .not 4 (.tmp 48)) 4, lo 50 (.call ⟨.value (.func 55), #[.tmp 49], #[4]⟩) 3, lo 51 (.fieldAddr 24 (.tmp 3) 6) 0, lo 52 (.load 4 (.tmp 51)) 4, lo 53 (.unOp .not 4 (.tmp 52)) 4, lo 54 (.call ⟨.value (.func 55), #[.tmp 53], #[4]⟩) 3, lo 55 (.call ⟨.value (.func 54), #[.tmp 50, .tmp 54], #[3, 3]⟩) 3, lo 56 (.fieldAddr 24 (.tmp 2) 7) 0, lo 57 (.load 9 (.tmp 56)) 9, lo 58 (.fieldAddr 24 (.tmp 3) 7) 0, lo 59 (.load 9 (.tmp 58)) 9, lo 60 (.call ⟨.value (.func 73), #[.tmp 57, .tmp 59], #[9, 9]⟩) 3, lo 61 (.fieldAddr 24 (.tmp 2) 8) 0, lo 62 (.load 22 (.tmp 61)) 22, lo 63 (.fieldAddr 24 (.tmp 3) 8) 0, lo 64 (.load 22 (.tmp 63)) 22, lo 65 (.call ⟨.value (.func 76), #[.tmp 62, .tmp 64], #[22, 22]⟩) 3, lo 66 (.buildSlice 76 9 #[(0, .tmp 19), (1, .tmp 24), (2, .tmp 29), (3, .tmp 34), (4, .tmp 41), (5, .tmp 46), (6, .tmp 55), (7, .tmp 60), (8, .tmp 65)]) 76, lo 5 (.assign (.tmp 66)) 76]
abbrev ref03_Order_r5 : List LO := [lo 6 (.assign (.const (.int .i64 0))) 3]
abbrev ref03_Order_r6 : List LO := [lm 67 6 3, lm 68 5 76, lo 69 (.call ⟨.builtin .len, #[.tmp 68], #[76]⟩) 3, lo 70 (.binOp .lss 3 (.tmp 67) (.tmp 69) 3) 4]
abbrev ref03_Order_r7 : List LO := [lm 73 5 76, lm 74 6 3, lo 75 (.indexAddr 76 (.tmp 73) (.tmp 74)) 0, lo 76 (.load 3 (.tmp 75)) 3, lo 77 (.binOp .neq 3 (.tmp 76) (.const (.int .i64 0)) 3) 4]
abbrev ref03_Order_r8 : List LO := [lm 78 5 76, lm 79 6 3, lo 80 (.indexAddr 76 (.tmp 78) (.tmp 79)) 0, lo 81 (.load 3 (.tmp 80)) 3, lo 4 (.assign (.tmp 81)) 3]
abbrev ref03_Order_r9 : List LO := [lm 71 6 3, lo 72 (.binOp .add 3 (.tmp 71) (.const (.int .i64 1)) 3) 3, lo 6 (.assign (.tmp 72)) 3]
abbrev ref03_Order_r10 : List LO := [lo 4 (.assign (.const (.int .i64 0))) 3]
abbrev ref03_Order_c : LC := .seq (.reg false ref03_Order_r1) (.seq (.seq (.reg false ref03_Order_r2) (.cond (.tmp 14) (.seq (.reg false ref03_Order_r3) .ret) .skip)) (.seq (.reg true ref03_Order_r4) (.seq (.seq (.reg false ref03_Order_r5) (.block 0 (.loop (.seq (.seq (.reg false ref03_Order_r6) (.cond (.tmp 70) .skip (.exit 0))) (.seq (.block 1 (.seq (.reg false ref03_Order_r7) (.cond (.tmp 77) (.seq (.reg false ref03_Order_r8) .ret) .skip))) (.reg false ref03_Order_r9)))))) (.seq (.reg false ref03_Order_r10) .ret))))
theorem ref03_Order_k : FnOk E 22 82 [.tmp 4] ref03_Order_c := ⟨⟨Go.Proofs.Tryz.f22, by kernel_rfl, by kernel_rfl, by kernel_rfl, by kernel_rfl, by kernel_rfl⟩, rfl, rfl⟩
noncomputable def ref03_Order_l1 (x5 : Int) (x6 : Int) (x9 : Int) (x10 : Int) (x13 : Int) (x14 : Int) (x17 : Int) (x18 : Int) (x19 : Int) : Int → Option (Step (Int) ((Int) ⊕ (Unit))) := fun x22 => (if (decide (x22 < (List.length [x5, x6, x9, x10, x13, x14, x17, x18, x19] : Int))) = true then Option.bind (ixl [x5, x6, x9, x10, x13, x14, x17, x18, x19] x22) (fun x27 => (if (x27 != 0) = true then Option.bind (ixl [x5, x6, x9, x10, x13, x14, x17, x18, x19] x22) (fun x28 => some (Step.done (Sum.inl x28))) else some (Step.next (w64 (x22 + 1))))) else some (Step.done (Sum.inr ())))
noncomputable def ref03_Order (a0 : S_api_Pep) (a1 : S_api_Pep) : Option (Int) := Option.bind (ref03_Fit a0) (fun x1 => Option.bind (if (!x1) = true then some true else Option.bind (ref03_Fit a1) (fun x4 => some (!x4)) : Option (Bool)) (fun x3 => (if x3 = true then some 0 else Option.bind (ref01_Cmp a0.Epoch a1.Epoch) (fun x5 => Option.bind (ref03_release a0.Release a1.Release) (fun x6 => Option.bind (ref03_class a0) (fun x7 => Option.bind (ref03_class a1) (fun x8 => Option.bind (ref03_ints x7 x8) (fun x9 => Option.bind (ref01_Cmp a0.PreNum a1.PreNum) (fun x10 => Option.bind (ref03_rank a0.Post) (fun x11 => Option.bind (ref03_rank a1.Post) (fun x12 => Option.bind (ref03_ints x11 x12) (fun x13 => Option.bind (ref01_Cmp a0.PostNum a1.PostNum) (fun x14 => Option.bind (ref03_rank (!a0.Dev)) (fun x15 => Option.bind (ref03_rank (!a1.Dev)) (fun x16 => Option.bind (ref03_ints x15 x16) (fun x17 => Option.bind (ref01_Cmp a0.DevNum a1.DevNum) (fun x18 => Option.bind (ref03_locals a0.Local a1.Local) (fun x19 => Option.bind (loopC (ref03_Order_l1 x5 x6 x9 x10 x13 x14 x17 x18 x19) 0) (fun y => match y with | Sum.inl x26 => some x26 | Sum.inr _ => some 0)))))))))))))))))))
theorem ref03_Order_ok (a0 : S_api_Pep) (a1 : S_api_Pep) : Ct E 22 [.agg [bs a0.Epoch, .fsl 1 (List.map cS a0.Release), .s (.int .u8 a0.Pre), bs a0.PreNum, bv a0.Post, bs a0.PostNum, bv a0.Dev, bs a0.DevNum, .fsl 1 (List.map cS a0.Local)], .agg [bs a1.Epoch, .fsl 1 (List.map cS a1.Release), .s (.int .u8 a1.Pre), bs a1.PreNum, bv a1.Post, bs a1.PostNum, bv a1.Dev, bs a1.DevNum, .fsl 1 (List.map cS a1.Local)]] (ref03_Order a0 a1) (fun r : Int => iv r) := ct_intro (N := 82) (L := ref03_Order_c) ref03_Order_k rfl (Nat.le_of_ble_eq_true rfl) (by kernel_rfl) (by
 unfold ref03_Order
 refine jS ⟨[V 2 (pt 0 9), V 3 (pt 1 9)], [W 0 9 [bs a0.Epoch, .fsl 1 (List.map cS a0.Release), .s (.int .u8 a0.Pre), bs a0.PreNum, bv a0.Post, bs a0.PostNum, bv a0.Dev, bs a0.DevNum, .fsl 1 (List.map cS a0.Local)], W 1 9 [bs a1.Epoch, .fsl 1 (List.map cS a1.Release), .s (.int .u8 a1.Pre), bs a1.PreNum, bv a1.Post, bs a1.PostNum, bv a1.Dev, bs a1.DevNum, .fsl 1 (List.map cS a1.Local)]], 2⟩ ?_
 refine jc_seq ?_
 refine jR ?_
 refine jG 0 1 ⟨[V 2 (pt 0 9), V 3 (pt 1 9), V 7 (.agg [bs a0.Epoch, .fsl 1 (List.map cS a0.Release), .s (.int .u8 a0.Pre), bs a0.PreNum, bv a0.Post, bs a0.PostNum, bv a0.Dev, bs a0.DevNum, .fsl 1 (List.map cS a0.Local)])], [W 0 9 [bs a0.Epoch, .fsl 1 (List.map cS a0.Release), .s (.int .u8 a0.Pre), bs a0.PreNum, bv a0.Post, bs a0.PostNum, bv a0.Dev, bs a0.DevNum, .fsl 1 (List.map cS a0.Local)], W 1 9 [bs a1.Epoch, .fsl 1 (List.map cS a1.Release), .s (.int .u8 a1.Pre), bs a1.PreNum, bv a1.Post, bs a1.PostNum, bv a1.Dev, bs a1.DevNum, .fsl 1 (List.map cS a1.Local)]], 2⟩ ?_
 refine jK 1 (ref03_Fit_ok a0) ?_
 intro x1 h1
 refine jG 2 2 ⟨[V 2 (pt 0 9), V 3 (pt 1 9), V 10 (bv (!x1))], [W 0 9 [bs a0.Epoch, .fsl 1 (List.map cS a0.Release), .s (.int .u8 a0.Pre), bs a0.PreNum, bv a0.Post, bs a0.PostNum, bv a0.Dev, bs a0.DevNum, .fsl 1 (List.map cS a0.Local)], W 1 9 [bs a1.Epoch, .fsl 1 (List.map cS a1.Release), .s (.int .u8 a1.Pre), bs a1.PreNum, bv a1.Post, bs a1.PostNum, bv a1.Dev, bs a1.DevNum, .fsl 1 (List.map cS a1.Local)]], 2⟩ ?_
 refine jr_bind 4 4 (fun x3 => ⟨[V 2 (pt 0 9), V 3 (pt 1 9), V 14 (bv x3)], [W 0 9 [bs a0.Epoch, .fsl 1 (List.map cS a0.Release), .s (.int .u8 a0.Pre), bs a0.PreNum, bv a0.Post, bs a0.PostNum, bv a0.Dev, bs a0.DevNum, .fsl 1 (List.map cS a0.Local)], W 1 9 [bs a1.Epoch, .fsl 1 (List.map cS a1.Release), .s (.int .u8 a1.Pre), bs a1.PreNum, bv a1.Post, bs a1.PostNum, bv a1.Dev, bs a1.DevNum, .fsl 1 (List.map cS a1.Local)]], 2⟩) ?_ ?_
 ·refine jSp 10 ?_ ?_
  ·refine jG 0 4 ⟨[V 2 (pt 0 9), V 3 (pt 1 9), V 14 (bv true)], [W 0 9 [bs a0.Epoch, .fsl 1 (List.map cS a0.Release), .s (.int .u8 a0.Pre), bs a0.PreNum, bv a0.Post, bs a0.PostNum, bv a0.Dev, bs a0.DevNum, .fsl 1 (List.map cS a0.Local)], W 1 9 [bs a1.Epoch, .fsl 1 (List.map cS a1.Release), .s (.int .u8 a1.Pre), bs a1.PreNum, bv a1.Post, bs a1.PostNum, bv a1.Dev, bs a1.DevNum, .fsl 1 (List.map cS a1.Local)]], 2⟩ ?_
   refine jr_nil rfl ?_
   exact jx_mid rfl (wkR [(0, some 0), (1, some 1)] (fix_nil _) (pc (hC 0) (pc (hC 1) allp_nil)))
  refine jG 0 1 ⟨[V 2 (pt 0 9), V 3 (pt 1 9), (10, .lit false), V 11 (.agg [bs a1.Epoch, .fsl 1 (List.map cS a1.Release), .s (.int .u8 a1.Pre), bs a1.PreNum, bv a1.Post, bs a1.PostNum, bv a1.Dev, bs a1.DevNum, .fsl 1 (List.map cS a1.Local)])], [W 0 9 [bs a0.Epoch, .fsl 1 (List.map cS a0.Release), .s (.int .u8 a0.Pre), bs a0.PreNum, bv a0.Post, bs a0.PostNum, bv a0.Dev, bs a0.DevNum, .fsl 1 (List.map cS a0.Local)], W 1 9 [bs a1.Epoch, .fsl 1 (List.map cS a1.Release), .s (.int .u8 a1.Pre), bs a1.PreNum, bv a1.Post, bs a1.PostNum, bv a1.Dev, bs a1.DevNum, .fsl 1 (List.map cS a1.Local)]], 2⟩ ?_
  refine jK 1 (ref03_Fit_ok a1) ?_
  intro x4 h4
  refine jG 2 2 ⟨[V 2 (pt 0 9), V 3 (pt 1 9), V 14 (bv (!x4))], [W 0 9 [bs a0.Epoch, .fsl 1 (List.map cS a0.Release), .s (.int .u8 a0.Pre), bs a0.PreNum, bv a0.Post, bs a0.PostNum, bv a0.Dev, bs a0.DevNum, .fsl 1 (List.map cS a0.Local)], W 1 9 [bs a1.Epoch, .fsl 1 (List.map cS a1.Release), .s (.int .u8 a1.Pre), bs a1.PreNum, bv a1.Post, bs a1.PostNum, bv a1.Dev, bs a1.DevNum, .fsl 1 (List.map cS a1.Local)]], 2⟩ ?_
  refine jr_nil rfl ?_
  exact jx_mid rfl (wkR [(0, some 0), (1, some 1)] (fix_nil _) (pc (hC 0) (pc (hC 1) allp_nil)))
 intro x3
 refine jN ?_
 refine jIf ?_ ?_
 ·refine jS ⟨[V 4 (iv 0)], [], 2⟩ ?_
  refine jc_ret ?_
  refine jx_seqR ?_
  exact jx_retF (.inr rfl) (v := iv 0) (by kernel_rfl) rfl (fle_refl _)
 refine jc_skip ?_
 refine jx_seqN ?_
 refine jR ?_
 refine jG 0 4 ⟨[V 2 (pt 0 9), V 3 (pt 1 9), V 16 (bs a0.Epoch), V 18 (bs a1.Epoch)], [W 0 9 [bs a0.Epoch, .fsl 1 (List.map cS a0.Release), .s (.int .u8 a0.Pre), bs a0.PreNum, bv a0.Post, bs a0.PostNum, bv a0.Dev, bs a0.DevNum, .fsl 1 (List.map cS a0.Local)], W 1 9 [bs a1.Epoch, .fsl 1 (List.map cS a1.Release), .s (.int .u8 a1.Pre), bs a1.PreNum, bv a1.Post, bs a1.PostNum, bv a1.Dev, bs a1.DevNum, .fsl 1 (List.map cS a1.Local)]], 2⟩ ?_
 refine jK 4 (ref01_Cmp_ok a0.Epoch a1.Epoch) ?_
 intro x5 h5
 refine jG 5 4 ⟨[V 2 (pt 0 9), V 3 (pt 1 9), V 19 (iv x5), V 21 (.fsl 1 (List.map cS a0.Release)), V 23 (.fsl 1 (List.map cS a1.Release))], [W 0 9 [bs a0.Epoch, .fsl 1 (List.map cS a0.Release), .s (.int .u8 a0.Pre), bs a0.PreNum, bv a0.Post, bs a0.PostNum, bv a0.Dev, bs a0.DevNum, .fsl 1 (List.map cS a0.Local)], W 1 9 [bs a1.Epoch, .fsl 1 (List.map cS a1.Release), .s (.int .u8 a1.Pre), bs a1.PreNum, bv a1.Post, bs a1.PostNum, bv a1.Dev, bs a1.DevNum, .fsl 1 (List.map cS a1.Local)]], 2⟩ ?_
 refine jK 9 (ref03_release_ok a0.Release a1.Release) ?_
 intro x6 h6
 refine jG 10 1 ⟨[V 2 (pt 0 9), V 3 (pt 1 9), V 19 (iv x5), V 24 (iv x6), V 25 (.agg [bs a0.Epoch, .fsl 1 (List.map cS a0.Release), .s (.int .u8 a0.Pre), bs a0.PreNum, bv a0.Post, bs a0.PostNum, bv a0.Dev, bs a0.DevNum, .fsl 1 (List.map cS a0.Local)])], [W 0 9 [bs a0.Epoch, .fsl 1 (List.map cS a0.Release), .s (.int .u8 a0.Pre), bs a0.PreNum, bv a0.Post, bs a0.PostNum, bv a0.Dev, bs a0.DevNum, .fsl 1 (List.map cS a0.Local)], W 1 9 [bs a1.Epoch, .fsl 1 (List.map cS a1.Release), .s (.int .u8 a1.Pre), bs a1.PreNum, bv a1.Post, bs a1.PostNum, bv a1.Dev, bs a1.DevNum, .fsl 1 (List.map cS a1.Local)]], 2⟩ ?_
 refine jK 11 (ref03_class_ok a0) ?_
 intro x7 h7
 refine jG 12 1 ⟨[V 2 (pt 0 9), V 3 (pt 1 9), V 19 (iv x5), V 24 (iv x6), V 26 (iv x7), V 27 (.agg [bs a1.Epoch, .fsl 1 (List.map cS a1.Release), .s (.int .u8 a1.Pre), bs a1.PreNum, bv a1.Post, bs a1.PostNum, bv a1.Dev, bs a1.DevNum, .fsl 1 (List.map cS a1.Local)])], [W 0 9 [bs a0.Epoch, .fsl 1 (List.map cS a0.Release), .s (.int .u8 a0.Pre), bs a0.PreNum, bv a0.Post, bs a0.PostNum, bv a0.Dev, bs a0.DevNum, .fsl 1 (List.map cS a0.Local)], W 1 9 [bs a1.Epoch, .fsl 1 (List.map cS a1.Release), .s (.int .u8 a1.Pre), bs a1.PreNum, bv a1.Post, bs a1.PostNum, bv a1.Dev, bs a1.DevNum, .fsl 1 (List.map cS a1.Local)]], 2⟩ ?_
 refine jK 13 (ref03_class_ok a1) ?_
 intro x8 h8
 refine jK 14 (ref03_ints_ok x7 x8) ?_
 intro x9 h9
 refine jG 15 4 ⟨[V 2 (pt 0 9), V 3 (pt 1 9), V 19 (iv x5), V 24 (iv x6), V 29 (iv x9), V 31 (bs a0.PreNum), V 33 (bs a1.PreNum)], [W 0 9 [bs a0.Epoch, .fsl 1 (List.map cS a0.Release), .s (.int .u8 a0.Pre), bs a0.PreNum, bv a0.Post, bs a0.PostNum, bv a0.Dev, bs a0.DevNum, .fsl 1 (List.map cS a0.Local)], W 1 9 [bs a1.Epoch, .fsl 1 (List.map cS a1.Release), .s (.int .u8 a1.Pre), bs a1.PreNum, bv a1.Post, bs a1.PostNum, bv a1.Dev, bs a1.DevNum, .fsl 1 (List.map cS a1.Local)]], 2⟩ ?_
 refine jK 19 (ref01_Cmp_ok a0.PreNum a1.PreNum) ?_
 intro x10 h10
 refine jG 20 2 ⟨[V 2 (pt 0 9), V 3 (pt 1 9), V 19 (iv x5), V 24 (iv x6), V 29 (iv x9), V 34 (iv x10), V 36 (bv a0.Post)], [W 0 9 [bs a0.Epoch, .fsl 1 (List.map cS a0.Release), .s (.int .u8 a0.Pre), bs a0.PreNum, bv a0.Post, bs a0.PostNum, bv a0.Dev, bs a0.DevNum, .fsl 1 (List.map cS a0.Local)], W 1 9 [bs a1.Epoch, .fsl 1 (List.map cS a1.Release), .s (.int .u8 a1.Pre), bs a1.PreNum, bv a1.Post, bs a1.PostNum, bv a1.Dev, bs a1.DevNum, .fsl 1 (List.map cS a1.Local)]], 2⟩ ?_
 refine jK 22 (ref03_rank_ok a0.Post) ?_
 intro x11 h11
 refine jG 23 2 ⟨[V 2 (pt 0 9), V 3 (pt 1 9), V 19 (iv x5), V 24 (iv x6), V 29 (iv x9), V 34 (iv x10), V 37 (iv x11), V 39 (bv a1.Post)], [W 0 9 [bs a0.Epoch, .fsl 1 (List.map cS a0.Release), .s (.int .u8 a0.Pre), bs a0.PreNum, bv a0.Post, bs a0.PostNum, bv a0.Dev, bs a0.DevNum, .fsl 1 (List.map cS a0.Local)], W 1 9 [bs a1.Epoch, .fsl 1 (List.map cS a1.Release), .s (.int .u8 a1.Pre), bs a1.PreNum, bv a1.Post, bs a1.PostNum, bv a1.Dev, bs a1.DevNum, .fsl 1 (List.map cS a1.Local)]], 2⟩ ?_
 refine jK 25 (ref03_rank_ok a1.Post) ?_
 intro x12 h12
 refine jK 26 (ref03_ints_ok x11 x12) ?_
 intro x13 h13
 refine jG 27 4 ⟨[V 2 (pt 0 9), V 3 (pt 1 9), V 19 (iv x5), V 24 (iv x6), V 29 (iv x9), V 34 (iv x10), V 41 (iv x13), V 43 (bs a0.PostNum), V 45 (bs a1.PostNum)], [W 0 9 [bs a0.Epoch, .fsl 1 (List.map cS a0.Release), .s (.int .u8 a0.Pre), bs a0.PreNum, bv a0.Post, bs a0.PostNum, bv a0.Dev, bs a0.DevNum, .fsl 1 (List.map cS a0.Local)], W 1 9 [bs a1.Epoch, .fsl 1 (List.map cS a1.Release), .s (.int .u8 a1.Pre), bs a1.PreNum, bv a1.Post, bs a1.PostNum, bv a1.Dev, bs a1.DevNum, .fsl 1 (List.map cS a1.Local)]], 2⟩ ?_
 refine jK 31 (ref01_Cmp_ok a0.PostNum a1.PostNum) ?_
 intro x14 h14
 refine jG 32 3 ⟨[V 2 (pt 0 9), V 3 (pt 1 9), V 19 (iv x5), V 24 (iv x6), V 29 (iv x9), V 34 (iv x10), V 41 (iv x13), V 46 (iv x14), V 49 (bv (!a0.Dev))], [W 0 9 [bs a0.Epoch, .fsl 1 (List.map cS a0.Release), .s (.int .u8 a0.Pre), bs a0.PreNum, bv a0.Post, bs a0.PostNum, bv a0.Dev, bs a0.DevNum, .fsl 1 (List.map cS a0.Local)], W 1 9 [bs a1.Epoch, .fsl 1 (List.map cS a1.Release), .s (.int .u8 a1.Pre), bs a1.PreNum, bv a1.Post, bs a1.PostNum, bv a1.Dev, bs a1.DevNum, .fsl 1 (List.map cS a1.Local)]], 2⟩ ?_
 refine jK 35 (ref03_rank_ok (!a0.Dev)) ?_
 intro x15 h15
 refine jG 36 3 ⟨[V 2 (pt 0 9), V 3 (pt 1 9), V 19 (iv x5), V 24 (iv x6), V 29 (iv x9), V 34 (iv x10), V 41 (iv x13), V 46 (iv x14), V 50 (iv x15), V 53 (bv (!a1.Dev))], [W 0 9 [bs a0.Epoch, .fsl 1 (List.map cS a0.Release), .s (.int .u8 a0.Pre), bs a0.PreNum, bv a0.Post, bs a0.PostNum, bv a0.Dev, bs a0.DevNum, .fsl 1 (List.map cS a0.Local)], W 1 9 [bs a1.Epoch, .fsl 1 (List.map cS a1.Release), .s (.int .u8 a1.Pre), bs a1.PreNum, bv a1.Post, bs a1.PostNum, bv a1.Dev, bs a1.DevNum, .fsl 1 (List.map cS a1.Local)]], 2⟩ ?_
 refine jK 39 (ref03_rank_ok (!a1.Dev)) ?_
 intro x16 h16
 refine jK 40 (ref03_ints_ok x15 x16) ?_
 intro x17 h17
 refine jG 41 4 ⟨[V 2 (pt 0 9), V 3 (pt 1 9), V 19 (iv x5), V 24 (iv x6), V 29 (iv x9), V 34 (iv x10), V 41 (iv x13), V 46 (iv x14), V 55 (iv x17), V 57 (bs a0.DevNum), V 59 (bs a1.DevNum)], [W 0 9 [bs a0.Epoch, .fsl 1 (List.map cS a0.Release), .s (.int .u8 a0.Pre), bs a0.PreNum, bv a0.Post, bs a0.PostNum, bv a0.Dev, bs a0.DevNum, .fsl 1 (List.map cS a0.Local)], W 1 9 [bs a1.Epoch, .fsl 1 (List.map cS a1.Release), .s (.int .u8 a1.Pre), bs a1.PreNum, bv a1.Post, bs a1.PostNum, bv a1.Dev, bs a1.DevNum, .fsl 1 (List.map cS a1.Local)]], 2⟩ ?_
 refine jK 45 (ref01_Cmp_ok a0.DevNum a1.DevNum) ?_
 intro x18 h18
 refine jG 46 4 ⟨[V 19 (iv x5), V 24 (iv x6), V 29 (iv x9), V 34 (iv x10), V 41 (iv x13), V 46 (iv x14), V 55 (iv x17), V 60 (iv x18), V 62 (.fsl 1 (List.map cS a0.Local)), V 64 (.fsl 1 (List.map cS a1.Local))], [], 2⟩ ?_
 refine jK 50 (ref03_locals_ok a0.Local a1.Local) ?_
 intro x19 h19
 refine jG 51 2 ⟨[V 5 (.fsl 1 (List.map cI [x5, x6, x9, x10, x13, x14, x17, x18, x19]))], [], 2⟩ ?_
 refine jN ?_
 refine jc_seq ?_
 refine jS ⟨[V 5 (.fsl 1 (List.map cI [x5, x6, x9, x10, x13, x14, x17, x18, x19])), V 6 (iv 0)], [], 2⟩ ?_
 refine jc_block ?_
 refine jc_bind (fun y => match y with | Sum.inl x26 => ⟨[V 4 (iv x26)], [], 0⟩ | Sum.inr _ => ⟨[], [], 0⟩) (fun y => match y with | Sum.inl x26 => .ret | Sum.inr _ => (.exit 0)) (jc_loop (fun x22 => ⟨[V 5 (.fsl 1 (List.map cI [x5, x6, x9, x10, x13, x14, x17, x18, x19])), V 6 (iv x22)], [], 0⟩) (wkR [] (fix_nil _) allp_nil) ?_) ?_
 ·intro x22
  unfold ref03_Order_l1
  refine jc_seq ?_
  refine jR ?_
  refine jG 0 4 ⟨[V 5 (.fsl 1 (List.map cI [x5, x6, x9, x10, x13, x14, x17, x18, x19])), V 6 (iv x22), V 70 (bv (decide (x22 < (List.length (List.map cI [x5, x6, x9, x10, x13, x14, x17, x18, x19]) : Int))))], [], 0⟩ ?_
  simp only [List.length_map]
  refine jN ?_
  refine jIf ?_ ?_
  ·refine jc_skip ?_
   refine jx_seqN ?_
   refine jc_seq ?_
   refine jc_block ?_
   refine jR ?_
   refine jG 0 2 ⟨[V 5 (.fsl 1 (List.map cI [x5, x6, x9, x10, x13, x14, x17, x18, x19])), V 6 (iv x22), V 73 (.fsl 1 (List.map cI [x5, x6, x9, x10, x13, x14, x17, x18, x19])), V 74 (iv x22)], [], 0⟩ ?_
   refine jr_part (i := 2) (mo := ixl [x5, x6, x9, x10, x13, x14, x17, x18, x19] x22) rfl rfl rfl rfl (fun _ hc => aop_ixf (c := cI) (sz := 1) (e := 3) (kk := .i64) (by kernel_rfl) (by kernel_rfl) (by kernel_rfl) (by kernel_rfl) hc) (fun _ => rfl) ?_
   intro x27 h27
   refine jG 3 2 ⟨[V 5 (.fsl 1 (List.map cI [x5, x6, x9, x10, x13, x14, x17, x18, x19])), V 6 (iv x22), V 77 (bv (x27 != 0))], [], 0⟩ ?_
   refine jN ?_
   refine jIf ?_ ?_
   ·refine jR ?_
    refine jG 0 2 ⟨[V 78 (.fsl 1 (List.map cI [x5, x6, x9, x10, x13, x14, x17, x18, x19])), V 79 (iv x22)], [], 0⟩ ?_
    refine jr_part (i := 2) (mo := ixl [x5, x6, x9, x10, x13, x14, x17, x18, x19] x22) rfl rfl rfl rfl (fun _ hc => aop_ixf (c := cI) (sz := 1) (e := 3) (kk := .i64) (by kernel_rfl) (by kernel_rfl) (by kernel_rfl) (by kernel_rfl) hc) (fun _ => rfl) ?_
    intro x28 h28
    refine jG 3 2 ⟨[V 4 (iv x28)], [], 0⟩ ?_
    refine jN ?_
    refine jc_ret ?_
    refine jx_blkR ?_
    refine jx_seqR ?_
    exact jx_done rfl nofun (wkR [] (fix_nil _) allp_nil)
   refine jc_skip ?_
   refine jx_blkN ?_
   refine jx_seqN ?_
   refine jT ⟨[V 5 (.fsl 1 (List.map cI [x5, x6, x9, x10, x13, x14, x17, x18, x19])), V 6 (iv (w64 (x22 + 1)))], [], 0⟩ ?_
   exact jx_next (wkR [] (fix_nil _) allp_nil)
  refine jc_exit ?_
  refine jx_seqE ?_
  exact jx_done rfl nofun (wkR [] (fix_nil _) allp_nil)
 rintro (x26 | _)
 ·refine jx_blkR ?_
  refine jx_seqR ?_
  exact jx_retF (.inr rfl) (v := iv x26) (by kernel_rfl) rfl (fle_refl _)
 refine jx_blkE ?_
 refine jx_seqN ?_
 refine jS ⟨[V 4 (iv 0)], [], 0⟩ ?_
 refine jc_ret ?_
 exact jx_retF (.inr rfl) (v := iv 0) (by kernel_rfl) rfl (fle_refl _))
end Go.Vm

set_option maxRecDepth 100000
set_option maxHeartbeats 0
set_option linter.unusedVariables false
set_option linter.unusedSimpArgs false
namespace Go.Vm
open Go
abbrev ref03_Public_r1 : List LO := [lo 1 (.box 24 (.tmp 0)) 0, lo 2 (.alloc 24) 0]
abbrev ref03_Public_r2 : List LO := [lo 4 (.load 24 (.tmp 1)) 24, lo 3 (.alloc 24) 0, ln (.store 24 (.tmp 3) (.tmp 4)) 0]
abbrev ref03_Public_r3 : List LO := [lo 5 (.fieldAddr 24 (.tmp 3) 1) 0, ln (.store 22 (.tmp 5) (.const (.slice none 0 0))) 0]
abbrev ref03_Public_r4 : List LO := [lo 6 (.fieldAddr 24 (.tmp 3) 1) 0, lo 7 (.load 22 (.tmp 6)) 22, lo 8 (.fieldAddr 24 (.tmp 1) 1) 0, lo 9 (.load 22 (.tmp 8)) 22, lo 10 (.call ⟨.builtin .append, #[.tmp 7, .tmp 9], #[22, 22]⟩) 22, lo 11 (.fieldAddr 24 (.tmp 3) 1) 0, ln (.store 22 (.tmp 11) (.tmp 10)) 0]
abbrev ref03_Public_r5 : List LO := [lo 12 (.fieldAddr 24 (.tmp 3) 8) 0, ln (.store 22 (.tmp 12) (.const (.slice none 0 0))) 0]
abbrev ref03_Public_r6 : List LO := [lo 13 (.load 24 (.tmp 3)) 24, ln (.store 24 (.tmp 2) (.tmp 13)) 0]
abbrev ref03_Public_c : LC := .seq (.reg false ref03_Public_r1) (.seq (.reg false ref03_Public_r2) (.seq (.reg false ref03_Public_r3) (.seq (.reg false ref03_Public_r4) (.seq (.reg false ref03_Public_r5) (.seq (.reg false ref03_Public_r6) .ret)))))
theorem ref03_Public_k : FnOk E 16 14 [.cell 2 24] ref03_Public_c := ⟨⟨Go.Proofs.Tryz.f16, by kernel_rfl, by kernel_rfl, by kernel_rfl, by kernel_rfl, by kernel_rfl⟩, rfl, rfl⟩
noncomputable def ref03_Public (a0 : S_api_Pep) : Option (S_api_Pep) := Option.bind (app 16 ([] : List Str) a0.Release) (fun x1 => some (S_api_Pep.mk a0.Epoch x1 a0.Pre a0.PreNum a0.Post a0.PostNum a0.Dev a0.DevNum []))
theorem ref03_Public_ok (a0 : S_api_Pep) : Ct E 16 [.agg [bs a0.Epoch, .fsl 1 (List.map cS a0.Release), .s (.int .u8 a0.Pre), bs a0.PreNum, bv a0.Post, bs a0.PostNum, bv a0.Dev, bs a0.DevNum, .fsl 1 (List.map cS a0.Local)]] (ref03_Public a0) (fun r : S_api_Pep => .agg [bs r.Epoch, .fsl 1 (List.map cS r.Release), .s (.int .u8 r.Pre), bs r.PreNum, bv r.Post, bs r.PostNum, bv r.Dev, bs r.DevNum, .fsl 1 (List.map cS r.Local)]) := ct_intro (N := 14) (L := ref03_Public_c) ref03_Public_k rfl (Nat.le_of_ble_eq_true rfl) (by kernel_rfl) (by
 unfold ref03_Public
 refine jS ⟨[V 1 (pt 0 9), V 2 (pt 1 9)], [W 0 9 [bs a0.Epoch, .fsl 1 (List.map cS a0.Release), .s (.int .u8 a0.Pre), bs a0.PreNum, bv a0.Post, bs a0.PostNum, bv a0.Dev, bs a0.DevNum, .fsl 1 (List.map cS a0.Local)], W 1 9 [bs [], nilS, .s (.int .u8 0), bs [], bv false, bs [], bv false, bs [], nilS]], 2⟩ ?_
 refine jS ⟨[V 1 (pt 0 9), V 2 (pt 1 9), V 3 (pt 2 9)], [W 0 9 [bs a0.Epoch, .fsl 1 (List.map cS a0.Release), .s (.int .u8 a0.Pre), bs a0.PreNum, bv a0.Post, bs a0.PostNum, bv a0.Dev, bs a0.DevNum, .fsl 1 (List.map cS a0.Local)], W 1 9 [bs [], nilS, .s (.int .u8 0), bs [], bv false, bs [], bv false, bs [], nilS], W 2 9 [bs a0.Epoch, .fsl 1 (List.map cS a0.Release), .s (.int .u8 a0.Pre), bs a0.PreNum, bv a0.Post, bs a0.PostNum, bv a0.Dev, bs a0.DevNum, .fsl 1 (List.map cS a0.Local)]], 3⟩ ?_
 refine jS ⟨[V 1 (pt 0 9), V 2 (pt 1 9), V 3 (pt 2 9)], [W 0 9 [bs a0.Epoch, .fsl 1 (List.map cS a0.Release), .s (.int .u8 a0.Pre), bs a0.PreNum, bv a0.Post, bs a0.PostNum, bv a0.Dev, bs a0.DevNum, .fsl 1 (List.map cS a0.Local)], W 1 9 [bs [], nilS, .s (.int .u8 0), bs [], bv false, bs [], bv false, bs [], nilS], W 2 9 [bs a0.Epoch, nilS, .s (.int .u8 a0.Pre), bs a0.PreNum, bv a0.Post, bs a0.PostNum, bv a0.Dev, bs a0.DevNum, .fsl 1 (List.map cS a0.Local)]], 3⟩ ?_
 refine jR ?_
 refine jG 0 4 ⟨[V 2 (pt 1 9), V 3 (pt 2 9), V 7 (nilS), V 9 (.fsl 1 (List.map cS a0.Release))], [W 1 9 [bs [], nilS, .s (.int .u8 0), bs [], bv false, bs [], bv false, bs [], nilS], W 2 9 [bs a0.Epoch, nilS, .s (.int .u8 a0.Pre), bs a0.PreNum, bv a0.Post, bs a0.PostNum, bv a0.Dev, bs a0.DevNum, .fsl 1 (List.map cS a0.Local)]], 3⟩ ?_
 refine jr_two (i := 4) (C := a0.Release = []) (st1 := fun x1 => ⟨[V 2 (pt 1 9), V 3 (pt 2 9), V 10 (.osl 3 0 (List.length x1) 1)], [W 1 9 [bs [], nilS, .s (.int .u8 0), bs [], bv false, bs [], bv false, bs [], nilS], W 2 9 [bs a0.Epoch, nilS, .s (.int .u8 a0.Pre), bs a0.PreNum, bv a0.Post, bs a0.PostNum, bv a0.Dev, bs a0.DevNum, .fsl 1 (List.map cS a0.Local)], (3, .rows 1 (List.map cS x1))], 4⟩) rfl rfl rfl rfl (fun q _ hc => aop_app (u := nilS) (w := .fsl 1 (List.map cS a0.Release)) (e := 9) (td := .slice 9) (by kernel_rfl) (by kernel_rfl) (by kernel_rfl) (by kernel_rfl) (.inl ⟨_, rfl⟩) (appendOf_nil (c := cS) (sz := 1) (b := 16) (by kernel_rfl) (.inl rfl) rows_fsl q hc)) (fun q _ hc => aop_app (u := nilS) (w := .fsl 1 (List.map cS a0.Release)) (e := 9) (td := .slice 9) (by kernel_rfl) (by kernel_rfl) (by kernel_rfl) (by kernel_rfl) (.inl ⟨_, rfl⟩) (appendOf_same (c := cS) (sz := 1) (b := 16) (m := a0.Release) (by kernel_rfl) (.inl rfl) rows_fsl q)) (fun _ => rfl) (fun _ => rfl) (fun _ => wkR [(1, some 1), (2, some 2), (3, some 3)] (fix_nil _) (pc (hC 1) (pc (hC 2) (pc (hL 3 (noid_map ni_S _)) allp_nil)))) (fun q _ hc => by cases app_same q hc; exact wkR [(1, some 1), (2, some 2), (3, none)] (fix_nil _) (pc (hC 1) (pc (hC 2) (pc hZ allp_nil)))) ?_
 intro x1 h1
 refine jG 5 2 ⟨[V 2 (pt 1 9), V 3 (pt 2 9)], [W 1 9 [bs [], nilS, .s (.int .u8 0), bs [], bv false, bs [], bv false, bs [], nilS], W 2 9 [bs a0.Epoch, .osl 3 0 (List.length x1) 1, .s (.int .u8 a0.Pre), bs a0.PreNum, bv a0.Post, bs a0.PostNum, bv a0.Dev, bs a0.DevNum, .fsl 1 (List.map cS a0.Local)], (3, .rows 1 (List.map cS x1))], 4⟩ ?_
 refine jN ?_
 refine jS ⟨[V 2 (pt 1 9), V 3 (pt 2 9)], [W 1 9 [bs [], nilS, .s (.int .u8 0), bs [], bv false, bs [], bv false, bs [], nilS], W 2 9 [bs a0.Epoch, .osl 3 0 (List.length x1) 1, .s (.int .u8 a0.Pre), bs a0.PreNum, bv a0.Post, bs a0.PostNum, bv a0.Dev, bs a0.DevNum, nilS], (3, .rows 1 (List.map cS x1))], 4⟩ ?_
 refine jS ⟨[V 2 (pt 1 9)], [W 1 9 [bs a0.Epoch, .osl 3 0 (List.length x1) 1, .s (.int .u8 a0.Pre), bs a0.PreNum, bv a0.Post, bs a0.PostNum, bv a0.Dev, bs a0.DevNum, nilS], (3, .rows 1 (List.map cS x1))], 4⟩ ?_
 refine jc_ret ?_
 exact jx_retF (.inr rfl) (v := .agg [bs a0.Epoch, .osl 3 0 (List.length x1) 1, .s (.int .u8 a0.Pre), bs a0.PreNum, bv a0.Post, bs a0.PostNum, bv a0.Dev, bs a0.DevNum, nilS]) (by kernel_rfl) (snapc_agg (snapL_cons rfl (snapL_cons (snapc_own fz_S (by kernel_rfl)) (snapL_cons rfl (snapL_cons rfl (snapL_cons rfl (snapL_cons rfl (snapL_cons rfl (snapL_cons rfl (snapL_cons rfl (snapL_nil _))))))))))) (fle_agg (all2_cons (fle_refl _) (all2_cons (fle_refl _) (all2_cons (fle_refl _) (all2_cons (fle_refl _) (all2_cons (fle_refl _) (all2_cons (fle_refl _) (all2_cons (fle_refl _) (all2_cons (fle_refl _) (all2_cons (fle_nil _) all2_nil)))))))))))
end Go.Vm

set_option maxRecDepth 100000
set_option maxHeartbeats 0
set_option linter.unusedVariables false
set_option linter.unusedSimpArgs false
namespace Go.Vm
open Go
abbrev pep_Pre_r1 : List LO := [lo 1 (.box 24 (.tmp 0)) 0, lo 2 (.assign (.const (.bool false))) 4]
abbrev pep_Pre_r2 : List LO := [lo 3 (.fieldAddr 24 (.tmp 1) 2) 0, lo 4 (.load 5 (.tmp 3)) 5, lo 5 (.binOp .neq 5 (.tmp 4) (.const (.int .u8 0)) 5) 4, lm 6 5 4, lg 7 (.fieldAddr 24 (.tmp 1) 6) 0 6 false, lg 8 (.load 4 (.tmp 7)) 4 6 false, lo 9 (.pick (.tmp 6) (.const (.bool true)) (.tmp 8)) 4, lo 2 (.assign (.tmp 9)) 4]
abbrev pep_Pre_c : LC := .seq (.reg false pep_Pre_r1) (.seq (.reg false pep_Pre_r2) .ret)
theorem pep_Pre_k : FnOk E 23 10 [.tmp 2] pep_Pre_c := ⟨⟨Go.Proofs.Tryz.f23, by kernel_rfl, by kernel_rfl, by kernel_rfl, by kernel_rfl, by kernel_rfl⟩, rfl, rfl⟩
noncomputable def pep_Pre (a0 : S_api_Pep) : Option (Bool) := some ((a0.Pre != 0) || a0.Dev)
theorem pep_Pre_ok (a0 : S_api_Pep) : Ct E 23 [.agg [bs a0.Epoch, .fsl 1 (List.map cS a0.Release), .s (.int .u8 a0.Pre), bs a0.PreNum, bv a0.Post, bs a0.PostNum, bv a0.Dev, bs a0.DevNum, .fsl 1 (List.map cS a0.Local)]] (pep_Pre a0) (fun r : Bool => bv r) := ct_intro (N := 10) (L := pep_Pre_c) pep_Pre_k rfl (Nat.le_of_ble_eq_true rfl) (by kernel_rfl) (by
 unfold pep_Pre
 refine jS ⟨[V 1 (pt 0 9)], [W 0 9 [bs a0.Epoch, .fsl 1 (List.map cS a0.Release), .s (.int .u8 a0.Pre), bs a0.PreNum, bv a0.Post, bs a0.PostNum, bv a0.Dev, bs a0.DevNum, .fsl 1 (List.map cS a0.Local)]], 1⟩ ?_
 refine jS ⟨[V 2 (bv ((a0.Pre != 0) || a0.Dev))], [], 1⟩ ?_
 refine jc_ret ?_
 exact jx_retF (.inr rfl) (v := bv ((a0.Pre != 0) || a0.Dev)) (by kernel_rfl) rfl (fle_refl _))
end Go.Vm

set_option maxRecDepth 100000
set_option maxHeartbeats 0
set_option linter.unusedVariables false
set_option linter.unusedSimpArgs false
namespace Go.Vm
open Go
abbrev ref03_Pre_r1 : List LO := [lo 1 (.box 24 (.tmp 0)) 0, lo 2 (.assign (.const (.bool false))) 4]
abbrev ref03_Pre_r2 : List LO := [lo 3 (.fieldAddr 24 (.tmp 1) 2) 0, lo 4 (.load 5 (.tmp 3)) 5, lo 5 (.binOp .neq 5 (.tmp 4) (.const (.int .u8 0)) 5) 4, lm 6 5 4, lg 7 (.fieldAddr 24 (.tmp 1) 6) 0 6 false, lg 8 (.load 4 (.tmp 7)) 4 6 false, lo 9 (.pick (.tmp 6) (.const (.bool true)) (.tmp 8)) 4, lo 2 (.assign (.tmp 9)) 4]
abbrev ref03_Pre_c : LC := .seq (.reg false ref03_Pre_r1) (.seq (.reg false ref03_Pre_r2) .ret)
theorem ref03_Pre_k : FnOk E 24 10 [.tmp 2] ref03_Pre_c := ⟨⟨Go.Proofs.Tryz.f24, by kernel_rfl, by kernel_rfl, by kernel_rfl, by kernel_rfl, by kernel_rfl⟩, rfl, rfl⟩
noncomputable def ref03_Pre (a0 : S_api_Pep) : Option (Bool) := some ((a0.Pre != 0) || a0.Dev)
theorem ref03_Pre_ok (a0 : S_api_Pep) : Ct E 24 [.agg [bs a0.Epoch, .fsl 1 (List.map cS a0.Release), .s (.int .u8 a0.Pre), bs a0.PreNum, bv a0.Post, bs a0.PostNum, bv a0.Dev, bs a0.DevNum, .fsl 1 (List.map cS a0.Local)]] (ref03_Pre a0) (fun r : Bool => bv r) := ct_intro (N := 10) (L := ref03_Pre_c) ref03_Pre_k rfl (Nat.le_of_ble_eq_true rfl) (by kernel_rfl) (by
 unfold ref03_Pre
 refine jS ⟨[V 1 (pt 0 9)], [W 0 9 [bs a0.Epoch, .fsl 1 (List.map cS a0.Release), .s (.int .u8 a0.Pre), bs a0.PreNum, bv a0.Post, bs a0.PostNum, bv a0.Dev, bs a0.DevNum, .fsl 1 (List.map cS a0.Local)]], 1⟩ ?_
 refine jS ⟨[V 2 (bv ((a0.Pre != 0) || a0.Dev))], [], 1⟩ ?_
 refine jc_ret ?_
 exact jx_retF (.inr rfl) (v := bv ((a0.Pre != 0) || a0.Dev)) (by kernel_rfl) rfl (fle_refl _))
end Go.Vm

set_option maxRecDepth 100000
set_option maxHeartbeats 0
set_option linter.unusedVariables false
set_option linter.unusedSimpArgs false
namespace Go.Vm
open Go
abbrev slices_Clone_string_string_r1 : List LO := [lo 2 (.assign (.const (.slice none 0 0))) 22]
abbrev slices_Clone_string_string_r2 : List LO := [lm 3 0 22, lo 4 (.binOp .eql 22 (.tmp 3) (.const (.slice none 0 0)) 22) 4]
abbrev slices_Clone_string_string_r3 : List LO := [lo 2 (.assign (.const (.slice none 0 0))) 22]
abbrev slices_Clone_string_string_r4 : List LO := [lo 5 (.buildSlice 22 0 #[]) 22, lm 6 0 22, lo 7 (.call ⟨.builtin .append, #[.tmp 5, .tmp 6], #[22, 22]⟩) 22, lo 2 (.assign (.tmp 7)) 22]
abbrev slices_Clone_string_string_c : LC := .seq (.reg false slices_Clone_string_string_r1) (.seq (.seq (.reg false slices_Clone_string_string_r2) (.cond (.tmp 4) (.seq (.reg false slices_Clone_string_string_r3) .ret) .skip)) (.seq (.reg false slices_Clone_string_string_r4) .ret))
theorem slices_Clone_string_string_k : FnOk E 77 8 [.tmp 2] slices_Clone_string_string_c := ⟨⟨Go.Proofs.Tryz.f77, by kernel_rfl, by kernel_rfl, by kernel_rfl, by kernel_rfl, by kernel_rfl⟩, rfl, rfl⟩
abbrev slices_Clone_string_string_T (a0 : List Str) (r : List Str) : CS := ⟨[V 2 (.osl 0 0 (List.length r) 1)], [(0, .rows 1 (List.map cS r))], 1⟩
noncomputable def slices_Clone_string_string (a0 : List Str) : Option (List Str) := Option.bind (app 16 ([] : List Str) a0) (fun x3 => some x3)
theorem slices_Clone_string_string_ok (a0 : List Str) : CtM E 77 [.fsl 1 (List.map cS a0)] [] 0 (slices_Clone_string_string a0) (fun r : List Str => .osl 0 0 (List.length r) 1) (fun r : List Str => [(0, .rows 1 (List.map cS r))]) 1 := ctm_intro (N := 8) (L := slices_Clone_string_string_c) slices_Clone_string_string_k rfl (Nat.le_of_ble_eq_true rfl) (fun F hF => by
 unfold slices_Clone_string_string
 refine jS ⟨[V 0 (.fsl 1 (List.map cS a0))], [], 0⟩ ?_
 refine jc_seq ?_
 refine jR ?_
 refine jG 0 1 ⟨[V 0 (.fsl 1 (List.map cS a0)), V 3 (.fsl 1 (List.map cS a0))], [], 0⟩ ?_
 refine jr_isnil 1 (v := .fsl 1 (List.map cS a0)) (C := a0 = []) (mA := (some [])) (b := false) mayF (fun h => by first | (rw [h]; rfl) | simp [h, app]) (fun _ => ?_) ?_ (hr := .inr ⟨_, _, rfl⟩)
 ·refine jN ?_
  refine jc_condK (c := true) (by kernel_rfl) ?_
  refine jS ⟨[V 2 (nilS)], [], 0⟩ ?_
  refine jc_ret ?_
  refine jx_seqR ?_
  exact jx_retM (slices_Clone_string_string_T a0 []) (.inr rfl) (wkR [(0, none)] (fix_of hF (k := 0) rfl) (pc hZ allp_nil))
 refine jN ?_
 refine jc_condK (c := false) (by kernel_rfl) ?_
 refine jc_skip ?_
 refine jx_seqN ?_
 refine jR ?_
 refine jG 0 2 ⟨[V 5 (.osl 0 0 (List.length ([] : List Str)) 1), V 6 (.fsl 1 (List.map cS a0))], [(0, .rows 1 (List.map cS ([] : List Str)))], 1⟩ ?_
 refine jr_two (i := 2) (C := a0 = []) (st1 := fun x3 => ⟨[V 7 (.osl 1 0 (List.length x3) 1)], [(1, .rows 1 (List.map cS x3))], 2⟩) rfl rfl rfl rfl (fun q _ hc => aop_app (u := .osl 0 0 (List.length ([] : List Str)) 1) (w := .fsl 1 (List.map cS a0)) (e := 9) (td := .slice 9) (by kernel_rfl) (by kernel_rfl) (by kernel_rfl) (by kernel_rfl) (.inl ⟨_, rfl⟩) (appendOf_own (c := cS) (sz := 1) (b := 16) (id := 0) (by kernel_rfl) (by kernel_rfl) rows_fsl q hc)) (fun q _ hc => aop_app (u := .osl 0 0 (List.length ([] : List Str)) 1) (w := .fsl 1 (List.map cS a0)) (e := 9) (td := .slice 9) (by kernel_rfl) (by kernel_rfl) (by kernel_rfl) (by kernel_rfl) (.inl ⟨_, rfl⟩) (appendOf_same (c := cS) (sz := 1) (b := 16) (m := a0) (by kernel_rfl) (.inr (.inr ⟨_, _, _, _, rfl⟩)) rows_fsl q)) (fun _ => rfl) (fun _ => rfl) (fun _ => wkR [(1, some 1)] (fix_of hF (k := 0) rfl) (pc (hL 1 (noid_map ni_S _)) allp_nil)) (fun q _ hc => by cases app_same q hc; exact wkR [(1, some 0)] (fix_of hF (k := 0) rfl) (pc (hL 0 (noid_map ni_S _)) allp_nil)) ?_
 intro x3 h3
 refine jG 3 1 ⟨[V 2 (.osl 1 0 (List.length x3) 1)], [(1, .rows 1 (List.map cS x3))], 2⟩ ?_
 refine jN ?_
 refine jc_ret ?_
 exact jx_retM (slices_Clone_string_string_T a0 x3) (.inr rfl) (wkR [(0, some 1)] (fix_of hF (k := 0) rfl) (pc (hL 1 (noid_map ni_S _)) allp_nil)))
end Go.Vm

set_option maxRecDepth 100000
set_option maxHeartbeats 0
set_option linter.unusedVariables false
set_option linter.unusedSimpArgs false
namespace Go.Vm
open Go
abbrev pep_Public_r1 : List LO := [lo 1 (.box 24 (.tmp 0)) 0, lo 2 (.alloc 24) 0]
abbrev pep_Public_r2 : List LO := [lo 3 (.fieldAddr 24 (.tmp 1) 1) 0, lo 4 (.load 22 (.tmp 3)) 22, lo 5 (.call ⟨.value (.func 77), #[.tmp 4], #[22]⟩) 22, lo 6 (.fieldAddr 24 (.tmp 1) 1) 0, ln (.store 22 (.tmp 6) (.tmp 5)) 0, lo 7 (.fieldAddr 24 (.tmp 1) 8) 0, ln (.store 22 (.tmp 7) (.const (.slice none 0 0))) 0]
abbrev pep_Public_r3 : List LO := [lo 8 (.load 24 (.tmp 1)) 24, ln (.store 24 (.tmp 2) (.tmp 8)) 0]
abbrev pep_Public_c : LC := .seq (.reg false pep_Public_r1) (.seq (.reg false pep_Public_r2) (.seq (.reg false pep_Public_r3) .ret))
theorem pep_Public_k : FnOk E 25 9 [.cell 2 24] pep_Public_c := ⟨⟨Go.Proofs.Tryz.f25, by kernel_rfl, by kernel_rfl, by kernel_rfl, by kernel_rfl, by kernel_rfl⟩, rfl, rfl⟩
abbrev pep_Public_T (a0 : Str) (a1 : List Str) (a2 : Int) (a3 : Str) (a4 : Bool) (a5 : Str) (a6 : Bool) (a7 : Str) (a8 : List Str) (r : List Str) : CS := ⟨[V 2 (pt 1 9)], [(0, .rows 1 (List.map cS a8)), W 1 9 [bs a0, .osl 2 0 (List.length r) 1, .s (.int .u8 a2), bs a3, bv a4, bs a5, bv a6, bs a7, nilS], (2, .rows 1 (List.map cS r))], 3⟩
noncomputable def pep_Public (a0 : Str) (a1 : List Str) (a2 : Int) (a3 : Str) (a4 : Bool) (a5 : Str) (a6 : Bool) (a7 : Str) (a8 : List Str) : Option (List Str) := Option.bind (slices_Clone_string_string a1) (fun x3 => some x3)
theorem pep_Public_ok (a0 : Str) (a1 : List Str) (a2 : Int) (a3 : Str) (a4 : Bool) (a5 : Str) (a6 : Bool) (a7 : Str) (a8 : List Str) : CtM E 25 [.agg [bs a0, .fsl 1 (List.map cS a1), .s (.int .u8 a2), bs a3, bv a4, bs a5, bv a6, bs a7, .osl 0 0 (List.length a8) 1]] [(0, .rows 1 (List.map cS a8))] 1 (pep_Public a0 a1 a2 a3 a4 a5 a6 a7 a8) (fun r : List Str => .agg [bs a0, .osl 2 0 (List.length r) 1, .s (.int .u8 a2), bs a3, bv a4, bs a5, bv a6, bs a7, nilS]) (fun r : List Str => [(0, .rows 1 (List.map cS a8)), (2, .rows 1 (List.map cS r))]) 3 := ctm_intro (N := 9) (L := pep_Public_c) pep_Public_k rfl (Nat.le_of_ble_eq_true rfl) (fun F hF => by
 unfold pep_Public
 refine jS ⟨[V 1 (pt 1 9), V 2 (pt 2 9)], [(0, .rows 1 (List.map cS a8)), W 1 9 [bs a0, .fsl 1 (List.map cS a1), .s (.int .u8 a2), bs a3, bv a4, bs a5, bv a6, bs a7, .osl 0 0 (List.length a8) 1], W 2 9 [bs [], nilS, .s (.int .u8 0), bs [], bv false, bs [], bv false, bs [], nilS]], 3⟩ ?_
 refine jR ?_
 refine jG 0 2 ⟨[V 1 (pt 1 9), V 2 (pt 2 9), V 4 (.fsl 1 (List.map cS a1))], [(0, .rows 1 (List.map cS a8)), W 1 9 [bs a0, .fsl 1 (List.map cS a1), .s (.int .u8 a2), bs a3, bv a4, bs a5, bv a6, bs a7, .osl 0 0 (List.length a8) 1], W 2 9 [bs [], nilS, .s (.int .u8 0), bs [], bv false, bs [], bv false, bs [], nilS]], 3⟩ ?_
 refine jr_callM 2 [] [(3, some 0)] (fun r : List Str => [(0, .rows 1 (List.map cS a8)), W 1 9 [bs a0, .fsl 1 (List.map cS a1), .s (.int .u8 a2), bs a3, bv a4, bs a5, bv a6, bs a7, .osl 0 0 (List.length a8) 1], W 2 9 [bs [], nilS, .s (.int .u8 0), bs [], bv false, bs [], bv false, bs [], nilS], (3, .rows 1 (List.map cS r))]) (fun r : List Str => .osl 3 0 (List.length r) 1) 4 (slices_Clone_string_string_ok a1) allp_nil (fun r => (pc (.inl ⟨rfl, rfl⟩) (pc (.inl ⟨rfl, rfl⟩) (pc (.inl ⟨rfl, rfl⟩) (pc (.inr (hL 0 (noid_map ni_S _))) allp_nil))))) ?_
 rintro x3 hm2
 refine jG 3 4 ⟨[V 1 (pt 1 9), V 2 (pt 2 9)], [(0, .rows 1 (List.map cS a8)), W 1 9 [bs a0, .osl 3 0 (List.length x3) 1, .s (.int .u8 a2), bs a3, bv a4, bs a5, bv a6, bs a7, nilS], W 2 9 [bs [], nilS, .s (.int .u8 0), bs [], bv false, bs [], bv false, bs [], nilS], (3, .rows 1 (List.map cS x3))], 4⟩ ?_
 refine jN ?_
 refine jS ⟨[V 2 (pt 2 9)], [(0, .rows 1 (List.map cS a8)), W 2 9 [bs a0, .osl 3 0 (List.length x3) 1, .s (.int .u8 a2), bs a3, bv a4, bs a5, bv a6, bs a7, nilS], (3, .rows 1 (List.map cS x3))], 4⟩ ?_
 refine jc_ret ?_
 exact jx_retM (pep_Public_T a0 a1 a2 a3 a4 a5 a6 a7 a8 x3) (.inr rfl) (wkR [(0, some 0), (1, some 2), (2, some 3)] (fix_of hF (k := 1) rfl) (pc (hL 0 (noid_map ni_S _)) (pc (hC 2) (pc (hL 3 (noid_map ni_S _)) allp_nil)))))
end Go.Vm

set_option maxRecDepth 100000
set_option maxHeartbeats 0
set_option linter.unusedVariables false
set_option linter.unusedSimpArgs false
namespace Go.Vm
open Go
abbrev law03_PepDoes_r1 : List LO := [lo 2 (.box 24 (.tmp 0)) 0, lo 3 (.box 24 (.tmp 1)) 0, lo 4 (.assign (.const (.bool false))) 4]
abbrev law03_PepDoes_r2 : List LO := [lo 8 (.load 24 (.tmp 2)) 24, lo 9 (.call ⟨.value (.func 16), #[.tmp 8], #[24]⟩) 24, lo 5 (.alloc 24) 0, ln (.store 24 (.tmp 5) (.tmp 9)) 0]
abbrev law03_PepDoes_r3 : List LO := [lo 10 (.buildSlice 22 0 #[]) 22, lo 11 (.fieldAddr 24 (.tmp 2) 8) 0, lo 12 (.load 22 (.tmp 11)) 22, lo 13 (.call ⟨.builtin .append, #[.tmp 10, .tmp 12], #[22, 22]⟩) 22, lo 14 (.fieldAddr 24 (.tmp 5) 8) 0, ln (.store 22 (.tmp 14) (.tmp 13)) 0]
abbrev law03_PepDoes_r4 : List LO := [lo 15 (.load 24 (.tmp 5)) 24, lo 16 (.call ⟨.value (.func 17), #[.tmp 15], #[24]⟩) 4, lo 17 (.load 24 (.tmp 2)) 24, lo 18 (.call ⟨.value (.func 18), #[.tmp 17], #[24]⟩) 4, lo 19 (.binOp .neq 4 (.tmp 16) (.tmp 18) 4) 4, lm 20 19 4, lg 21 (.load 24 (.tmp 5)) 24 20 false, lg 22 (.call ⟨.value (.func 19), #[.tmp 21], #[24]⟩) 9 20 false, lg 23 (.load 24 (.tmp 2)) 24 20 false, lg 24 (.call ⟨.value (.func 20), #[.tmp 23], #[24]⟩) 9 20 false, lg 25 (.binOp .neq 9 (.tmp 22) (.tmp 24) 9) 4 20 false, lo 26 (.pick (.tmp 20) (.const (.bool true)) (.tmp 25)) 4, lm 27 26 4, lg 28 (.load 24 (.tmp 5)) 24 27 false, lg 29 (.load 24 (.tmp 3)) 24 27 false, lg 30 (.call ⟨.value (.func 21), #[.tmp 28, .tmp 29], #[24, 24]⟩) 3 27 false, lg 31 (.load 24 (.tmp 2)) 24 27 false, lg 32 (.load 24 (.tmp 3)) 24 27 false, lg 33 (.call ⟨.value (.func 22), #[.tmp 31, .tmp 32], #[24, 24]⟩) 3 27 false, lg 34 (.binOp .neq 3 (.tmp 30) (.tmp 33) 3) 4 27 false, lo 35 (.pick (.tmp 27) (.const (.bool true)) (.tmp 34)) 4, lm 36 35 4, lg 37 (.load 24 (.tmp 5)) 24 36 false, lg 38 (.call ⟨.value (.func 23), #[.tmp 37], #[24]⟩) 4 36 false, lg 39 (.load 24 (.tmp 2)) 24 36 false, lg 40 (.call ⟨.value (.func 24), #[.tmp 39], #[24]⟩) 4 36 false, lg 41 (.binOp .neq 4 (.tmp 38) (.tmp 40) 4) 4 36 false, lo 42 (.pick (.tmp 36) (.const (.bool true)) (.tmp 41)) 4]
abbrev law03_PepDoes_r5 : List LO := [lo 4 (.assign (.const (.bool false))) 4]
abbrev law03_PepDoes_r6 : List LO := [lo 43 (.load 24 (.tmp 5)) 24, lo 44 (.call ⟨.value (.func 25), #[.tmp 43], #[24]⟩) 24, lo 6 (.alloc 24) 0, ln (.store 24 (.tmp 6) (.tmp 44)) 0]
abbrev law03_PepDoes_r7 : List LO := [lo 45 (.load 24 (.tmp 6)) 24, lo 46 (.load 24 (.tmp 2)) 24, lo 47 (.call ⟨.value (.func 16), #[.tmp 46], #[24]⟩) 24, lo 48 (.call ⟨.value (.func 10), #[.tmp 45, .tmp 47], #[24, 24]⟩) 4, lo 49 (.unOp .not 4 (.tmp 48)) 4]
abbrev law03_PepDoes_r8 : List LO := [lo 4 (.assign (.const (.bool false))) 4]
abbrev law03_PepDoes_r9 : List LO := [lo 50 (.fieldAddr 24 (.tmp 6) 1) 0, lo 51 (.load 22 (.tmp 50)) 22, lo 52 (.call ⟨.builtin .len, #[.tmp 51], #[22]⟩) 3, lo 53 (.move (.const (.int .i64 0))) 3]
abbrev law03_PepDoes_r10 : List LO := [lo 54 (.binOp .lss 3 (.tmp 53) (.tmp 52) 3) 0]
abbrev law03_PepDoes_r11 : List LO := [lm 55 53 3, lo 7 (.assign (.tmp 55)) 3]
abbrev law03_PepDoes_r12 : List LO := [lo 56 (.fieldAddr 24 (.tmp 6) 1) 0, lo 57 (.load 22 (.tmp 56)) 22, lm 58 7 3, lo 59 (.indexAddr 22 (.tmp 57) (.tmp 58)) 0, ln (.store 9 (.tmp 59) (.const (.string ⟨#[55, 55]⟩))) 0]
abbrev law03_PepDoes_r13 : List LO := [lo 60 (.binOp .add 3 (.tmp 53) (.const (.int .i64 1)) 3) 3, lm 53 60 3]
abbrev law03_PepDoes_r14 : List LO := [lo 61 (.load 24 (.tmp 5)) 24, lo 62 (.load 24 (.tmp 2)) 24, lo 63 (.call ⟨.value (.func 10), #[.tmp 61, .tmp 62], #[24, 24]⟩) 4, lm 64 63 4, lg 65 (.call ⟨.value (.func 15), #[], #[]⟩) 4 64 true, lo 66 (.pick (.tmp 64) (.tmp 65) (.const (.bool false))) 4, lo 4 (.assign (.tmp 66)) 4]
abbrev law03_PepDoes_c : LC := .seq (.reg false law03_PepDoes_r1) (.seq (.reg false law03_PepDoes_r2) (.seq (.reg false law03_PepDoes_r3) (.seq (.seq (.reg true law03_PepDoes_r4) (.cond (.tmp 42) (.seq (.reg false law03_PepDoes_r5) .ret) .skip)) (.seq (.reg false law03_PepDoes_r6) (.seq (.seq (.reg true law03_PepDoes_r7) (.cond (.tmp 49) (.seq (.reg false law03_PepDoes_r8) .ret) .skip)) (.seq (.seq (.reg false law03_PepDoes_r9) (.block 0 (.loop (.seq (.reg false law03_PepDoes_r10) (.seq (.cond (.tmp 54) .skip (.exit 0)) (.seq (.block 1 (.seq (.reg false law03_PepDoes_r11) (.reg false law03_PepDoes_r12))) (.reg false law03_PepDoes_r13))))))) (.seq (.reg false law03_PepDoes_r14) .ret)))))))
theorem law03_PepDoes_k : FnOk E 4 67 [.tmp 4] law03_PepDoes_c := ⟨⟨Go.Proofs.Tryz.f4, by kernel_rfl, by kernel_rfl, by kernel_rfl, by kernel_rfl, by kernel_rfl⟩, rfl, rfl⟩
noncomputable def law03_PepDoes_l1 (x20 : List Str) : (List Str × Int) → Option (Step (List Str × Int) (Unit)) := fun (x24, x25) => (if (decide (x25 < (List.length x20 : Int))) = true then Option.bind (ixl x24 x25) (fun x29 => some (Step.next ((List.set x24 (Int.toNat x25) [55, 55]), (w64 (x25 + 1))))) else some (Step.done ()))
noncomputable def law03_PepDoes (a0 : S_api_Pep) (a1 : S_api_Pep) : Option (Bool) := Option.bind (ref03_Public a0) (fun x1 => Option.bind (app 16 ([] : List Str) a0.Local) (fun x2 => Option.bind (pep_Fit (S_api_Pep.mk x1.Epoch x1.Release x1.Pre x1.PreNum x1.Post x1.PostNum x1.Dev x1.DevNum x2)) (fun x3 => Option.bind (ref03_Fit a0) (fun x4 => Option.bind (if (!(x3 == x4)) = true then some true else Option.bind (pep_Text (S_api_Pep.mk x1.Epoch x1.Release x1.Pre x1.PreNum x1.Post x1.PostNum x1.Dev x1.DevNum x2)) (fun x8 => Option.bind (ref03_Text a0) (fun x9 => some (!(x8 == x9)))) : Option (Bool)) (fun x7 => Option.bind (if x7 = true then some true else Option.bind (pep_Order (S_api_Pep.mk x1.Epoch x1.Release x1.Pre x1.PreNum x1.Post x1.PostNum x1.Dev x1.DevNum x2) a1) (fun x13 => Option.bind (ref03_Order a0 a1) (fun x14 => some (x13 != x14))) : Option (Bool)) (fun x12 => Option.bind (if x12 = true then some true else Option.bind (pep_Pre (S_api_Pep.mk x1.Epoch x1.Release x1.Pre x1.PreNum x1.Post x1.PostNum x1.Dev x1.DevNum x2)) (fun x18 => Option.bind (ref03_Pre a0) (fun x19 => some (!(x18 == x19)))) : Option (Bool)) (fun x17 => (if x17 = true then some false else Option.bind (pep_Public x1.Epoch x1.Release x1.Pre x1.PreNum x1.Post x1.PostNum x1.Dev x1.DevNum x2) (fun x20 => Option.bind (ref03_Public a0) (fun x21 => Option.bind (ref03_Same (S_api_Pep.mk x1.Epoch x20 x1.Pre x1.PreNum x1.Post x1.PostNum x1.Dev x1.DevNum []) x21) (fun x22 => (if (!x22) = true then some false else Option.bind (loopC (law03_PepDoes_l1 x20) (x20, 0)) (fun _ => Option.bind (ref03_Same (S_api_Pep.mk x1.Epoch x1.Release x1.Pre x1.PreNum x1.Post x1.PostNum x1.Dev x1.DevNum x2) a0) (fun x30 => Option.bind (if x30 = true then Option.bind (law03_awake) (fun x33 => some x33) else some false : Option (Bool)) (fun x32 => some x32)))))))))))))))
theorem law03_PepDoes_ok (a0 : S_api_Pep) (a1 : S_api_Pep) : Ct E 4 [.agg [bs a0.Epoch, .fsl 1 (List.map cS a0.Release), .s (.int .u8 a0.Pre), bs a0.PreNum, bv a0.Post, bs a0.PostNum, bv a0.Dev, bs a0.DevNum, .fsl 1 (List.map cS a0.Local)], .agg [bs a1.Epoch, .fsl 1 (List.map cS a1.Release), .s (.int .u8 a1.Pre), bs a1.PreNum, bv a1.Post, bs a1.PostNum, bv a1.Dev, bs a1.DevNum, .fsl 1 (List.map cS a1.Local)]] (law03_PepDoes a0 a1) (fun r : Bool => bv r) := ct_intro (N := 67) (L := law03_PepDoes_c) law03_PepDoes_k rfl (Nat.le_of_ble_eq_true rfl) (by kernel_rfl) (by
 unfold law03_PepDoes
 refine jS ⟨[V 2 (pt 0 9), V 3 (pt 1 9)], [W 0 9 [bs a0.Epoch, .fsl 1 (List.map cS a0.Release), .s (.int .u8 a0.Pre), bs a0.PreNum, bv a0.Post, bs a0.PostNum, bv a0.Dev, bs a0.DevNum, .fsl 1 (List.map cS a0.Local)], W 1 9 [bs a1.Epoch, .fsl 1 (List.map cS a1.Release), .s (.int .u8 a1.Pre), bs a1.PreNum, bv a1.Post, bs a1.PostNum, bv a1.Dev, bs a1.DevNum, .fsl 1 (List.map cS a1.Local)]], 2⟩ ?_
 refine jR ?_
 refine jG 0 1 ⟨[V 2 (pt 0 9), V 3 (pt 1 9), V 8 (.agg [bs a0.Epoch, .fsl 1 (List.map cS a0.Release), .s (.int .u8 a0.Pre), bs a0.PreNum, bv a0.Post, bs a0.PostNum, bv a0.Dev, bs a0.DevNum, .fsl 1 (List.map cS a0.Local)])], [W 0 9 [bs a0.Epoch, .fsl 1 (List.map cS a0.Release), .s (.int .u8 a0.Pre), bs a0.PreNum, bv a0.Post, bs a0.PostNum, bv a0.Dev, bs a0.DevNum, .fsl 1 (List.map cS a0.Local)], W 1 9 [bs a1.Epoch, .fsl 1 (List.map cS a1.Release), .s (.int .u8 a1.Pre), bs a1.PreNum, bv a1.Post, bs a1.PostNum, bv a1.Dev, bs a1.DevNum, .fsl 1 (List.map cS a1.Local)]], 2⟩ ?_
 refine jK 1 (ref03_Public_ok a0) ?_
 intro x1 h1
 refine jG 2 2 ⟨[V 2 (pt 0 9), V 3 (pt 1 9), V 5 (pt 2 9)], [W 0 9 [bs a0.Epoch, .fsl 1 (List.map cS a0.Release), .s (.int .u8 a0.Pre), bs a0.PreNum, bv a0.Post, bs a0.PostNum, bv a0.Dev, bs a0.DevNum, .fsl 1 (List.map cS a0.Local)], W 1 9 [bs a1.Epoch, .fsl 1 (List.map cS a1.Release), .s (.int .u8 a1.Pre), bs a1.PreNum, bv a1.Post, bs a1.PostNum, bv a1.Dev, bs a1.DevNum, .fsl 1 (List.map cS a1.Local)], W 2 9 [bs x1.Epoch, .fsl 1 (List.map cS x1.Release), .s (.int .u8 x1.Pre), bs x1.PreNum, bv x1.Post, bs x1.PostNum, bv x1.Dev, bs x1.DevNum, .fsl 1 (List.map cS x1.Local)]], 3⟩ ?_
 refine jN ?_
 refine jR ?_
 refine jG 0 3 ⟨[V 2 (pt 0 9), V 3 (pt 1 9), V 5 (pt 2 9), V 10 (.osl 3 0 (List.length ([] : List Str)) 1), V 12 (.fsl 1 (List.map cS a0.Local))], [W 0 9 [bs a0.Epoch, .fsl 1 (List.map cS a0.Release), .s (.int .u8 a0.Pre), bs a0.PreNum, bv a0.Post, bs a0.PostNum, bv a0.Dev, bs a0.DevNum, .fsl 1 (List.map cS a0.Local)], W 1 9 [bs a1.Epoch, .fsl 1 (List.map cS a1.Release), .s (.int .u8 a1.Pre), bs a1.PreNum, bv a1.Post, bs a1.PostNum, bv a1.Dev, bs a1.DevNum, .fsl 1 (List.map cS a1.Local)], W 2 9 [bs x1.Epoch, .fsl 1 (List.map cS x1.Release), .s (.int .u8 x1.Pre), bs x1.PreNum, bv x1.Post, bs x1.PostNum, bv x1.Dev, bs x1.DevNum, .fsl 1 (List.map cS x1.Local)], (3, .rows 1 (List.map cS ([] : List Str)))], 4⟩ ?_
 refine jr_two (i := 3) (C := a0.Local = []) (st1 := fun x2 => ⟨[V 2 (pt 0 9), V 3 (pt 1 9), V 5 (pt 2 9), V 13 (.osl 4 0 (List.length x2) 1)], [W 0 9 [bs a0.Epoch, .fsl 1 (List.map cS a0.Release), .s (.int .u8 a0.Pre), bs a0.PreNum, bv a0.Post, bs a0.PostNum, bv a0.Dev, bs a0.DevNum, .fsl 1 (List.map cS a0.Local)], W 1 9 [bs a1.Epoch, .fsl 1 (List.map cS a1.Release), .s (.int .u8 a1.Pre), bs a1.PreNum, bv a1.Post, bs a1.PostNum, bv a1.Dev, bs a1.DevNum, .fsl 1 (List.map cS a1.Local)], W 2 9 [bs x1.Epoch, .fsl 1 (List.map cS x1.Release), .s (.int .u8 x1.Pre), bs x1.PreNum, bv x1.Post, bs x1.PostNum, bv x1.Dev, bs x1.DevNum, .fsl 1 (List.map cS x1.Local)], (4, .rows 1 (List.map cS x2))], 5⟩) rfl rfl rfl rfl (fun q _ hc => aop_app (u := .osl 3 0 (List.length ([] : List Str)) 1) (w := .fsl 1 (List.map cS a0.Local)) (e := 9) (td := .slice 9) (by kernel_rfl) (by kernel_rfl) (by kernel_rfl) (by kernel_rfl) (.inl ⟨_, rfl⟩) (appendOf_own (c := cS) (sz := 1) (b := 16) (id := 3) (by kernel_rfl) (by kernel_rfl) rows_fsl q hc)) (fun q _ hc => aop_app (u := .osl 3 0 (List.length ([] : List Str)) 1) (w := .fsl 1 (List.map cS a0.Local)) (e := 9) (td := .slice 9) (by kernel_rfl) (by kernel_rfl) (by kernel_rfl) (by kernel_rfl) (.inl ⟨_, rfl⟩) (appendOf_same (c := cS) (sz := 1) (b := 16) (m := a0.Local) (by kernel_rfl) (.inr (.inr ⟨_, _, _, _, rfl⟩)) rows_fsl q)) (fun _ => rfl) (fun _ => rfl) (fun _ => wkR [(0, some 0), (1, some 1), (2, some 2), (4, some 4)] (fix_nil _) (pc (hC 0) (pc (hC 1) (pc (hC 2) (pc (hL 4 (noid_map ni_S _)) allp_nil))))) (fun q _ hc => by cases app_same q hc; exact wkR [(0, some 0), (1, some 1), (2, some 2), (4, some 3)] (fix_nil _) (pc (hC 0) (pc (hC 1) (pc (hC 2) (pc (hL 3 (noid_map ni_S _)) allp_nil))))) ?_
 intro x2 h2
 refine jG 4 2 ⟨[V 2 (pt 0 9), V 3 (pt 1 9), V 5 (pt 2 9)], [W 0 9 [bs a0.Epoch, .fsl 1 (List.map cS a0.Release), .s (.int .u8 a0.Pre), bs a0.PreNum, bv a0.Post, bs a0.PostNum, bv a0.Dev, bs a0.DevNum, .fsl 1 (List.map cS a0.Local)], W 1 9 [bs a1.Epoch, .fsl 1 (List.map cS a1.Release), .s (.int .u8 a1.Pre), bs a1.PreNum, bv a1.Post, bs a1.PostNum, bv a1.Dev, bs a1.DevNum, .fsl 1 (List.map cS a1.Local)], W 2 9 [bs x1.Epoch, .fsl 1 (List.map cS x1.Release), .s (.int .u8 x1.Pre), bs x1.PreNum, bv x1.Post, bs x1.PostNum, bv x1.Dev, bs x1.DevNum, .osl 4 0 (List.length x2) 1], (4, .rows 1 (List.map cS x2))], 5⟩ ?_
 refine jN ?_
 refine jc_seq ?_
 refine jR ?_
 refine jG 0 1 ⟨[V 2 (pt 0 9), V 3 (pt 1 9), V 5 (pt 2 9), V 15 (.agg [bs x1.Epoch, .fsl 1 (List.map cS x1.Release), .s (.int .u8 x1.Pre), bs x1.PreNum, bv x1.Post, bs x1.PostNum, bv x1.Dev, bs x1.DevNum, .osl 4 0 (List.length x2) 1])], [W 0 9 [bs a0.Epoch, .fsl 1 (List.map cS a0.Release), .s (.int .u8 a0.Pre), bs a0.PreNum, bv a0.Post, bs a0.PostNum, bv a0.Dev, bs a0.DevNum, .fsl 1 (List.map cS a0.Local)], W 1 9 [bs a1.Epoch, .fsl 1 (List.map cS a1.Release), .s (.int .u8 a1.Pre), bs a1.PreNum, bv a1.Post, bs a1.PostNum, bv a1.Dev, bs a1.DevNum, .fsl 1 (List.map cS a1.Local)], W 2 9 [bs x1.Epoch, .fsl 1 (List.map cS x1.Release), .s (.int .u8 x1.Pre), bs x1.PreNum, bv x1.Post, bs x1.PostNum, bv x1.Dev, bs x1.DevNum, .osl 4 0 (List.length x2) 1], (4, .rows 1 (List.map cS x2))], 5⟩ ?_
 refine jr_callF (i := 1) rfl rfl rfl rfl (vs := [.agg [bs x1.Epoch, .fsl 1 (List.map cS x1.Release), .s (.int .u8 x1.Pre), bs x1.PreNum, bv x1.Post, bs x1.PostNum, bv x1.Dev, bs x1.DevNum, .osl 4 0 (List.length x2) 1]]) (by kernel_rfl) (snapL_cons (snapc_agg (snapL_cons rfl (snapL_cons rfl (snapL_cons rfl (snapL_cons rfl (snapL_cons rfl (snapL_cons rfl (snapL_cons rfl (snapL_cons rfl (snapL_cons (snapc_own fz_S (by kernel_rfl)) (snapL_nil _))))))))))) (snapL_nil _)) (all2_cons (fle_agg (all2_cons (fle_refl _) (all2_cons (fle_refl _) (all2_cons (fle_refl _) (all2_cons (fle_refl _) (all2_cons (fle_refl _) (all2_cons (fle_refl _) (all2_cons (fle_refl _) (all2_cons (fle_refl _) (all2_cons (fle_refl _) all2_nil)))))))))) all2_nil) (pep_Fit_ok (S_api_Pep.mk x1.Epoch x1.Release x1.Pre x1.PreNum x1.Post x1.PostNum x1.Dev x1.DevNum x2)) (fun _ => rfl) (fun _ => rfl) ?_
 intro x3 h3
 refine jG 2 1 ⟨[V 2 (pt 0 9), V 3 (pt 1 9), V 5 (pt 2 9), V 16 (bv x3), V 17 (.agg [bs a0.Epoch, .fsl 1 (List.map cS a0.Release), .s (.int .u8 a0.Pre), bs a0.PreNum, bv a0.Post, bs a0.PostNum, bv a0.Dev, bs a0.DevNum, .fsl 1 (List.map cS a0.Local)])], [W 0 9 [bs a0.Epoch, .fsl 1 (List.map cS a0.Release), .s (.int .u8 a0.Pre), bs a0.PreNum, bv a0.Post, bs a0.PostNum, bv a0.Dev, bs a0.DevNum, .fsl 1 (List.map cS a0.Local)], W 1 9 [bs a1.Epoch, .fsl 1 (List.map cS a1.Release), .s (.int .u8 a1.Pre), bs a1.PreNum, bv a1.Post, bs a1.PostNum, bv a1.Dev, bs a1.DevNum, .fsl 1 (List.map cS a1.Local)], W 2 9 [bs x1.Epoch, .fsl 1 (List.map cS x1.Release), .s (.int .u8 x1.Pre), bs x1.PreNum, bv x1.Post, bs x1.PostNum, bv x1.Dev, bs x1.DevNum, .osl 4 0 (List.length x2) 1], (4, .rows 1 (List.map cS x2))], 5⟩ ?_
 refine jK 3 (ref03_Fit_ok a0) ?_
 intro x4 h4
 refine jG 4 2 ⟨[V 2 (pt 0 9), V 3 (pt 1 9), V 5 (pt 2 9), V 20 (bv (!(x3 == x4)))], [W 0 9 [bs a0.Epoch, .fsl 1 (List.map cS a0.Release), .s (.int .u8 a0.Pre), bs a0.PreNum, bv a0.Post, bs a0.PostNum, bv a0.Dev, bs a0.DevNum, .fsl 1 (List.map cS a0.Local)], W 1 9 [bs a1.Epoch, .fsl 1 (List.map cS a1.Release), .s (.int .u8 a1.Pre), bs a1.PreNum, bv a1.Post, bs a1.PostNum, bv a1.Dev, bs a1.DevNum, .fsl 1 (List.map cS a1.Local)], W 2 9 [bs x1.Epoch, .fsl 1 (List.map cS x1.Release), .s (.int .u8 x1.Pre), bs x1.PreNum, bv x1.Post, bs x1.PostNum, bv x1.Dev, bs x1.DevNum, .osl 4 0 (List.length x2) 1], (4, .rows 1 (List.map cS x2))], 5⟩ ?_
 refine jr_bind 6 6 (fun x7 => ⟨[V 2 (pt 0 9), V 3 (pt 1 9), V 5 (pt 2 9), V 26 (bv x7)], [W 0 9 [bs a0.Epoch, .fsl 1 (List.map cS a0.Release), .s (.int .u8 a0.Pre), bs a0.PreNum, bv a0.Post, bs a0.PostNum, bv a0.Dev, bs a0.DevNum, .fsl 1 (List.map cS a0.Local)], W 1 9 [bs a1.Epoch, .fsl 1 (List.map cS a1.Release), .s (.int .u8 a1.Pre), bs a1.PreNum, bv a1.Post, bs a1.PostNum, bv a1.Dev, bs a1.DevNum, .fsl 1 (List.map cS a1.Local)], W 2 9 [bs x1.Epoch, .fsl 1 (List.map cS x1.Release), .s (.int .u8 x1.Pre), bs x1.PreNum, bv x1.Post, bs x1.PostNum, bv x1.Dev, bs x1.DevNum, .osl 3 0 (List.length x2) 1], (3, .rows 1 (List.map cS x2))], 4⟩) ?_ ?_
 ·refine jSp 20 ?_ ?_
  ·refine jG 0 6 ⟨[V 2 (pt 0 9), V 3 (pt 1 9), V 5 (pt 2 9), V 26 (bv true)], [W 0 9 [bs a0.Epoch, .fsl 1 (List.map cS a0.Release), .s (.int .u8 a0.Pre), bs a0.PreNum, bv a0.Post, bs a0.PostNum, bv a0.Dev, bs a0.DevNum, .fsl 1 (List.map cS a0.Local)], W 1 9 [bs a1.Epoch, .fsl 1 (List.map cS a1.Release), .s (.int .u8 a1.Pre), bs a1.PreNum, bv a1.Post, bs a1.PostNum, bv a1.Dev, bs a1.DevNum, .fsl 1 (List.map cS a1.Local)], W 2 9 [bs x1.Epoch, .fsl 1 (List.map cS x1.Release), .s (.int .u8 x1.Pre), bs x1.PreNum, bv x1.Post, bs x1.PostNum, bv x1.Dev, bs x1.DevNum, .osl 4 0 (List.length x2) 1], (4, .rows 1 (List.map cS x2))], 5⟩ ?_
   refine jr_nil rfl ?_
   exact jx_mid rfl (wkR [(0, some 0), (1, some 1), (2, some 2), (3, some 4)] (fix_nil _) (pc (hC 0) (pc (hC 1) (pc (hC 2) (pc (hL 4 (noid_map ni_S _)) allp_nil)))))
  refine jG 0 1 ⟨[V 2 (pt 0 9), V 3 (pt 1 9), V 5 (pt 2 9), (20, .lit false), V 21 (.agg [bs x1.Epoch, .fsl 1 (List.map cS x1.Release), .s (.int .u8 x1.Pre), bs x1.PreNum, bv x1.Post, bs x1.PostNum, bv x1.Dev, bs x1.DevNum, .osl 4 0 (List.length x2) 1])], [W 0 9 [bs a0.Epoch, .fsl 1 (List.map cS a0.Release), .s (.int .u8 a0.Pre), bs a0.PreNum, bv a0.Post, bs a0.PostNum, bv a0.Dev, bs a0.DevNum, .fsl 1 (List.map cS a0.Local)], W 1 9 [bs a1.Epoch, .fsl 1 (List.map cS a1.Release), .s (.int .u8 a1.Pre), bs a1.PreNum, bv a1.Post, bs a1.PostNum, bv a1.Dev, bs a1.DevNum, .fsl 1 (List.map cS a1.Local)], W 2 9 [bs x1.Epoch, .fsl 1 (List.map cS x1.Release), .s (.int .u8 x1.Pre), bs x1.PreNum, bv x1.Post, bs x1.PostNum, bv x1.Dev, bs x1.DevNum, .osl 4 0 (List.length x2) 1], (4, .rows 1 (List.map cS x2))], 5⟩ ?_
  refine jr_callF (i := 1) rfl rfl rfl rfl (vs := [.agg [bs x1.Epoch, .fsl 1 (List.map cS x1.Release), .s (.int .u8 x1.Pre), bs x1.PreNum, bv x1.Post, bs x1.PostNum, bv x1.Dev, bs x1.DevNum, .osl 4 0 (List.length x2) 1]]) (by kernel_rfl) (snapL_cons (snapc_agg (snapL_cons rfl (snapL_cons rfl (snapL_cons rfl (snapL_cons rfl (snapL_cons rfl (snapL_cons rfl (snapL_cons rfl (snapL_cons rfl (snapL_cons (snapc_own fz_S (by kernel_rfl)) (snapL_nil _))))))))))) (snapL_nil _)) (all2_cons (fle_agg (all2_cons (fle_refl _) (all2_cons (fle_refl _) (all2_cons (fle_refl _) (all2_cons (fle_refl _) (all2_cons (fle_refl _) (all2_cons (fle_refl _) (all2_cons (fle_refl _) (all2_cons (fle_refl _) (all2_cons (fle_refl _) all2_nil)))))))))) all2_nil) (pep_Text_ok (S_api_Pep.mk x1.Epoch x1.Release x1.Pre x1.PreNum x1.Post x1.PostNum x1.Dev x1.DevNum x2)) (fun _ => rfl) (fun _ => rfl) ?_
  intro x8 h8
  refine jG 2 1 ⟨[V 2 (pt 0 9), V 3 (pt 1 9), V 5 (pt 2 9), (20, .lit false), V 22 (bs x8), V 23 (.agg [bs a0.Epoch, .fsl 1 (List.map cS a0.Release), .s (.int .u8 a0.Pre), bs a0.PreNum, bv a0.Post, bs a0.PostNum, bv a0.Dev, bs a0.DevNum, .fsl 1 (List.map cS a0.Local)])], [W 0 9 [bs a0.Epoch, .fsl 1 (List.map cS a0.Release), .s (.int .u8 a0.Pre), bs a0.PreNum, bv a0.Post, bs a0.PostNum, bv a0.Dev, bs a0.DevNum, .fsl 1 (List.map cS a0.Local)], W 1 9 [bs a1.Epoch, .fsl 1 (List.map cS a1.Release), .s (.int .u8 a1.Pre), bs a1.PreNum, bv a1.Post, bs a1.PostNum, bv a1.Dev, bs a1.DevNum, .fsl 1 (List.map cS a1.Local)], W 2 9 [bs x1.Epoch, .fsl 1 (List.map cS x1.Release), .s (.int .u8 x1.Pre), bs x1.PreNum, bv x1.Post, bs x1.PostNum, bv x1.Dev, bs x1.DevNum, .osl 4 0 (List.length x2) 1], (4, .rows 1 (List.map cS x2))], 5⟩ ?_
  refine jK 3 (ref03_Text_ok a0) ?_
  intro x9 h9
  refine jG 4 2 ⟨[V 2 (pt 0 9), V 3 (pt 1 9), V 5 (pt 2 9), V 26 (bv (!(x8 == x9)))], [W 0 9 [bs a0.Epoch, .fsl 1 (List.map cS a0.Release), .s (.int .u8 a0.Pre), bs a0.PreNum, bv a0.Post, bs a0.PostNum, bv a0.Dev, bs a0.DevNum, .fsl 1 (List.map cS a0.Local)], W 1 9 [bs a1.Epoch, .fsl 1 (List.map cS a1.Release), .s (.int .u8 a1.Pre), bs a1.PreNum, bv a1.Post, bs a1.PostNum, bv a1.Dev, bs a1.DevNum, .fsl 1 (List.map cS a1.Local)], W 2 9 [bs x1.Epoch, .fsl 1 (List.map cS x1.Release), .s (.int .u8 x1.Pre), bs x1.PreNum, bv x1.Post, bs x1.PostNum, bv x1.Dev, bs x1.DevNum, .osl 4 0 (List.length x2) 1], (4, .rows 1 (List.map cS x2))], 5⟩ ?_
  refine jr_nil rfl ?_
  exact jx_mid rfl (wkR [(0, some 0), (1, some 1), (2, some 2), (3, some 4)] (fix_nil _) (pc (hC 0) (pc (hC 1) (pc (hC 2) (pc (hL 4 (noid_map ni_S _)) allp_nil)))))
 intro x7
 refine jG 12 1 ⟨[V 2 (pt 0 9), V 3 (pt 1 9), V 5 (pt 2 9), V 27 (bv x7)], [W 0 9 [bs a0.Epoch, .fsl 1 (List.map cS a0.Release), .s (.int .u8 a0.Pre), bs a0.PreNum, bv a0.Post, bs a0.PostNum, bv a0.Dev, bs a0.DevNum, .fsl 1 (List.map cS a0.Local)], W 1 9 [bs a1.Epoch, .fsl 1 (List.map cS a1.Release), .s (.int .u8 a1.Pre), bs a1.PreNum, bv a1.Post, bs a1.PostNum, bv a1.Dev, bs a1.DevNum, .fsl 1 (List.map cS a1.Local)], W 2 9 [bs x1.Epoch, .fsl 1 (List.map cS x1.Release), .s (.int .u8 x1.Pre), bs x1.PreNum, bv x1.Post, bs x1.PostNum, bv x1.Dev, bs x1.DevNum, .osl 3 0 (List.length x2) 1], (3, .rows 1 (List.map cS x2))], 4⟩ ?_
 refine jr_bind 13 8 (fun x12 => ⟨[V 2 (pt 0 9), V 5 (pt 1 9), V 35 (bv x12)], [W 0 9 [bs a0.Epoch, .fsl 1 (List.map cS a0.Release), .s (.int .u8 a0.Pre), bs a0.PreNum, bv a0.Post, bs a0.PostNum, bv a0.Dev, bs a0.DevNum, .fsl 1 (List.map cS a0.Local)], W 1 9 [bs x1.Epoch, .fsl 1 (List.map cS x1.Release), .s (.int .u8 x1.Pre), bs x1.PreNum, bv x1.Post, bs x1.PostNum, bv x1.Dev, bs x1.DevNum, .osl 2 0 (List.length x2) 1], (2, .rows 1 (List.map cS x2))], 3⟩) ?_ ?_
 ·refine jSp 27 ?_ ?_
  ·refine jG 0 8 ⟨[V 2 (pt 0 9), V 5 (pt 2 9), V 35 (bv true)], [W 0 9 [bs a0.Epoch, .fsl 1 (List.map cS a0.Release), .s (.int .u8 a0.Pre), bs a0.PreNum, bv a0.Post, bs a0.PostNum, bv a0.Dev, bs a0.DevNum, .fsl 1 (List.map cS a0.Local)], W 2 9 [bs x1.Epoch, .fsl 1 (List.map cS x1.Release), .s (.int .u8 x1.Pre), bs x1.PreNum, bv x1.Post, bs x1.PostNum, bv x1.Dev, bs x1.DevNum, .osl 3 0 (List.length x2) 1], (3, .rows 1 (List.map cS x2))], 4⟩ ?_
   refine jr_nil rfl ?_
   exact jx_mid rfl (wkR [(0, some 0), (1, some 2), (2, some 3)] (fix_nil _) (pc (hC 0) (pc (hC 2) (pc (hL 3 (noid_map ni_S _)) allp_nil))))
  refine jG 0 2 ⟨[V 2 (pt 0 9), V 3 (pt 1 9), V 5 (pt 2 9), (27, .lit false), V 28 (.agg [bs x1.Epoch, .fsl 1 (List.map cS x1.Release), .s (.int .u8 x1.Pre), bs x1.PreNum, bv x1.Post, bs x1.PostNum, bv x1.Dev, bs x1.DevNum, .osl 3 0 (List.length x2) 1]), V 29 (.agg [bs a1.Epoch, .fsl 1 (List.map cS a1.Release), .s (.int .u8 a1.Pre), bs a1.PreNum, bv a1.Post, bs a1.PostNum, bv a1.Dev, bs a1.DevNum, .fsl 1 (List.map cS a1.Local)])], [W 0 9 [bs a0.Epoch, .fsl 1 (List.map cS a0.Release), .s (.int .u8 a0.Pre), bs a0.PreNum, bv a0.Post, bs a0.PostNum, bv a0.Dev, bs a0.DevNum, .fsl 1 (List.map cS a0.Local)], W 1 9 [bs a1.Epoch, .fsl 1 (List.map cS a1.Release), .s (.int .u8 a1.Pre), bs a1.PreNum, bv a1.Post, bs a1.PostNum, bv a1.Dev, bs a1.DevNum, .fsl 1 (List.map cS a1.Local)], W 2 9 [bs x1.Epoch, .fsl 1 (List.map cS x1.Release), .s (.int .u8 x1.Pre), bs x1.PreNum, bv x1.Post, bs x1.PostNum, bv x1.Dev, bs x1.DevNum, .osl 3 0 (List.length x2) 1], (3, .rows 1 (List.map cS x2))], 4⟩ ?_
  refine jr_callF (i := 2) rfl rfl rfl rfl (vs := [.agg [bs x1.Epoch, .fsl 1 (List.map cS x1.Release), .s (.int .u8 x1.Pre), bs x1.PreNum, bv x1.Post, bs x1.PostNum, bv x1.Dev, bs x1.DevNum, .osl 3 0 (List.length x2) 1], .agg [bs a1.Epoch, .fsl 1 (List.map cS a1.Release), .s (.int .u8 a1.Pre), bs a1.PreNum, bv a1.Post, bs a1.PostNum, bv a1.Dev, bs a1.DevNum, .fsl 1 (List.map cS a1.Local)]]) (by kernel_rfl) (snapL_cons (snapc_agg (snapL_cons rfl (snapL_cons rfl (snapL_cons rfl (snapL_cons rfl (snapL_cons rfl (snapL_cons rfl (snapL_cons rfl (snapL_cons rfl (snapL_cons (snapc_own fz_S (by kernel_rfl)) (snapL_nil _))))))))))) (snapL_cons rfl (snapL_nil _))) (all2_cons (fle_agg (all2_cons (fle_refl _) (all2_cons (fle_refl _) (all2_cons (fle_refl _) (all2_cons (fle_refl _) (all2_cons (fle_refl _) (all2_cons (fle_refl _) (all2_cons (fle_refl _) (all2_cons (fle_refl _) (all2_cons (fle_refl _) all2_nil)))))))))) (all2_cons (fle_refl _) all2_nil)) (pep_Order_ok (S_api_Pep.mk x1.Epoch x1.Release x1.Pre x1.PreNum x1.Post x1.PostNum x1.Dev x1.DevNum x2) a1) (fun _ => rfl) (fun _ => rfl) ?_
  intro x13 h13
  refine jG 3 2 ⟨[V 2 (pt 0 9), V 5 (pt 2 9), (27, .lit false), V 30 (iv x13), V 31 (.agg [bs a0.Epoch, .fsl 1 (List.map cS a0.Release), .s (.int .u8 a0.Pre), bs a0.PreNum, bv a0.Post, bs a0.PostNum, bv a0.Dev, bs a0.DevNum, .fsl 1 (List.map cS a0.Local)]), V 32 (.agg [bs a1.Epoch, .fsl 1 (List.map cS a1.Release), .s (.int .u8 a1.Pre), bs a1.PreNum, bv a1.Post, bs a1.PostNum, bv a1.Dev, bs a1.DevNum, .fsl 1 (List.map cS a1.Local)])], [W 0 9 [bs a0.Epoch, .fsl 1 (List.map cS a0.Release), .s (.int .u8 a0.Pre), bs a0.PreNum, bv a0.Post, bs a0.PostNum, bv a0.Dev, bs a0.DevNum, .fsl 1 (List.map cS a0.Local)], W 2 9 [bs x1.Epoch, .fsl 1 (List.map cS x1.Release), .s (.int .u8 x1.Pre), bs x1.PreNum, bv x1.Post, bs x1.PostNum, bv x1.Dev, bs x1.DevNum, .osl 3 0 (List.length x2) 1], (3, .rows 1 (List.map cS x2))], 4⟩ ?_
  refine jK 5 (ref03_Order_ok a0 a1) ?_
  intro x14 h14
  refine jG 6 2 ⟨[V 2 (pt 0 9), V 5 (pt 2 9), V 35 (bv (x13 != x14))], [W 0 9 [bs a0.Epoch, .fsl 1 (List.map cS a0.Release), .s (.int .u8 a0.Pre), bs a0.PreNum, bv a0.Post, bs a0.PostNum, bv a0.Dev, bs a0.DevNum, .fsl 1 (List.map cS a0.Local)], W 2 9 [bs x1.Epoch, .fsl 1 (List.map cS x1.Release), .s (.int .u8 x1.Pre), bs x1.PreNum, bv x1.Post, bs x1.PostNum, bv x1.Dev, bs x1.DevNum, .osl 3 0 (List.length x2) 1], (3, .rows 1 (List.map cS x2))], 4⟩ ?_
  refine jr_nil rfl ?_
  exact jx_mid rfl (wkR [(0, some 0), (1, some 2), (2, some 3)] (fix_nil _) (pc (hC 0) (pc (hC 2) (pc (hL 3 (noid_map ni_S _)) allp_nil))))
 intro x12
 refine jG 21 1 ⟨[V 2 (pt 0 9), V 5 (pt 1 9), V 36 (bv x12)], [W 0 9 [bs a0.Epoch, .fsl 1 (List.map cS a0.Release), .s (.int .u8 a0.Pre), bs a0.PreNum, bv a0.Post, bs a0.PostNum, bv a0.Dev, bs a0.DevNum, .fsl 1 (List.map cS a0.Local)], W 1 9 [bs x1.Epoch, .fsl 1 (List.map cS x1.Release), .s (.int .u8 x1.Pre), bs x1.PreNum, bv x1.Post, bs x1.PostNum, bv x1.Dev, bs x1.DevNum, .osl 2 0 (List.length x2) 1], (2, .rows 1 (List.map cS x2))], 3⟩ ?_
 refine jr_bind 22 6 (fun x17 => ⟨[V 2 (pt 0 9), V 5 (pt 1 9), V 42 (bv x17)], [W 0 9 [bs a0.Epoch, .fsl 1 (List.map cS a0.Release), .s (.int .u8 a0.Pre), bs a0.PreNum, bv a0.Post, bs a0.PostNum, bv a0.Dev, bs a0.DevNum, .fsl 1 (List.map cS a0.Local)], W 1 9 [bs x1.Epoch, .fsl 1 (List.map cS x1.Release), .s (.int .u8 x1.Pre), bs x1.PreNum, bv x1.Post, bs x1.PostNum, bv x1.Dev, bs x1.DevNum, .osl 2 0 (List.length x2) 1], (2, .rows 1 (List.map cS x2))], 3⟩) ?_ ?_
 ·refine jSp 36 ?_ ?_
  ·refine jG 0 6 ⟨[V 2 (pt 0 9), V 5 (pt 1 9), V 42 (bv true)], [W 0 9 [bs a0.Epoch, .fsl 1 (List.map cS a0.Release), .s (.int .u8 a0.Pre), bs a0.PreNum, bv a0.Post, bs a0.PostNum, bv a0.Dev, bs a0.DevNum, .fsl 1 (List.map cS a0.Local)], W 1 9 [bs x1.Epoch, .fsl 1 (List.map cS x1.Release), .s (.int .u8 x1.Pre), bs x1.PreNum, bv x1.Post, bs x1.PostNum, bv x1.Dev, bs x1.DevNum, .osl 2 0 (List.length x2) 1], (2, .rows 1 (List.map cS x2))], 3⟩ ?_
   refine jr_nil rfl ?_
   exact jx_mid rfl (wkR [(0, some 0), (1, some 1), (2, some 2)] (fix_nil _) (pc (hC 0) (pc (hC 1) (pc (hL 2 (noid_map ni_S _)) allp_nil))))
  refine jG 0 1 ⟨[V 2 (pt 0 9), V 5 (pt 1 9), (36, .lit false), V 37 (.agg [bs x1.Epoch, .fsl 1 (List.map cS x1.Release), .s (.int .u8 x1.Pre), bs x1.PreNum, bv x1.Post, bs x1.PostNum, bv x1.Dev, bs x1.DevNum, .osl 2 0 (List.length x2) 1])], [W 0 9 [bs a0.Epoch, .fsl 1 (List.map cS a0.Release), .s (.int .u8 a0.Pre), bs a0.PreNum, bv a0.Post, bs a0.PostNum, bv a0.Dev, bs a0.DevNum, .fsl 1 (List.map cS a0.Local)], W 1 9 [bs x1.Epoch, .fsl 1 (List.map cS x1.Release), .s (.int .u8 x1.Pre), bs x1.PreNum, bv x1.Post, bs x1.PostNum, bv x1.Dev, bs x1.DevNum, .osl 2 0 (List.length x2) 1], (2, .rows 1 (List.map cS x2))], 3⟩ ?_
  refine jr_callF (i := 1) rfl rfl rfl rfl (vs := [.agg [bs x1.Epoch, .fsl 1 (List.map cS x1.Release), .s (.int .u8 x1.Pre), bs x1.PreNum, bv x1.Post, bs x1.PostNum, bv x1.Dev, bs x1.DevNum, .osl 2 0 (List.length x2) 1]]) (by kernel_rfl) (snapL_cons (snapc_agg (snapL_cons rfl (snapL_cons rfl (snapL_cons rfl (snapL_cons rfl (snapL_cons rfl (snapL_cons rfl (snapL_cons rfl (snapL_cons rfl (snapL_cons (snapc_own fz_S (by kernel_rfl)) (snapL_nil _))))))))))) (snapL_nil _)) (all2_cons (fle_agg (all2_cons (fle_refl _) (all2_cons (fle_refl _) (all2_cons (fle_refl _) (all2_cons (fle_refl _) (all2_cons (fle_refl _) (all2_cons (fle_refl _) (all2_cons (fle_refl _) (all2_cons (fle_refl _) (all2_cons (fle_refl _) all2_nil)))))))))) all2_nil) (pep_Pre_ok (S_api_Pep.mk x1.Epoch x1.Release x1.Pre x1.PreNum x1.Post x1.PostNum x1.Dev x1.DevNum x2)) (fun _ => rfl) (fun _ => rfl) ?_
  intro x18 h18
  refine jG 2 1 ⟨[V 2 (pt 0 9), V 5 (pt 1 9), (36, .lit false), V 38 (bv x18), V 39 (.agg [bs a0.Epoch, .fsl 1 (List.map cS a0.Release), .s (.int .u8 a0.Pre), bs a0.PreNum, bv a0.Post, bs a0.PostNum, bv a0.Dev, bs a0.DevNum, .fsl 1 (List.map cS a0.Local)])], [W 0 9 [bs a0.Epoch, .fsl 1 (List.map cS a0.Release), .s (.int .u8 a0.Pre), bs a0.PreNum, bv a0.Post, bs a0.PostNum, bv a0.Dev, bs a0.DevNum, .fsl 1 (List.map cS a0.Local)], W 1 9 [bs x1.Epoch, .fsl 1 (List.map cS x1.Release), .s (.int .u8 x1.Pre), bs x1.PreNum, bv x1.Post, bs x1.PostNum, bv x1.Dev, bs x1.DevNum, .osl 2 0 (List.length x2) 1], (2, .rows 1 (List.map cS x2))], 3⟩ ?_
  refine jK 3 (ref03_Pre_ok a0) ?_
  intro x19 h19
  refine jG 4 2 ⟨[V 2 (pt 0 9), V 5 (pt 1 9), V 42 (bv (!(x18 == x19)))], [W 0 9 [bs a0.Epoch, .fsl 1 (List.map cS a0.Release), .s (.int .u8 a0.Pre), bs a0.PreNum, bv a0.Post, bs a0.PostNum, bv a0.Dev, bs a0.DevNum, .fsl 1 (List.map cS a0.Local)], W 1 9 [bs x1.Epoch, .fsl 1 (List.map cS x1.Release), .s (.int .u8 x1.Pre), bs x1.PreNum, bv x1.Post, bs x1.PostNum, bv x1.Dev, bs x1.DevNum, .osl 2 0 (List.length x2) 1], (2, .rows 1 (List.map cS x2))], 3⟩ ?_
  refine jr_nil rfl ?_
  exact jx_mid rfl (wkR [(0, some 0), (1, some 1), (2, some 2)] (fix_nil _) (pc (hC 0) (pc (hC 1) (pc (hL 2 (noid_map ni_S _)) allp_nil))))
 intro x17
 refine jN ?_
 refine jIf ?_ ?_
 ·refine jS ⟨[V 4 (bv false)], [], 3⟩ ?_
  refine jc_ret ?_
  refine jx_seqR ?_
  exact jx_retF (.inr rfl) (v := bv false) (by kernel_rfl) rfl (fle_refl _)
 refine jc_skip ?_
 refine jx_seqN ?_
 refine jR ?_
 refine jG 0 1 ⟨[V 2 (pt 0 9), V 5 (pt 1 9), V 43 (.agg [bs x1.Epoch, .fsl 1 (List.map cS x1.Release), .s (.int .u8 x1.Pre), bs x1.PreNum, bv x1.Post, bs x1.PostNum, bv x1.Dev, bs x1.DevNum, .osl 2 0 (List.length x2) 1])], [W 0 9 [bs a0.Epoch, .fsl 1 (List.map cS a0.Release), .s (.int .u8 a0.Pre), bs a0.PreNum, bv a0.Post, bs a0.PostNum, bv a0.Dev, bs a0.DevNum, .fsl 1 (List.map cS a0.Local)], W 1 9 [bs x1.Epoch, .fsl 1 (List.map cS x1.Release), .s (.int .u8 x1.Pre), bs x1.PreNum, bv x1.Post, bs x1.PostNum, bv x1.Dev, bs x1.DevNum, .osl 2 0 (List.length x2) 1], (2, .rows 1 (List.map cS x2))], 3⟩ ?_
 refine jr_callM 1 [(0, some 2)] [(2, some 0), (4, some 2)] (fun r : List Str => [W 0 9 [bs a0.Epoch, .fsl 1 (List.map cS a0.Release), .s (.int .u8 a0.Pre), bs a0.PreNum, bv a0.Post, bs a0.PostNum, bv a0.Dev, bs a0.DevNum, .fsl 1 (List.map cS a0.Local)], W 1 9 [bs x1.Epoch, .fsl 1 (List.map cS x1.Release), .s (.int .u8 x1.Pre), bs x1.PreNum, bv x1.Post, bs x1.PostNum, bv x1.Dev, bs x1.DevNum, .osl 2 0 (List.length x2) 1], (2, .rows 1 (List.map cS x2)), (4, .rows 1 (List.map cS r))]) (fun r : List Str => .agg [bs x1.Epoch, .osl 4 0 (List.length r) 1, .s (.int .u8 x1.Pre), bs x1.PreNum, bv x1.Post, bs x1.PostNum, bv x1.Dev, bs x1.DevNum, nilS]) 5 (pep_Public_ok x1.Epoch x1.Release x1.Pre x1.PreNum x1.Post x1.PostNum x1.Dev x1.DevNum x2) (pc (hL 2 (noid_map ni_S _)) allp_nil) (fun r => (pc (.inl ⟨rfl, rfl⟩) (pc (.inl ⟨rfl, rfl⟩) (pc (.inr (hL 0 (noid_map ni_S _))) (pc (.inr (hL 2 (noid_map ni_S _))) allp_nil))))) ?_
 rintro x20 hm1
 refine jG 2 2 ⟨[V 2 (pt 0 9), V 5 (pt 1 9), V 6 (pt 5 9)], [W 0 9 [bs a0.Epoch, .fsl 1 (List.map cS a0.Release), .s (.int .u8 a0.Pre), bs a0.PreNum, bv a0.Post, bs a0.PostNum, bv a0.Dev, bs a0.DevNum, .fsl 1 (List.map cS a0.Local)], W 1 9 [bs x1.Epoch, .fsl 1 (List.map cS x1.Release), .s (.int .u8 x1.Pre), bs x1.PreNum, bv x1.Post, bs x1.PostNum, bv x1.Dev, bs x1.DevNum, .osl 2 0 (List.length x2) 1], (2, .rows 1 (List.map cS x2)), (4, .rows 1 (List.map cS x20)), W 5 9 [bs x1.Epoch, .osl 4 0 (List.length x20) 1, .s (.int .u8 x1.Pre), bs x1.PreNum, bv x1.Post, bs x1.PostNum, bv x1.Dev, bs x1.DevNum, nilS]], 6⟩ ?_
 refine jN ?_
 refine jc_seq ?_
 refine jR ?_
 refine jG 0 2 ⟨[V 2 (pt 0 9), V 5 (pt 1 9), V 6 (pt 5 9), V 45 (.agg [bs x1.Epoch, .osl 4 0 (List.length x20) 1, .s (.int .u8 x1.Pre), bs x1.PreNum, bv x1.Post, bs x1.PostNum, bv x1.Dev, bs x1.DevNum, nilS]), V 46 (.agg [bs a0.Epoch, .fsl 1 (List.map cS a0.Release), .s (.int .u8 a0.Pre), bs a0.PreNum, bv a0.Post, bs a0.PostNum, bv a0.Dev, bs a0.DevNum, .fsl 1 (List.map cS a0.Local)])], [W 0 9 [bs a0.Epoch, .fsl 1 (List.map cS a0.Release), .s (.int .u8 a0.Pre), bs a0.PreNum, bv a0.Post, bs a0.PostNum, bv a0.Dev, bs a0.DevNum, .fsl 1 (List.map cS a0.Local)], W 1 9 [bs x1.Epoch, .fsl 1 (List.map cS x1.Release), .s (.int .u8 x1.Pre), bs x1.PreNum, bv x1.Post, bs x1.PostNum, bv x1.Dev, bs x1.DevNum, .osl 2 0 (List.length x2) 1], (2, .rows 1 (List.map cS x2)), (4, .rows 1 (List.map cS x20)), W 5 9 [bs x1.Epoch, .osl 4 0 (List.length x20) 1, .s (.int .u8 x1.Pre), bs x1.PreNum, bv x1.Post, bs x1.PostNum, bv x1.Dev, bs x1.DevNum, nilS]], 6⟩ ?_
 refine jK 2 (ref03_Public_ok a0) ?_
 intro x21 h21
 refine jr_callF (i := 3) rfl rfl rfl rfl (vs := [.agg [bs x1.Epoch, .osl 4 0 (List.length x20) 1, .s (.int .u8 x1.Pre), bs x1.PreNum, bv x1.Post, bs x1.PostNum, bv x1.Dev, bs x1.DevNum, nilS], .agg [bs x21.Epoch, .fsl 1 (List.map cS x21.Release), .s (.int .u8 x21.Pre), bs x21.PreNum, bv x21.Post, bs x21.PostNum, bv x21.Dev, bs x21.DevNum, .fsl 1 (List.map cS x21.Local)]]) (by kernel_rfl) (snapL_cons (snapc_agg (snapL_cons rfl (snapL_cons (snapc_own fz_S (by kernel_rfl)) (snapL_cons rfl (snapL_cons rfl (snapL_cons rfl (snapL_cons rfl (snapL_cons rfl (snapL_cons rfl (snapL_cons rfl (snapL_nil _))))))))))) (snapL_cons rfl (snapL_nil _))) (all2_cons (fle_agg (all2_cons (fle_refl _) (all2_cons (fle_refl _) (all2_cons (fle_refl _) (all2_cons (fle_refl _) (all2_cons (fle_refl _) (all2_cons (fle_refl _) (all2_cons (fle_refl _) (all2_cons (fle_refl _) (all2_cons (fle_nil _) all2_nil)))))))))) (all2_cons (fle_refl _) all2_nil)) (ref03_Same_ok (S_api_Pep.mk x1.Epoch x20 x1.Pre x1.PreNum x1.Post x1.PostNum x1.Dev x1.DevNum []) x21) (fun _ => rfl) (fun _ => rfl) ?_
 intro x22 h22
 refine jG 4 1 ⟨[V 2 (pt 0 9), V 5 (pt 1 9), V 6 (pt 5 9), V 49 (bv (!x22))], [W 0 9 [bs a0.Epoch, .fsl 1 (List.map cS a0.Release), .s (.int .u8 a0.Pre), bs a0.PreNum, bv a0.Post, bs a0.PostNum, bv a0.Dev, bs a0.DevNum, .fsl 1 (List.map cS a0.Local)], W 1 9 [bs x1.Epoch, .fsl 1 (List.map cS x1.Release), .s (.int .u8 x1.Pre), bs x1.PreNum, bv x1.Post, bs x1.PostNum, bv x1.Dev, bs x1.DevNum, .osl 2 0 (List.length x2) 1], (2, .rows 1 (List.map cS x2)), (4, .rows 1 (List.map cS x20)), W 5 9 [bs x1.Epoch, .osl 4 0 (List.length x20) 1, .s (.int .u8 x1.Pre), bs x1.PreNum, bv x1.Post, bs x1.PostNum, bv x1.Dev, bs x1.DevNum, nilS]], 6⟩ ?_
 refine jN ?_
 refine jIf ?_ ?_
 ·refine jS ⟨[V 4 (bv false)], [], 6⟩ ?_
  refine jc_ret ?_
  refine jx_seqR ?_
  exact jx_retF (.inr rfl) (v := bv false) (by kernel_rfl) rfl (fle_refl _)
 refine jc_skip ?_
 refine jx_seqN ?_
 refine jc_seq ?_
 refine jS ⟨[V 2 (pt 0 9), V 5 (pt 1 9), V 6 (pt 5 9), V 52 (iv (List.length x20 : Int)), V 53 (iv 0)], [W 0 9 [bs a0.Epoch, .fsl 1 (List.map cS a0.Release), .s (.int .u8 a0.Pre), bs a0.PreNum, bv a0.Post, bs a0.PostNum, bv a0.Dev, bs a0.DevNum, .fsl 1 (List.map cS a0.Local)], W 1 9 [bs x1.Epoch, .fsl 1 (List.map cS x1.Release), .s (.int .u8 x1.Pre), bs x1.PreNum, bv x1.Post, bs x1.PostNum, bv x1.Dev, bs x1.DevNum, .osl 2 0 (List.length x2) 1], (2, .rows 1 (List.map cS x2)), (4, .rows 1 (List.map cS x20)), W 5 9 [bs x1.Epoch, .osl 4 0 (List.length x20) 1, .s (.int .u8 x1.Pre), bs x1.PreNum, bv x1.Post, bs x1.PostNum, bv x1.Dev, bs x1.DevNum, nilS]], 6⟩ ?_
 refine jc_block ?_
 refine jc_bind (fun _ => ⟨[V 2 (pt 0 9), V 5 (pt 1 9)], [W 0 9 [bs a0.Epoch, .fsl 1 (List.map cS a0.Release), .s (.int .u8 a0.Pre), bs a0.PreNum, bv a0.Post, bs a0.PostNum, bv a0.Dev, bs a0.DevNum, .fsl 1 (List.map cS a0.Local)], W 1 9 [bs x1.Epoch, .fsl 1 (List.map cS x1.Release), .s (.int .u8 x1.Pre), bs x1.PreNum, bv x1.Post, bs x1.PostNum, bv x1.Dev, bs x1.DevNum, .osl 2 0 (List.length x2) 1], (2, .rows 1 (List.map cS x2))], 3⟩) (fun _ => (.exit 0)) (jc_loop (fun (x24, x25) => ⟨[V 2 (pt 0 9), V 5 (pt 1 9), V 6 (pt 3 9), V 52 (iv (List.length x20 : Int)), V 53 (iv x25)], [W 0 9 [bs a0.Epoch, .fsl 1 (List.map cS a0.Release), .s (.int .u8 a0.Pre), bs a0.PreNum, bv a0.Post, bs a0.PostNum, bv a0.Dev, bs a0.DevNum, .fsl 1 (List.map cS a0.Local)], W 1 9 [bs x1.Epoch, .fsl 1 (List.map cS x1.Release), .s (.int .u8 x1.Pre), bs x1.PreNum, bv x1.Post, bs x1.PostNum, bv x1.Dev, bs x1.DevNum, .osl 2 0 (List.length x2) 1], (2, .rows 1 (List.map cS x2)), W 3 9 [bs x1.Epoch, .osl 4 0 (List.length x24) 1, .s (.int .u8 x1.Pre), bs x1.PreNum, bv x1.Post, bs x1.PostNum, bv x1.Dev, bs x1.DevNum, nilS], (4, .rows 1 (List.map cS x24))], 5⟩) (wkR [(0, some 0), (1, some 1), (2, some 2), (3, some 5), (4, some 4)] (fix_nil _) (pc (hC 0) (pc (hC 1) (pc (hL 2 (noid_map ni_S _)) (pc (hC 5) (pc (hL 4 (noid_map ni_S _)) allp_nil)))))) ?_) ?_
 ·rintro ⟨x24, x25⟩
  unfold law03_PepDoes_l1
  refine jS ⟨[V 2 (pt 0 9), V 5 (pt 1 9), V 6 (pt 3 9), V 52 (iv (List.length x20 : Int)), V 53 (iv x25), V 54 (bv (decide (x25 < (List.length x20 : Int))))], [W 0 9 [bs a0.Epoch, .fsl 1 (List.map cS a0.Release), .s (.int .u8 a0.Pre), bs a0.PreNum, bv a0.Post, bs a0.PostNum, bv a0.Dev, bs a0.DevNum, .fsl 1 (List.map cS a0.Local)], W 1 9 [bs x1.Epoch, .fsl 1 (List.map cS x1.Release), .s (.int .u8 x1.Pre), bs x1.PreNum, bv x1.Post, bs x1.PostNum, bv x1.Dev, bs x1.DevNum, .osl 2 0 (List.length x2) 1], (2, .rows 1 (List.map cS x2)), W 3 9 [bs x1.Epoch, .osl 4 0 (List.length x24) 1, .s (.int .u8 x1.Pre), bs x1.PreNum, bv x1.Post, bs x1.PostNum, bv x1.Dev, bs x1.DevNum, nilS], (4, .rows 1 (List.map cS x24))], 5⟩ ?_
  refine jc_seq ?_
  refine jIf ?_ ?_
  ·refine jc_skip ?_
   refine jx_seqN ?_
   refine jc_seq ?_
   refine jc_block ?_
   refine jS ⟨[V 2 (pt 0 9), V 5 (pt 1 9), V 6 (pt 3 9), V 7 (iv x25), V 52 (iv (List.length x20 : Int)), V 53 (iv x25)], [W 0 9 [bs a0.Epoch, .fsl 1 (List.map cS a0.Release), .s (.int .u8 a0.Pre), bs a0.PreNum, bv a0.Post, bs a0.PostNum, bv a0.Dev, bs a0.DevNum, .fsl 1 (List.map cS a0.Local)], W 1 9 [bs x1.Epoch, .fsl 1 (List.map cS x1.Release), .s (.int .u8 x1.Pre), bs x1.PreNum, bv x1.Post, bs x1.PostNum, bv x1.Dev, bs x1.DevNum, .osl 2 0 (List.length x2) 1], (2, .rows 1 (List.map cS x2)), W 3 9 [bs x1.Epoch, .osl 4 0 (List.length x24) 1, .s (.int .u8 x1.Pre), bs x1.PreNum, bv x1.Post, bs x1.PostNum, bv x1.Dev, bs x1.DevNum, nilS], (4, .rows 1 (List.map cS x24))], 5⟩ ?_
   refine jc_reg ?_
   refine jG 0 3 ⟨[V 2 (pt 0 9), V 5 (pt 1 9), V 6 (pt 3 9), V 52 (iv (List.length x20 : Int)), V 53 (iv x25), V 57 (.osl 4 0 (List.length x24) 1), V 58 (iv x25)], [W 0 9 [bs a0.Epoch, .fsl 1 (List.map cS a0.Release), .s (.int .u8 a0.Pre), bs a0.PreNum, bv a0.Post, bs a0.PostNum, bv a0.Dev, bs a0.DevNum, .fsl 1 (List.map cS a0.Local)], W 1 9 [bs x1.Epoch, .fsl 1 (List.map cS x1.Release), .s (.int .u8 x1.Pre), bs x1.PreNum, bv x1.Post, bs x1.PostNum, bv x1.Dev, bs x1.DevNum, .osl 2 0 (List.length x2) 1], (2, .rows 1 (List.map cS x2)), W 3 9 [bs x1.Epoch, .osl 4 0 (List.length x24) 1, .s (.int .u8 x1.Pre), bs x1.PreNum, bv x1.Post, bs x1.PostNum, bv x1.Dev, bs x1.DevNum, nilS], (4, .rows 1 (List.map cS x24))], 5⟩ ?_
   refine jr_part (i := 3) (mo := ixl x24 x25) rfl rfl rfl rfl (fun _ hc => aop_ixo0 (sz := 1) (e := 9) (kk := .i64) (id := 4) (by kernel_rfl) (by kernel_rfl) (by kernel_rfl) (by kernel_rfl) hc) (fun _ => rfl) ?_
   intro x29 h29
   refine jr_sto (i := 4) [2, 5, 6, 52, 53] [0, 1, 2, 3, 4] (st1 := ⟨[V 2 (pt 0 9), V 5 (pt 1 9), V 6 (pt 3 9), V 52 (iv (List.length x20 : Int)), V 53 (iv x25)], [W 0 9 [bs a0.Epoch, .fsl 1 (List.map cS a0.Release), .s (.int .u8 a0.Pre), bs a0.PreNum, bv a0.Post, bs a0.PostNum, bv a0.Dev, bs a0.DevNum, .fsl 1 (List.map cS a0.Local)], W 1 9 [bs x1.Epoch, .fsl 1 (List.map cS x1.Release), .s (.int .u8 x1.Pre), bs x1.PreNum, bv x1.Post, bs x1.PostNum, bv x1.Dev, bs x1.DevNum, .osl 2 0 (List.length x2) 1], (2, .rows 1 (List.map cS x2)), W 3 9 [bs x1.Epoch, .osl 4 0 (List.length (List.set x24 (Int.toNat x25) [55, 55])) 1, .s (.int .u8 x1.Pre), bs x1.PreNum, bv x1.Post, bs x1.PostNum, bv x1.Dev, bs x1.DevNum, nilS], (4, .rows 1 (List.map cS (List.set x24 (Int.toNat x25) [55, 55])))], 5⟩) rfl rfl rfl rfl (aop_sto (l := x24) (c := cS) (id := 4) (k := (Int.toNat x25)) (sz := 1) (off := 0) (a := x29) (a' := [55, 55]) (w := bs [55, 55]) (cs := [bs [55, 55]]) (by kernel_rfl) (by kernel_rfl) (by kernel_rfl) (by kernel_rfl) (by kernel_rfl) (ixl_lt h29).2.2 (Nat.le_of_ble_eq_true rfl) (by kernel_rfl)) (by simp only [List.length_set]; kernel_rfl) ?_
   refine jr_nil rfl ?_
   refine jx_blkN ?_
   refine jx_seqN ?_
   refine jT ⟨[V 2 (pt 0 9), V 5 (pt 1 9), V 6 (pt 3 9), V 52 (iv (List.length x20 : Int)), V 53 (iv (w64 (x25 + 1)))], [W 0 9 [bs a0.Epoch, .fsl 1 (List.map cS a0.Release), .s (.int .u8 a0.Pre), bs a0.PreNum, bv a0.Post, bs a0.PostNum, bv a0.Dev, bs a0.DevNum, .fsl 1 (List.map cS a0.Local)], W 1 9 [bs x1.Epoch, .fsl 1 (List.map cS x1.Release), .s (.int .u8 x1.Pre), bs x1.PreNum, bv x1.Post, bs x1.PostNum, bv x1.Dev, bs x1.DevNum, .osl 2 0 (List.length x2) 1], (2, .rows 1 (List.map cS x2)), W 3 9 [bs x1.Epoch, .osl 4 0 (List.length (List.set x24 (Int.toNat x25) [55, 55])) 1, .s (.int .u8 x1.Pre), bs x1.PreNum, bv x1.Post, bs x1.PostNum, bv x1.Dev, bs x1.DevNum, nilS], (4, .rows 1 (List.map cS (List.set x24 (Int.toNat x25) [55, 55])))], 5⟩ ?_
   exact jx_next (wkR [(0, some 0), (1, some 1), (2, some 2), (3, some 3), (4, some 4)] (fix_nil _) (pc (hC 0) (pc (hC 1) (pc (hL 2 (noid_map ni_S _)) (pc (hC 3) (pc (hL 4 (noid_map ni_S _)) allp_nil))))))
  refine jc_exit ?_
  refine jx_seqE ?_
  exact jx_done rfl nofun (wkR [(0, some 0), (1, some 1), (2, some 2)] (fix_nil _) (pc (hC 0) (pc (hC 1) (pc (hL 2 (noid_map ni_S _)) allp_nil))))
 intro _
 refine jx_blkE ?_
 refine jx_seqN ?_
 refine jR ?_
 refine jG 0 2 ⟨[V 61 (.agg [bs x1.Epoch, .fsl 1 (List.map cS x1.Release), .s (.int .u8 x1.Pre), bs x1.PreNum, bv x1.Post, bs x1.PostNum, bv x1.Dev, bs x1.DevNum, .osl 2 0 (List.length x2) 1]), V 62 (.agg [bs a0.Epoch, .fsl 1 (List.map cS a0.Release), .s (.int .u8 a0.Pre), bs a0.PreNum, bv a0.Post, bs a0.PostNum, bv a0.Dev, bs a0.DevNum, .fsl 1 (List.map cS a0.Local)])], [(2, .rows 1 (List.map cS x2))], 3⟩ ?_
 refine jr_callF (i := 2) rfl rfl rfl rfl (vs := [.agg [bs x1.Epoch, .fsl 1 (List.map cS x1.Release), .s (.int .u8 x1.Pre), bs x1.PreNum, bv x1.Post, bs x1.PostNum, bv x1.Dev, bs x1.DevNum, .osl 2 0 (List.length x2) 1], .agg [bs a0.Epoch, .fsl 1 (List.map cS a0.Release), .s (.int .u8 a0.Pre), bs a0.PreNum, bv a0.Post, bs a0.PostNum, bv a0.Dev, bs a0.DevNum, .fsl 1 (List.map cS a0.Local)]]) (by kernel_rfl) (snapL_cons (snapc_agg (snapL_cons rfl (snapL_cons rfl (snapL_cons rfl (snapL_cons rfl (snapL_cons rfl (snapL_cons rfl (snapL_cons rfl (snapL_cons rfl (snapL_cons (snapc_own fz_S (by kernel_rfl)) (snapL_nil _))))))))))) (snapL_cons rfl (snapL_nil _))) (all2_cons (fle_agg (all2_cons (fle_refl _) (all2_cons (fle_refl _) (all2_cons (fle_refl _) (all2_cons (fle_refl _) (all2_cons (fle_refl _) (all2_cons (fle_refl _) (all2_cons (fle_refl _) (all2_cons (fle_refl _) (all2_cons (fle_refl _) all2_nil)))))))))) (all2_cons (fle_refl _) all2_nil)) (ref03_Same_ok (S_api_Pep.mk x1.Epoch x1.Release x1.Pre x1.PreNum x1.Post x1.PostNum x1.Dev x1.DevNum x2) a0) (fun _ => rfl) (fun _ => rfl) ?_
 intro x30 h30
 refine jG 3 1 ⟨[V 64 (bv x30)], [], 3⟩ ?_
 refine jr_bind 4 2 (fun x32 => ⟨[V 66 (bv x32)], [], 0⟩) ?_ ?_
 ·refine jSp 64 ?_ ?_
  ·refine jK 0 (law03_awake_ok) ?_
   intro x33 h33
   refine jG 1 1 ⟨[V 66 (bv x33)], [], 3⟩ ?_
   refine jr_nil rfl ?_
   exact jx_mid rfl (wkR [] (fix_nil _) allp_nil)
  refine jG 0 2 ⟨[V 66 (bv false)], [], 3⟩ ?_
  refine jr_nil rfl ?_
  exact jx_mid rfl (wkR [] (fix_nil _) allp_nil)
 intro x32
 refine jG 6 1 ⟨[V 4 (bv x32)], [], 0⟩ ?_
 refine jN ?_
 refine jc_ret ?_
 exact jx_retF (.inr rfl) (v := bv x32) (by kernel_rfl) rfl (fle_refl _))
end Go.Vm

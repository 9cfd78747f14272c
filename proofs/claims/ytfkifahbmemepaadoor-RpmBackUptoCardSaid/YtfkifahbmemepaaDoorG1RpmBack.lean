/- The law RpmBack, a part of its proof: what the functions that it reaches compute. -/
import Derived.Test.YtfkifahbmemepaaDoorG0RpmBack
import Derived.Test.YtfkifahbmemepaaDoorW05RpmBack
set_option maxRecDepth 100000
set_option maxHeartbeats 0
set_option linter.unusedVariables false
set_option linter.unusedSimpArgs false
namespace Go.Vm
open Go
abbrev rpm_Order_r1 : List LO := [⟨some 2, Op.box 51 (Operand.tmp 0), 0, none⟩,
  ⟨some 3, Op.box 51 (Operand.tmp 1), 0, none⟩,
  ⟨some 4, Op.assign (Operand.const (Value.int IntKind.i64 0)), 3, none⟩]
abbrev rpm_Order_b2 : LC := .reg false rpm_Order_r1
abbrev rpm_Order_r3 : List LO := [⟨some 5, Op.load 51 (Operand.tmp 2), 51, none⟩,
  ⟨some 6, Op.call { callee := Callee.value (Operand.func 45), args := #[Operand.tmp 5], argTypes := #[51] }, 4, none⟩,
  ⟨some 7, Op.unOp UnOp.not 4 (Operand.tmp 6), 4, none⟩,
  ⟨some 8, Op.move (Operand.tmp 7), 4, none⟩,
  ⟨some 9, Op.load 51 (Operand.tmp 3), 51, (some (8, false))⟩,
  ⟨some 10, Op.call { callee := Callee.value (Operand.func 45), args := #[Operand.tmp 9], argTypes := #[51] }, 4, (some (8, false))⟩,
  ⟨some 11, Op.unOp UnOp.not 4 (Operand.tmp 10), 4, (some (8, false))⟩,
  ⟨some 12, Op.pick (Operand.tmp 8) (Operand.const (Value.bool true)) (Operand.tmp 11), 4, none⟩]
abbrev rpm_Order_b4 : LC := .reg false rpm_Order_r3
abbrev rpm_Order_r5 : List LO := [⟨some 4, Op.assign (Operand.const (Value.int IntKind.i64 0)), 3, none⟩]
abbrev rpm_Order_b6 : LC := .reg false rpm_Order_r5
abbrev rpm_Order_b7 : LC := .seq rpm_Order_b6 .ret
abbrev rpm_Order_b8 : LC := .cond (Operand.tmp 12) rpm_Order_b7 .skip
abbrev rpm_Order_b9 : LC := .seq rpm_Order_b4 rpm_Order_b8
abbrev rpm_Order_r10 : List LO := [⟨some 13, Op.fieldAddr 51 (Operand.tmp 2) 0, 0, none⟩,
  ⟨some 14, Op.load 9 (Operand.tmp 13), 9, none⟩,
  ⟨some 15, Op.fieldAddr 51 (Operand.tmp 3) 0, 0, none⟩,
  ⟨some 16, Op.load 9 (Operand.tmp 15), 9, none⟩,
  ⟨some 17, Op.call { callee := Callee.value (Operand.func 17), args := #[Operand.tmp 14, Operand.tmp 16], argTypes := #[9, 9] }, 3, none⟩,
  ⟨some 18, Op.fieldAddr 51 (Operand.tmp 2) 1, 0, none⟩,
  ⟨some 19, Op.load 9 (Operand.tmp 18), 9, none⟩,
  ⟨some 20, Op.fieldAddr 51 (Operand.tmp 3) 1, 0, none⟩,
  ⟨some 21, Op.load 9 (Operand.tmp 20), 9, none⟩,
  ⟨some 22, Op.call { callee := Callee.value (Operand.func 39), args := #[Operand.tmp 19, Operand.tmp 21], argTypes := #[9, 9] }, 3, none⟩,
  ⟨some 23, Op.fieldAddr 51 (Operand.tmp 2) 3, 0, none⟩,
  ⟨some 24, Op.load 4 (Operand.tmp 23), 4, none⟩,
  ⟨some 25, Op.call { callee := Callee.value (Operand.func 83), args := #[Operand.tmp 24], argTypes := #[4] }, 3, none⟩,
  ⟨some 26, Op.fieldAddr 51 (Operand.tmp 3) 3, 0, none⟩,
  ⟨some 27, Op.load 4 (Operand.tmp 26), 4, none⟩,
  ⟨some 28, Op.call { callee := Callee.value (Operand.func 83), args := #[Operand.tmp 27], argTypes := #[4] }, 3, none⟩,
  ⟨some 29, Op.binOp BinOp.sub 3 (Operand.tmp 25) (Operand.tmp 28) 3, 3, none⟩,
  ⟨some 30, Op.fieldAddr 51 (Operand.tmp 2) 2, 0, none⟩,
  ⟨some 31, Op.load 9 (Operand.tmp 30), 9, none⟩,
  ⟨some 32, Op.fieldAddr 51 (Operand.tmp 3) 2, 0, none⟩,
  ⟨some 33, Op.load 9 (Operand.tmp 32), 9, none⟩,
  ⟨some 34, Op.call { callee := Callee.value (Operand.func 39), args := #[Operand.tmp 31, Operand.tmp 33], argTypes := #[9, 9] }, 3, none⟩,
  ⟨some 35, Op.buildSlice 129 4 #[(0, Operand.tmp 17), (1, Operand.tmp 22), (2, Operand.tmp 29), (3, Operand.tmp 34)], 129, none⟩,
  ⟨some 36, Op.call { callee := Callee.value (Operand.func 64), args := #[Operand.tmp 35], argTypes := #[129] }, 3, none⟩,
  ⟨some 4, Op.assign (Operand.tmp 36), 3, none⟩]
abbrev rpm_Order_b11 : LC := .reg true rpm_Order_r10
abbrev rpm_Order_b12 : LC := .seq rpm_Order_b11 .ret
abbrev rpm_Order_b13 : LC := .seq rpm_Order_b9 rpm_Order_b12
abbrev rpm_Order_b14 : LC := .seq rpm_Order_b2 rpm_Order_b13
theorem rpm_Order_k : FnOk E 48 37 [.tmp 4] rpm_Order_b14 := ⟨⟨Go.Proofs.Tryd.f48, by kernel_rfl, by kernel_rfl, by kernel_rfl, by kernel_rfl, by kernel_rfl⟩, rfl⟩
noncomputable def rpm_Order (a0 : S_api_Evr) (a1 : S_api_Evr) : Option (Int) := Option.bind (rpm_Fit a0) (fun x1 => Option.bind (if (!x1) = true then some true else Option.bind (rpm_Fit a1) (fun x4 => some (!x4)) : Option (Bool)) (fun x3 => (if x3 = true then some 0 else Option.bind (scan_Cmp a0.Epoch a1.Epoch) (fun x5 => Option.bind (rpm_Segments a0.Ver a1.Ver) (fun x6 => Option.bind (rpm_truth a0.HasRel) (fun x7 => Option.bind (rpm_truth a1.HasRel) (fun x8 => Option.bind (rpm_Segments a0.Rel a1.Rel) (fun x9 => Option.bind (cmp_Or_int [x5, x6, (w64 (x7 - x8)), x9]) (fun x10 => some x10)))))))))
theorem rpm_Order_ok (a0 : S_api_Evr) (a1 : S_api_Evr) : Ct E 48 [.agg [bs a0.Epoch, bs a0.Ver, bs a0.Rel, bv a0.HasRel], .agg [bs a1.Epoch, bs a1.Ver, bs a1.Rel, bv a1.HasRel]] (rpm_Order a0 a1) (fun r : Int => iv r) := ct_intro (N := 37) (L := rpm_Order_b14) rpm_Order_k rfl (Nat.le_of_ble_eq_true rfl) (by kernel_rfl) (by
  unfold rpm_Order
  refine jc_seq ?_
  refine jc_reg ?_
  refine jr_seg 0 3 [2, 3] [0, 1] (st1 := ⟨[(2, .av (.ptr 0 0 4 0)), (3, .av (.ptr 1 0 4 0))], [(0, .rows 4 [[bs a0.Epoch, bs a0.Ver, bs a0.Rel, bv a0.HasRel]]), (1, .rows 4 [[bs a1.Epoch, bs a1.Ver, bs a1.Rel, bv a1.HasRel]])], 2⟩) (by kernel_rfl) ?_
  refine jr_nil rfl ?_
  refine jx_seqN ?_
  refine jc_seq ?_
  refine jc_seq ?_
  refine jc_reg ?_
  refine jr_seg 0 1 [2, 3, 5] [0, 1] (st1 := ⟨[(2, .av (.ptr 0 0 4 0)), (3, .av (.ptr 1 0 4 0)), (5, .av (.agg [bs a0.Epoch, bs a0.Ver, bs a0.Rel, bv a0.HasRel]))], [(0, .rows 4 [[bs a0.Epoch, bs a0.Ver, bs a0.Rel, bv a0.HasRel]]), (1, .rows 4 [[bs a1.Epoch, bs a1.Ver, bs a1.Rel, bv a1.HasRel]])], 2⟩) (by kernel_rfl) ?_
  refine jr_callF (i := 1) rfl rfl rfl rfl (vs := [.agg [bs a0.Epoch, bs a0.Ver, bs a0.Rel, bv a0.HasRel]]) (by kernel_rfl) (snapL_cons rfl (snapL_nil _)) (all2_cons (fle_refl _) all2_nil) (rpm_Fit_ok a0) (fun _ => rfl) (fun _ => rfl) ?_
  intro x1 h1
  refine jr_seg 2 2 [2, 3, 8] [0, 1] (st1 := ⟨[(2, .av (.ptr 0 0 4 0)), (3, .av (.ptr 1 0 4 0)), (8, .av (bv (!x1)))], [(0, .rows 4 [[bs a0.Epoch, bs a0.Ver, bs a0.Rel, bv a0.HasRel]]), (1, .rows 4 [[bs a1.Epoch, bs a1.Ver, bs a1.Rel, bv a1.HasRel]])], 2⟩) (by kernel_rfl) ?_
  refine jr_bind 4 4 (fun x3 => ⟨[(2, .av (.ptr 0 0 4 0)), (3, .av (.ptr 1 0 4 0)), (12, .av (bv x3))], [(0, .rows 4 [[bs a0.Epoch, bs a0.Ver, bs a0.Rel, bv a0.HasRel]]), (1, .rows 4 [[bs a1.Epoch, bs a1.Ver, bs a1.Rel, bv a1.HasRel]])], 2⟩) ?_ ?_
  · refine jr_split (g := 8) (c := (!x1)) (by kernel_rfl) ?_ ?_
    · intro _
      refine jr_seg 0 4 [2, 3, 12] [0, 1] (st1 := ⟨[(2, .av (.ptr 0 0 4 0)), (3, .av (.ptr 1 0 4 0)), (12, .av (bv true))], [(0, .rows 4 [[bs a0.Epoch, bs a0.Ver, bs a0.Rel, bv a0.HasRel]]), (1, .rows 4 [[bs a1.Epoch, bs a1.Ver, bs a1.Rel, bv a1.HasRel]])], 2⟩) (by kernel_rfl) ?_
      refine jr_nil rfl ?_
      exact jx_mid rfl (wk_ren [(0, some 0), (1, some 1)] (fix_nil _) rfl (by kernel_rfl) (allp_cons (.inl ⟨0, _, _, _, rfl, rfl, rfl, .inl (by kernel_rfl)⟩) (allp_cons (.inl ⟨1, _, _, _, rfl, rfl, rfl, .inl (by kernel_rfl)⟩) allp_nil)))
    · intro _
      refine jr_seg 0 1 [2, 3, 8, 9] [0, 1] (st1 := ⟨[(2, .av (.ptr 0 0 4 0)), (3, .av (.ptr 1 0 4 0)), (8, .lit false), (9, .av (.agg [bs a1.Epoch, bs a1.Ver, bs a1.Rel, bv a1.HasRel]))], [(0, .rows 4 [[bs a0.Epoch, bs a0.Ver, bs a0.Rel, bv a0.HasRel]]), (1, .rows 4 [[bs a1.Epoch, bs a1.Ver, bs a1.Rel, bv a1.HasRel]])], 2⟩) (by kernel_rfl) ?_
      refine jr_callF (i := 1) rfl rfl rfl rfl (vs := [.agg [bs a1.Epoch, bs a1.Ver, bs a1.Rel, bv a1.HasRel]]) (by kernel_rfl) (snapL_cons rfl (snapL_nil _)) (all2_cons (fle_refl _) all2_nil) (rpm_Fit_ok a1) (fun _ => rfl) (fun _ => rfl) ?_
      intro x4 h4
      refine jr_seg 2 2 [2, 3, 12] [0, 1] (st1 := ⟨[(2, .av (.ptr 0 0 4 0)), (3, .av (.ptr 1 0 4 0)), (12, .av (bv (!x4)))], [(0, .rows 4 [[bs a0.Epoch, bs a0.Ver, bs a0.Rel, bv a0.HasRel]]), (1, .rows 4 [[bs a1.Epoch, bs a1.Ver, bs a1.Rel, bv a1.HasRel]])], 2⟩) (by kernel_rfl) ?_
      refine jr_nil rfl ?_
      exact jx_mid rfl (wk_ren [(0, some 0), (1, some 1)] (fix_nil _) rfl (by kernel_rfl) (allp_cons (.inl ⟨0, _, _, _, rfl, rfl, rfl, .inl (by kernel_rfl)⟩) (allp_cons (.inl ⟨1, _, _, _, rfl, rfl, rfl, .inl (by kernel_rfl)⟩) allp_nil)))
  · intro x3
    refine jr_nil rfl ?_
    refine jx_seqN ?_
    refine jc_cond (g := 12) (c := x3) (by kernel_rfl) ?_ ?_
    · intro _
      refine jc_seq ?_
      refine jc_reg ?_
      refine jr_seg 0 1 [4] [] (st1 := ⟨[(4, .av (iv 0))], [], 2⟩) (by kernel_rfl) ?_
      refine jr_nil rfl ?_
      refine jx_seqN ?_
      refine jc_ret ?_
      refine jx_seqR ?_
      exact jx_retF (.inr rfl) (v := iv 0) (by kernel_rfl) rfl (fle_refl _)
    · intro _
      refine jc_skip ?_
      refine jx_seqN ?_
      refine jc_seq ?_
      refine jc_reg ?_
      refine jr_seg 0 4 [2, 3, 14, 16] [0, 1] (st1 := ⟨[(2, .av (.ptr 0 0 4 0)), (3, .av (.ptr 1 0 4 0)), (14, .av (bs a0.Epoch)), (16, .av (bs a1.Epoch))], [(0, .rows 4 [[bs a0.Epoch, bs a0.Ver, bs a0.Rel, bv a0.HasRel]]), (1, .rows 4 [[bs a1.Epoch, bs a1.Ver, bs a1.Rel, bv a1.HasRel]])], 2⟩) (by kernel_rfl) ?_
      refine jr_callF (i := 4) rfl rfl rfl rfl (vs := [bs a0.Epoch, bs a1.Epoch]) (by kernel_rfl) (snapL_cons rfl (snapL_cons rfl (snapL_nil _))) (all2_cons (fle_refl _) (all2_cons (fle_refl _) all2_nil)) (scan_Cmp_ok a0.Epoch a1.Epoch) (fun _ => rfl) (fun _ => rfl) ?_
      intro x5 h5
      refine jr_seg 5 4 [2, 3, 17, 19, 21] [0, 1] (st1 := ⟨[(2, .av (.ptr 0 0 4 0)), (3, .av (.ptr 1 0 4 0)), (17, .av (iv x5)), (19, .av (bs a0.Ver)), (21, .av (bs a1.Ver))], [(0, .rows 4 [[bs a0.Epoch, bs a0.Ver, bs a0.Rel, bv a0.HasRel]]), (1, .rows 4 [[bs a1.Epoch, bs a1.Ver, bs a1.Rel, bv a1.HasRel]])], 2⟩) (by kernel_rfl) ?_
      refine jr_callF (i := 9) rfl rfl rfl rfl (vs := [bs a0.Ver, bs a1.Ver]) (by kernel_rfl) (snapL_cons rfl (snapL_cons rfl (snapL_nil _))) (all2_cons (fle_refl _) (all2_cons (fle_refl _) all2_nil)) (rpm_Segments_ok a0.Ver a1.Ver) (fun _ => rfl) (fun _ => rfl) ?_
      intro x6 h6
      refine jr_seg 10 2 [2, 3, 17, 22, 24] [0, 1] (st1 := ⟨[(2, .av (.ptr 0 0 4 0)), (3, .av (.ptr 1 0 4 0)), (17, .av (iv x5)), (22, .av (iv x6)), (24, .av (bv a0.HasRel))], [(0, .rows 4 [[bs a0.Epoch, bs a0.Ver, bs a0.Rel, bv a0.HasRel]]), (1, .rows 4 [[bs a1.Epoch, bs a1.Ver, bs a1.Rel, bv a1.HasRel]])], 2⟩) (by kernel_rfl) ?_
      refine jr_callF (i := 12) rfl rfl rfl rfl (vs := [bv a0.HasRel]) (by kernel_rfl) (snapL_cons rfl (snapL_nil _)) (all2_cons (fle_refl _) all2_nil) (rpm_truth_ok a0.HasRel) (fun _ => rfl) (fun _ => rfl) ?_
      intro x7 h7
      refine jr_seg 13 2 [2, 3, 17, 22, 25, 27] [0, 1] (st1 := ⟨[(2, .av (.ptr 0 0 4 0)), (3, .av (.ptr 1 0 4 0)), (17, .av (iv x5)), (22, .av (iv x6)), (25, .av (iv x7)), (27, .av (bv a1.HasRel))], [(0, .rows 4 [[bs a0.Epoch, bs a0.Ver, bs a0.Rel, bv a0.HasRel]]), (1, .rows 4 [[bs a1.Epoch, bs a1.Ver, bs a1.Rel, bv a1.HasRel]])], 2⟩) (by kernel_rfl) ?_
      refine jr_callF (i := 15) rfl rfl rfl rfl (vs := [bv a1.HasRel]) (by kernel_rfl) (snapL_cons rfl (snapL_nil _)) (all2_cons (fle_refl _) all2_nil) (rpm_truth_ok a1.HasRel) (fun _ => rfl) (fun _ => rfl) ?_
      intro x8 h8
      refine jr_seg 16 5 [17, 22, 29, 31, 33] [] (st1 := ⟨[(17, .av (iv x5)), (22, .av (iv x6)), (29, .av (iv (w64 (x7 - x8)))), (31, .av (bs a0.Rel)), (33, .av (bs a1.Rel))], [], 2⟩) (by kernel_rfl) ?_
      refine jr_callF (i := 21) rfl rfl rfl rfl (vs := [bs a0.Rel, bs a1.Rel]) (by kernel_rfl) (snapL_cons rfl (snapL_cons rfl (snapL_nil _))) (all2_cons (fle_refl _) (all2_cons (fle_refl _) all2_nil)) (rpm_Segments_ok a0.Rel a1.Rel) (fun _ => rfl) (fun _ => rfl) ?_
      intro x9 h9
      refine jr_seg 22 1 [35] [] (st1 := ⟨[(35, .av (.fsl 1 (List.map cI [x5, x6, (w64 (x7 - x8)), x9])))], [], 2⟩) (by kernel_rfl) ?_
      refine jr_callF (i := 23) rfl rfl rfl rfl (vs := [.fsl 1 (List.map cI [x5, x6, (w64 (x7 - x8)), x9])]) (by kernel_rfl) (snapL_cons rfl (snapL_nil _)) (all2_cons (fle_refl _) all2_nil) (cmp_Or_int_ok [x5, x6, (w64 (x7 - x8)), x9]) (fun _ => rfl) (fun _ => rfl) ?_
      intro x10 h10
      refine jr_seg 24 1 [4] [] (st1 := ⟨[(4, .av (iv x10))], [], 2⟩) (by kernel_rfl) ?_
      refine jr_nil rfl ?_
      refine jx_seqN ?_
      refine jc_ret ?_
      exact jx_retF (.inr rfl) (v := iv x10) (by kernel_rfl) rfl (fle_refl _))
end Go.Vm

set_option maxRecDepth 100000
set_option maxHeartbeats 0
set_option linter.unusedVariables false
set_option linter.unusedSimpArgs false
namespace Go.Vm
open Go
abbrev rpm_Compare_r1 : List LO := [⟨some 4, Op.assign (Operand.const (Value.int IntKind.i64 0)), 3, none⟩]
abbrev rpm_Compare_b2 : LC := .reg false rpm_Compare_r1
abbrev rpm_Compare_r3 : List LO := [⟨some 10, Op.move (Operand.tmp 0), 9, none⟩,
  ⟨some 11, Op.call { callee := Callee.value (Operand.func 37), args := #[Operand.tmp 10], argTypes := #[9] }, 52, none⟩,
  ⟨some 9, Op.move (Operand.tmp 11), 52, none⟩,
  ⟨some 12, Op.extract (Operand.tmp 9) 0, 51, none⟩,
  ⟨some 13, Op.extract (Operand.tmp 9) 1, 44, none⟩,
  ⟨some 5, Op.alloc 51, 0, none⟩,
  ⟨some 6, Op.alloc 44, 0, none⟩,
  ⟨none, Op.store 51 (Operand.tmp 5) (Operand.tmp 12), 0, none⟩,
  ⟨none, Op.store 44 (Operand.tmp 6) (Operand.tmp 13), 0, none⟩]
abbrev rpm_Compare_b4 : LC := .reg false rpm_Compare_r3
abbrev rpm_Compare_r5 : List LO := [⟨some 15, Op.move (Operand.tmp 1), 9, none⟩,
  ⟨some 16, Op.call { callee := Callee.value (Operand.func 37), args := #[Operand.tmp 15], argTypes := #[9] }, 52, none⟩,
  ⟨some 14, Op.move (Operand.tmp 16), 52, none⟩,
  ⟨some 17, Op.extract (Operand.tmp 14) 0, 51, none⟩,
  ⟨some 18, Op.extract (Operand.tmp 14) 1, 44, none⟩,
  ⟨some 7, Op.alloc 51, 0, none⟩,
  ⟨some 8, Op.alloc 44, 0, none⟩,
  ⟨none, Op.store 51 (Operand.tmp 7) (Operand.tmp 17), 0, none⟩,
  ⟨none, Op.store 44 (Operand.tmp 8) (Operand.tmp 18), 0, none⟩]
abbrev rpm_Compare_b6 : LC := .reg false rpm_Compare_r5
abbrev rpm_Compare_r7 : List LO := [⟨some 19, Op.fieldAddr 44 (Operand.tmp 6) 0, 0, none⟩,
  ⟨some 20, Op.load 42 (Operand.tmp 19), 42, none⟩,
  ⟨some 21, Op.binOp BinOp.neq 42 (Operand.tmp 20) (Operand.const (Value.int IntKind.i64 0)) 42, 4, none⟩,
  ⟨some 22, Op.move (Operand.tmp 21), 4, none⟩,
  ⟨some 23, Op.fieldAddr 44 (Operand.tmp 8) 0, 0, (some (22, false))⟩,
  ⟨some 24, Op.load 42 (Operand.tmp 23), 42, (some (22, false))⟩,
  ⟨some 25, Op.binOp BinOp.neq 42 (Operand.tmp 24) (Operand.const (Value.int IntKind.i64 0)) 42, 4, (some (22, false))⟩,
  ⟨some 26, Op.pick (Operand.tmp 22) (Operand.const (Value.bool true)) (Operand.tmp 25), 4, none⟩]
abbrev rpm_Compare_b8 : LC := .reg false rpm_Compare_r7
abbrev rpm_Compare_r9 : List LO := [⟨some 27, Op.fieldAddr 44 (Operand.tmp 6) 0, 0, none⟩,
  ⟨some 28, Op.load 42 (Operand.tmp 27), 42, none⟩,
  ⟨some 29, Op.binOp BinOp.eql 42 (Operand.tmp 28) (Operand.const (Value.int IntKind.i64 0)) 42, 4, none⟩,
  ⟨some 30, Op.call { callee := Callee.value (Operand.func 83), args := #[Operand.tmp 29], argTypes := #[4] }, 3, none⟩,
  ⟨some 31, Op.fieldAddr 44 (Operand.tmp 8) 0, 0, none⟩,
  ⟨some 32, Op.load 42 (Operand.tmp 31), 42, none⟩,
  ⟨some 33, Op.binOp BinOp.eql 42 (Operand.tmp 32) (Operand.const (Value.int IntKind.i64 0)) 42, 4, none⟩,
  ⟨some 34, Op.call { callee := Callee.value (Operand.func 83), args := #[Operand.tmp 33], argTypes := #[4] }, 3, none⟩,
  ⟨some 35, Op.binOp BinOp.sub 3 (Operand.tmp 30) (Operand.tmp 34) 3, 3, none⟩,
  ⟨some 4, Op.assign (Operand.tmp 35), 3, none⟩]
abbrev rpm_Compare_b10 : LC := .reg true rpm_Compare_r9
abbrev rpm_Compare_b11 : LC := .seq rpm_Compare_b10 .ret
abbrev rpm_Compare_b12 : LC := .cond (Operand.tmp 26) rpm_Compare_b11 .skip
abbrev rpm_Compare_b13 : LC := .seq rpm_Compare_b8 rpm_Compare_b12
abbrev rpm_Compare_r14 : List LO := [⟨some 36, Op.load 51 (Operand.tmp 5), 51, none⟩,
  ⟨some 37, Op.load 51 (Operand.tmp 7), 51, none⟩,
  ⟨some 38, Op.call { callee := Callee.value (Operand.func 48), args := #[Operand.tmp 36, Operand.tmp 37], argTypes := #[51, 51] }, 3, none⟩,
  ⟨some 4, Op.assign (Operand.tmp 38), 3, none⟩]
abbrev rpm_Compare_b15 : LC := .reg false rpm_Compare_r14
abbrev rpm_Compare_b16 : LC := .seq rpm_Compare_b15 .ret
abbrev rpm_Compare_b17 : LC := .seq rpm_Compare_b13 rpm_Compare_b16
abbrev rpm_Compare_b18 : LC := .seq rpm_Compare_b6 rpm_Compare_b17
abbrev rpm_Compare_b19 : LC := .seq rpm_Compare_b4 rpm_Compare_b18
abbrev rpm_Compare_b20 : LC := .seq rpm_Compare_b2 rpm_Compare_b19
theorem rpm_Compare_k : FnOk E 41 39 [.tmp 4] rpm_Compare_b20 := ⟨⟨Go.Proofs.Tryd.f41, by kernel_rfl, by kernel_rfl, by kernel_rfl, by kernel_rfl, by kernel_rfl⟩, rfl⟩
noncomputable def rpm_Compare (a0 : Str) (a1 : Str) : Option (Int) := Option.bind (rpm_Parse a0) (fun x1 => Option.bind (rpm_Parse a1) (fun x2 => (if ((x1.2.Err != 0) || (x2.2.Err != 0)) = true then Option.bind (rpm_truth (x1.2.Err == 0)) (fun x3 => Option.bind (rpm_truth (x2.2.Err == 0)) (fun x4 => some (w64 (x3 - x4)))) else Option.bind (rpm_Order (S_api_Evr.mk x1.1.Epoch x1.1.Ver x1.1.Rel x1.1.HasRel) (S_api_Evr.mk x2.1.Epoch x2.1.Ver x2.1.Rel x2.1.HasRel)) (fun x5 => some x5))))
theorem rpm_Compare_ok (a0 : Str) (a1 : Str) : Ct E 41 [bs a0, bs a1] (rpm_Compare a0 a1) (fun r : Int => iv r) := ct_intro (N := 39) (L := rpm_Compare_b20) rpm_Compare_k rfl (Nat.le_of_ble_eq_true rfl) (by kernel_rfl) (by
  unfold rpm_Compare
  refine jc_seq ?_
  refine jc_reg ?_
  refine jr_seg 0 1 [0, 1] [] (st1 := ⟨[(0, .av (bs a0)), (1, .av (bs a1))], [], 0⟩) (by kernel_rfl) ?_
  refine jr_nil rfl ?_
  refine jx_seqN ?_
  refine jc_seq ?_
  refine jc_reg ?_
  refine jr_seg 0 1 [1, 10] [] (st1 := ⟨[(1, .av (bs a1)), (10, .av (bs a0))], [], 0⟩) (by kernel_rfl) ?_
  refine jr_callF (i := 1) rfl rfl rfl rfl (vs := [bs a0]) (by kernel_rfl) (snapL_cons rfl (snapL_nil _)) (all2_cons (fle_refl _) all2_nil) (rpm_Parse_ok a0) (fun _ => rfl) (fun _ => rfl) ?_
  intro x1 h1
  refine jr_seg 2 7 [1, 5, 6] [0, 1] (st1 := ⟨[(1, .av (bs a1)), (5, .av (.ptr 0 0 4 0)), (6, .av (.ptr 1 0 2 0))], [(0, .rows 4 [[bs x1.1.Epoch, bs x1.1.Ver, bs x1.1.Rel, bv x1.1.HasRel]]), (1, .rows 2 [[iv x1.2.Err, iv x1.2.At]])], 2⟩) (by kernel_rfl) ?_
  refine jr_nil rfl ?_
  refine jx_seqN ?_
  refine jc_seq ?_
  refine jc_reg ?_
  refine jr_seg 0 1 [5, 6, 15] [0, 1] (st1 := ⟨[(5, .av (.ptr 0 0 4 0)), (6, .av (.ptr 1 0 2 0)), (15, .av (bs a1))], [(0, .rows 4 [[bs x1.1.Epoch, bs x1.1.Ver, bs x1.1.Rel, bv x1.1.HasRel]]), (1, .rows 2 [[iv x1.2.Err, iv x1.2.At]])], 2⟩) (by kernel_rfl) ?_
  refine jr_callF (i := 1) rfl rfl rfl rfl (vs := [bs a1]) (by kernel_rfl) (snapL_cons rfl (snapL_nil _)) (all2_cons (fle_refl _) all2_nil) (rpm_Parse_ok a1) (fun _ => rfl) (fun _ => rfl) ?_
  intro x2 h2
  refine jr_seg 2 7 [5, 6, 7, 8] [0, 1, 2, 3] (st1 := ⟨[(5, .av (.ptr 0 0 4 0)), (6, .av (.ptr 1 0 2 0)), (7, .av (.ptr 2 0 4 0)), (8, .av (.ptr 3 0 2 0))], [(0, .rows 4 [[bs x1.1.Epoch, bs x1.1.Ver, bs x1.1.Rel, bv x1.1.HasRel]]), (1, .rows 2 [[iv x1.2.Err, iv x1.2.At]]), (2, .rows 4 [[bs x2.1.Epoch, bs x2.1.Ver, bs x2.1.Rel, bv x2.1.HasRel]]), (3, .rows 2 [[iv x2.2.Err, iv x2.2.At]])], 4⟩) (by kernel_rfl) ?_
  refine jr_nil rfl ?_
  refine jx_seqN ?_
  refine jc_seq ?_
  refine jc_seq ?_
  refine jc_reg ?_
  refine jr_seg 0 8 [5, 6, 7, 8, 26] [0, 1, 2, 3] (st1 := ⟨[(5, .av (.ptr 0 0 4 0)), (6, .av (.ptr 1 0 2 0)), (7, .av (.ptr 2 0 4 0)), (8, .av (.ptr 3 0 2 0)), (26, .av (bv ((x1.2.Err != 0) || (x2.2.Err != 0))))], [(0, .rows 4 [[bs x1.1.Epoch, bs x1.1.Ver, bs x1.1.Rel, bv x1.1.HasRel]]), (1, .rows 2 [[iv x1.2.Err, iv x1.2.At]]), (2, .rows 4 [[bs x2.1.Epoch, bs x2.1.Ver, bs x2.1.Rel, bv x2.1.HasRel]]), (3, .rows 2 [[iv x2.2.Err, iv x2.2.At]])], 4⟩) (by kernel_rfl) ?_
  refine jr_nil rfl ?_
  refine jx_seqN ?_
  refine jc_cond (g := 26) (c := ((x1.2.Err != 0) || (x2.2.Err != 0))) (by kernel_rfl) ?_ ?_
  · intro _
    refine jc_seq ?_
    refine jc_reg ?_
    refine jr_seg 0 3 [8, 29] [3] (st1 := ⟨[(8, .av (.ptr 3 0 2 0)), (29, .av (bv (x1.2.Err == 0)))], [(3, .rows 2 [[iv x2.2.Err, iv x2.2.At]])], 4⟩) (by kernel_rfl) ?_
    refine jr_callF (i := 3) rfl rfl rfl rfl (vs := [bv (x1.2.Err == 0)]) (by kernel_rfl) (snapL_cons rfl (snapL_nil _)) (all2_cons (fle_refl _) all2_nil) (rpm_truth_ok (x1.2.Err == 0)) (fun _ => rfl) (fun _ => rfl) ?_
    intro x3 h3
    refine jr_seg 4 3 [30, 33] [] (st1 := ⟨[(30, .av (iv x3)), (33, .av (bv (x2.2.Err == 0)))], [], 4⟩) (by kernel_rfl) ?_
    refine jr_callF (i := 7) rfl rfl rfl rfl (vs := [bv (x2.2.Err == 0)]) (by kernel_rfl) (snapL_cons rfl (snapL_nil _)) (all2_cons (fle_refl _) all2_nil) (rpm_truth_ok (x2.2.Err == 0)) (fun _ => rfl) (fun _ => rfl) ?_
    intro x4 h4
    refine jr_seg 8 2 [4] [] (st1 := ⟨[(4, .av (iv (w64 (x3 - x4))))], [], 4⟩) (by kernel_rfl) ?_
    refine jr_nil rfl ?_
    refine jx_seqN ?_
    refine jc_ret ?_
    refine jx_seqR ?_
    exact jx_retF (.inr rfl) (v := iv (w64 (x3 - x4))) (by kernel_rfl) rfl (fle_refl _)
  · intro _
    refine jc_skip ?_
    refine jx_seqN ?_
    refine jc_seq ?_
    refine jc_reg ?_
    refine jr_seg 0 2 [36, 37] [] (st1 := ⟨[(36, .av (.agg [bs x1.1.Epoch, bs x1.1.Ver, bs x1.1.Rel, bv x1.1.HasRel])), (37, .av (.agg [bs x2.1.Epoch, bs x2.1.Ver, bs x2.1.Rel, bv x2.1.HasRel]))], [], 4⟩) (by kernel_rfl) ?_
    refine jr_callF (i := 2) rfl rfl rfl rfl (vs := [.agg [bs x1.1.Epoch, bs x1.1.Ver, bs x1.1.Rel, bv x1.1.HasRel], .agg [bs x2.1.Epoch, bs x2.1.Ver, bs x2.1.Rel, bv x2.1.HasRel]]) (by kernel_rfl) (snapL_cons rfl (snapL_cons rfl (snapL_nil _))) (all2_cons (fle_refl _) (all2_cons (fle_refl _) all2_nil)) (rpm_Order_ok (S_api_Evr.mk x1.1.Epoch x1.1.Ver x1.1.Rel x1.1.HasRel) (S_api_Evr.mk x2.1.Epoch x2.1.Ver x2.1.Rel x2.1.HasRel)) (fun _ => rfl) (fun _ => rfl) ?_
    intro x5 h5
    refine jr_seg 3 1 [4] [] (st1 := ⟨[(4, .av (iv x5))], [], 4⟩) (by kernel_rfl) ?_
    refine jr_nil rfl ?_
    refine jx_seqN ?_
    refine jc_ret ?_
    exact jx_retF (.inr rfl) (v := iv x5) (by kernel_rfl) rfl (fle_refl _))
end Go.Vm

set_option maxRecDepth 100000
set_option maxHeartbeats 0
set_option linter.unusedVariables false
set_option linter.unusedSimpArgs false
namespace Go.Vm
open Go
abbrev rpm_Text_r1 : List LO := [⟨some 1, Op.box 51 (Operand.tmp 0), 0, none⟩,
  ⟨some 2, Op.assign (Operand.const (Value.string { data := #[] })), 9, none⟩]
abbrev rpm_Text_b2 : LC := .reg false rpm_Text_r1
abbrev rpm_Text_r3 : List LO := [⟨some 3, Op.load 51 (Operand.tmp 1), 51, none⟩,
  ⟨some 4, Op.call { callee := Callee.value (Operand.func 45), args := #[Operand.tmp 3], argTypes := #[51] }, 4, none⟩,
  ⟨some 5, Op.unOp UnOp.not 4 (Operand.tmp 4), 4, none⟩]
abbrev rpm_Text_b4 : LC := .reg false rpm_Text_r3
abbrev rpm_Text_r5 : List LO := [⟨some 2, Op.assign (Operand.const (Value.string { data := #[] })), 9, none⟩]
abbrev rpm_Text_b6 : LC := .reg false rpm_Text_r5
abbrev rpm_Text_b7 : LC := .seq rpm_Text_b6 .ret
abbrev rpm_Text_b8 : LC := .cond (Operand.tmp 5) rpm_Text_b7 .skip
abbrev rpm_Text_b9 : LC := .seq rpm_Text_b4 rpm_Text_b8
abbrev rpm_Text_r10 : List LO := [⟨some 6, Op.load 51 (Operand.tmp 1), 51, none⟩,
  ⟨some 7, Op.call { callee := Callee.value (Operand.func 86), args := #[Operand.tmp 6], argTypes := #[51] }, 9, none⟩,
  ⟨some 2, Op.assign (Operand.tmp 7), 9, none⟩]
abbrev rpm_Text_b11 : LC := .reg false rpm_Text_r10
abbrev rpm_Text_b12 : LC := .seq rpm_Text_b11 .ret
abbrev rpm_Text_b13 : LC := .seq rpm_Text_b9 rpm_Text_b12
abbrev rpm_Text_b14 : LC := .seq rpm_Text_b2 rpm_Text_b13
theorem rpm_Text_k : FnOk E 46 8 [.tmp 2] rpm_Text_b14 := ⟨⟨Go.Proofs.Tryd.f46, by kernel_rfl, by kernel_rfl, by kernel_rfl, by kernel_rfl, by kernel_rfl⟩, rfl⟩
noncomputable def rpm_Text (a0 : S_api_Evr) : Option (Str) := Option.bind (rpm_Fit a0) (fun x1 => (if (!x1) = true then some [] else Option.bind (rpm_text a0) (fun x2 => some x2)))
theorem rpm_Text_ok (a0 : S_api_Evr) : Ct E 46 [.agg [bs a0.Epoch, bs a0.Ver, bs a0.Rel, bv a0.HasRel]] (rpm_Text a0) (fun r : Str => bs r) := ct_intro (N := 8) (L := rpm_Text_b14) rpm_Text_k rfl (Nat.le_of_ble_eq_true rfl) (by kernel_rfl) (by
  unfold rpm_Text
  refine jc_seq ?_
  refine jc_reg ?_
  refine jr_seg 0 2 [1] [0] (st1 := ⟨[(1, .av (.ptr 0 0 4 0))], [(0, .rows 4 [[bs a0.Epoch, bs a0.Ver, bs a0.Rel, bv a0.HasRel]])], 1⟩) (by kernel_rfl) ?_
  refine jr_nil rfl ?_
  refine jx_seqN ?_
  refine jc_seq ?_
  refine jc_seq ?_
  refine jc_reg ?_
  refine jr_seg 0 1 [1, 3] [0] (st1 := ⟨[(1, .av (.ptr 0 0 4 0)), (3, .av (.agg [bs a0.Epoch, bs a0.Ver, bs a0.Rel, bv a0.HasRel]))], [(0, .rows 4 [[bs a0.Epoch, bs a0.Ver, bs a0.Rel, bv a0.HasRel]])], 1⟩) (by kernel_rfl) ?_
  refine jr_callF (i := 1) rfl rfl rfl rfl (vs := [.agg [bs a0.Epoch, bs a0.Ver, bs a0.Rel, bv a0.HasRel]]) (by kernel_rfl) (snapL_cons rfl (snapL_nil _)) (all2_cons (fle_refl _) all2_nil) (rpm_Fit_ok a0) (fun _ => rfl) (fun _ => rfl) ?_
  intro x1 h1
  refine jr_seg 2 1 [1, 5] [0] (st1 := ⟨[(1, .av (.ptr 0 0 4 0)), (5, .av (bv (!x1)))], [(0, .rows 4 [[bs a0.Epoch, bs a0.Ver, bs a0.Rel, bv a0.HasRel]])], 1⟩) (by kernel_rfl) ?_
  refine jr_nil rfl ?_
  refine jx_seqN ?_
  refine jc_cond (g := 5) (c := (!x1)) (by kernel_rfl) ?_ ?_
  · intro _
    refine jc_seq ?_
    refine jc_reg ?_
    refine jr_seg 0 1 [2] [] (st1 := ⟨[(2, .av (bs []))], [], 1⟩) (by kernel_rfl) ?_
    refine jr_nil rfl ?_
    refine jx_seqN ?_
    refine jc_ret ?_
    refine jx_seqR ?_
    exact jx_retF (.inr rfl) (v := bs []) (by kernel_rfl) rfl (fle_refl _)
  · intro _
    refine jc_skip ?_
    refine jx_seqN ?_
    refine jc_seq ?_
    refine jc_reg ?_
    refine jr_seg 0 1 [6] [] (st1 := ⟨[(6, .av (.agg [bs a0.Epoch, bs a0.Ver, bs a0.Rel, bv a0.HasRel]))], [], 1⟩) (by kernel_rfl) ?_
    refine jr_callF (i := 1) rfl rfl rfl rfl (vs := [.agg [bs a0.Epoch, bs a0.Ver, bs a0.Rel, bv a0.HasRel]]) (by kernel_rfl) (snapL_cons rfl (snapL_nil _)) (all2_cons (fle_refl _) all2_nil) (rpm_text_ok a0) (fun _ => rfl) (fun _ => rfl) ?_
    intro x2 h2
    refine jr_seg 2 1 [2] [] (st1 := ⟨[(2, .av (bs x2))], [], 1⟩) (by kernel_rfl) ?_
    refine jr_nil rfl ?_
    refine jx_seqN ?_
    refine jc_ret ?_
    exact jx_retF (.inr rfl) (v := bs x2) (by kernel_rfl) rfl (fle_refl _))
end Go.Vm

set_option maxRecDepth 100000
set_option maxHeartbeats 0
set_option linter.unusedVariables false
set_option linter.unusedSimpArgs false
namespace Go.Vm
open Go
abbrev law05_RpmBack_r1 : List LO := [⟨some 3, Op.box 51 (Operand.tmp 1), 0, none⟩,
  ⟨some 4, Op.assign (Operand.const (Value.bool false)), 4, none⟩]
abbrev law05_RpmBack_b2 : LC := .reg false law05_RpmBack_r1
abbrev law05_RpmBack_r3 : List LO := [⟨some 8, Op.load 51 (Operand.tmp 3), 51, none⟩,
  ⟨some 9, Op.call { callee := Callee.value (Operand.func 45), args := #[Operand.tmp 8], argTypes := #[51] }, 4, none⟩]
abbrev law05_RpmBack_b4 : LC := .reg false law05_RpmBack_r3
abbrev law05_RpmBack_r5 : List LO := [⟨some 11, Op.load 51 (Operand.tmp 3), 51, none⟩,
  ⟨some 12, Op.call { callee := Callee.value (Operand.func 46), args := #[Operand.tmp 11], argTypes := #[51] }, 9, none⟩,
  ⟨some 13, Op.call { callee := Callee.value (Operand.func 37), args := #[Operand.tmp 12], argTypes := #[9] }, 52, none⟩,
  ⟨some 10, Op.move (Operand.tmp 13), 52, none⟩,
  ⟨some 14, Op.extract (Operand.tmp 10) 0, 51, none⟩,
  ⟨some 15, Op.extract (Operand.tmp 10) 1, 44, none⟩,
  ⟨some 5, Op.alloc 51, 0, none⟩,
  ⟨some 6, Op.alloc 44, 0, none⟩,
  ⟨none, Op.store 51 (Operand.tmp 5) (Operand.tmp 14), 0, none⟩,
  ⟨none, Op.store 44 (Operand.tmp 6) (Operand.tmp 15), 0, none⟩]
abbrev law05_RpmBack_b6 : LC := .reg false law05_RpmBack_r5
abbrev law05_RpmBack_r7 : List LO := [⟨some 16, Op.load 44 (Operand.tmp 6), 44, none⟩,
  ⟨some 17, Op.build 44 #[], 44, none⟩,
  ⟨some 18, Op.binOp BinOp.neq 44 (Operand.tmp 16) (Operand.tmp 17) 44, 4, none⟩,
  ⟨some 19, Op.move (Operand.tmp 18), 4, none⟩,
  ⟨some 20, Op.load 51 (Operand.tmp 3), 51, (some (19, false))⟩,
  ⟨some 21, Op.load 51 (Operand.tmp 5), 51, (some (19, false))⟩,
  ⟨some 22, Op.binOp BinOp.neq 51 (Operand.tmp 20) (Operand.tmp 21) 51, 4, (some (19, false))⟩,
  ⟨some 23, Op.pick (Operand.tmp 19) (Operand.const (Value.bool true)) (Operand.tmp 22), 4, none⟩]
abbrev law05_RpmBack_b8 : LC := .reg false law05_RpmBack_r7
abbrev law05_RpmBack_r9 : List LO := [⟨some 4, Op.assign (Operand.const (Value.bool false)), 4, none⟩]
abbrev law05_RpmBack_b10 : LC := .reg false law05_RpmBack_r9
abbrev law05_RpmBack_b11 : LC := .seq law05_RpmBack_b10 .ret
abbrev law05_RpmBack_b12 : LC := .cond (Operand.tmp 23) law05_RpmBack_b11 .skip
abbrev law05_RpmBack_b13 : LC := .seq law05_RpmBack_b8 law05_RpmBack_b12
abbrev law05_RpmBack_b14 : LC := .seq law05_RpmBack_b6 law05_RpmBack_b13
abbrev law05_RpmBack_b15 : LC := .cond (Operand.tmp 9) law05_RpmBack_b14 .skip
abbrev law05_RpmBack_b16 : LC := .seq law05_RpmBack_b4 law05_RpmBack_b15
abbrev law05_RpmBack_r17 : List LO := [⟨some 25, Op.move (Operand.tmp 0), 9, none⟩,
  ⟨some 26, Op.call { callee := Callee.value (Operand.func 37), args := #[Operand.tmp 25], argTypes := #[9] }, 52, none⟩,
  ⟨some 24, Op.move (Operand.tmp 26), 52, none⟩,
  ⟨some 27, Op.extract (Operand.tmp 24) 0, 51, none⟩,
  ⟨some 28, Op.extract (Operand.tmp 24) 1, 44, none⟩,
  ⟨some 7, Op.alloc 44, 0, none⟩,
  ⟨none, Op.store 51 (Operand.tmp 3) (Operand.tmp 27), 0, none⟩,
  ⟨none, Op.store 44 (Operand.tmp 7) (Operand.tmp 28), 0, none⟩]
abbrev law05_RpmBack_b18 : LC := .reg false law05_RpmBack_r17
abbrev law05_RpmBack_r19 : List LO := [⟨some 29, Op.fieldAddr 44 (Operand.tmp 7) 0, 0, none⟩,
  ⟨some 30, Op.load 42 (Operand.tmp 29), 42, none⟩,
  ⟨some 31, Op.binOp BinOp.neq 42 (Operand.tmp 30) (Operand.const (Value.int IntKind.i64 0)) 42, 4, none⟩,
  ⟨some 32, Op.move (Operand.tmp 31), 4, none⟩,
  ⟨some 33, Op.load 51 (Operand.tmp 3), 51, (some (32, false))⟩,
  ⟨some 34, Op.call { callee := Callee.value (Operand.func 45), args := #[Operand.tmp 33], argTypes := #[51] }, 4, (some (32, false))⟩,
  ⟨some 35, Op.move (Operand.tmp 34), 4, (some (32, false))⟩,
  ⟨some 36, Op.load 51 (Operand.tmp 3), 51, (some (35, true))⟩,
  ⟨some 37, Op.call { callee := Callee.value (Operand.func 46), args := #[Operand.tmp 36], argTypes := #[51] }, 9, (some (35, true))⟩,
  ⟨some 38, Op.move (Operand.tmp 0), 9, (some (35, true))⟩,
  ⟨some 39, Op.call { callee := Callee.value (Operand.func 41), args := #[Operand.tmp 37, Operand.tmp 38], argTypes := #[9, 9] }, 3, (some (35, true))⟩,
  ⟨some 40, Op.binOp BinOp.eql 3 (Operand.tmp 39) (Operand.const (Value.int IntKind.i64 0)) 3, 4, (some (35, true))⟩,
  ⟨some 41, Op.pick (Operand.tmp 35) (Operand.tmp 40) (Operand.const (Value.bool false)), 4, (some (32, false))⟩,
  ⟨some 42, Op.pick (Operand.tmp 32) (Operand.const (Value.bool true)) (Operand.tmp 41), 4, none⟩,
  ⟨some 43, Op.move (Operand.tmp 42), 4, none⟩,
  ⟨some 44, Op.call { callee := Callee.value (Operand.func 43), args := #[], argTypes := #[] }, 4, (some (43, true))⟩,
  ⟨some 45, Op.pick (Operand.tmp 43) (Operand.tmp 44) (Operand.const (Value.bool false)), 4, none⟩,
  ⟨some 4, Op.assign (Operand.tmp 45), 4, none⟩]
abbrev law05_RpmBack_b20 : LC := .reg false law05_RpmBack_r19
abbrev law05_RpmBack_b21 : LC := .seq law05_RpmBack_b20 .ret
abbrev law05_RpmBack_b22 : LC := .seq law05_RpmBack_b18 law05_RpmBack_b21
abbrev law05_RpmBack_b23 : LC := .seq law05_RpmBack_b16 law05_RpmBack_b22
abbrev law05_RpmBack_b24 : LC := .seq law05_RpmBack_b2 law05_RpmBack_b23
theorem law05_RpmBack_k : FnOk E 12 46 [.tmp 4] law05_RpmBack_b24 := ⟨⟨Go.Proofs.Tryd.f12, by kernel_rfl, by kernel_rfl, by kernel_rfl, by kernel_rfl, by kernel_rfl⟩, rfl⟩
noncomputable def law05_RpmBack (a0 : Str) (a1 : S_api_Evr) : Option (Bool) := Option.bind (Option.bind (rpm_Fit a1) (fun x4 => (if x4 = true then Option.bind (rpm_Text a1) (fun x5 => Option.bind (rpm_Parse x5) (fun x6 => (if ((!((x6.2.Err == 0) && (x6.2.At == 0))) || (!((a1.Epoch == x6.1.Epoch) && ((a1.Ver == x6.1.Ver) && ((a1.Rel == x6.1.Rel) && (a1.HasRel == x6.1.HasRel)))))) = true then some (Sum.inl ()) else some (Sum.inr ())))) else some (Sum.inr ()))) : Option ((Unit) ⊕ (Unit))) (fun y => match y with | Sum.inl _ => some false | Sum.inr _ => Option.bind (rpm_Parse a0) (fun x7 => Option.bind (if (x7.2.Err != 0) = true then some true else Option.bind (rpm_Fit (S_api_Evr.mk x7.1.Epoch x7.1.Ver x7.1.Rel x7.1.HasRel)) (fun x13 => Option.bind (if x13 = true then Option.bind (rpm_Text (S_api_Evr.mk x7.1.Epoch x7.1.Ver x7.1.Rel x7.1.HasRel)) (fun x17 => Option.bind (rpm_Compare x17 a0) (fun x18 => some (x18 == 0))) else some false : Option (Bool)) (fun x16 => some (false || x16))) : Option (Bool)) (fun x12 => Option.bind (if x12 = true then Option.bind (law05_awake) (fun x21 => some x21) else some false : Option (Bool)) (fun x20 => some x20))))
theorem law05_RpmBack_ok (a0 : Str) (a1 : S_api_Evr) : Ct E 12 [bs a0, .agg [bs a1.Epoch, bs a1.Ver, bs a1.Rel, bv a1.HasRel]] (law05_RpmBack a0 a1) (fun r : Bool => bv r) := ct_intro (N := 46) (L := law05_RpmBack_b24) law05_RpmBack_k rfl (Nat.le_of_ble_eq_true rfl) (by kernel_rfl) (by
  unfold law05_RpmBack
  refine jc_seq ?_
  refine jc_reg ?_
  refine jr_seg 0 2 [0, 3] [0] (st1 := ⟨[(0, .av (bs a0)), (3, .av (.ptr 0 0 4 0))], [(0, .rows 4 [[bs a1.Epoch, bs a1.Ver, bs a1.Rel, bv a1.HasRel]])], 1⟩) (by kernel_rfl) ?_
  refine jr_nil rfl ?_
  refine jx_seqN ?_
  refine jc_seq ?_
  refine jc_bind (fun y => match y with | Sum.inl _ => ⟨[(4, .av (bv false))], [], 0⟩ | Sum.inr _ => ⟨[(0, .av (bs a0)), (3, .av (.ptr 0 0 4 0))], [(0, .rows 4 [[bs a1.Epoch, bs a1.Ver, bs a1.Rel, bv a1.HasRel]])], 1⟩) (fun y => match y with | Sum.inl _ => .ret | Sum.inr _ => .normal) ?_ ?_
  · refine jc_seq ?_
    refine jc_reg ?_
    refine jr_seg 0 1 [0, 3, 8] [0] (st1 := ⟨[(0, .av (bs a0)), (3, .av (.ptr 0 0 4 0)), (8, .av (.agg [bs a1.Epoch, bs a1.Ver, bs a1.Rel, bv a1.HasRel]))], [(0, .rows 4 [[bs a1.Epoch, bs a1.Ver, bs a1.Rel, bv a1.HasRel]])], 1⟩) (by kernel_rfl) ?_
    refine jr_callF (i := 1) rfl rfl rfl rfl (vs := [.agg [bs a1.Epoch, bs a1.Ver, bs a1.Rel, bv a1.HasRel]]) (by kernel_rfl) (snapL_cons rfl (snapL_nil _)) (all2_cons (fle_refl _) all2_nil) (rpm_Fit_ok a1) (fun _ => rfl) (fun _ => rfl) ?_
    intro x4 h4
    refine jr_nil rfl ?_
    refine jx_seqN ?_
    refine jc_cond (g := 9) (c := x4) (by kernel_rfl) ?_ ?_
    · intro _
      refine jc_seq ?_
      refine jc_reg ?_
      refine jr_seg 0 1 [0, 3, 11] [0] (st1 := ⟨[(0, .av (bs a0)), (3, .av (.ptr 0 0 4 0)), (11, .av (.agg [bs a1.Epoch, bs a1.Ver, bs a1.Rel, bv a1.HasRel]))], [(0, .rows 4 [[bs a1.Epoch, bs a1.Ver, bs a1.Rel, bv a1.HasRel]])], 1⟩) (by kernel_rfl) ?_
      refine jr_callF (i := 1) rfl rfl rfl rfl (vs := [.agg [bs a1.Epoch, bs a1.Ver, bs a1.Rel, bv a1.HasRel]]) (by kernel_rfl) (snapL_cons rfl (snapL_nil _)) (all2_cons (fle_refl _) all2_nil) (rpm_Text_ok a1) (fun _ => rfl) (fun _ => rfl) ?_
      intro x5 h5
      refine jr_callF (i := 2) rfl rfl rfl rfl (vs := [bs x5]) (by kernel_rfl) (snapL_cons rfl (snapL_nil _)) (all2_cons (fle_refl _) all2_nil) (rpm_Parse_ok x5) (fun _ => rfl) (fun _ => rfl) ?_
      intro x6 h6
      refine jr_seg 3 7 [0, 3, 5, 6] [0, 1, 2] (st1 := ⟨[(0, .av (bs a0)), (3, .av (.ptr 0 0 4 0)), (5, .av (.ptr 1 0 4 0)), (6, .av (.ptr 2 0 2 0))], [(0, .rows 4 [[bs a1.Epoch, bs a1.Ver, bs a1.Rel, bv a1.HasRel]]), (1, .rows 4 [[bs x6.1.Epoch, bs x6.1.Ver, bs x6.1.Rel, bv x6.1.HasRel]]), (2, .rows 2 [[iv x6.2.Err, iv x6.2.At]])], 3⟩) (by kernel_rfl) ?_
      refine jr_nil rfl ?_
      refine jx_seqN ?_
      refine jc_seq ?_
      refine jc_reg ?_
      refine jr_seg 0 8 [0, 3, 23] [0] (st1 := ⟨[(0, .av (bs a0)), (3, .av (.ptr 0 0 4 0)), (23, .av (bv ((!((x6.2.Err == 0) && (x6.2.At == 0))) || (!((a1.Epoch == x6.1.Epoch) && ((a1.Ver == x6.1.Ver) && ((a1.Rel == x6.1.Rel) && (a1.HasRel == x6.1.HasRel))))))))], [(0, .rows 4 [[bs a1.Epoch, bs a1.Ver, bs a1.Rel, bv a1.HasRel]])], 3⟩) (by kernel_rfl) ?_
      refine jr_nil rfl ?_
      refine jx_seqN ?_
      refine jc_cond (g := 23) (c := ((!((x6.2.Err == 0) && (x6.2.At == 0))) || (!((a1.Epoch == x6.1.Epoch) && ((a1.Ver == x6.1.Ver) && ((a1.Rel == x6.1.Rel) && (a1.HasRel == x6.1.HasRel))))))) (by kernel_rfl) ?_ ?_
      · intro _
        refine jc_seq ?_
        refine jc_reg ?_
        refine jr_seg 0 1 [4] [] (st1 := ⟨[(4, .av (bv false))], [], 3⟩) (by kernel_rfl) ?_
        refine jr_nil rfl ?_
        refine jx_seqN ?_
        refine jc_ret ?_
        exact jx_mid rfl (wk_ren [] (fix_nil _) rfl (by kernel_rfl) allp_nil)
      · intro _
        refine jc_skip ?_
        exact jx_mid rfl (wk_ren [(0, some 0)] (fix_nil _) rfl (by kernel_rfl) (allp_cons (.inl ⟨0, _, _, _, rfl, rfl, rfl, .inl (by kernel_rfl)⟩) allp_nil))
    · intro _
      refine jc_skip ?_
      exact jx_mid rfl (wk_ren [(0, some 0)] (fix_nil _) rfl (by kernel_rfl) (allp_cons (.inl ⟨0, _, _, _, rfl, rfl, rfl, .inl (by kernel_rfl)⟩) allp_nil))
  · rintro (_ | _)
    · refine jx_seqR ?_
      exact jx_retF (.inr rfl) (v := bv false) (by kernel_rfl) rfl (fle_refl _)
    · refine jx_seqN ?_
      refine jc_seq ?_
      refine jc_reg ?_
      refine jr_seg 0 1 [0, 3, 25] [0] (st1 := ⟨[(0, .av (bs a0)), (3, .av (.ptr 0 0 4 0)), (25, .av (bs a0))], [(0, .rows 4 [[bs a1.Epoch, bs a1.Ver, bs a1.Rel, bv a1.HasRel]])], 1⟩) (by kernel_rfl) ?_
      refine jr_callF (i := 1) rfl rfl rfl rfl (vs := [bs a0]) (by kernel_rfl) (snapL_cons rfl (snapL_nil _)) (all2_cons (fle_refl _) all2_nil) (rpm_Parse_ok a0) (fun _ => rfl) (fun _ => rfl) ?_
      intro x7 h7
      refine jr_seg 2 6 [0, 3, 7] [0, 1] (st1 := ⟨[(0, .av (bs a0)), (3, .av (.ptr 0 0 4 0)), (7, .av (.ptr 1 0 2 0))], [(0, .rows 4 [[bs x7.1.Epoch, bs x7.1.Ver, bs x7.1.Rel, bv x7.1.HasRel]]), (1, .rows 2 [[iv x7.2.Err, iv x7.2.At]])], 2⟩) (by kernel_rfl) ?_
      refine jr_nil rfl ?_
      refine jx_seqN ?_
      refine jc_seq ?_
      refine jc_reg ?_
      refine jr_seg 0 4 [0, 3, 32] [0] (st1 := ⟨[(0, .av (bs a0)), (3, .av (.ptr 0 0 4 0)), (32, .av (bv (x7.2.Err != 0)))], [(0, .rows 4 [[bs x7.1.Epoch, bs x7.1.Ver, bs x7.1.Rel, bv x7.1.HasRel]])], 2⟩) (by kernel_rfl) ?_
      refine jr_bind 4 10 (fun x12 => ⟨[(42, .av (bv x12))], [], 0⟩) ?_ ?_
      · refine jr_split (g := 32) (c := (x7.2.Err != 0)) (by kernel_rfl) ?_ ?_
        · intro _
          refine jr_seg 0 10 [42] [] (st1 := ⟨[(42, .av (bv true))], [], 2⟩) (by kernel_rfl) ?_
          refine jr_nil rfl ?_
          exact jx_mid rfl (wk_ren [] (fix_nil _) rfl (by kernel_rfl) allp_nil)
        · intro _
          refine jr_seg 0 1 [0, 3, 32, 33] [0] (st1 := ⟨[(0, .av (bs a0)), (3, .av (.ptr 0 0 4 0)), (32, .lit false), (33, .av (.agg [bs x7.1.Epoch, bs x7.1.Ver, bs x7.1.Rel, bv x7.1.HasRel]))], [(0, .rows 4 [[bs x7.1.Epoch, bs x7.1.Ver, bs x7.1.Rel, bv x7.1.HasRel]])], 2⟩) (by kernel_rfl) ?_
          refine jr_callF (i := 1) rfl rfl rfl rfl (vs := [.agg [bs x7.1.Epoch, bs x7.1.Ver, bs x7.1.Rel, bv x7.1.HasRel]]) (by kernel_rfl) (snapL_cons rfl (snapL_nil _)) (all2_cons (fle_refl _) all2_nil) (rpm_Fit_ok (S_api_Evr.mk x7.1.Epoch x7.1.Ver x7.1.Rel x7.1.HasRel)) (fun _ => rfl) (fun _ => rfl) ?_
          intro x13 h13
          refine jr_seg 2 1 [0, 3, 32, 35] [0] (st1 := ⟨[(0, .av (bs a0)), (3, .av (.ptr 0 0 4 0)), (32, .lit false), (35, .av (bv x13))], [(0, .rows 4 [[bs x7.1.Epoch, bs x7.1.Ver, bs x7.1.Rel, bv x7.1.HasRel]])], 2⟩) (by kernel_rfl) ?_
          refine jr_bind 3 6 (fun x16 => ⟨[(32, .av (bv false)), (41, .av (bv x16))], [], 0⟩) ?_ ?_
          · refine jr_split (g := 35) (c := x13) (by kernel_rfl) ?_ ?_
            · intro _
              refine jr_seg 0 1 [0, 32, 35, 36] [] (st1 := ⟨[(0, .av (bs a0)), (32, .lit false), (35, .lit true), (36, .av (.agg [bs x7.1.Epoch, bs x7.1.Ver, bs x7.1.Rel, bv x7.1.HasRel]))], [], 2⟩) (by kernel_rfl) ?_
              refine jr_callF (i := 1) rfl rfl rfl rfl (vs := [.agg [bs x7.1.Epoch, bs x7.1.Ver, bs x7.1.Rel, bv x7.1.HasRel]]) (by kernel_rfl) (snapL_cons rfl (snapL_nil _)) (all2_cons (fle_refl _) all2_nil) (rpm_Text_ok (S_api_Evr.mk x7.1.Epoch x7.1.Ver x7.1.Rel x7.1.HasRel)) (fun _ => rfl) (fun _ => rfl) ?_
              intro x17 h17
              refine jr_seg 2 1 [32, 35, 37, 38] [] (st1 := ⟨[(32, .lit false), (35, .lit true), (37, .av (bs x17)), (38, .av (bs a0))], [], 2⟩) (by kernel_rfl) ?_
              refine jr_callF (i := 3) rfl rfl rfl rfl (vs := [bs x17, bs a0]) (by kernel_rfl) (snapL_cons rfl (snapL_cons rfl (snapL_nil _))) (all2_cons (fle_refl _) (all2_cons (fle_refl _) all2_nil)) (rpm_Compare_ok x17 a0) (fun _ => rfl) (fun _ => rfl) ?_
              intro x18 h18
              refine jr_seg 4 2 [32, 41] [] (st1 := ⟨[(32, .lit false), (41, .av (bv (x18 == 0)))], [], 2⟩) (by kernel_rfl) ?_
              refine jr_nil rfl ?_
              exact jx_mid rfl (wk_ren [] (fix_nil _) rfl (by kernel_rfl) allp_nil)
            · intro _
              refine jr_seg 0 6 [32, 41] [] (st1 := ⟨[(32, .lit false), (41, .av (bv false))], [], 2⟩) (by kernel_rfl) ?_
              refine jr_nil rfl ?_
              exact jx_mid rfl (wk_ren [] (fix_nil _) rfl (by kernel_rfl) allp_nil)
          · intro x16
            refine jr_seg 9 1 [42] [] (st1 := ⟨[(42, .av (bv (false || x16)))], [], 0⟩) (by kernel_rfl) ?_
            refine jr_nil rfl ?_
            exact jx_mid rfl (wk_ren [] (fix_nil _) rfl (by kernel_rfl) allp_nil)
      · intro x12
        refine jr_seg 14 1 [43] [] (st1 := ⟨[(43, .av (bv x12))], [], 0⟩) (by kernel_rfl) ?_
        refine jr_bind 15 2 (fun x20 => ⟨[(45, .av (bv x20))], [], 0⟩) ?_ ?_
        · refine jr_split (g := 43) (c := x12) (by kernel_rfl) ?_ ?_
          · intro _
            refine jr_callF (i := 0) rfl rfl rfl rfl (vs := []) (by kernel_rfl) (snapL_nil _) all2_nil (law05_awake_ok) (fun _ => rfl) (fun _ => rfl) ?_
            intro x21 h21
            refine jr_seg 1 1 [45] [] (st1 := ⟨[(45, .av (bv x21))], [], 0⟩) (by kernel_rfl) ?_
            refine jr_nil rfl ?_
            exact jx_mid rfl (wk_ren [] (fix_nil _) rfl (by kernel_rfl) allp_nil)
          · intro _
            refine jr_seg 0 2 [45] [] (st1 := ⟨[(45, .av (bv false))], [], 0⟩) (by kernel_rfl) ?_
            refine jr_nil rfl ?_
            exact jx_mid rfl (wk_ren [] (fix_nil _) rfl (by kernel_rfl) allp_nil)
        · intro x20
          refine jr_seg 17 1 [4] [] (st1 := ⟨[(4, .av (bv x20))], [], 0⟩) (by kernel_rfl) ?_
          refine jr_nil rfl ?_
          refine jx_seqN ?_
          refine jc_ret ?_
          exact jx_retF (.inr rfl) (v := bv x20) (by kernel_rfl) rfl (fle_refl _))
end Go.Vm

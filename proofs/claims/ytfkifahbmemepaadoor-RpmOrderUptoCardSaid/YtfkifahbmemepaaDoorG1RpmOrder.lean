/- The law RpmOrder, a part of its proof: what the functions that it reaches compute. -/
import Derived.Test.YtfkifahbmemepaaDoorG0RpmOrder
import Derived.Test.YtfkifahbmemepaaDoorW05RpmOrder
set_option maxRecDepth 100000
set_option maxHeartbeats 0
set_option linter.unusedVariables false
set_option linter.unusedSimpArgs false
namespace Go.Vm
open Go
abbrev rpm_Order_r1 : List LO := [⟨some 2, Op.box 51 (Operand.tmp 0), 0, none⟩,
  ⟨some 3, Op.box 51 (Operand.tmp 1), 0, none⟩,
  ⟨some 4, Op.assign (Operand.const (Value.int IntKind.i64 0)), 3, none⟩]
abbrev rpm_Order_b2 : LC := .reg false rpm_Order_r1
abbrev rpm_Order_r3 : List LO := [⟨some 5, Op.load 51 (Operand.tmp 2), 51, none⟩,
  ⟨some 6, Op.call { callee := Callee.value (Operand.func 45), args := #[Operand.tmp 5], argTypes := #[51] }, 4, none⟩,
  ⟨some 7, Op.unOp UnOp.not 4 (Operand.tmp 6), 4, none⟩,
  ⟨some 8, Op.move (Operand.tmp 7), 4, none⟩,
  ⟨some 9, Op.load 51 (Operand.tmp 3), 51, (some (8, false))⟩,
  ⟨some 10, Op.call { callee := Callee.value (Operand.func 45), args := #[Operand.tmp 9], argTypes := #[51] }, 4, (some (8, false))⟩,
  ⟨some 11, Op.unOp UnOp.not 4 (Operand.tmp 10), 4, (some (8, false))⟩,
  ⟨some 12, Op.pick (Operand.tmp 8) (Operand.const (Value.bool true)) (Operand.tmp 11), 4, none⟩]
abbrev rpm_Order_b4 : LC := .reg false rpm_Order_r3
abbrev rpm_Order_r5 : List LO := [⟨some 4, Op.assign (Operand.const (Value.int IntKind.i64 0)), 3, none⟩]
abbrev rpm_Order_b6 : LC := .reg false rpm_Order_r5
abbrev rpm_Order_b7 : LC := .seq rpm_Order_b6 .ret
abbrev rpm_Order_b8 : LC := .cond (Operand.tmp 12) rpm_Order_b7 .skip
abbrev rpm_Order_b9 : LC := .seq rpm_Order_b4 rpm_Order_b8
abbrev rpm_Order_r10 : List LO := [⟨some 13, Op.fieldAddr 51 (Operand.tmp 2) 0, 0, none⟩,
  ⟨some 14, Op.load 9 (Operand.tmp 13), 9, none⟩,
  ⟨some 15, Op.fieldAddr 51 (Operand.tmp 3) 0, 0, none⟩,
  ⟨some 16, Op.load 9 (Operand.tmp 15), 9, none⟩,
  ⟨some 17, Op.call { callee := Callee.value (Operand.func 17), args := #[Operand.tmp 14, Operand.tmp 16], argTypes := #[9, 9] }, 3, none⟩,
  ⟨some 18, Op.fieldAddr 51 (Operand.tmp 2) 1, 0, none⟩,
  ⟨some 19, Op.load 9 (Operand.tmp 18), 9, none⟩,
  ⟨some 20, Op.fieldAddr 51 (Operand.tmp 3) 1, 0, none⟩,
  ⟨some 21, Op.load 9 (Operand.tmp 20), 9, none⟩,
  ⟨some 22, Op.call { callee := Callee.value (Operand.func 39), args := #[Operand.tmp 19, Operand.tmp 21], argTypes := #[9, 9] }, 3, none⟩,
  ⟨some 23, Op.fieldAddr 51 (Operand.tmp 2) 3, 0, none⟩,
  ⟨some 24, Op.load 4 (Operand.tmp 23), 4, none⟩,
  ⟨some 25, Op.call { callee := Callee.value (Operand.func 83), args := #[Operand.tmp 24], argTypes := #[4] }, 3, none⟩,
  ⟨some 26, Op.fieldAddr 51 (Operand.tmp 3) 3, 0, none⟩,
  ⟨some 27, Op.load 4 (Operand.tmp 26), 4, none⟩,
  ⟨some 28, Op.call { callee := Callee.value (Operand.func 83), args := #[Operand.tmp 27], argTypes := #[4] }, 3, none⟩,
  ⟨some 29, Op.binOp BinOp.sub 3 (Operand.tmp 25) (Operand.tmp 28) 3, 3, none⟩,
  ⟨some 30, Op.fieldAddr 51 (Operand.tmp 2) 2, 0, none⟩,
  ⟨some 31, Op.load 9 (Operand.tmp 30), 9, none⟩,
  ⟨some 32, Op.fieldAddr 51 (Operand.tmp 3) 2, 0, none⟩,
  ⟨some 33, Op.load 9 (Operand.tmp 32), 9, none⟩,
  ⟨some 34, Op.call { callee := Callee.value (Operand.func 39), args := #[Operand.tmp 31, Operand.tmp 33], argTypes := #[9, 9] }, 3, none⟩,
  ⟨some 35, Op.buildSlice 129 4 #[(0, Operand.tmp 17), (1, Operand.tmp 22), (2, Operand.tmp 29), (3, Operand.tmp 34)], 129, none⟩,
  ⟨some 36, Op.call { callee := Callee.value (Operand.func 64), args := #[Operand.tmp 35], argTypes := #[129] }, 3, none⟩,
  ⟨some 4, Op.assign (Operand.tmp 36), 3, none⟩]
abbrev rpm_Order_b11 : LC := .reg true rpm_Order_r10
abbrev rpm_Order_b12 : LC := .seq rpm_Order_b11 .ret
abbrev rpm_Order_b13 : LC := .seq rpm_Order_b9 rpm_Order_b12
abbrev rpm_Order_b14 : LC := .seq rpm_Order_b2 rpm_Order_b13
theorem rpm_Order_k : FnOk E 48 37 [.tmp 4] rpm_Order_b14 := ⟨⟨Go.Proofs.Tryd.f48, by kernel_rfl, by kernel_rfl, by kernel_rfl, by kernel_rfl, by kernel_rfl⟩, rfl⟩
noncomputable def rpm_Order (a0 : S_api_Evr) (a1 : S_api_Evr) : Option (Int) := Option.bind (rpm_Fit a0) (fun x1 => Option.bind (if (!x1) = true then some true else Option.bind (rpm_Fit a1) (fun x4 => some (!x4)) : Option (Bool)) (fun x3 => (if x3 = true then some 0 else Option.bind (scan_Cmp a0.Epoch a1.Epoch) (fun x5 => Option.bind (rpm_Segments a0.Ver a1.Ver) (fun x6 => Option.bind (rpm_truth a0.HasRel) (fun x7 => Option.bind (rpm_truth a1.HasRel) (fun x8 => Option.bind (rpm_Segments a0.Rel a1.Rel) (fun x9 => Option.bind (cmp_Or_int [x5, x6, (w64 (x7 - x8)), x9]) (fun x10 => some x10)))))))))
theorem rpm_Order_ok (a0 : S_api_Evr) (a1 : S_api_Evr) : Ct E 48 [.agg [bs a0.Epoch, bs a0.Ver, bs a0.Rel, bv a0.HasRel], .agg [bs a1.Epoch, bs a1.Ver, bs a1.Rel, bv a1.HasRel]] (rpm_Order a0 a1) (fun r : Int => iv r) := ct_intro (N := 37) (L := rpm_Order_b14) rpm_Order_k rfl (Nat.le_of_ble_eq_true rfl) (by kernel_rfl) (by
  unfold rpm_Order
  refine jc_seq ?_
  refine jc_reg ?_
  refine jr_seg 0 3 [2, 3] [0, 1] (st1 := ⟨[(2, .av (.ptr 0 0 4 0)), (3, .av (.ptr 1 0 4 0))], [(0, .rows 4 [[bs a0.Epoch, bs a0.Ver, bs a0.Rel, bv a0.HasRel]]), (1, .rows 4 [[bs a1.Epoch, bs a1.Ver, bs a1.Rel, bv a1.HasRel]])], 2⟩) (by kernel_rfl) ?_
  refine jr_nil rfl ?_
  refine jx_seqN ?_
  refine jc_seq ?_
  refine jc_seq ?_
  refine jc_reg ?_
  refine jr_seg 0 1 [2, 3, 5] [0, 1] (st1 := ⟨[(2, .av (.ptr 0 0 4 0)), (3, .av (.ptr 1 0 4 0)), (5, .av (.agg [bs a0.Epoch, bs a0.Ver, bs a0.Rel, bv a0.HasRel]))], [(0, .rows 4 [[bs a0.Epoch, bs a0.Ver, bs a0.Rel, bv a0.HasRel]]), (1, .rows 4 [[bs a1.Epoch, bs a1.Ver, bs a1.Rel, bv a1.HasRel]])], 2⟩) (by kernel_rfl) ?_
  refine jr_callF (i := 1) rfl rfl rfl rfl (vs := [.agg [bs a0.Epoch, bs a0.Ver, bs a0.Rel, bv a0.HasRel]]) (by kernel_rfl) (snapL_cons rfl (snapL_nil _)) (all2_cons (fle_refl _) all2_nil) (rpm_Fit_ok a0) (fun _ => rfl) (fun _ => rfl) ?_
  intro x1 h1
  refine jr_seg 2 2 [2, 3, 8] [0, 1] (st1 := ⟨[(2, .av (.ptr 0 0 4 0)), (3, .av (.ptr 1 0 4 0)), (8, .av (bv (!x1)))], [(0, .rows 4 [[bs a0.Epoch, bs a0.Ver, bs a0.Rel, bv a0.HasRel]]), (1, .rows 4 [[bs a1.Epoch, bs a1.Ver, bs a1.Rel, bv a1.HasRel]])], 2⟩) (by kernel_rfl) ?_
  refine jr_bind 4 4 (fun x3 => ⟨[(2, .av (.ptr 0 0 4 0)), (3, .av (.ptr 1 0 4 0)), (12, .av (bv x3))], [(0, .rows 4 [[bs a0.Epoch, bs a0.Ver, bs a0.Rel, bv a0.HasRel]]), (1, .rows 4 [[bs a1.Epoch, bs a1.Ver, bs a1.Rel, bv a1.HasRel]])], 2⟩) ?_ ?_
  · refine jr_split (g := 8) (c := (!x1)) (by kernel_rfl) ?_ ?_
    · intro _
      refine jr_seg 0 4 [2, 3, 12] [0, 1] (st1 := ⟨[(2, .av (.ptr 0 0 4 0)), (3, .av (.ptr 1 0 4 0)), (12, .av (bv true))], [(0, .rows 4 [[bs a0.Epoch, bs a0.Ver, bs a0.Rel, bv a0.HasRel]]), (1, .rows 4 [[bs a1.Epoch, bs a1.Ver, bs a1.Rel, bv a1.HasRel]])], 2⟩) (by kernel_rfl) ?_
      refine jr_nil rfl ?_
      exact jx_mid rfl (wk_ren [(0, some 0), (1, some 1)] (fix_nil _) rfl (by kernel_rfl) (allp_cons (.inl ⟨0, _, _, _, rfl, rfl, rfl, .inl (by kernel_rfl)⟩) (allp_cons (.inl ⟨1, _, _, _, rfl, rfl, rfl, .inl (by kernel_rfl)⟩) allp_nil)))
    · intro _
      refine jr_seg 0 1 [2, 3, 8, 9] [0, 1] (st1 := ⟨[(2, .av (.ptr 0 0 4 0)), (3, .av (.ptr 1 0 4 0)), (8, .lit false), (9, .av (.agg [bs a1.Epoch, bs a1.Ver, bs a1.Rel, bv a1.HasRel]))], [(0, .rows 4 [[bs a0.Epoch, bs a0.Ver, bs a0.Rel, bv a0.HasRel]]), (1, .rows 4 [[bs a1.Epoch, bs a1.Ver, bs a1.Rel, bv a1.HasRel]])], 2⟩) (by kernel_rfl) ?_
      refine jr_callF (i := 1) rfl rfl rfl rfl (vs := [.agg [bs a1.Epoch, bs a1.Ver, bs a1.Rel, bv a1.HasRel]]) (by kernel_rfl) (snapL_cons rfl (snapL_nil _)) (all2_cons (fle_refl _) all2_nil) (rpm_Fit_ok a1) (fun _ => rfl) (fun _ => rfl) ?_
      intro x4 h4
      refine jr_seg 2 2 [2, 3, 12] [0, 1] (st1 := ⟨[(2, .av (.ptr 0 0 4 0)), (3, .av (.ptr 1 0 4 0)), (12, .av (bv (!x4)))], [(0, .rows 4 [[bs a0.Epoch, bs a0.Ver, bs a0.Rel, bv a0.HasRel]]), (1, .rows 4 [[bs a1.Epoch, bs a1.Ver, bs a1.Rel, bv a1.HasRel]])], 2⟩) (by kernel_rfl) ?_
      refine jr_nil rfl ?_
      exact jx_mid rfl (wk_ren [(0, some 0), (1, some 1)] (fix_nil _) rfl (by kernel_rfl) (allp_cons (.inl ⟨0, _, _, _, rfl, rfl, rfl, .inl (by kernel_rfl)⟩) (allp_cons (.inl ⟨1, _, _, _, rfl, rfl, rfl, .inl (by kernel_rfl)⟩) allp_nil)))
  · intro x3
    refine jr_nil rfl ?_
    refine jx_seqN ?_
    refine jc_cond (g := 12) (c := x3) (by kernel_rfl) ?_ ?_
    · intro _
      refine jc_seq ?_
      refine jc_reg ?_
      refine jr_seg 0 1 [4] [] (st1 := ⟨[(4, .av (iv 0))], [], 2⟩) (by kernel_rfl) ?_
      refine jr_nil rfl ?_
      refine jx_seqN ?_
      refine jc_ret ?_
      refine jx_seqR ?_
      exact jx_retF (.inr rfl) (v := iv 0) (by kernel_rfl) rfl (fle_refl _)
    · intro _
      refine jc_skip ?_
      refine jx_seqN ?_
      refine jc_seq ?_
      refine jc_reg ?_
      refine jr_seg 0 4 [2, 3, 14, 16] [0, 1] (st1 := ⟨[(2, .av (.ptr 0 0 4 0)), (3, .av (.ptr 1 0 4 0)), (14, .av (bs a0.Epoch)), (16, .av (bs a1.Epoch))], [(0, .rows 4 [[bs a0.Epoch, bs a0.Ver, bs a0.Rel, bv a0.HasRel]]), (1, .rows 4 [[bs a1.Epoch, bs a1.Ver, bs a1.Rel, bv a1.HasRel]])], 2⟩) (by kernel_rfl) ?_
      refine jr_callF (i := 4) rfl rfl rfl rfl (vs := [bs a0.Epoch, bs a1.Epoch]) (by kernel_rfl) (snapL_cons rfl (snapL_cons rfl (snapL_nil _))) (all2_cons (fle_refl _) (all2_cons (fle_refl _) all2_nil)) (scan_Cmp_ok a0.Epoch a1.Epoch) (fun _ => rfl) (fun _ => rfl) ?_
      intro x5 h5
      refine jr_seg 5 4 [2, 3, 17, 19, 21] [0, 1] (st1 := ⟨[(2, .av (.ptr 0 0 4 0)), (3, .av (.ptr 1 0 4 0)), (17, .av (iv x5)), (19, .av (bs a0.Ver)), (21, .av (bs a1.Ver))], [(0, .rows 4 [[bs a0.Epoch, bs a0.Ver, bs a0.Rel, bv a0.HasRel]]), (1, .rows 4 [[bs a1.Epoch, bs a1.Ver, bs a1.Rel, bv a1.HasRel]])], 2⟩) (by kernel_rfl) ?_
      refine jr_callF (i := 9) rfl rfl rfl rfl (vs := [bs a0.Ver, bs a1.Ver]) (by kernel_rfl) (snapL_cons rfl (snapL_cons rfl (snapL_nil _))) (all2_cons (fle_refl _) (all2_cons (fle_refl _) all2_nil)) (rpm_Segments_ok a0.Ver a1.Ver) (fun _ => rfl) (fun _ => rfl) ?_
      intro x6 h6
      refine jr_seg 10 2 [2, 3, 17, 22, 24] [0, 1] (st1 := ⟨[(2, .av (.ptr 0 0 4 0)), (3, .av (.ptr 1 0 4 0)), (17, .av (iv x5)), (22, .av (iv x6)), (24, .av (bv a0.HasRel))], [(0, .rows 4 [[bs a0.Epoch, bs a0.Ver, bs a0.Rel, bv a0.HasRel]]), (1, .rows 4 [[bs a1.Epoch, bs a1.Ver, bs a1.Rel, bv a1.HasRel]])], 2⟩) (by kernel_rfl) ?_
      refine jr_callF (i := 12) rfl rfl rfl rfl (vs := [bv a0.HasRel]) (by kernel_rfl) (snapL_cons rfl (snapL_nil _)) (all2_cons (fle_refl _) all2_nil) (rpm_truth_ok a0.HasRel) (fun _ => rfl) (fun _ => rfl) ?_
      intro x7 h7
      refine jr_seg 13 2 [2, 3, 17, 22, 25, 27] [0, 1] (st1 := ⟨[(2, .av (.ptr 0 0 4 0)), (3, .av (.ptr 1 0 4 0)), (17, .av (iv x5)), (22, .av (iv x6)), (25, .av (iv x7)), (27, .av (bv a1.HasRel))], [(0, .rows 4 [[bs a0.Epoch, bs a0.Ver, bs a0.Rel, bv a0.HasRel]]), (1, .rows 4 [[bs a1.Epoch, bs a1.Ver, bs a1.Rel, bv a1.HasRel]])], 2⟩) (by kernel_rfl) ?_
      refine jr_callF (i := 15) rfl rfl rfl rfl (vs := [bv a1.HasRel]) (by kernel_rfl) (snapL_cons rfl (snapL_nil _)) (all2_cons (fle_refl _) all2_nil) (rpm_truth_ok a1.HasRel) (fun _ => rfl) (fun _ => rfl) ?_
      intro x8 h8
      refine jr_seg 16 5 [17, 22, 29, 31, 33] [] (st1 := ⟨[(17, .av (iv x5)), (22, .av (iv x6)), (29, .av (iv (w64 (x7 - x8)))), (31, .av (bs a0.Rel)), (33, .av (bs a1.Rel))], [], 2⟩) (by kernel_rfl) ?_
      refine jr_callF (i := 21) rfl rfl rfl rfl (vs := [bs a0.Rel, bs a1.Rel]) (by kernel_rfl) (snapL_cons rfl (snapL_cons rfl (snapL_nil _))) (all2_cons (fle_refl _) (all2_cons (fle_refl _) all2_nil)) (rpm_Segments_ok a0.Rel a1.Rel) (fun _ => rfl) (fun _ => rfl) ?_
      intro x9 h9
      refine jr_seg 22 1 [35] [] (st1 := ⟨[(35, .av (.fsl 1 (List.map cI [x5, x6, (w64 (x7 - x8)), x9])))], [], 2⟩) (by kernel_rfl) ?_
      refine jr_callF (i := 23) rfl rfl rfl rfl (vs := [.fsl 1 (List.map cI [x5, x6, (w64 (x7 - x8)), x9])]) (by kernel_rfl) (snapL_cons rfl (snapL_nil _)) (all2_cons (fle_refl _) all2_nil) (cmp_Or_int_ok [x5, x6, (w64 (x7 - x8)), x9]) (fun _ => rfl) (fun _ => rfl) ?_
      intro x10 h10
      refine jr_seg 24 1 [4] [] (st1 := ⟨[(4, .av (iv x10))], [], 2⟩) (by kernel_rfl) ?_
      refine jr_nil rfl ?_
      refine jx_seqN ?_
      refine jc_ret ?_
      exact jx_retF (.inr rfl) (v := iv x10) (by kernel_rfl) rfl (fle_refl _))
end Go.Vm

set_option maxRecDepth 100000
set_option maxHeartbeats 0
set_option linter.unusedVariables false
set_option linter.unusedSimpArgs false
namespace Go.Vm
open Go
abbrev rpm_Compare_r1 : List LO := [⟨some 4, Op.assign (Operand.const (Value.int IntKind.i64 0)), 3, none⟩]
abbrev rpm_Compare_b2 : LC := .reg false rpm_Compare_r1
abbrev rpm_Compare_r3 : List LO := [⟨some 10, Op.move (Operand.tmp 0), 9, none⟩,
  ⟨some 11, Op.call { callee := Callee.value (Operand.func 37), args := #[Operand.tmp 10], argTypes := #[9] }, 52, none⟩,
  ⟨some 9, Op.move (Operand.tmp 11), 52, none⟩,
  ⟨some 12, Op.extract (Operand.tmp 9) 0, 51, none⟩,
  ⟨some 13, Op.extract (Operand.tmp 9) 1, 44, none⟩,
  ⟨some 5, Op.alloc 51, 0, none⟩,
  ⟨some 6, Op.alloc 44, 0, none⟩,
  ⟨none, Op.store 51 (Operand.tmp 5) (Operand.tmp 12), 0, none⟩,
  ⟨none, Op.store 44 (Operand.tmp 6) (Operand.tmp 13), 0, none⟩]
abbrev rpm_Compare_b4 : LC := .reg false rpm_Compare_r3
abbrev rpm_Compare_r5 : List LO := [⟨some 15, Op.move (Operand.tmp 1), 9, none⟩,
  ⟨some 16, Op.call { callee := Callee.value (Operand.func 37), args := #[Operand.tmp 15], argTypes := #[9] }, 52, none⟩,
  ⟨some 14, Op.move (Operand.tmp 16), 52, none⟩,
  ⟨some 17, Op.extract (Operand.tmp 14) 0, 51, none⟩,
  ⟨some 18, Op.extract (Operand.tmp 14) 1, 44, none⟩,
  ⟨some 7, Op.alloc 51, 0, none⟩,
  ⟨some 8, Op.alloc 44, 0, none⟩,
  ⟨none, Op.store 51 (Operand.tmp 7) (Operand.tmp 17), 0, none⟩,
  ⟨none, Op.store 44 (Operand.tmp 8) (Operand.tmp 18), 0, none⟩]
abbrev rpm_Compare_b6 : LC := .reg false rpm_Compare_r5
abbrev rpm_Compare_r7 : List LO := [⟨some 19, Op.fieldAddr 44 (Operand.tmp 6) 0, 0, none⟩,
  ⟨some 20, Op.load 42 (Operand.tmp 19), 42, none⟩,
  ⟨some 21, Op.binOp BinOp.neq 42 (Operand.tmp 20) (Operand.const (Value.int IntKind.i64 0)) 42, 4, none⟩,
  ⟨some 22, Op.move (Operand.tmp 21), 4, none⟩,
  ⟨some 23, Op.fieldAddr 44 (Operand.tmp 8) 0, 0, (some (22, false))⟩,
  ⟨some 24, Op.load 42 (Operand.tmp 23), 42, (some (22, false))⟩,
  ⟨some 25, Op.binOp BinOp.neq 42 (Operand.tmp 24) (Operand.const (Value.int IntKind.i64 0)) 42, 4, (some (22, false))⟩,
  ⟨some 26, Op.pick (Operand.tmp 22) (Operand.const (Value.bool true)) (Operand.tmp 25), 4, none⟩]
abbrev rpm_Compare_b8 : LC := .reg false rpm_Compare_r7
abbrev rpm_Compare_r9 : List LO := [⟨some 27, Op.fieldAddr 44 (Operand.tmp 6) 0, 0, none⟩,
  ⟨some 28, Op.load 42 (Operand.tmp 27), 42, none⟩,
  ⟨some 29, Op.binOp BinOp.eql 42 (Operand.tmp 28) (Operand.const (Value.int IntKind.i64 0)) 42, 4, none⟩,
  ⟨some 30, Op.call { callee := Callee.value (Operand.func 83), args := #[Operand.tmp 29], argTypes := #[4] }, 3, none⟩,
  ⟨some 31, Op.fieldAddr 44 (Operand.tmp 8) 0, 0, none⟩,
  ⟨some 32, Op.load 42 (Operand.tmp 31), 42, none⟩,
  ⟨some 33, Op.binOp BinOp.eql 42 (Operand.tmp 32) (Operand.const (Value.int IntKind.i64 0)) 42, 4, none⟩,
  ⟨some 34, Op.call { callee := Callee.value (Operand.func 83), args := #[Operand.tmp 33], argTypes := #[4] }, 3, none⟩,
  ⟨some 35, Op.binOp BinOp.sub 3 (Operand.tmp 30) (Operand.tmp 34) 3, 3, none⟩,
  ⟨some 4, Op.assign (Operand.tmp 35), 3, none⟩]
abbrev rpm_Compare_b10 : LC := .reg true rpm_Compare_r9
abbrev rpm_Compare_b11 : LC := .seq rpm_Compare_b10 .ret
abbrev rpm_Compare_b12 : LC := .cond (Operand.tmp 26) rpm_Compare_b11 .skip
abbrev rpm_Compare_b13 : LC := .seq rpm_Compare_b8 rpm_Compare_b12
abbrev rpm_Compare_r14 : List LO := [⟨some 36, Op.load 51 (Operand.tmp 5), 51, none⟩,
  ⟨some 37, Op.load 51 (Operand.tmp 7), 51, none⟩,
  ⟨some 38, Op.call { callee := Callee.value (Operand.func 48), args := #[Operand.tmp 36, Operand.tmp 37], argTypes := #[51, 51] }, 3, none⟩,
  ⟨some 4, Op.assign (Operand.tmp 38), 3, none⟩]
abbrev rpm_Compare_b15 : LC := .reg false rpm_Compare_r14
abbrev rpm_Compare_b16 : LC := .seq rpm_Compare_b15 .ret
abbrev rpm_Compare_b17 : LC := .seq rpm_Compare_b13 rpm_Compare_b16
abbrev rpm_Compare_b18 : LC := .seq rpm_Compare_b6 rpm_Compare_b17
abbrev rpm_Compare_b19 : LC := .seq rpm_Compare_b4 rpm_Compare_b18
abbrev rpm_Compare_b20 : LC := .seq rpm_Compare_b2 rpm_Compare_b19
theorem rpm_Compare_k : FnOk E 41 39 [.tmp 4] rpm_Compare_b20 := ⟨⟨Go.Proofs.Tryd.f41, by kernel_rfl, by kernel_rfl, by kernel_rfl, by kernel_rfl, by kernel_rfl⟩, rfl⟩
noncomputable def rpm_Compare (a0 : Str) (a1 : Str) : Option (Int) := Option.bind (rpm_Parse a0) (fun x1 => Option.bind (rpm_Parse a1) (fun x2 => (if ((x1.2.Err != 0) || (x2.2.Err != 0)) = true then Option.bind (rpm_truth (x1.2.Err == 0)) (fun x3 => Option.bind (rpm_truth (x2.2.Err == 0)) (fun x4 => some (w64 (x3 - x4)))) else Option.bind (rpm_Order (S_api_Evr.mk x1.1.Epoch x1.1.Ver x1.1.Rel x1.1.HasRel) (S_api_Evr.mk x2.1.Epoch x2.1.Ver x2.1.Rel x2.1.HasRel)) (fun x5 => some x5))))
theorem rpm_Compare_ok (a0 : Str) (a1 : Str) : Ct E 41 [bs a0, bs a1] (rpm_Compare a0 a1) (fun r : Int => iv r) := ct_intro (N := 39) (L := rpm_Compare_b20) rpm_Compare_k rfl (Nat.le_of_ble_eq_true rfl) (by kernel_rfl) (by
  unfold rpm_Compare
  refine jc_seq ?_
  refine jc_reg ?_
  refine jr_seg 0 1 [0, 1] [] (st1 := ⟨[(0, .av (bs a0)), (1, .av (bs a1))], [], 0⟩) (by kernel_rfl) ?_
  refine jr_nil rfl ?_
  refine jx_seqN ?_
  refine jc_seq ?_
  refine jc_reg ?_
  refine jr_seg 0 1 [1, 10] [] (st1 := ⟨[(1, .av (bs a1)), (10, .av (bs a0))], [], 0⟩) (by kernel_rfl) ?_
  refine jr_callF (i := 1) rfl rfl rfl rfl (vs := [bs a0]) (by kernel_rfl) (snapL_cons rfl (snapL_nil _)) (all2_cons (fle_refl _) all2_nil) (rpm_Parse_ok a0) (fun _ => rfl) (fun _ => rfl) ?_
  intro x1 h1
  refine jr_seg 2 7 [1, 5, 6] [0, 1] (st1 := ⟨[(1, .av (bs a1)), (5, .av (.ptr 0 0 4 0)), (6, .av (.ptr 1 0 2 0))], [(0, .rows 4 [[bs x1.1.Epoch, bs x1.1.Ver, bs x1.1.Rel, bv x1.1.HasRel]]), (1, .rows 2 [[iv x1.2.Err, iv x1.2.At]])], 2⟩) (by kernel_rfl) ?_
  refine jr_nil rfl ?_
  refine jx_seqN ?_
  refine jc_seq ?_
  refine jc_reg ?_
  refine jr_seg 0 1 [5, 6, 15] [0, 1] (st1 := ⟨[(5, .av (.ptr 0 0 4 0)), (6, .av (.ptr 1 0 2 0)), (15, .av (bs a1))], [(0, .rows 4 [[bs x1.1.Epoch, bs x1.1.Ver, bs x1.1.Rel, bv x1.1.HasRel]]), (1, .rows 2 [[iv x1.2.Err, iv x1.2.At]])], 2⟩) (by kernel_rfl) ?_
  refine jr_callF (i := 1) rfl rfl rfl rfl (vs := [bs a1]) (by kernel_rfl) (snapL_cons rfl (snapL_nil _)) (all2_cons (fle_refl _) all2_nil) (rpm_Parse_ok a1) (fun _ => rfl) (fun _ => rfl) ?_
  intro x2 h2
  refine jr_seg 2 7 [5, 6, 7, 8] [0, 1, 2, 3] (st1 := ⟨[(5, .av (.ptr 0 0 4 0)), (6, .av (.ptr 1 0 2 0)), (7, .av (.ptr 2 0 4 0)), (8, .av (.ptr 3 0 2 0))], [(0, .rows 4 [[bs x1.1.Epoch, bs x1.1.Ver, bs x1.1.Rel, bv x1.1.HasRel]]), (1, .rows 2 [[iv x1.2.Err, iv x1.2.At]]), (2, .rows 4 [[bs x2.1.Epoch, bs x2.1.Ver, bs x2.1.Rel, bv x2.1.HasRel]]), (3, .rows 2 [[iv x2.2.Err, iv x2.2.At]])], 4⟩) (by kernel_rfl) ?_
  refine jr_nil rfl ?_
  refine jx_seqN ?_
  refine jc_seq ?_
  refine jc_seq ?_
  refine jc_reg ?_
  refine jr_seg 0 8 [5, 6, 7, 8, 26] [0, 1, 2, 3] (st1 := ⟨[(5, .av (.ptr 0 0 4 0)), (6, .av (.ptr 1 0 2 0)), (7, .av (.ptr 2 0 4 0)), (8, .av (.ptr 3 0 2 0)), (26, .av (bv ((x1.2.Err != 0) || (x2.2.Err != 0))))], [(0, .rows 4 [[bs x1.1.Epoch, bs x1.1.Ver, bs x1.1.Rel, bv x1.1.HasRel]]), (1, .rows 2 [[iv x1.2.Err, iv x1.2.At]]), (2, .rows 4 [[bs x2.1.Epoch, bs x2.1.Ver, bs x2.1.Rel, bv x2.1.HasRel]]), (3, .rows 2 [[iv x2.2.Err, iv x2.2.At]])], 4⟩) (by kernel_rfl) ?_
  refine jr_nil rfl ?_
  refine jx_seqN ?_
  refine jc_cond (g := 26) (c := ((x1.2.Err != 0) || (x2.2.Err != 0))) (by kernel_rfl) ?_ ?_
  · intro _
    refine jc_seq ?_
    refine jc_reg ?_
    refine jr_seg 0 3 [8, 29] [3] (st1 := ⟨[(8, .av (.ptr 3 0 2 0)), (29, .av (bv (x1.2.Err == 0)))], [(3, .rows 2 [[iv x2.2.Err, iv x2.2.At]])], 4⟩) (by kernel_rfl) ?_
    refine jr_callF (i := 3) rfl rfl rfl rfl (vs := [bv (x1.2.Err == 0)]) (by kernel_rfl) (snapL_cons rfl (snapL_nil _)) (all2_cons (fle_refl _) all2_nil) (rpm_truth_ok (x1.2.Err == 0)) (fun _ => rfl) (fun _ => rfl) ?_
    intro x3 h3
    refine jr_seg 4 3 [30, 33] [] (st1 := ⟨[(30, .av (iv x3)), (33, .av (bv (x2.2.Err == 0)))], [], 4⟩) (by kernel_rfl) ?_
    refine jr_callF (i := 7) rfl rfl rfl rfl (vs := [bv (x2.2.Err == 0)]) (by kernel_rfl) (snapL_cons rfl (snapL_nil _)) (all2_cons (fle_refl _) all2_nil) (rpm_truth_ok (x2.2.Err == 0)) (fun _ => rfl) (fun _ => rfl) ?_
    intro x4 h4
    refine jr_seg 8 2 [4] [] (st1 := ⟨[(4, .av (iv (w64 (x3 - x4))))], [], 4⟩) (by kernel_rfl) ?_
    refine jr_nil rfl ?_
    refine jx_seqN ?_
    refine jc_ret ?_
    refine jx_seqR ?_
    exact jx_retF (.inr rfl) (v := iv (w64 (x3 - x4))) (by kernel_rfl) rfl (fle_refl _)
  · intro _
    refine jc_skip ?_
    refine jx_seqN ?_
    refine jc_seq ?_
    refine jc_reg ?_
    refine jr_seg 0 2 [36, 37] [] (st1 := ⟨[(36, .av (.agg [bs x1.1.Epoch, bs x1.1.Ver, bs x1.1.Rel, bv x1.1.HasRel])), (37, .av (.agg [bs x2.1.Epoch, bs x2.1.Ver, bs x2.1.Rel, bv x2.1.HasRel]))], [], 4⟩) (by kernel_rfl) ?_
    refine jr_callF (i := 2) rfl rfl rfl rfl (vs := [.agg [bs x1.1.Epoch, bs x1.1.Ver, bs x1.1.Rel, bv x1.1.HasRel], .agg [bs x2.1.Epoch, bs x2.1.Ver, bs x2.1.Rel, bv x2.1.HasRel]]) (by kernel_rfl) (snapL_cons rfl (snapL_cons rfl (snapL_nil _))) (all2_cons (fle_refl _) (all2_cons (fle_refl _) all2_nil)) (rpm_Order_ok (S_api_Evr.mk x1.1.Epoch x1.1.Ver x1.1.Rel x1.1.HasRel) (S_api_Evr.mk x2.1.Epoch x2.1.Ver x2.1.Rel x2.1.HasRel)) (fun _ => rfl) (fun _ => rfl) ?_
    intro x5 h5
    refine jr_seg 3 1 [4] [] (st1 := ⟨[(4, .av (iv x5))], [], 4⟩) (by kernel_rfl) ?_
    refine jr_nil rfl ?_
    refine jx_seqN ?_
    refine jc_ret ?_
    exact jx_retF (.inr rfl) (v := iv x5) (by kernel_rfl) rfl (fle_refl _))
end Go.Vm

set_option maxRecDepth 100000
set_option maxHeartbeats 0
set_option linter.unusedVariables false
set_option linter.unusedSimpArgs false
namespace Go.Vm
open Go
abbrev law05_RpmOrder_r1 : List LO := [⟨some 6, Op.assign (Operand.const (Value.bool false)), 4, none⟩]
abbrev law05_RpmOrder_b2 : LC := .reg false law05_RpmOrder_r1
abbrev law05_RpmOrder_r3 : List LO := [⟨some 10, Op.move (Operand.tmp 0), 9, none⟩,
  ⟨some 11, Op.move (Operand.tmp 1), 9, none⟩,
  ⟨some 12, Op.call { callee := Callee.value (Operand.func 39), args := #[Operand.tmp 10, Operand.tmp 11], argTypes := #[9, 9] }, 3, none⟩,
  ⟨some 13, Op.move (Operand.tmp 1), 9, none⟩,
  ⟨some 14, Op.move (Operand.tmp 2), 9, none⟩,
  ⟨some 15, Op.call { callee := Callee.value (Operand.func 39), args := #[Operand.tmp 13, Operand.tmp 14], argTypes := #[9, 9] }, 3, none⟩,
  ⟨some 16, Op.move (Operand.tmp 0), 9, none⟩,
  ⟨some 17, Op.move (Operand.tmp 2), 9, none⟩,
  ⟨some 18, Op.call { callee := Callee.value (Operand.func 39), args := #[Operand.tmp 16, Operand.tmp 17], argTypes := #[9, 9] }, 3, none⟩,
  ⟨some 7, Op.assign (Operand.tmp 12), 3, none⟩,
  ⟨some 8, Op.assign (Operand.tmp 15), 3, none⟩,
  ⟨some 9, Op.assign (Operand.tmp 18), 3, none⟩]
abbrev law05_RpmOrder_b4 : LC := .reg false law05_RpmOrder_r3
abbrev law05_RpmOrder_r5 : List LO := [⟨some 19, Op.move (Operand.tmp 7), 3, none⟩,
  ⟨some 20, Op.binOp BinOp.lss 3 (Operand.tmp 19) (Operand.const (Value.int IntKind.i64 (-1))) 3, 4, none⟩,
  ⟨some 21, Op.move (Operand.tmp 20), 4, none⟩,
  ⟨some 22, Op.move (Operand.tmp 7), 3, (some (21, false))⟩,
  ⟨some 23, Op.binOp BinOp.gtr 3 (Operand.tmp 22) (Operand.const (Value.int IntKind.i64 1)) 3, 4, (some (21, false))⟩,
  ⟨some 24, Op.pick (Operand.tmp 21) (Operand.const (Value.bool true)) (Operand.tmp 23), 4, none⟩,
  ⟨some 25, Op.move (Operand.tmp 24), 4, none⟩,
  ⟨some 26, Op.move (Operand.tmp 0), 9, (some (25, false))⟩,
  ⟨some 27, Op.move (Operand.tmp 0), 9, (some (25, false))⟩,
  ⟨some 28, Op.call { callee := Callee.value (Operand.func 39), args := #[Operand.tmp 26, Operand.tmp 27], argTypes := #[9, 9] }, 3, (some (25, false))⟩,
  ⟨some 29, Op.binOp BinOp.neq 3 (Operand.tmp 28) (Operand.const (Value.int IntKind.i64 0)) 3, 4, (some (25, false))⟩,
  ⟨some 30, Op.pick (Operand.tmp 25) (Operand.const (Value.bool true)) (Operand.tmp 29), 4, none⟩,
  ⟨some 31, Op.move (Operand.tmp 30), 4, none⟩,
  ⟨some 32, Op.move (Operand.tmp 1), 9, (some (31, false))⟩,
  ⟨some 33, Op.move (Operand.tmp 0), 9, (some (31, false))⟩,
  ⟨some 34, Op.call { callee := Callee.value (Operand.func 39), args := #[Operand.tmp 32, Operand.tmp 33], argTypes := #[9, 9] }, 3, (some (31, false))⟩,
  ⟨some 35, Op.move (Operand.tmp 7), 3, (some (31, false))⟩,
  ⟨some 36, Op.unOp UnOp.neg 3 (Operand.tmp 35), 3, (some (31, false))⟩,
  ⟨some 37, Op.binOp BinOp.neq 3 (Operand.tmp 34) (Operand.tmp 36) 3, 4, (some (31, false))⟩,
  ⟨some 38, Op.pick (Operand.tmp 31) (Operand.const (Value.bool true)) (Operand.tmp 37), 4, none⟩,
  ⟨some 39, Op.move (Operand.tmp 38), 4, none⟩,
  ⟨some 40, Op.move (Operand.tmp 7), 3, (some (39, false))⟩,
  ⟨some 41, Op.binOp BinOp.leq 3 (Operand.tmp 40) (Operand.const (Value.int IntKind.i64 0)) 3, 4, (some (39, false))⟩,
  ⟨some 42, Op.move (Operand.tmp 41), 4, (some (39, false))⟩,
  ⟨some 43, Op.move (Operand.tmp 8), 3, (some (42, true))⟩,
  ⟨some 44, Op.binOp BinOp.leq 3 (Operand.tmp 43) (Operand.const (Value.int IntKind.i64 0)) 3, 4, (some (42, true))⟩,
  ⟨some 45, Op.pick (Operand.tmp 42) (Operand.tmp 44) (Operand.const (Value.bool false)), 4, (some (39, false))⟩,
  ⟨some 46, Op.move (Operand.tmp 45), 4, (some (39, false))⟩,
  ⟨some 47, Op.move (Operand.tmp 9), 3, (some (46, true))⟩,
  ⟨some 48, Op.binOp BinOp.gtr 3 (Operand.tmp 47) (Operand.const (Value.int IntKind.i64 0)) 3, 4, (some (46, true))⟩,
  ⟨some 49, Op.pick (Operand.tmp 46) (Operand.tmp 48) (Operand.const (Value.bool false)), 4, (some (39, false))⟩,
  ⟨some 50, Op.pick (Operand.tmp 39) (Operand.const (Value.bool true)) (Operand.tmp 49), 4, none⟩,
  ⟨some 51, Op.move (Operand.tmp 50), 4, none⟩,
  ⟨some 52, Op.move (Operand.tmp 7), 3, (some (51, false))⟩,
  ⟨some 53, Op.binOp BinOp.eql 3 (Operand.tmp 52) (Operand.const (Value.int IntKind.i64 0)) 3, 4, (some (51, false))⟩,
  ⟨some 54, Op.move (Operand.tmp 53), 4, (some (51, false))⟩,
  ⟨some 55, Op.move (Operand.tmp 8), 3, (some (54, true))⟩,
  ⟨some 56, Op.binOp BinOp.eql 3 (Operand.tmp 55) (Operand.const (Value.int IntKind.i64 0)) 3, 4, (some (54, true))⟩,
  ⟨some 57, Op.pick (Operand.tmp 54) (Operand.tmp 56) (Operand.const (Value.bool false)), 4, (some (51, false))⟩,
  ⟨some 58, Op.move (Operand.tmp 57), 4, (some (51, false))⟩,
  ⟨some 59, Op.move (Operand.tmp 9), 3, (some (58, true))⟩,
  ⟨some 60, Op.binOp BinOp.neq 3 (Operand.tmp 59) (Operand.const (Value.int IntKind.i64 0)) 3, 4, (some (58, true))⟩,
  ⟨some 61, Op.pick (Operand.tmp 58) (Operand.tmp 60) (Operand.const (Value.bool false)), 4, (some (51, false))⟩,
  ⟨some 62, Op.pick (Operand.tmp 51) (Operand.const (Value.bool true)) (Operand.tmp 61), 4, none⟩]
abbrev law05_RpmOrder_b6 : LC := .reg false law05_RpmOrder_r5
abbrev law05_RpmOrder_r7 : List LO := [⟨some 6, Op.assign (Operand.const (Value.bool false)), 4, none⟩]
abbrev law05_RpmOrder_b8 : LC := .reg false law05_RpmOrder_r7
abbrev law05_RpmOrder_b9 : LC := .seq law05_RpmOrder_b8 .ret
abbrev law05_RpmOrder_b10 : LC := .cond (Operand.tmp 62) law05_RpmOrder_b9 .skip
abbrev law05_RpmOrder_b11 : LC := .seq law05_RpmOrder_b6 law05_RpmOrder_b10
abbrev law05_RpmOrder_r12 : List LO := [⟨some 63, Op.move (Operand.tmp 0), 9, none⟩,
  ⟨some 64, Op.move (Operand.tmp 1), 9, none⟩,
  ⟨some 65, Op.call { callee := Callee.value (Operand.func 41), args := #[Operand.tmp 63, Operand.tmp 64], argTypes := #[9, 9] }, 3, none⟩,
  ⟨some 66, Op.move (Operand.tmp 1), 9, none⟩,
  ⟨some 67, Op.move (Operand.tmp 2), 9, none⟩,
  ⟨some 68, Op.call { callee := Callee.value (Operand.func 41), args := #[Operand.tmp 66, Operand.tmp 67], argTypes := #[9, 9] }, 3, none⟩,
  ⟨some 69, Op.move (Operand.tmp 0), 9, none⟩,
  ⟨some 70, Op.move (Operand.tmp 2), 9, none⟩,
  ⟨some 71, Op.call { callee := Callee.value (Operand.func 41), args := #[Operand.tmp 69, Operand.tmp 70], argTypes := #[9, 9] }, 3, none⟩,
  ⟨some 7, Op.assign (Operand.tmp 65), 3, none⟩,
  ⟨some 8, Op.assign (Operand.tmp 68), 3, none⟩,
  ⟨some 9, Op.assign (Operand.tmp 71), 3, none⟩]
abbrev law05_RpmOrder_b13 : LC := .reg false law05_RpmOrder_r12
abbrev law05_RpmOrder_r14 : List LO := [⟨some 72, Op.move (Operand.tmp 7), 3, none⟩,
  ⟨some 73, Op.binOp BinOp.geq 3 (Operand.tmp 72) (Operand.const (Value.int IntKind.i64 (-1))) 3, 4, none⟩,
  ⟨some 74, Op.move (Operand.tmp 73), 4, none⟩,
  ⟨some 75, Op.move (Operand.tmp 7), 3, (some (74, true))⟩,
  ⟨some 76, Op.binOp BinOp.leq 3 (Operand.tmp 75) (Operand.const (Value.int IntKind.i64 1)) 3, 4, (some (74, true))⟩,
  ⟨some 77, Op.pick (Operand.tmp 74) (Operand.tmp 76) (Operand.const (Value.bool false)), 4, none⟩,
  ⟨some 78, Op.move (Operand.tmp 77), 4, none⟩,
  ⟨some 79, Op.move (Operand.tmp 1), 9, (some (78, true))⟩,
  ⟨some 80, Op.move (Operand.tmp 0), 9, (some (78, true))⟩,
  ⟨some 81, Op.call { callee := Callee.value (Operand.func 41), args := #[Operand.tmp 79, Operand.tmp 80], argTypes := #[9, 9] }, 3, (some (78, true))⟩,
  ⟨some 82, Op.move (Operand.tmp 7), 3, (some (78, true))⟩,
  ⟨some 83, Op.unOp UnOp.neg 3 (Operand.tmp 82), 3, (some (78, true))⟩,
  ⟨some 84, Op.binOp BinOp.eql 3 (Operand.tmp 81) (Operand.tmp 83) 3, 4, (some (78, true))⟩,
  ⟨some 85, Op.pick (Operand.tmp 78) (Operand.tmp 84) (Operand.const (Value.bool false)), 4, none⟩,
  ⟨some 86, Op.move (Operand.tmp 85), 4, none⟩,
  ⟨some 87, Op.move (Operand.tmp 7), 3, (some (86, true))⟩,
  ⟨some 88, Op.binOp BinOp.gtr 3 (Operand.tmp 87) (Operand.const (Value.int IntKind.i64 0)) 3, 4, (some (86, true))⟩,
  ⟨some 89, Op.move (Operand.tmp 88), 4, (some (86, true))⟩,
  ⟨some 90, Op.move (Operand.tmp 8), 3, (some (89, false))⟩,
  ⟨some 91, Op.binOp BinOp.gtr 3 (Operand.tmp 90) (Operand.const (Value.int IntKind.i64 0)) 3, 4, (some (89, false))⟩,
  ⟨some 92, Op.pick (Operand.tmp 89) (Operand.const (Value.bool true)) (Operand.tmp 91), 4, (some (86, true))⟩,
  ⟨some 93, Op.move (Operand.tmp 92), 4, (some (86, true))⟩,
  ⟨some 94, Op.move (Operand.tmp 9), 3, (some (93, false))⟩,
  ⟨some 95, Op.binOp BinOp.leq 3 (Operand.tmp 94) (Operand.const (Value.int IntKind.i64 0)) 3, 4, (some (93, false))⟩,
  ⟨some 96, Op.pick (Operand.tmp 93) (Operand.const (Value.bool true)) (Operand.tmp 95), 4, (some (86, true))⟩,
  ⟨some 97, Op.pick (Operand.tmp 86) (Operand.tmp 96) (Operand.const (Value.bool false)), 4, none⟩,
  ⟨some 98, Op.move (Operand.tmp 97), 4, none⟩,
  ⟨some 99, Op.move (Operand.tmp 7), 3, (some (98, true))⟩,
  ⟨some 100, Op.binOp BinOp.neq 3 (Operand.tmp 99) (Operand.const (Value.int IntKind.i64 0)) 3, 4, (some (98, true))⟩,
  ⟨some 101, Op.move (Operand.tmp 100), 4, (some (98, true))⟩,
  ⟨some 102, Op.move (Operand.tmp 8), 3, (some (101, false))⟩,
  ⟨some 103, Op.binOp BinOp.neq 3 (Operand.tmp 102) (Operand.const (Value.int IntKind.i64 0)) 3, 4, (some (101, false))⟩,
  ⟨some 104, Op.pick (Operand.tmp 101) (Operand.const (Value.bool true)) (Operand.tmp 103), 4, (some (98, true))⟩,
  ⟨some 105, Op.move (Operand.tmp 104), 4, (some (98, true))⟩,
  ⟨some 106, Op.move (Operand.tmp 9), 3, (some (105, false))⟩,
  ⟨some 107, Op.binOp BinOp.eql 3 (Operand.tmp 106) (Operand.const (Value.int IntKind.i64 0)) 3, 4, (some (105, false))⟩,
  ⟨some 108, Op.pick (Operand.tmp 105) (Operand.const (Value.bool true)) (Operand.tmp 107), 4, (some (98, true))⟩,
  ⟨some 109, Op.pick (Operand.tmp 98) (Operand.tmp 108) (Operand.const (Value.bool false)), 4, none⟩,
  ⟨some 110, Op.move (Operand.tmp 109), 4, none⟩,
  ⟨some 111, Op.call { callee := Callee.value (Operand.func 43), args := #[], argTypes := #[] }, 4, (some (110, true))⟩,
  ⟨some 112, Op.pick (Operand.tmp 110) (Operand.tmp 111) (Operand.const (Value.bool false)), 4, none⟩,
  ⟨some 6, Op.assign (Operand.tmp 112), 4, none⟩]
abbrev law05_RpmOrder_b15 : LC := .reg false law05_RpmOrder_r14
abbrev law05_RpmOrder_b16 : LC := .seq law05_RpmOrder_b15 .ret
abbrev law05_RpmOrder_b17 : LC := .seq law05_RpmOrder_b13 law05_RpmOrder_b16
abbrev law05_RpmOrder_b18 : LC := .seq law05_RpmOrder_b11 law05_RpmOrder_b17
abbrev law05_RpmOrder_b19 : LC := .seq law05_RpmOrder_b4 law05_RpmOrder_b18
abbrev law05_RpmOrder_b20 : LC := .seq law05_RpmOrder_b2 law05_RpmOrder_b19
theorem law05_RpmOrder_k : FnOk E 9 113 [.tmp 6] law05_RpmOrder_b20 := ⟨⟨Go.Proofs.Tryd.f9, by kernel_rfl, by kernel_rfl, by kernel_rfl, by kernel_rfl, by kernel_rfl⟩, rfl⟩
noncomputable def law05_RpmOrder (a0 : Str) (a1 : Str) (a2 : Str) : Option (Bool) := Option.bind (rpm_Segments a0 a1) (fun x1 => Option.bind (rpm_Segments a1 a2) (fun x2 => Option.bind (rpm_Segments a0 a2) (fun x3 => Option.bind (if ((decide (x1 < (-1))) || (decide (x1 > 1))) = true then some true else Option.bind (rpm_Segments a0 a0) (fun x6 => some (x6 != 0)) : Option (Bool)) (fun x5 => Option.bind (if x5 = true then some true else Option.bind (rpm_Segments a1 a0) (fun x9 => some (x9 != (w64 (0 - x1)))) : Option (Bool)) (fun x8 => (if ((x8 || (((decide (x1 ≤ 0)) && (decide (x2 ≤ 0))) && (decide (x3 > 0)))) || (((x1 == 0) && (x2 == 0)) && (x3 != 0))) = true then some false else Option.bind (rpm_Compare a0 a1) (fun x10 => Option.bind (rpm_Compare a1 a2) (fun x11 => Option.bind (rpm_Compare a0 a2) (fun x12 => Option.bind (if ((decide (x10 ≥ (-1))) && (decide (x10 ≤ 1))) = true then Option.bind (rpm_Compare a1 a0) (fun x15 => some (x15 == (w64 (0 - x10)))) else some false : Option (Bool)) (fun x14 => Option.bind (if ((x14 && (((decide (x10 > 0)) || (decide (x11 > 0))) || (decide (x12 ≤ 0)))) && (((x10 != 0) || (x11 != 0)) || (x12 == 0))) = true then Option.bind (law05_awake) (fun x18 => some x18) else some false : Option (Bool)) (fun x17 => some x17)))))))))))
theorem law05_RpmOrder_ok (a0 : Str) (a1 : Str) (a2 : Str) : Ct E 9 [bs a0, bs a1, bs a2] (law05_RpmOrder a0 a1 a2) (fun r : Bool => bv r) := ct_intro (N := 113) (L := law05_RpmOrder_b20) law05_RpmOrder_k rfl (Nat.le_of_ble_eq_true rfl) (by kernel_rfl) (by
  unfold law05_RpmOrder
  refine jc_seq ?_
  refine jc_reg ?_
  refine jr_seg 0 1 [0, 1, 2] [] (st1 := ⟨[(0, .av (bs a0)), (1, .av (bs a1)), (2, .av (bs a2))], [], 0⟩) (by kernel_rfl) ?_
  refine jr_nil rfl ?_
  refine jx_seqN ?_
  refine jc_seq ?_
  refine jc_reg ?_
  refine jr_seg 0 2 [0, 1, 2, 10, 11] [] (st1 := ⟨[(0, .av (bs a0)), (1, .av (bs a1)), (2, .av (bs a2)), (10, .av (bs a0)), (11, .av (bs a1))], [], 0⟩) (by kernel_rfl) ?_
  refine jr_callF (i := 2) rfl rfl rfl rfl (vs := [bs a0, bs a1]) (by kernel_rfl) (snapL_cons rfl (snapL_cons rfl (snapL_nil _))) (all2_cons (fle_refl _) (all2_cons (fle_refl _) all2_nil)) (rpm_Segments_ok a0 a1) (fun _ => rfl) (fun _ => rfl) ?_
  intro x1 h1
  refine jr_seg 3 2 [0, 1, 2, 12, 13, 14] [] (st1 := ⟨[(0, .av (bs a0)), (1, .av (bs a1)), (2, .av (bs a2)), (12, .av (iv x1)), (13, .av (bs a1)), (14, .av (bs a2))], [], 0⟩) (by kernel_rfl) ?_
  refine jr_callF (i := 5) rfl rfl rfl rfl (vs := [bs a1, bs a2]) (by kernel_rfl) (snapL_cons rfl (snapL_cons rfl (snapL_nil _))) (all2_cons (fle_refl _) (all2_cons (fle_refl _) all2_nil)) (rpm_Segments_ok a1 a2) (fun _ => rfl) (fun _ => rfl) ?_
  intro x2 h2
  refine jr_seg 6 2 [0, 1, 2, 12, 15, 16, 17] [] (st1 := ⟨[(0, .av (bs a0)), (1, .av (bs a1)), (2, .av (bs a2)), (12, .av (iv x1)), (15, .av (iv x2)), (16, .av (bs a0)), (17, .av (bs a2))], [], 0⟩) (by kernel_rfl) ?_
  refine jr_callF (i := 8) rfl rfl rfl rfl (vs := [bs a0, bs a2]) (by kernel_rfl) (snapL_cons rfl (snapL_cons rfl (snapL_nil _))) (all2_cons (fle_refl _) (all2_cons (fle_refl _) all2_nil)) (rpm_Segments_ok a0 a2) (fun _ => rfl) (fun _ => rfl) ?_
  intro x3 h3
  refine jr_seg 9 3 [0, 1, 2, 7, 8, 9] [] (st1 := ⟨[(0, .av (bs a0)), (1, .av (bs a1)), (2, .av (bs a2)), (7, .av (iv x1)), (8, .av (iv x2)), (9, .av (iv x3))], [], 0⟩) (by kernel_rfl) ?_
  refine jr_nil rfl ?_
  refine jx_seqN ?_
  refine jc_seq ?_
  refine jc_seq ?_
  refine jc_reg ?_
  refine jr_seg 0 7 [0, 1, 2, 7, 8, 9, 25] [] (st1 := ⟨[(0, .av (bs a0)), (1, .av (bs a1)), (2, .av (bs a2)), (7, .av (iv x1)), (8, .av (iv x2)), (9, .av (iv x3)), (25, .av (bv ((decide (x1 < (-1))) || (decide (x1 > 1)))))], [], 0⟩) (by kernel_rfl) ?_
  refine jr_bind 7 5 (fun x5 => ⟨[(0, .av (bs a0)), (1, .av (bs a1)), (2, .av (bs a2)), (7, .av (iv x1)), (8, .av (iv x2)), (9, .av (iv x3)), (30, .av (bv x5))], [], 0⟩) ?_ ?_
  · refine jr_split (g := 25) (c := ((decide (x1 < (-1))) || (decide (x1 > 1)))) (by kernel_rfl) ?_ ?_
    · intro _
      refine jr_seg 0 5 [0, 1, 2, 7, 8, 9, 30] [] (st1 := ⟨[(0, .av (bs a0)), (1, .av (bs a1)), (2, .av (bs a2)), (7, .av (iv x1)), (8, .av (iv x2)), (9, .av (iv x3)), (30, .av (bv true))], [], 0⟩) (by kernel_rfl) ?_
      refine jr_nil rfl ?_
      exact jx_mid rfl (wk_ren [] (fix_nil _) rfl (by kernel_rfl) allp_nil)
    · intro _
      refine jr_seg 0 2 [0, 1, 2, 7, 8, 9, 25, 26, 27] [] (st1 := ⟨[(0, .av (bs a0)), (1, .av (bs a1)), (2, .av (bs a2)), (7, .av (iv x1)), (8, .av (iv x2)), (9, .av (iv x3)), (25, .lit false), (26, .av (bs a0)), (27, .av (bs a0))], [], 0⟩) (by kernel_rfl) ?_
      refine jr_callF (i := 2) rfl rfl rfl rfl (vs := [bs a0, bs a0]) (by kernel_rfl) (snapL_cons rfl (snapL_cons rfl (snapL_nil _))) (all2_cons (fle_refl _) (all2_cons (fle_refl _) all2_nil)) (rpm_Segments_ok a0 a0) (fun _ => rfl) (fun _ => rfl) ?_
      intro x6 h6
      refine jr_seg 3 2 [0, 1, 2, 7, 8, 9, 30] [] (st1 := ⟨[(0, .av (bs a0)), (1, .av (bs a1)), (2, .av (bs a2)), (7, .av (iv x1)), (8, .av (iv x2)), (9, .av (iv x3)), (30, .av (bv (x6 != 0)))], [], 0⟩) (by kernel_rfl) ?_
      refine jr_nil rfl ?_
      exact jx_mid rfl (wk_ren [] (fix_nil _) rfl (by kernel_rfl) allp_nil)
  · intro x5
    refine jr_seg 12 1 [0, 1, 2, 7, 8, 9, 31] [] (st1 := ⟨[(0, .av (bs a0)), (1, .av (bs a1)), (2, .av (bs a2)), (7, .av (iv x1)), (8, .av (iv x2)), (9, .av (iv x3)), (31, .av (bv x5))], [], 0⟩) (by kernel_rfl) ?_
    refine jr_bind 13 7 (fun x8 => ⟨[(0, .av (bs a0)), (1, .av (bs a1)), (2, .av (bs a2)), (7, .av (iv x1)), (8, .av (iv x2)), (9, .av (iv x3)), (38, .av (bv x8))], [], 0⟩) ?_ ?_
    · refine jr_split (g := 31) (c := x5) (by kernel_rfl) ?_ ?_
      · intro _
        refine jr_seg 0 7 [0, 1, 2, 7, 8, 9, 38] [] (st1 := ⟨[(0, .av (bs a0)), (1, .av (bs a1)), (2, .av (bs a2)), (7, .av (iv x1)), (8, .av (iv x2)), (9, .av (iv x3)), (38, .av (bv true))], [], 0⟩) (by kernel_rfl) ?_
        refine jr_nil rfl ?_
        exact jx_mid rfl (wk_ren [] (fix_nil _) rfl (by kernel_rfl) allp_nil)
      · intro _
        refine jr_seg 0 2 [0, 1, 2, 7, 8, 9, 31, 32, 33] [] (st1 := ⟨[(0, .av (bs a0)), (1, .av (bs a1)), (2, .av (bs a2)), (7, .av (iv x1)), (8, .av (iv x2)), (9, .av (iv x3)), (31, .lit false), (32, .av (bs a1)), (33, .av (bs a0))], [], 0⟩) (by kernel_rfl) ?_
        refine jr_callF (i := 2) rfl rfl rfl rfl (vs := [bs a1, bs a0]) (by kernel_rfl) (snapL_cons rfl (snapL_cons rfl (snapL_nil _))) (all2_cons (fle_refl _) (all2_cons (fle_refl _) all2_nil)) (rpm_Segments_ok a1 a0) (fun _ => rfl) (fun _ => rfl) ?_
        intro x9 h9
        refine jr_seg 3 4 [0, 1, 2, 7, 8, 9, 38] [] (st1 := ⟨[(0, .av (bs a0)), (1, .av (bs a1)), (2, .av (bs a2)), (7, .av (iv x1)), (8, .av (iv x2)), (9, .av (iv x3)), (38, .av (bv (x9 != (w64 (0 - x1)))))], [], 0⟩) (by kernel_rfl) ?_
        refine jr_nil rfl ?_
        exact jx_mid rfl (wk_ren [] (fix_nil _) rfl (by kernel_rfl) allp_nil)
    · intro x8
      refine jr_seg 20 24 [0, 1, 2, 62] [] (st1 := ⟨[(0, .av (bs a0)), (1, .av (bs a1)), (2, .av (bs a2)), (62, .av (bv ((x8 || (((decide (x1 ≤ 0)) && (decide (x2 ≤ 0))) && (decide (x3 > 0)))) || (((x1 == 0) && (x2 == 0)) && (x3 != 0)))))], [], 0⟩) (by kernel_rfl) ?_
      refine jr_nil rfl ?_
      refine jx_seqN ?_
      refine jc_cond (g := 62) (c := ((x8 || (((decide (x1 ≤ 0)) && (decide (x2 ≤ 0))) && (decide (x3 > 0)))) || (((x1 == 0) && (x2 == 0)) && (x3 != 0)))) (by kernel_rfl) ?_ ?_
      · intro _
        refine jc_seq ?_
        refine jc_reg ?_
        refine jr_seg 0 1 [6] [] (st1 := ⟨[(6, .av (bv false))], [], 0⟩) (by kernel_rfl) ?_
        refine jr_nil rfl ?_
        refine jx_seqN ?_
        refine jc_ret ?_
        refine jx_seqR ?_
        exact jx_retF (.inr rfl) (v := bv false) (by kernel_rfl) rfl (fle_refl _)
      · intro _
        refine jc_skip ?_
        refine jx_seqN ?_
        refine jc_seq ?_
        refine jc_reg ?_
        refine jr_seg 0 2 [0, 1, 2, 63, 64] [] (st1 := ⟨[(0, .av (bs a0)), (1, .av (bs a1)), (2, .av (bs a2)), (63, .av (bs a0)), (64, .av (bs a1))], [], 0⟩) (by kernel_rfl) ?_
        refine jr_callF (i := 2) rfl rfl rfl rfl (vs := [bs a0, bs a1]) (by kernel_rfl) (snapL_cons rfl (snapL_cons rfl (snapL_nil _))) (all2_cons (fle_refl _) (all2_cons (fle_refl _) all2_nil)) (rpm_Compare_ok a0 a1) (fun _ => rfl) (fun _ => rfl) ?_
        intro x10 h10
        refine jr_seg 3 2 [0, 1, 2, 65, 66, 67] [] (st1 := ⟨[(0, .av (bs a0)), (1, .av (bs a1)), (2, .av (bs a2)), (65, .av (iv x10)), (66, .av (bs a1)), (67, .av (bs a2))], [], 0⟩) (by kernel_rfl) ?_
        refine jr_callF (i := 5) rfl rfl rfl rfl (vs := [bs a1, bs a2]) (by kernel_rfl) (snapL_cons rfl (snapL_cons rfl (snapL_nil _))) (all2_cons (fle_refl _) (all2_cons (fle_refl _) all2_nil)) (rpm_Compare_ok a1 a2) (fun _ => rfl) (fun _ => rfl) ?_
        intro x11 h11
        refine jr_seg 6 2 [0, 1, 65, 68, 69, 70] [] (st1 := ⟨[(0, .av (bs a0)), (1, .av (bs a1)), (65, .av (iv x10)), (68, .av (iv x11)), (69, .av (bs a0)), (70, .av (bs a2))], [], 0⟩) (by kernel_rfl) ?_
        refine jr_callF (i := 8) rfl rfl rfl rfl (vs := [bs a0, bs a2]) (by kernel_rfl) (snapL_cons rfl (snapL_cons rfl (snapL_nil _))) (all2_cons (fle_refl _) (all2_cons (fle_refl _) all2_nil)) (rpm_Compare_ok a0 a2) (fun _ => rfl) (fun _ => rfl) ?_
        intro x12 h12
        refine jr_seg 9 3 [0, 1, 7, 8, 9] [] (st1 := ⟨[(0, .av (bs a0)), (1, .av (bs a1)), (7, .av (iv x10)), (8, .av (iv x11)), (9, .av (iv x12))], [], 0⟩) (by kernel_rfl) ?_
        refine jr_nil rfl ?_
        refine jx_seqN ?_
        refine jc_seq ?_
        refine jc_reg ?_
        refine jr_seg 0 7 [0, 1, 7, 8, 9, 78] [] (st1 := ⟨[(0, .av (bs a0)), (1, .av (bs a1)), (7, .av (iv x10)), (8, .av (iv x11)), (9, .av (iv x12)), (78, .av (bv ((decide (x10 ≥ (-1))) && (decide (x10 ≤ 1)))))], [], 0⟩) (by kernel_rfl) ?_
        refine jr_bind 7 7 (fun x14 => ⟨[(7, .av (iv x10)), (8, .av (iv x11)), (9, .av (iv x12)), (85, .av (bv x14))], [], 0⟩) ?_ ?_
        · refine jr_split (g := 78) (c := ((decide (x10 ≥ (-1))) && (decide (x10 ≤ 1)))) (by kernel_rfl) ?_ ?_
          · intro _
            refine jr_seg 0 2 [7, 8, 9, 78, 79, 80] [] (st1 := ⟨[(7, .av (iv x10)), (8, .av (iv x11)), (9, .av (iv x12)), (78, .lit true), (79, .av (bs a1)), (80, .av (bs a0))], [], 0⟩) (by kernel_rfl) ?_
            refine jr_callF (i := 2) rfl rfl rfl rfl (vs := [bs a1, bs a0]) (by kernel_rfl) (snapL_cons rfl (snapL_cons rfl (snapL_nil _))) (all2_cons (fle_refl _) (all2_cons (fle_refl _) all2_nil)) (rpm_Compare_ok a1 a0) (fun _ => rfl) (fun _ => rfl) ?_
            intro x15 h15
            refine jr_seg 3 4 [7, 8, 9, 85] [] (st1 := ⟨[(7, .av (iv x10)), (8, .av (iv x11)), (9, .av (iv x12)), (85, .av (bv (x15 == (w64 (0 - x10)))))], [], 0⟩) (by kernel_rfl) ?_
            refine jr_nil rfl ?_
            exact jx_mid rfl (wk_ren [] (fix_nil _) rfl (by kernel_rfl) allp_nil)
          · intro _
            refine jr_seg 0 7 [7, 8, 9, 85] [] (st1 := ⟨[(7, .av (iv x10)), (8, .av (iv x11)), (9, .av (iv x12)), (85, .av (bv false))], [], 0⟩) (by kernel_rfl) ?_
            refine jr_nil rfl ?_
            exact jx_mid rfl (wk_ren [] (fix_nil _) rfl (by kernel_rfl) allp_nil)
        · intro x14
          refine jr_seg 14 25 [110] [] (st1 := ⟨[(110, .av (bv ((x14 && (((decide (x10 > 0)) || (decide (x11 > 0))) || (decide (x12 ≤ 0)))) && (((x10 != 0) || (x11 != 0)) || (x12 == 0)))))], [], 0⟩) (by kernel_rfl) ?_
          refine jr_bind 39 2 (fun x17 => ⟨[(112, .av (bv x17))], [], 0⟩) ?_ ?_
          · refine jr_split (g := 110) (c := ((x14 && (((decide (x10 > 0)) || (decide (x11 > 0))) || (decide (x12 ≤ 0)))) && (((x10 != 0) || (x11 != 0)) || (x12 == 0)))) (by kernel_rfl) ?_ ?_
            · intro _
              refine jr_callF (i := 0) rfl rfl rfl rfl (vs := []) (by kernel_rfl) (snapL_nil _) all2_nil (law05_awake_ok) (fun _ => rfl) (fun _ => rfl) ?_
              intro x18 h18
              refine jr_seg 1 1 [112] [] (st1 := ⟨[(112, .av (bv x18))], [], 0⟩) (by kernel_rfl) ?_
              refine jr_nil rfl ?_
              exact jx_mid rfl (wk_ren [] (fix_nil _) rfl (by kernel_rfl) allp_nil)
            · intro _
              refine jr_seg 0 2 [112] [] (st1 := ⟨[(112, .av (bv false))], [], 0⟩) (by kernel_rfl) ?_
              refine jr_nil rfl ?_
              exact jx_mid rfl (wk_ren [] (fix_nil _) rfl (by kernel_rfl) allp_nil)
          · intro x17
            refine jr_seg 41 1 [6] [] (st1 := ⟨[(6, .av (bv x17))], [], 0⟩) (by kernel_rfl) ?_
            refine jr_nil rfl ?_
            refine jx_seqN ?_
            refine jc_ret ?_
            exact jx_retF (.inr rfl) (v := bv x17) (by kernel_rfl) rfl (fle_refl _))
end Go.Vm

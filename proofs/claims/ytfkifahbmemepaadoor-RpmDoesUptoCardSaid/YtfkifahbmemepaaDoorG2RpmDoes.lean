/- The law RpmDoes, a part of its proof: what the functions that it reaches compute. -/
import Derived.Test.YtfkifahbmemepaaDoorG0RpmDoes
import Derived.Test.YtfkifahbmemepaaDoorW05RpmDoes
import Derived.Test.YtfkifahbmemepaaDoorG1RpmDoes
set_option maxRecDepth 100000
set_option maxHeartbeats 0
set_option linter.unusedVariables false
set_option linter.unusedSimpArgs false
namespace Go.Vm
open Go
abbrev law05_RpmDoes_r1 : List LO := [⟨some 2, Op.box 51 (Operand.tmp 0), 0, none⟩,
  ⟨some 3, Op.box 51 (Operand.tmp 1), 0, none⟩,
  ⟨some 4, Op.assign (Operand.const (Value.bool false)), 4, none⟩]
abbrev law05_RpmDoes_b2 : LC := .reg false law05_RpmDoes_r1
abbrev law05_RpmDoes_r3 : List LO := [⟨some 5, Op.load 51 (Operand.tmp 2), 51, none⟩,
  ⟨some 6, Op.call { callee := Callee.value (Operand.func 45), args := #[Operand.tmp 5], argTypes := #[51] }, 4, none⟩,
  ⟨some 7, Op.load 51 (Operand.tmp 2), 51, none⟩,
  ⟨some 8, Op.call { callee := Callee.value (Operand.func 44), args := #[Operand.tmp 7], argTypes := #[51] }, 4, none⟩,
  ⟨some 9, Op.binOp BinOp.eql 4 (Operand.tmp 6) (Operand.tmp 8) 4, 4, none⟩,
  ⟨some 10, Op.move (Operand.tmp 9), 4, none⟩,
  ⟨some 11, Op.load 51 (Operand.tmp 2), 51, (some (10, true))⟩,
  ⟨some 12, Op.call { callee := Callee.value (Operand.func 46), args := #[Operand.tmp 11], argTypes := #[51] }, 9, (some (10, true))⟩,
  ⟨some 13, Op.load 51 (Operand.tmp 2), 51, (some (10, true))⟩,
  ⟨some 14, Op.call { callee := Callee.value (Operand.func 47), args := #[Operand.tmp 13], argTypes := #[51] }, 9, (some (10, true))⟩,
  ⟨some 15, Op.binOp BinOp.eql 9 (Operand.tmp 12) (Operand.tmp 14) 9, 4, (some (10, true))⟩,
  ⟨some 16, Op.pick (Operand.tmp 10) (Operand.tmp 15) (Operand.const (Value.bool false)), 4, none⟩,
  ⟨some 17, Op.move (Operand.tmp 16), 4, none⟩,
  ⟨some 18, Op.load 51 (Operand.tmp 2), 51, (some (17, true))⟩,
  ⟨some 19, Op.load 51 (Operand.tmp 3), 51, (some (17, true))⟩,
  ⟨some 20, Op.call { callee := Callee.value (Operand.func 48), args := #[Operand.tmp 18, Operand.tmp 19], argTypes := #[51, 51] }, 3, (some (17, true))⟩,
  ⟨some 21, Op.load 51 (Operand.tmp 2), 51, (some (17, true))⟩,
  ⟨some 22, Op.load 51 (Operand.tmp 3), 51, (some (17, true))⟩,
  ⟨some 23, Op.call { callee := Callee.value (Operand.func 49), args := #[Operand.tmp 21, Operand.tmp 22], argTypes := #[51, 51] }, 3, (some (17, true))⟩,
  ⟨some 24, Op.binOp BinOp.eql 3 (Operand.tmp 20) (Operand.tmp 23) 3, 4, (some (17, true))⟩,
  ⟨some 25, Op.pick (Operand.tmp 17) (Operand.tmp 24) (Operand.const (Value.bool false)), 4, none⟩,
  ⟨some 26, Op.move (Operand.tmp 25), 4, none⟩,
  ⟨some 27, Op.call { callee := Callee.value (Operand.func 43), args := #[], argTypes := #[] }, 4, (some (26, true))⟩,
  ⟨some 28, Op.pick (Operand.tmp 26) (Operand.tmp 27) (Operand.const (Value.bool false)), 4, none⟩,
  ⟨some 4, Op.assign (Operand.tmp 28), 4, none⟩]
abbrev law05_RpmDoes_b4 : LC := .reg true law05_RpmDoes_r3
abbrev law05_RpmDoes_b5 : LC := .seq law05_RpmDoes_b4 .ret
abbrev law05_RpmDoes_b6 : LC := .seq law05_RpmDoes_b2 law05_RpmDoes_b5
theorem law05_RpmDoes_k : FnOk E 11 29 [.tmp 4] law05_RpmDoes_b6 := ⟨⟨Go.Proofs.Tryd.f11, by kernel_rfl, by kernel_rfl, by kernel_rfl, by kernel_rfl, by kernel_rfl⟩, rfl⟩
noncomputable def law05_RpmDoes (a0 : S_api_Evr) (a1 : S_api_Evr) : Option (Bool) := Option.bind (rpm_Fit a0) (fun x1 => Option.bind (ref05_Fit a0) (fun x2 => Option.bind (if (x1 == x2) = true then Option.bind (rpm_Text a0) (fun x6 => Option.bind (ref05_Text a0) (fun x7 => some (x6 == x7))) else some false : Option (Bool)) (fun x5 => Option.bind (if x5 = true then Option.bind (rpm_Order a0 a1) (fun x11 => Option.bind (ref05_Order a0 a1) (fun x12 => some (x11 == x12))) else some false : Option (Bool)) (fun x10 => Option.bind (if x10 = true then Option.bind (law05_awake) (fun x15 => some x15) else some false : Option (Bool)) (fun x14 => some x14)))))
theorem law05_RpmDoes_ok (a0 : S_api_Evr) (a1 : S_api_Evr) : Ct E 11 [.agg [bs a0.Epoch, bs a0.Ver, bs a0.Rel, bv a0.HasRel], .agg [bs a1.Epoch, bs a1.Ver, bs a1.Rel, bv a1.HasRel]] (law05_RpmDoes a0 a1) (fun r : Bool => bv r) := ct_intro (N := 29) (L := law05_RpmDoes_b6) law05_RpmDoes_k rfl (Nat.le_of_ble_eq_true rfl) (by kernel_rfl) (by
  unfold law05_RpmDoes
  refine jc_seq ?_
  refine jc_reg ?_
  refine jr_seg 0 3 [2, 3] [0, 1] (st1 := ⟨[(2, .av (.ptr 0 0 4 0)), (3, .av (.ptr 1 0 4 0))], [(0, .rows 4 [[bs a0.Epoch, bs a0.Ver, bs a0.Rel, bv a0.HasRel]]), (1, .rows 4 [[bs a1.Epoch, bs a1.Ver, bs a1.Rel, bv a1.HasRel]])], 2⟩) (by kernel_rfl) ?_
  refine jr_nil rfl ?_
  refine jx_seqN ?_
  refine jc_seq ?_
  refine jc_reg ?_
  refine jr_seg 0 1 [2, 3, 5] [0, 1] (st1 := ⟨[(2, .av (.ptr 0 0 4 0)), (3, .av (.ptr 1 0 4 0)), (5, .av (.agg [bs a0.Epoch, bs a0.Ver, bs a0.Rel, bv a0.HasRel]))], [(0, .rows 4 [[bs a0.Epoch, bs a0.Ver, bs a0.Rel, bv a0.HasRel]]), (1, .rows 4 [[bs a1.Epoch, bs a1.Ver, bs a1.Rel, bv a1.HasRel]])], 2⟩) (by kernel_rfl) ?_
  refine jr_callF (i := 1) rfl rfl rfl rfl (vs := [.agg [bs a0.Epoch, bs a0.Ver, bs a0.Rel, bv a0.HasRel]]) (by kernel_rfl) (snapL_cons rfl (snapL_nil _)) (all2_cons (fle_refl _) all2_nil) (rpm_Fit_ok a0) (fun _ => rfl) (fun _ => rfl) ?_
  intro x1 h1
  refine jr_seg 2 1 [2, 3, 6, 7] [0, 1] (st1 := ⟨[(2, .av (.ptr 0 0 4 0)), (3, .av (.ptr 1 0 4 0)), (6, .av (bv x1)), (7, .av (.agg [bs a0.Epoch, bs a0.Ver, bs a0.Rel, bv a0.HasRel]))], [(0, .rows 4 [[bs a0.Epoch, bs a0.Ver, bs a0.Rel, bv a0.HasRel]]), (1, .rows 4 [[bs a1.Epoch, bs a1.Ver, bs a1.Rel, bv a1.HasRel]])], 2⟩) (by kernel_rfl) ?_
  refine jr_callF (i := 3) rfl rfl rfl rfl (vs := [.agg [bs a0.Epoch, bs a0.Ver, bs a0.Rel, bv a0.HasRel]]) (by kernel_rfl) (snapL_cons rfl (snapL_nil _)) (all2_cons (fle_refl _) all2_nil) (ref05_Fit_ok a0) (fun _ => rfl) (fun _ => rfl) ?_
  intro x2 h2
  refine jr_seg 4 2 [2, 3, 10] [0, 1] (st1 := ⟨[(2, .av (.ptr 0 0 4 0)), (3, .av (.ptr 1 0 4 0)), (10, .av (bv (x1 == x2)))], [(0, .rows 4 [[bs a0.Epoch, bs a0.Ver, bs a0.Rel, bv a0.HasRel]]), (1, .rows 4 [[bs a1.Epoch, bs a1.Ver, bs a1.Rel, bv a1.HasRel]])], 2⟩) (by kernel_rfl) ?_
  refine jr_bind 6 6 (fun x5 => ⟨[(2, .av (.ptr 0 0 4 0)), (3, .av (.ptr 1 0 4 0)), (16, .av (bv x5))], [(0, .rows 4 [[bs a0.Epoch, bs a0.Ver, bs a0.Rel, bv a0.HasRel]]), (1, .rows 4 [[bs a1.Epoch, bs a1.Ver, bs a1.Rel, bv a1.HasRel]])], 2⟩) ?_ ?_
  · refine jr_split (g := 10) (c := (x1 == x2)) (by kernel_rfl) ?_ ?_
    · intro _
      refine jr_seg 0 1 [2, 3, 10, 11] [0, 1] (st1 := ⟨[(2, .av (.ptr 0 0 4 0)), (3, .av (.ptr 1 0 4 0)), (10, .lit true), (11, .av (.agg [bs a0.Epoch, bs a0.Ver, bs a0.Rel, bv a0.HasRel]))], [(0, .rows 4 [[bs a0.Epoch, bs a0.Ver, bs a0.Rel, bv a0.HasRel]]), (1, .rows 4 [[bs a1.Epoch, bs a1.Ver, bs a1.Rel, bv a1.HasRel]])], 2⟩) (by kernel_rfl) ?_
      refine jr_callF (i := 1) rfl rfl rfl rfl (vs := [.agg [bs a0.Epoch, bs a0.Ver, bs a0.Rel, bv a0.HasRel]]) (by kernel_rfl) (snapL_cons rfl (snapL_nil _)) (all2_cons (fle_refl _) all2_nil) (rpm_Text_ok a0) (fun _ => rfl) (fun _ => rfl) ?_
      intro x6 h6
      refine jr_seg 2 1 [2, 3, 10, 12, 13] [0, 1] (st1 := ⟨[(2, .av (.ptr 0 0 4 0)), (3, .av (.ptr 1 0 4 0)), (10, .lit true), (12, .av (bs x6)), (13, .av (.agg [bs a0.Epoch, bs a0.Ver, bs a0.Rel, bv a0.HasRel]))], [(0, .rows 4 [[bs a0.Epoch, bs a0.Ver, bs a0.Rel, bv a0.HasRel]]), (1, .rows 4 [[bs a1.Epoch, bs a1.Ver, bs a1.Rel, bv a1.HasRel]])], 2⟩) (by kernel_rfl) ?_
      refine jr_callF (i := 3) rfl rfl rfl rfl (vs := [.agg [bs a0.Epoch, bs a0.Ver, bs a0.Rel, bv a0.HasRel]]) (by kernel_rfl) (snapL_cons rfl (snapL_nil _)) (all2_cons (fle_refl _) all2_nil) (ref05_Text_ok a0) (fun _ => rfl) (fun _ => rfl) ?_
      intro x7 h7
      refine jr_seg 4 2 [2, 3, 16] [0, 1] (st1 := ⟨[(2, .av (.ptr 0 0 4 0)), (3, .av (.ptr 1 0 4 0)), (16, .av (bv (x6 == x7)))], [(0, .rows 4 [[bs a0.Epoch, bs a0.Ver, bs a0.Rel, bv a0.HasRel]]), (1, .rows 4 [[bs a1.Epoch, bs a1.Ver, bs a1.Rel, bv a1.HasRel]])], 2⟩) (by kernel_rfl) ?_
      refine jr_nil rfl ?_
      exact jx_mid rfl (wk_ren [(0, some 0), (1, some 1)] (fix_nil _) rfl (by kernel_rfl) (allp_cons (.inl ⟨0, _, _, _, rfl, rfl, rfl, .inl (by kernel_rfl)⟩) (allp_cons (.inl ⟨1, _, _, _, rfl, rfl, rfl, .inl (by kernel_rfl)⟩) allp_nil)))
    · intro _
      refine jr_seg 0 6 [2, 3, 16] [0, 1] (st1 := ⟨[(2, .av (.ptr 0 0 4 0)), (3, .av (.ptr 1 0 4 0)), (16, .av (bv false))], [(0, .rows 4 [[bs a0.Epoch, bs a0.Ver, bs a0.Rel, bv a0.HasRel]]), (1, .rows 4 [[bs a1.Epoch, bs a1.Ver, bs a1.Rel, bv a1.HasRel]])], 2⟩) (by kernel_rfl) ?_
      refine jr_nil rfl ?_
      exact jx_mid rfl (wk_ren [(0, some 0), (1, some 1)] (fix_nil _) rfl (by kernel_rfl) (allp_cons (.inl ⟨0, _, _, _, rfl, rfl, rfl, .inl (by kernel_rfl)⟩) (allp_cons (.inl ⟨1, _, _, _, rfl, rfl, rfl, .inl (by kernel_rfl)⟩) allp_nil)))
  · intro x5
    refine jr_seg 12 1 [2, 3, 17] [0, 1] (st1 := ⟨[(2, .av (.ptr 0 0 4 0)), (3, .av (.ptr 1 0 4 0)), (17, .av (bv x5))], [(0, .rows 4 [[bs a0.Epoch, bs a0.Ver, bs a0.Rel, bv a0.HasRel]]), (1, .rows 4 [[bs a1.Epoch, bs a1.Ver, bs a1.Rel, bv a1.HasRel]])], 2⟩) (by kernel_rfl) ?_
    refine jr_bind 13 8 (fun x10 => ⟨[(25, .av (bv x10))], [], 0⟩) ?_ ?_
    · refine jr_split (g := 17) (c := x5) (by kernel_rfl) ?_ ?_
      · intro _
        refine jr_seg 0 2 [2, 3, 17, 18, 19] [0, 1] (st1 := ⟨[(2, .av (.ptr 0 0 4 0)), (3, .av (.ptr 1 0 4 0)), (17, .lit true), (18, .av (.agg [bs a0.Epoch, bs a0.Ver, bs a0.Rel, bv a0.HasRel])), (19, .av (.agg [bs a1.Epoch, bs a1.Ver, bs a1.Rel, bv a1.HasRel]))], [(0, .rows 4 [[bs a0.Epoch, bs a0.Ver, bs a0.Rel, bv a0.HasRel]]), (1, .rows 4 [[bs a1.Epoch, bs a1.Ver, bs a1.Rel, bv a1.HasRel]])], 2⟩) (by kernel_rfl) ?_
        refine jr_callF (i := 2) rfl rfl rfl rfl (vs := [.agg [bs a0.Epoch, bs a0.Ver, bs a0.Rel, bv a0.HasRel], .agg [bs a1.Epoch, bs a1.Ver, bs a1.Rel, bv a1.HasRel]]) (by kernel_rfl) (snapL_cons rfl (snapL_cons rfl (snapL_nil _))) (all2_cons (fle_refl _) (all2_cons (fle_refl _) all2_nil)) (rpm_Order_ok a0 a1) (fun _ => rfl) (fun _ => rfl) ?_
        intro x11 h11
        refine jr_seg 3 2 [17, 20, 21, 22] [] (st1 := ⟨[(17, .lit true), (20, .av (iv x11)), (21, .av (.agg [bs a0.Epoch, bs a0.Ver, bs a0.Rel, bv a0.HasRel])), (22, .av (.agg [bs a1.Epoch, bs a1.Ver, bs a1.Rel, bv a1.HasRel]))], [], 2⟩) (by kernel_rfl) ?_
        refine jr_callF (i := 5) rfl rfl rfl rfl (vs := [.agg [bs a0.Epoch, bs a0.Ver, bs a0.Rel, bv a0.HasRel], .agg [bs a1.Epoch, bs a1.Ver, bs a1.Rel, bv a1.HasRel]]) (by kernel_rfl) (snapL_cons rfl (snapL_cons rfl (snapL_nil _))) (all2_cons (fle_refl _) (all2_cons (fle_refl _) all2_nil)) (ref05_Order_ok a0 a1) (fun _ => rfl) (fun _ => rfl) ?_
        intro x12 h12
        refine jr_seg 6 2 [25] [] (st1 := ⟨[(25, .av (bv (x11 == x12)))], [], 2⟩) (by kernel_rfl) ?_
        refine jr_nil rfl ?_
        exact jx_mid rfl (wk_ren [] (fix_nil _) rfl (by kernel_rfl) allp_nil)
      · intro _
        refine jr_seg 0 8 [25] [] (st1 := ⟨[(25, .av (bv false))], [], 2⟩) (by kernel_rfl) ?_
        refine jr_nil rfl ?_
        exact jx_mid rfl (wk_ren [] (fix_nil _) rfl (by kernel_rfl) allp_nil)
    · intro x10
      refine jr_seg 21 1 [26] [] (st1 := ⟨[(26, .av (bv x10))], [], 0⟩) (by kernel_rfl) ?_
      refine jr_bind 22 2 (fun x14 => ⟨[(28, .av (bv x14))], [], 0⟩) ?_ ?_
      · refine jr_split (g := 26) (c := x10) (by kernel_rfl) ?_ ?_
        · intro _
          refine jr_callF (i := 0) rfl rfl rfl rfl (vs := []) (by kernel_rfl) (snapL_nil _) all2_nil (law05_awake_ok) (fun _ => rfl) (fun _ => rfl) ?_
          intro x15 h15
          refine jr_seg 1 1 [28] [] (st1 := ⟨[(28, .av (bv x15))], [], 0⟩) (by kernel_rfl) ?_
          refine jr_nil rfl ?_
          exact jx_mid rfl (wk_ren [] (fix_nil _) rfl (by kernel_rfl) allp_nil)
        · intro _
          refine jr_seg 0 2 [28] [] (st1 := ⟨[(28, .av (bv false))], [], 0⟩) (by kernel_rfl) ?_
          refine jr_nil rfl ?_
          exact jx_mid rfl (wk_ren [] (fix_nil _) rfl (by kernel_rfl) allp_nil)
      · intro x14
        refine jr_seg 24 1 [4] [] (st1 := ⟨[(4, .av (bv x14))], [], 0⟩) (by kernel_rfl) ?_
        refine jr_nil rfl ?_
        refine jx_seqN ?_
        refine jc_ret ?_
        exact jx_retF (.inr rfl) (v := bv x14) (by kernel_rfl) rfl (fle_refl _))
end Go.Vm

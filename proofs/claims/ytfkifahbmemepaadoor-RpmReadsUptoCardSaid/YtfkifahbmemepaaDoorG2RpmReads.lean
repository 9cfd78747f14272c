/- The law RpmReads, a part of its proof: what the functions that it reaches compute. -/
import Derived.Test.YtfkifahbmemepaaDoorG0RpmReads
import Derived.Test.YtfkifahbmemepaaDoorG1RpmReads
import Derived.Test.YtfkifahbmemepaaDoorW05RpmReads
set_option maxRecDepth 100000
set_option maxHeartbeats 0
set_option linter.unusedVariables false
set_option linter.unusedSimpArgs false
namespace Go.Vm
open Go
abbrev ref05_Compare_r1 : List LO := [⟨some 4, Op.assign (Operand.const (Value.int IntKind.i64 0)), 3, none⟩]
abbrev ref05_Compare_b2 : LC := .reg false ref05_Compare_r1
abbrev ref05_Compare_r3 : List LO := [⟨some 10, Op.move (Operand.tmp 0), 9, none⟩,
  ⟨some 11, Op.call { callee := Callee.value (Operand.func 38), args := #[Operand.tmp 10], argTypes := #[9] }, 52, none⟩,
  ⟨some 9, Op.move (Operand.tmp 11), 52, none⟩,
  ⟨some 12, Op.extract (Operand.tmp 9) 0, 51, none⟩,
  ⟨some 13, Op.extract (Operand.tmp 9) 1, 44, none⟩,
  ⟨some 5, Op.alloc 51, 0, none⟩,
  ⟨some 6, Op.alloc 44, 0, none⟩,
  ⟨none, Op.store 51 (Operand.tmp 5) (Operand.tmp 12), 0, none⟩,
  ⟨none, Op.store 44 (Operand.tmp 6) (Operand.tmp 13), 0, none⟩]
abbrev ref05_Compare_b4 : LC := .reg false ref05_Compare_r3
abbrev ref05_Compare_r5 : List LO := [⟨some 15, Op.move (Operand.tmp 1), 9, none⟩,
  ⟨some 16, Op.call { callee := Callee.value (Operand.func 38), args := #[Operand.tmp 15], argTypes := #[9] }, 52, none⟩,
  ⟨some 14, Op.move (Operand.tmp 16), 52, none⟩,
  ⟨some 17, Op.extract (Operand.tmp 14) 0, 51, none⟩,
  ⟨some 18, Op.extract (Operand.tmp 14) 1, 44, none⟩,
  ⟨some 7, Op.alloc 51, 0, none⟩,
  ⟨some 8, Op.alloc 44, 0, none⟩,
  ⟨none, Op.store 51 (Operand.tmp 7) (Operand.tmp 17), 0, none⟩,
  ⟨none, Op.store 44 (Operand.tmp 8) (Operand.tmp 18), 0, none⟩]
abbrev ref05_Compare_b6 : LC := .reg false ref05_Compare_r5
abbrev ref05_Compare_r7 : List LO := [⟨some 20, Op.fieldAddr 44 (Operand.tmp 6) 0, 0, none⟩,
  ⟨some 21, Op.load 42 (Operand.tmp 20), 42, none⟩,
  ⟨some 22, Op.binOp BinOp.neq 42 (Operand.tmp 21) (Operand.const (Value.int IntKind.i64 0)) 42, 4, none⟩,
  ⟨some 23, Op.move (Operand.tmp 22), 4, none⟩,
  ⟨some 24, Op.fieldAddr 44 (Operand.tmp 8) 0, 0, (some (23, true))⟩,
  ⟨some 25, Op.load 42 (Operand.tmp 24), 42, (some (23, true))⟩,
  ⟨some 26, Op.binOp BinOp.neq 42 (Operand.tmp 25) (Operand.const (Value.int IntKind.i64 0)) 42, 4, (some (23, true))⟩,
  ⟨some 27, Op.pick (Operand.tmp 23) (Operand.tmp 26) (Operand.const (Value.bool false)), 4, none⟩,
  ⟨some 19, Op.assign (Operand.tmp 27), 4, none⟩]
abbrev ref05_Compare_b8 : LC := .reg false ref05_Compare_r7
abbrev ref05_Compare_r9 : List LO := [⟨some 4, Op.assign (Operand.const (Value.int IntKind.i64 0)), 3, none⟩]
abbrev ref05_Compare_b10 : LC := .reg false ref05_Compare_r9
abbrev ref05_Compare_b11 : LC := .seq ref05_Compare_b10 .ret
abbrev ref05_Compare_r12 : List LO := [⟨some 29, Op.fieldAddr 44 (Operand.tmp 6) 0, 0, none⟩,
  ⟨some 30, Op.load 42 (Operand.tmp 29), 42, none⟩,
  ⟨some 31, Op.binOp BinOp.neq 42 (Operand.tmp 30) (Operand.const (Value.int IntKind.i64 0)) 42, 4, none⟩,
  ⟨some 28, Op.assign (Operand.tmp 31), 4, none⟩]
abbrev ref05_Compare_b13 : LC := .reg false ref05_Compare_r12
abbrev ref05_Compare_r14 : List LO := [⟨some 4, Op.assign (Operand.const (Value.int IntKind.i64 (-1))), 3, none⟩]
abbrev ref05_Compare_b15 : LC := .reg false ref05_Compare_r14
abbrev ref05_Compare_b16 : LC := .seq ref05_Compare_b15 .ret
abbrev ref05_Compare_r17 : List LO := [⟨some 33, Op.fieldAddr 44 (Operand.tmp 8) 0, 0, none⟩,
  ⟨some 34, Op.load 42 (Operand.tmp 33), 42, none⟩,
  ⟨some 35, Op.binOp BinOp.neq 42 (Operand.tmp 34) (Operand.const (Value.int IntKind.i64 0)) 42, 4, none⟩,
  ⟨some 32, Op.assign (Operand.tmp 35), 4, none⟩]
abbrev ref05_Compare_b18 : LC := .reg false ref05_Compare_r17
abbrev ref05_Compare_r19 : List LO := [⟨some 4, Op.assign (Operand.const (Value.int IntKind.i64 1)), 3, none⟩]
abbrev ref05_Compare_b20 : LC := .reg false ref05_Compare_r19
abbrev ref05_Compare_b21 : LC := .seq ref05_Compare_b20 .ret
abbrev ref05_Compare_b22 : LC := .cond (Operand.tmp 32) ref05_Compare_b21 .skip
abbrev ref05_Compare_b23 : LC := .seq ref05_Compare_b18 ref05_Compare_b22
abbrev ref05_Compare_b24 : LC := .cond (Operand.tmp 28) ref05_Compare_b16 ref05_Compare_b23
abbrev ref05_Compare_b25 : LC := .seq ref05_Compare_b13 ref05_Compare_b24
abbrev ref05_Compare_b26 : LC := .cond (Operand.tmp 19) ref05_Compare_b11 ref05_Compare_b25
abbrev ref05_Compare_b27 : LC := .seq ref05_Compare_b8 ref05_Compare_b26
abbrev ref05_Compare_b28 : LC := .block 0 ref05_Compare_b27
abbrev ref05_Compare_r29 : List LO := [⟨some 36, Op.load 51 (Operand.tmp 5), 51, none⟩,
  ⟨some 37, Op.load 51 (Operand.tmp 7), 51, none⟩,
  ⟨some 38, Op.call { callee := Callee.value (Operand.func 49), args := #[Operand.tmp 36, Operand.tmp 37], argTypes := #[51, 51] }, 3, none⟩,
  ⟨some 4, Op.assign (Operand.tmp 38), 3, none⟩]
abbrev ref05_Compare_b30 : LC := .reg false ref05_Compare_r29
abbrev ref05_Compare_b31 : LC := .seq ref05_Compare_b30 .ret
abbrev ref05_Compare_b32 : LC := .seq ref05_Compare_b28 ref05_Compare_b31
abbrev ref05_Compare_b33 : LC := .seq ref05_Compare_b6 ref05_Compare_b32
abbrev ref05_Compare_b34 : LC := .seq ref05_Compare_b4 ref05_Compare_b33
abbrev ref05_Compare_b35 : LC := .seq ref05_Compare_b2 ref05_Compare_b34
theorem ref05_Compare_k : FnOk E 42 39 [.tmp 4] ref05_Compare_b35 := ⟨⟨Go.Proofs.Tryd.f42, by kernel_rfl, by kernel_rfl, by kernel_rfl, by kernel_rfl, by kernel_rfl⟩, rfl⟩
noncomputable def ref05_Compare (a0 : Str) (a1 : Str) : Option (Int) := Option.bind (ref05_Parse a0) (fun x1 => Option.bind (ref05_Parse a1) (fun x2 => (if ((x1.2.Err != 0) && (x2.2.Err != 0)) = true then some 0 else (if (x1.2.Err != 0) = true then some (-1) else (if (x2.2.Err != 0) = true then some 1 else Option.bind (ref05_Order (S_api_Evr.mk x1.1.Epoch x1.1.Ver x1.1.Rel x1.1.HasRel) (S_api_Evr.mk x2.1.Epoch x2.1.Ver x2.1.Rel x2.1.HasRel)) (fun x3 => some x3))))))
theorem ref05_Compare_ok (a0 : Str) (a1 : Str) : Ct E 42 [bs a0, bs a1] (ref05_Compare a0 a1) (fun r : Int => iv r) := ct_intro (N := 39) (L := ref05_Compare_b35) ref05_Compare_k rfl (Nat.le_of_ble_eq_true rfl) (by kernel_rfl) (by
  unfold ref05_Compare
  refine jc_seq ?_
  refine jc_reg ?_
  refine jr_seg 0 1 [0, 1] [] (st1 := ⟨[(0, .av (bs a0)), (1, .av (bs a1))], [], 0⟩) (by kernel_rfl) ?_
  refine jr_nil rfl ?_
  refine jx_seqN ?_
  refine jc_seq ?_
  refine jc_reg ?_
  refine jr_seg 0 1 [1, 10] [] (st1 := ⟨[(1, .av (bs a1)), (10, .av (bs a0))], [], 0⟩) (by kernel_rfl) ?_
  refine jr_callF (i := 1) rfl rfl rfl rfl (vs := [bs a0]) (by kernel_rfl) (snapL_cons rfl (snapL_nil _)) (all2_cons (fle_refl _) all2_nil) (ref05_Parse_ok a0) (fun _ => rfl) (fun _ => rfl) ?_
  intro x1 h1
  refine jr_seg 2 7 [1, 5, 6] [0, 1] (st1 := ⟨[(1, .av (bs a1)), (5, .av (.ptr 0 0 4 0)), (6, .av (.ptr 1 0 2 0))], [(0, .rows 4 [[bs x1.1.Epoch, bs x1.1.Ver, bs x1.1.Rel, bv x1.1.HasRel]]), (1, .rows 2 [[iv x1.2.Err, iv x1.2.At]])], 2⟩) (by kernel_rfl) ?_
  refine jr_nil rfl ?_
  refine jx_seqN ?_
  refine jc_seq ?_
  refine jc_reg ?_
  refine jr_seg 0 1 [5, 6, 15] [0, 1] (st1 := ⟨[(5, .av (.ptr 0 0 4 0)), (6, .av (.ptr 1 0 2 0)), (15, .av (bs a1))], [(0, .rows 4 [[bs x1.1.Epoch, bs x1.1.Ver, bs x1.1.Rel, bv x1.1.HasRel]]), (1, .rows 2 [[iv x1.2.Err, iv x1.2.At]])], 2⟩) (by kernel_rfl) ?_
  refine jr_callF (i := 1) rfl rfl rfl rfl (vs := [bs a1]) (by kernel_rfl) (snapL_cons rfl (snapL_nil _)) (all2_cons (fle_refl _) all2_nil) (ref05_Parse_ok a1) (fun _ => rfl) (fun _ => rfl) ?_
  intro x2 h2
  refine jr_seg 2 7 [5, 6, 7, 8] [0, 1, 2, 3] (st1 := ⟨[(5, .av (.ptr 0 0 4 0)), (6, .av (.ptr 1 0 2 0)), (7, .av (.ptr 2 0 4 0)), (8, .av (.ptr 3 0 2 0))], [(0, .rows 4 [[bs x1.1.Epoch, bs x1.1.Ver, bs x1.1.Rel, bv x1.1.HasRel]]), (1, .rows 2 [[iv x1.2.Err, iv x1.2.At]]), (2, .rows 4 [[bs x2.1.Epoch, bs x2.1.Ver, bs x2.1.Rel, bv x2.1.HasRel]]), (3, .rows 2 [[iv x2.2.Err, iv x2.2.At]])], 4⟩) (by kernel_rfl) ?_
  refine jr_nil rfl ?_
  refine jx_seqN ?_
  refine jc_seq ?_
  refine jc_block ?_
  refine jc_seq ?_
  refine jc_reg ?_
  refine jr_seg 0 9 [5, 6, 7, 8, 19] [0, 1, 2, 3] (st1 := ⟨[(5, .av (.ptr 0 0 4 0)), (6, .av (.ptr 1 0 2 0)), (7, .av (.ptr 2 0 4 0)), (8, .av (.ptr 3 0 2 0)), (19, .av (bv ((x1.2.Err != 0) && (x2.2.Err != 0))))], [(0, .rows 4 [[bs x1.1.Epoch, bs x1.1.Ver, bs x1.1.Rel, bv x1.1.HasRel]]), (1, .rows 2 [[iv x1.2.Err, iv x1.2.At]]), (2, .rows 4 [[bs x2.1.Epoch, bs x2.1.Ver, bs x2.1.Rel, bv x2.1.HasRel]]), (3, .rows 2 [[iv x2.2.Err, iv x2.2.At]])], 4⟩) (by kernel_rfl) ?_
  refine jr_nil rfl ?_
  refine jx_seqN ?_
  refine jc_cond (g := 19) (c := ((x1.2.Err != 0) && (x2.2.Err != 0))) (by kernel_rfl) ?_ ?_
  · intro _
    refine jc_seq ?_
    refine jc_reg ?_
    refine jr_seg 0 1 [4] [] (st1 := ⟨[(4, .av (iv 0))], [], 4⟩) (by kernel_rfl) ?_
    refine jr_nil rfl ?_
    refine jx_seqN ?_
    refine jc_ret ?_
    refine jx_blkR ?_
    refine jx_seqR ?_
    exact jx_retF (.inr rfl) (v := iv 0) (by kernel_rfl) rfl (fle_refl _)
  · intro _
    refine jc_seq ?_
    refine jc_reg ?_
    refine jr_seg 0 4 [5, 7, 8, 28] [0, 2, 3] (st1 := ⟨[(5, .av (.ptr 0 0 4 0)), (7, .av (.ptr 2 0 4 0)), (8, .av (.ptr 3 0 2 0)), (28, .av (bv (x1.2.Err != 0)))], [(0, .rows 4 [[bs x1.1.Epoch, bs x1.1.Ver, bs x1.1.Rel, bv x1.1.HasRel]]), (2, .rows 4 [[bs x2.1.Epoch, bs x2.1.Ver, bs x2.1.Rel, bv x2.1.HasRel]]), (3, .rows 2 [[iv x2.2.Err, iv x2.2.At]])], 4⟩) (by kernel_rfl) ?_
    refine jr_nil rfl ?_
    refine jx_seqN ?_
    refine jc_cond (g := 28) (c := (x1.2.Err != 0)) (by kernel_rfl) ?_ ?_
    · intro _
      refine jc_seq ?_
      refine jc_reg ?_
      refine jr_seg 0 1 [4] [] (st1 := ⟨[(4, .av (iv (-1)))], [], 4⟩) (by kernel_rfl) ?_
      refine jr_nil rfl ?_
      refine jx_seqN ?_
      refine jc_ret ?_
      refine jx_blkR ?_
      refine jx_seqR ?_
      exact jx_retF (.inr rfl) (v := iv (-1)) (by kernel_rfl) rfl (fle_refl _)
    · intro _
      refine jc_seq ?_
      refine jc_reg ?_
      refine jr_seg 0 4 [5, 7, 32] [0, 2] (st1 := ⟨[(5, .av (.ptr 0 0 4 0)), (7, .av (.ptr 2 0 4 0)), (32, .av (bv (x2.2.Err != 0)))], [(0, .rows 4 [[bs x1.1.Epoch, bs x1.1.Ver, bs x1.1.Rel, bv x1.1.HasRel]]), (2, .rows 4 [[bs x2.1.Epoch, bs x2.1.Ver, bs x2.1.Rel, bv x2.1.HasRel]])], 4⟩) (by kernel_rfl) ?_
      refine jr_nil rfl ?_
      refine jx_seqN ?_
      refine jc_cond (g := 32) (c := (x2.2.Err != 0)) (by kernel_rfl) ?_ ?_
      · intro _
        refine jc_seq ?_
        refine jc_reg ?_
        refine jr_seg 0 1 [4] [] (st1 := ⟨[(4, .av (iv 1))], [], 4⟩) (by kernel_rfl) ?_
        refine jr_nil rfl ?_
        refine jx_seqN ?_
        refine jc_ret ?_
        refine jx_blkR ?_
        refine jx_seqR ?_
        exact jx_retF (.inr rfl) (v := iv 1) (by kernel_rfl) rfl (fle_refl _)
      · intro _
        refine jc_skip ?_
        refine jx_blkN ?_
        refine jx_seqN ?_
        refine jc_seq ?_
        refine jc_reg ?_
        refine jr_seg 0 2 [36, 37] [] (st1 := ⟨[(36, .av (.agg [bs x1.1.Epoch, bs x1.1.Ver, bs x1.1.Rel, bv x1.1.HasRel])), (37, .av (.agg [bs x2.1.Epoch, bs x2.1.Ver, bs x2.1.Rel, bv x2.1.HasRel]))], [], 4⟩) (by kernel_rfl) ?_
        refine jr_callF (i := 2) rfl rfl rfl rfl (vs := [.agg [bs x1.1.Epoch, bs x1.1.Ver, bs x1.1.Rel, bv x1.1.HasRel], .agg [bs x2.1.Epoch, bs x2.1.Ver, bs x2.1.Rel, bv x2.1.HasRel]]) (by kernel_rfl) (snapL_cons rfl (snapL_cons rfl (snapL_nil _))) (all2_cons (fle_refl _) (all2_cons (fle_refl _) all2_nil)) (ref05_Order_ok (S_api_Evr.mk x1.1.Epoch x1.1.Ver x1.1.Rel x1.1.HasRel) (S_api_Evr.mk x2.1.Epoch x2.1.Ver x2.1.Rel x2.1.HasRel)) (fun _ => rfl) (fun _ => rfl) ?_
        intro x3 h3
        refine jr_seg 3 1 [4] [] (st1 := ⟨[(4, .av (iv x3))], [], 4⟩) (by kernel_rfl) ?_
        refine jr_nil rfl ?_
        refine jx_seqN ?_
        refine jc_ret ?_
        exact jx_retF (.inr rfl) (v := iv x3) (by kernel_rfl) rfl (fle_refl _))
end Go.Vm

set_option maxRecDepth 100000
set_option maxHeartbeats 0
set_option linter.unusedVariables false
set_option linter.unusedSimpArgs false
namespace Go.Vm
open Go
abbrev law05_RpmReads_r1 : List LO := [⟨some 4, Op.assign (Operand.const (Value.bool false)), 4, none⟩]
abbrev law05_RpmReads_b2 : LC := .reg false law05_RpmReads_r1
abbrev law05_RpmReads_r3 : List LO := [⟨some 10, Op.move (Operand.tmp 0), 9, none⟩,
  ⟨some 11, Op.call { callee := Callee.value (Operand.func 37), args := #[Operand.tmp 10], argTypes := #[9] }, 52, none⟩,
  ⟨some 9, Op.move (Operand.tmp 11), 52, none⟩,
  ⟨some 12, Op.extract (Operand.tmp 9) 0, 51, none⟩,
  ⟨some 13, Op.extract (Operand.tmp 9) 1, 44, none⟩,
  ⟨some 5, Op.alloc 51, 0, none⟩,
  ⟨some 6, Op.alloc 44, 0, none⟩,
  ⟨none, Op.store 51 (Operand.tmp 5) (Operand.tmp 12), 0, none⟩,
  ⟨none, Op.store 44 (Operand.tmp 6) (Operand.tmp 13), 0, none⟩]
abbrev law05_RpmReads_b4 : LC := .reg false law05_RpmReads_r3
abbrev law05_RpmReads_r5 : List LO := [⟨some 15, Op.move (Operand.tmp 0), 9, none⟩,
  ⟨some 16, Op.call { callee := Callee.value (Operand.func 38), args := #[Operand.tmp 15], argTypes := #[9] }, 52, none⟩,
  ⟨some 14, Op.move (Operand.tmp 16), 52, none⟩,
  ⟨some 17, Op.extract (Operand.tmp 14) 0, 51, none⟩,
  ⟨some 18, Op.extract (Operand.tmp 14) 1, 44, none⟩,
  ⟨some 7, Op.alloc 51, 0, none⟩,
  ⟨some 8, Op.alloc 44, 0, none⟩,
  ⟨none, Op.store 51 (Operand.tmp 7) (Operand.tmp 17), 0, none⟩,
  ⟨none, Op.store 44 (Operand.tmp 8) (Operand.tmp 18), 0, none⟩]
abbrev law05_RpmReads_b6 : LC := .reg false law05_RpmReads_r5
abbrev law05_RpmReads_r7 : List LO := [⟨some 19, Op.load 51 (Operand.tmp 5), 51, none⟩,
  ⟨some 20, Op.load 51 (Operand.tmp 7), 51, none⟩,
  ⟨some 21, Op.binOp BinOp.eql 51 (Operand.tmp 19) (Operand.tmp 20) 51, 4, none⟩,
  ⟨some 22, Op.move (Operand.tmp 21), 4, none⟩,
  ⟨some 23, Op.load 44 (Operand.tmp 6), 44, (some (22, true))⟩,
  ⟨some 24, Op.load 44 (Operand.tmp 8), 44, (some (22, true))⟩,
  ⟨some 25, Op.binOp BinOp.eql 44 (Operand.tmp 23) (Operand.tmp 24) 44, 4, (some (22, true))⟩,
  ⟨some 26, Op.pick (Operand.tmp 22) (Operand.tmp 25) (Operand.const (Value.bool false)), 4, none⟩,
  ⟨some 27, Op.move (Operand.tmp 26), 4, none⟩,
  ⟨some 28, Op.move (Operand.tmp 0), 9, (some (27, true))⟩,
  ⟨some 29, Op.move (Operand.tmp 1), 9, (some (27, true))⟩,
  ⟨some 30, Op.call { callee := Callee.value (Operand.func 39), args := #[Operand.tmp 28, Operand.tmp 29], argTypes := #[9, 9] }, 3, (some (27, true))⟩,
  ⟨some 31, Op.move (Operand.tmp 0), 9, (some (27, true))⟩,
  ⟨some 32, Op.move (Operand.tmp 1), 9, (some (27, true))⟩,
  ⟨some 33, Op.call { callee := Callee.value (Operand.func 40), args := #[Operand.tmp 31, Operand.tmp 32], argTypes := #[9, 9] }, 3, (some (27, true))⟩,
  ⟨some 34, Op.binOp BinOp.eql 3 (Operand.tmp 30) (Operand.tmp 33) 3, 4, (some (27, true))⟩,
  ⟨some 35, Op.pick (Operand.tmp 27) (Operand.tmp 34) (Operand.const (Value.bool false)), 4, none⟩,
  ⟨some 36, Op.move (Operand.tmp 35), 4, none⟩,
  ⟨some 37, Op.move (Operand.tmp 0), 9, (some (36, true))⟩,
  ⟨some 38, Op.move (Operand.tmp 1), 9, (some (36, true))⟩,
  ⟨some 39, Op.call { callee := Callee.value (Operand.func 41), args := #[Operand.tmp 37, Operand.tmp 38], argTypes := #[9, 9] }, 3, (some (36, true))⟩,
  ⟨some 40, Op.move (Operand.tmp 0), 9, (some (36, true))⟩,
  ⟨some 41, Op.move (Operand.tmp 1), 9, (some (36, true))⟩,
  ⟨some 42, Op.call { callee := Callee.value (Operand.func 42), args := #[Operand.tmp 40, Operand.tmp 41], argTypes := #[9, 9] }, 3, (some (36, true))⟩,
  ⟨some 43, Op.binOp BinOp.eql 3 (Operand.tmp 39) (Operand.tmp 42) 3, 4, (some (36, true))⟩,
  ⟨some 44, Op.pick (Operand.tmp 36) (Operand.tmp 43) (Operand.const (Value.bool false)), 4, none⟩,
  ⟨some 45, Op.move (Operand.tmp 44), 4, none⟩,
  ⟨some 46, Op.call { callee := Callee.value (Operand.func 43), args := #[], argTypes := #[] }, 4, (some (45, true))⟩,
  ⟨some 47, Op.pick (Operand.tmp 45) (Operand.tmp 46) (Operand.const (Value.bool false)), 4, none⟩,
  ⟨some 4, Op.assign (Operand.tmp 47), 4, none⟩]
abbrev law05_RpmReads_b8 : LC := .reg false law05_RpmReads_r7
abbrev law05_RpmReads_b9 : LC := .seq law05_RpmReads_b8 .ret
abbrev law05_RpmReads_b10 : LC := .seq law05_RpmReads_b6 law05_RpmReads_b9
abbrev law05_RpmReads_b11 : LC := .seq law05_RpmReads_b4 law05_RpmReads_b10
abbrev law05_RpmReads_b12 : LC := .seq law05_RpmReads_b2 law05_RpmReads_b11
theorem law05_RpmReads_k : FnOk E 8 48 [.tmp 4] law05_RpmReads_b12 := ⟨⟨Go.Proofs.Tryd.f8, by kernel_rfl, by kernel_rfl, by kernel_rfl, by kernel_rfl, by kernel_rfl⟩, rfl⟩
noncomputable def law05_RpmReads (a0 : Str) (a1 : Str) : Option (Bool) := Option.bind (rpm_Parse a0) (fun x1 => Option.bind (ref05_Parse a0) (fun x2 => Option.bind (if (((x1.1.Epoch == x2.1.Epoch) && ((x1.1.Ver == x2.1.Ver) && ((x1.1.Rel == x2.1.Rel) && (x1.1.HasRel == x2.1.HasRel)))) && ((x1.2.Err == x2.2.Err) && (x1.2.At == x2.2.At))) = true then Option.bind (rpm_Segments a0 a1) (fun x6 => Option.bind (ref05_Segments a0 a1) (fun x7 => some (x6 == x7))) else some false : Option (Bool)) (fun x5 => Option.bind (if x5 = true then Option.bind (rpm_Compare a0 a1) (fun x11 => Option.bind (ref05_Compare a0 a1) (fun x12 => some (x11 == x12))) else some false : Option (Bool)) (fun x10 => Option.bind (if x10 = true then Option.bind (law05_awake) (fun x15 => some x15) else some false : Option (Bool)) (fun x14 => some x14)))))
theorem law05_RpmReads_ok (a0 : Str) (a1 : Str) : Ct E 8 [bs a0, bs a1] (law05_RpmReads a0 a1) (fun r : Bool => bv r) := ct_intro (N := 48) (L := law05_RpmReads_b12) law05_RpmReads_k rfl (Nat.le_of_ble_eq_true rfl) (by kernel_rfl) (by
  unfold law05_RpmReads
  refine jc_seq ?_
  refine jc_reg ?_
  refine jr_seg 0 1 [0, 1] [] (st1 := ⟨[(0, .av (bs a0)), (1, .av (bs a1))], [], 0⟩) (by kernel_rfl) ?_
  refine jr_nil rfl ?_
  refine jx_seqN ?_
  refine jc_seq ?_
  refine jc_reg ?_
  refine jr_seg 0 1 [0, 1, 10] [] (st1 := ⟨[(0, .av (bs a0)), (1, .av (bs a1)), (10, .av (bs a0))], [], 0⟩) (by kernel_rfl) ?_
  refine jr_callF (i := 1) rfl rfl rfl rfl (vs := [bs a0]) (by kernel_rfl) (snapL_cons rfl (snapL_nil _)) (all2_cons (fle_refl _) all2_nil) (rpm_Parse_ok a0) (fun _ => rfl) (fun _ => rfl) ?_
  intro x1 h1
  refine jr_seg 2 7 [0, 1, 5, 6] [0, 1] (st1 := ⟨[(0, .av (bs a0)), (1, .av (bs a1)), (5, .av (.ptr 0 0 4 0)), (6, .av (.ptr 1 0 2 0))], [(0, .rows 4 [[bs x1.1.Epoch, bs x1.1.Ver, bs x1.1.Rel, bv x1.1.HasRel]]), (1, .rows 2 [[iv x1.2.Err, iv x1.2.At]])], 2⟩) (by kernel_rfl) ?_
  refine jr_nil rfl ?_
  refine jx_seqN ?_
  refine jc_seq ?_
  refine jc_reg ?_
  refine jr_seg 0 1 [0, 1, 5, 6, 15] [0, 1] (st1 := ⟨[(0, .av (bs a0)), (1, .av (bs a1)), (5, .av (.ptr 0 0 4 0)), (6, .av (.ptr 1 0 2 0)), (15, .av (bs a0))], [(0, .rows 4 [[bs x1.1.Epoch, bs x1.1.Ver, bs x1.1.Rel, bv x1.1.HasRel]]), (1, .rows 2 [[iv x1.2.Err, iv x1.2.At]])], 2⟩) (by kernel_rfl) ?_
  refine jr_callF (i := 1) rfl rfl rfl rfl (vs := [bs a0]) (by kernel_rfl) (snapL_cons rfl (snapL_nil _)) (all2_cons (fle_refl _) all2_nil) (ref05_Parse_ok a0) (fun _ => rfl) (fun _ => rfl) ?_
  intro x2 h2
  refine jr_seg 2 7 [0, 1, 5, 6, 7, 8] [0, 1, 2, 3] (st1 := ⟨[(0, .av (bs a0)), (1, .av (bs a1)), (5, .av (.ptr 0 0 4 0)), (6, .av (.ptr 1 0 2 0)), (7, .av (.ptr 2 0 4 0)), (8, .av (.ptr 3 0 2 0))], [(0, .rows 4 [[bs x1.1.Epoch, bs x1.1.Ver, bs x1.1.Rel, bv x1.1.HasRel]]), (1, .rows 2 [[iv x1.2.Err, iv x1.2.At]]), (2, .rows 4 [[bs x2.1.Epoch, bs x2.1.Ver, bs x2.1.Rel, bv x2.1.HasRel]]), (3, .rows 2 [[iv x2.2.Err, iv x2.2.At]])], 4⟩) (by kernel_rfl) ?_
  refine jr_nil rfl ?_
  refine jx_seqN ?_
  refine jc_seq ?_
  refine jc_reg ?_
  refine jr_seg 0 9 [0, 1, 27] [] (st1 := ⟨[(0, .av (bs a0)), (1, .av (bs a1)), (27, .av (bv (((x1.1.Epoch == x2.1.Epoch) && ((x1.1.Ver == x2.1.Ver) && ((x1.1.Rel == x2.1.Rel) && (x1.1.HasRel == x2.1.HasRel)))) && ((x1.2.Err == x2.2.Err) && (x1.2.At == x2.2.At)))))], [], 4⟩) (by kernel_rfl) ?_
  refine jr_bind 9 8 (fun x5 => ⟨[(0, .av (bs a0)), (1, .av (bs a1)), (35, .av (bv x5))], [], 0⟩) ?_ ?_
  · refine jr_split (g := 27) (c := (((x1.1.Epoch == x2.1.Epoch) && ((x1.1.Ver == x2.1.Ver) && ((x1.1.Rel == x2.1.Rel) && (x1.1.HasRel == x2.1.HasRel)))) && ((x1.2.Err == x2.2.Err) && (x1.2.At == x2.2.At)))) (by kernel_rfl) ?_ ?_
    · intro _
      refine jr_seg 0 2 [0, 1, 27, 28, 29] [] (st1 := ⟨[(0, .av (bs a0)), (1, .av (bs a1)), (27, .lit true), (28, .av (bs a0)), (29, .av (bs a1))], [], 4⟩) (by kernel_rfl) ?_
      refine jr_callF (i := 2) rfl rfl rfl rfl (vs := [bs a0, bs a1]) (by kernel_rfl) (snapL_cons rfl (snapL_cons rfl (snapL_nil _))) (all2_cons (fle_refl _) (all2_cons (fle_refl _) all2_nil)) (rpm_Segments_ok a0 a1) (fun _ => rfl) (fun _ => rfl) ?_
      intro x6 h6
      refine jr_seg 3 2 [0, 1, 27, 30, 31, 32] [] (st1 := ⟨[(0, .av (bs a0)), (1, .av (bs a1)), (27, .lit true), (30, .av (iv x6)), (31, .av (bs a0)), (32, .av (bs a1))], [], 4⟩) (by kernel_rfl) ?_
      refine jr_callF (i := 5) rfl rfl rfl rfl (vs := [bs a0, bs a1]) (by kernel_rfl) (snapL_cons rfl (snapL_cons rfl (snapL_nil _))) (all2_cons (fle_refl _) (all2_cons (fle_refl _) all2_nil)) (ref05_Segments_ok a0 a1) (fun _ => rfl) (fun _ => rfl) ?_
      intro x7 h7
      refine jr_seg 6 2 [0, 1, 35] [] (st1 := ⟨[(0, .av (bs a0)), (1, .av (bs a1)), (35, .av (bv (x6 == x7)))], [], 4⟩) (by kernel_rfl) ?_
      refine jr_nil rfl ?_
      exact jx_mid rfl (wk_ren [] (fix_nil _) rfl (by kernel_rfl) allp_nil)
    · intro _
      refine jr_seg 0 8 [0, 1, 35] [] (st1 := ⟨[(0, .av (bs a0)), (1, .av (bs a1)), (35, .av (bv false))], [], 4⟩) (by kernel_rfl) ?_
      refine jr_nil rfl ?_
      exact jx_mid rfl (wk_ren [] (fix_nil _) rfl (by kernel_rfl) allp_nil)
  · intro x5
    refine jr_seg 17 1 [0, 1, 36] [] (st1 := ⟨[(0, .av (bs a0)), (1, .av (bs a1)), (36, .av (bv x5))], [], 0⟩) (by kernel_rfl) ?_
    refine jr_bind 18 8 (fun x10 => ⟨[(44, .av (bv x10))], [], 0⟩) ?_ ?_
    · refine jr_split (g := 36) (c := x5) (by kernel_rfl) ?_ ?_
      · intro _
        refine jr_seg 0 2 [0, 1, 36, 37, 38] [] (st1 := ⟨[(0, .av (bs a0)), (1, .av (bs a1)), (36, .lit true), (37, .av (bs a0)), (38, .av (bs a1))], [], 0⟩) (by kernel_rfl) ?_
        refine jr_callF (i := 2) rfl rfl rfl rfl (vs := [bs a0, bs a1]) (by kernel_rfl) (snapL_cons rfl (snapL_cons rfl (snapL_nil _))) (all2_cons (fle_refl _) (all2_cons (fle_refl _) all2_nil)) (rpm_Compare_ok a0 a1) (fun _ => rfl) (fun _ => rfl) ?_
        intro x11 h11
        refine jr_seg 3 2 [36, 39, 40, 41] [] (st1 := ⟨[(36, .lit true), (39, .av (iv x11)), (40, .av (bs a0)), (41, .av (bs a1))], [], 0⟩) (by kernel_rfl) ?_
        refine jr_callF (i := 5) rfl rfl rfl rfl (vs := [bs a0, bs a1]) (by kernel_rfl) (snapL_cons rfl (snapL_cons rfl (snapL_nil _))) (all2_cons (fle_refl _) (all2_cons (fle_refl _) all2_nil)) (ref05_Compare_ok a0 a1) (fun _ => rfl) (fun _ => rfl) ?_
        intro x12 h12
        refine jr_seg 6 2 [44] [] (st1 := ⟨[(44, .av (bv (x11 == x12)))], [], 0⟩) (by kernel_rfl) ?_
        refine jr_nil rfl ?_
        exact jx_mid rfl (wk_ren [] (fix_nil _) rfl (by kernel_rfl) allp_nil)
      · intro _
        refine jr_seg 0 8 [44] [] (st1 := ⟨[(44, .av (bv false))], [], 0⟩) (by kernel_rfl) ?_
        refine jr_nil rfl ?_
        exact jx_mid rfl (wk_ren [] (fix_nil _) rfl (by kernel_rfl) allp_nil)
    · intro x10
      refine jr_seg 26 1 [45] [] (st1 := ⟨[(45, .av (bv x10))], [], 0⟩) (by kernel_rfl) ?_
      refine jr_bind 27 2 (fun x14 => ⟨[(47, .av (bv x14))], [], 0⟩) ?_ ?_
      · refine jr_split (g := 45) (c := x10) (by kernel_rfl) ?_ ?_
        · intro _
          refine jr_callF (i := 0) rfl rfl rfl rfl (vs := []) (by kernel_rfl) (snapL_nil _) all2_nil (law05_awake_ok) (fun _ => rfl) (fun _ => rfl) ?_
          intro x15 h15
          refine jr_seg 1 1 [47] [] (st1 := ⟨[(47, .av (bv x15))], [], 0⟩) (by kernel_rfl) ?_
          refine jr_nil rfl ?_
          exact jx_mid rfl (wk_ren [] (fix_nil _) rfl (by kernel_rfl) allp_nil)
        · intro _
          refine jr_seg 0 2 [47] [] (st1 := ⟨[(47, .av (bv false))], [], 0⟩) (by kernel_rfl) ?_
          refine jr_nil rfl ?_
          exact jx_mid rfl (wk_ren [] (fix_nil _) rfl (by kernel_rfl) allp_nil)
      · intro x14
        refine jr_seg 29 1 [4] [] (st1 := ⟨[(4, .av (bv x14))], [], 0⟩) (by kernel_rfl) ?_
        refine jr_nil rfl ?_
        refine jx_seqN ?_
        refine jc_ret ?_
        exact jx_retF (.inr rfl) (v := bv x14) (by kernel_rfl) rfl (fle_refl _))
end Go.Vm

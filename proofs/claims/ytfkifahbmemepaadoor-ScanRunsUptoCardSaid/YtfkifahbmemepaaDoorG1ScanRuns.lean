/- The law ScanRuns, a part of its proof: what the functions that it reaches compute. -/
import Derived.Test.YtfkifahbmemepaaDoorDScanRuns
import Derived.Test.YtfkifahbmemepaaDoorG0ScanRuns
import Derived.Test.YtfkifahbmemepaaDoorW01ScanRuns
set_option maxRecDepth 100000
set_option maxHeartbeats 0
set_option linter.unusedVariables false
set_option linter.unusedSimpArgs false
namespace Go.Vm
open Go
/-! ### dovetail/dovetailref01.Lower -/
abbrev ref01_Lower_r1 : List LO := [⟨some 2, Op.assign (Operand.const (Value.string { data := #[] })), 9, none⟩]
abbrev ref01_Lower_b2 : LC := .reg false ref01_Lower_r1
abbrev ref01_Lower_r3 : List LO := [⟨some 5, Op.move (Operand.tmp 0), 9, none⟩,
  ⟨some 6, Op.convert 9 31 (Operand.tmp 5), 31, none⟩,
  ⟨some 3, Op.assign (Operand.tmp 6), 31, none⟩]
abbrev ref01_Lower_b4 : LC := .reg false ref01_Lower_r3
abbrev ref01_Lower_r5 : List LO := [⟨some 4, Op.assign (Operand.const (Value.int IntKind.i64 0)), 3, none⟩]
abbrev ref01_Lower_b6 : LC := .reg false ref01_Lower_r5
abbrev ref01_Lower_r7 : List LO := [⟨some 7, Op.move (Operand.tmp 4), 3, none⟩,
  ⟨some 8, Op.move (Operand.tmp 3), 31, none⟩,
  ⟨some 9, Op.call { callee := Callee.builtin Builtin.len, args := #[Operand.tmp 8], argTypes := #[31] }, 3, none⟩,
  ⟨some 10, Op.binOp BinOp.lss 3 (Operand.tmp 7) (Operand.tmp 9) 3, 4, none⟩]
abbrev ref01_Lower_b8 : LC := .reg false ref01_Lower_r7
abbrev ref01_Lower_b9 : LC := .cond (Operand.tmp 10) .skip (.exit 0)
abbrev ref01_Lower_b10 : LC := .seq ref01_Lower_b8 ref01_Lower_b9
abbrev ref01_Lower_r11 : List LO := [⟨some 13, Op.move (Operand.tmp 3), 31, none⟩,
  ⟨some 14, Op.move (Operand.tmp 4), 3, none⟩,
  ⟨some 15, Op.indexAddr 31 (Operand.tmp 13) (Operand.tmp 14), 0, none⟩,
  ⟨some 16, Op.load 5 (Operand.tmp 15), 5, none⟩,
  ⟨some 17, Op.call { callee := Callee.value (Operand.func 27), args := #[Operand.tmp 16, Operand.const (Value.int IntKind.i64 3)], argTypes := #[5, 3] }, 4, none⟩]
abbrev ref01_Lower_b12 : LC := .reg false ref01_Lower_r11
abbrev ref01_Lower_r13 : List LO := [⟨some 18, Op.move (Operand.tmp 3), 31, none⟩,
  ⟨some 19, Op.move (Operand.tmp 4), 3, none⟩,
  ⟨some 20, Op.move (Operand.tmp 3), 31, none⟩,
  ⟨some 21, Op.move (Operand.tmp 4), 3, none⟩,
  ⟨some 22, Op.indexAddr 31 (Operand.tmp 20) (Operand.tmp 21), 0, none⟩,
  ⟨some 23, Op.load 5 (Operand.tmp 22), 5, none⟩,
  ⟨some 24, Op.binOp BinOp.add 5 (Operand.tmp 23) (Operand.const (Value.int IntKind.u8 32)) 5, 5, none⟩,
  ⟨some 25, Op.indexAddr 31 (Operand.tmp 18) (Operand.tmp 19), 0, none⟩,
  ⟨none, Op.store 5 (Operand.tmp 25) (Operand.tmp 24), 0, none⟩]
abbrev ref01_Lower_b14 : LC := .reg false ref01_Lower_r13
abbrev ref01_Lower_b15 : LC := .cond (Operand.tmp 17) ref01_Lower_b14 .skip
abbrev ref01_Lower_b16 : LC := .seq ref01_Lower_b12 ref01_Lower_b15
abbrev ref01_Lower_b17 : LC := .block 1 ref01_Lower_b16
abbrev ref01_Lower_r18 : List LO := [⟨some 11, Op.move (Operand.tmp 4), 3, none⟩,
  ⟨some 12, Op.binOp BinOp.add 3 (Operand.tmp 11) (Operand.const (Value.int IntKind.i64 1)) 3, 3, none⟩,
  ⟨some 4, Op.assign (Operand.tmp 12), 3, none⟩]
abbrev ref01_Lower_b19 : LC := .reg false ref01_Lower_r18
abbrev ref01_Lower_b20 : LC := .seq ref01_Lower_b17 ref01_Lower_b19
abbrev ref01_Lower_b21 : LC := .seq ref01_Lower_b10 ref01_Lower_b20
abbrev ref01_Lower_b22 : LC := .loop ref01_Lower_b21
abbrev ref01_Lower_b23 : LC := .block 0 ref01_Lower_b22
abbrev ref01_Lower_b24 : LC := .seq ref01_Lower_b6 ref01_Lower_b23
abbrev ref01_Lower_r25 : List LO := [⟨some 26, Op.move (Operand.tmp 3), 31, none⟩,
  ⟨some 27, Op.convert 31 9 (Operand.tmp 26), 9, none⟩,
  ⟨some 2, Op.assign (Operand.tmp 27), 9, none⟩]
abbrev ref01_Lower_b26 : LC := .reg false ref01_Lower_r25
abbrev ref01_Lower_b27 : LC := .seq ref01_Lower_b26 .ret
abbrev ref01_Lower_b28 : LC := .seq ref01_Lower_b24 ref01_Lower_b27
abbrev ref01_Lower_b29 : LC := .seq ref01_Lower_b4 ref01_Lower_b28
abbrev ref01_Lower_b30 : LC := .seq ref01_Lower_b2 ref01_Lower_b29
theorem ref01_Lower_k : FnOk E 33 28 [.tmp 2] ref01_Lower_b30 := ⟨⟨Go.Proofs.Tryd.f33, by kernel_rfl, by kernel_rfl, by kernel_rfl, by kernel_rfl, by kernel_rfl⟩, rfl⟩
noncomputable def ref01_Lower_l1 : (List Int × Int) → Option (Step (List Int × Int) (List Int)) := fun (x7, x8) => (if (decide (x8 < (List.length x7 : Int))) = true then Option.bind (Option.bind (ixl x7 x8) (fun x22 => Option.bind (ref01_Is x22 3) (fun x23 => (if x23 = true then Option.bind (ixl x7 x8) (fun x24 => Option.bind (ixl x7 x8) (fun x25 => some (List.set x7 (Int.toNat x8) (IntKind.wrap .u8 (x24 + 32))))) else some x7))) : Option (List Int)) (fun x21 => some (Step.next (x21, (w64 (x8 + 1))))) else some (Step.done x7))
noncomputable def ref01_Lower (a0 : Str) : Option (Str) := Option.bind (tob a0) (fun x1 => Option.bind (loopC (ref01_Lower_l1) (x1, 0)) (fun x16 => some (ofb x16)))
theorem ref01_Lower_ok (a0 : Str) : Ct E 33 [bs a0] (ref01_Lower a0) (fun r : Str => bs r) := ct_intro (N := 28) (L := ref01_Lower_b30) ref01_Lower_k rfl (Nat.le_of_ble_eq_true rfl) (by kernel_rfl) (by
  unfold ref01_Lower
  refine jc_seq ?_
  refine jc_reg ?_
  refine jr_seg 0 1 [0] [] (st1 := ⟨[(0, .av (bs a0))], [], 0⟩) (by kernel_rfl) ?_
  refine jr_nil rfl ?_
  refine jx_seqN ?_
  refine jc_seq ?_
  refine jc_reg ?_
  refine jr_seg 0 1 [5] [] (st1 := ⟨[(5, .av (bs a0))], [], 0⟩) (by kernel_rfl) ?_
  refine jr_part (i := 1) (mo := tob a0) rfl rfl rfl rfl (fun _ hc => aop_tob (e := 5) (st := .string) (by kernel_rfl) (by kernel_rfl) (by kernel_rfl) (by kernel_rfl) hc) (fun _ => rfl) ?_
  intro x1 h1
  refine jr_seg 2 1 [3] [0] (st1 := ⟨[(3, .av (.osl 0 0 (List.length x1) 1))], [(0, .rows 1 (List.map cB x1))], 1⟩) (by kernel_rfl) ?_
  refine jr_nil rfl ?_
  refine jx_seqN ?_
  refine jc_seq ?_
  refine jc_seq ?_
  refine jc_reg ?_
  refine jr_seg 0 1 [3, 4] [0] (st1 := ⟨[(3, .av (.osl 0 0 (List.length x1) 1)), (4, .av (iv 0))], [(0, .rows 1 (List.map cB x1))], 1⟩) (by kernel_rfl) ?_
  refine jr_nil rfl ?_
  refine jx_seqN ?_
  refine jc_block ?_
  refine jc_bind (fun x16 => ⟨[(3, .av (.osl 0 0 (List.length x16) 1))], [(0, .rows 1 (List.map cB x16))], 1⟩) (fun x16 => (.exit 0)) (jc_loop (fun (x7, x8) => ⟨[(3, .av (.osl 0 0 (List.length x7) 1)), (4, .av (iv x8))], [(0, .rows 1 (List.map cB x7))], 1⟩) (wk_ren [(0, some 0)] (fix_nil _) rfl (by kernel_rfl) (allp_cons (.inl ⟨0, _, _, _, rfl, rfl, rfl, .inr ⟨rfl, noid_map ni_B _⟩⟩) allp_nil)) ?_) ?_
  · rintro ⟨x7, x8⟩
    unfold ref01_Lower_l1
    refine jc_seq ?_
    refine jc_seq ?_
    refine jc_reg ?_
    refine jr_seg 0 4 [3, 4, 10] [0] (st1 := ⟨[(3, .av (.osl 0 0 (List.length x7) 1)), (4, .av (iv x8)), (10, .av (bv (decide (x8 < (List.length x7 : Int)))))], [(0, .rows 1 (List.map cB x7))], 1⟩) (by kernel_rfl) ?_
    refine jr_nil rfl ?_
    refine jx_seqN ?_
    refine jc_cond (g := 10) (c := (decide (x8 < (List.length x7 : Int)))) (by kernel_rfl) ?_ ?_
    · intro _
      refine jc_skip ?_
      refine jx_seqN ?_
      refine jc_seq ?_
      refine jc_bind (fun x21 => ⟨[(3, .av (.osl 0 0 (List.length x21) 1)), (4, .av (iv x8))], [(0, .rows 1 (List.map cB x21))], 1⟩) (fun x21 => .normal) ?_ ?_
      · refine jc_block ?_
        refine jc_seq ?_
        refine jc_reg ?_
        refine jr_seg 0 2 [3, 4, 13, 14] [0] (st1 := ⟨[(3, .av (.osl 0 0 (List.length x7) 1)), (4, .av (iv x8)), (13, .av (.osl 0 0 (List.length x7) 1)), (14, .av (iv x8))], [(0, .rows 1 (List.map cB x7))], 1⟩) (by kernel_rfl) ?_
        refine jr_part (i := 2) (mo := ixl x7 x8) rfl rfl rfl rfl (fun _ hc => aop_ixo0 (sz := 1) (e := 5) (kk := .i64) (id := 0) (by kernel_rfl) (by kernel_rfl) (by kernel_rfl) (by kernel_rfl) hc) (fun _ => rfl) ?_
        intro x22 h22
        refine jr_one (i := 3) (v := .s (.int .u8 x22)) rfl rfl rfl rfl (aop_ldo (l := x7) (c := cB) (id := 0) (k := (Int.toNat x8)) (sz := 1) (off := 0) (a := x22) (by kernel_rfl) (by kernel_rfl) (ixl_lt h22).2.2 (by kernel_rfl)) rfl ?_
        refine jr_callF (i := 4) rfl rfl rfl rfl (vs := [.s (.int .u8 x22), iv 3]) (by kernel_rfl) (snapL_cons rfl (snapL_cons rfl (snapL_nil _))) (all2_cons (fle_refl _) (all2_cons (fle_refl _) all2_nil)) (ref01_Is_ok x22 3) (fun _ => rfl) (fun _ => rfl) ?_
        intro x23 h23
        refine jr_nil rfl ?_
        refine jx_seqN ?_
        refine jc_cond (g := 17) (c := x23) (by kernel_rfl) ?_ ?_
        · intro _
          refine jc_reg ?_
          refine jr_seg 0 4 [3, 4, 18, 19, 20, 21] [0] (st1 := ⟨[(3, .av (.osl 0 0 (List.length x7) 1)), (4, .av (iv x8)), (18, .av (.osl 0 0 (List.length x7) 1)), (19, .av (iv x8)), (20, .av (.osl 0 0 (List.length x7) 1)), (21, .av (iv x8))], [(0, .rows 1 (List.map cB x7))], 1⟩) (by kernel_rfl) ?_
          refine jr_part (i := 4) (mo := ixl x7 x8) rfl rfl rfl rfl (fun _ hc => aop_ixo0 (sz := 1) (e := 5) (kk := .i64) (id := 0) (by kernel_rfl) (by kernel_rfl) (by kernel_rfl) (by kernel_rfl) hc) (fun _ => rfl) ?_
          intro x24 h24
          refine jr_one (i := 5) (v := .s (.int .u8 x24)) rfl rfl rfl rfl (aop_ldo (l := x7) (c := cB) (id := 0) (k := (Int.toNat x8)) (sz := 1) (off := 0) (a := x24) (by kernel_rfl) (by kernel_rfl) (ixl_lt h24).2.2 (by kernel_rfl)) rfl ?_
          refine jr_seg 6 1 [3, 4, 18, 19, 24] [0] (st1 := ⟨[(3, .av (.osl 0 0 (List.length x7) 1)), (4, .av (iv x8)), (18, .av (.osl 0 0 (List.length x7) 1)), (19, .av (iv x8)), (24, .av (.s (.int .u8 (IntKind.wrap .u8 (x24 + 32)))))], [(0, .rows 1 (List.map cB x7))], 1⟩) (by kernel_rfl) ?_
          refine jr_part (i := 7) (mo := ixl x7 x8) rfl rfl rfl rfl (fun _ hc => aop_ixo0 (sz := 1) (e := 5) (kk := .i64) (id := 0) (by kernel_rfl) (by kernel_rfl) (by kernel_rfl) (by kernel_rfl) hc) (fun _ => rfl) ?_
          intro x25 h25
          refine jr_sto (i := 8) [3, 4] [0] (st1 := ⟨[(3, .av (.osl 0 0 (List.length (List.set x7 (Int.toNat x8) (IntKind.wrap .u8 (x24 + 32)))) 1)), (4, .av (iv x8))], [(0, .rows 1 (List.map cB (List.set x7 (Int.toNat x8) (IntKind.wrap .u8 (x24 + 32)))))], 1⟩) rfl rfl rfl rfl (aop_sto (l := x7) (c := cB) (id := 0) (k := (Int.toNat x8)) (sz := 1) (off := 0) (a := x25) (a' := (IntKind.wrap .u8 (x24 + 32))) (w := .s (.int .u8 (IntKind.wrap .u8 (x24 + 32)))) (cs := [.s (.int .u8 (IntKind.wrap .u8 (x24 + 32)))]) (by kernel_rfl) (by kernel_rfl) (by kernel_rfl) (by kernel_rfl) (by kernel_rfl) (ixl_lt h25).2.2 (Nat.le_of_ble_eq_true rfl) (by kernel_rfl)) (by simp only [List.length_set]; kernel_rfl) ?_
          refine jr_nil rfl ?_
          refine jx_blkN ?_
          exact jx_mid rfl (wk_ren [(0, some 0)] (fix_nil _) rfl (by kernel_rfl) (allp_cons (.inl ⟨0, _, _, _, rfl, rfl, rfl, .inr ⟨rfl, noid_map ni_B _⟩⟩) allp_nil))
        · intro _
          refine jc_skip ?_
          refine jx_blkN ?_
          exact jx_mid rfl (wk_ren [(0, some 0)] (fix_nil _) rfl (by kernel_rfl) (allp_cons (.inl ⟨0, _, _, _, rfl, rfl, rfl, .inr ⟨rfl, noid_map ni_B _⟩⟩) allp_nil))
      · intro x21
        refine jx_seqN ?_
        refine jc_reg ?_
        refine jr_seg 0 3 [3, 4] [0] (st1 := ⟨[(3, .av (.osl 0 0 (List.length x21) 1)), (4, .av (iv (w64 (x8 + 1))))], [(0, .rows 1 (List.map cB x21))], 1⟩) (by kernel_rfl) ?_
        refine jr_nil rfl ?_
        exact jx_next (wk_ren [(0, some 0)] (fix_nil _) rfl (by kernel_rfl) (allp_cons (.inl ⟨0, _, _, _, rfl, rfl, rfl, .inr ⟨rfl, noid_map ni_B _⟩⟩) allp_nil))
    · intro _
      refine jc_exit ?_
      refine jx_seqE ?_
      exact jx_done rfl nofun (wk_ren [(0, some 0)] (fix_nil _) rfl (by kernel_rfl) (allp_cons (.inl ⟨0, _, _, _, rfl, rfl, rfl, .inr ⟨rfl, noid_map ni_B _⟩⟩) allp_nil))
  · intro x16
    refine jx_blkE ?_
    refine jx_seqN ?_
    refine jc_seq ?_
    refine jc_reg ?_
    refine jr_seg 0 1 [26] [0] (st1 := ⟨[(26, .av (.osl 0 0 (List.length x16) 1))], [(0, .rows 1 (List.map cB x16))], 1⟩) (by kernel_rfl) ?_
    refine jr_one (i := 1) rfl rfl rfl rfl (aop_ofb_o (e := 5) (id := 0) (l := x16) (by kernel_rfl) (by kernel_rfl) (by kernel_rfl) (by kernel_rfl) (by kernel_rfl)) rfl ?_
    refine jr_seg 2 1 [2] [] (st1 := ⟨[(2, .av (bs (ofb x16)))], [], 2⟩) (by kernel_rfl) ?_
    refine jr_nil rfl ?_
    refine jx_seqN ?_
    refine jc_ret ?_
    exact jx_retF (.inr rfl) (v := bs (ofb x16)) (by kernel_rfl) rfl (fle_refl _))
end Go.Vm

set_option maxRecDepth 100000
set_option maxHeartbeats 0
set_option linter.unusedVariables false
set_option linter.unusedSimpArgs false
namespace Go.Vm
open Go
/-! ### dovetail/dovetaillaw01.ScanRuns -/
abbrev law01_ScanRuns_r1 : List LO := [⟨some 8, Op.assign (Operand.const (Value.bool false)), 4, none⟩]
abbrev law01_ScanRuns_b2 : LC := .reg false law01_ScanRuns_r1
abbrev law01_ScanRuns_r3 : List LO := [⟨some 14, Op.move (Operand.const (Value.int IntKind.i64 0)), 3, none⟩]
abbrev law01_ScanRuns_b4 : LC := .reg false law01_ScanRuns_r3
abbrev law01_ScanRuns_r5 : List LO := [⟨some 15, Op.binOp BinOp.lss 3 (Operand.tmp 14) (Operand.const (Value.int IntKind.i64 256)) 3, 4, none⟩]
abbrev law01_ScanRuns_b6 : LC := .reg false law01_ScanRuns_r5
abbrev law01_ScanRuns_b7 : LC := .cond (Operand.tmp 15) .skip (.exit 0)
abbrev law01_ScanRuns_r8 : List LO := [⟨some 16, Op.move (Operand.tmp 14), 3, none⟩,
  ⟨some 9, Op.assign (Operand.tmp 16), 3, none⟩]
abbrev law01_ScanRuns_b9 : LC := .reg false law01_ScanRuns_r8
abbrev law01_ScanRuns_r10 : List LO := [⟨some 17, Op.move (Operand.tmp 9), 3, none⟩,
  ⟨some 18, Op.convert 3 5 (Operand.tmp 17), 5, none⟩,
  ⟨some 19, Op.move (Operand.tmp 2), 3, none⟩,
  ⟨some 20, Op.call { callee := Callee.value (Operand.func 26), args := #[Operand.tmp 18, Operand.tmp 19], argTypes := #[5, 3] }, 4, none⟩,
  ⟨some 21, Op.move (Operand.tmp 9), 3, none⟩,
  ⟨some 22, Op.convert 3 5 (Operand.tmp 21), 5, none⟩,
  ⟨some 23, Op.move (Operand.tmp 2), 3, none⟩,
  ⟨some 24, Op.call { callee := Callee.value (Operand.func 27), args := #[Operand.tmp 22, Operand.tmp 23], argTypes := #[5, 3] }, 4, none⟩,
  ⟨some 25, Op.binOp BinOp.neq 4 (Operand.tmp 20) (Operand.tmp 24) 4, 4, none⟩]
abbrev law01_ScanRuns_b11 : LC := .reg false law01_ScanRuns_r10
abbrev law01_ScanRuns_r12 : List LO := [⟨some 8, Op.assign (Operand.const (Value.bool false)), 4, none⟩]
abbrev law01_ScanRuns_b13 : LC := .reg false law01_ScanRuns_r12
abbrev law01_ScanRuns_b14 : LC := .seq law01_ScanRuns_b13 .ret
abbrev law01_ScanRuns_b15 : LC := .cond (Operand.tmp 25) law01_ScanRuns_b14 .skip
abbrev law01_ScanRuns_b16 : LC := .seq law01_ScanRuns_b11 law01_ScanRuns_b15
abbrev law01_ScanRuns_b17 : LC := .seq law01_ScanRuns_b9 law01_ScanRuns_b16
abbrev law01_ScanRuns_b18 : LC := .block 1 law01_ScanRuns_b17
abbrev law01_ScanRuns_r19 : List LO := [⟨some 26, Op.binOp BinOp.add 3 (Operand.tmp 14) (Operand.const (Value.int IntKind.i64 1)) 3, 3, none⟩,
  ⟨some 14, Op.move (Operand.tmp 26), 3, none⟩]
abbrev law01_ScanRuns_b20 : LC := .reg false law01_ScanRuns_r19
abbrev law01_ScanRuns_b21 : LC := .seq law01_ScanRuns_b18 law01_ScanRuns_b20
abbrev law01_ScanRuns_b22 : LC := .seq law01_ScanRuns_b7 law01_ScanRuns_b21
abbrev law01_ScanRuns_b23 : LC := .seq law01_ScanRuns_b6 law01_ScanRuns_b22
abbrev law01_ScanRuns_b24 : LC := .loop law01_ScanRuns_b23
abbrev law01_ScanRuns_b25 : LC := .block 0 law01_ScanRuns_b24
abbrev law01_ScanRuns_b26 : LC := .seq law01_ScanRuns_b4 law01_ScanRuns_b25
abbrev law01_ScanRuns_r27 : List LO := [⟨some 28, Op.move (Operand.tmp 0), 9, none⟩,
  ⟨some 29, Op.move (Operand.tmp 1), 3, none⟩,
  ⟨some 30, Op.move (Operand.tmp 3), 35, none⟩,
  ⟨some 31, Op.call { callee := Callee.value (Operand.func 28), args := #[Operand.tmp 28, Operand.tmp 29, Operand.tmp 30], argTypes := #[9, 3, 35] }, 37, none⟩,
  ⟨some 27, Op.move (Operand.tmp 31), 37, none⟩,
  ⟨some 32, Op.extract (Operand.tmp 27) 0, 9, none⟩,
  ⟨some 33, Op.extract (Operand.tmp 27) 1, 4, none⟩,
  ⟨some 10, Op.assign (Operand.tmp 32), 9, none⟩,
  ⟨some 11, Op.assign (Operand.tmp 33), 4, none⟩]
abbrev law01_ScanRuns_b28 : LC := .reg false law01_ScanRuns_r27
abbrev law01_ScanRuns_r29 : List LO := [⟨some 35, Op.move (Operand.tmp 0), 9, none⟩,
  ⟨some 36, Op.move (Operand.tmp 1), 3, none⟩,
  ⟨some 37, Op.move (Operand.tmp 3), 35, none⟩,
  ⟨some 38, Op.call { callee := Callee.value (Operand.func 29), args := #[Operand.tmp 35, Operand.tmp 36, Operand.tmp 37], argTypes := #[9, 3, 35] }, 37, none⟩,
  ⟨some 34, Op.move (Operand.tmp 38), 37, none⟩,
  ⟨some 39, Op.extract (Operand.tmp 34) 0, 9, none⟩,
  ⟨some 40, Op.extract (Operand.tmp 34) 1, 4, none⟩,
  ⟨some 12, Op.assign (Operand.tmp 39), 9, none⟩,
  ⟨some 13, Op.assign (Operand.tmp 40), 4, none⟩]
abbrev law01_ScanRuns_b30 : LC := .reg false law01_ScanRuns_r29
abbrev law01_ScanRuns_r31 : List LO := [⟨some 41, Op.move (Operand.tmp 0), 9, none⟩,
  ⟨some 42, Op.move (Operand.tmp 1), 3, none⟩,
  ⟨some 43, Op.move (Operand.tmp 2), 3, none⟩,
  ⟨some 44, Op.call { callee := Callee.value (Operand.func 30), args := #[Operand.tmp 41, Operand.tmp 42, Operand.tmp 43], argTypes := #[9, 3, 3] }, 3, none⟩,
  ⟨some 45, Op.move (Operand.tmp 0), 9, none⟩,
  ⟨some 46, Op.move (Operand.tmp 1), 3, none⟩,
  ⟨some 47, Op.move (Operand.tmp 2), 3, none⟩,
  ⟨some 48, Op.call { callee := Callee.value (Operand.func 31), args := #[Operand.tmp 45, Operand.tmp 46, Operand.tmp 47], argTypes := #[9, 3, 3] }, 3, none⟩,
  ⟨some 49, Op.binOp BinOp.eql 3 (Operand.tmp 44) (Operand.tmp 48) 3, 4, none⟩,
  ⟨some 50, Op.move (Operand.tmp 49), 4, none⟩,
  ⟨some 51, Op.move (Operand.tmp 10), 9, (some (50, true))⟩,
  ⟨some 52, Op.move (Operand.tmp 12), 9, (some (50, true))⟩,
  ⟨some 53, Op.binOp BinOp.eql 9 (Operand.tmp 51) (Operand.tmp 52) 9, 4, (some (50, true))⟩,
  ⟨some 54, Op.pick (Operand.tmp 50) (Operand.tmp 53) (Operand.const (Value.bool false)), 4, none⟩,
  ⟨some 55, Op.move (Operand.tmp 54), 4, none⟩,
  ⟨some 56, Op.move (Operand.tmp 11), 4, (some (55, true))⟩,
  ⟨some 57, Op.move (Operand.tmp 13), 4, (some (55, true))⟩,
  ⟨some 58, Op.binOp BinOp.eql 4 (Operand.tmp 56) (Operand.tmp 57) 4, 4, (some (55, true))⟩,
  ⟨some 59, Op.pick (Operand.tmp 55) (Operand.tmp 58) (Operand.const (Value.bool false)), 4, none⟩,
  ⟨some 60, Op.move (Operand.tmp 59), 4, none⟩,
  ⟨some 61, Op.move (Operand.tmp 0), 9, (some (60, true))⟩,
  ⟨some 62, Op.call { callee := Callee.value (Operand.func 32), args := #[Operand.tmp 61], argTypes := #[9] }, 9, (some (60, true))⟩,
  ⟨some 63, Op.move (Operand.tmp 0), 9, (some (60, true))⟩,
  ⟨some 64, Op.call { callee := Callee.value (Operand.func 33), args := #[Operand.tmp 63], argTypes := #[9] }, 9, (some (60, true))⟩,
  ⟨some 65, Op.binOp BinOp.eql 9 (Operand.tmp 62) (Operand.tmp 64) 9, 4, (some (60, true))⟩,
  ⟨some 66, Op.pick (Operand.tmp 60) (Operand.tmp 65) (Operand.const (Value.bool false)), 4, none⟩,
  ⟨some 67, Op.move (Operand.tmp 66), 4, none⟩,
  ⟨some 68, Op.call { callee := Callee.value (Operand.func 21), args := #[], argTypes := #[] }, 4, (some (67, true))⟩,
  ⟨some 69, Op.pick (Operand.tmp 67) (Operand.tmp 68) (Operand.const (Value.bool false)), 4, none⟩,
  ⟨some 8, Op.assign (Operand.tmp 69), 4, none⟩]
abbrev law01_ScanRuns_b32 : LC := .reg false law01_ScanRuns_r31
abbrev law01_ScanRuns_b33 : LC := .seq law01_ScanRuns_b32 .ret
abbrev law01_ScanRuns_b34 : LC := .seq law01_ScanRuns_b30 law01_ScanRuns_b33
abbrev law01_ScanRuns_b35 : LC := .seq law01_ScanRuns_b28 law01_ScanRuns_b34
abbrev law01_ScanRuns_b36 : LC := .seq law01_ScanRuns_b26 law01_ScanRuns_b35
abbrev law01_ScanRuns_b37 : LC := .seq law01_ScanRuns_b2 law01_ScanRuns_b36
theorem law01_ScanRuns_k : FnOk E 6 70 [.tmp 8] law01_ScanRuns_b37 := ⟨⟨Go.Proofs.Tryd.f6, by kernel_rfl, by kernel_rfl, by kernel_rfl, by kernel_rfl, by kernel_rfl⟩, rfl⟩
noncomputable def law01_ScanRuns_l1 (a2 : Int) : Int → Option (Step (Int) ((Unit) ⊕ (Unit))) := fun x3 => (if (decide (x3 < 256)) = true then Option.bind (scan_Is (IntKind.wrap .u8 (x3)) a2) (fun x7 => Option.bind (ref01_Is (IntKind.wrap .u8 (x3)) a2) (fun x8 => (if (!(x7 == x8)) = true then some (Step.done (Sum.inl ())) else some (Step.next (w64 (x3 + 1)))))) else some (Step.done (Sum.inr ())))
noncomputable def law01_ScanRuns (a0 : Str) (a1 : Int) (a2 : Int) (a3 : (List Str)) : Option (Bool) := Option.bind (loopC (law01_ScanRuns_l1 a2) 0) (fun y => match y with | Sum.inl _ => some false | Sum.inr _ => Option.bind (scan_Word a0 a1 a3) (fun x9 => Option.bind (ref01_Word a0 a1 a3) (fun x10 => Option.bind (scan_Run a0 a1 a2) (fun x11 => Option.bind (ref01_Run a0 a1 a2) (fun x12 => Option.bind (if (((x11 == x12) && (x9.1 == x10.1)) && (x9.2 == x10.2)) = true then Option.bind (scan_Lower a0) (fun x16 => Option.bind (ref01_Lower a0) (fun x17 => some (x16 == x17))) else some false : Option (Bool)) (fun x15 => Option.bind (if x15 = true then Option.bind (law01_awake) (fun x20 => some x20) else some false : Option (Bool)) (fun x19 => some x19)))))))
theorem law01_ScanRuns_ok (a0 : Str) (a1 : Int) (a2 : Int) (a3 : (List Str)) : Ct E 6 [bs a0, iv a1, iv a2, .fsl 1 (List.map cS a3)] (law01_ScanRuns a0 a1 a2 a3) (fun r : Bool => bv r) := ct_intro (N := 70) (L := law01_ScanRuns_b37) law01_ScanRuns_k rfl (Nat.le_of_ble_eq_true rfl) (by kernel_rfl) (by
  unfold law01_ScanRuns
  refine jc_seq ?_
  refine jc_reg ?_
  refine jr_seg 0 1 [0, 1, 2, 3] [] (st1 := ⟨[(0, .av (bs a0)), (1, .av (iv a1)), (2, .av (iv a2)), (3, .av (.fsl 1 (List.map cS a3)))], [], 0⟩) (by kernel_rfl) ?_
  refine jr_nil rfl ?_
  refine jx_seqN ?_
  refine jc_seq ?_
  refine jc_seq ?_
  refine jc_reg ?_
  refine jr_seg 0 1 [0, 1, 2, 3, 14] [] (st1 := ⟨[(0, .av (bs a0)), (1, .av (iv a1)), (2, .av (iv a2)), (3, .av (.fsl 1 (List.map cS a3))), (14, .av (iv 0))], [], 0⟩) (by kernel_rfl) ?_
  refine jr_nil rfl ?_
  refine jx_seqN ?_
  refine jc_block ?_
  refine jc_bind (fun y => match y with | Sum.inl _ => ⟨[(8, .av (bv false))], [], 0⟩ | Sum.inr _ => ⟨[(0, .av (bs a0)), (1, .av (iv a1)), (2, .av (iv a2)), (3, .av (.fsl 1 (List.map cS a3)))], [], 0⟩) (fun y => match y with | Sum.inl _ => .ret | Sum.inr _ => (.exit 0)) (jc_loop (fun x3 => ⟨[(0, .av (bs a0)), (1, .av (iv a1)), (2, .av (iv a2)), (3, .av (.fsl 1 (List.map cS a3))), (14, .av (iv x3))], [], 0⟩) (wk_ren [] (fix_nil _) rfl (by kernel_rfl) allp_nil) ?_) ?_
  · intro x3
    unfold law01_ScanRuns_l1
    refine jc_seq ?_
    refine jc_reg ?_
    refine jr_seg 0 1 [0, 1, 2, 3, 14, 15] [] (st1 := ⟨[(0, .av (bs a0)), (1, .av (iv a1)), (2, .av (iv a2)), (3, .av (.fsl 1 (List.map cS a3))), (14, .av (iv x3)), (15, .av (bv (decide (x3 < 256))))], [], 0⟩) (by kernel_rfl) ?_
    refine jr_nil rfl ?_
    refine jx_seqN ?_
    refine jc_seq ?_
    refine jc_cond (g := 15) (c := (decide (x3 < 256))) (by kernel_rfl) ?_ ?_
    · intro _
      refine jc_skip ?_
      refine jx_seqN ?_
      refine jc_seq ?_
      refine jc_block ?_
      refine jc_seq ?_
      refine jc_reg ?_
      refine jr_seg 0 2 [0, 1, 2, 3, 9, 14] [] (st1 := ⟨[(0, .av (bs a0)), (1, .av (iv a1)), (2, .av (iv a2)), (3, .av (.fsl 1 (List.map cS a3))), (9, .av (iv x3)), (14, .av (iv x3))], [], 0⟩) (by kernel_rfl) ?_
      refine jr_nil rfl ?_
      refine jx_seqN ?_
      refine jc_seq ?_
      refine jc_reg ?_
      refine jr_seg 0 3 [0, 1, 2, 3, 9, 14, 18, 19] [] (st1 := ⟨[(0, .av (bs a0)), (1, .av (iv a1)), (2, .av (iv a2)), (3, .av (.fsl 1 (List.map cS a3))), (9, .av (iv x3)), (14, .av (iv x3)), (18, .av (.s (.int .u8 (IntKind.wrap .u8 (x3))))), (19, .av (iv a2))], [], 1⟩) (by kernel_rfl) ?_
      refine jr_callF (i := 3) rfl rfl rfl rfl (vs := [.s (.int .u8 (IntKind.wrap .u8 (x3))), iv a2]) (by kernel_rfl) (snapL_cons rfl (snapL_cons rfl (snapL_nil _))) (all2_cons (fle_refl _) (all2_cons (fle_refl _) all2_nil)) (scan_Is_ok (IntKind.wrap .u8 (x3)) a2) (fun _ => rfl) (fun _ => rfl) ?_
      intro x7 h7
      refine jr_seg 4 3 [0, 1, 2, 3, 14, 20, 22, 23] [] (st1 := ⟨[(0, .av (bs a0)), (1, .av (iv a1)), (2, .av (iv a2)), (3, .av (.fsl 1 (List.map cS a3))), (14, .av (iv x3)), (20, .av (bv x7)), (22, .av (.s (.int .u8 (IntKind.wrap .u8 (x3))))), (23, .av (iv a2))], [], 2⟩) (by kernel_rfl) ?_
      refine jr_callF (i := 7) rfl rfl rfl rfl (vs := [.s (.int .u8 (IntKind.wrap .u8 (x3))), iv a2]) (by kernel_rfl) (snapL_cons rfl (snapL_cons rfl (snapL_nil _))) (all2_cons (fle_refl _) (all2_cons (fle_refl _) all2_nil)) (ref01_Is_ok (IntKind.wrap .u8 (x3)) a2) (fun _ => rfl) (fun _ => rfl) ?_
      intro x8 h8
      refine jr_seg 8 1 [0, 1, 2, 3, 14, 25] [] (st1 := ⟨[(0, .av (bs a0)), (1, .av (iv a1)), (2, .av (iv a2)), (3, .av (.fsl 1 (List.map cS a3))), (14, .av (iv x3)), (25, .av (bv (!(x7 == x8))))], [], 2⟩) (by kernel_rfl) ?_
      refine jr_nil rfl ?_
      refine jx_seqN ?_
      refine jc_cond (g := 25) (c := (!(x7 == x8))) (by kernel_rfl) ?_ ?_
      · intro _
        refine jc_seq ?_
        refine jc_reg ?_
        refine jr_seg 0 1 [8] [] (st1 := ⟨[(8, .av (bv false))], [], 2⟩) (by kernel_rfl) ?_
        refine jr_nil rfl ?_
        refine jx_seqN ?_
        refine jc_ret ?_
        refine jx_blkR ?_
        refine jx_seqR ?_
        exact jx_done rfl nofun (wk_ren [] (fix_nil _) rfl (by kernel_rfl) allp_nil)
      · intro _
        refine jc_skip ?_
        refine jx_blkN ?_
        refine jx_seqN ?_
        refine jc_reg ?_
        refine jr_seg 0 2 [0, 1, 2, 3, 14] [] (st1 := ⟨[(0, .av (bs a0)), (1, .av (iv a1)), (2, .av (iv a2)), (3, .av (.fsl 1 (List.map cS a3))), (14, .av (iv (w64 (x3 + 1))))], [], 2⟩) (by kernel_rfl) ?_
        refine jr_nil rfl ?_
        exact jx_next (wk_ren [] (fix_nil _) rfl (by kernel_rfl) allp_nil)
    · intro _
      refine jc_exit ?_
      refine jx_seqE ?_
      exact jx_done rfl nofun (wk_ren [] (fix_nil _) rfl (by kernel_rfl) allp_nil)
  · rintro (_ | _)
    · refine jx_blkR ?_
      refine jx_seqR ?_
      exact jx_retF (.inr rfl) (v := bv false) (by kernel_rfl) rfl (fle_refl _)
    · refine jx_blkE ?_
      refine jx_seqN ?_
      refine jc_seq ?_
      refine jc_reg ?_
      refine jr_seg 0 3 [0, 1, 2, 3, 28, 29, 30] [] (st1 := ⟨[(0, .av (bs a0)), (1, .av (iv a1)), (2, .av (iv a2)), (3, .av (.fsl 1 (List.map cS a3))), (28, .av (bs a0)), (29, .av (iv a1)), (30, .av (.fsl 1 (List.map cS a3)))], [], 0⟩) (by kernel_rfl) ?_
      refine jr_callF (i := 3) rfl rfl rfl rfl (vs := [bs a0, iv a1, .fsl 1 (List.map cS a3)]) (by kernel_rfl) (snapL_cons rfl (snapL_cons rfl (snapL_cons rfl (snapL_nil _)))) (all2_cons (fle_refl _) (all2_cons (fle_refl _) (all2_cons (fle_refl _) all2_nil))) (scan_Word_ok a0 a1 a3) (fun _ => rfl) (fun _ => rfl) ?_
      intro x9 h9
      refine jr_seg 4 5 [0, 1, 2, 3, 10, 11] [] (st1 := ⟨[(0, .av (bs a0)), (1, .av (iv a1)), (2, .av (iv a2)), (3, .av (.fsl 1 (List.map cS a3))), (10, .av (bs x9.1)), (11, .av (bv x9.2))], [], 0⟩) (by kernel_rfl) ?_
      refine jr_nil rfl ?_
      refine jx_seqN ?_
      refine jc_seq ?_
      refine jc_reg ?_
      refine jr_seg 0 3 [0, 1, 2, 10, 11, 35, 36, 37] [] (st1 := ⟨[(0, .av (bs a0)), (1, .av (iv a1)), (2, .av (iv a2)), (10, .av (bs x9.1)), (11, .av (bv x9.2)), (35, .av (bs a0)), (36, .av (iv a1)), (37, .av (.fsl 1 (List.map cS a3)))], [], 0⟩) (by kernel_rfl) ?_
      refine jr_callF (i := 3) rfl rfl rfl rfl (vs := [bs a0, iv a1, .fsl 1 (List.map cS a3)]) (by kernel_rfl) (snapL_cons rfl (snapL_cons rfl (snapL_cons rfl (snapL_nil _)))) (all2_cons (fle_refl _) (all2_cons (fle_refl _) (all2_cons (fle_refl _) all2_nil))) (ref01_Word_ok a0 a1 a3) (fun _ => rfl) (fun _ => rfl) ?_
      intro x10 h10
      refine jr_seg 4 5 [0, 1, 2, 10, 11, 12, 13] [] (st1 := ⟨[(0, .av (bs a0)), (1, .av (iv a1)), (2, .av (iv a2)), (10, .av (bs x9.1)), (11, .av (bv x9.2)), (12, .av (bs x10.1)), (13, .av (bv x10.2))], [], 0⟩) (by kernel_rfl) ?_
      refine jr_nil rfl ?_
      refine jx_seqN ?_
      refine jc_seq ?_
      refine jc_reg ?_
      refine jr_seg 0 3 [0, 1, 2, 10, 11, 12, 13, 41, 42, 43] [] (st1 := ⟨[(0, .av (bs a0)), (1, .av (iv a1)), (2, .av (iv a2)), (10, .av (bs x9.1)), (11, .av (bv x9.2)), (12, .av (bs x10.1)), (13, .av (bv x10.2)), (41, .av (bs a0)), (42, .av (iv a1)), (43, .av (iv a2))], [], 0⟩) (by kernel_rfl) ?_
      refine jr_callF (i := 3) rfl rfl rfl rfl (vs := [bs a0, iv a1, iv a2]) (by kernel_rfl) (snapL_cons rfl (snapL_cons rfl (snapL_cons rfl (snapL_nil _)))) (all2_cons (fle_refl _) (all2_cons (fle_refl _) (all2_cons (fle_refl _) all2_nil))) (scan_Run_ok a0 a1 a2) (fun _ => rfl) (fun _ => rfl) ?_
      intro x11 h11
      refine jr_seg 4 3 [0, 10, 11, 12, 13, 44, 45, 46, 47] [] (st1 := ⟨[(0, .av (bs a0)), (10, .av (bs x9.1)), (11, .av (bv x9.2)), (12, .av (bs x10.1)), (13, .av (bv x10.2)), (44, .av (iv x11)), (45, .av (bs a0)), (46, .av (iv a1)), (47, .av (iv a2))], [], 0⟩) (by kernel_rfl) ?_
      refine jr_callF (i := 7) rfl rfl rfl rfl (vs := [bs a0, iv a1, iv a2]) (by kernel_rfl) (snapL_cons rfl (snapL_cons rfl (snapL_cons rfl (snapL_nil _)))) (all2_cons (fle_refl _) (all2_cons (fle_refl _) (all2_cons (fle_refl _) all2_nil))) (ref01_Run_ok a0 a1 a2) (fun _ => rfl) (fun _ => rfl) ?_
      intro x12 h12
      refine jr_seg 8 12 [0, 60] [] (st1 := ⟨[(0, .av (bs a0)), (60, .av (bv (((x11 == x12) && (x9.1 == x10.1)) && (x9.2 == x10.2))))], [], 0⟩) (by kernel_rfl) ?_
      refine jr_bind 20 6 (fun x15 => ⟨[(66, .av (bv x15))], [], 0⟩) ?_ ?_
      · refine jr_split (g := 60) (c := (((x11 == x12) && (x9.1 == x10.1)) && (x9.2 == x10.2))) (by kernel_rfl) ?_ ?_
        · intro _
          refine jr_seg 0 1 [0, 60, 61] [] (st1 := ⟨[(0, .av (bs a0)), (60, .lit true), (61, .av (bs a0))], [], 0⟩) (by kernel_rfl) ?_
          refine jr_callF (i := 1) rfl rfl rfl rfl (vs := [bs a0]) (by kernel_rfl) (snapL_cons rfl (snapL_nil _)) (all2_cons (fle_refl _) all2_nil) (scan_Lower_ok a0) (fun _ => rfl) (fun _ => rfl) ?_
          intro x16 h16
          refine jr_seg 2 1 [60, 62, 63] [] (st1 := ⟨[(60, .lit true), (62, .av (bs x16)), (63, .av (bs a0))], [], 0⟩) (by kernel_rfl) ?_
          refine jr_callF (i := 3) rfl rfl rfl rfl (vs := [bs a0]) (by kernel_rfl) (snapL_cons rfl (snapL_nil _)) (all2_cons (fle_refl _) all2_nil) (ref01_Lower_ok a0) (fun _ => rfl) (fun _ => rfl) ?_
          intro x17 h17
          refine jr_seg 4 2 [66] [] (st1 := ⟨[(66, .av (bv (x16 == x17)))], [], 0⟩) (by kernel_rfl) ?_
          refine jr_nil rfl ?_
          exact jx_mid rfl (wk_ren [] (fix_nil _) rfl (by kernel_rfl) allp_nil)
        · intro _
          refine jr_seg 0 6 [66] [] (st1 := ⟨[(66, .av (bv false))], [], 0⟩) (by kernel_rfl) ?_
          refine jr_nil rfl ?_
          exact jx_mid rfl (wk_ren [] (fix_nil _) rfl (by kernel_rfl) allp_nil)
      · intro x15
        refine jr_seg 26 1 [67] [] (st1 := ⟨[(67, .av (bv x15))], [], 0⟩) (by kernel_rfl) ?_
        refine jr_bind 27 2 (fun x19 => ⟨[(69, .av (bv x19))], [], 0⟩) ?_ ?_
        · refine jr_split (g := 67) (c := x15) (by kernel_rfl) ?_ ?_
          · intro _
            refine jr_callF (i := 0) rfl rfl rfl rfl (vs := []) (by kernel_rfl) (snapL_nil _) all2_nil (law01_awake_ok) (fun _ => rfl) (fun _ => rfl) ?_
            intro x20 h20
            refine jr_seg 1 1 [69] [] (st1 := ⟨[(69, .av (bv x20))], [], 0⟩) (by kernel_rfl) ?_
            refine jr_nil rfl ?_
            exact jx_mid rfl (wk_ren [] (fix_nil _) rfl (by kernel_rfl) allp_nil)
          · intro _
            refine jr_seg 0 2 [69] [] (st1 := ⟨[(69, .av (bv false))], [], 0⟩) (by kernel_rfl) ?_
            refine jr_nil rfl ?_
            exact jx_mid rfl (wk_ren [] (fix_nil _) rfl (by kernel_rfl) allp_nil)
        · intro x19
          refine jr_seg 29 1 [8] [] (st1 := ⟨[(8, .av (bv x19))], [], 0⟩) (by kernel_rfl) ?_
          refine jr_nil rfl ?_
          refine jx_seqN ?_
          refine jc_ret ?_
          exact jx_retF (.inr rfl) (v := bv x19) (by kernel_rfl) rfl (fle_refl _))
end Go.Vm

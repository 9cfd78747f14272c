/- The law ScanRuns, a part of its proof: what the functions that it reaches compute. -/
import Derived.Test.YtfkifahbmemepaaDoorDScanRuns
import Derived.Test.YtfkifahbmemepaaDoorW01ScanRuns
set_option maxRecDepth 100000
set_option maxHeartbeats 0
set_option linter.unusedVariables false
set_option linter.unusedSimpArgs false
namespace Go.Vm
open Go
/-! ### strings.trimLeftByte -/
abbrev strings_trimLeftByte_r1 : List LO := [⟨some 4, Op.assign (Operand.const (Value.string { data := #[] })), 9, none⟩]
abbrev strings_trimLeftByte_b2 : LC := .reg false strings_trimLeftByte_r1
abbrev strings_trimLeftByte_r3 : List LO := [⟨some 5, Op.move (Operand.tmp 0), 9, none⟩,
  ⟨some 6, Op.call { callee := Callee.builtin Builtin.len, args := #[Operand.tmp 5], argTypes := #[9] }, 3, none⟩,
  ⟨some 7, Op.binOp BinOp.gtr 3 (Operand.tmp 6) (Operand.const (Value.int IntKind.i64 0)) 3, 4, none⟩,
  ⟨some 8, Op.move (Operand.tmp 7), 4, none⟩,
  ⟨some 9, Op.move (Operand.tmp 0), 9, (some (8, true))⟩,
  ⟨some 10, Op.index 9 (Operand.tmp 9) (Operand.const (Value.int IntKind.i64 0)), 5, (some (8, true))⟩,
  ⟨some 11, Op.move (Operand.tmp 1), 5, (some (8, true))⟩,
  ⟨some 12, Op.binOp BinOp.eql 5 (Operand.tmp 10) (Operand.tmp 11) 5, 4, (some (8, true))⟩,
  ⟨some 13, Op.pick (Operand.tmp 8) (Operand.tmp 12) (Operand.const (Value.bool false)), 4, none⟩]
abbrev strings_trimLeftByte_b4 : LC := .reg false strings_trimLeftByte_r3
abbrev strings_trimLeftByte_b5 : LC := .cond (Operand.tmp 13) .skip (.exit 0)
abbrev strings_trimLeftByte_b6 : LC := .seq strings_trimLeftByte_b4 strings_trimLeftByte_b5
abbrev strings_trimLeftByte_r7 : List LO := [⟨some 14, Op.move (Operand.tmp 0), 9, none⟩,
  ⟨some 15, Op.slice 9 (Operand.tmp 14) (some (Operand.const (Value.int IntKind.i64 1))) none none, 9, none⟩,
  ⟨some 0, Op.assign (Operand.tmp 15), 9, none⟩]
abbrev strings_trimLeftByte_b8 : LC := .reg false strings_trimLeftByte_r7
abbrev strings_trimLeftByte_b9 : LC := .block 1 strings_trimLeftByte_b8
abbrev strings_trimLeftByte_b10 : LC := .seq strings_trimLeftByte_b6 strings_trimLeftByte_b9
abbrev strings_trimLeftByte_b11 : LC := .loop strings_trimLeftByte_b10
abbrev strings_trimLeftByte_b12 : LC := .block 0 strings_trimLeftByte_b11
abbrev strings_trimLeftByte_r13 : List LO := [⟨some 16, Op.move (Operand.tmp 0), 9, none⟩,
  ⟨some 4, Op.assign (Operand.tmp 16), 9, none⟩]
abbrev strings_trimLeftByte_b14 : LC := .reg false strings_trimLeftByte_r13
abbrev strings_trimLeftByte_b15 : LC := .seq strings_trimLeftByte_b14 .ret
abbrev strings_trimLeftByte_b16 : LC := .seq strings_trimLeftByte_b12 strings_trimLeftByte_b15
abbrev strings_trimLeftByte_b17 : LC := .seq strings_trimLeftByte_b2 strings_trimLeftByte_b16
theorem strings_trimLeftByte_k : FnOk E 104 17 [.tmp 4] strings_trimLeftByte_b17 := ⟨⟨Go.Proofs.Tryd.f104, by kernel_rfl, by kernel_rfl, by kernel_rfl, by kernel_rfl, by kernel_rfl⟩, rfl⟩
noncomputable def strings_trimLeftByte_l1 (a1 : Int) : Str → Option (Step (Str) (Str)) := fun x4 => Option.bind (if (decide ((List.length x4 : Int) > 0)) = true then Option.bind (idx x4 0) (fun x12 => some (x12 == a1)) else some false : Option (Bool)) (fun x11 => (if x11 = true then Option.bind (subl x4 1 (List.length x4 : Int)) (fun x13 => some (Step.next x13)) else some (Step.done x4)))
noncomputable def strings_trimLeftByte (a0 : Str) (a1 : Int) : Option (Str) := Option.bind (loopC (strings_trimLeftByte_l1 a1) a0) (fun x9 => some x9)
theorem strings_trimLeftByte_ok (a0 : Str) (a1 : Int) : Ct E 104 [bs a0, .s (.int .u8 a1)] (strings_trimLeftByte a0 a1) (fun r : Str => bs r) := ct_intro (N := 17) (L := strings_trimLeftByte_b17) strings_trimLeftByte_k rfl (Nat.le_of_ble_eq_true rfl) (by kernel_rfl) (by
  unfold strings_trimLeftByte
  refine jc_seq ?_
  refine jc_reg ?_
  refine jr_seg 0 1 [0, 1] [] (st1 := ⟨[(0, .av (bs a0)), (1, .av (.s (.int .u8 a1)))], [], 0⟩) (by kernel_rfl) ?_
  refine jr_nil rfl ?_
  refine jx_seqN ?_
  refine jc_seq ?_
  refine jc_block ?_
  refine jc_bind (fun x9 => ⟨[(0, .av (bs x9))], [], 0⟩) (fun x9 => (.exit 0)) (jc_loop (fun x4 => ⟨[(0, .av (bs x4)), (1, .av (.s (.int .u8 a1)))], [], 0⟩) (wk_ren [] (fix_nil _) rfl (by kernel_rfl) allp_nil) ?_) ?_
  · intro x4
    unfold strings_trimLeftByte_l1
    refine jc_seq ?_
    refine jc_seq ?_
    refine jc_reg ?_
    refine jr_seg 0 4 [0, 1, 8] [] (st1 := ⟨[(0, .av (bs x4)), (1, .av (.s (.int .u8 a1))), (8, .av (bv (decide ((List.length x4 : Int) > 0))))], [], 0⟩) (by kernel_rfl) ?_
    refine jr_bind 4 5 (fun x11 => ⟨[(0, .av (bs x4)), (1, .av (.s (.int .u8 a1))), (13, .av (bv x11))], [], 0⟩) ?_ ?_
    · refine jr_split (g := 8) (c := (decide ((List.length x4 : Int) > 0))) (by kernel_rfl) ?_ ?_
      · intro _
        refine jr_seg 0 1 [0, 1, 8, 9] [] (st1 := ⟨[(0, .av (bs x4)), (1, .av (.s (.int .u8 a1))), (8, .lit true), (9, .av (bs x4))], [], 0⟩) (by kernel_rfl) ?_
        refine jr_part (i := 1) (mo := idx x4 0) rfl rfl rfl rfl (fun _ hc => aop_index (kk := .i64) (by kernel_rfl) (by kernel_rfl) (by kernel_rfl) hc) (fun _ => rfl) ?_
        intro x12 h12
        refine jr_seg 2 3 [0, 1, 13] [] (st1 := ⟨[(0, .av (bs x4)), (1, .av (.s (.int .u8 a1))), (13, .av (bv (x12 == a1)))], [], 0⟩) (by kernel_rfl) ?_
        refine jr_nil rfl ?_
        exact jx_mid rfl (wk_ren [] (fix_nil _) rfl (by kernel_rfl) allp_nil)
      · intro _
        refine jr_seg 0 5 [0, 1, 13] [] (st1 := ⟨[(0, .av (bs x4)), (1, .av (.s (.int .u8 a1))), (13, .av (bv false))], [], 0⟩) (by kernel_rfl) ?_
        refine jr_nil rfl ?_
        exact jx_mid rfl (wk_ren [] (fix_nil _) rfl (by kernel_rfl) allp_nil)
    · intro x11
      refine jr_nil rfl ?_
      refine jx_seqN ?_
      refine jc_cond (g := 13) (c := x11) (by kernel_rfl) ?_ ?_
      · intro _
        refine jc_skip ?_
        refine jx_seqN ?_
        refine jc_block ?_
        refine jc_reg ?_
        refine jr_seg 0 1 [1, 14] [] (st1 := ⟨[(1, .av (.s (.int .u8 a1))), (14, .av (bs x4))], [], 0⟩) (by kernel_rfl) ?_
        refine jr_part (i := 1) (mo := subl x4 1 (List.length x4 : Int)) rfl rfl rfl rfl (fun _ hc => aop_subs (by kernel_rfl) (by kernel_rfl) (by kernel_rfl) (by kernel_rfl) hc) (fun _ => rfl) ?_
        intro x13 h13
        refine jr_seg 2 1 [0, 1] [] (st1 := ⟨[(0, .av (bs x13)), (1, .av (.s (.int .u8 a1)))], [], 0⟩) (by kernel_rfl) ?_
        refine jr_nil rfl ?_
        refine jx_blkN ?_
        exact jx_next (wk_ren [] (fix_nil _) rfl (by kernel_rfl) allp_nil)
      · intro _
        refine jc_exit ?_
        refine jx_seqE ?_
        exact jx_done rfl nofun (wk_ren [] (fix_nil _) rfl (by kernel_rfl) allp_nil)
  · intro x9
    refine jx_blkE ?_
    refine jx_seqN ?_
    refine jc_seq ?_
    refine jc_reg ?_
    refine jr_seg 0 2 [4] [] (st1 := ⟨[(4, .av (bs x9))], [], 0⟩) (by kernel_rfl) ?_
    refine jr_nil rfl ?_
    refine jx_seqN ?_
    refine jc_ret ?_
    exact jx_retF (.inr rfl) (v := bs x9) (by kernel_rfl) rfl (fle_refl _))
end Go.Vm

set_option maxRecDepth 100000
set_option maxHeartbeats 0
set_option linter.unusedVariables false
set_option linter.unusedSimpArgs false
namespace Go.Vm
open Go
/-! ### strings.TrimLeft -/
abbrev strings_TrimLeft_s1_r1 : List LO := [⟨some 4, Op.assign (Operand.const (Value.string { data := #[] })), 9, none⟩]
abbrev strings_TrimLeft_s1_b2 : LC := .reg false strings_TrimLeft_s1_r1
abbrev strings_TrimLeft_s1_r3 : List LO := [⟨some 7, Op.move (Operand.tmp 0), 9, none⟩,
  ⟨some 8, Op.binOp BinOp.eql 9 (Operand.tmp 7) (Operand.const (Value.string { data := #[] })) 9, 4, none⟩,
  ⟨some 9, Op.move (Operand.tmp 8), 4, none⟩,
  ⟨some 10, Op.move (Operand.tmp 1), 9, (some (9, false))⟩,
  ⟨some 11, Op.binOp BinOp.eql 9 (Operand.tmp 10) (Operand.const (Value.string { data := #[] })) 9, 4, (some (9, false))⟩,
  ⟨some 12, Op.pick (Operand.tmp 9) (Operand.const (Value.bool true)) (Operand.tmp 11), 4, none⟩]
abbrev strings_TrimLeft_s1_b4 : LC := .reg false strings_TrimLeft_s1_r3
abbrev strings_TrimLeft_s1_r5 : List LO := [⟨some 13, Op.move (Operand.tmp 0), 9, none⟩,
  ⟨some 4, Op.assign (Operand.tmp 13), 9, none⟩]
abbrev strings_TrimLeft_s1_b6 : LC := .reg false strings_TrimLeft_s1_r5
abbrev strings_TrimLeft_s1_b7 : LC := .seq strings_TrimLeft_s1_b6 .ret
abbrev strings_TrimLeft_s1_b8 : LC := .cond (Operand.tmp 12) strings_TrimLeft_s1_b7 .skip
abbrev strings_TrimLeft_s1_b9 : LC := .seq strings_TrimLeft_s1_b4 strings_TrimLeft_s1_b8
abbrev strings_TrimLeft_s1_r10 : List LO := [⟨some 14, Op.move (Operand.tmp 1), 9, none⟩,
  ⟨some 15, Op.call { callee := Callee.builtin Builtin.len, args := #[Operand.tmp 14], argTypes := #[9] }, 3, none⟩,
  ⟨some 16, Op.binOp BinOp.eql 3 (Operand.tmp 15) (Operand.const (Value.int IntKind.i64 1)) 3, 4, none⟩,
  ⟨some 17, Op.move (Operand.tmp 16), 4, none⟩,
  ⟨some 18, Op.move (Operand.tmp 1), 9, (some (17, true))⟩,
  ⟨some 19, Op.index 9 (Operand.tmp 18) (Operand.const (Value.int IntKind.i64 0)), 5, (some (17, true))⟩,
  ⟨some 20, Op.binOp BinOp.lss 5 (Operand.tmp 19) (Operand.const (Value.int IntKind.u8 128)) 5, 4, (some (17, true))⟩,
  ⟨some 21, Op.pick (Operand.tmp 17) (Operand.tmp 20) (Operand.const (Value.bool false)), 4, none⟩]
abbrev strings_TrimLeft_s1_b11 : LC := .reg false strings_TrimLeft_s1_r10
abbrev strings_TrimLeft_s1_r12 : List LO := [⟨some 22, Op.move (Operand.tmp 0), 9, none⟩,
  ⟨some 23, Op.move (Operand.tmp 1), 9, none⟩,
  ⟨some 24, Op.index 9 (Operand.tmp 23) (Operand.const (Value.int IntKind.i64 0)), 5, none⟩,
  ⟨some 25, Op.call { callee := Callee.value (Operand.func 104), args := #[Operand.tmp 22, Operand.tmp 24], argTypes := #[9, 5] }, 9, none⟩,
  ⟨some 4, Op.assign (Operand.tmp 25), 9, none⟩]
abbrev strings_TrimLeft_s1_b13 : LC := .reg false strings_TrimLeft_s1_r12
abbrev strings_TrimLeft_s1_b14 : LC := .seq strings_TrimLeft_s1_b13 .ret
abbrev strings_TrimLeft_s1_b15 : LC := .cond (Operand.tmp 21) strings_TrimLeft_s1_b14 .skip
abbrev strings_TrimLeft_s1_b16 : LC := .seq strings_TrimLeft_s1_b11 strings_TrimLeft_s1_b15
abbrev strings_TrimLeft_s1_r17 : List LO := [⟨some 27, Op.move (Operand.tmp 1), 9, none⟩,
  ⟨some 28, Op.call { callee := Callee.value (Operand.func 105), args := #[Operand.tmp 27], argTypes := #[9] }, 125, none⟩,
  ⟨some 26, Op.move (Operand.tmp 28), 125, none⟩,
  ⟨some 29, Op.extract (Operand.tmp 26) 0, 124, none⟩,
  ⟨some 30, Op.extract (Operand.tmp 26) 1, 4, none⟩,
  ⟨some 5, Op.alloc 124, 0, none⟩,
  ⟨none, Op.store 124 (Operand.tmp 5) (Operand.tmp 29), 0, none⟩,
  ⟨some 6, Op.assign (Operand.tmp 30), 4, none⟩]
abbrev strings_TrimLeft_s1_b18 : LC := .reg false strings_TrimLeft_s1_r17
abbrev strings_TrimLeft_s1_r19 : List LO := [⟨some 31, Op.move (Operand.tmp 6), 4, none⟩]
abbrev strings_TrimLeft_s1_b20 : LC := .reg false strings_TrimLeft_s1_r19
abbrev strings_TrimLeft_s1_r21 : List LO := [⟨some 32, Op.move (Operand.tmp 0), 9, none⟩,
  ⟨some 33, Op.call { callee := Callee.value (Operand.func 106), args := #[Operand.tmp 32, Operand.tmp 5], argTypes := #[9, 128] }, 9, none⟩,
  ⟨some 4, Op.assign (Operand.tmp 33), 9, none⟩]
abbrev strings_TrimLeft_s1_b22 : LC := .reg false strings_TrimLeft_s1_r21
abbrev strings_TrimLeft_s1_b23 : LC := .seq strings_TrimLeft_s1_b22 .ret
abbrev strings_TrimLeft_s1_b24 : LC := .cond (Operand.tmp 31) strings_TrimLeft_s1_b23 .skip
abbrev strings_TrimLeft_s1_b25 : LC := .seq strings_TrimLeft_s1_b20 strings_TrimLeft_s1_b24
abbrev strings_TrimLeft_s1_b26 : LC := .seq strings_TrimLeft_s1_b18 strings_TrimLeft_s1_b25
abbrev strings_TrimLeft_s1_r27 : List LO := [⟨some 34, Op.move (Operand.tmp 0), 9, none⟩,
  ⟨some 35, Op.move (Operand.tmp 1), 9, none⟩,
  ⟨some 36, Op.call { callee := Callee.value (Operand.func 107), args := #[Operand.tmp 34, Operand.tmp 35], argTypes := #[9, 9] }, 9, none⟩,
  ⟨some 4, Op.assign (Operand.tmp 36), 9, none⟩]
abbrev strings_TrimLeft_s1_b28 : LC := .reg false strings_TrimLeft_s1_r27
abbrev strings_TrimLeft_s1_b29 : LC := .seq strings_TrimLeft_s1_b28 .ret
abbrev strings_TrimLeft_s1_b30 : LC := .seq strings_TrimLeft_s1_b26 strings_TrimLeft_s1_b29
abbrev strings_TrimLeft_s1_b31 : LC := .seq strings_TrimLeft_s1_b16 strings_TrimLeft_s1_b30
abbrev strings_TrimLeft_s1_b32 : LC := .seq strings_TrimLeft_s1_b9 strings_TrimLeft_s1_b31
abbrev strings_TrimLeft_s1_b33 : LC := .seq strings_TrimLeft_s1_b2 strings_TrimLeft_s1_b32
theorem strings_TrimLeft_s1_k : FnOk E 63 37 [.tmp 4] strings_TrimLeft_s1_b33 := ⟨⟨Go.Proofs.Tryd.f63, by kernel_rfl, by kernel_rfl, by kernel_rfl, by kernel_rfl, by kernel_rfl⟩, rfl⟩
noncomputable def strings_TrimLeft_s1 (a0 : Str) : Option (Str) := (if ((a0 == []) && true) = true then some a0 else Option.bind (strings_trimLeftByte a0 48) (fun x1 => some x1))
theorem strings_TrimLeft_s1_ok (a0 : Str) : Ct E 63 [bs a0, bs [48]] (strings_TrimLeft_s1 a0) (fun r : Str => bs r) := ct_intro (N := 37) (L := strings_TrimLeft_s1_b33) strings_TrimLeft_s1_k rfl (Nat.le_of_ble_eq_true rfl) (by kernel_rfl) (by
  unfold strings_TrimLeft_s1
  refine jc_seq ?_
  refine jc_reg ?_
  refine jr_seg 0 1 [0, 1] [] (st1 := ⟨[(0, .av (bs a0)), (1, .av (bs [48]))], [], 0⟩) (by kernel_rfl) ?_
  refine jr_nil rfl ?_
  refine jx_seqN ?_
  refine jc_seq ?_
  refine jc_seq ?_
  refine jc_reg ?_
  refine jr_seg 0 6 [0, 1, 12] [] (st1 := ⟨[(0, .av (bs a0)), (1, .av (bs [48])), (12, .av (bv ((a0 == []) && true)))], [], 0⟩) (by kernel_rfl) ?_
  refine jr_nil rfl ?_
  refine jx_seqN ?_
  refine jc_cond (g := 12) (c := ((a0 == []) && true)) (by kernel_rfl) ?_ ?_
  · intro _
    refine jc_seq ?_
    refine jc_reg ?_
    refine jr_seg 0 2 [4] [] (st1 := ⟨[(4, .av (bs a0))], [], 0⟩) (by kernel_rfl) ?_
    refine jr_nil rfl ?_
    refine jx_seqN ?_
    refine jc_ret ?_
    refine jx_seqR ?_
    exact jx_retF (.inr rfl) (v := bs a0) (by kernel_rfl) rfl (fle_refl _)
  · intro _
    refine jc_skip ?_
    refine jx_seqN ?_
    refine jc_seq ?_
    refine jc_seq ?_
    refine jc_reg ?_
    refine jr_seg 0 4 [0, 1, 17] [] (st1 := ⟨[(0, .av (bs a0)), (1, .av (bs [48])), (17, .av (bv true))], [], 0⟩) (by kernel_rfl) ?_
    refine jr_lit (g := 17) (b := true) (by kernel_rfl) ?_
    refine jr_seg 4 1 [0, 1, 17, 18] [] (st1 := ⟨[(0, .av (bs a0)), (1, .av (bs [48])), (17, .lit true), (18, .av (bs [48]))], [], 0⟩) (by kernel_rfl) ?_
    refine jr_one (i := 5) (v := .s (.int .u8 48)) (us := []) rfl rfl rfl rfl (aop_index (s := [48]) (j := 0) (c := 48) (kk := .i64) (by kernel_rfl) (by kernel_rfl) (by kernel_rfl) rfl) rfl ?_
    refine jr_seg 6 2 [0, 1, 21] [] (st1 := ⟨[(0, .av (bs a0)), (1, .av (bs [48])), (21, .av (bv true))], [], 0⟩) (by kernel_rfl) ?_
    refine jr_nil rfl ?_
    refine jx_seqN ?_
    refine jc_condK (c := true) (by kernel_rfl) ?_
    refine jc_seq ?_
    refine jc_reg ?_
    refine jr_seg 0 2 [22, 23] [] (st1 := ⟨[(22, .av (bs a0)), (23, .av (bs [48]))], [], 0⟩) (by kernel_rfl) ?_
    refine jr_one (i := 2) (v := .s (.int .u8 48)) (us := []) rfl rfl rfl rfl (aop_index (s := [48]) (j := 0) (c := 48) (kk := .i64) (by kernel_rfl) (by kernel_rfl) (by kernel_rfl) rfl) rfl ?_
    refine jr_callF (i := 3) rfl rfl rfl rfl (vs := [bs a0, .s (.int .u8 48)]) (by kernel_rfl) (snapL_cons rfl (snapL_cons rfl (snapL_nil _))) (all2_cons (fle_refl _) (all2_cons (fle_refl _) all2_nil)) (strings_trimLeftByte_ok a0 48) (fun _ => rfl) (fun _ => rfl) ?_
    intro x1 h1
    refine jr_seg 4 1 [4] [] (st1 := ⟨[(4, .av (bs x1))], [], 0⟩) (by kernel_rfl) ?_
    refine jr_nil rfl ?_
    refine jx_seqN ?_
    refine jc_ret ?_
    refine jx_seqR ?_
    exact jx_retF (.inr rfl) (v := bs x1) (by kernel_rfl) rfl (fle_refl _))
end Go.Vm

set_option maxRecDepth 100000
set_option maxHeartbeats 0
set_option linter.unusedVariables false
set_option linter.unusedSimpArgs false
namespace Go.Vm
open Go
/-! ### dovetail/scan.Trim -/
abbrev scan_Trim_r1 : List LO := [⟨some 2, Op.assign (Operand.const (Value.string { data := #[] })), 9, none⟩]
abbrev scan_Trim_b2 : LC := .reg false scan_Trim_r1
abbrev scan_Trim_r3 : List LO := [⟨some 3, Op.move (Operand.tmp 0), 9, none⟩,
  ⟨some 4, Op.call { callee := Callee.value (Operand.func 63), args := #[Operand.tmp 3, Operand.const (Value.string { data := #[48] })], argTypes := #[9, 9] }, 9, none⟩,
  ⟨some 0, Op.assign (Operand.tmp 4), 9, none⟩]
abbrev scan_Trim_b4 : LC := .reg false scan_Trim_r3
abbrev scan_Trim_r5 : List LO := [⟨some 5, Op.move (Operand.tmp 0), 9, none⟩,
  ⟨some 6, Op.binOp BinOp.eql 9 (Operand.tmp 5) (Operand.const (Value.string { data := #[] })) 9, 4, none⟩]
abbrev scan_Trim_b6 : LC := .reg false scan_Trim_r5
abbrev scan_Trim_r7 : List LO := [⟨some 2, Op.assign (Operand.const (Value.string { data := #[48] })), 9, none⟩]
abbrev scan_Trim_b8 : LC := .reg false scan_Trim_r7
abbrev scan_Trim_b9 : LC := .seq scan_Trim_b8 .ret
abbrev scan_Trim_b10 : LC := .cond (Operand.tmp 6) scan_Trim_b9 .skip
abbrev scan_Trim_b11 : LC := .seq scan_Trim_b6 scan_Trim_b10
abbrev scan_Trim_r12 : List LO := [⟨some 7, Op.move (Operand.tmp 0), 9, none⟩,
  ⟨some 2, Op.assign (Operand.tmp 7), 9, none⟩]
abbrev scan_Trim_b13 : LC := .reg false scan_Trim_r12
abbrev scan_Trim_b14 : LC := .seq scan_Trim_b13 .ret
abbrev scan_Trim_b15 : LC := .seq scan_Trim_b11 scan_Trim_b14
abbrev scan_Trim_b16 : LC := .seq scan_Trim_b4 scan_Trim_b15
abbrev scan_Trim_b17 : LC := .seq scan_Trim_b2 scan_Trim_b16
theorem scan_Trim_k : FnOk E 15 8 [.tmp 2] scan_Trim_b17 := ⟨⟨Go.Proofs.Tryd.f15, by kernel_rfl, by kernel_rfl, by kernel_rfl, by kernel_rfl, by kernel_rfl⟩, rfl⟩
noncomputable def scan_Trim (a0 : Str) : Option (Str) := Option.bind (strings_TrimLeft_s1 a0) (fun x1 => (if (x1 == []) = true then some [48] else some x1))
theorem scan_Trim_ok (a0 : Str) : Ct E 15 [bs a0] (scan_Trim a0) (fun r : Str => bs r) := ct_intro (N := 8) (L := scan_Trim_b17) scan_Trim_k rfl (Nat.le_of_ble_eq_true rfl) (by kernel_rfl) (by
  unfold scan_Trim
  refine jc_seq ?_
  refine jc_reg ?_
  refine jr_seg 0 1 [0] [] (st1 := ⟨[(0, .av (bs a0))], [], 0⟩) (by kernel_rfl) ?_
  refine jr_nil rfl ?_
  refine jx_seqN ?_
  refine jc_seq ?_
  refine jc_reg ?_
  refine jr_seg 0 1 [3] [] (st1 := ⟨[(3, .av (bs a0))], [], 0⟩) (by kernel_rfl) ?_
  refine jr_callF (i := 1) rfl rfl rfl rfl (vs := [bs a0, bs [48]]) (by kernel_rfl) (snapL_cons rfl (snapL_cons rfl (snapL_nil _))) (all2_cons (fle_refl _) (all2_cons (fle_refl _) all2_nil)) (strings_TrimLeft_s1_ok a0) (fun _ => rfl) (fun _ => rfl) ?_
  intro x1 h1
  refine jr_seg 2 1 [0] [] (st1 := ⟨[(0, .av (bs x1))], [], 0⟩) (by kernel_rfl) ?_
  refine jr_nil rfl ?_
  refine jx_seqN ?_
  refine jc_seq ?_
  refine jc_seq ?_
  refine jc_reg ?_
  refine jr_seg 0 2 [0, 6] [] (st1 := ⟨[(0, .av (bs x1)), (6, .av (bv (x1 == [])))], [], 0⟩) (by kernel_rfl) ?_
  refine jr_nil rfl ?_
  refine jx_seqN ?_
  refine jc_cond (g := 6) (c := (x1 == [])) (by kernel_rfl) ?_ ?_
  · intro _
    refine jc_seq ?_
    refine jc_reg ?_
    refine jr_seg 0 1 [2] [] (st1 := ⟨[(2, .av (bs [48]))], [], 0⟩) (by kernel_rfl) ?_
    refine jr_nil rfl ?_
    refine jx_seqN ?_
    refine jc_ret ?_
    refine jx_seqR ?_
    exact jx_retF (.inr rfl) (v := bs [48]) (by kernel_rfl) rfl (fle_refl _)
  · intro _
    refine jc_skip ?_
    refine jx_seqN ?_
    refine jc_seq ?_
    refine jc_reg ?_
    refine jr_seg 0 2 [2] [] (st1 := ⟨[(2, .av (bs x1))], [], 0⟩) (by kernel_rfl) ?_
    refine jr_nil rfl ?_
    refine jx_seqN ?_
    refine jc_ret ?_
    exact jx_retF (.inr rfl) (v := bs x1) (by kernel_rfl) rfl (fle_refl _))
end Go.Vm

set_option maxRecDepth 100000
set_option maxHeartbeats 0
set_option linter.unusedVariables false
set_option linter.unusedSimpArgs false
namespace Go.Vm
open Go
/-! ### dovetail/dovetailref01.Trim -/
abbrev ref01_Trim_r1 : List LO := [⟨some 2, Op.assign (Operand.const (Value.string { data := #[] })), 9, none⟩]
abbrev ref01_Trim_b2 : LC := .reg false ref01_Trim_r1
abbrev ref01_Trim_r3 : List LO := [⟨some 3, Op.assign (Operand.const (Value.int IntKind.i64 0)), 3, none⟩]
abbrev ref01_Trim_b4 : LC := .reg false ref01_Trim_r3
abbrev ref01_Trim_r5 : List LO := [⟨some 4, Op.move (Operand.tmp 3), 3, none⟩,
  ⟨some 5, Op.move (Operand.tmp 0), 9, none⟩,
  ⟨some 6, Op.call { callee := Callee.builtin Builtin.len, args := #[Operand.tmp 5], argTypes := #[9] }, 3, none⟩,
  ⟨some 7, Op.binOp BinOp.lss 3 (Operand.tmp 4) (Operand.tmp 6) 3, 4, none⟩,
  ⟨some 8, Op.move (Operand.tmp 7), 4, none⟩,
  ⟨some 9, Op.move (Operand.tmp 0), 9, (some (8, true))⟩,
  ⟨some 10, Op.move (Operand.tmp 3), 3, (some (8, true))⟩,
  ⟨some 11, Op.index 9 (Operand.tmp 9) (Operand.tmp 10), 5, (some (8, true))⟩,
  ⟨some 12, Op.binOp BinOp.eql 5 (Operand.tmp 11) (Operand.const (Value.int IntKind.u8 48)) 5, 4, (some (8, true))⟩,
  ⟨some 13, Op.pick (Operand.tmp 8) (Operand.tmp 12) (Operand.const (Value.bool false)), 4, none⟩]
abbrev ref01_Trim_b6 : LC := .reg false ref01_Trim_r5
abbrev ref01_Trim_b7 : LC := .cond (Operand.tmp 13) .skip (.exit 0)
abbrev ref01_Trim_b8 : LC := .seq ref01_Trim_b6 ref01_Trim_b7
abbrev ref01_Trim_r9 : List LO := [⟨some 14, Op.move (Operand.tmp 3), 3, none⟩,
  ⟨some 15, Op.binOp BinOp.add 3 (Operand.tmp 14) (Operand.const (Value.int IntKind.i64 1)) 3, 3, none⟩,
  ⟨some 3, Op.assign (Operand.tmp 15), 3, none⟩]
abbrev ref01_Trim_b10 : LC := .reg false ref01_Trim_r9
abbrev ref01_Trim_b11 : LC := .block 1 ref01_Trim_b10
abbrev ref01_Trim_b12 : LC := .seq ref01_Trim_b8 ref01_Trim_b11
abbrev ref01_Trim_b13 : LC := .loop ref01_Trim_b12
abbrev ref01_Trim_b14 : LC := .block 0 ref01_Trim_b13
abbrev ref01_Trim_r15 : List LO := [⟨some 16, Op.move (Operand.tmp 3), 3, none⟩,
  ⟨some 17, Op.move (Operand.tmp 0), 9, none⟩,
  ⟨some 18, Op.call { callee := Callee.builtin Builtin.len, args := #[Operand.tmp 17], argTypes := #[9] }, 3, none⟩,
  ⟨some 19, Op.binOp BinOp.eql 3 (Operand.tmp 16) (Operand.tmp 18) 3, 4, none⟩]
abbrev ref01_Trim_b16 : LC := .reg false ref01_Trim_r15
abbrev ref01_Trim_r17 : List LO := [⟨some 2, Op.assign (Operand.const (Value.string { data := #[48] })), 9, none⟩]
abbrev ref01_Trim_b18 : LC := .reg false ref01_Trim_r17
abbrev ref01_Trim_b19 : LC := .seq ref01_Trim_b18 .ret
abbrev ref01_Trim_b20 : LC := .cond (Operand.tmp 19) ref01_Trim_b19 .skip
abbrev ref01_Trim_b21 : LC := .seq ref01_Trim_b16 ref01_Trim_b20
abbrev ref01_Trim_r22 : List LO := [⟨some 20, Op.move (Operand.tmp 0), 9, none⟩,
  ⟨some 21, Op.move (Operand.tmp 3), 3, none⟩,
  ⟨some 22, Op.slice 9 (Operand.tmp 20) (some (Operand.tmp 21)) none none, 9, none⟩,
  ⟨some 2, Op.assign (Operand.tmp 22), 9, none⟩]
abbrev ref01_Trim_b23 : LC := .reg false ref01_Trim_r22
abbrev ref01_Trim_b24 : LC := .seq ref01_Trim_b23 .ret
abbrev ref01_Trim_b25 : LC := .seq ref01_Trim_b21 ref01_Trim_b24
abbrev ref01_Trim_b26 : LC := .seq ref01_Trim_b14 ref01_Trim_b25
abbrev ref01_Trim_b27 : LC := .seq ref01_Trim_b4 ref01_Trim_b26
abbrev ref01_Trim_b28 : LC := .seq ref01_Trim_b2 ref01_Trim_b27
theorem ref01_Trim_k : FnOk E 16 23 [.tmp 2] ref01_Trim_b28 := ⟨⟨Go.Proofs.Tryd.f16, by kernel_rfl, by kernel_rfl, by kernel_rfl, by kernel_rfl, by kernel_rfl⟩, rfl⟩
noncomputable def ref01_Trim_l1 (a0 : Str) : Int → Option (Step (Int) (Int)) := fun x3 => Option.bind (if (decide (x3 < (List.length a0 : Int))) = true then Option.bind (idx a0 x3) (fun x10 => some (x10 == 48)) else some false : Option (Bool)) (fun x9 => (if x9 = true then some (Step.next (w64 (x3 + 1))) else some (Step.done x3)))
noncomputable def ref01_Trim (a0 : Str) : Option (Str) := Option.bind (loopC (ref01_Trim_l1 a0) 0) (fun x7 => (if (x7 == (List.length a0 : Int)) = true then some [48] else Option.bind (subl a0 x7 (List.length a0 : Int)) (fun x11 => some x11)))
theorem ref01_Trim_ok (a0 : Str) : Ct E 16 [bs a0] (ref01_Trim a0) (fun r : Str => bs r) := ct_intro (N := 23) (L := ref01_Trim_b28) ref01_Trim_k rfl (Nat.le_of_ble_eq_true rfl) (by kernel_rfl) (by
  unfold ref01_Trim
  refine jc_seq ?_
  refine jc_reg ?_
  refine jr_seg 0 1 [0] [] (st1 := ⟨[(0, .av (bs a0))], [], 0⟩) (by kernel_rfl) ?_
  refine jr_nil rfl ?_
  refine jx_seqN ?_
  refine jc_seq ?_
  refine jc_reg ?_
  refine jr_seg 0 1 [0, 3] [] (st1 := ⟨[(0, .av (bs a0)), (3, .av (iv 0))], [], 0⟩) (by kernel_rfl) ?_
  refine jr_nil rfl ?_
  refine jx_seqN ?_
  refine jc_seq ?_
  refine jc_block ?_
  refine jc_bind (fun x7 => ⟨[(0, .av (bs a0)), (3, .av (iv x7))], [], 0⟩) (fun x7 => (.exit 0)) (jc_loop (fun x3 => ⟨[(0, .av (bs a0)), (3, .av (iv x3))], [], 0⟩) (wk_ren [] (fix_nil _) rfl (by kernel_rfl) allp_nil) ?_) ?_
  · intro x3
    unfold ref01_Trim_l1
    refine jc_seq ?_
    refine jc_seq ?_
    refine jc_reg ?_
    refine jr_seg 0 5 [0, 3, 8] [] (st1 := ⟨[(0, .av (bs a0)), (3, .av (iv x3)), (8, .av (bv (decide (x3 < (List.length a0 : Int)))))], [], 0⟩) (by kernel_rfl) ?_
    refine jr_bind 5 5 (fun x9 => ⟨[(0, .av (bs a0)), (3, .av (iv x3)), (13, .av (bv x9))], [], 0⟩) ?_ ?_
    · refine jr_split (g := 8) (c := (decide (x3 < (List.length a0 : Int)))) (by kernel_rfl) ?_ ?_
      · intro _
        refine jr_seg 0 2 [0, 3, 8, 9, 10] [] (st1 := ⟨[(0, .av (bs a0)), (3, .av (iv x3)), (8, .lit true), (9, .av (bs a0)), (10, .av (iv x3))], [], 0⟩) (by kernel_rfl) ?_
        refine jr_part (i := 2) (mo := idx a0 x3) rfl rfl rfl rfl (fun _ hc => aop_index (kk := .i64) (by kernel_rfl) (by kernel_rfl) (by kernel_rfl) hc) (fun _ => rfl) ?_
        intro x10 h10
        refine jr_seg 3 2 [0, 3, 13] [] (st1 := ⟨[(0, .av (bs a0)), (3, .av (iv x3)), (13, .av (bv (x10 == 48)))], [], 0⟩) (by kernel_rfl) ?_
        refine jr_nil rfl ?_
        exact jx_mid rfl (wk_ren [] (fix_nil _) rfl (by kernel_rfl) allp_nil)
      · intro _
        refine jr_seg 0 5 [0, 3, 13] [] (st1 := ⟨[(0, .av (bs a0)), (3, .av (iv x3)), (13, .av (bv false))], [], 0⟩) (by kernel_rfl) ?_
        refine jr_nil rfl ?_
        exact jx_mid rfl (wk_ren [] (fix_nil _) rfl (by kernel_rfl) allp_nil)
    · intro x9
      refine jr_nil rfl ?_
      refine jx_seqN ?_
      refine jc_cond (g := 13) (c := x9) (by kernel_rfl) ?_ ?_
      · intro _
        refine jc_skip ?_
        refine jx_seqN ?_
        refine jc_block ?_
        refine jc_reg ?_
        refine jr_seg 0 3 [0, 3] [] (st1 := ⟨[(0, .av (bs a0)), (3, .av (iv (w64 (x3 + 1))))], [], 0⟩) (by kernel_rfl) ?_
        refine jr_nil rfl ?_
        refine jx_blkN ?_
        exact jx_next (wk_ren [] (fix_nil _) rfl (by kernel_rfl) allp_nil)
      · intro _
        refine jc_exit ?_
        refine jx_seqE ?_
        exact jx_done rfl nofun (wk_ren [] (fix_nil _) rfl (by kernel_rfl) allp_nil)
  · intro x7
    refine jx_blkE ?_
    refine jx_seqN ?_
    refine jc_seq ?_
    refine jc_seq ?_
    refine jc_reg ?_
    refine jr_seg 0 4 [0, 3, 19] [] (st1 := ⟨[(0, .av (bs a0)), (3, .av (iv x7)), (19, .av (bv (x7 == (List.length a0 : Int))))], [], 0⟩) (by kernel_rfl) ?_
    refine jr_nil rfl ?_
    refine jx_seqN ?_
    refine jc_cond (g := 19) (c := (x7 == (List.length a0 : Int))) (by kernel_rfl) ?_ ?_
    · intro _
      refine jc_seq ?_
      refine jc_reg ?_
      refine jr_seg 0 1 [2] [] (st1 := ⟨[(2, .av (bs [48]))], [], 0⟩) (by kernel_rfl) ?_
      refine jr_nil rfl ?_
      refine jx_seqN ?_
      refine jc_ret ?_
      refine jx_seqR ?_
      exact jx_retF (.inr rfl) (v := bs [48]) (by kernel_rfl) rfl (fle_refl _)
    · intro _
      refine jc_skip ?_
      refine jx_seqN ?_
      refine jc_seq ?_
      refine jc_reg ?_
      refine jr_seg 0 2 [20, 21] [] (st1 := ⟨[(20, .av (bs a0)), (21, .av (iv x7))], [], 0⟩) (by kernel_rfl) ?_
      refine jr_part (i := 2) (mo := subl a0 x7 (List.length a0 : Int)) rfl rfl rfl rfl (fun _ hc => aop_subs (by kernel_rfl) (by kernel_rfl) (by kernel_rfl) (by kernel_rfl) hc) (fun _ => rfl) ?_
      intro x11 h11
      refine jr_seg 3 1 [2] [] (st1 := ⟨[(2, .av (bs x11))], [], 0⟩) (by kernel_rfl) ?_
      refine jr_nil rfl ?_
      refine jx_seqN ?_
      refine jc_ret ?_
      exact jx_retF (.inr rfl) (v := bs x11) (by kernel_rfl) rfl (fle_refl _))
end Go.Vm

set_option maxRecDepth 100000
set_option maxHeartbeats 0
set_option linter.unusedVariables false
set_option linter.unusedSimpArgs false
namespace Go.Vm
open Go
/-! ### cmp.Or[int] -/
abbrev cmp_Or_int_r1 : List LO := [⟨some 2, Op.assign (Operand.const (Value.int IntKind.i64 0)), 3, none⟩]
abbrev cmp_Or_int_b2 : LC := .reg false cmp_Or_int_r1
abbrev cmp_Or_int_r3 : List LO := [⟨some 3, Op.assign (Operand.const (Value.int IntKind.i64 0)), 3, none⟩]
abbrev cmp_Or_int_b4 : LC := .reg false cmp_Or_int_r3
abbrev cmp_Or_int_r5 : List LO := [⟨some 6, Op.move (Operand.tmp 0), 129, none⟩,
  ⟨some 7, Op.call { callee := Callee.builtin Builtin.len, args := #[Operand.tmp 6], argTypes := #[129] }, 3, none⟩,
  ⟨some 8, Op.move (Operand.const (Value.int IntKind.i64 0)), 3, none⟩]
abbrev cmp_Or_int_b6 : LC := .reg false cmp_Or_int_r5
abbrev cmp_Or_int_r7 : List LO := [⟨some 9, Op.binOp BinOp.lss 3 (Operand.tmp 8) (Operand.tmp 7) 3, 0, none⟩]
abbrev cmp_Or_int_b8 : LC := .reg false cmp_Or_int_r7
abbrev cmp_Or_int_b9 : LC := .cond (Operand.tmp 9) .skip (.exit 0)
abbrev cmp_Or_int_r10 : List LO := [⟨some 10, Op.indexAddr 129 (Operand.tmp 6) (Operand.tmp 8), 0, none⟩,
  ⟨some 11, Op.load 3 (Operand.tmp 10), 3, none⟩,
  ⟨some 5, Op.assign (Operand.tmp 11), 3, none⟩]
abbrev cmp_Or_int_b11 : LC := .reg false cmp_Or_int_r10
abbrev cmp_Or_int_r12 : List LO := [⟨some 12, Op.move (Operand.tmp 5), 3, none⟩,
  ⟨some 13, Op.move (Operand.tmp 3), 3, none⟩,
  ⟨some 14, Op.binOp BinOp.neq 3 (Operand.tmp 12) (Operand.tmp 13) 3, 4, none⟩]
abbrev cmp_Or_int_b13 : LC := .reg false cmp_Or_int_r12
abbrev cmp_Or_int_r14 : List LO := [⟨some 15, Op.move (Operand.tmp 5), 3, none⟩,
  ⟨some 2, Op.assign (Operand.tmp 15), 3, none⟩]
abbrev cmp_Or_int_b15 : LC := .reg false cmp_Or_int_r14
abbrev cmp_Or_int_b16 : LC := .seq cmp_Or_int_b15 .ret
abbrev cmp_Or_int_b17 : LC := .cond (Operand.tmp 14) cmp_Or_int_b16 .skip
abbrev cmp_Or_int_b18 : LC := .seq cmp_Or_int_b13 cmp_Or_int_b17
abbrev cmp_Or_int_b19 : LC := .seq cmp_Or_int_b11 cmp_Or_int_b18
abbrev cmp_Or_int_b20 : LC := .block 1 cmp_Or_int_b19
abbrev cmp_Or_int_r21 : List LO := [⟨some 16, Op.binOp BinOp.add 3 (Operand.tmp 8) (Operand.const (Value.int IntKind.i64 1)) 3, 3, none⟩,
  ⟨some 8, Op.move (Operand.tmp 16), 3, none⟩]
abbrev cmp_Or_int_b22 : LC := .reg false cmp_Or_int_r21
abbrev cmp_Or_int_b23 : LC := .seq cmp_Or_int_b20 cmp_Or_int_b22
abbrev cmp_Or_int_b24 : LC := .seq cmp_Or_int_b9 cmp_Or_int_b23
abbrev cmp_Or_int_b25 : LC := .seq cmp_Or_int_b8 cmp_Or_int_b24
abbrev cmp_Or_int_b26 : LC := .loop cmp_Or_int_b25
abbrev cmp_Or_int_b27 : LC := .block 0 cmp_Or_int_b26
abbrev cmp_Or_int_b28 : LC := .seq cmp_Or_int_b6 cmp_Or_int_b27
abbrev cmp_Or_int_r29 : List LO := [⟨some 17, Op.move (Operand.tmp 3), 3, none⟩,
  ⟨some 2, Op.assign (Operand.tmp 17), 3, none⟩]
abbrev cmp_Or_int_b30 : LC := .reg false cmp_Or_int_r29
abbrev cmp_Or_int_b31 : LC := .seq cmp_Or_int_b30 .ret
abbrev cmp_Or_int_b32 : LC := .seq cmp_Or_int_b28 cmp_Or_int_b31
abbrev cmp_Or_int_b33 : LC := .seq cmp_Or_int_b4 cmp_Or_int_b32
abbrev cmp_Or_int_b34 : LC := .seq cmp_Or_int_b2 cmp_Or_int_b33
theorem cmp_Or_int_k : FnOk E 64 18 [.tmp 2] cmp_Or_int_b34 := ⟨⟨Go.Proofs.Tryd.f64, by kernel_rfl, by kernel_rfl, by kernel_rfl, by kernel_rfl, by kernel_rfl⟩, rfl⟩
noncomputable def cmp_Or_int_l1 (a0 : (List Int)) : Int → Option (Step (Int) ((Int) ⊕ (Unit))) := fun x2 => (if (decide (x2 < (List.length a0 : Int))) = true then Option.bind (ixl a0 x2) (fun x6 => (if (x6 != 0) = true then some (Step.done (Sum.inl x6)) else some (Step.next (w64 (x2 + 1))))) else some (Step.done (Sum.inr ())))
noncomputable def cmp_Or_int (a0 : (List Int)) : Option (Int) := Option.bind (loopC (cmp_Or_int_l1 a0) 0) (fun y => match y with | Sum.inl x5 => some x5 | Sum.inr _ => some 0)
theorem cmp_Or_int_ok (a0 : (List Int)) : Ct E 64 [.fsl 1 (List.map cI a0)] (cmp_Or_int a0) (fun r : Int => iv r) := ct_intro (N := 18) (L := cmp_Or_int_b34) cmp_Or_int_k rfl (Nat.le_of_ble_eq_true rfl) (by kernel_rfl) (by
  unfold cmp_Or_int
  refine jc_seq ?_
  refine jc_reg ?_
  refine jr_seg 0 1 [0] [] (st1 := ⟨[(0, .av (.fsl 1 (List.map cI a0)))], [], 0⟩) (by kernel_rfl) ?_
  refine jr_nil rfl ?_
  refine jx_seqN ?_
  refine jc_seq ?_
  refine jc_reg ?_
  refine jr_seg 0 1 [0, 3] [] (st1 := ⟨[(0, .av (.fsl 1 (List.map cI a0))), (3, .av (iv 0))], [], 0⟩) (by kernel_rfl) ?_
  refine jr_nil rfl ?_
  refine jx_seqN ?_
  refine jc_seq ?_
  refine jc_seq ?_
  refine jc_reg ?_
  refine jr_seg 0 3 [3, 6, 7, 8] [] (st1 := ⟨[(3, .av (iv 0)), (6, .av (.fsl 1 (List.map cI a0))), (7, .av (iv (List.length (List.map cI a0) : Int))), (8, .av (iv 0))], [], 0⟩) (by kernel_rfl) ?_
  simp only [List.length_map]
  refine jr_nil rfl ?_
  refine jx_seqN ?_
  refine jc_block ?_
  refine jc_bind (fun y => match y with | Sum.inl x5 => ⟨[(2, .av (iv x5))], [], 0⟩ | Sum.inr _ => ⟨[(3, .av (iv 0))], [], 0⟩) (fun y => match y with | Sum.inl x5 => .ret | Sum.inr _ => (.exit 0)) (jc_loop (fun x2 => ⟨[(3, .av (iv 0)), (6, .av (.fsl 1 (List.map cI a0))), (7, .av (iv (List.length a0 : Int))), (8, .av (iv x2))], [], 0⟩) (wk_ren [] (fix_nil _) rfl (by kernel_rfl) allp_nil) ?_) ?_
  · intro x2
    unfold cmp_Or_int_l1
    refine jc_seq ?_
    refine jc_reg ?_
    refine jr_seg 0 1 [3, 6, 7, 8, 9] [] (st1 := ⟨[(3, .av (iv 0)), (6, .av (.fsl 1 (List.map cI a0))), (7, .av (iv (List.length a0 : Int))), (8, .av (iv x2)), (9, .av (bv (decide (x2 < (List.length a0 : Int)))))], [], 0⟩) (by kernel_rfl) ?_
    refine jr_nil rfl ?_
    refine jx_seqN ?_
    refine jc_seq ?_
    refine jc_cond (g := 9) (c := (decide (x2 < (List.length a0 : Int)))) (by kernel_rfl) ?_ ?_
    · intro _
      refine jc_skip ?_
      refine jx_seqN ?_
      refine jc_seq ?_
      refine jc_block ?_
      refine jc_seq ?_
      refine jc_reg ?_
      refine jr_part (i := 0) (mo := ixl a0 x2) rfl rfl rfl rfl (fun _ hc => aop_ixf (c := cI) (sz := 1) (e := 3) (kk := .i64) (by kernel_rfl) (by kernel_rfl) (by kernel_rfl) (by kernel_rfl) hc) (fun _ => rfl) ?_
      intro x6 h6
      refine jr_seg 1 2 [3, 5, 6, 7, 8] [] (st1 := ⟨[(3, .av (iv 0)), (5, .av (iv x6)), (6, .av (.fsl 1 (List.map cI a0))), (7, .av (iv (List.length a0 : Int))), (8, .av (iv x2))], [], 0⟩) (by kernel_rfl) ?_
      refine jr_nil rfl ?_
      refine jx_seqN ?_
      refine jc_seq ?_
      refine jc_reg ?_
      refine jr_seg 0 3 [3, 5, 6, 7, 8, 14] [] (st1 := ⟨[(3, .av (iv 0)), (5, .av (iv x6)), (6, .av (.fsl 1 (List.map cI a0))), (7, .av (iv (List.length a0 : Int))), (8, .av (iv x2)), (14, .av (bv (x6 != 0)))], [], 0⟩) (by kernel_rfl) ?_
      refine jr_nil rfl ?_
      refine jx_seqN ?_
      refine jc_cond (g := 14) (c := (x6 != 0)) (by kernel_rfl) ?_ ?_
      · intro _
        refine jc_seq ?_
        refine jc_reg ?_
        refine jr_seg 0 2 [2] [] (st1 := ⟨[(2, .av (iv x6))], [], 0⟩) (by kernel_rfl) ?_
        refine jr_nil rfl ?_
        refine jx_seqN ?_
        refine jc_ret ?_
        refine jx_blkR ?_
        refine jx_seqR ?_
        exact jx_done rfl nofun (wk_ren [] (fix_nil _) rfl (by kernel_rfl) allp_nil)
      · intro _
        refine jc_skip ?_
        refine jx_blkN ?_
        refine jx_seqN ?_
        refine jc_reg ?_
        refine jr_seg 0 2 [3, 6, 7, 8] [] (st1 := ⟨[(3, .av (iv 0)), (6, .av (.fsl 1 (List.map cI a0))), (7, .av (iv (List.length a0 : Int))), (8, .av (iv (w64 (x2 + 1))))], [], 0⟩) (by kernel_rfl) ?_
        refine jr_nil rfl ?_
        exact jx_next (wk_ren [] (fix_nil _) rfl (by kernel_rfl) allp_nil)
    · intro _
      refine jc_exit ?_
      refine jx_seqE ?_
      exact jx_done rfl nofun (wk_ren [] (fix_nil _) rfl (by kernel_rfl) allp_nil)
  · rintro (x5 | _)
    · refine jx_blkR ?_
      refine jx_seqR ?_
      exact jx_retF (.inr rfl) (v := iv x5) (by kernel_rfl) rfl (fle_refl _)
    · refine jx_blkE ?_
      refine jx_seqN ?_
      refine jc_seq ?_
      refine jc_reg ?_
      refine jr_seg 0 2 [2] [] (st1 := ⟨[(2, .av (iv 0))], [], 0⟩) (by kernel_rfl) ?_
      refine jr_nil rfl ?_
      refine jx_seqN ?_
      refine jc_ret ?_
      exact jx_retF (.inr rfl) (v := iv 0) (by kernel_rfl) rfl (fle_refl _))
end Go.Vm

set_option maxRecDepth 100000
set_option maxHeartbeats 0
set_option linter.unusedVariables false
set_option linter.unusedSimpArgs false
namespace Go.Vm
open Go
/-! ### cmp.isNaN[int] -/
abbrev cmp_isNaN_int_r1 : List LO := [⟨some 2, Op.assign (Operand.const (Value.bool false)), 4, none⟩]
abbrev cmp_isNaN_int_b2 : LC := .reg false cmp_isNaN_int_r1
abbrev cmp_isNaN_int_r3 : List LO := [⟨some 3, Op.move (Operand.tmp 0), 3, none⟩,
  ⟨some 4, Op.move (Operand.tmp 0), 3, none⟩,
  ⟨some 5, Op.binOp BinOp.neq 3 (Operand.tmp 3) (Operand.tmp 4) 3, 4, none⟩,
  ⟨some 2, Op.assign (Operand.tmp 5), 4, none⟩]
abbrev cmp_isNaN_int_b4 : LC := .reg false cmp_isNaN_int_r3
abbrev cmp_isNaN_int_b5 : LC := .seq cmp_isNaN_int_b4 .ret
abbrev cmp_isNaN_int_b6 : LC := .seq cmp_isNaN_int_b2 cmp_isNaN_int_b5
theorem cmp_isNaN_int_k : FnOk E 108 6 [.tmp 2] cmp_isNaN_int_b6 := ⟨⟨Go.Proofs.Tryd.f108, by kernel_rfl, by kernel_rfl, by kernel_rfl, by kernel_rfl, by kernel_rfl⟩, rfl⟩
noncomputable def cmp_isNaN_int (a0 : Int) : Option (Bool) := some (a0 != a0)
theorem cmp_isNaN_int_ok (a0 : Int) : Ct E 108 [iv a0] (cmp_isNaN_int a0) (fun r : Bool => bv r) := ct_intro (N := 6) (L := cmp_isNaN_int_b6) cmp_isNaN_int_k rfl (Nat.le_of_ble_eq_true rfl) (by kernel_rfl) (by
  unfold cmp_isNaN_int
  refine jc_seq ?_
  refine jc_reg ?_
  refine jr_seg 0 1 [0] [] (st1 := ⟨[(0, .av (iv a0))], [], 0⟩) (by kernel_rfl) ?_
  refine jr_nil rfl ?_
  refine jx_seqN ?_
  refine jc_seq ?_
  refine jc_reg ?_
  refine jr_seg 0 4 [2] [] (st1 := ⟨[(2, .av (bv (a0 != a0)))], [], 0⟩) (by kernel_rfl) ?_
  refine jr_nil rfl ?_
  refine jx_seqN ?_
  refine jc_ret ?_
  exact jx_retF (.inr rfl) (v := bv (a0 != a0)) (by kernel_rfl) rfl (fle_refl _))
end Go.Vm

set_option maxRecDepth 100000
set_option maxHeartbeats 0
set_option linter.unusedVariables false
set_option linter.unusedSimpArgs false
namespace Go.Vm
open Go
/-! ### cmp.Compare[int] -/
abbrev cmp_Compare_int_r1 : List LO := [⟨some 4, Op.assign (Operand.const (Value.int IntKind.i64 0)), 3, none⟩]
abbrev cmp_Compare_int_b2 : LC := .reg false cmp_Compare_int_r1
abbrev cmp_Compare_int_r3 : List LO := [⟨some 7, Op.move (Operand.tmp 0), 3, none⟩,
  ⟨some 8, Op.call { callee := Callee.value (Operand.func 108), args := #[Operand.tmp 7], argTypes := #[3] }, 4, none⟩,
  ⟨some 5, Op.assign (Operand.tmp 8), 4, none⟩]
abbrev cmp_Compare_int_b4 : LC := .reg false cmp_Compare_int_r3
abbrev cmp_Compare_int_r5 : List LO := [⟨some 9, Op.move (Operand.tmp 1), 3, none⟩,
  ⟨some 10, Op.call { callee := Callee.value (Operand.func 108), args := #[Operand.tmp 9], argTypes := #[3] }, 4, none⟩,
  ⟨some 6, Op.assign (Operand.tmp 10), 4, none⟩]
abbrev cmp_Compare_int_b6 : LC := .reg false cmp_Compare_int_r5
abbrev cmp_Compare_int_r7 : List LO := [⟨some 11, Op.move (Operand.tmp 5), 4, none⟩]
abbrev cmp_Compare_int_b8 : LC := .reg false cmp_Compare_int_r7
abbrev cmp_Compare_int_r9 : List LO := [⟨some 12, Op.move (Operand.tmp 6), 4, none⟩]
abbrev cmp_Compare_int_b10 : LC := .reg false cmp_Compare_int_r9
abbrev cmp_Compare_int_r11 : List LO := [⟨some 4, Op.assign (Operand.const (Value.int IntKind.i64 0)), 3, none⟩]
abbrev cmp_Compare_int_b12 : LC := .reg false cmp_Compare_int_r11
abbrev cmp_Compare_int_b13 : LC := .seq cmp_Compare_int_b12 .ret
abbrev cmp_Compare_int_b14 : LC := .cond (Operand.tmp 12) cmp_Compare_int_b13 .skip
abbrev cmp_Compare_int_b15 : LC := .seq cmp_Compare_int_b10 cmp_Compare_int_b14
abbrev cmp_Compare_int_r16 : List LO := [⟨some 4, Op.assign (Operand.const (Value.int IntKind.i64 (-1))), 3, none⟩]
abbrev cmp_Compare_int_b17 : LC := .reg false cmp_Compare_int_r16
abbrev cmp_Compare_int_b18 : LC := .seq cmp_Compare_int_b17 .ret
abbrev cmp_Compare_int_b19 : LC := .seq cmp_Compare_int_b15 cmp_Compare_int_b18
abbrev cmp_Compare_int_b20 : LC := .cond (Operand.tmp 11) cmp_Compare_int_b19 .skip
abbrev cmp_Compare_int_b21 : LC := .seq cmp_Compare_int_b8 cmp_Compare_int_b20
abbrev cmp_Compare_int_r22 : List LO := [⟨some 13, Op.move (Operand.tmp 6), 4, none⟩]
abbrev cmp_Compare_int_b23 : LC := .reg false cmp_Compare_int_r22
abbrev cmp_Compare_int_r24 : List LO := [⟨some 4, Op.assign (Operand.const (Value.int IntKind.i64 1)), 3, none⟩]
abbrev cmp_Compare_int_b25 : LC := .reg false cmp_Compare_int_r24
abbrev cmp_Compare_int_b26 : LC := .seq cmp_Compare_int_b25 .ret
abbrev cmp_Compare_int_b27 : LC := .cond (Operand.tmp 13) cmp_Compare_int_b26 .skip
abbrev cmp_Compare_int_b28 : LC := .seq cmp_Compare_int_b23 cmp_Compare_int_b27
abbrev cmp_Compare_int_r29 : List LO := [⟨some 14, Op.move (Operand.tmp 0), 3, none⟩,
  ⟨some 15, Op.move (Operand.tmp 1), 3, none⟩,
  ⟨some 16, Op.binOp BinOp.lss 3 (Operand.tmp 14) (Operand.tmp 15) 3, 4, none⟩]
abbrev cmp_Compare_int_b30 : LC := .reg false cmp_Compare_int_r29
abbrev cmp_Compare_int_r31 : List LO := [⟨some 4, Op.assign (Operand.const (Value.int IntKind.i64 (-1))), 3, none⟩]
abbrev cmp_Compare_int_b32 : LC := .reg false cmp_Compare_int_r31
abbrev cmp_Compare_int_b33 : LC := .seq cmp_Compare_int_b32 .ret
abbrev cmp_Compare_int_b34 : LC := .cond (Operand.tmp 16) cmp_Compare_int_b33 .skip
abbrev cmp_Compare_int_b35 : LC := .seq cmp_Compare_int_b30 cmp_Compare_int_b34
abbrev cmp_Compare_int_r36 : List LO := [⟨some 17, Op.move (Operand.tmp 0), 3, none⟩,
  ⟨some 18, Op.move (Operand.tmp 1), 3, none⟩,
  ⟨some 19, Op.binOp BinOp.gtr 3 (Operand.tmp 17) (Operand.tmp 18) 3, 4, none⟩]
abbrev cmp_Compare_int_b37 : LC := .reg false cmp_Compare_int_r36
abbrev cmp_Compare_int_r38 : List LO := [⟨some 4, Op.assign (Operand.const (Value.int IntKind.i64 1)), 3, none⟩]
abbrev cmp_Compare_int_b39 : LC := .reg false cmp_Compare_int_r38
abbrev cmp_Compare_int_b40 : LC := .seq cmp_Compare_int_b39 .ret
abbrev cmp_Compare_int_b41 : LC := .cond (Operand.tmp 19) cmp_Compare_int_b40 .skip
abbrev cmp_Compare_int_b42 : LC := .seq cmp_Compare_int_b37 cmp_Compare_int_b41
abbrev cmp_Compare_int_r43 : List LO := [⟨some 4, Op.assign (Operand.const (Value.int IntKind.i64 0)), 3, none⟩]
abbrev cmp_Compare_int_b44 : LC := .reg false cmp_Compare_int_r43
abbrev cmp_Compare_int_b45 : LC := .seq cmp_Compare_int_b44 .ret
abbrev cmp_Compare_int_b46 : LC := .seq cmp_Compare_int_b42 cmp_Compare_int_b45
abbrev cmp_Compare_int_b47 : LC := .seq cmp_Compare_int_b35 cmp_Compare_int_b46
abbrev cmp_Compare_int_b48 : LC := .seq cmp_Compare_int_b28 cmp_Compare_int_b47
abbrev cmp_Compare_int_b49 : LC := .seq cmp_Compare_int_b21 cmp_Compare_int_b48
abbrev cmp_Compare_int_b50 : LC := .seq cmp_Compare_int_b6 cmp_Compare_int_b49
abbrev cmp_Compare_int_b51 : LC := .seq cmp_Compare_int_b4 cmp_Compare_int_b50
abbrev cmp_Compare_int_b52 : LC := .seq cmp_Compare_int_b2 cmp_Compare_int_b51
theorem cmp_Compare_int_k : FnOk E 65 20 [.tmp 4] cmp_Compare_int_b52 := ⟨⟨Go.Proofs.Tryd.f65, by kernel_rfl, by kernel_rfl, by kernel_rfl, by kernel_rfl, by kernel_rfl⟩, rfl⟩
noncomputable def cmp_Compare_int (a0 : Int) (a1 : Int) : Option (Int) := Option.bind (cmp_isNaN_int a0) (fun x1 => Option.bind (cmp_isNaN_int a1) (fun x2 => (if x1 = true then (if x2 = true then some 0 else some (-1)) else (if x2 = true then some 1 else (if (decide (a0 < a1)) = true then some (-1) else (if (decide (a0 > a1)) = true then some 1 else some 0))))))
theorem cmp_Compare_int_ok (a0 : Int) (a1 : Int) : Ct E 65 [iv a0, iv a1] (cmp_Compare_int a0 a1) (fun r : Int => iv r) := ct_intro (N := 20) (L := cmp_Compare_int_b52) cmp_Compare_int_k rfl (Nat.le_of_ble_eq_true rfl) (by kernel_rfl) (by
  unfold cmp_Compare_int
  refine jc_seq ?_
  refine jc_reg ?_
  refine jr_seg 0 1 [0, 1] [] (st1 := ⟨[(0, .av (iv a0)), (1, .av (iv a1))], [], 0⟩) (by kernel_rfl) ?_
  refine jr_nil rfl ?_
  refine jx_seqN ?_
  refine jc_seq ?_
  refine jc_reg ?_
  refine jr_seg 0 1 [0, 1, 7] [] (st1 := ⟨[(0, .av (iv a0)), (1, .av (iv a1)), (7, .av (iv a0))], [], 0⟩) (by kernel_rfl) ?_
  refine jr_callF (i := 1) rfl rfl rfl rfl (vs := [iv a0]) (by kernel_rfl) (snapL_cons rfl (snapL_nil _)) (all2_cons (fle_refl _) all2_nil) (cmp_isNaN_int_ok a0) (fun _ => rfl) (fun _ => rfl) ?_
  intro x1 h1
  refine jr_seg 2 1 [0, 1, 5] [] (st1 := ⟨[(0, .av (iv a0)), (1, .av (iv a1)), (5, .av (bv x1))], [], 0⟩) (by kernel_rfl) ?_
  refine jr_nil rfl ?_
  refine jx_seqN ?_
  refine jc_seq ?_
  refine jc_reg ?_
  refine jr_seg 0 1 [0, 1, 5, 9] [] (st1 := ⟨[(0, .av (iv a0)), (1, .av (iv a1)), (5, .av (bv x1)), (9, .av (iv a1))], [], 0⟩) (by kernel_rfl) ?_
  refine jr_callF (i := 1) rfl rfl rfl rfl (vs := [iv a1]) (by kernel_rfl) (snapL_cons rfl (snapL_nil _)) (all2_cons (fle_refl _) all2_nil) (cmp_isNaN_int_ok a1) (fun _ => rfl) (fun _ => rfl) ?_
  intro x2 h2
  refine jr_seg 2 1 [0, 1, 5, 6] [] (st1 := ⟨[(0, .av (iv a0)), (1, .av (iv a1)), (5, .av (bv x1)), (6, .av (bv x2))], [], 0⟩) (by kernel_rfl) ?_
  refine jr_nil rfl ?_
  refine jx_seqN ?_
  refine jc_seq ?_
  refine jc_seq ?_
  refine jc_reg ?_
  refine jr_seg 0 1 [0, 1, 6, 11] [] (st1 := ⟨[(0, .av (iv a0)), (1, .av (iv a1)), (6, .av (bv x2)), (11, .av (bv x1))], [], 0⟩) (by kernel_rfl) ?_
  refine jr_nil rfl ?_
  refine jx_seqN ?_
  refine jc_cond (g := 11) (c := x1) (by kernel_rfl) ?_ ?_
  · intro _
    refine jc_seq ?_
    refine jc_seq ?_
    refine jc_reg ?_
    refine jr_seg 0 1 [12] [] (st1 := ⟨[(12, .av (bv x2))], [], 0⟩) (by kernel_rfl) ?_
    refine jr_nil rfl ?_
    refine jx_seqN ?_
    refine jc_cond (g := 12) (c := x2) (by kernel_rfl) ?_ ?_
    · intro _
      refine jc_seq ?_
      refine jc_reg ?_
      refine jr_seg 0 1 [4] [] (st1 := ⟨[(4, .av (iv 0))], [], 0⟩) (by kernel_rfl) ?_
      refine jr_nil rfl ?_
      refine jx_seqN ?_
      refine jc_ret ?_
      refine jx_seqR ?_
      refine jx_seqR ?_
      exact jx_retF (.inr rfl) (v := iv 0) (by kernel_rfl) rfl (fle_refl _)
    · intro _
      refine jc_skip ?_
      refine jx_seqN ?_
      refine jc_seq ?_
      refine jc_reg ?_
      refine jr_seg 0 1 [4] [] (st1 := ⟨[(4, .av (iv (-1)))], [], 0⟩) (by kernel_rfl) ?_
      refine jr_nil rfl ?_
      refine jx_seqN ?_
      refine jc_ret ?_
      refine jx_seqR ?_
      exact jx_retF (.inr rfl) (v := iv (-1)) (by kernel_rfl) rfl (fle_refl _)
  · intro _
    refine jc_skip ?_
    refine jx_seqN ?_
    refine jc_seq ?_
    refine jc_seq ?_
    refine jc_reg ?_
    refine jr_seg 0 1 [0, 1, 13] [] (st1 := ⟨[(0, .av (iv a0)), (1, .av (iv a1)), (13, .av (bv x2))], [], 0⟩) (by kernel_rfl) ?_
    refine jr_nil rfl ?_
    refine jx_seqN ?_
    refine jc_cond (g := 13) (c := x2) (by kernel_rfl) ?_ ?_
    · intro _
      refine jc_seq ?_
      refine jc_reg ?_
      refine jr_seg 0 1 [4] [] (st1 := ⟨[(4, .av (iv 1))], [], 0⟩) (by kernel_rfl) ?_
      refine jr_nil rfl ?_
      refine jx_seqN ?_
      refine jc_ret ?_
      refine jx_seqR ?_
      exact jx_retF (.inr rfl) (v := iv 1) (by kernel_rfl) rfl (fle_refl _)
    · intro _
      refine jc_skip ?_
      refine jx_seqN ?_
      refine jc_seq ?_
      refine jc_seq ?_
      refine jc_reg ?_
      refine jr_seg 0 3 [0, 1, 16] [] (st1 := ⟨[(0, .av (iv a0)), (1, .av (iv a1)), (16, .av (bv (decide (a0 < a1))))], [], 0⟩) (by kernel_rfl) ?_
      refine jr_nil rfl ?_
      refine jx_seqN ?_
      refine jc_cond (g := 16) (c := (decide (a0 < a1))) (by kernel_rfl) ?_ ?_
      · intro _
        refine jc_seq ?_
        refine jc_reg ?_
        refine jr_seg 0 1 [4] [] (st1 := ⟨[(4, .av (iv (-1)))], [], 0⟩) (by kernel_rfl) ?_
        refine jr_nil rfl ?_
        refine jx_seqN ?_
        refine jc_ret ?_
        refine jx_seqR ?_
        exact jx_retF (.inr rfl) (v := iv (-1)) (by kernel_rfl) rfl (fle_refl _)
      · intro _
        refine jc_skip ?_
        refine jx_seqN ?_
        refine jc_seq ?_
        refine jc_seq ?_
        refine jc_reg ?_
        refine jr_seg 0 3 [19] [] (st1 := ⟨[(19, .av (bv (decide (a0 > a1))))], [], 0⟩) (by kernel_rfl) ?_
        refine jr_nil rfl ?_
        refine jx_seqN ?_
        refine jc_cond (g := 19) (c := (decide (a0 > a1))) (by kernel_rfl) ?_ ?_
        · intro _
          refine jc_seq ?_
          refine jc_reg ?_
          refine jr_seg 0 1 [4] [] (st1 := ⟨[(4, .av (iv 1))], [], 0⟩) (by kernel_rfl) ?_
          refine jr_nil rfl ?_
          refine jx_seqN ?_
          refine jc_ret ?_
          refine jx_seqR ?_
          exact jx_retF (.inr rfl) (v := iv 1) (by kernel_rfl) rfl (fle_refl _)
        · intro _
          refine jc_skip ?_
          refine jx_seqN ?_
          refine jc_seq ?_
          refine jc_reg ?_
          refine jr_seg 0 1 [4] [] (st1 := ⟨[(4, .av (iv 0))], [], 0⟩) (by kernel_rfl) ?_
          refine jr_nil rfl ?_
          refine jx_seqN ?_
          refine jc_ret ?_
          exact jx_retF (.inr rfl) (v := iv 0) (by kernel_rfl) rfl (fle_refl _))
end Go.Vm

set_option maxRecDepth 100000
set_option maxHeartbeats 0
set_option linter.unusedVariables false
set_option linter.unusedSimpArgs false
namespace Go.Vm
open Go
/-! ### strings.Compare -/
abbrev strings_Compare_r1 : List LO := [⟨some 4, Op.assign (Operand.const (Value.int IntKind.i64 0)), 3, none⟩]
abbrev strings_Compare_b2 : LC := .reg false strings_Compare_r1
abbrev strings_Compare_r3 : List LO := [⟨some 5, Op.move (Operand.tmp 0), 9, none⟩,
  ⟨some 6, Op.move (Operand.tmp 1), 9, none⟩,
  ⟨some 7, Op.call { callee := Callee.value (Operand.func 109), args := #[Operand.tmp 5, Operand.tmp 6], argTypes := #[9, 9] }, 3, none⟩,
  ⟨some 4, Op.assign (Operand.tmp 7), 3, none⟩]
abbrev strings_Compare_b4 : LC := .reg false strings_Compare_r3
abbrev strings_Compare_b5 : LC := .seq strings_Compare_b4 .ret
abbrev strings_Compare_b6 : LC := .seq strings_Compare_b2 strings_Compare_b5
theorem strings_Compare_k : FnOk E 66 8 [.tmp 4] strings_Compare_b6 := ⟨⟨Go.Proofs.Tryd.f66, by kernel_rfl, by kernel_rfl, by kernel_rfl, by kernel_rfl, by kernel_rfl⟩, rfl⟩
noncomputable def strings_Compare (a0 : Str) (a1 : Str) : Option (Int) := Option.bind (bytealg_CompareString a0 a1) (fun x1 => some x1)
theorem strings_Compare_ok (a0 : Str) (a1 : Str) : Ct E 66 [bs a0, bs a1] (strings_Compare a0 a1) (fun r : Int => iv r) := ct_intro (N := 8) (L := strings_Compare_b6) strings_Compare_k rfl (Nat.le_of_ble_eq_true rfl) (by kernel_rfl) (by
  unfold strings_Compare
  refine jc_seq ?_
  refine jc_reg ?_
  refine jr_seg 0 1 [0, 1] [] (st1 := ⟨[(0, .av (bs a0)), (1, .av (bs a1))], [], 0⟩) (by kernel_rfl) ?_
  refine jr_nil rfl ?_
  refine jx_seqN ?_
  refine jc_seq ?_
  refine jc_reg ?_
  refine jr_seg 0 2 [5, 6] [] (st1 := ⟨[(5, .av (bs a0)), (6, .av (bs a1))], [], 0⟩) (by kernel_rfl) ?_
  refine jr_callPF (i := 2) rfl rfl (vs := [bs a0, bs a1]) (by kernel_rfl) rfl (bytealg_CompareString_ok a0 a1) (fun _ => rfl) ?_
  intro x1 h1
  refine jr_seg 3 1 [4] [] (st1 := ⟨[(4, .av (iv x1))], [], 0⟩) (by kernel_rfl) ?_
  refine jr_nil rfl ?_
  refine jx_seqN ?_
  refine jc_ret ?_
  exact jx_retF (.inr rfl) (v := iv x1) (by kernel_rfl) rfl (fle_refl _))
end Go.Vm

set_option maxRecDepth 100000
set_option maxHeartbeats 0
set_option linter.unusedVariables false
set_option linter.unusedSimpArgs false
namespace Go.Vm
open Go
/-! ### dovetail/scan.Cmp -/
abbrev scan_Cmp_r1 : List LO := [⟨some 4, Op.assign (Operand.const (Value.int IntKind.i64 0)), 3, none⟩]
abbrev scan_Cmp_b2 : LC := .reg false scan_Cmp_r1
abbrev scan_Cmp_r3 : List LO := [⟨some 5, Op.move (Operand.tmp 0), 9, none⟩,
  ⟨some 6, Op.call { callee := Callee.value (Operand.func 15), args := #[Operand.tmp 5], argTypes := #[9] }, 9, none⟩,
  ⟨some 7, Op.move (Operand.tmp 1), 9, none⟩,
  ⟨some 8, Op.call { callee := Callee.value (Operand.func 15), args := #[Operand.tmp 7], argTypes := #[9] }, 9, none⟩,
  ⟨some 0, Op.assign (Operand.tmp 6), 9, none⟩,
  ⟨some 1, Op.assign (Operand.tmp 8), 9, none⟩]
abbrev scan_Cmp_b4 : LC := .reg false scan_Cmp_r3
abbrev scan_Cmp_r5 : List LO := [⟨some 9, Op.move (Operand.tmp 0), 9, none⟩,
  ⟨some 10, Op.call { callee := Callee.builtin Builtin.len, args := #[Operand.tmp 9], argTypes := #[9] }, 3, none⟩,
  ⟨some 11, Op.move (Operand.tmp 1), 9, none⟩,
  ⟨some 12, Op.call { callee := Callee.builtin Builtin.len, args := #[Operand.tmp 11], argTypes := #[9] }, 3, none⟩,
  ⟨some 13, Op.call { callee := Callee.value (Operand.func 65), args := #[Operand.tmp 10, Operand.tmp 12], argTypes := #[3, 3] }, 3, none⟩,
  ⟨some 14, Op.move (Operand.tmp 0), 9, none⟩,
  ⟨some 15, Op.move (Operand.tmp 1), 9, none⟩,
  ⟨some 16, Op.call { callee := Callee.value (Operand.func 66), args := #[Operand.tmp 14, Operand.tmp 15], argTypes := #[9, 9] }, 3, none⟩,
  ⟨some 17, Op.buildSlice 129 2 #[(0, Operand.tmp 13), (1, Operand.tmp 16)], 129, none⟩,
  ⟨some 18, Op.call { callee := Callee.value (Operand.func 64), args := #[Operand.tmp 17], argTypes := #[129] }, 3, none⟩,
  ⟨some 4, Op.assign (Operand.tmp 18), 3, none⟩]
abbrev scan_Cmp_b6 : LC := .reg false scan_Cmp_r5
abbrev scan_Cmp_b7 : LC := .seq scan_Cmp_b6 .ret
abbrev scan_Cmp_b8 : LC := .seq scan_Cmp_b4 scan_Cmp_b7
abbrev scan_Cmp_b9 : LC := .seq scan_Cmp_b2 scan_Cmp_b8
theorem scan_Cmp_k : FnOk E 17 19 [.tmp 4] scan_Cmp_b9 := ⟨⟨Go.Proofs.Tryd.f17, by kernel_rfl, by kernel_rfl, by kernel_rfl, by kernel_rfl, by kernel_rfl⟩, rfl⟩
noncomputable def scan_Cmp (a0 : Str) (a1 : Str) : Option (Int) := Option.bind (scan_Trim a0) (fun x1 => Option.bind (scan_Trim a1) (fun x2 => Option.bind (cmp_Compare_int (List.length x1 : Int) (List.length x2 : Int)) (fun x3 => Option.bind (strings_Compare x1 x2) (fun x4 => Option.bind (cmp_Or_int [x3, x4]) (fun x5 => some x5)))))
theorem scan_Cmp_ok (a0 : Str) (a1 : Str) : Ct E 17 [bs a0, bs a1] (scan_Cmp a0 a1) (fun r : Int => iv r) := ct_intro (N := 19) (L := scan_Cmp_b9) scan_Cmp_k rfl (Nat.le_of_ble_eq_true rfl) (by kernel_rfl) (by
  unfold scan_Cmp
  refine jc_seq ?_
  refine jc_reg ?_
  refine jr_seg 0 1 [0, 1] [] (st1 := ⟨[(0, .av (bs a0)), (1, .av (bs a1))], [], 0⟩) (by kernel_rfl) ?_
  refine jr_nil rfl ?_
  refine jx_seqN ?_
  refine jc_seq ?_
  refine jc_reg ?_
  refine jr_seg 0 1 [1, 5] [] (st1 := ⟨[(1, .av (bs a1)), (5, .av (bs a0))], [], 0⟩) (by kernel_rfl) ?_
  refine jr_callF (i := 1) rfl rfl rfl rfl (vs := [bs a0]) (by kernel_rfl) (snapL_cons rfl (snapL_nil _)) (all2_cons (fle_refl _) all2_nil) (scan_Trim_ok a0) (fun _ => rfl) (fun _ => rfl) ?_
  intro x1 h1
  refine jr_seg 2 1 [6, 7] [] (st1 := ⟨[(6, .av (bs x1)), (7, .av (bs a1))], [], 0⟩) (by kernel_rfl) ?_
  refine jr_callF (i := 3) rfl rfl rfl rfl (vs := [bs a1]) (by kernel_rfl) (snapL_cons rfl (snapL_nil _)) (all2_cons (fle_refl _) all2_nil) (scan_Trim_ok a1) (fun _ => rfl) (fun _ => rfl) ?_
  intro x2 h2
  refine jr_seg 4 2 [0, 1] [] (st1 := ⟨[(0, .av (bs x1)), (1, .av (bs x2))], [], 0⟩) (by kernel_rfl) ?_
  refine jr_nil rfl ?_
  refine jx_seqN ?_
  refine jc_seq ?_
  refine jc_reg ?_
  refine jr_seg 0 4 [0, 1, 10, 12] [] (st1 := ⟨[(0, .av (bs x1)), (1, .av (bs x2)), (10, .av (iv (List.length x1 : Int))), (12, .av (iv (List.length x2 : Int)))], [], 0⟩) (by kernel_rfl) ?_
  refine jr_callF (i := 4) rfl rfl rfl rfl (vs := [iv (List.length x1 : Int), iv (List.length x2 : Int)]) (by kernel_rfl) (snapL_cons rfl (snapL_cons rfl (snapL_nil _))) (all2_cons (fle_refl _) (all2_cons (fle_refl _) all2_nil)) (cmp_Compare_int_ok (List.length x1 : Int) (List.length x2 : Int)) (fun _ => rfl) (fun _ => rfl) ?_
  intro x3 h3
  refine jr_seg 5 2 [13, 14, 15] [] (st1 := ⟨[(13, .av (iv x3)), (14, .av (bs x1)), (15, .av (bs x2))], [], 0⟩) (by kernel_rfl) ?_
  refine jr_callF (i := 7) rfl rfl rfl rfl (vs := [bs x1, bs x2]) (by kernel_rfl) (snapL_cons rfl (snapL_cons rfl (snapL_nil _))) (all2_cons (fle_refl _) (all2_cons (fle_refl _) all2_nil)) (strings_Compare_ok x1 x2) (fun _ => rfl) (fun _ => rfl) ?_
  intro x4 h4
  refine jr_seg 8 1 [17] [0] (st1 := ⟨[(17, .av (.osl 0 0 (List.length [x3, x4]) 1))], [(0, .rows 1 (List.map cI [x3, x4]))], 1⟩) (by kernel_rfl) ?_
  refine jr_callF (i := 9) rfl rfl rfl rfl (vs := [.osl 0 0 (List.length [x3, x4]) 1]) (by kernel_rfl) (snapL_cons (snapc_own fz_I (by kernel_rfl)) (snapL_nil _)) (all2_cons (fle_refl _) all2_nil) (cmp_Or_int_ok [x3, x4]) (fun _ => rfl) (fun _ => rfl) ?_
  intro x5 h5
  refine jr_seg 10 1 [4] [] (st1 := ⟨[(4, .av (iv x5))], [], 1⟩) (by kernel_rfl) ?_
  refine jr_nil rfl ?_
  refine jx_seqN ?_
  refine jc_ret ?_
  exact jx_retF (.inr rfl) (v := iv x5) (by kernel_rfl) rfl (fle_refl _))
end Go.Vm

set_option maxRecDepth 100000
set_option maxHeartbeats 0
set_option linter.unusedVariables false
set_option linter.unusedSimpArgs false
namespace Go.Vm
open Go
/-! ### dovetail/dovetailref01.Texts -/
abbrev ref01_Texts_r1 : List LO := [⟨some 4, Op.assign (Operand.const (Value.int IntKind.i64 0)), 3, none⟩]
abbrev ref01_Texts_b2 : LC := .reg false ref01_Texts_r1
abbrev ref01_Texts_r3 : List LO := [⟨some 6, Op.move (Operand.tmp 0), 9, none⟩,
  ⟨some 7, Op.move (Operand.tmp 1), 9, none⟩,
  ⟨some 8, Op.binOp BinOp.lss 9 (Operand.tmp 6) (Operand.tmp 7) 9, 4, none⟩,
  ⟨some 5, Op.assign (Operand.tmp 8), 4, none⟩]
abbrev ref01_Texts_b4 : LC := .reg false ref01_Texts_r3
abbrev ref01_Texts_r5 : List LO := [⟨some 4, Op.assign (Operand.const (Value.int IntKind.i64 (-1))), 3, none⟩]
abbrev ref01_Texts_b6 : LC := .reg false ref01_Texts_r5
abbrev ref01_Texts_b7 : LC := .seq ref01_Texts_b6 .ret
abbrev ref01_Texts_r8 : List LO := [⟨some 10, Op.move (Operand.tmp 0), 9, none⟩,
  ⟨some 11, Op.move (Operand.tmp 1), 9, none⟩,
  ⟨some 12, Op.binOp BinOp.gtr 9 (Operand.tmp 10) (Operand.tmp 11) 9, 4, none⟩,
  ⟨some 9, Op.assign (Operand.tmp 12), 4, none⟩]
abbrev ref01_Texts_b9 : LC := .reg false ref01_Texts_r8
abbrev ref01_Texts_r10 : List LO := [⟨some 4, Op.assign (Operand.const (Value.int IntKind.i64 1)), 3, none⟩]
abbrev ref01_Texts_b11 : LC := .reg false ref01_Texts_r10
abbrev ref01_Texts_b12 : LC := .seq ref01_Texts_b11 .ret
abbrev ref01_Texts_b13 : LC := .cond (Operand.tmp 9) ref01_Texts_b12 .skip
abbrev ref01_Texts_b14 : LC := .seq ref01_Texts_b9 ref01_Texts_b13
abbrev ref01_Texts_b15 : LC := .cond (Operand.tmp 5) ref01_Texts_b7 ref01_Texts_b14
abbrev ref01_Texts_b16 : LC := .seq ref01_Texts_b4 ref01_Texts_b15
abbrev ref01_Texts_b17 : LC := .block 0 ref01_Texts_b16
abbrev ref01_Texts_r18 : List LO := [⟨some 4, Op.assign (Operand.const (Value.int IntKind.i64 0)), 3, none⟩]
abbrev ref01_Texts_b19 : LC := .reg false ref01_Texts_r18
abbrev ref01_Texts_b20 : LC := .seq ref01_Texts_b19 .ret
abbrev ref01_Texts_b21 : LC := .seq ref01_Texts_b17 ref01_Texts_b20
abbrev ref01_Texts_b22 : LC := .seq ref01_Texts_b2 ref01_Texts_b21
theorem ref01_Texts_k : FnOk E 67 13 [.tmp 4] ref01_Texts_b22 := ⟨⟨Go.Proofs.Tryd.f67, by kernel_rfl, by kernel_rfl, by kernel_rfl, by kernel_rfl, by kernel_rfl⟩, rfl⟩
noncomputable def ref01_Texts (a0 : Str) (a1 : Str) : Option (Int) := (if (Op.bytesLess a0 a1) = true then some (-1) else (if (!(Op.bytesLess a0 a1 || a0 == a1)) = true then some 1 else some 0))
theorem ref01_Texts_ok (a0 : Str) (a1 : Str) : Ct E 67 [bs a0, bs a1] (ref01_Texts a0 a1) (fun r : Int => iv r) := ct_intro (N := 13) (L := ref01_Texts_b22) ref01_Texts_k rfl (Nat.le_of_ble_eq_true rfl) (by kernel_rfl) (by
  unfold ref01_Texts
  refine jc_seq ?_
  refine jc_reg ?_
  refine jr_seg 0 1 [0, 1] [] (st1 := ⟨[(0, .av (bs a0)), (1, .av (bs a1))], [], 0⟩) (by kernel_rfl) ?_
  refine jr_nil rfl ?_
  refine jx_seqN ?_
  refine jc_seq ?_
  refine jc_block ?_
  refine jc_seq ?_
  refine jc_reg ?_
  refine jr_seg 0 4 [0, 1, 5] [] (st1 := ⟨[(0, .av (bs a0)), (1, .av (bs a1)), (5, .av (bv (Op.bytesLess a0 a1)))], [], 0⟩) (by kernel_rfl) ?_
  refine jr_nil rfl ?_
  refine jx_seqN ?_
  refine jc_cond (g := 5) (c := (Op.bytesLess a0 a1)) (by kernel_rfl) ?_ ?_
  · intro _
    refine jc_seq ?_
    refine jc_reg ?_
    refine jr_seg 0 1 [4] [] (st1 := ⟨[(4, .av (iv (-1)))], [], 0⟩) (by kernel_rfl) ?_
    refine jr_nil rfl ?_
    refine jx_seqN ?_
    refine jc_ret ?_
    refine jx_blkR ?_
    refine jx_seqR ?_
    exact jx_retF (.inr rfl) (v := iv (-1)) (by kernel_rfl) rfl (fle_refl _)
  · intro _
    refine jc_seq ?_
    refine jc_reg ?_
    refine jr_seg 0 4 [9] [] (st1 := ⟨[(9, .av (bv (!(Op.bytesLess a0 a1 || a0 == a1))))], [], 0⟩) (by kernel_rfl) ?_
    refine jr_nil rfl ?_
    refine jx_seqN ?_
    refine jc_cond (g := 9) (c := (!(Op.bytesLess a0 a1 || a0 == a1))) (by kernel_rfl) ?_ ?_
    · intro _
      refine jc_seq ?_
      refine jc_reg ?_
      refine jr_seg 0 1 [4] [] (st1 := ⟨[(4, .av (iv 1))], [], 0⟩) (by kernel_rfl) ?_
      refine jr_nil rfl ?_
      refine jx_seqN ?_
      refine jc_ret ?_
      refine jx_blkR ?_
      refine jx_seqR ?_
      exact jx_retF (.inr rfl) (v := iv 1) (by kernel_rfl) rfl (fle_refl _)
    · intro _
      refine jc_skip ?_
      refine jx_blkN ?_
      refine jx_seqN ?_
      refine jc_seq ?_
      refine jc_reg ?_
      refine jr_seg 0 1 [4] [] (st1 := ⟨[(4, .av (iv 0))], [], 0⟩) (by kernel_rfl) ?_
      refine jr_nil rfl ?_
      refine jx_seqN ?_
      refine jc_ret ?_
      exact jx_retF (.inr rfl) (v := iv 0) (by kernel_rfl) rfl (fle_refl _))
end Go.Vm

set_option maxRecDepth 100000
set_option maxHeartbeats 0
set_option linter.unusedVariables false
set_option linter.unusedSimpArgs false
namespace Go.Vm
open Go
/-! ### dovetail/dovetailref01.Cmp -/
abbrev ref01_Cmp_r1 : List LO := [⟨some 4, Op.assign (Operand.const (Value.int IntKind.i64 0)), 3, none⟩]
abbrev ref01_Cmp_b2 : LC := .reg false ref01_Cmp_r1
abbrev ref01_Cmp_r3 : List LO := [⟨some 7, Op.move (Operand.tmp 0), 9, none⟩,
  ⟨some 8, Op.call { callee := Callee.value (Operand.func 16), args := #[Operand.tmp 7], argTypes := #[9] }, 9, none⟩,
  ⟨some 5, Op.assign (Operand.tmp 8), 9, none⟩]
abbrev ref01_Cmp_b4 : LC := .reg false ref01_Cmp_r3
abbrev ref01_Cmp_r5 : List LO := [⟨some 9, Op.move (Operand.tmp 1), 9, none⟩,
  ⟨some 10, Op.call { callee := Callee.value (Operand.func 16), args := #[Operand.tmp 9], argTypes := #[9] }, 9, none⟩,
  ⟨some 6, Op.assign (Operand.tmp 10), 9, none⟩]
abbrev ref01_Cmp_b6 : LC := .reg false ref01_Cmp_r5
abbrev ref01_Cmp_r7 : List LO := [⟨some 12, Op.move (Operand.tmp 5), 9, none⟩,
  ⟨some 13, Op.call { callee := Callee.builtin Builtin.len, args := #[Operand.tmp 12], argTypes := #[9] }, 3, none⟩,
  ⟨some 14, Op.move (Operand.tmp 6), 9, none⟩,
  ⟨some 15, Op.call { callee := Callee.builtin Builtin.len, args := #[Operand.tmp 14], argTypes := #[9] }, 3, none⟩,
  ⟨some 16, Op.binOp BinOp.lss 3 (Operand.tmp 13) (Operand.tmp 15) 3, 4, none⟩,
  ⟨some 11, Op.assign (Operand.tmp 16), 4, none⟩]
abbrev ref01_Cmp_b8 : LC := .reg false ref01_Cmp_r7
abbrev ref01_Cmp_r9 : List LO := [⟨some 4, Op.assign (Operand.const (Value.int IntKind.i64 (-1))), 3, none⟩]
abbrev ref01_Cmp_b10 : LC := .reg false ref01_Cmp_r9
abbrev ref01_Cmp_b11 : LC := .seq ref01_Cmp_b10 .ret
abbrev ref01_Cmp_r12 : List LO := [⟨some 18, Op.move (Operand.tmp 5), 9, none⟩,
  ⟨some 19, Op.call { callee := Callee.builtin Builtin.len, args := #[Operand.tmp 18], argTypes := #[9] }, 3, none⟩,
  ⟨some 20, Op.move (Operand.tmp 6), 9, none⟩,
  ⟨some 21, Op.call { callee := Callee.builtin Builtin.len, args := #[Operand.tmp 20], argTypes := #[9] }, 3, none⟩,
  ⟨some 22, Op.binOp BinOp.gtr 3 (Operand.tmp 19) (Operand.tmp 21) 3, 4, none⟩,
  ⟨some 17, Op.assign (Operand.tmp 22), 4, none⟩]
abbrev ref01_Cmp_b13 : LC := .reg false ref01_Cmp_r12
abbrev ref01_Cmp_r14 : List LO := [⟨some 4, Op.assign (Operand.const (Value.int IntKind.i64 1)), 3, none⟩]
abbrev ref01_Cmp_b15 : LC := .reg false ref01_Cmp_r14
abbrev ref01_Cmp_b16 : LC := .seq ref01_Cmp_b15 .ret
abbrev ref01_Cmp_b17 : LC := .cond (Operand.tmp 17) ref01_Cmp_b16 .skip
abbrev ref01_Cmp_b18 : LC := .seq ref01_Cmp_b13 ref01_Cmp_b17
abbrev ref01_Cmp_b19 : LC := .cond (Operand.tmp 11) ref01_Cmp_b11 ref01_Cmp_b18
abbrev ref01_Cmp_b20 : LC := .seq ref01_Cmp_b8 ref01_Cmp_b19
abbrev ref01_Cmp_b21 : LC := .block 0 ref01_Cmp_b20
abbrev ref01_Cmp_r22 : List LO := [⟨some 23, Op.move (Operand.tmp 5), 9, none⟩,
  ⟨some 24, Op.move (Operand.tmp 6), 9, none⟩,
  ⟨some 25, Op.call { callee := Callee.value (Operand.func 67), args := #[Operand.tmp 23, Operand.tmp 24], argTypes := #[9, 9] }, 3, none⟩,
  ⟨some 4, Op.assign (Operand.tmp 25), 3, none⟩]
abbrev ref01_Cmp_b23 : LC := .reg false ref01_Cmp_r22
abbrev ref01_Cmp_b24 : LC := .seq ref01_Cmp_b23 .ret
abbrev ref01_Cmp_b25 : LC := .seq ref01_Cmp_b21 ref01_Cmp_b24
abbrev ref01_Cmp_b26 : LC := .seq ref01_Cmp_b6 ref01_Cmp_b25
abbrev ref01_Cmp_b27 : LC := .seq ref01_Cmp_b4 ref01_Cmp_b26
abbrev ref01_Cmp_b28 : LC := .seq ref01_Cmp_b2 ref01_Cmp_b27
theorem ref01_Cmp_k : FnOk E 18 26 [.tmp 4] ref01_Cmp_b28 := ⟨⟨Go.Proofs.Tryd.f18, by kernel_rfl, by kernel_rfl, by kernel_rfl, by kernel_rfl, by kernel_rfl⟩, rfl⟩
noncomputable def ref01_Cmp (a0 : Str) (a1 : Str) : Option (Int) := Option.bind (ref01_Trim a0) (fun x1 => Option.bind (ref01_Trim a1) (fun x2 => (if (decide ((List.length x1 : Int) < (List.length x2 : Int))) = true then some (-1) else (if (decide ((List.length x1 : Int) > (List.length x2 : Int))) = true then some 1 else Option.bind (ref01_Texts x1 x2) (fun x3 => some x3)))))
theorem ref01_Cmp_ok (a0 : Str) (a1 : Str) : Ct E 18 [bs a0, bs a1] (ref01_Cmp a0 a1) (fun r : Int => iv r) := ct_intro (N := 26) (L := ref01_Cmp_b28) ref01_Cmp_k rfl (Nat.le_of_ble_eq_true rfl) (by kernel_rfl) (by
  unfold ref01_Cmp
  refine jc_seq ?_
  refine jc_reg ?_
  refine jr_seg 0 1 [0, 1] [] (st1 := ⟨[(0, .av (bs a0)), (1, .av (bs a1))], [], 0⟩) (by kernel_rfl) ?_
  refine jr_nil rfl ?_
  refine jx_seqN ?_
  refine jc_seq ?_
  refine jc_reg ?_
  refine jr_seg 0 1 [1, 7] [] (st1 := ⟨[(1, .av (bs a1)), (7, .av (bs a0))], [], 0⟩) (by kernel_rfl) ?_
  refine jr_callF (i := 1) rfl rfl rfl rfl (vs := [bs a0]) (by kernel_rfl) (snapL_cons rfl (snapL_nil _)) (all2_cons (fle_refl _) all2_nil) (ref01_Trim_ok a0) (fun _ => rfl) (fun _ => rfl) ?_
  intro x1 h1
  refine jr_seg 2 1 [1, 5] [] (st1 := ⟨[(1, .av (bs a1)), (5, .av (bs x1))], [], 0⟩) (by kernel_rfl) ?_
  refine jr_nil rfl ?_
  refine jx_seqN ?_
  refine jc_seq ?_
  refine jc_reg ?_
  refine jr_seg 0 1 [5, 9] [] (st1 := ⟨[(5, .av (bs x1)), (9, .av (bs a1))], [], 0⟩) (by kernel_rfl) ?_
  refine jr_callF (i := 1) rfl rfl rfl rfl (vs := [bs a1]) (by kernel_rfl) (snapL_cons rfl (snapL_nil _)) (all2_cons (fle_refl _) all2_nil) (ref01_Trim_ok a1) (fun _ => rfl) (fun _ => rfl) ?_
  intro x2 h2
  refine jr_seg 2 1 [5, 6] [] (st1 := ⟨[(5, .av (bs x1)), (6, .av (bs x2))], [], 0⟩) (by kernel_rfl) ?_
  refine jr_nil rfl ?_
  refine jx_seqN ?_
  refine jc_seq ?_
  refine jc_block ?_
  refine jc_seq ?_
  refine jc_reg ?_
  refine jr_seg 0 6 [5, 6, 11] [] (st1 := ⟨[(5, .av (bs x1)), (6, .av (bs x2)), (11, .av (bv (decide ((List.length x1 : Int) < (List.length x2 : Int)))))], [], 0⟩) (by kernel_rfl) ?_
  refine jr_nil rfl ?_
  refine jx_seqN ?_
  refine jc_cond (g := 11) (c := (decide ((List.length x1 : Int) < (List.length x2 : Int)))) (by kernel_rfl) ?_ ?_
  · intro _
    refine jc_seq ?_
    refine jc_reg ?_
    refine jr_seg 0 1 [4] [] (st1 := ⟨[(4, .av (iv (-1)))], [], 0⟩) (by kernel_rfl) ?_
    refine jr_nil rfl ?_
    refine jx_seqN ?_
    refine jc_ret ?_
    refine jx_blkR ?_
    refine jx_seqR ?_
    exact jx_retF (.inr rfl) (v := iv (-1)) (by kernel_rfl) rfl (fle_refl _)
  · intro _
    refine jc_seq ?_
    refine jc_reg ?_
    refine jr_seg 0 6 [5, 6, 17] [] (st1 := ⟨[(5, .av (bs x1)), (6, .av (bs x2)), (17, .av (bv (decide ((List.length x1 : Int) > (List.length x2 : Int)))))], [], 0⟩) (by kernel_rfl) ?_
    refine jr_nil rfl ?_
    refine jx_seqN ?_
    refine jc_cond (g := 17) (c := (decide ((List.length x1 : Int) > (List.length x2 : Int)))) (by kernel_rfl) ?_ ?_
    · intro _
      refine jc_seq ?_
      refine jc_reg ?_
      refine jr_seg 0 1 [4] [] (st1 := ⟨[(4, .av (iv 1))], [], 0⟩) (by kernel_rfl) ?_
      refine jr_nil rfl ?_
      refine jx_seqN ?_
      refine jc_ret ?_
      refine jx_blkR ?_
      refine jx_seqR ?_
      exact jx_retF (.inr rfl) (v := iv 1) (by kernel_rfl) rfl (fle_refl _)
    · intro _
      refine jc_skip ?_
      refine jx_blkN ?_
      refine jx_seqN ?_
      refine jc_seq ?_
      refine jc_reg ?_
      refine jr_seg 0 2 [23, 24] [] (st1 := ⟨[(23, .av (bs x1)), (24, .av (bs x2))], [], 0⟩) (by kernel_rfl) ?_
      refine jr_callF (i := 2) rfl rfl rfl rfl (vs := [bs x1, bs x2]) (by kernel_rfl) (snapL_cons rfl (snapL_cons rfl (snapL_nil _))) (all2_cons (fle_refl _) (all2_cons (fle_refl _) all2_nil)) (ref01_Texts_ok x1 x2) (fun _ => rfl) (fun _ => rfl) ?_
      intro x3 h3
      refine jr_seg 3 1 [4] [] (st1 := ⟨[(4, .av (iv x3))], [], 0⟩) (by kernel_rfl) ?_
      refine jr_nil rfl ?_
      refine jx_seqN ?_
      refine jc_ret ?_
      exact jx_retF (.inr rfl) (v := iv x3) (by kernel_rfl) rfl (fle_refl _))
end Go.Vm

set_option maxRecDepth 100000
set_option maxHeartbeats 0
set_option linter.unusedVariables false
set_option linter.unusedSimpArgs false
namespace Go.Vm
open Go
/-! ### dovetail/scan.Is -/
abbrev scan_Is_r1 : List LO := [⟨some 4, Op.assign (Operand.const (Value.bool false)), 4, none⟩]
abbrev scan_Is_b2 : LC := .reg false scan_Is_r1
abbrev scan_Is_r3 : List LO := [⟨some 9, Op.move (Operand.tmp 0), 5, none⟩,
  ⟨some 10, Op.binOp BinOp.geq 5 (Operand.tmp 9) (Operand.const (Value.int IntKind.u8 48)) 5, 4, none⟩,
  ⟨some 11, Op.move (Operand.tmp 10), 4, none⟩,
  ⟨some 12, Op.move (Operand.tmp 0), 5, (some (11, true))⟩,
  ⟨some 13, Op.binOp BinOp.leq 5 (Operand.tmp 12) (Operand.const (Value.int IntKind.u8 57)) 5, 4, (some (11, true))⟩,
  ⟨some 14, Op.pick (Operand.tmp 11) (Operand.tmp 13) (Operand.const (Value.bool false)), 4, none⟩,
  ⟨some 15, Op.move (Operand.tmp 0), 5, none⟩,
  ⟨some 16, Op.binOp BinOp.geq 5 (Operand.tmp 15) (Operand.const (Value.int IntKind.u8 97)) 5, 4, none⟩,
  ⟨some 17, Op.move (Operand.tmp 16), 4, none⟩,
  ⟨some 18, Op.move (Operand.tmp 0), 5, (some (17, true))⟩,
  ⟨some 19, Op.binOp BinOp.leq 5 (Operand.tmp 18) (Operand.const (Value.int IntKind.u8 122)) 5, 4, (some (17, true))⟩,
  ⟨some 20, Op.pick (Operand.tmp 17) (Operand.tmp 19) (Operand.const (Value.bool false)), 4, none⟩,
  ⟨some 21, Op.move (Operand.tmp 0), 5, none⟩,
  ⟨some 22, Op.binOp BinOp.geq 5 (Operand.tmp 21) (Operand.const (Value.int IntKind.u8 65)) 5, 4, none⟩,
  ⟨some 23, Op.move (Operand.tmp 22), 4, none⟩,
  ⟨some 24, Op.move (Operand.tmp 0), 5, (some (23, true))⟩,
  ⟨some 25, Op.binOp BinOp.leq 5 (Operand.tmp 24) (Operand.const (Value.int IntKind.u8 90)) 5, 4, (some (23, true))⟩,
  ⟨some 26, Op.pick (Operand.tmp 23) (Operand.tmp 25) (Operand.const (Value.bool false)), 4, none⟩,
  ⟨some 5, Op.assign (Operand.tmp 14), 4, none⟩,
  ⟨some 6, Op.assign (Operand.tmp 20), 4, none⟩,
  ⟨some 7, Op.assign (Operand.tmp 26), 4, none⟩]
abbrev scan_Is_b4 : LC := .reg false scan_Is_r3
abbrev scan_Is_r5 : List LO := [⟨some 27, Op.move (Operand.tmp 0), 5, none⟩,
  ⟨some 28, Op.binOp BinOp.eql 5 (Operand.tmp 27) (Operand.const (Value.int IntKind.u8 32)) 5, 4, none⟩,
  ⟨some 29, Op.move (Operand.tmp 28), 4, none⟩,
  ⟨some 30, Op.move (Operand.tmp 0), 5, (some (29, false))⟩,
  ⟨some 31, Op.binOp BinOp.eql 5 (Operand.tmp 30) (Operand.const (Value.int IntKind.u8 9)) 5, 4, (some (29, false))⟩,
  ⟨some 32, Op.pick (Operand.tmp 29) (Operand.const (Value.bool true)) (Operand.tmp 31), 4, none⟩,
  ⟨some 8, Op.assign (Operand.tmp 32), 4, none⟩]
abbrev scan_Is_b6 : LC := .reg false scan_Is_r5
abbrev scan_Is_r7 : List LO := [⟨some 33, Op.move (Operand.tmp 1), 3, none⟩]
abbrev scan_Is_b8 : LC := .reg false scan_Is_r7
abbrev scan_Is_r9 : List LO := [⟨some 35, Op.binOp BinOp.eql 3 (Operand.tmp 33) (Operand.const (Value.int IntKind.i64 1)) 3, 4, none⟩,
  ⟨some 34, Op.assign (Operand.tmp 35), 4, none⟩]
abbrev scan_Is_b10 : LC := .reg false scan_Is_r9
abbrev scan_Is_r11 : List LO := [⟨some 36, Op.move (Operand.tmp 5), 4, none⟩,
  ⟨some 4, Op.assign (Operand.tmp 36), 4, none⟩]
abbrev scan_Is_b12 : LC := .reg false scan_Is_r11
abbrev scan_Is_b13 : LC := .seq scan_Is_b12 .ret
abbrev scan_Is_r14 : List LO := [⟨some 38, Op.binOp BinOp.eql 3 (Operand.tmp 33) (Operand.const (Value.int IntKind.i64 2)) 3, 4, none⟩,
  ⟨some 37, Op.assign (Operand.tmp 38), 4, none⟩]
abbrev scan_Is_b15 : LC := .reg false scan_Is_r14
abbrev scan_Is_r16 : List LO := [⟨some 39, Op.move (Operand.tmp 6), 4, none⟩,
  ⟨some 4, Op.assign (Operand.tmp 39), 4, none⟩]
abbrev scan_Is_b17 : LC := .reg false scan_Is_r16
abbrev scan_Is_b18 : LC := .seq scan_Is_b17 .ret
abbrev scan_Is_r19 : List LO := [⟨some 41, Op.binOp BinOp.eql 3 (Operand.tmp 33) (Operand.const (Value.int IntKind.i64 3)) 3, 4, none⟩,
  ⟨some 40, Op.assign (Operand.tmp 41), 4, none⟩]
abbrev scan_Is_b20 : LC := .reg false scan_Is_r19
abbrev scan_Is_r21 : List LO := [⟨some 42, Op.move (Operand.tmp 7), 4, none⟩,
  ⟨some 4, Op.assign (Operand.tmp 42), 4, none⟩]
abbrev scan_Is_b22 : LC := .reg false scan_Is_r21
abbrev scan_Is_b23 : LC := .seq scan_Is_b22 .ret
abbrev scan_Is_r24 : List LO := [⟨some 44, Op.binOp BinOp.eql 3 (Operand.tmp 33) (Operand.const (Value.int IntKind.i64 4)) 3, 4, none⟩,
  ⟨some 43, Op.assign (Operand.tmp 44), 4, none⟩]
abbrev scan_Is_b25 : LC := .reg false scan_Is_r24
abbrev scan_Is_r26 : List LO := [⟨some 45, Op.move (Operand.tmp 6), 4, none⟩,
  ⟨some 46, Op.move (Operand.tmp 45), 4, none⟩,
  ⟨some 47, Op.move (Operand.tmp 7), 4, (some (46, false))⟩,
  ⟨some 48, Op.pick (Operand.tmp 46) (Operand.const (Value.bool true)) (Operand.tmp 47), 4, none⟩,
  ⟨some 4, Op.assign (Operand.tmp 48), 4, none⟩]
abbrev scan_Is_b27 : LC := .reg false scan_Is_r26
abbrev scan_Is_b28 : LC := .seq scan_Is_b27 .ret
abbrev scan_Is_r29 : List LO := [⟨some 50, Op.binOp BinOp.eql 3 (Operand.tmp 33) (Operand.const (Value.int IntKind.i64 5)) 3, 4, none⟩,
  ⟨some 49, Op.assign (Operand.tmp 50), 4, none⟩]
abbrev scan_Is_b30 : LC := .reg false scan_Is_r29
abbrev scan_Is_r31 : List LO := [⟨some 51, Op.move (Operand.tmp 5), 4, none⟩,
  ⟨some 52, Op.move (Operand.tmp 51), 4, none⟩,
  ⟨some 53, Op.move (Operand.tmp 6), 4, (some (52, false))⟩,
  ⟨some 54, Op.pick (Operand.tmp 52) (Operand.const (Value.bool true)) (Operand.tmp 53), 4, none⟩,
  ⟨some 55, Op.move (Operand.tmp 54), 4, none⟩,
  ⟨some 56, Op.move (Operand.tmp 7), 4, (some (55, false))⟩,
  ⟨some 57, Op.pick (Operand.tmp 55) (Operand.const (Value.bool true)) (Operand.tmp 56), 4, none⟩,
  ⟨some 4, Op.assign (Operand.tmp 57), 4, none⟩]
abbrev scan_Is_b32 : LC := .reg false scan_Is_r31
abbrev scan_Is_b33 : LC := .seq scan_Is_b32 .ret
abbrev scan_Is_r34 : List LO := [⟨some 59, Op.binOp BinOp.eql 3 (Operand.tmp 33) (Operand.const (Value.int IntKind.i64 6)) 3, 4, none⟩,
  ⟨some 58, Op.assign (Operand.tmp 59), 4, none⟩]
abbrev scan_Is_b35 : LC := .reg false scan_Is_r34
abbrev scan_Is_r36 : List LO := [⟨some 60, Op.move (Operand.tmp 8), 4, none⟩,
  ⟨some 4, Op.assign (Operand.tmp 60), 4, none⟩]
abbrev scan_Is_b37 : LC := .reg false scan_Is_r36
abbrev scan_Is_b38 : LC := .seq scan_Is_b37 .ret
abbrev scan_Is_r39 : List LO := [⟨some 62, Op.binOp BinOp.eql 3 (Operand.tmp 33) (Operand.const (Value.int IntKind.i64 7)) 3, 4, none⟩,
  ⟨some 61, Op.assign (Operand.tmp 62), 4, none⟩]
abbrev scan_Is_b40 : LC := .reg false scan_Is_r39
abbrev scan_Is_r41 : List LO := [⟨some 63, Op.move (Operand.tmp 8), 4, none⟩,
  ⟨some 64, Op.move (Operand.tmp 63), 4, none⟩,
  ⟨some 65, Op.move (Operand.tmp 0), 5, (some (64, false))⟩,
  ⟨some 66, Op.binOp BinOp.eql 5 (Operand.tmp 65) (Operand.const (Value.int IntKind.u8 10)) 5, 4, (some (64, false))⟩,
  ⟨some 67, Op.pick (Operand.tmp 64) (Operand.const (Value.bool true)) (Operand.tmp 66), 4, none⟩,
  ⟨some 68, Op.move (Operand.tmp 67), 4, none⟩,
  ⟨some 69, Op.move (Operand.tmp 0), 5, (some (68, false))⟩,
  ⟨some 70, Op.binOp BinOp.eql 5 (Operand.tmp 69) (Operand.const (Value.int IntKind.u8 13)) 5, 4, (some (68, false))⟩,
  ⟨some 71, Op.pick (Operand.tmp 68) (Operand.const (Value.bool true)) (Operand.tmp 70), 4, none⟩,
  ⟨some 4, Op.assign (Operand.tmp 71), 4, none⟩]
abbrev scan_Is_b42 : LC := .reg false scan_Is_r41
abbrev scan_Is_b43 : LC := .seq scan_Is_b42 .ret
abbrev scan_Is_b44 : LC := .cond (Operand.tmp 61) scan_Is_b43 .skip
abbrev scan_Is_b45 : LC := .seq scan_Is_b40 scan_Is_b44
abbrev scan_Is_b46 : LC := .cond (Operand.tmp 58) scan_Is_b38 scan_Is_b45
abbrev scan_Is_b47 : LC := .seq scan_Is_b35 scan_Is_b46
abbrev scan_Is_b48 : LC := .cond (Operand.tmp 49) scan_Is_b33 scan_Is_b47
abbrev scan_Is_b49 : LC := .seq scan_Is_b30 scan_Is_b48
abbrev scan_Is_b50 : LC := .cond (Operand.tmp 43) scan_Is_b28 scan_Is_b49
abbrev scan_Is_b51 : LC := .seq scan_Is_b25 scan_Is_b50
abbrev scan_Is_b52 : LC := .cond (Operand.tmp 40) scan_Is_b23 scan_Is_b51
abbrev scan_Is_b53 : LC := .seq scan_Is_b20 scan_Is_b52
abbrev scan_Is_b54 : LC := .cond (Operand.tmp 37) scan_Is_b18 scan_Is_b53
abbrev scan_Is_b55 : LC := .seq scan_Is_b15 scan_Is_b54
abbrev scan_Is_b56 : LC := .cond (Operand.tmp 34) scan_Is_b13 scan_Is_b55
abbrev scan_Is_b57 : LC := .seq scan_Is_b10 scan_Is_b56
abbrev scan_Is_b58 : LC := .block 0 scan_Is_b57
abbrev scan_Is_b59 : LC := .seq scan_Is_b8 scan_Is_b58
abbrev scan_Is_r60 : List LO := [⟨some 4, Op.assign (Operand.const (Value.bool false)), 4, none⟩]
abbrev scan_Is_b61 : LC := .reg false scan_Is_r60
abbrev scan_Is_b62 : LC := .seq scan_Is_b61 .ret
abbrev scan_Is_b63 : LC := .seq scan_Is_b59 scan_Is_b62
abbrev scan_Is_b64 : LC := .seq scan_Is_b6 scan_Is_b63
abbrev scan_Is_b65 : LC := .seq scan_Is_b4 scan_Is_b64
abbrev scan_Is_b66 : LC := .seq scan_Is_b2 scan_Is_b65
theorem scan_Is_k : FnOk E 26 72 [.tmp 4] scan_Is_b66 := ⟨⟨Go.Proofs.Tryd.f26, by kernel_rfl, by kernel_rfl, by kernel_rfl, by kernel_rfl, by kernel_rfl⟩, rfl⟩
noncomputable def scan_Is (a0 : Int) (a1 : Int) : Option (Bool) := (if (a1 == 1) = true then some ((decide (a0 ≥ 48)) && (decide (a0 ≤ 57))) else (if (a1 == 2) = true then some ((decide (a0 ≥ 97)) && (decide (a0 ≤ 122))) else (if (a1 == 3) = true then some ((decide (a0 ≥ 65)) && (decide (a0 ≤ 90))) else (if (a1 == 4) = true then some (((decide (a0 ≥ 97)) && (decide (a0 ≤ 122))) || ((decide (a0 ≥ 65)) && (decide (a0 ≤ 90)))) else (if (a1 == 5) = true then some ((((decide (a0 ≥ 48)) && (decide (a0 ≤ 57))) || ((decide (a0 ≥ 97)) && (decide (a0 ≤ 122)))) || ((decide (a0 ≥ 65)) && (decide (a0 ≤ 90)))) else (if (a1 == 6) = true then some ((a0 == 32) || (a0 == 9)) else (if (a1 == 7) = true then some ((((a0 == 32) || (a0 == 9)) || (a0 == 10)) || (a0 == 13)) else some false)))))))
theorem scan_Is_ok (a0 : Int) (a1 : Int) : Ct E 26 [.s (.int .u8 a0), iv a1] (scan_Is a0 a1) (fun r : Bool => bv r) := ct_intro (N := 72) (L := scan_Is_b66) scan_Is_k rfl (Nat.le_of_ble_eq_true rfl) (by kernel_rfl) (by
  unfold scan_Is
  refine jc_seq ?_
  refine jc_reg ?_
  refine jr_seg 0 1 [0, 1] [] (st1 := ⟨[(0, .av (.s (.int .u8 a0))), (1, .av (iv a1))], [], 0⟩) (by kernel_rfl) ?_
  refine jr_nil rfl ?_
  refine jx_seqN ?_
  refine jc_seq ?_
  refine jc_reg ?_
  refine jr_seg 0 21 [0, 1, 5, 6, 7] [] (st1 := ⟨[(0, .av (.s (.int .u8 a0))), (1, .av (iv a1)), (5, .av (bv ((decide (a0 ≥ 48)) && (decide (a0 ≤ 57))))), (6, .av (bv ((decide (a0 ≥ 97)) && (decide (a0 ≤ 122))))), (7, .av (bv ((decide (a0 ≥ 65)) && (decide (a0 ≤ 90)))))], [], 0⟩) (by kernel_rfl) ?_
  refine jr_nil rfl ?_
  refine jx_seqN ?_
  refine jc_seq ?_
  refine jc_reg ?_
  refine jr_seg 0 7 [0, 1, 5, 6, 7, 8] [] (st1 := ⟨[(0, .av (.s (.int .u8 a0))), (1, .av (iv a1)), (5, .av (bv ((decide (a0 ≥ 48)) && (decide (a0 ≤ 57))))), (6, .av (bv ((decide (a0 ≥ 97)) && (decide (a0 ≤ 122))))), (7, .av (bv ((decide (a0 ≥ 65)) && (decide (a0 ≤ 90))))), (8, .av (bv ((a0 == 32) || (a0 == 9))))], [], 0⟩) (by kernel_rfl) ?_
  refine jr_nil rfl ?_
  refine jx_seqN ?_
  refine jc_seq ?_
  refine jc_seq ?_
  refine jc_reg ?_
  refine jr_seg 0 1 [0, 5, 6, 7, 8, 33] [] (st1 := ⟨[(0, .av (.s (.int .u8 a0))), (5, .av (bv ((decide (a0 ≥ 48)) && (decide (a0 ≤ 57))))), (6, .av (bv ((decide (a0 ≥ 97)) && (decide (a0 ≤ 122))))), (7, .av (bv ((decide (a0 ≥ 65)) && (decide (a0 ≤ 90))))), (8, .av (bv ((a0 == 32) || (a0 == 9)))), (33, .av (iv a1))], [], 0⟩) (by kernel_rfl) ?_
  refine jr_nil rfl ?_
  refine jx_seqN ?_
  refine jc_block ?_
  refine jc_seq ?_
  refine jc_reg ?_
  refine jr_seg 0 2 [0, 5, 6, 7, 8, 33, 34] [] (st1 := ⟨[(0, .av (.s (.int .u8 a0))), (5, .av (bv ((decide (a0 ≥ 48)) && (decide (a0 ≤ 57))))), (6, .av (bv ((decide (a0 ≥ 97)) && (decide (a0 ≤ 122))))), (7, .av (bv ((decide (a0 ≥ 65)) && (decide (a0 ≤ 90))))), (8, .av (bv ((a0 == 32) || (a0 == 9)))), (33, .av (iv a1)), (34, .av (bv (a1 == 1)))], [], 0⟩) (by kernel_rfl) ?_
  refine jr_nil rfl ?_
  refine jx_seqN ?_
  refine jc_cond (g := 34) (c := (a1 == 1)) (by kernel_rfl) ?_ ?_
  · intro _
    refine jc_seq ?_
    refine jc_reg ?_
    refine jr_seg 0 2 [4] [] (st1 := ⟨[(4, .av (bv ((decide (a0 ≥ 48)) && (decide (a0 ≤ 57)))))], [], 0⟩) (by kernel_rfl) ?_
    refine jr_nil rfl ?_
    refine jx_seqN ?_
    refine jc_ret ?_
    refine jx_blkR ?_
    refine jx_seqR ?_
    exact jx_retF (.inr rfl) (v := bv ((decide (a0 ≥ 48)) && (decide (a0 ≤ 57)))) (by kernel_rfl) rfl (fle_refl _)
  · intro _
    refine jc_seq ?_
    refine jc_reg ?_
    refine jr_seg 0 2 [0, 5, 6, 7, 8, 33, 37] [] (st1 := ⟨[(0, .av (.s (.int .u8 a0))), (5, .av (bv ((decide (a0 ≥ 48)) && (decide (a0 ≤ 57))))), (6, .av (bv ((decide (a0 ≥ 97)) && (decide (a0 ≤ 122))))), (7, .av (bv ((decide (a0 ≥ 65)) && (decide (a0 ≤ 90))))), (8, .av (bv ((a0 == 32) || (a0 == 9)))), (33, .av (iv a1)), (37, .av (bv (a1 == 2)))], [], 0⟩) (by kernel_rfl) ?_
    refine jr_nil rfl ?_
    refine jx_seqN ?_
    refine jc_cond (g := 37) (c := (a1 == 2)) (by kernel_rfl) ?_ ?_
    · intro _
      refine jc_seq ?_
      refine jc_reg ?_
      refine jr_seg 0 2 [4] [] (st1 := ⟨[(4, .av (bv ((decide (a0 ≥ 97)) && (decide (a0 ≤ 122)))))], [], 0⟩) (by kernel_rfl) ?_
      refine jr_nil rfl ?_
      refine jx_seqN ?_
      refine jc_ret ?_
      refine jx_blkR ?_
      refine jx_seqR ?_
      exact jx_retF (.inr rfl) (v := bv ((decide (a0 ≥ 97)) && (decide (a0 ≤ 122)))) (by kernel_rfl) rfl (fle_refl _)
    · intro _
      refine jc_seq ?_
      refine jc_reg ?_
      refine jr_seg 0 2 [0, 5, 6, 7, 8, 33, 40] [] (st1 := ⟨[(0, .av (.s (.int .u8 a0))), (5, .av (bv ((decide (a0 ≥ 48)) && (decide (a0 ≤ 57))))), (6, .av (bv ((decide (a0 ≥ 97)) && (decide (a0 ≤ 122))))), (7, .av (bv ((decide (a0 ≥ 65)) && (decide (a0 ≤ 90))))), (8, .av (bv ((a0 == 32) || (a0 == 9)))), (33, .av (iv a1)), (40, .av (bv (a1 == 3)))], [], 0⟩) (by kernel_rfl) ?_
      refine jr_nil rfl ?_
      refine jx_seqN ?_
      refine jc_cond (g := 40) (c := (a1 == 3)) (by kernel_rfl) ?_ ?_
      · intro _
        refine jc_seq ?_
        refine jc_reg ?_
        refine jr_seg 0 2 [4] [] (st1 := ⟨[(4, .av (bv ((decide (a0 ≥ 65)) && (decide (a0 ≤ 90)))))], [], 0⟩) (by kernel_rfl) ?_
        refine jr_nil rfl ?_
        refine jx_seqN ?_
        refine jc_ret ?_
        refine jx_blkR ?_
        refine jx_seqR ?_
        exact jx_retF (.inr rfl) (v := bv ((decide (a0 ≥ 65)) && (decide (a0 ≤ 90)))) (by kernel_rfl) rfl (fle_refl _)
      · intro _
        refine jc_seq ?_
        refine jc_reg ?_
        refine jr_seg 0 2 [0, 5, 6, 7, 8, 33, 43] [] (st1 := ⟨[(0, .av (.s (.int .u8 a0))), (5, .av (bv ((decide (a0 ≥ 48)) && (decide (a0 ≤ 57))))), (6, .av (bv ((decide (a0 ≥ 97)) && (decide (a0 ≤ 122))))), (7, .av (bv ((decide (a0 ≥ 65)) && (decide (a0 ≤ 90))))), (8, .av (bv ((a0 == 32) || (a0 == 9)))), (33, .av (iv a1)), (43, .av (bv (a1 == 4)))], [], 0⟩) (by kernel_rfl) ?_
        refine jr_nil rfl ?_
        refine jx_seqN ?_
        refine jc_cond (g := 43) (c := (a1 == 4)) (by kernel_rfl) ?_ ?_
        · intro _
          refine jc_seq ?_
          refine jc_reg ?_
          refine jr_seg 0 5 [4] [] (st1 := ⟨[(4, .av (bv (((decide (a0 ≥ 97)) && (decide (a0 ≤ 122))) || ((decide (a0 ≥ 65)) && (decide (a0 ≤ 90))))))], [], 0⟩) (by kernel_rfl) ?_
          refine jr_nil rfl ?_
          refine jx_seqN ?_
          refine jc_ret ?_
          refine jx_blkR ?_
          refine jx_seqR ?_
          exact jx_retF (.inr rfl) (v := bv (((decide (a0 ≥ 97)) && (decide (a0 ≤ 122))) || ((decide (a0 ≥ 65)) && (decide (a0 ≤ 90))))) (by kernel_rfl) rfl (fle_refl _)
        · intro _
          refine jc_seq ?_
          refine jc_reg ?_
          refine jr_seg 0 2 [0, 5, 6, 7, 8, 33, 49] [] (st1 := ⟨[(0, .av (.s (.int .u8 a0))), (5, .av (bv ((decide (a0 ≥ 48)) && (decide (a0 ≤ 57))))), (6, .av (bv ((decide (a0 ≥ 97)) && (decide (a0 ≤ 122))))), (7, .av (bv ((decide (a0 ≥ 65)) && (decide (a0 ≤ 90))))), (8, .av (bv ((a0 == 32) || (a0 == 9)))), (33, .av (iv a1)), (49, .av (bv (a1 == 5)))], [], 0⟩) (by kernel_rfl) ?_
          refine jr_nil rfl ?_
          refine jx_seqN ?_
          refine jc_cond (g := 49) (c := (a1 == 5)) (by kernel_rfl) ?_ ?_
          · intro _
            refine jc_seq ?_
            refine jc_reg ?_
            refine jr_seg 0 8 [4] [] (st1 := ⟨[(4, .av (bv ((((decide (a0 ≥ 48)) && (decide (a0 ≤ 57))) || ((decide (a0 ≥ 97)) && (decide (a0 ≤ 122)))) || ((decide (a0 ≥ 65)) && (decide (a0 ≤ 90))))))], [], 0⟩) (by kernel_rfl) ?_
            refine jr_nil rfl ?_
            refine jx_seqN ?_
            refine jc_ret ?_
            refine jx_blkR ?_
            refine jx_seqR ?_
            exact jx_retF (.inr rfl) (v := bv ((((decide (a0 ≥ 48)) && (decide (a0 ≤ 57))) || ((decide (a0 ≥ 97)) && (decide (a0 ≤ 122)))) || ((decide (a0 ≥ 65)) && (decide (a0 ≤ 90))))) (by kernel_rfl) rfl (fle_refl _)
          · intro _
            refine jc_seq ?_
            refine jc_reg ?_
            refine jr_seg 0 2 [0, 8, 33, 58] [] (st1 := ⟨[(0, .av (.s (.int .u8 a0))), (8, .av (bv ((a0 == 32) || (a0 == 9)))), (33, .av (iv a1)), (58, .av (bv (a1 == 6)))], [], 0⟩) (by kernel_rfl) ?_
            refine jr_nil rfl ?_
            refine jx_seqN ?_
            refine jc_cond (g := 58) (c := (a1 == 6)) (by kernel_rfl) ?_ ?_
            · intro _
              refine jc_seq ?_
              refine jc_reg ?_
              refine jr_seg 0 2 [4] [] (st1 := ⟨[(4, .av (bv ((a0 == 32) || (a0 == 9))))], [], 0⟩) (by kernel_rfl) ?_
              refine jr_nil rfl ?_
              refine jx_seqN ?_
              refine jc_ret ?_
              refine jx_blkR ?_
              refine jx_seqR ?_
              exact jx_retF (.inr rfl) (v := bv ((a0 == 32) || (a0 == 9))) (by kernel_rfl) rfl (fle_refl _)
            · intro _
              refine jc_seq ?_
              refine jc_reg ?_
              refine jr_seg 0 2 [0, 8, 61] [] (st1 := ⟨[(0, .av (.s (.int .u8 a0))), (8, .av (bv ((a0 == 32) || (a0 == 9)))), (61, .av (bv (a1 == 7)))], [], 0⟩) (by kernel_rfl) ?_
              refine jr_nil rfl ?_
              refine jx_seqN ?_
              refine jc_cond (g := 61) (c := (a1 == 7)) (by kernel_rfl) ?_ ?_
              · intro _
                refine jc_seq ?_
                refine jc_reg ?_
                refine jr_seg 0 10 [4] [] (st1 := ⟨[(4, .av (bv ((((a0 == 32) || (a0 == 9)) || (a0 == 10)) || (a0 == 13))))], [], 0⟩) (by kernel_rfl) ?_
                refine jr_nil rfl ?_
                refine jx_seqN ?_
                refine jc_ret ?_
                refine jx_blkR ?_
                refine jx_seqR ?_
                exact jx_retF (.inr rfl) (v := bv ((((a0 == 32) || (a0 == 9)) || (a0 == 10)) || (a0 == 13))) (by kernel_rfl) rfl (fle_refl _)
              · intro _
                refine jc_skip ?_
                refine jx_blkN ?_
                refine jx_seqN ?_
                refine jc_seq ?_
                refine jc_reg ?_
                refine jr_seg 0 1 [4] [] (st1 := ⟨[(4, .av (bv false))], [], 0⟩) (by kernel_rfl) ?_
                refine jr_nil rfl ?_
                refine jx_seqN ?_
                refine jc_ret ?_
                exact jx_retF (.inr rfl) (v := bv false) (by kernel_rfl) rfl (fle_refl _))
end Go.Vm

set_option maxRecDepth 100000
set_option maxHeartbeats 0
set_option linter.unusedVariables false
set_option linter.unusedSimpArgs false
namespace Go.Vm
open Go
/-! ### dovetail/scan.Run -/
abbrev scan_Run_r1 : List LO := [⟨some 6, Op.assign (Operand.const (Value.int IntKind.i64 0)), 3, none⟩]
abbrev scan_Run_b2 : LC := .reg false scan_Run_r1
abbrev scan_Run_r3 : List LO := [⟨some 8, Op.move (Operand.tmp 1), 3, none⟩,
  ⟨some 9, Op.binOp BinOp.lss 3 (Operand.tmp 8) (Operand.const (Value.int IntKind.i64 0)) 3, 4, none⟩,
  ⟨some 10, Op.move (Operand.tmp 9), 4, none⟩,
  ⟨some 11, Op.move (Operand.tmp 1), 3, (some (10, false))⟩,
  ⟨some 12, Op.move (Operand.tmp 0), 9, (some (10, false))⟩,
  ⟨some 13, Op.call { callee := Callee.builtin Builtin.len, args := #[Operand.tmp 12], argTypes := #[9] }, 3, (some (10, false))⟩,
  ⟨some 14, Op.binOp BinOp.gtr 3 (Operand.tmp 11) (Operand.tmp 13) 3, 4, (some (10, false))⟩,
  ⟨some 15, Op.pick (Operand.tmp 10) (Operand.const (Value.bool true)) (Operand.tmp 14), 4, none⟩]
abbrev scan_Run_b4 : LC := .reg false scan_Run_r3
abbrev scan_Run_r5 : List LO := [⟨some 16, Op.move (Operand.tmp 1), 3, none⟩,
  ⟨some 6, Op.assign (Operand.tmp 16), 3, none⟩]
abbrev scan_Run_b6 : LC := .reg false scan_Run_r5
abbrev scan_Run_b7 : LC := .seq scan_Run_b6 .ret
abbrev scan_Run_b8 : LC := .cond (Operand.tmp 15) scan_Run_b7 .skip
abbrev scan_Run_b9 : LC := .seq scan_Run_b4 scan_Run_b8
abbrev scan_Run_r10 : List LO := [⟨some 17, Op.move (Operand.tmp 0), 9, none⟩,
  ⟨some 18, Op.call { callee := Callee.builtin Builtin.len, args := #[Operand.tmp 17], argTypes := #[9] }, 3, none⟩,
  ⟨some 19, Op.move (Operand.tmp 1), 3, none⟩,
  ⟨some 20, Op.binOp BinOp.sub 3 (Operand.tmp 18) (Operand.tmp 19) 3, 3, none⟩,
  ⟨some 21, Op.move (Operand.const (Value.int IntKind.i64 0)), 3, none⟩]
abbrev scan_Run_b11 : LC := .reg false scan_Run_r10
abbrev scan_Run_r12 : List LO := [⟨some 22, Op.binOp BinOp.lss 3 (Operand.tmp 21) (Operand.tmp 20) 3, 4, none⟩]
abbrev scan_Run_b13 : LC := .reg false scan_Run_r12
abbrev scan_Run_b14 : LC := .cond (Operand.tmp 22) .skip (.exit 0)
abbrev scan_Run_r15 : List LO := [⟨some 23, Op.move (Operand.tmp 21), 3, none⟩,
  ⟨some 7, Op.assign (Operand.tmp 23), 3, none⟩]
abbrev scan_Run_b16 : LC := .reg false scan_Run_r15
abbrev scan_Run_r17 : List LO := [⟨some 24, Op.move (Operand.tmp 0), 9, none⟩,
  ⟨some 25, Op.move (Operand.tmp 1), 3, none⟩,
  ⟨some 26, Op.move (Operand.tmp 7), 3, none⟩,
  ⟨some 27, Op.binOp BinOp.add 3 (Operand.tmp 25) (Operand.tmp 26) 3, 3, none⟩,
  ⟨some 28, Op.index 9 (Operand.tmp 24) (Operand.tmp 27), 5, none⟩,
  ⟨some 29, Op.move (Operand.tmp 2), 3, none⟩,
  ⟨some 30, Op.call { callee := Callee.value (Operand.func 26), args := #[Operand.tmp 28, Operand.tmp 29], argTypes := #[5, 3] }, 4, none⟩,
  ⟨some 31, Op.unOp UnOp.not 4 (Operand.tmp 30), 4, none⟩]
abbrev scan_Run_b18 : LC := .reg false scan_Run_r17
abbrev scan_Run_r19 : List LO := [⟨some 32, Op.move (Operand.tmp 1), 3, none⟩,
  ⟨some 33, Op.move (Operand.tmp 7), 3, none⟩,
  ⟨some 34, Op.binOp BinOp.add 3 (Operand.tmp 32) (Operand.tmp 33) 3, 3, none⟩,
  ⟨some 6, Op.assign (Operand.tmp 34), 3, none⟩]
abbrev scan_Run_b20 : LC := .reg false scan_Run_r19
abbrev scan_Run_b21 : LC := .seq scan_Run_b20 .ret
abbrev scan_Run_b22 : LC := .cond (Operand.tmp 31) scan_Run_b21 .skip
abbrev scan_Run_b23 : LC := .seq scan_Run_b18 scan_Run_b22
abbrev scan_Run_b24 : LC := .seq scan_Run_b16 scan_Run_b23
abbrev scan_Run_b25 : LC := .block 1 scan_Run_b24
abbrev scan_Run_r26 : List LO := [⟨some 35, Op.binOp BinOp.add 3 (Operand.tmp 21) (Operand.const (Value.int IntKind.i64 1)) 3, 3, none⟩,
  ⟨some 21, Op.move (Operand.tmp 35), 3, none⟩]
abbrev scan_Run_b27 : LC := .reg false scan_Run_r26
abbrev scan_Run_b28 : LC := .seq scan_Run_b25 scan_Run_b27
abbrev scan_Run_b29 : LC := .seq scan_Run_b14 scan_Run_b28
abbrev scan_Run_b30 : LC := .seq scan_Run_b13 scan_Run_b29
abbrev scan_Run_b31 : LC := .loop scan_Run_b30
abbrev scan_Run_b32 : LC := .block 0 scan_Run_b31
abbrev scan_Run_b33 : LC := .seq scan_Run_b11 scan_Run_b32
abbrev scan_Run_r34 : List LO := [⟨some 36, Op.move (Operand.tmp 0), 9, none⟩,
  ⟨some 37, Op.call { callee := Callee.builtin Builtin.len, args := #[Operand.tmp 36], argTypes := #[9] }, 3, none⟩,
  ⟨some 6, Op.assign (Operand.tmp 37), 3, none⟩]
abbrev scan_Run_b35 : LC := .reg false scan_Run_r34
abbrev scan_Run_b36 : LC := .seq scan_Run_b35 .ret
abbrev scan_Run_b37 : LC := .seq scan_Run_b33 scan_Run_b36
abbrev scan_Run_b38 : LC := .seq scan_Run_b9 scan_Run_b37
abbrev scan_Run_b39 : LC := .seq scan_Run_b2 scan_Run_b38
theorem scan_Run_k : FnOk E 30 38 [.tmp 6] scan_Run_b39 := ⟨⟨Go.Proofs.Tryd.f30, by kernel_rfl, by kernel_rfl, by kernel_rfl, by kernel_rfl, by kernel_rfl⟩, rfl⟩
noncomputable def scan_Run_l1 (a0 : Str) (a1 : Int) (a2 : Int) : Int → Option (Step (Int) ((Int) ⊕ (Unit))) := fun x3 => (if (decide (x3 < (w64 ((List.length a0 : Int) - a1)))) = true then Option.bind (idx a0 (w64 (a1 + x3))) (fun x8 => Option.bind (scan_Is x8 a2) (fun x9 => (if (!x9) = true then some (Step.done (Sum.inl (w64 (a1 + x3)))) else some (Step.next (w64 (x3 + 1)))))) else some (Step.done (Sum.inr ())))
noncomputable def scan_Run (a0 : Str) (a1 : Int) (a2 : Int) : Option (Int) := (if ((decide (a1 < 0)) || (decide (a1 > (List.length a0 : Int)))) = true then some a1 else Option.bind (loopC (scan_Run_l1 a0 a1 a2) 0) (fun y => match y with | Sum.inl x7 => some x7 | Sum.inr _ => some (List.length a0 : Int)))
theorem scan_Run_ok (a0 : Str) (a1 : Int) (a2 : Int) : Ct E 30 [bs a0, iv a1, iv a2] (scan_Run a0 a1 a2) (fun r : Int => iv r) := ct_intro (N := 38) (L := scan_Run_b39) scan_Run_k rfl (Nat.le_of_ble_eq_true rfl) (by kernel_rfl) (by
  unfold scan_Run
  refine jc_seq ?_
  refine jc_reg ?_
  refine jr_seg 0 1 [0, 1, 2] [] (st1 := ⟨[(0, .av (bs a0)), (1, .av (iv a1)), (2, .av (iv a2))], [], 0⟩) (by kernel_rfl) ?_
  refine jr_nil rfl ?_
  refine jx_seqN ?_
  refine jc_seq ?_
  refine jc_seq ?_
  refine jc_reg ?_
  refine jr_seg 0 8 [0, 1, 2, 15] [] (st1 := ⟨[(0, .av (bs a0)), (1, .av (iv a1)), (2, .av (iv a2)), (15, .av (bv ((decide (a1 < 0)) || (decide (a1 > (List.length a0 : Int))))))], [], 0⟩) (by kernel_rfl) ?_
  refine jr_nil rfl ?_
  refine jx_seqN ?_
  refine jc_cond (g := 15) (c := ((decide (a1 < 0)) || (decide (a1 > (List.length a0 : Int))))) (by kernel_rfl) ?_ ?_
  · intro _
    refine jc_seq ?_
    refine jc_reg ?_
    refine jr_seg 0 2 [6] [] (st1 := ⟨[(6, .av (iv a1))], [], 0⟩) (by kernel_rfl) ?_
    refine jr_nil rfl ?_
    refine jx_seqN ?_
    refine jc_ret ?_
    refine jx_seqR ?_
    exact jx_retF (.inr rfl) (v := iv a1) (by kernel_rfl) rfl (fle_refl _)
  · intro _
    refine jc_skip ?_
    refine jx_seqN ?_
    refine jc_seq ?_
    refine jc_seq ?_
    refine jc_reg ?_
    refine jr_seg 0 5 [0, 1, 2, 20, 21] [] (st1 := ⟨[(0, .av (bs a0)), (1, .av (iv a1)), (2, .av (iv a2)), (20, .av (iv (w64 ((List.length a0 : Int) - a1)))), (21, .av (iv 0))], [], 0⟩) (by kernel_rfl) ?_
    refine jr_nil rfl ?_
    refine jx_seqN ?_
    refine jc_block ?_
    refine jc_bind (fun y => match y with | Sum.inl x7 => ⟨[(6, .av (iv x7))], [], 0⟩ | Sum.inr _ => ⟨[(0, .av (bs a0))], [], 0⟩) (fun y => match y with | Sum.inl x7 => .ret | Sum.inr _ => (.exit 0)) (jc_loop (fun x3 => ⟨[(0, .av (bs a0)), (1, .av (iv a1)), (2, .av (iv a2)), (20, .av (iv (w64 ((List.length a0 : Int) - a1)))), (21, .av (iv x3))], [], 0⟩) (wk_ren [] (fix_nil _) rfl (by kernel_rfl) allp_nil) ?_) ?_
    · intro x3
      unfold scan_Run_l1
      refine jc_seq ?_
      refine jc_reg ?_
      refine jr_seg 0 1 [0, 1, 2, 20, 21, 22] [] (st1 := ⟨[(0, .av (bs a0)), (1, .av (iv a1)), (2, .av (iv a2)), (20, .av (iv (w64 ((List.length a0 : Int) - a1)))), (21, .av (iv x3)), (22, .av (bv (decide (x3 < (w64 ((List.length a0 : Int) - a1))))))], [], 0⟩) (by kernel_rfl) ?_
      refine jr_nil rfl ?_
      refine jx_seqN ?_
      refine jc_seq ?_
      refine jc_cond (g := 22) (c := (decide (x3 < (w64 ((List.length a0 : Int) - a1))))) (by kernel_rfl) ?_ ?_
      · intro _
        refine jc_skip ?_
        refine jx_seqN ?_
        refine jc_seq ?_
        refine jc_block ?_
        refine jc_seq ?_
        refine jc_reg ?_
        refine jr_seg 0 2 [0, 1, 2, 7, 20, 21] [] (st1 := ⟨[(0, .av (bs a0)), (1, .av (iv a1)), (2, .av (iv a2)), (7, .av (iv x3)), (20, .av (iv (w64 ((List.length a0 : Int) - a1)))), (21, .av (iv x3))], [], 0⟩) (by kernel_rfl) ?_
        refine jr_nil rfl ?_
        refine jx_seqN ?_
        refine jc_seq ?_
        refine jc_reg ?_
        refine jr_seg 0 4 [0, 1, 2, 7, 20, 21, 24, 27] [] (st1 := ⟨[(0, .av (bs a0)), (1, .av (iv a1)), (2, .av (iv a2)), (7, .av (iv x3)), (20, .av (iv (w64 ((List.length a0 : Int) - a1)))), (21, .av (iv x3)), (24, .av (bs a0)), (27, .av (iv (w64 (a1 + x3))))], [], 0⟩) (by kernel_rfl) ?_
        refine jr_part (i := 4) (mo := idx a0 (w64 (a1 + x3))) rfl rfl rfl rfl (fun _ hc => aop_index (kk := .i64) (by kernel_rfl) (by kernel_rfl) (by kernel_rfl) hc) (fun _ => rfl) ?_
        intro x8 h8
        refine jr_seg 5 1 [0, 1, 2, 7, 20, 21, 28, 29] [] (st1 := ⟨[(0, .av (bs a0)), (1, .av (iv a1)), (2, .av (iv a2)), (7, .av (iv x3)), (20, .av (iv (w64 ((List.length a0 : Int) - a1)))), (21, .av (iv x3)), (28, .av (.s (.int .u8 x8))), (29, .av (iv a2))], [], 0⟩) (by kernel_rfl) ?_
        refine jr_callF (i := 6) rfl rfl rfl rfl (vs := [.s (.int .u8 x8), iv a2]) (by kernel_rfl) (snapL_cons rfl (snapL_cons rfl (snapL_nil _))) (all2_cons (fle_refl _) (all2_cons (fle_refl _) all2_nil)) (scan_Is_ok x8 a2) (fun _ => rfl) (fun _ => rfl) ?_
        intro x9 h9
        refine jr_seg 7 1 [0, 1, 2, 7, 20, 21, 31] [] (st1 := ⟨[(0, .av (bs a0)), (1, .av (iv a1)), (2, .av (iv a2)), (7, .av (iv x3)), (20, .av (iv (w64 ((List.length a0 : Int) - a1)))), (21, .av (iv x3)), (31, .av (bv (!x9)))], [], 0⟩) (by kernel_rfl) ?_
        refine jr_nil rfl ?_
        refine jx_seqN ?_
        refine jc_cond (g := 31) (c := (!x9)) (by kernel_rfl) ?_ ?_
        · intro _
          refine jc_seq ?_
          refine jc_reg ?_
          refine jr_seg 0 4 [6] [] (st1 := ⟨[(6, .av (iv (w64 (a1 + x3))))], [], 0⟩) (by kernel_rfl) ?_
          refine jr_nil rfl ?_
          refine jx_seqN ?_
          refine jc_ret ?_
          refine jx_blkR ?_
          refine jx_seqR ?_
          exact jx_done rfl nofun (wk_ren [] (fix_nil _) rfl (by kernel_rfl) allp_nil)
        · intro _
          refine jc_skip ?_
          refine jx_blkN ?_
          refine jx_seqN ?_
          refine jc_reg ?_
          refine jr_seg 0 2 [0, 1, 2, 20, 21] [] (st1 := ⟨[(0, .av (bs a0)), (1, .av (iv a1)), (2, .av (iv a2)), (20, .av (iv (w64 ((List.length a0 : Int) - a1)))), (21, .av (iv (w64 (x3 + 1))))], [], 0⟩) (by kernel_rfl) ?_
          refine jr_nil rfl ?_
          exact jx_next (wk_ren [] (fix_nil _) rfl (by kernel_rfl) allp_nil)
      · intro _
        refine jc_exit ?_
        refine jx_seqE ?_
        exact jx_done rfl nofun (wk_ren [] (fix_nil _) rfl (by kernel_rfl) allp_nil)
    · rintro (x7 | _)
      · refine jx_blkR ?_
        refine jx_seqR ?_
        exact jx_retF (.inr rfl) (v := iv x7) (by kernel_rfl) rfl (fle_refl _)
      · refine jx_blkE ?_
        refine jx_seqN ?_
        refine jc_seq ?_
        refine jc_reg ?_
        refine jr_seg 0 3 [6] [] (st1 := ⟨[(6, .av (iv (List.length a0 : Int)))], [], 0⟩) (by kernel_rfl) ?_
        refine jr_nil rfl ?_
        refine jx_seqN ?_
        refine jc_ret ?_
        exact jx_retF (.inr rfl) (v := iv (List.length a0 : Int)) (by kernel_rfl) rfl (fle_refl _))
end Go.Vm

set_option maxRecDepth 100000
set_option maxHeartbeats 0
set_option linter.unusedVariables false
set_option linter.unusedSimpArgs false
namespace Go.Vm
open Go
/-! ### dovetail/scan.Next -/
abbrev scan_Next_r1 : List LO := [⟨some 2, Op.assign (Operand.const (Value.string { data := #[] })), 9, none⟩]
abbrev scan_Next_b2 : LC := .reg false scan_Next_r1
abbrev scan_Next_r3 : List LO := [⟨some 5, Op.move (Operand.tmp 0), 9, none⟩,
  ⟨some 6, Op.call { callee := Callee.value (Operand.func 30), args := #[Operand.tmp 5, Operand.const (Value.int IntKind.i64 0), Operand.const (Value.int IntKind.i64 1)], argTypes := #[9, 3, 3] }, 3, none⟩,
  ⟨some 7, Op.move (Operand.tmp 0), 9, none⟩,
  ⟨some 8, Op.call { callee := Callee.builtin Builtin.len, args := #[Operand.tmp 7], argTypes := #[9] }, 3, none⟩,
  ⟨some 9, Op.binOp BinOp.neq 3 (Operand.tmp 6) (Operand.tmp 8) 3, 4, none⟩]
abbrev scan_Next_b4 : LC := .reg false scan_Next_r3
abbrev scan_Next_r5 : List LO := [⟨some 2, Op.assign (Operand.const (Value.string { data := #[49] })), 9, none⟩]
abbrev scan_Next_b6 : LC := .reg false scan_Next_r5
abbrev scan_Next_b7 : LC := .seq scan_Next_b6 .ret
abbrev scan_Next_b8 : LC := .cond (Operand.tmp 9) scan_Next_b7 .skip
abbrev scan_Next_b9 : LC := .seq scan_Next_b4 scan_Next_b8
abbrev scan_Next_r10 : List LO := [⟨some 10, Op.move (Operand.tmp 0), 9, none⟩,
  ⟨some 11, Op.binOp BinOp.add 9 (Operand.const (Value.string { data := #[48] })) (Operand.tmp 10) 9, 9, none⟩,
  ⟨some 12, Op.convert 9 31 (Operand.tmp 11), 31, none⟩,
  ⟨some 3, Op.assign (Operand.tmp 12), 31, none⟩]
abbrev scan_Next_b11 : LC := .reg false scan_Next_r10
abbrev scan_Next_r12 : List LO := [⟨some 13, Op.move (Operand.tmp 3), 31, none⟩,
  ⟨some 14, Op.call { callee := Callee.builtin Builtin.len, args := #[Operand.tmp 13], argTypes := #[31] }, 3, none⟩,
  ⟨some 15, Op.binOp BinOp.sub 3 (Operand.tmp 14) (Operand.const (Value.int IntKind.i64 1)) 3, 3, none⟩,
  ⟨some 4, Op.assign (Operand.tmp 15), 3, none⟩]
abbrev scan_Next_b13 : LC := .reg false scan_Next_r12
abbrev scan_Next_r14 : List LO := [⟨some 16, Op.move (Operand.tmp 3), 31, none⟩,
  ⟨some 17, Op.move (Operand.tmp 4), 3, none⟩,
  ⟨some 18, Op.indexAddr 31 (Operand.tmp 16) (Operand.tmp 17), 0, none⟩,
  ⟨some 19, Op.load 5 (Operand.tmp 18), 5, none⟩,
  ⟨some 20, Op.binOp BinOp.eql 5 (Operand.tmp 19) (Operand.const (Value.int IntKind.u8 57)) 5, 4, none⟩]
abbrev scan_Next_b15 : LC := .reg false scan_Next_r14
abbrev scan_Next_b16 : LC := .cond (Operand.tmp 20) .skip (.exit 0)
abbrev scan_Next_b17 : LC := .seq scan_Next_b15 scan_Next_b16
abbrev scan_Next_r18 : List LO := [⟨some 23, Op.move (Operand.tmp 3), 31, none⟩,
  ⟨some 24, Op.move (Operand.tmp 4), 3, none⟩,
  ⟨some 25, Op.indexAddr 31 (Operand.tmp 23) (Operand.tmp 24), 0, none⟩,
  ⟨none, Op.store 5 (Operand.tmp 25) (Operand.const (Value.int IntKind.u8 48)), 0, none⟩]
abbrev scan_Next_b19 : LC := .reg false scan_Next_r18
abbrev scan_Next_b20 : LC := .block 1 scan_Next_b19
abbrev scan_Next_r21 : List LO := [⟨some 21, Op.move (Operand.tmp 4), 3, none⟩,
  ⟨some 22, Op.binOp BinOp.sub 3 (Operand.tmp 21) (Operand.const (Value.int IntKind.i64 1)) 3, 3, none⟩,
  ⟨some 4, Op.assign (Operand.tmp 22), 3, none⟩]
abbrev scan_Next_b22 : LC := .reg false scan_Next_r21
abbrev scan_Next_b23 : LC := .seq scan_Next_b20 scan_Next_b22
abbrev scan_Next_b24 : LC := .seq scan_Next_b17 scan_Next_b23
abbrev scan_Next_b25 : LC := .loop scan_Next_b24
abbrev scan_Next_b26 : LC := .block 0 scan_Next_b25
abbrev scan_Next_r27 : List LO := [⟨some 26, Op.move (Operand.tmp 3), 31, none⟩,
  ⟨some 27, Op.move (Operand.tmp 4), 3, none⟩,
  ⟨some 28, Op.indexAddr 31 (Operand.tmp 26) (Operand.tmp 27), 0, none⟩,
  ⟨some 29, Op.load 5 (Operand.tmp 28), 5, none⟩,
  ⟨some 30, Op.binOp BinOp.add 5 (Operand.tmp 29) (Operand.const (Value.int IntKind.u8 1)) 5, 5, none⟩,
  ⟨some 31, Op.indexAddr 31 (Operand.tmp 26) (Operand.tmp 27), 0, none⟩,
  ⟨none, Op.store 5 (Operand.tmp 31) (Operand.tmp 30), 0, none⟩]
abbrev scan_Next_b28 : LC := .reg false scan_Next_r27
abbrev scan_Next_r29 : List LO := [⟨some 32, Op.move (Operand.tmp 3), 31, none⟩,
  ⟨some 33, Op.convert 31 9 (Operand.tmp 32), 9, none⟩,
  ⟨some 34, Op.call { callee := Callee.value (Operand.func 15), args := #[Operand.tmp 33], argTypes := #[9] }, 9, none⟩,
  ⟨some 2, Op.assign (Operand.tmp 34), 9, none⟩]
abbrev scan_Next_b30 : LC := .reg false scan_Next_r29
abbrev scan_Next_b31 : LC := .seq scan_Next_b30 .ret
abbrev scan_Next_b32 : LC := .seq scan_Next_b28 scan_Next_b31
abbrev scan_Next_b33 : LC := .seq scan_Next_b26 scan_Next_b32
abbrev scan_Next_b34 : LC := .seq scan_Next_b13 scan_Next_b33
abbrev scan_Next_b35 : LC := .seq scan_Next_b11 scan_Next_b34
abbrev scan_Next_b36 : LC := .seq scan_Next_b9 scan_Next_b35
abbrev scan_Next_b37 : LC := .seq scan_Next_b2 scan_Next_b36
theorem scan_Next_k : FnOk E 19 35 [.tmp 2] scan_Next_b37 := ⟨⟨Go.Proofs.Tryd.f19, by kernel_rfl, by kernel_rfl, by kernel_rfl, by kernel_rfl, by kernel_rfl⟩, rfl⟩
noncomputable def scan_Next_l1 : (List Int × Int) → Option (Step (List Int × Int) (List Int × Int)) := fun (x6, x7) => Option.bind (ixl x6 x7) (fun x14 => (if (x14 == 57) = true then Option.bind (ixl x6 x7) (fun x15 => some (Step.next ((List.set x6 (Int.toNat x7) 48), (w64 (x7 - 1))))) else some (Step.done (x6, x7))))
noncomputable def scan_Next (a0 : Str) : Option (Str) := Option.bind (scan_Run a0 0 1) (fun x1 => (if (x1 != (List.length a0 : Int)) = true then some [49] else Option.bind (cat [48] a0) (fun x2 => Option.bind (tob x2) (fun x3 => Option.bind (loopC (scan_Next_l1) (x3, (w64 ((List.length x3 : Int) - 1)))) (fun (x12, x13) => Option.bind (ixl x12 x13) (fun x16 => Option.bind (ixl x12 x13) (fun x17 => Option.bind (scan_Trim (ofb (List.set x12 (Int.toNat x13) (IntKind.wrap .u8 (x16 + 1))))) (fun x18 => some x18))))))))
theorem scan_Next_ok (a0 : Str) : Ct E 19 [bs a0] (scan_Next a0) (fun r : Str => bs r) := ct_intro (N := 35) (L := scan_Next_b37) scan_Next_k rfl (Nat.le_of_ble_eq_true rfl) (by kernel_rfl) (by
  unfold scan_Next
  refine jc_seq ?_
  refine jc_reg ?_
  refine jr_seg 0 1 [0] [] (st1 := ⟨[(0, .av (bs a0))], [], 0⟩) (by kernel_rfl) ?_
  refine jr_nil rfl ?_
  refine jx_seqN ?_
  refine jc_seq ?_
  refine jc_seq ?_
  refine jc_reg ?_
  refine jr_seg 0 1 [0, 5] [] (st1 := ⟨[(0, .av (bs a0)), (5, .av (bs a0))], [], 0⟩) (by kernel_rfl) ?_
  refine jr_callF (i := 1) rfl rfl rfl rfl (vs := [bs a0, iv 0, iv 1]) (by kernel_rfl) (snapL_cons rfl (snapL_cons rfl (snapL_cons rfl (snapL_nil _)))) (all2_cons (fle_refl _) (all2_cons (fle_refl _) (all2_cons (fle_refl _) all2_nil))) (scan_Run_ok a0 0 1) (fun _ => rfl) (fun _ => rfl) ?_
  intro x1 h1
  refine jr_seg 2 3 [0, 9] [] (st1 := ⟨[(0, .av (bs a0)), (9, .av (bv (x1 != (List.length a0 : Int))))], [], 0⟩) (by kernel_rfl) ?_
  refine jr_nil rfl ?_
  refine jx_seqN ?_
  refine jc_cond (g := 9) (c := (x1 != (List.length a0 : Int))) (by kernel_rfl) ?_ ?_
  · intro _
    refine jc_seq ?_
    refine jc_reg ?_
    refine jr_seg 0 1 [2] [] (st1 := ⟨[(2, .av (bs [49]))], [], 0⟩) (by kernel_rfl) ?_
    refine jr_nil rfl ?_
    refine jx_seqN ?_
    refine jc_ret ?_
    refine jx_seqR ?_
    exact jx_retF (.inr rfl) (v := bs [49]) (by kernel_rfl) rfl (fle_refl _)
  · intro _
    refine jc_skip ?_
    refine jx_seqN ?_
    refine jc_seq ?_
    refine jc_reg ?_
    refine jr_seg 0 1 [10] [] (st1 := ⟨[(10, .av (bs a0))], [], 0⟩) (by kernel_rfl) ?_
    refine jr_part (i := 1) (mo := cat [48] a0) rfl rfl rfl rfl (fun _ hc => aop_cat (by kernel_rfl) (by kernel_rfl) hc) (fun _ => rfl) ?_
    intro x2 h2
    refine jr_part (i := 2) (mo := tob x2) rfl rfl rfl rfl (fun _ hc => aop_tob (e := 5) (st := .string) (by kernel_rfl) (by kernel_rfl) (by kernel_rfl) (by kernel_rfl) hc) (fun _ => rfl) ?_
    intro x3 h3
    refine jr_seg 3 1 [3] [0] (st1 := ⟨[(3, .av (.osl 0 0 (List.length x3) 1))], [(0, .rows 1 (List.map cB x3))], 1⟩) (by kernel_rfl) ?_
    refine jr_nil rfl ?_
    refine jx_seqN ?_
    refine jc_seq ?_
    refine jc_reg ?_
    refine jr_seg 0 4 [3, 4] [0] (st1 := ⟨[(3, .av (.osl 0 0 (List.length x3) 1)), (4, .av (iv (w64 ((List.length x3 : Int) - 1))))], [(0, .rows 1 (List.map cB x3))], 1⟩) (by kernel_rfl) ?_
    refine jr_nil rfl ?_
    refine jx_seqN ?_
    refine jc_seq ?_
    refine jc_block ?_
    refine jc_bind (fun (x12, x13) => ⟨[(3, .av (.osl 0 0 (List.length x12) 1)), (4, .av (iv x13))], [(0, .rows 1 (List.map cB x12))], 1⟩) (fun (x12, x13) => (.exit 0)) (jc_loop (fun (x6, x7) => ⟨[(3, .av (.osl 0 0 (List.length x6) 1)), (4, .av (iv x7))], [(0, .rows 1 (List.map cB x6))], 1⟩) (wk_ren [(0, some 0)] (fix_nil _) rfl (by kernel_rfl) (allp_cons (.inl ⟨0, _, _, _, rfl, rfl, rfl, .inr ⟨rfl, noid_map ni_B _⟩⟩) allp_nil)) ?_) ?_
    · rintro ⟨x6, x7⟩
      unfold scan_Next_l1
      refine jc_seq ?_
      refine jc_seq ?_
      refine jc_reg ?_
      refine jr_seg 0 2 [3, 4, 16, 17] [0] (st1 := ⟨[(3, .av (.osl 0 0 (List.length x6) 1)), (4, .av (iv x7)), (16, .av (.osl 0 0 (List.length x6) 1)), (17, .av (iv x7))], [(0, .rows 1 (List.map cB x6))], 1⟩) (by kernel_rfl) ?_
      refine jr_part (i := 2) (mo := ixl x6 x7) rfl rfl rfl rfl (fun _ hc => aop_ixo0 (sz := 1) (e := 5) (kk := .i64) (id := 0) (by kernel_rfl) (by kernel_rfl) (by kernel_rfl) (by kernel_rfl) hc) (fun _ => rfl) ?_
      intro x14 h14
      refine jr_one (i := 3) (v := .s (.int .u8 x14)) rfl rfl rfl rfl (aop_ldo (l := x6) (c := cB) (id := 0) (k := (Int.toNat x7)) (sz := 1) (off := 0) (a := x14) (by kernel_rfl) (by kernel_rfl) (ixl_lt h14).2.2 (by kernel_rfl)) rfl ?_
      refine jr_seg 4 1 [3, 4, 20] [0] (st1 := ⟨[(3, .av (.osl 0 0 (List.length x6) 1)), (4, .av (iv x7)), (20, .av (bv (x14 == 57)))], [(0, .rows 1 (List.map cB x6))], 1⟩) (by kernel_rfl) ?_
      refine jr_nil rfl ?_
      refine jx_seqN ?_
      refine jc_cond (g := 20) (c := (x14 == 57)) (by kernel_rfl) ?_ ?_
      · intro _
        refine jc_skip ?_
        refine jx_seqN ?_
        refine jc_seq ?_
        refine jc_block ?_
        refine jc_reg ?_
        refine jr_seg 0 2 [3, 4, 23, 24] [0] (st1 := ⟨[(3, .av (.osl 0 0 (List.length x6) 1)), (4, .av (iv x7)), (23, .av (.osl 0 0 (List.length x6) 1)), (24, .av (iv x7))], [(0, .rows 1 (List.map cB x6))], 1⟩) (by kernel_rfl) ?_
        refine jr_part (i := 2) (mo := ixl x6 x7) rfl rfl rfl rfl (fun _ hc => aop_ixo0 (sz := 1) (e := 5) (kk := .i64) (id := 0) (by kernel_rfl) (by kernel_rfl) (by kernel_rfl) (by kernel_rfl) hc) (fun _ => rfl) ?_
        intro x15 h15
        refine jr_sto (i := 3) [3, 4] [0] (st1 := ⟨[(3, .av (.osl 0 0 (List.length (List.set x6 (Int.toNat x7) 48)) 1)), (4, .av (iv x7))], [(0, .rows 1 (List.map cB (List.set x6 (Int.toNat x7) 48)))], 1⟩) rfl rfl rfl rfl (aop_sto (l := x6) (c := cB) (id := 0) (k := (Int.toNat x7)) (sz := 1) (off := 0) (a := x15) (a' := 48) (w := .s (.int .u8 48)) (cs := [.s (.int .u8 48)]) (by kernel_rfl) (by kernel_rfl) (by kernel_rfl) (by kernel_rfl) (by kernel_rfl) (ixl_lt h15).2.2 (Nat.le_of_ble_eq_true rfl) (by kernel_rfl)) (by simp only [List.length_set]; kernel_rfl) ?_
        refine jr_nil rfl ?_
        refine jx_blkN ?_
        refine jx_seqN ?_
        refine jc_reg ?_
        refine jr_seg 0 3 [3, 4] [0] (st1 := ⟨[(3, .av (.osl 0 0 (List.length (List.set x6 (Int.toNat x7) 48)) 1)), (4, .av (iv (w64 (x7 - 1))))], [(0, .rows 1 (List.map cB (List.set x6 (Int.toNat x7) 48)))], 1⟩) (by kernel_rfl) ?_
        refine jr_nil rfl ?_
        exact jx_next (wk_ren [(0, some 0)] (fix_nil _) rfl (by kernel_rfl) (allp_cons (.inl ⟨0, _, _, _, rfl, rfl, rfl, .inr ⟨rfl, noid_map ni_B _⟩⟩) allp_nil))
      · intro _
        refine jc_exit ?_
        refine jx_seqE ?_
        exact jx_done rfl nofun (wk_ren [(0, some 0)] (fix_nil _) rfl (by kernel_rfl) (allp_cons (.inl ⟨0, _, _, _, rfl, rfl, rfl, .inr ⟨rfl, noid_map ni_B _⟩⟩) allp_nil))
    · rintro ⟨x12, x13⟩
      refine jx_blkE ?_
      refine jx_seqN ?_
      refine jc_seq ?_
      refine jc_reg ?_
      refine jr_seg 0 2 [3, 26, 27] [0] (st1 := ⟨[(3, .av (.osl 0 0 (List.length x12) 1)), (26, .av (.osl 0 0 (List.length x12) 1)), (27, .av (iv x13))], [(0, .rows 1 (List.map cB x12))], 1⟩) (by kernel_rfl) ?_
      refine jr_part (i := 2) (mo := ixl x12 x13) rfl rfl rfl rfl (fun _ hc => aop_ixo0 (sz := 1) (e := 5) (kk := .i64) (id := 0) (by kernel_rfl) (by kernel_rfl) (by kernel_rfl) (by kernel_rfl) hc) (fun _ => rfl) ?_
      intro x16 h16
      refine jr_one (i := 3) (v := .s (.int .u8 x16)) rfl rfl rfl rfl (aop_ldo (l := x12) (c := cB) (id := 0) (k := (Int.toNat x13)) (sz := 1) (off := 0) (a := x16) (by kernel_rfl) (by kernel_rfl) (ixl_lt h16).2.2 (by kernel_rfl)) rfl ?_
      refine jr_seg 4 1 [3, 26, 27, 30] [0] (st1 := ⟨[(3, .av (.osl 0 0 (List.length x12) 1)), (26, .av (.osl 0 0 (List.length x12) 1)), (27, .av (iv x13)), (30, .av (.s (.int .u8 (IntKind.wrap .u8 (x16 + 1)))))], [(0, .rows 1 (List.map cB x12))], 1⟩) (by kernel_rfl) ?_
      refine jr_part (i := 5) (mo := ixl x12 x13) rfl rfl rfl rfl (fun _ hc => aop_ixo0 (sz := 1) (e := 5) (kk := .i64) (id := 0) (by kernel_rfl) (by kernel_rfl) (by kernel_rfl) (by kernel_rfl) hc) (fun _ => rfl) ?_
      intro x17 h17
      refine jr_sto (i := 6) [3] [0] (st1 := ⟨[(3, .av (.osl 0 0 (List.length (List.set x12 (Int.toNat x13) (IntKind.wrap .u8 (x16 + 1)))) 1))], [(0, .rows 1 (List.map cB (List.set x12 (Int.toNat x13) (IntKind.wrap .u8 (x16 + 1)))))], 1⟩) rfl rfl rfl rfl (aop_sto (l := x12) (c := cB) (id := 0) (k := (Int.toNat x13)) (sz := 1) (off := 0) (a := x17) (a' := (IntKind.wrap .u8 (x16 + 1))) (w := .s (.int .u8 (IntKind.wrap .u8 (x16 + 1)))) (cs := [.s (.int .u8 (IntKind.wrap .u8 (x16 + 1)))]) (by kernel_rfl) (by kernel_rfl) (by kernel_rfl) (by kernel_rfl) (by kernel_rfl) (ixl_lt h17).2.2 (Nat.le_of_ble_eq_true rfl) (by kernel_rfl)) (by simp only [List.length_set]; kernel_rfl) ?_
      refine jr_nil rfl ?_
      refine jx_seqN ?_
      refine jc_seq ?_
      refine jc_reg ?_
      refine jr_seg 0 1 [32] [0] (st1 := ⟨[(32, .av (.osl 0 0 (List.length (List.set x12 (Int.toNat x13) (IntKind.wrap .u8 (x16 + 1)))) 1))], [(0, .rows 1 (List.map cB (List.set x12 (Int.toNat x13) (IntKind.wrap .u8 (x16 + 1)))))], 1⟩) (by kernel_rfl) ?_
      refine jr_one (i := 1) rfl rfl rfl rfl (aop_ofb_o (e := 5) (id := 0) (l := (List.set x12 (Int.toNat x13) (IntKind.wrap .u8 (x16 + 1)))) (by kernel_rfl) (by kernel_rfl) (by kernel_rfl) (by kernel_rfl) (by kernel_rfl)) rfl ?_
      refine jr_callF (i := 2) rfl rfl rfl rfl (vs := [bs (ofb (List.set x12 (Int.toNat x13) (IntKind.wrap .u8 (x16 + 1))))]) (by kernel_rfl) (snapL_cons rfl (snapL_nil _)) (all2_cons (fle_refl _) all2_nil) (scan_Trim_ok (ofb (List.set x12 (Int.toNat x13) (IntKind.wrap .u8 (x16 + 1))))) (fun _ => rfl) (fun _ => rfl) ?_
      intro x18 h18
      refine jr_seg 3 1 [2] [] (st1 := ⟨[(2, .av (bs x18))], [], 2⟩) (by kernel_rfl) ?_
      refine jr_nil rfl ?_
      refine jx_seqN ?_
      refine jc_ret ?_
      exact jx_retF (.inr rfl) (v := bs x18) (by kernel_rfl) rfl (fle_refl _))
end Go.Vm

set_option maxRecDepth 100000
set_option maxHeartbeats 0
set_option linter.unusedVariables false
set_option linter.unusedSimpArgs false
namespace Go.Vm
open Go
/-! ### dovetail/dovetailref01.Is -/
abbrev ref01_Is_r1 : List LO := [⟨some 4, Op.assign (Operand.const (Value.bool false)), 4, none⟩]
abbrev ref01_Is_b2 : LC := .reg false ref01_Is_r1
abbrev ref01_Is_r3 : List LO := [⟨some 9, Op.move (Operand.tmp 0), 5, none⟩,
  ⟨some 10, Op.binOp BinOp.geq 5 (Operand.tmp 9) (Operand.const (Value.int IntKind.u8 48)) 5, 4, none⟩,
  ⟨some 11, Op.move (Operand.tmp 10), 4, none⟩,
  ⟨some 12, Op.move (Operand.tmp 0), 5, (some (11, true))⟩,
  ⟨some 13, Op.binOp BinOp.leq 5 (Operand.tmp 12) (Operand.const (Value.int IntKind.u8 57)) 5, 4, (some (11, true))⟩,
  ⟨some 14, Op.pick (Operand.tmp 11) (Operand.tmp 13) (Operand.const (Value.bool false)), 4, none⟩,
  ⟨some 5, Op.assign (Operand.tmp 14), 4, none⟩]
abbrev ref01_Is_b4 : LC := .reg false ref01_Is_r3
abbrev ref01_Is_r5 : List LO := [⟨some 15, Op.move (Operand.tmp 0), 5, none⟩,
  ⟨some 16, Op.binOp BinOp.geq 5 (Operand.tmp 15) (Operand.const (Value.int IntKind.u8 97)) 5, 4, none⟩,
  ⟨some 17, Op.move (Operand.tmp 16), 4, none⟩,
  ⟨some 18, Op.move (Operand.tmp 0), 5, (some (17, true))⟩,
  ⟨some 19, Op.binOp BinOp.leq 5 (Operand.tmp 18) (Operand.const (Value.int IntKind.u8 122)) 5, 4, (some (17, true))⟩,
  ⟨some 20, Op.pick (Operand.tmp 17) (Operand.tmp 19) (Operand.const (Value.bool false)), 4, none⟩,
  ⟨some 6, Op.assign (Operand.tmp 20), 4, none⟩]
abbrev ref01_Is_b6 : LC := .reg false ref01_Is_r5
abbrev ref01_Is_r7 : List LO := [⟨some 21, Op.move (Operand.tmp 0), 5, none⟩,
  ⟨some 22, Op.binOp BinOp.geq 5 (Operand.tmp 21) (Operand.const (Value.int IntKind.u8 65)) 5, 4, none⟩,
  ⟨some 23, Op.move (Operand.tmp 22), 4, none⟩,
  ⟨some 24, Op.move (Operand.tmp 0), 5, (some (23, true))⟩,
  ⟨some 25, Op.binOp BinOp.leq 5 (Operand.tmp 24) (Operand.const (Value.int IntKind.u8 90)) 5, 4, (some (23, true))⟩,
  ⟨some 26, Op.pick (Operand.tmp 23) (Operand.tmp 25) (Operand.const (Value.bool false)), 4, none⟩,
  ⟨some 7, Op.assign (Operand.tmp 26), 4, none⟩]
abbrev ref01_Is_b8 : LC := .reg false ref01_Is_r7
abbrev ref01_Is_r9 : List LO := [⟨some 27, Op.move (Operand.tmp 0), 5, none⟩,
  ⟨some 28, Op.binOp BinOp.eql 5 (Operand.tmp 27) (Operand.const (Value.int IntKind.u8 32)) 5, 4, none⟩,
  ⟨some 29, Op.move (Operand.tmp 28), 4, none⟩,
  ⟨some 30, Op.move (Operand.tmp 0), 5, (some (29, false))⟩,
  ⟨some 31, Op.binOp BinOp.eql 5 (Operand.tmp 30) (Operand.const (Value.int IntKind.u8 9)) 5, 4, (some (29, false))⟩,
  ⟨some 32, Op.pick (Operand.tmp 29) (Operand.const (Value.bool true)) (Operand.tmp 31), 4, none⟩,
  ⟨some 8, Op.assign (Operand.tmp 32), 4, none⟩]
abbrev ref01_Is_b10 : LC := .reg false ref01_Is_r9
abbrev ref01_Is_r11 : List LO := [⟨some 33, Op.move (Operand.tmp 1), 3, none⟩]
abbrev ref01_Is_b12 : LC := .reg false ref01_Is_r11
abbrev ref01_Is_r13 : List LO := [⟨some 35, Op.binOp BinOp.eql 3 (Operand.tmp 33) (Operand.const (Value.int IntKind.i64 1)) 3, 4, none⟩,
  ⟨some 34, Op.assign (Operand.tmp 35), 4, none⟩]
abbrev ref01_Is_b14 : LC := .reg false ref01_Is_r13
abbrev ref01_Is_r15 : List LO := [⟨some 36, Op.move (Operand.tmp 5), 4, none⟩,
  ⟨some 4, Op.assign (Operand.tmp 36), 4, none⟩]
abbrev ref01_Is_b16 : LC := .reg false ref01_Is_r15
abbrev ref01_Is_b17 : LC := .seq ref01_Is_b16 .ret
abbrev ref01_Is_r18 : List LO := [⟨some 38, Op.binOp BinOp.eql 3 (Operand.tmp 33) (Operand.const (Value.int IntKind.i64 2)) 3, 4, none⟩,
  ⟨some 37, Op.assign (Operand.tmp 38), 4, none⟩]
abbrev ref01_Is_b19 : LC := .reg false ref01_Is_r18
abbrev ref01_Is_r20 : List LO := [⟨some 39, Op.move (Operand.tmp 6), 4, none⟩,
  ⟨some 4, Op.assign (Operand.tmp 39), 4, none⟩]
abbrev ref01_Is_b21 : LC := .reg false ref01_Is_r20
abbrev ref01_Is_b22 : LC := .seq ref01_Is_b21 .ret
abbrev ref01_Is_r23 : List LO := [⟨some 41, Op.binOp BinOp.eql 3 (Operand.tmp 33) (Operand.const (Value.int IntKind.i64 3)) 3, 4, none⟩,
  ⟨some 40, Op.assign (Operand.tmp 41), 4, none⟩]
abbrev ref01_Is_b24 : LC := .reg false ref01_Is_r23
abbrev ref01_Is_r25 : List LO := [⟨some 42, Op.move (Operand.tmp 7), 4, none⟩,
  ⟨some 4, Op.assign (Operand.tmp 42), 4, none⟩]
abbrev ref01_Is_b26 : LC := .reg false ref01_Is_r25
abbrev ref01_Is_b27 : LC := .seq ref01_Is_b26 .ret
abbrev ref01_Is_r28 : List LO := [⟨some 44, Op.binOp BinOp.eql 3 (Operand.tmp 33) (Operand.const (Value.int IntKind.i64 4)) 3, 4, none⟩,
  ⟨some 43, Op.assign (Operand.tmp 44), 4, none⟩]
abbrev ref01_Is_b29 : LC := .reg false ref01_Is_r28
abbrev ref01_Is_r30 : List LO := [⟨some 45, Op.move (Operand.tmp 6), 4, none⟩,
  ⟨some 46, Op.move (Operand.tmp 45), 4, none⟩,
  ⟨some 47, Op.move (Operand.tmp 7), 4, (some (46, false))⟩,
  ⟨some 48, Op.pick (Operand.tmp 46) (Operand.const (Value.bool true)) (Operand.tmp 47), 4, none⟩,
  ⟨some 4, Op.assign (Operand.tmp 48), 4, none⟩]
abbrev ref01_Is_b31 : LC := .reg false ref01_Is_r30
abbrev ref01_Is_b32 : LC := .seq ref01_Is_b31 .ret
abbrev ref01_Is_r33 : List LO := [⟨some 50, Op.binOp BinOp.eql 3 (Operand.tmp 33) (Operand.const (Value.int IntKind.i64 5)) 3, 4, none⟩,
  ⟨some 49, Op.assign (Operand.tmp 50), 4, none⟩]
abbrev ref01_Is_b34 : LC := .reg false ref01_Is_r33
abbrev ref01_Is_r35 : List LO := [⟨some 51, Op.move (Operand.tmp 6), 4, none⟩,
  ⟨some 52, Op.move (Operand.tmp 51), 4, none⟩,
  ⟨some 53, Op.move (Operand.tmp 7), 4, (some (52, false))⟩,
  ⟨some 54, Op.pick (Operand.tmp 52) (Operand.const (Value.bool true)) (Operand.tmp 53), 4, none⟩,
  ⟨some 55, Op.move (Operand.tmp 54), 4, none⟩,
  ⟨some 56, Op.move (Operand.tmp 5), 4, (some (55, false))⟩,
  ⟨some 57, Op.pick (Operand.tmp 55) (Operand.const (Value.bool true)) (Operand.tmp 56), 4, none⟩,
  ⟨some 4, Op.assign (Operand.tmp 57), 4, none⟩]
abbrev ref01_Is_b36 : LC := .reg false ref01_Is_r35
abbrev ref01_Is_b37 : LC := .seq ref01_Is_b36 .ret
abbrev ref01_Is_r38 : List LO := [⟨some 59, Op.binOp BinOp.eql 3 (Operand.tmp 33) (Operand.const (Value.int IntKind.i64 6)) 3, 4, none⟩,
  ⟨some 58, Op.assign (Operand.tmp 59), 4, none⟩]
abbrev ref01_Is_b39 : LC := .reg false ref01_Is_r38
abbrev ref01_Is_r40 : List LO := [⟨some 60, Op.move (Operand.tmp 8), 4, none⟩,
  ⟨some 4, Op.assign (Operand.tmp 60), 4, none⟩]
abbrev ref01_Is_b41 : LC := .reg false ref01_Is_r40
abbrev ref01_Is_b42 : LC := .seq ref01_Is_b41 .ret
abbrev ref01_Is_r43 : List LO := [⟨some 62, Op.binOp BinOp.eql 3 (Operand.tmp 33) (Operand.const (Value.int IntKind.i64 7)) 3, 4, none⟩,
  ⟨some 61, Op.assign (Operand.tmp 62), 4, none⟩]
abbrev ref01_Is_b44 : LC := .reg false ref01_Is_r43
abbrev ref01_Is_r45 : List LO := [⟨some 63, Op.move (Operand.tmp 8), 4, none⟩,
  ⟨some 64, Op.move (Operand.tmp 63), 4, none⟩,
  ⟨some 65, Op.move (Operand.tmp 0), 5, (some (64, false))⟩,
  ⟨some 66, Op.binOp BinOp.eql 5 (Operand.tmp 65) (Operand.const (Value.int IntKind.u8 10)) 5, 4, (some (64, false))⟩,
  ⟨some 67, Op.pick (Operand.tmp 64) (Operand.const (Value.bool true)) (Operand.tmp 66), 4, none⟩,
  ⟨some 68, Op.move (Operand.tmp 67), 4, none⟩,
  ⟨some 69, Op.move (Operand.tmp 0), 5, (some (68, false))⟩,
  ⟨some 70, Op.binOp BinOp.eql 5 (Operand.tmp 69) (Operand.const (Value.int IntKind.u8 13)) 5, 4, (some (68, false))⟩,
  ⟨some 71, Op.pick (Operand.tmp 68) (Operand.const (Value.bool true)) (Operand.tmp 70), 4, none⟩,
  ⟨some 4, Op.assign (Operand.tmp 71), 4, none⟩]
abbrev ref01_Is_b46 : LC := .reg false ref01_Is_r45
abbrev ref01_Is_b47 : LC := .seq ref01_Is_b46 .ret
abbrev ref01_Is_b48 : LC := .cond (Operand.tmp 61) ref01_Is_b47 .skip
abbrev ref01_Is_b49 : LC := .seq ref01_Is_b44 ref01_Is_b48
abbrev ref01_Is_b50 : LC := .cond (Operand.tmp 58) ref01_Is_b42 ref01_Is_b49
abbrev ref01_Is_b51 : LC := .seq ref01_Is_b39 ref01_Is_b50
abbrev ref01_Is_b52 : LC := .cond (Operand.tmp 49) ref01_Is_b37 ref01_Is_b51
abbrev ref01_Is_b53 : LC := .seq ref01_Is_b34 ref01_Is_b52
abbrev ref01_Is_b54 : LC := .cond (Operand.tmp 43) ref01_Is_b32 ref01_Is_b53
abbrev ref01_Is_b55 : LC := .seq ref01_Is_b29 ref01_Is_b54
abbrev ref01_Is_b56 : LC := .cond (Operand.tmp 40) ref01_Is_b27 ref01_Is_b55
abbrev ref01_Is_b57 : LC := .seq ref01_Is_b24 ref01_Is_b56
abbrev ref01_Is_b58 : LC := .cond (Operand.tmp 37) ref01_Is_b22 ref01_Is_b57
abbrev ref01_Is_b59 : LC := .seq ref01_Is_b19 ref01_Is_b58
abbrev ref01_Is_b60 : LC := .cond (Operand.tmp 34) ref01_Is_b17 ref01_Is_b59
abbrev ref01_Is_b61 : LC := .seq ref01_Is_b14 ref01_Is_b60
abbrev ref01_Is_b62 : LC := .block 0 ref01_Is_b61
abbrev ref01_Is_b63 : LC := .seq ref01_Is_b12 ref01_Is_b62
abbrev ref01_Is_r64 : List LO := [⟨some 4, Op.assign (Operand.const (Value.bool false)), 4, none⟩]
abbrev ref01_Is_b65 : LC := .reg false ref01_Is_r64
abbrev ref01_Is_b66 : LC := .seq ref01_Is_b65 .ret
abbrev ref01_Is_b67 : LC := .seq ref01_Is_b63 ref01_Is_b66
abbrev ref01_Is_b68 : LC := .seq ref01_Is_b10 ref01_Is_b67
abbrev ref01_Is_b69 : LC := .seq ref01_Is_b8 ref01_Is_b68
abbrev ref01_Is_b70 : LC := .seq ref01_Is_b6 ref01_Is_b69
abbrev ref01_Is_b71 : LC := .seq ref01_Is_b4 ref01_Is_b70
abbrev ref01_Is_b72 : LC := .seq ref01_Is_b2 ref01_Is_b71
theorem ref01_Is_k : FnOk E 27 72 [.tmp 4] ref01_Is_b72 := ⟨⟨Go.Proofs.Tryd.f27, by kernel_rfl, by kernel_rfl, by kernel_rfl, by kernel_rfl, by kernel_rfl⟩, rfl⟩
noncomputable def ref01_Is (a0 : Int) (a1 : Int) : Option (Bool) := (if (a1 == 1) = true then some ((decide (a0 ≥ 48)) && (decide (a0 ≤ 57))) else (if (a1 == 2) = true then some ((decide (a0 ≥ 97)) && (decide (a0 ≤ 122))) else (if (a1 == 3) = true then some ((decide (a0 ≥ 65)) && (decide (a0 ≤ 90))) else (if (a1 == 4) = true then some (((decide (a0 ≥ 97)) && (decide (a0 ≤ 122))) || ((decide (a0 ≥ 65)) && (decide (a0 ≤ 90)))) else (if (a1 == 5) = true then some ((((decide (a0 ≥ 97)) && (decide (a0 ≤ 122))) || ((decide (a0 ≥ 65)) && (decide (a0 ≤ 90)))) || ((decide (a0 ≥ 48)) && (decide (a0 ≤ 57)))) else (if (a1 == 6) = true then some ((a0 == 32) || (a0 == 9)) else (if (a1 == 7) = true then some ((((a0 == 32) || (a0 == 9)) || (a0 == 10)) || (a0 == 13)) else some false)))))))
theorem ref01_Is_ok (a0 : Int) (a1 : Int) : Ct E 27 [.s (.int .u8 a0), iv a1] (ref01_Is a0 a1) (fun r : Bool => bv r) := ct_intro (N := 72) (L := ref01_Is_b72) ref01_Is_k rfl (Nat.le_of_ble_eq_true rfl) (by kernel_rfl) (by
  unfold ref01_Is
  refine jc_seq ?_
  refine jc_reg ?_
  refine jr_seg 0 1 [0, 1] [] (st1 := ⟨[(0, .av (.s (.int .u8 a0))), (1, .av (iv a1))], [], 0⟩) (by kernel_rfl) ?_
  refine jr_nil rfl ?_
  refine jx_seqN ?_
  refine jc_seq ?_
  refine jc_reg ?_
  refine jr_seg 0 7 [0, 1, 5] [] (st1 := ⟨[(0, .av (.s (.int .u8 a0))), (1, .av (iv a1)), (5, .av (bv ((decide (a0 ≥ 48)) && (decide (a0 ≤ 57)))))], [], 0⟩) (by kernel_rfl) ?_
  refine jr_nil rfl ?_
  refine jx_seqN ?_
  refine jc_seq ?_
  refine jc_reg ?_
  refine jr_seg 0 7 [0, 1, 5, 6] [] (st1 := ⟨[(0, .av (.s (.int .u8 a0))), (1, .av (iv a1)), (5, .av (bv ((decide (a0 ≥ 48)) && (decide (a0 ≤ 57))))), (6, .av (bv ((decide (a0 ≥ 97)) && (decide (a0 ≤ 122)))))], [], 0⟩) (by kernel_rfl) ?_
  refine jr_nil rfl ?_
  refine jx_seqN ?_
  refine jc_seq ?_
  refine jc_reg ?_
  refine jr_seg 0 7 [0, 1, 5, 6, 7] [] (st1 := ⟨[(0, .av (.s (.int .u8 a0))), (1, .av (iv a1)), (5, .av (bv ((decide (a0 ≥ 48)) && (decide (a0 ≤ 57))))), (6, .av (bv ((decide (a0 ≥ 97)) && (decide (a0 ≤ 122))))), (7, .av (bv ((decide (a0 ≥ 65)) && (decide (a0 ≤ 90)))))], [], 0⟩) (by kernel_rfl) ?_
  refine jr_nil rfl ?_
  refine jx_seqN ?_
  refine jc_seq ?_
  refine jc_reg ?_
  refine jr_seg 0 7 [0, 1, 5, 6, 7, 8] [] (st1 := ⟨[(0, .av (.s (.int .u8 a0))), (1, .av (iv a1)), (5, .av (bv ((decide (a0 ≥ 48)) && (decide (a0 ≤ 57))))), (6, .av (bv ((decide (a0 ≥ 97)) && (decide (a0 ≤ 122))))), (7, .av (bv ((decide (a0 ≥ 65)) && (decide (a0 ≤ 90))))), (8, .av (bv ((a0 == 32) || (a0 == 9))))], [], 0⟩) (by kernel_rfl) ?_
  refine jr_nil rfl ?_
  refine jx_seqN ?_
  refine jc_seq ?_
  refine jc_seq ?_
  refine jc_reg ?_
  refine jr_seg 0 1 [0, 5, 6, 7, 8, 33] [] (st1 := ⟨[(0, .av (.s (.int .u8 a0))), (5, .av (bv ((decide (a0 ≥ 48)) && (decide (a0 ≤ 57))))), (6, .av (bv ((decide (a0 ≥ 97)) && (decide (a0 ≤ 122))))), (7, .av (bv ((decide (a0 ≥ 65)) && (decide (a0 ≤ 90))))), (8, .av (bv ((a0 == 32) || (a0 == 9)))), (33, .av (iv a1))], [], 0⟩) (by kernel_rfl) ?_
  refine jr_nil rfl ?_
  refine jx_seqN ?_
  refine jc_block ?_
  refine jc_seq ?_
  refine jc_reg ?_
  refine jr_seg 0 2 [0, 5, 6, 7, 8, 33, 34] [] (st1 := ⟨[(0, .av (.s (.int .u8 a0))), (5, .av (bv ((decide (a0 ≥ 48)) && (decide (a0 ≤ 57))))), (6, .av (bv ((decide (a0 ≥ 97)) && (decide (a0 ≤ 122))))), (7, .av (bv ((decide (a0 ≥ 65)) && (decide (a0 ≤ 90))))), (8, .av (bv ((a0 == 32) || (a0 == 9)))), (33, .av (iv a1)), (34, .av (bv (a1 == 1)))], [], 0⟩) (by kernel_rfl) ?_
  refine jr_nil rfl ?_
  refine jx_seqN ?_
  refine jc_cond (g := 34) (c := (a1 == 1)) (by kernel_rfl) ?_ ?_
  · intro _
    refine jc_seq ?_
    refine jc_reg ?_
    refine jr_seg 0 2 [4] [] (st1 := ⟨[(4, .av (bv ((decide (a0 ≥ 48)) && (decide (a0 ≤ 57)))))], [], 0⟩) (by kernel_rfl) ?_
    refine jr_nil rfl ?_
    refine jx_seqN ?_
    refine jc_ret ?_
    refine jx_blkR ?_
    refine jx_seqR ?_
    exact jx_retF (.inr rfl) (v := bv ((decide (a0 ≥ 48)) && (decide (a0 ≤ 57)))) (by kernel_rfl) rfl (fle_refl _)
  · intro _
    refine jc_seq ?_
    refine jc_reg ?_
    refine jr_seg 0 2 [0, 5, 6, 7, 8, 33, 37] [] (st1 := ⟨[(0, .av (.s (.int .u8 a0))), (5, .av (bv ((decide (a0 ≥ 48)) && (decide (a0 ≤ 57))))), (6, .av (bv ((decide (a0 ≥ 97)) && (decide (a0 ≤ 122))))), (7, .av (bv ((decide (a0 ≥ 65)) && (decide (a0 ≤ 90))))), (8, .av (bv ((a0 == 32) || (a0 == 9)))), (33, .av (iv a1)), (37, .av (bv (a1 == 2)))], [], 0⟩) (by kernel_rfl) ?_
    refine jr_nil rfl ?_
    refine jx_seqN ?_
    refine jc_cond (g := 37) (c := (a1 == 2)) (by kernel_rfl) ?_ ?_
    · intro _
      refine jc_seq ?_
      refine jc_reg ?_
      refine jr_seg 0 2 [4] [] (st1 := ⟨[(4, .av (bv ((decide (a0 ≥ 97)) && (decide (a0 ≤ 122)))))], [], 0⟩) (by kernel_rfl) ?_
      refine jr_nil rfl ?_
      refine jx_seqN ?_
      refine jc_ret ?_
      refine jx_blkR ?_
      refine jx_seqR ?_
      exact jx_retF (.inr rfl) (v := bv ((decide (a0 ≥ 97)) && (decide (a0 ≤ 122)))) (by kernel_rfl) rfl (fle_refl _)
    · intro _
      refine jc_seq ?_
      refine jc_reg ?_
      refine jr_seg 0 2 [0, 5, 6, 7, 8, 33, 40] [] (st1 := ⟨[(0, .av (.s (.int .u8 a0))), (5, .av (bv ((decide (a0 ≥ 48)) && (decide (a0 ≤ 57))))), (6, .av (bv ((decide (a0 ≥ 97)) && (decide (a0 ≤ 122))))), (7, .av (bv ((decide (a0 ≥ 65)) && (decide (a0 ≤ 90))))), (8, .av (bv ((a0 == 32) || (a0 == 9)))), (33, .av (iv a1)), (40, .av (bv (a1 == 3)))], [], 0⟩) (by kernel_rfl) ?_
      refine jr_nil rfl ?_
      refine jx_seqN ?_
      refine jc_cond (g := 40) (c := (a1 == 3)) (by kernel_rfl) ?_ ?_
      · intro _
        refine jc_seq ?_
        refine jc_reg ?_
        refine jr_seg 0 2 [4] [] (st1 := ⟨[(4, .av (bv ((decide (a0 ≥ 65)) && (decide (a0 ≤ 90)))))], [], 0⟩) (by kernel_rfl) ?_
        refine jr_nil rfl ?_
        refine jx_seqN ?_
        refine jc_ret ?_
        refine jx_blkR ?_
        refine jx_seqR ?_
        exact jx_retF (.inr rfl) (v := bv ((decide (a0 ≥ 65)) && (decide (a0 ≤ 90)))) (by kernel_rfl) rfl (fle_refl _)
      · intro _
        refine jc_seq ?_
        refine jc_reg ?_
        refine jr_seg 0 2 [0, 5, 6, 7, 8, 33, 43] [] (st1 := ⟨[(0, .av (.s (.int .u8 a0))), (5, .av (bv ((decide (a0 ≥ 48)) && (decide (a0 ≤ 57))))), (6, .av (bv ((decide (a0 ≥ 97)) && (decide (a0 ≤ 122))))), (7, .av (bv ((decide (a0 ≥ 65)) && (decide (a0 ≤ 90))))), (8, .av (bv ((a0 == 32) || (a0 == 9)))), (33, .av (iv a1)), (43, .av (bv (a1 == 4)))], [], 0⟩) (by kernel_rfl) ?_
        refine jr_nil rfl ?_
        refine jx_seqN ?_
        refine jc_cond (g := 43) (c := (a1 == 4)) (by kernel_rfl) ?_ ?_
        · intro _
          refine jc_seq ?_
          refine jc_reg ?_
          refine jr_seg 0 5 [4] [] (st1 := ⟨[(4, .av (bv (((decide (a0 ≥ 97)) && (decide (a0 ≤ 122))) || ((decide (a0 ≥ 65)) && (decide (a0 ≤ 90))))))], [], 0⟩) (by kernel_rfl) ?_
          refine jr_nil rfl ?_
          refine jx_seqN ?_
          refine jc_ret ?_
          refine jx_blkR ?_
          refine jx_seqR ?_
          exact jx_retF (.inr rfl) (v := bv (((decide (a0 ≥ 97)) && (decide (a0 ≤ 122))) || ((decide (a0 ≥ 65)) && (decide (a0 ≤ 90))))) (by kernel_rfl) rfl (fle_refl _)
        · intro _
          refine jc_seq ?_
          refine jc_reg ?_
          refine jr_seg 0 2 [0, 5, 6, 7, 8, 33, 49] [] (st1 := ⟨[(0, .av (.s (.int .u8 a0))), (5, .av (bv ((decide (a0 ≥ 48)) && (decide (a0 ≤ 57))))), (6, .av (bv ((decide (a0 ≥ 97)) && (decide (a0 ≤ 122))))), (7, .av (bv ((decide (a0 ≥ 65)) && (decide (a0 ≤ 90))))), (8, .av (bv ((a0 == 32) || (a0 == 9)))), (33, .av (iv a1)), (49, .av (bv (a1 == 5)))], [], 0⟩) (by kernel_rfl) ?_
          refine jr_nil rfl ?_
          refine jx_seqN ?_
          refine jc_cond (g := 49) (c := (a1 == 5)) (by kernel_rfl) ?_ ?_
          · intro _
            refine jc_seq ?_
            refine jc_reg ?_
            refine jr_seg 0 8 [4] [] (st1 := ⟨[(4, .av (bv ((((decide (a0 ≥ 97)) && (decide (a0 ≤ 122))) || ((decide (a0 ≥ 65)) && (decide (a0 ≤ 90)))) || ((decide (a0 ≥ 48)) && (decide (a0 ≤ 57))))))], [], 0⟩) (by kernel_rfl) ?_
            refine jr_nil rfl ?_
            refine jx_seqN ?_
            refine jc_ret ?_
            refine jx_blkR ?_
            refine jx_seqR ?_
            exact jx_retF (.inr rfl) (v := bv ((((decide (a0 ≥ 97)) && (decide (a0 ≤ 122))) || ((decide (a0 ≥ 65)) && (decide (a0 ≤ 90)))) || ((decide (a0 ≥ 48)) && (decide (a0 ≤ 57))))) (by kernel_rfl) rfl (fle_refl _)
          · intro _
            refine jc_seq ?_
            refine jc_reg ?_
            refine jr_seg 0 2 [0, 8, 33, 58] [] (st1 := ⟨[(0, .av (.s (.int .u8 a0))), (8, .av (bv ((a0 == 32) || (a0 == 9)))), (33, .av (iv a1)), (58, .av (bv (a1 == 6)))], [], 0⟩) (by kernel_rfl) ?_
            refine jr_nil rfl ?_
            refine jx_seqN ?_
            refine jc_cond (g := 58) (c := (a1 == 6)) (by kernel_rfl) ?_ ?_
            · intro _
              refine jc_seq ?_
              refine jc_reg ?_
              refine jr_seg 0 2 [4] [] (st1 := ⟨[(4, .av (bv ((a0 == 32) || (a0 == 9))))], [], 0⟩) (by kernel_rfl) ?_
              refine jr_nil rfl ?_
              refine jx_seqN ?_
              refine jc_ret ?_
              refine jx_blkR ?_
              refine jx_seqR ?_
              exact jx_retF (.inr rfl) (v := bv ((a0 == 32) || (a0 == 9))) (by kernel_rfl) rfl (fle_refl _)
            · intro _
              refine jc_seq ?_
              refine jc_reg ?_
              refine jr_seg 0 2 [0, 8, 61] [] (st1 := ⟨[(0, .av (.s (.int .u8 a0))), (8, .av (bv ((a0 == 32) || (a0 == 9)))), (61, .av (bv (a1 == 7)))], [], 0⟩) (by kernel_rfl) ?_
              refine jr_nil rfl ?_
              refine jx_seqN ?_
              refine jc_cond (g := 61) (c := (a1 == 7)) (by kernel_rfl) ?_ ?_
              · intro _
                refine jc_seq ?_
                refine jc_reg ?_
                refine jr_seg 0 10 [4] [] (st1 := ⟨[(4, .av (bv ((((a0 == 32) || (a0 == 9)) || (a0 == 10)) || (a0 == 13))))], [], 0⟩) (by kernel_rfl) ?_
                refine jr_nil rfl ?_
                refine jx_seqN ?_
                refine jc_ret ?_
                refine jx_blkR ?_
                refine jx_seqR ?_
                exact jx_retF (.inr rfl) (v := bv ((((a0 == 32) || (a0 == 9)) || (a0 == 10)) || (a0 == 13))) (by kernel_rfl) rfl (fle_refl _)
              · intro _
                refine jc_skip ?_
                refine jx_blkN ?_
                refine jx_seqN ?_
                refine jc_seq ?_
                refine jc_reg ?_
                refine jr_seg 0 1 [4] [] (st1 := ⟨[(4, .av (bv false))], [], 0⟩) (by kernel_rfl) ?_
                refine jr_nil rfl ?_
                refine jx_seqN ?_
                refine jc_ret ?_
                exact jx_retF (.inr rfl) (v := bv false) (by kernel_rfl) rfl (fle_refl _))
end Go.Vm

set_option maxRecDepth 100000
set_option maxHeartbeats 0
set_option linter.unusedVariables false
set_option linter.unusedSimpArgs false
namespace Go.Vm
open Go
/-! ### dovetail/dovetailref01.Run -/
abbrev ref01_Run_r1 : List LO := [⟨some 6, Op.assign (Operand.const (Value.int IntKind.i64 0)), 3, none⟩]
abbrev ref01_Run_b2 : LC := .reg false ref01_Run_r1
abbrev ref01_Run_r3 : List LO := [⟨some 7, Op.move (Operand.tmp 1), 3, none⟩,
  ⟨some 8, Op.binOp BinOp.lss 3 (Operand.tmp 7) (Operand.const (Value.int IntKind.i64 0)) 3, 4, none⟩,
  ⟨some 9, Op.move (Operand.tmp 8), 4, none⟩,
  ⟨some 10, Op.move (Operand.tmp 1), 3, (some (9, false))⟩,
  ⟨some 11, Op.move (Operand.tmp 0), 9, (some (9, false))⟩,
  ⟨some 12, Op.call { callee := Callee.builtin Builtin.len, args := #[Operand.tmp 11], argTypes := #[9] }, 3, (some (9, false))⟩,
  ⟨some 13, Op.binOp BinOp.gtr 3 (Operand.tmp 10) (Operand.tmp 12) 3, 4, (some (9, false))⟩,
  ⟨some 14, Op.pick (Operand.tmp 9) (Operand.const (Value.bool true)) (Operand.tmp 13), 4, none⟩]
abbrev ref01_Run_b4 : LC := .reg false ref01_Run_r3
abbrev ref01_Run_r5 : List LO := [⟨some 15, Op.move (Operand.tmp 1), 3, none⟩,
  ⟨some 6, Op.assign (Operand.tmp 15), 3, none⟩]
abbrev ref01_Run_b6 : LC := .reg false ref01_Run_r5
abbrev ref01_Run_b7 : LC := .seq ref01_Run_b6 .ret
abbrev ref01_Run_b8 : LC := .cond (Operand.tmp 14) ref01_Run_b7 .skip
abbrev ref01_Run_b9 : LC := .seq ref01_Run_b4 ref01_Run_b8
abbrev ref01_Run_r10 : List LO := [⟨some 16, Op.move (Operand.tmp 1), 3, none⟩,
  ⟨some 17, Op.move (Operand.tmp 0), 9, none⟩,
  ⟨some 18, Op.call { callee := Callee.builtin Builtin.len, args := #[Operand.tmp 17], argTypes := #[9] }, 3, none⟩,
  ⟨some 19, Op.binOp BinOp.lss 3 (Operand.tmp 16) (Operand.tmp 18) 3, 4, none⟩,
  ⟨some 20, Op.move (Operand.tmp 19), 4, none⟩,
  ⟨some 21, Op.move (Operand.tmp 0), 9, (some (20, true))⟩,
  ⟨some 22, Op.move (Operand.tmp 1), 3, (some (20, true))⟩,
  ⟨some 23, Op.index 9 (Operand.tmp 21) (Operand.tmp 22), 5, (some (20, true))⟩,
  ⟨some 24, Op.move (Operand.tmp 2), 3, (some (20, true))⟩,
  ⟨some 25, Op.call { callee := Callee.value (Operand.func 27), args := #[Operand.tmp 23, Operand.tmp 24], argTypes := #[5, 3] }, 4, (some (20, true))⟩,
  ⟨some 26, Op.pick (Operand.tmp 20) (Operand.tmp 25) (Operand.const (Value.bool false)), 4, none⟩]
abbrev ref01_Run_b11 : LC := .reg false ref01_Run_r10
abbrev ref01_Run_b12 : LC := .cond (Operand.tmp 26) .skip (.exit 0)
abbrev ref01_Run_b13 : LC := .seq ref01_Run_b11 ref01_Run_b12
abbrev ref01_Run_r14 : List LO := [⟨some 27, Op.move (Operand.tmp 1), 3, none⟩,
  ⟨some 28, Op.binOp BinOp.add 3 (Operand.tmp 27) (Operand.const (Value.int IntKind.i64 1)) 3, 3, none⟩,
  ⟨some 1, Op.assign (Operand.tmp 28), 3, none⟩]
abbrev ref01_Run_b15 : LC := .reg false ref01_Run_r14
abbrev ref01_Run_b16 : LC := .block 1 ref01_Run_b15
abbrev ref01_Run_b17 : LC := .seq ref01_Run_b13 ref01_Run_b16
abbrev ref01_Run_b18 : LC := .loop ref01_Run_b17
abbrev ref01_Run_b19 : LC := .block 0 ref01_Run_b18
abbrev ref01_Run_r20 : List LO := [⟨some 29, Op.move (Operand.tmp 1), 3, none⟩,
  ⟨some 6, Op.assign (Operand.tmp 29), 3, none⟩]
abbrev ref01_Run_b21 : LC := .reg false ref01_Run_r20
abbrev ref01_Run_b22 : LC := .seq ref01_Run_b21 .ret
abbrev ref01_Run_b23 : LC := .seq ref01_Run_b19 ref01_Run_b22
abbrev ref01_Run_b24 : LC := .seq ref01_Run_b9 ref01_Run_b23
abbrev ref01_Run_b25 : LC := .seq ref01_Run_b2 ref01_Run_b24
theorem ref01_Run_k : FnOk E 31 30 [.tmp 6] ref01_Run_b25 := ⟨⟨Go.Proofs.Tryd.f31, by kernel_rfl, by kernel_rfl, by kernel_rfl, by kernel_rfl, by kernel_rfl⟩, rfl⟩
noncomputable def ref01_Run_l1 (a0 : Str) (a2 : Int) : Int → Option (Step (Int) (Int)) := fun x4 => Option.bind (if (decide (x4 < (List.length a0 : Int))) = true then Option.bind (idx a0 x4) (fun x13 => Option.bind (ref01_Is x13 a2) (fun x14 => some x14)) else some false : Option (Bool)) (fun x12 => (if x12 = true then some (Step.next (w64 (x4 + 1))) else some (Step.done x4)))
noncomputable def ref01_Run (a0 : Str) (a1 : Int) (a2 : Int) : Option (Int) := (if ((decide (a1 < 0)) || (decide (a1 > (List.length a0 : Int)))) = true then some a1 else Option.bind (loopC (ref01_Run_l1 a0 a2) a1) (fun x9 => some x9))
theorem ref01_Run_ok (a0 : Str) (a1 : Int) (a2 : Int) : Ct E 31 [bs a0, iv a1, iv a2] (ref01_Run a0 a1 a2) (fun r : Int => iv r) := ct_intro (N := 30) (L := ref01_Run_b25) ref01_Run_k rfl (Nat.le_of_ble_eq_true rfl) (by kernel_rfl) (by
  unfold ref01_Run
  refine jc_seq ?_
  refine jc_reg ?_
  refine jr_seg 0 1 [0, 1, 2] [] (st1 := ⟨[(0, .av (bs a0)), (1, .av (iv a1)), (2, .av (iv a2))], [], 0⟩) (by kernel_rfl) ?_
  refine jr_nil rfl ?_
  refine jx_seqN ?_
  refine jc_seq ?_
  refine jc_seq ?_
  refine jc_reg ?_
  refine jr_seg 0 8 [0, 1, 2, 14] [] (st1 := ⟨[(0, .av (bs a0)), (1, .av (iv a1)), (2, .av (iv a2)), (14, .av (bv ((decide (a1 < 0)) || (decide (a1 > (List.length a0 : Int))))))], [], 0⟩) (by kernel_rfl) ?_
  refine jr_nil rfl ?_
  refine jx_seqN ?_
  refine jc_cond (g := 14) (c := ((decide (a1 < 0)) || (decide (a1 > (List.length a0 : Int))))) (by kernel_rfl) ?_ ?_
  · intro _
    refine jc_seq ?_
    refine jc_reg ?_
    refine jr_seg 0 2 [6] [] (st1 := ⟨[(6, .av (iv a1))], [], 0⟩) (by kernel_rfl) ?_
    refine jr_nil rfl ?_
    refine jx_seqN ?_
    refine jc_ret ?_
    refine jx_seqR ?_
    exact jx_retF (.inr rfl) (v := iv a1) (by kernel_rfl) rfl (fle_refl _)
  · intro _
    refine jc_skip ?_
    refine jx_seqN ?_
    refine jc_seq ?_
    refine jc_block ?_
    refine jc_bind (fun x9 => ⟨[(1, .av (iv x9))], [], 0⟩) (fun x9 => (.exit 0)) (jc_loop (fun x4 => ⟨[(0, .av (bs a0)), (1, .av (iv x4)), (2, .av (iv a2))], [], 0⟩) (wk_ren [] (fix_nil _) rfl (by kernel_rfl) allp_nil) ?_) ?_
    · intro x4
      unfold ref01_Run_l1
      refine jc_seq ?_
      refine jc_seq ?_
      refine jc_reg ?_
      refine jr_seg 0 5 [0, 1, 2, 20] [] (st1 := ⟨[(0, .av (bs a0)), (1, .av (iv x4)), (2, .av (iv a2)), (20, .av (bv (decide (x4 < (List.length a0 : Int)))))], [], 0⟩) (by kernel_rfl) ?_
      refine jr_bind 5 6 (fun x12 => ⟨[(0, .av (bs a0)), (1, .av (iv x4)), (2, .av (iv a2)), (26, .av (bv x12))], [], 0⟩) ?_ ?_
      · refine jr_split (g := 20) (c := (decide (x4 < (List.length a0 : Int)))) (by kernel_rfl) ?_ ?_
        · intro _
          refine jr_seg 0 2 [0, 1, 2, 20, 21, 22] [] (st1 := ⟨[(0, .av (bs a0)), (1, .av (iv x4)), (2, .av (iv a2)), (20, .lit true), (21, .av (bs a0)), (22, .av (iv x4))], [], 0⟩) (by kernel_rfl) ?_
          refine jr_part (i := 2) (mo := idx a0 x4) rfl rfl rfl rfl (fun _ hc => aop_index (kk := .i64) (by kernel_rfl) (by kernel_rfl) (by kernel_rfl) hc) (fun _ => rfl) ?_
          intro x13 h13
          refine jr_seg 3 1 [0, 1, 2, 20, 23, 24] [] (st1 := ⟨[(0, .av (bs a0)), (1, .av (iv x4)), (2, .av (iv a2)), (20, .lit true), (23, .av (.s (.int .u8 x13))), (24, .av (iv a2))], [], 0⟩) (by kernel_rfl) ?_
          refine jr_callF (i := 4) rfl rfl rfl rfl (vs := [.s (.int .u8 x13), iv a2]) (by kernel_rfl) (snapL_cons rfl (snapL_cons rfl (snapL_nil _))) (all2_cons (fle_refl _) (all2_cons (fle_refl _) all2_nil)) (ref01_Is_ok x13 a2) (fun _ => rfl) (fun _ => rfl) ?_
          intro x14 h14
          refine jr_seg 5 1 [0, 1, 2, 26] [] (st1 := ⟨[(0, .av (bs a0)), (1, .av (iv x4)), (2, .av (iv a2)), (26, .av (bv x14))], [], 0⟩) (by kernel_rfl) ?_
          refine jr_nil rfl ?_
          exact jx_mid rfl (wk_ren [] (fix_nil _) rfl (by kernel_rfl) allp_nil)
        · intro _
          refine jr_seg 0 6 [0, 1, 2, 26] [] (st1 := ⟨[(0, .av (bs a0)), (1, .av (iv x4)), (2, .av (iv a2)), (26, .av (bv false))], [], 0⟩) (by kernel_rfl) ?_
          refine jr_nil rfl ?_
          exact jx_mid rfl (wk_ren [] (fix_nil _) rfl (by kernel_rfl) allp_nil)
      · intro x12
        refine jr_nil rfl ?_
        refine jx_seqN ?_
        refine jc_cond (g := 26) (c := x12) (by kernel_rfl) ?_ ?_
        · intro _
          refine jc_skip ?_
          refine jx_seqN ?_
          refine jc_block ?_
          refine jc_reg ?_
          refine jr_seg 0 3 [0, 1, 2] [] (st1 := ⟨[(0, .av (bs a0)), (1, .av (iv (w64 (x4 + 1)))), (2, .av (iv a2))], [], 0⟩) (by kernel_rfl) ?_
          refine jr_nil rfl ?_
          refine jx_blkN ?_
          exact jx_next (wk_ren [] (fix_nil _) rfl (by kernel_rfl) allp_nil)
        · intro _
          refine jc_exit ?_
          refine jx_seqE ?_
          exact jx_done rfl nofun (wk_ren [] (fix_nil _) rfl (by kernel_rfl) allp_nil)
    · intro x9
      refine jx_blkE ?_
      refine jx_seqN ?_
      refine jc_seq ?_
      refine jc_reg ?_
      refine jr_seg 0 2 [6] [] (st1 := ⟨[(6, .av (iv x9))], [], 0⟩) (by kernel_rfl) ?_
      refine jr_nil rfl ?_
      refine jx_seqN ?_
      refine jc_ret ?_
      exact jx_retF (.inr rfl) (v := iv x9) (by kernel_rfl) rfl (fle_refl _))
end Go.Vm

set_option maxRecDepth 100000
set_option maxHeartbeats 0
set_option linter.unusedVariables false
set_option linter.unusedSimpArgs false
namespace Go.Vm
open Go
/-! ### dovetail/dovetailref01.Next -/
abbrev ref01_Next_r1 : List LO := [⟨some 2, Op.assign (Operand.const (Value.string { data := #[] })), 9, none⟩]
abbrev ref01_Next_b2 : LC := .reg false ref01_Next_r1
abbrev ref01_Next_r3 : List LO := [⟨some 5, Op.move (Operand.tmp 0), 9, none⟩,
  ⟨some 6, Op.call { callee := Callee.value (Operand.func 31), args := #[Operand.tmp 5, Operand.const (Value.int IntKind.i64 0), Operand.const (Value.int IntKind.i64 1)], argTypes := #[9, 3, 3] }, 3, none⟩,
  ⟨some 7, Op.move (Operand.tmp 0), 9, none⟩,
  ⟨some 8, Op.call { callee := Callee.builtin Builtin.len, args := #[Operand.tmp 7], argTypes := #[9] }, 3, none⟩,
  ⟨some 9, Op.binOp BinOp.neq 3 (Operand.tmp 6) (Operand.tmp 8) 3, 4, none⟩]
abbrev ref01_Next_b4 : LC := .reg false ref01_Next_r3
abbrev ref01_Next_r5 : List LO := [⟨some 2, Op.assign (Operand.const (Value.string { data := #[49] })), 9, none⟩]
abbrev ref01_Next_b6 : LC := .reg false ref01_Next_r5
abbrev ref01_Next_b7 : LC := .seq ref01_Next_b6 .ret
abbrev ref01_Next_b8 : LC := .cond (Operand.tmp 9) ref01_Next_b7 .skip
abbrev ref01_Next_b9 : LC := .seq ref01_Next_b4 ref01_Next_b8
abbrev ref01_Next_r10 : List LO := [⟨some 10, Op.move (Operand.tmp 0), 9, none⟩,
  ⟨some 11, Op.binOp BinOp.add 9 (Operand.const (Value.string { data := #[48] })) (Operand.tmp 10) 9, 9, none⟩,
  ⟨some 12, Op.convert 9 31 (Operand.tmp 11), 31, none⟩,
  ⟨some 3, Op.assign (Operand.tmp 12), 31, none⟩]
abbrev ref01_Next_b11 : LC := .reg false ref01_Next_r10
abbrev ref01_Next_r12 : List LO := [⟨some 13, Op.move (Operand.tmp 3), 31, none⟩,
  ⟨some 14, Op.call { callee := Callee.builtin Builtin.len, args := #[Operand.tmp 13], argTypes := #[31] }, 3, none⟩,
  ⟨some 15, Op.binOp BinOp.sub 3 (Operand.tmp 14) (Operand.const (Value.int IntKind.i64 1)) 3, 3, none⟩,
  ⟨some 4, Op.assign (Operand.tmp 15), 3, none⟩]
abbrev ref01_Next_b13 : LC := .reg false ref01_Next_r12
abbrev ref01_Next_r14 : List LO := [⟨some 16, Op.move (Operand.tmp 3), 31, none⟩,
  ⟨some 17, Op.move (Operand.tmp 4), 3, none⟩,
  ⟨some 18, Op.indexAddr 31 (Operand.tmp 16) (Operand.tmp 17), 0, none⟩,
  ⟨some 19, Op.load 5 (Operand.tmp 18), 5, none⟩,
  ⟨some 20, Op.binOp BinOp.eql 5 (Operand.tmp 19) (Operand.const (Value.int IntKind.u8 57)) 5, 4, none⟩]
abbrev ref01_Next_b15 : LC := .reg false ref01_Next_r14
abbrev ref01_Next_b16 : LC := .cond (Operand.tmp 20) .skip (.exit 0)
abbrev ref01_Next_b17 : LC := .seq ref01_Next_b15 ref01_Next_b16
abbrev ref01_Next_r18 : List LO := [⟨some 21, Op.move (Operand.tmp 3), 31, none⟩,
  ⟨some 22, Op.move (Operand.tmp 4), 3, none⟩,
  ⟨some 23, Op.indexAddr 31 (Operand.tmp 21) (Operand.tmp 22), 0, none⟩,
  ⟨none, Op.store 5 (Operand.tmp 23) (Operand.const (Value.int IntKind.u8 48)), 0, none⟩]
abbrev ref01_Next_b19 : LC := .reg false ref01_Next_r18
abbrev ref01_Next_r20 : List LO := [⟨some 24, Op.move (Operand.tmp 4), 3, none⟩,
  ⟨some 25, Op.binOp BinOp.sub 3 (Operand.tmp 24) (Operand.const (Value.int IntKind.i64 1)) 3, 3, none⟩,
  ⟨some 4, Op.assign (Operand.tmp 25), 3, none⟩]
abbrev ref01_Next_b21 : LC := .reg false ref01_Next_r20
abbrev ref01_Next_b22 : LC := .seq ref01_Next_b19 ref01_Next_b21
abbrev ref01_Next_b23 : LC := .block 1 ref01_Next_b22
abbrev ref01_Next_b24 : LC := .seq ref01_Next_b17 ref01_Next_b23
abbrev ref01_Next_b25 : LC := .loop ref01_Next_b24
abbrev ref01_Next_b26 : LC := .block 0 ref01_Next_b25
abbrev ref01_Next_r27 : List LO := [⟨some 26, Op.move (Operand.tmp 3), 31, none⟩,
  ⟨some 27, Op.move (Operand.tmp 4), 3, none⟩,
  ⟨some 28, Op.indexAddr 31 (Operand.tmp 26) (Operand.tmp 27), 0, none⟩,
  ⟨some 29, Op.load 5 (Operand.tmp 28), 5, none⟩,
  ⟨some 30, Op.binOp BinOp.add 5 (Operand.tmp 29) (Operand.const (Value.int IntKind.u8 1)) 5, 5, none⟩,
  ⟨some 31, Op.indexAddr 31 (Operand.tmp 26) (Operand.tmp 27), 0, none⟩,
  ⟨none, Op.store 5 (Operand.tmp 31) (Operand.tmp 30), 0, none⟩]
abbrev ref01_Next_b28 : LC := .reg false ref01_Next_r27
abbrev ref01_Next_r29 : List LO := [⟨some 32, Op.move (Operand.tmp 3), 31, none⟩,
  ⟨some 33, Op.convert 31 9 (Operand.tmp 32), 9, none⟩,
  ⟨some 34, Op.call { callee := Callee.value (Operand.func 16), args := #[Operand.tmp 33], argTypes := #[9] }, 9, none⟩,
  ⟨some 2, Op.assign (Operand.tmp 34), 9, none⟩]
abbrev ref01_Next_b30 : LC := .reg false ref01_Next_r29
abbrev ref01_Next_b31 : LC := .seq ref01_Next_b30 .ret
abbrev ref01_Next_b32 : LC := .seq ref01_Next_b28 ref01_Next_b31
abbrev ref01_Next_b33 : LC := .seq ref01_Next_b26 ref01_Next_b32
abbrev ref01_Next_b34 : LC := .seq ref01_Next_b13 ref01_Next_b33
abbrev ref01_Next_b35 : LC := .seq ref01_Next_b11 ref01_Next_b34
abbrev ref01_Next_b36 : LC := .seq ref01_Next_b9 ref01_Next_b35
abbrev ref01_Next_b37 : LC := .seq ref01_Next_b2 ref01_Next_b36
theorem ref01_Next_k : FnOk E 20 35 [.tmp 2] ref01_Next_b37 := ⟨⟨Go.Proofs.Tryd.f20, by kernel_rfl, by kernel_rfl, by kernel_rfl, by kernel_rfl, by kernel_rfl⟩, rfl⟩
noncomputable def ref01_Next_l1 : (List Int × Int) → Option (Step (List Int × Int) (List Int × Int)) := fun (x6, x7) => Option.bind (ixl x6 x7) (fun x14 => (if (x14 == 57) = true then Option.bind (ixl x6 x7) (fun x15 => some (Step.next ((List.set x6 (Int.toNat x7) 48), (w64 (x7 - 1))))) else some (Step.done (x6, x7))))
noncomputable def ref01_Next (a0 : Str) : Option (Str) := Option.bind (ref01_Run a0 0 1) (fun x1 => (if (x1 != (List.length a0 : Int)) = true then some [49] else Option.bind (cat [48] a0) (fun x2 => Option.bind (tob x2) (fun x3 => Option.bind (loopC (ref01_Next_l1) (x3, (w64 ((List.length x3 : Int) - 1)))) (fun (x12, x13) => Option.bind (ixl x12 x13) (fun x16 => Option.bind (ixl x12 x13) (fun x17 => Option.bind (ref01_Trim (ofb (List.set x12 (Int.toNat x13) (IntKind.wrap .u8 (x16 + 1))))) (fun x18 => some x18))))))))
theorem ref01_Next_ok (a0 : Str) : Ct E 20 [bs a0] (ref01_Next a0) (fun r : Str => bs r) := ct_intro (N := 35) (L := ref01_Next_b37) ref01_Next_k rfl (Nat.le_of_ble_eq_true rfl) (by kernel_rfl) (by
  unfold ref01_Next
  refine jc_seq ?_
  refine jc_reg ?_
  refine jr_seg 0 1 [0] [] (st1 := ⟨[(0, .av (bs a0))], [], 0⟩) (by kernel_rfl) ?_
  refine jr_nil rfl ?_
  refine jx_seqN ?_
  refine jc_seq ?_
  refine jc_seq ?_
  refine jc_reg ?_
  refine jr_seg 0 1 [0, 5] [] (st1 := ⟨[(0, .av (bs a0)), (5, .av (bs a0))], [], 0⟩) (by kernel_rfl) ?_
  refine jr_callF (i := 1) rfl rfl rfl rfl (vs := [bs a0, iv 0, iv 1]) (by kernel_rfl) (snapL_cons rfl (snapL_cons rfl (snapL_cons rfl (snapL_nil _)))) (all2_cons (fle_refl _) (all2_cons (fle_refl _) (all2_cons (fle_refl _) all2_nil))) (ref01_Run_ok a0 0 1) (fun _ => rfl) (fun _ => rfl) ?_
  intro x1 h1
  refine jr_seg 2 3 [0, 9] [] (st1 := ⟨[(0, .av (bs a0)), (9, .av (bv (x1 != (List.length a0 : Int))))], [], 0⟩) (by kernel_rfl) ?_
  refine jr_nil rfl ?_
  refine jx_seqN ?_
  refine jc_cond (g := 9) (c := (x1 != (List.length a0 : Int))) (by kernel_rfl) ?_ ?_
  · intro _
    refine jc_seq ?_
    refine jc_reg ?_
    refine jr_seg 0 1 [2] [] (st1 := ⟨[(2, .av (bs [49]))], [], 0⟩) (by kernel_rfl) ?_
    refine jr_nil rfl ?_
    refine jx_seqN ?_
    refine jc_ret ?_
    refine jx_seqR ?_
    exact jx_retF (.inr rfl) (v := bs [49]) (by kernel_rfl) rfl (fle_refl _)
  · intro _
    refine jc_skip ?_
    refine jx_seqN ?_
    refine jc_seq ?_
    refine jc_reg ?_
    refine jr_seg 0 1 [10] [] (st1 := ⟨[(10, .av (bs a0))], [], 0⟩) (by kernel_rfl) ?_
    refine jr_part (i := 1) (mo := cat [48] a0) rfl rfl rfl rfl (fun _ hc => aop_cat (by kernel_rfl) (by kernel_rfl) hc) (fun _ => rfl) ?_
    intro x2 h2
    refine jr_part (i := 2) (mo := tob x2) rfl rfl rfl rfl (fun _ hc => aop_tob (e := 5) (st := .string) (by kernel_rfl) (by kernel_rfl) (by kernel_rfl) (by kernel_rfl) hc) (fun _ => rfl) ?_
    intro x3 h3
    refine jr_seg 3 1 [3] [0] (st1 := ⟨[(3, .av (.osl 0 0 (List.length x3) 1))], [(0, .rows 1 (List.map cB x3))], 1⟩) (by kernel_rfl) ?_
    refine jr_nil rfl ?_
    refine jx_seqN ?_
    refine jc_seq ?_
    refine jc_reg ?_
    refine jr_seg 0 4 [3, 4] [0] (st1 := ⟨[(3, .av (.osl 0 0 (List.length x3) 1)), (4, .av (iv (w64 ((List.length x3 : Int) - 1))))], [(0, .rows 1 (List.map cB x3))], 1⟩) (by kernel_rfl) ?_
    refine jr_nil rfl ?_
    refine jx_seqN ?_
    refine jc_seq ?_
    refine jc_block ?_
    refine jc_bind (fun (x12, x13) => ⟨[(3, .av (.osl 0 0 (List.length x12) 1)), (4, .av (iv x13))], [(0, .rows 1 (List.map cB x12))], 1⟩) (fun (x12, x13) => (.exit 0)) (jc_loop (fun (x6, x7) => ⟨[(3, .av (.osl 0 0 (List.length x6) 1)), (4, .av (iv x7))], [(0, .rows 1 (List.map cB x6))], 1⟩) (wk_ren [(0, some 0)] (fix_nil _) rfl (by kernel_rfl) (allp_cons (.inl ⟨0, _, _, _, rfl, rfl, rfl, .inr ⟨rfl, noid_map ni_B _⟩⟩) allp_nil)) ?_) ?_
    · rintro ⟨x6, x7⟩
      unfold ref01_Next_l1
      refine jc_seq ?_
      refine jc_seq ?_
      refine jc_reg ?_
      refine jr_seg 0 2 [3, 4, 16, 17] [0] (st1 := ⟨[(3, .av (.osl 0 0 (List.length x6) 1)), (4, .av (iv x7)), (16, .av (.osl 0 0 (List.length x6) 1)), (17, .av (iv x7))], [(0, .rows 1 (List.map cB x6))], 1⟩) (by kernel_rfl) ?_
      refine jr_part (i := 2) (mo := ixl x6 x7) rfl rfl rfl rfl (fun _ hc => aop_ixo0 (sz := 1) (e := 5) (kk := .i64) (id := 0) (by kernel_rfl) (by kernel_rfl) (by kernel_rfl) (by kernel_rfl) hc) (fun _ => rfl) ?_
      intro x14 h14
      refine jr_one (i := 3) (v := .s (.int .u8 x14)) rfl rfl rfl rfl (aop_ldo (l := x6) (c := cB) (id := 0) (k := (Int.toNat x7)) (sz := 1) (off := 0) (a := x14) (by kernel_rfl) (by kernel_rfl) (ixl_lt h14).2.2 (by kernel_rfl)) rfl ?_
      refine jr_seg 4 1 [3, 4, 20] [0] (st1 := ⟨[(3, .av (.osl 0 0 (List.length x6) 1)), (4, .av (iv x7)), (20, .av (bv (x14 == 57)))], [(0, .rows 1 (List.map cB x6))], 1⟩) (by kernel_rfl) ?_
      refine jr_nil rfl ?_
      refine jx_seqN ?_
      refine jc_cond (g := 20) (c := (x14 == 57)) (by kernel_rfl) ?_ ?_
      · intro _
        refine jc_skip ?_
        refine jx_seqN ?_
        refine jc_block ?_
        refine jc_seq ?_
        refine jc_reg ?_
        refine jr_seg 0 2 [3, 4, 21, 22] [0] (st1 := ⟨[(3, .av (.osl 0 0 (List.length x6) 1)), (4, .av (iv x7)), (21, .av (.osl 0 0 (List.length x6) 1)), (22, .av (iv x7))], [(0, .rows 1 (List.map cB x6))], 1⟩) (by kernel_rfl) ?_
        refine jr_part (i := 2) (mo := ixl x6 x7) rfl rfl rfl rfl (fun _ hc => aop_ixo0 (sz := 1) (e := 5) (kk := .i64) (id := 0) (by kernel_rfl) (by kernel_rfl) (by kernel_rfl) (by kernel_rfl) hc) (fun _ => rfl) ?_
        intro x15 h15
        refine jr_sto (i := 3) [3, 4] [0] (st1 := ⟨[(3, .av (.osl 0 0 (List.length (List.set x6 (Int.toNat x7) 48)) 1)), (4, .av (iv x7))], [(0, .rows 1 (List.map cB (List.set x6 (Int.toNat x7) 48)))], 1⟩) rfl rfl rfl rfl (aop_sto (l := x6) (c := cB) (id := 0) (k := (Int.toNat x7)) (sz := 1) (off := 0) (a := x15) (a' := 48) (w := .s (.int .u8 48)) (cs := [.s (.int .u8 48)]) (by kernel_rfl) (by kernel_rfl) (by kernel_rfl) (by kernel_rfl) (by kernel_rfl) (ixl_lt h15).2.2 (Nat.le_of_ble_eq_true rfl) (by kernel_rfl)) (by simp only [List.length_set]; kernel_rfl) ?_
        refine jr_nil rfl ?_
        refine jx_seqN ?_
        refine jc_reg ?_
        refine jr_seg 0 3 [3, 4] [0] (st1 := ⟨[(3, .av (.osl 0 0 (List.length (List.set x6 (Int.toNat x7) 48)) 1)), (4, .av (iv (w64 (x7 - 1))))], [(0, .rows 1 (List.map cB (List.set x6 (Int.toNat x7) 48)))], 1⟩) (by kernel_rfl) ?_
        refine jr_nil rfl ?_
        refine jx_blkN ?_
        exact jx_next (wk_ren [(0, some 0)] (fix_nil _) rfl (by kernel_rfl) (allp_cons (.inl ⟨0, _, _, _, rfl, rfl, rfl, .inr ⟨rfl, noid_map ni_B _⟩⟩) allp_nil))
      · intro _
        refine jc_exit ?_
        refine jx_seqE ?_
        exact jx_done rfl nofun (wk_ren [(0, some 0)] (fix_nil _) rfl (by kernel_rfl) (allp_cons (.inl ⟨0, _, _, _, rfl, rfl, rfl, .inr ⟨rfl, noid_map ni_B _⟩⟩) allp_nil))
    · rintro ⟨x12, x13⟩
      refine jx_blkE ?_
      refine jx_seqN ?_
      refine jc_seq ?_
      refine jc_reg ?_
      refine jr_seg 0 2 [3, 26, 27] [0] (st1 := ⟨[(3, .av (.osl 0 0 (List.length x12) 1)), (26, .av (.osl 0 0 (List.length x12) 1)), (27, .av (iv x13))], [(0, .rows 1 (List.map cB x12))], 1⟩) (by kernel_rfl) ?_
      refine jr_part (i := 2) (mo := ixl x12 x13) rfl rfl rfl rfl (fun _ hc => aop_ixo0 (sz := 1) (e := 5) (kk := .i64) (id := 0) (by kernel_rfl) (by kernel_rfl) (by kernel_rfl) (by kernel_rfl) hc) (fun _ => rfl) ?_
      intro x16 h16
      refine jr_one (i := 3) (v := .s (.int .u8 x16)) rfl rfl rfl rfl (aop_ldo (l := x12) (c := cB) (id := 0) (k := (Int.toNat x13)) (sz := 1) (off := 0) (a := x16) (by kernel_rfl) (by kernel_rfl) (ixl_lt h16).2.2 (by kernel_rfl)) rfl ?_
      refine jr_seg 4 1 [3, 26, 27, 30] [0] (st1 := ⟨[(3, .av (.osl 0 0 (List.length x12) 1)), (26, .av (.osl 0 0 (List.length x12) 1)), (27, .av (iv x13)), (30, .av (.s (.int .u8 (IntKind.wrap .u8 (x16 + 1)))))], [(0, .rows 1 (List.map cB x12))], 1⟩) (by kernel_rfl) ?_
      refine jr_part (i := 5) (mo := ixl x12 x13) rfl rfl rfl rfl (fun _ hc => aop_ixo0 (sz := 1) (e := 5) (kk := .i64) (id := 0) (by kernel_rfl) (by kernel_rfl) (by kernel_rfl) (by kernel_rfl) hc) (fun _ => rfl) ?_
      intro x17 h17
      refine jr_sto (i := 6) [3] [0] (st1 := ⟨[(3, .av (.osl 0 0 (List.length (List.set x12 (Int.toNat x13) (IntKind.wrap .u8 (x16 + 1)))) 1))], [(0, .rows 1 (List.map cB (List.set x12 (Int.toNat x13) (IntKind.wrap .u8 (x16 + 1)))))], 1⟩) rfl rfl rfl rfl (aop_sto (l := x12) (c := cB) (id := 0) (k := (Int.toNat x13)) (sz := 1) (off := 0) (a := x17) (a' := (IntKind.wrap .u8 (x16 + 1))) (w := .s (.int .u8 (IntKind.wrap .u8 (x16 + 1)))) (cs := [.s (.int .u8 (IntKind.wrap .u8 (x16 + 1)))]) (by kernel_rfl) (by kernel_rfl) (by kernel_rfl) (by kernel_rfl) (by kernel_rfl) (ixl_lt h17).2.2 (Nat.le_of_ble_eq_true rfl) (by kernel_rfl)) (by simp only [List.length_set]; kernel_rfl) ?_
      refine jr_nil rfl ?_
      refine jx_seqN ?_
      refine jc_seq ?_
      refine jc_reg ?_
      refine jr_seg 0 1 [32] [0] (st1 := ⟨[(32, .av (.osl 0 0 (List.length (List.set x12 (Int.toNat x13) (IntKind.wrap .u8 (x16 + 1)))) 1))], [(0, .rows 1 (List.map cB (List.set x12 (Int.toNat x13) (IntKind.wrap .u8 (x16 + 1)))))], 1⟩) (by kernel_rfl) ?_
      refine jr_one (i := 1) rfl rfl rfl rfl (aop_ofb_o (e := 5) (id := 0) (l := (List.set x12 (Int.toNat x13) (IntKind.wrap .u8 (x16 + 1)))) (by kernel_rfl) (by kernel_rfl) (by kernel_rfl) (by kernel_rfl) (by kernel_rfl)) rfl ?_
      refine jr_callF (i := 2) rfl rfl rfl rfl (vs := [bs (ofb (List.set x12 (Int.toNat x13) (IntKind.wrap .u8 (x16 + 1))))]) (by kernel_rfl) (snapL_cons rfl (snapL_nil _)) (all2_cons (fle_refl _) all2_nil) (ref01_Trim_ok (ofb (List.set x12 (Int.toNat x13) (IntKind.wrap .u8 (x16 + 1))))) (fun _ => rfl) (fun _ => rfl) ?_
      intro x18 h18
      refine jr_seg 3 1 [2] [] (st1 := ⟨[(2, .av (bs x18))], [], 2⟩) (by kernel_rfl) ?_
      refine jr_nil rfl ?_
      refine jx_seqN ?_
      refine jc_ret ?_
      exact jx_retF (.inr rfl) (v := bs x18) (by kernel_rfl) rfl (fle_refl _))
end Go.Vm

set_option maxRecDepth 100000
set_option maxHeartbeats 0
set_option linter.unusedVariables false
set_option linter.unusedSimpArgs false
namespace Go.Vm
open Go
/-! ### dovetail/dovetaillaw01.ScanDigits -/
abbrev law01_ScanDigits_r1 : List LO := [⟨some 4, Op.assign (Operand.const (Value.bool false)), 4, none⟩]
abbrev law01_ScanDigits_b2 : LC := .reg false law01_ScanDigits_r1
abbrev law01_ScanDigits_r3 : List LO := [⟨some 5, Op.move (Operand.tmp 0), 9, none⟩,
  ⟨some 6, Op.call { callee := Callee.value (Operand.func 15), args := #[Operand.tmp 5], argTypes := #[9] }, 9, none⟩,
  ⟨some 7, Op.move (Operand.tmp 0), 9, none⟩,
  ⟨some 8, Op.call { callee := Callee.value (Operand.func 16), args := #[Operand.tmp 7], argTypes := #[9] }, 9, none⟩,
  ⟨some 9, Op.binOp BinOp.eql 9 (Operand.tmp 6) (Operand.tmp 8) 9, 4, none⟩,
  ⟨some 10, Op.move (Operand.tmp 9), 4, none⟩,
  ⟨some 11, Op.move (Operand.tmp 0), 9, (some (10, true))⟩,
  ⟨some 12, Op.move (Operand.tmp 1), 9, (some (10, true))⟩,
  ⟨some 13, Op.call { callee := Callee.value (Operand.func 17), args := #[Operand.tmp 11, Operand.tmp 12], argTypes := #[9, 9] }, 3, (some (10, true))⟩,
  ⟨some 14, Op.move (Operand.tmp 0), 9, (some (10, true))⟩,
  ⟨some 15, Op.move (Operand.tmp 1), 9, (some (10, true))⟩,
  ⟨some 16, Op.call { callee := Callee.value (Operand.func 18), args := #[Operand.tmp 14, Operand.tmp 15], argTypes := #[9, 9] }, 3, (some (10, true))⟩,
  ⟨some 17, Op.binOp BinOp.eql 3 (Operand.tmp 13) (Operand.tmp 16) 3, 4, (some (10, true))⟩,
  ⟨some 18, Op.pick (Operand.tmp 10) (Operand.tmp 17) (Operand.const (Value.bool false)), 4, none⟩,
  ⟨some 19, Op.move (Operand.tmp 18), 4, none⟩,
  ⟨some 20, Op.move (Operand.tmp 0), 9, (some (19, true))⟩,
  ⟨some 21, Op.call { callee := Callee.value (Operand.func 19), args := #[Operand.tmp 20], argTypes := #[9] }, 9, (some (19, true))⟩,
  ⟨some 22, Op.move (Operand.tmp 0), 9, (some (19, true))⟩,
  ⟨some 23, Op.call { callee := Callee.value (Operand.func 20), args := #[Operand.tmp 22], argTypes := #[9] }, 9, (some (19, true))⟩,
  ⟨some 24, Op.binOp BinOp.eql 9 (Operand.tmp 21) (Operand.tmp 23) 9, 4, (some (19, true))⟩,
  ⟨some 25, Op.pick (Operand.tmp 19) (Operand.tmp 24) (Operand.const (Value.bool false)), 4, none⟩,
  ⟨some 26, Op.move (Operand.tmp 25), 4, none⟩,
  ⟨some 27, Op.call { callee := Callee.value (Operand.func 21), args := #[], argTypes := #[] }, 4, (some (26, true))⟩,
  ⟨some 28, Op.pick (Operand.tmp 26) (Operand.tmp 27) (Operand.const (Value.bool false)), 4, none⟩,
  ⟨some 4, Op.assign (Operand.tmp 28), 4, none⟩]
abbrev law01_ScanDigits_b4 : LC := .reg false law01_ScanDigits_r3
abbrev law01_ScanDigits_b5 : LC := .seq law01_ScanDigits_b4 .ret
abbrev law01_ScanDigits_b6 : LC := .seq law01_ScanDigits_b2 law01_ScanDigits_b5
theorem law01_ScanDigits_k : FnOk E 3 29 [.tmp 4] law01_ScanDigits_b6 := ⟨⟨Go.Proofs.Tryd.f3, by kernel_rfl, by kernel_rfl, by kernel_rfl, by kernel_rfl, by kernel_rfl⟩, rfl⟩
noncomputable def law01_ScanDigits (a0 : Str) (a1 : Str) : Option (Bool) := Option.bind (scan_Trim a0) (fun x1 => Option.bind (ref01_Trim a0) (fun x2 => Option.bind (if (x1 == x2) = true then Option.bind (scan_Cmp a0 a1) (fun x6 => Option.bind (ref01_Cmp a0 a1) (fun x7 => some (x6 == x7))) else some false : Option (Bool)) (fun x5 => Option.bind (if x5 = true then Option.bind (scan_Next a0) (fun x11 => Option.bind (ref01_Next a0) (fun x12 => some (x11 == x12))) else some false : Option (Bool)) (fun x10 => Option.bind (if x10 = true then Option.bind (law01_awake) (fun x15 => some x15) else some false : Option (Bool)) (fun x14 => some x14)))))
theorem law01_ScanDigits_ok (a0 : Str) (a1 : Str) : Ct E 3 [bs a0, bs a1] (law01_ScanDigits a0 a1) (fun r : Bool => bv r) := ct_intro (N := 29) (L := law01_ScanDigits_b6) law01_ScanDigits_k rfl (Nat.le_of_ble_eq_true rfl) (by kernel_rfl) (by
  unfold law01_ScanDigits
  refine jc_seq ?_
  refine jc_reg ?_
  refine jr_seg 0 1 [0, 1] [] (st1 := ⟨[(0, .av (bs a0)), (1, .av (bs a1))], [], 0⟩) (by kernel_rfl) ?_
  refine jr_nil rfl ?_
  refine jx_seqN ?_
  refine jc_seq ?_
  refine jc_reg ?_
  refine jr_seg 0 1 [0, 1, 5] [] (st1 := ⟨[(0, .av (bs a0)), (1, .av (bs a1)), (5, .av (bs a0))], [], 0⟩) (by kernel_rfl) ?_
  refine jr_callF (i := 1) rfl rfl rfl rfl (vs := [bs a0]) (by kernel_rfl) (snapL_cons rfl (snapL_nil _)) (all2_cons (fle_refl _) all2_nil) (scan_Trim_ok a0) (fun _ => rfl) (fun _ => rfl) ?_
  intro x1 h1
  refine jr_seg 2 1 [0, 1, 6, 7] [] (st1 := ⟨[(0, .av (bs a0)), (1, .av (bs a1)), (6, .av (bs x1)), (7, .av (bs a0))], [], 0⟩) (by kernel_rfl) ?_
  refine jr_callF (i := 3) rfl rfl rfl rfl (vs := [bs a0]) (by kernel_rfl) (snapL_cons rfl (snapL_nil _)) (all2_cons (fle_refl _) all2_nil) (ref01_Trim_ok a0) (fun _ => rfl) (fun _ => rfl) ?_
  intro x2 h2
  refine jr_seg 4 2 [0, 1, 10] [] (st1 := ⟨[(0, .av (bs a0)), (1, .av (bs a1)), (10, .av (bv (x1 == x2)))], [], 0⟩) (by kernel_rfl) ?_
  refine jr_bind 6 8 (fun x5 => ⟨[(0, .av (bs a0)), (18, .av (bv x5))], [], 0⟩) ?_ ?_
  · refine jr_split (g := 10) (c := (x1 == x2)) (by kernel_rfl) ?_ ?_
    · intro _
      refine jr_seg 0 2 [0, 1, 10, 11, 12] [] (st1 := ⟨[(0, .av (bs a0)), (1, .av (bs a1)), (10, .lit true), (11, .av (bs a0)), (12, .av (bs a1))], [], 0⟩) (by kernel_rfl) ?_
      refine jr_callF (i := 2) rfl rfl rfl rfl (vs := [bs a0, bs a1]) (by kernel_rfl) (snapL_cons rfl (snapL_cons rfl (snapL_nil _))) (all2_cons (fle_refl _) (all2_cons (fle_refl _) all2_nil)) (scan_Cmp_ok a0 a1) (fun _ => rfl) (fun _ => rfl) ?_
      intro x6 h6
      refine jr_seg 3 2 [0, 10, 13, 14, 15] [] (st1 := ⟨[(0, .av (bs a0)), (10, .lit true), (13, .av (iv x6)), (14, .av (bs a0)), (15, .av (bs a1))], [], 0⟩) (by kernel_rfl) ?_
      refine jr_callF (i := 5) rfl rfl rfl rfl (vs := [bs a0, bs a1]) (by kernel_rfl) (snapL_cons rfl (snapL_cons rfl (snapL_nil _))) (all2_cons (fle_refl _) (all2_cons (fle_refl _) all2_nil)) (ref01_Cmp_ok a0 a1) (fun _ => rfl) (fun _ => rfl) ?_
      intro x7 h7
      refine jr_seg 6 2 [0, 18] [] (st1 := ⟨[(0, .av (bs a0)), (18, .av (bv (x6 == x7)))], [], 0⟩) (by kernel_rfl) ?_
      refine jr_nil rfl ?_
      exact jx_mid rfl (wk_ren [] (fix_nil _) rfl (by kernel_rfl) allp_nil)
    · intro _
      refine jr_seg 0 8 [0, 18] [] (st1 := ⟨[(0, .av (bs a0)), (18, .av (bv false))], [], 0⟩) (by kernel_rfl) ?_
      refine jr_nil rfl ?_
      exact jx_mid rfl (wk_ren [] (fix_nil _) rfl (by kernel_rfl) allp_nil)
  · intro x5
    refine jr_seg 14 1 [0, 19] [] (st1 := ⟨[(0, .av (bs a0)), (19, .av (bv x5))], [], 0⟩) (by kernel_rfl) ?_
    refine jr_bind 15 6 (fun x10 => ⟨[(25, .av (bv x10))], [], 0⟩) ?_ ?_
    · refine jr_split (g := 19) (c := x5) (by kernel_rfl) ?_ ?_
      · intro _
        refine jr_seg 0 1 [0, 19, 20] [] (st1 := ⟨[(0, .av (bs a0)), (19, .lit true), (20, .av (bs a0))], [], 0⟩) (by kernel_rfl) ?_
        refine jr_callF (i := 1) rfl rfl rfl rfl (vs := [bs a0]) (by kernel_rfl) (snapL_cons rfl (snapL_nil _)) (all2_cons (fle_refl _) all2_nil) (scan_Next_ok a0) (fun _ => rfl) (fun _ => rfl) ?_
        intro x11 h11
        refine jr_seg 2 1 [19, 21, 22] [] (st1 := ⟨[(19, .lit true), (21, .av (bs x11)), (22, .av (bs a0))], [], 0⟩) (by kernel_rfl) ?_
        refine jr_callF (i := 3) rfl rfl rfl rfl (vs := [bs a0]) (by kernel_rfl) (snapL_cons rfl (snapL_nil _)) (all2_cons (fle_refl _) all2_nil) (ref01_Next_ok a0) (fun _ => rfl) (fun _ => rfl) ?_
        intro x12 h12
        refine jr_seg 4 2 [25] [] (st1 := ⟨[(25, .av (bv (x11 == x12)))], [], 0⟩) (by kernel_rfl) ?_
        refine jr_nil rfl ?_
        exact jx_mid rfl (wk_ren [] (fix_nil _) rfl (by kernel_rfl) allp_nil)
      · intro _
        refine jr_seg 0 6 [25] [] (st1 := ⟨[(25, .av (bv false))], [], 0⟩) (by kernel_rfl) ?_
        refine jr_nil rfl ?_
        exact jx_mid rfl (wk_ren [] (fix_nil _) rfl (by kernel_rfl) allp_nil)
    · intro x10
      refine jr_seg 21 1 [26] [] (st1 := ⟨[(26, .av (bv x10))], [], 0⟩) (by kernel_rfl) ?_
      refine jr_bind 22 2 (fun x14 => ⟨[(28, .av (bv x14))], [], 0⟩) ?_ ?_
      · refine jr_split (g := 26) (c := x10) (by kernel_rfl) ?_ ?_
        · intro _
          refine jr_callF (i := 0) rfl rfl rfl rfl (vs := []) (by kernel_rfl) (snapL_nil _) all2_nil (law01_awake_ok) (fun _ => rfl) (fun _ => rfl) ?_
          intro x15 h15
          refine jr_seg 1 1 [28] [] (st1 := ⟨[(28, .av (bv x15))], [], 0⟩) (by kernel_rfl) ?_
          refine jr_nil rfl ?_
          exact jx_mid rfl (wk_ren [] (fix_nil _) rfl (by kernel_rfl) allp_nil)
        · intro _
          refine jr_seg 0 2 [28] [] (st1 := ⟨[(28, .av (bv false))], [], 0⟩) (by kernel_rfl) ?_
          refine jr_nil rfl ?_
          exact jx_mid rfl (wk_ren [] (fix_nil _) rfl (by kernel_rfl) allp_nil)
      · intro x14
        refine jr_seg 24 1 [4] [] (st1 := ⟨[(4, .av (bv x14))], [], 0⟩) (by kernel_rfl) ?_
        refine jr_nil rfl ?_
        refine jx_seqN ?_
        refine jc_ret ?_
        exact jx_retF (.inr rfl) (v := bv x14) (by kernel_rfl) rfl (fle_refl _))
end Go.Vm

set_option maxRecDepth 100000
set_option maxHeartbeats 0
set_option linter.unusedVariables false
set_option linter.unusedSimpArgs false
namespace Go.Vm
open Go
/-! ### dovetail/dovetaillaw01.digits -/
abbrev law01_digits_r1 : List LO := [⟨some 2, Op.assign (Operand.const (Value.string { data := #[] })), 9, none⟩]
abbrev law01_digits_b2 : LC := .reg false law01_digits_r1
abbrev law01_digits_r3 : List LO := [⟨some 5, Op.move (Operand.tmp 0), 9, none⟩,
  ⟨some 6, Op.convert 9 31 (Operand.tmp 5), 31, none⟩,
  ⟨some 3, Op.assign (Operand.tmp 6), 31, none⟩]
abbrev law01_digits_b4 : LC := .reg false law01_digits_r3
abbrev law01_digits_r5 : List LO := [⟨some 7, Op.move (Operand.tmp 3), 31, none⟩,
  ⟨some 8, Op.call { callee := Callee.builtin Builtin.len, args := #[Operand.tmp 7], argTypes := #[31] }, 3, none⟩,
  ⟨some 9, Op.move (Operand.const (Value.int IntKind.i64 0)), 3, none⟩]
abbrev law01_digits_b6 : LC := .reg false law01_digits_r5
abbrev law01_digits_r7 : List LO := [⟨some 10, Op.binOp BinOp.lss 3 (Operand.tmp 9) (Operand.tmp 8) 3, 0, none⟩]
abbrev law01_digits_b8 : LC := .reg false law01_digits_r7
abbrev law01_digits_b9 : LC := .cond (Operand.tmp 10) .skip (.exit 0)
abbrev law01_digits_r10 : List LO := [⟨some 11, Op.move (Operand.tmp 9), 3, none⟩,
  ⟨some 4, Op.assign (Operand.tmp 11), 3, none⟩]
abbrev law01_digits_b11 : LC := .reg false law01_digits_r10
abbrev law01_digits_r12 : List LO := [⟨some 12, Op.move (Operand.tmp 3), 31, none⟩,
  ⟨some 13, Op.move (Operand.tmp 4), 3, none⟩,
  ⟨some 14, Op.move (Operand.tmp 3), 31, none⟩,
  ⟨some 15, Op.move (Operand.tmp 4), 3, none⟩,
  ⟨some 16, Op.indexAddr 31 (Operand.tmp 14) (Operand.tmp 15), 0, none⟩,
  ⟨some 17, Op.load 5 (Operand.tmp 16), 5, none⟩,
  ⟨some 18, Op.binOp BinOp.rem 5 (Operand.tmp 17) (Operand.const (Value.int IntKind.u8 10)) 5, 5, none⟩,
  ⟨some 19, Op.binOp BinOp.add 5 (Operand.const (Value.int IntKind.u8 48)) (Operand.tmp 18) 5, 5, none⟩,
  ⟨some 20, Op.indexAddr 31 (Operand.tmp 12) (Operand.tmp 13), 0, none⟩,
  ⟨none, Op.store 5 (Operand.tmp 20) (Operand.tmp 19), 0, none⟩]
abbrev law01_digits_b13 : LC := .reg false law01_digits_r12
abbrev law01_digits_b14 : LC := .seq law01_digits_b11 law01_digits_b13
abbrev law01_digits_b15 : LC := .block 1 law01_digits_b14
abbrev law01_digits_r16 : List LO := [⟨some 21, Op.binOp BinOp.add 3 (Operand.tmp 9) (Operand.const (Value.int IntKind.i64 1)) 3, 3, none⟩,
  ⟨some 9, Op.move (Operand.tmp 21), 3, none⟩]
abbrev law01_digits_b17 : LC := .reg false law01_digits_r16
abbrev law01_digits_b18 : LC := .seq law01_digits_b15 law01_digits_b17
abbrev law01_digits_b19 : LC := .seq law01_digits_b9 law01_digits_b18
abbrev law01_digits_b20 : LC := .seq law01_digits_b8 law01_digits_b19
abbrev law01_digits_b21 : LC := .loop law01_digits_b20
abbrev law01_digits_b22 : LC := .block 0 law01_digits_b21
abbrev law01_digits_b23 : LC := .seq law01_digits_b6 law01_digits_b22
abbrev law01_digits_r24 : List LO := [⟨some 22, Op.move (Operand.tmp 3), 31, none⟩,
  ⟨some 23, Op.convert 31 9 (Operand.tmp 22), 9, none⟩,
  ⟨some 2, Op.assign (Operand.tmp 23), 9, none⟩]
abbrev law01_digits_b25 : LC := .reg false law01_digits_r24
abbrev law01_digits_b26 : LC := .seq law01_digits_b25 .ret
abbrev law01_digits_b27 : LC := .seq law01_digits_b23 law01_digits_b26
abbrev law01_digits_b28 : LC := .seq law01_digits_b4 law01_digits_b27
abbrev law01_digits_b29 : LC := .seq law01_digits_b2 law01_digits_b28
theorem law01_digits_k : FnOk E 22 24 [.tmp 2] law01_digits_b29 := ⟨⟨Go.Proofs.Tryd.f22, by kernel_rfl, by kernel_rfl, by kernel_rfl, by kernel_rfl, by kernel_rfl⟩, rfl⟩
noncomputable def law01_digits_l1 (x1 : List Int) : (List Int × Int) → Option (Step (List Int × Int) (List Int)) := fun (x4, x5) => (if (decide (x5 < (List.length x1 : Int))) = true then Option.bind (ixl x4 x5) (fun x11 => Option.bind (ixl x4 x5) (fun x12 => some (Step.next ((List.set x4 (Int.toNat x5) (IntKind.wrap .u8 (48 + (Int.tmod x11 10)))), (w64 (x5 + 1)))))) else some (Step.done x4))
noncomputable def law01_digits (a0 : Str) : Option (Str) := Option.bind (tob a0) (fun x1 => Option.bind (loopC (law01_digits_l1 x1) (x1, 0)) (fun x10 => some (ofb x10)))
theorem law01_digits_ok (a0 : Str) : Ct E 22 [bs a0] (law01_digits a0) (fun r : Str => bs r) := ct_intro (N := 24) (L := law01_digits_b29) law01_digits_k rfl (Nat.le_of_ble_eq_true rfl) (by kernel_rfl) (by
  unfold law01_digits
  refine jc_seq ?_
  refine jc_reg ?_
  refine jr_seg 0 1 [0] [] (st1 := ⟨[(0, .av (bs a0))], [], 0⟩) (by kernel_rfl) ?_
  refine jr_nil rfl ?_
  refine jx_seqN ?_
  refine jc_seq ?_
  refine jc_reg ?_
  refine jr_seg 0 1 [5] [] (st1 := ⟨[(5, .av (bs a0))], [], 0⟩) (by kernel_rfl) ?_
  refine jr_part (i := 1) (mo := tob a0) rfl rfl rfl rfl (fun _ hc => aop_tob (e := 5) (st := .string) (by kernel_rfl) (by kernel_rfl) (by kernel_rfl) (by kernel_rfl) hc) (fun _ => rfl) ?_
  intro x1 h1
  refine jr_seg 2 1 [3] [0] (st1 := ⟨[(3, .av (.osl 0 0 (List.length x1) 1))], [(0, .rows 1 (List.map cB x1))], 1⟩) (by kernel_rfl) ?_
  refine jr_nil rfl ?_
  refine jx_seqN ?_
  refine jc_seq ?_
  refine jc_seq ?_
  refine jc_reg ?_
  refine jr_seg 0 3 [3, 8, 9] [0] (st1 := ⟨[(3, .av (.osl 0 0 (List.length x1) 1)), (8, .av (iv (List.length x1 : Int))), (9, .av (iv 0))], [(0, .rows 1 (List.map cB x1))], 1⟩) (by kernel_rfl) ?_
  refine jr_nil rfl ?_
  refine jx_seqN ?_
  refine jc_block ?_
  refine jc_bind (fun x10 => ⟨[(3, .av (.osl 0 0 (List.length x10) 1))], [(0, .rows 1 (List.map cB x10))], 1⟩) (fun x10 => (.exit 0)) (jc_loop (fun (x4, x5) => ⟨[(3, .av (.osl 0 0 (List.length x4) 1)), (8, .av (iv (List.length x1 : Int))), (9, .av (iv x5))], [(0, .rows 1 (List.map cB x4))], 1⟩) (wk_ren [(0, some 0)] (fix_nil _) rfl (by kernel_rfl) (allp_cons (.inl ⟨0, _, _, _, rfl, rfl, rfl, .inr ⟨rfl, noid_map ni_B _⟩⟩) allp_nil)) ?_) ?_
  · rintro ⟨x4, x5⟩
    unfold law01_digits_l1
    refine jc_seq ?_
    refine jc_reg ?_
    refine jr_seg 0 1 [3, 8, 9, 10] [0] (st1 := ⟨[(3, .av (.osl 0 0 (List.length x4) 1)), (8, .av (iv (List.length x1 : Int))), (9, .av (iv x5)), (10, .av (bv (decide (x5 < (List.length x1 : Int)))))], [(0, .rows 1 (List.map cB x4))], 1⟩) (by kernel_rfl) ?_
    refine jr_nil rfl ?_
    refine jx_seqN ?_
    refine jc_seq ?_
    refine jc_cond (g := 10) (c := (decide (x5 < (List.length x1 : Int)))) (by kernel_rfl) ?_ ?_
    · intro _
      refine jc_skip ?_
      refine jx_seqN ?_
      refine jc_seq ?_
      refine jc_block ?_
      refine jc_seq ?_
      refine jc_reg ?_
      refine jr_seg 0 2 [3, 4, 8, 9] [0] (st1 := ⟨[(3, .av (.osl 0 0 (List.length x4) 1)), (4, .av (iv x5)), (8, .av (iv (List.length x1 : Int))), (9, .av (iv x5))], [(0, .rows 1 (List.map cB x4))], 1⟩) (by kernel_rfl) ?_
      refine jr_nil rfl ?_
      refine jx_seqN ?_
      refine jc_reg ?_
      refine jr_seg 0 4 [3, 8, 9, 12, 13, 14, 15] [0] (st1 := ⟨[(3, .av (.osl 0 0 (List.length x4) 1)), (8, .av (iv (List.length x1 : Int))), (9, .av (iv x5)), (12, .av (.osl 0 0 (List.length x4) 1)), (13, .av (iv x5)), (14, .av (.osl 0 0 (List.length x4) 1)), (15, .av (iv x5))], [(0, .rows 1 (List.map cB x4))], 1⟩) (by kernel_rfl) ?_
      refine jr_part (i := 4) (mo := ixl x4 x5) rfl rfl rfl rfl (fun _ hc => aop_ixo0 (sz := 1) (e := 5) (kk := .i64) (id := 0) (by kernel_rfl) (by kernel_rfl) (by kernel_rfl) (by kernel_rfl) hc) (fun _ => rfl) ?_
      intro x11 h11
      refine jr_one (i := 5) (v := .s (.int .u8 x11)) rfl rfl rfl rfl (aop_ldo (l := x4) (c := cB) (id := 0) (k := (Int.toNat x5)) (sz := 1) (off := 0) (a := x11) (by kernel_rfl) (by kernel_rfl) (ixl_lt h11).2.2 (by kernel_rfl)) rfl ?_
      refine jr_seg 6 2 [3, 8, 9, 12, 13, 19] [0] (st1 := ⟨[(3, .av (.osl 0 0 (List.length x4) 1)), (8, .av (iv (List.length x1 : Int))), (9, .av (iv x5)), (12, .av (.osl 0 0 (List.length x4) 1)), (13, .av (iv x5)), (19, .av (.s (.int .u8 (IntKind.wrap .u8 (48 + (Int.tmod x11 10))))))], [(0, .rows 1 (List.map cB x4))], 1⟩) (by kernel_rfl) ?_
      refine jr_part (i := 8) (mo := ixl x4 x5) rfl rfl rfl rfl (fun _ hc => aop_ixo0 (sz := 1) (e := 5) (kk := .i64) (id := 0) (by kernel_rfl) (by kernel_rfl) (by kernel_rfl) (by kernel_rfl) hc) (fun _ => rfl) ?_
      intro x12 h12
      refine jr_sto (i := 9) [3, 8, 9] [0] (st1 := ⟨[(3, .av (.osl 0 0 (List.length (List.set x4 (Int.toNat x5) (IntKind.wrap .u8 (48 + (Int.tmod x11 10))))) 1)), (8, .av (iv (List.length x1 : Int))), (9, .av (iv x5))], [(0, .rows 1 (List.map cB (List.set x4 (Int.toNat x5) (IntKind.wrap .u8 (48 + (Int.tmod x11 10))))))], 1⟩) rfl rfl rfl rfl (aop_sto (l := x4) (c := cB) (id := 0) (k := (Int.toNat x5)) (sz := 1) (off := 0) (a := x12) (a' := (IntKind.wrap .u8 (48 + (Int.tmod x11 10)))) (w := .s (.int .u8 (IntKind.wrap .u8 (48 + (Int.tmod x11 10))))) (cs := [.s (.int .u8 (IntKind.wrap .u8 (48 + (Int.tmod x11 10))))]) (by kernel_rfl) (by kernel_rfl) (by kernel_rfl) (by kernel_rfl) (by kernel_rfl) (ixl_lt h12).2.2 (Nat.le_of_ble_eq_true rfl) (by kernel_rfl)) (by simp only [List.length_set]; kernel_rfl) ?_
      refine jr_nil rfl ?_
      refine jx_blkN ?_
      refine jx_seqN ?_
      refine jc_reg ?_
      refine jr_seg 0 2 [3, 8, 9] [0] (st1 := ⟨[(3, .av (.osl 0 0 (List.length (List.set x4 (Int.toNat x5) (IntKind.wrap .u8 (48 + (Int.tmod x11 10))))) 1)), (8, .av (iv (List.length x1 : Int))), (9, .av (iv (w64 (x5 + 1))))], [(0, .rows 1 (List.map cB (List.set x4 (Int.toNat x5) (IntKind.wrap .u8 (48 + (Int.tmod x11 10))))))], 1⟩) (by kernel_rfl) ?_
      refine jr_nil rfl ?_
      exact jx_next (wk_ren [(0, some 0)] (fix_nil _) rfl (by kernel_rfl) (allp_cons (.inl ⟨0, _, _, _, rfl, rfl, rfl, .inr ⟨rfl, noid_map ni_B _⟩⟩) allp_nil))
    · intro _
      refine jc_exit ?_
      refine jx_seqE ?_
      exact jx_done rfl nofun (wk_ren [(0, some 0)] (fix_nil _) rfl (by kernel_rfl) (allp_cons (.inl ⟨0, _, _, _, rfl, rfl, rfl, .inr ⟨rfl, noid_map ni_B _⟩⟩) allp_nil))
  · intro x10
    refine jx_blkE ?_
    refine jx_seqN ?_
    refine jc_seq ?_
    refine jc_reg ?_
    refine jr_seg 0 1 [22] [0] (st1 := ⟨[(22, .av (.osl 0 0 (List.length x10) 1))], [(0, .rows 1 (List.map cB x10))], 1⟩) (by kernel_rfl) ?_
    refine jr_one (i := 1) rfl rfl rfl rfl (aop_ofb_o (e := 5) (id := 0) (l := x10) (by kernel_rfl) (by kernel_rfl) (by kernel_rfl) (by kernel_rfl) (by kernel_rfl)) rfl ?_
    refine jr_seg 2 1 [2] [] (st1 := ⟨[(2, .av (bs (ofb x10)))], [], 2⟩) (by kernel_rfl) ?_
    refine jr_nil rfl ?_
    refine jx_seqN ?_
    refine jc_ret ?_
    exact jx_retF (.inr rfl) (v := bs (ofb x10)) (by kernel_rfl) rfl (fle_refl _))
end Go.Vm

set_option maxRecDepth 100000
set_option maxHeartbeats 0
set_option linter.unusedVariables false
set_option linter.unusedSimpArgs false
namespace Go.Vm
open Go
/-! ### dovetail/dovetaillaw01.ScanOrder -/
abbrev law01_ScanOrder_r1 : List LO := [⟨some 6, Op.assign (Operand.const (Value.bool false)), 4, none⟩]
abbrev law01_ScanOrder_b2 : LC := .reg false law01_ScanOrder_r1
abbrev law01_ScanOrder_r3 : List LO := [⟨some 11, Op.move (Operand.tmp 0), 9, none⟩,
  ⟨some 12, Op.call { callee := Callee.value (Operand.func 22), args := #[Operand.tmp 11], argTypes := #[9] }, 9, none⟩,
  ⟨some 13, Op.move (Operand.tmp 1), 9, none⟩,
  ⟨some 14, Op.call { callee := Callee.value (Operand.func 22), args := #[Operand.tmp 13], argTypes := #[9] }, 9, none⟩,
  ⟨some 15, Op.move (Operand.tmp 2), 9, none⟩,
  ⟨some 16, Op.call { callee := Callee.value (Operand.func 22), args := #[Operand.tmp 15], argTypes := #[9] }, 9, none⟩,
  ⟨some 0, Op.assign (Operand.tmp 12), 9, none⟩,
  ⟨some 1, Op.assign (Operand.tmp 14), 9, none⟩,
  ⟨some 2, Op.assign (Operand.tmp 16), 9, none⟩]
abbrev law01_ScanOrder_b4 : LC := .reg false law01_ScanOrder_r3
abbrev law01_ScanOrder_r5 : List LO := [⟨some 17, Op.move (Operand.tmp 0), 9, none⟩,
  ⟨some 18, Op.move (Operand.tmp 1), 9, none⟩,
  ⟨some 19, Op.call { callee := Callee.value (Operand.func 17), args := #[Operand.tmp 17, Operand.tmp 18], argTypes := #[9, 9] }, 3, none⟩,
  ⟨some 20, Op.move (Operand.tmp 1), 9, none⟩,
  ⟨some 21, Op.move (Operand.tmp 2), 9, none⟩,
  ⟨some 22, Op.call { callee := Callee.value (Operand.func 17), args := #[Operand.tmp 20, Operand.tmp 21], argTypes := #[9, 9] }, 3, none⟩,
  ⟨some 23, Op.move (Operand.tmp 0), 9, none⟩,
  ⟨some 24, Op.move (Operand.tmp 2), 9, none⟩,
  ⟨some 25, Op.call { callee := Callee.value (Operand.func 17), args := #[Operand.tmp 23, Operand.tmp 24], argTypes := #[9, 9] }, 3, none⟩,
  ⟨some 7, Op.assign (Operand.tmp 19), 3, none⟩,
  ⟨some 8, Op.assign (Operand.tmp 22), 3, none⟩,
  ⟨some 9, Op.assign (Operand.tmp 25), 3, none⟩]
abbrev law01_ScanOrder_b6 : LC := .reg false law01_ScanOrder_r5
abbrev law01_ScanOrder_r7 : List LO := [⟨some 26, Op.move (Operand.tmp 1), 9, none⟩,
  ⟨some 27, Op.move (Operand.tmp 0), 9, none⟩,
  ⟨some 28, Op.call { callee := Callee.value (Operand.func 17), args := #[Operand.tmp 26, Operand.tmp 27], argTypes := #[9, 9] }, 3, none⟩,
  ⟨some 29, Op.move (Operand.tmp 7), 3, none⟩,
  ⟨some 30, Op.unOp UnOp.neg 3 (Operand.tmp 29), 3, none⟩,
  ⟨some 31, Op.binOp BinOp.neq 3 (Operand.tmp 28) (Operand.tmp 30) 3, 4, none⟩,
  ⟨some 32, Op.move (Operand.tmp 31), 4, none⟩,
  ⟨some 33, Op.move (Operand.tmp 0), 9, (some (32, false))⟩,
  ⟨some 34, Op.move (Operand.tmp 0), 9, (some (32, false))⟩,
  ⟨some 35, Op.call { callee := Callee.value (Operand.func 17), args := #[Operand.tmp 33, Operand.tmp 34], argTypes := #[9, 9] }, 3, (some (32, false))⟩,
  ⟨some 36, Op.binOp BinOp.neq 3 (Operand.tmp 35) (Operand.const (Value.int IntKind.i64 0)) 3, 4, (some (32, false))⟩,
  ⟨some 37, Op.pick (Operand.tmp 32) (Operand.const (Value.bool true)) (Operand.tmp 36), 4, none⟩,
  ⟨some 38, Op.move (Operand.tmp 37), 4, none⟩,
  ⟨some 39, Op.move (Operand.tmp 7), 3, (some (38, false))⟩,
  ⟨some 40, Op.binOp BinOp.leq 3 (Operand.tmp 39) (Operand.const (Value.int IntKind.i64 0)) 3, 4, (some (38, false))⟩,
  ⟨some 41, Op.move (Operand.tmp 40), 4, (some (38, false))⟩,
  ⟨some 42, Op.move (Operand.tmp 8), 3, (some (41, true))⟩,
  ⟨some 43, Op.binOp BinOp.leq 3 (Operand.tmp 42) (Operand.const (Value.int IntKind.i64 0)) 3, 4, (some (41, true))⟩,
  ⟨some 44, Op.pick (Operand.tmp 41) (Operand.tmp 43) (Operand.const (Value.bool false)), 4, (some (38, false))⟩,
  ⟨some 45, Op.move (Operand.tmp 44), 4, (some (38, false))⟩,
  ⟨some 46, Op.move (Operand.tmp 9), 3, (some (45, true))⟩,
  ⟨some 47, Op.binOp BinOp.gtr 3 (Operand.tmp 46) (Operand.const (Value.int IntKind.i64 0)) 3, 4, (some (45, true))⟩,
  ⟨some 48, Op.pick (Operand.tmp 45) (Operand.tmp 47) (Operand.const (Value.bool false)), 4, (some (38, false))⟩,
  ⟨some 49, Op.pick (Operand.tmp 38) (Operand.const (Value.bool true)) (Operand.tmp 48), 4, none⟩,
  ⟨some 50, Op.move (Operand.tmp 49), 4, none⟩,
  ⟨some 51, Op.move (Operand.tmp 7), 3, (some (50, false))⟩,
  ⟨some 52, Op.binOp BinOp.eql 3 (Operand.tmp 51) (Operand.const (Value.int IntKind.i64 0)) 3, 4, (some (50, false))⟩,
  ⟨some 53, Op.move (Operand.tmp 0), 9, (some (50, false))⟩,
  ⟨some 54, Op.call { callee := Callee.value (Operand.func 15), args := #[Operand.tmp 53], argTypes := #[9] }, 9, (some (50, false))⟩,
  ⟨some 55, Op.move (Operand.tmp 1), 9, (some (50, false))⟩,
  ⟨some 56, Op.call { callee := Callee.value (Operand.func 15), args := #[Operand.tmp 55], argTypes := #[9] }, 9, (some (50, false))⟩,
  ⟨some 57, Op.binOp BinOp.eql 9 (Operand.tmp 54) (Operand.tmp 56) 9, 4, (some (50, false))⟩,
  ⟨some 58, Op.binOp BinOp.neq 4 (Operand.tmp 52) (Operand.tmp 57) 4, 4, (some (50, false))⟩,
  ⟨some 59, Op.pick (Operand.tmp 50) (Operand.const (Value.bool true)) (Operand.tmp 58), 4, none⟩]
abbrev law01_ScanOrder_b8 : LC := .reg false law01_ScanOrder_r7
abbrev law01_ScanOrder_r9 : List LO := [⟨some 6, Op.assign (Operand.const (Value.bool false)), 4, none⟩]
abbrev law01_ScanOrder_b10 : LC := .reg false law01_ScanOrder_r9
abbrev law01_ScanOrder_b11 : LC := .seq law01_ScanOrder_b10 .ret
abbrev law01_ScanOrder_b12 : LC := .cond (Operand.tmp 59) law01_ScanOrder_b11 .skip
abbrev law01_ScanOrder_b13 : LC := .seq law01_ScanOrder_b8 law01_ScanOrder_b12
abbrev law01_ScanOrder_r14 : List LO := [⟨some 60, Op.move (Operand.tmp 0), 9, none⟩,
  ⟨some 61, Op.call { callee := Callee.value (Operand.func 19), args := #[Operand.tmp 60], argTypes := #[9] }, 9, none⟩,
  ⟨some 10, Op.assign (Operand.tmp 61), 9, none⟩]
abbrev law01_ScanOrder_b15 : LC := .reg false law01_ScanOrder_r14
abbrev law01_ScanOrder_r16 : List LO := [⟨some 62, Op.move (Operand.tmp 0), 9, none⟩,
  ⟨some 63, Op.move (Operand.tmp 10), 9, none⟩,
  ⟨some 64, Op.call { callee := Callee.value (Operand.func 17), args := #[Operand.tmp 62, Operand.tmp 63], argTypes := #[9, 9] }, 3, none⟩,
  ⟨some 65, Op.binOp BinOp.eql 3 (Operand.tmp 64) (Operand.const (Value.int IntKind.i64 (-1))) 3, 4, none⟩,
  ⟨some 66, Op.move (Operand.tmp 65), 4, none⟩,
  ⟨some 67, Op.move (Operand.tmp 7), 3, (some (66, true))⟩,
  ⟨some 68, Op.binOp BinOp.geq 3 (Operand.tmp 67) (Operand.const (Value.int IntKind.i64 0)) 3, 4, (some (66, true))⟩,
  ⟨some 69, Op.move (Operand.tmp 68), 4, (some (66, true))⟩,
  ⟨some 70, Op.move (Operand.tmp 10), 9, (some (69, false))⟩,
  ⟨some 71, Op.move (Operand.tmp 1), 9, (some (69, false))⟩,
  ⟨some 72, Op.call { callee := Callee.value (Operand.func 17), args := #[Operand.tmp 70, Operand.tmp 71], argTypes := #[9, 9] }, 3, (some (69, false))⟩,
  ⟨some 73, Op.binOp BinOp.leq 3 (Operand.tmp 72) (Operand.const (Value.int IntKind.i64 0)) 3, 4, (some (69, false))⟩,
  ⟨some 74, Op.pick (Operand.tmp 69) (Operand.const (Value.bool true)) (Operand.tmp 73), 4, (some (66, true))⟩,
  ⟨some 75, Op.pick (Operand.tmp 66) (Operand.tmp 74) (Operand.const (Value.bool false)), 4, none⟩,
  ⟨some 76, Op.move (Operand.tmp 75), 4, none⟩,
  ⟨some 77, Op.move (Operand.tmp 0), 9, (some (76, true))⟩,
  ⟨some 78, Op.binOp BinOp.add 9 (Operand.const (Value.string { data := #[48] })) (Operand.tmp 77) 9, 9, (some (76, true))⟩,
  ⟨some 79, Op.move (Operand.tmp 0), 9, (some (76, true))⟩,
  ⟨some 80, Op.call { callee := Callee.value (Operand.func 17), args := #[Operand.tmp 78, Operand.tmp 79], argTypes := #[9, 9] }, 3, (some (76, true))⟩,
  ⟨some 81, Op.binOp BinOp.eql 3 (Operand.tmp 80) (Operand.const (Value.int IntKind.i64 0)) 3, 4, (some (76, true))⟩,
  ⟨some 82, Op.pick (Operand.tmp 76) (Operand.tmp 81) (Operand.const (Value.bool false)), 4, none⟩,
  ⟨some 83, Op.move (Operand.tmp 82), 4, none⟩,
  ⟨some 84, Op.call { callee := Callee.value (Operand.func 21), args := #[], argTypes := #[] }, 4, (some (83, true))⟩,
  ⟨some 85, Op.pick (Operand.tmp 83) (Operand.tmp 84) (Operand.const (Value.bool false)), 4, none⟩,
  ⟨some 6, Op.assign (Operand.tmp 85), 4, none⟩]
abbrev law01_ScanOrder_b17 : LC := .reg false law01_ScanOrder_r16
abbrev law01_ScanOrder_b18 : LC := .seq law01_ScanOrder_b17 .ret
abbrev law01_ScanOrder_b19 : LC := .seq law01_ScanOrder_b15 law01_ScanOrder_b18
abbrev law01_ScanOrder_b20 : LC := .seq law01_ScanOrder_b13 law01_ScanOrder_b19
abbrev law01_ScanOrder_b21 : LC := .seq law01_ScanOrder_b6 law01_ScanOrder_b20
abbrev law01_ScanOrder_b22 : LC := .seq law01_ScanOrder_b4 law01_ScanOrder_b21
abbrev law01_ScanOrder_b23 : LC := .seq law01_ScanOrder_b2 law01_ScanOrder_b22
theorem law01_ScanOrder_k : FnOk E 4 86 [.tmp 6] law01_ScanOrder_b23 := ⟨⟨Go.Proofs.Tryd.f4, by kernel_rfl, by kernel_rfl, by kernel_rfl, by kernel_rfl, by kernel_rfl⟩, rfl⟩
noncomputable def law01_ScanOrder (a0 : Str) (a1 : Str) (a2 : Str) : Option (Bool) := Option.bind (law01_digits a0) (fun x1 => Option.bind (law01_digits a1) (fun x2 => Option.bind (law01_digits a2) (fun x3 => Option.bind (scan_Cmp x1 x2) (fun x4 => Option.bind (scan_Cmp x2 x3) (fun x5 => Option.bind (scan_Cmp x1 x3) (fun x6 => Option.bind (scan_Cmp x2 x1) (fun x7 => Option.bind (if (x7 != (w64 (0 - x4))) = true then some true else Option.bind (scan_Cmp x1 x1) (fun x10 => some (x10 != 0)) : Option (Bool)) (fun x9 => Option.bind (if (x9 || (((decide (x4 ≤ 0)) && (decide (x5 ≤ 0))) && (decide (x6 > 0)))) = true then some true else Option.bind (scan_Trim x1) (fun x14 => Option.bind (scan_Trim x2) (fun x15 => some (!((x4 == 0) == (x14 == x15))))) : Option (Bool)) (fun x13 => (if x13 = true then some false else Option.bind (scan_Next x1) (fun x16 => Option.bind (scan_Cmp x1 x16) (fun x17 => Option.bind (if (x17 == (-1)) = true then Option.bind (if (decide (x4 ≥ 0)) = true then some true else Option.bind (scan_Cmp x16 x2) (fun x23 => some (decide (x23 ≤ 0))) : Option (Bool)) (fun x22 => some (true && x22)) else some false : Option (Bool)) (fun x20 => Option.bind (if x20 = true then Option.bind (cat [48] x1) (fun x27 => Option.bind (scan_Cmp x27 x1) (fun x28 => some (x28 == 0))) else some false : Option (Bool)) (fun x26 => Option.bind (if x26 = true then Option.bind (law01_awake) (fun x31 => some x31) else some false : Option (Bool)) (fun x30 => some x30)))))))))))))))
theorem law01_ScanOrder_ok (a0 : Str) (a1 : Str) (a2 : Str) : Ct E 4 [bs a0, bs a1, bs a2] (law01_ScanOrder a0 a1 a2) (fun r : Bool => bv r) := ct_intro (N := 86) (L := law01_ScanOrder_b23) law01_ScanOrder_k rfl (Nat.le_of_ble_eq_true rfl) (by kernel_rfl) (by
  unfold law01_ScanOrder
  refine jc_seq ?_
  refine jc_reg ?_
  refine jr_seg 0 1 [0, 1, 2] [] (st1 := ⟨[(0, .av (bs a0)), (1, .av (bs a1)), (2, .av (bs a2))], [], 0⟩) (by kernel_rfl) ?_
  refine jr_nil rfl ?_
  refine jx_seqN ?_
  refine jc_seq ?_
  refine jc_reg ?_
  refine jr_seg 0 1 [1, 2, 11] [] (st1 := ⟨[(1, .av (bs a1)), (2, .av (bs a2)), (11, .av (bs a0))], [], 0⟩) (by kernel_rfl) ?_
  refine jr_callF (i := 1) rfl rfl rfl rfl (vs := [bs a0]) (by kernel_rfl) (snapL_cons rfl (snapL_nil _)) (all2_cons (fle_refl _) all2_nil) (law01_digits_ok a0) (fun _ => rfl) (fun _ => rfl) ?_
  intro x1 h1
  refine jr_seg 2 1 [2, 12, 13] [] (st1 := ⟨[(2, .av (bs a2)), (12, .av (bs x1)), (13, .av (bs a1))], [], 0⟩) (by kernel_rfl) ?_
  refine jr_callF (i := 3) rfl rfl rfl rfl (vs := [bs a1]) (by kernel_rfl) (snapL_cons rfl (snapL_nil _)) (all2_cons (fle_refl _) all2_nil) (law01_digits_ok a1) (fun _ => rfl) (fun _ => rfl) ?_
  intro x2 h2
  refine jr_seg 4 1 [12, 14, 15] [] (st1 := ⟨[(12, .av (bs x1)), (14, .av (bs x2)), (15, .av (bs a2))], [], 0⟩) (by kernel_rfl) ?_
  refine jr_callF (i := 5) rfl rfl rfl rfl (vs := [bs a2]) (by kernel_rfl) (snapL_cons rfl (snapL_nil _)) (all2_cons (fle_refl _) all2_nil) (law01_digits_ok a2) (fun _ => rfl) (fun _ => rfl) ?_
  intro x3 h3
  refine jr_seg 6 3 [0, 1, 2] [] (st1 := ⟨[(0, .av (bs x1)), (1, .av (bs x2)), (2, .av (bs x3))], [], 0⟩) (by kernel_rfl) ?_
  refine jr_nil rfl ?_
  refine jx_seqN ?_
  refine jc_seq ?_
  refine jc_reg ?_
  refine jr_seg 0 2 [0, 1, 2, 17, 18] [] (st1 := ⟨[(0, .av (bs x1)), (1, .av (bs x2)), (2, .av (bs x3)), (17, .av (bs x1)), (18, .av (bs x2))], [], 0⟩) (by kernel_rfl) ?_
  refine jr_callF (i := 2) rfl rfl rfl rfl (vs := [bs x1, bs x2]) (by kernel_rfl) (snapL_cons rfl (snapL_cons rfl (snapL_nil _))) (all2_cons (fle_refl _) (all2_cons (fle_refl _) all2_nil)) (scan_Cmp_ok x1 x2) (fun _ => rfl) (fun _ => rfl) ?_
  intro x4 h4
  refine jr_seg 3 2 [0, 1, 2, 19, 20, 21] [] (st1 := ⟨[(0, .av (bs x1)), (1, .av (bs x2)), (2, .av (bs x3)), (19, .av (iv x4)), (20, .av (bs x2)), (21, .av (bs x3))], [], 0⟩) (by kernel_rfl) ?_
  refine jr_callF (i := 5) rfl rfl rfl rfl (vs := [bs x2, bs x3]) (by kernel_rfl) (snapL_cons rfl (snapL_cons rfl (snapL_nil _))) (all2_cons (fle_refl _) (all2_cons (fle_refl _) all2_nil)) (scan_Cmp_ok x2 x3) (fun _ => rfl) (fun _ => rfl) ?_
  intro x5 h5
  refine jr_seg 6 2 [0, 1, 19, 22, 23, 24] [] (st1 := ⟨[(0, .av (bs x1)), (1, .av (bs x2)), (19, .av (iv x4)), (22, .av (iv x5)), (23, .av (bs x1)), (24, .av (bs x3))], [], 0⟩) (by kernel_rfl) ?_
  refine jr_callF (i := 8) rfl rfl rfl rfl (vs := [bs x1, bs x3]) (by kernel_rfl) (snapL_cons rfl (snapL_cons rfl (snapL_nil _))) (all2_cons (fle_refl _) (all2_cons (fle_refl _) all2_nil)) (scan_Cmp_ok x1 x3) (fun _ => rfl) (fun _ => rfl) ?_
  intro x6 h6
  refine jr_seg 9 3 [0, 1, 7, 8, 9] [] (st1 := ⟨[(0, .av (bs x1)), (1, .av (bs x2)), (7, .av (iv x4)), (8, .av (iv x5)), (9, .av (iv x6))], [], 0⟩) (by kernel_rfl) ?_
  refine jr_nil rfl ?_
  refine jx_seqN ?_
  refine jc_seq ?_
  refine jc_seq ?_
  refine jc_reg ?_
  refine jr_seg 0 2 [0, 1, 7, 8, 9, 26, 27] [] (st1 := ⟨[(0, .av (bs x1)), (1, .av (bs x2)), (7, .av (iv x4)), (8, .av (iv x5)), (9, .av (iv x6)), (26, .av (bs x2)), (27, .av (bs x1))], [], 0⟩) (by kernel_rfl) ?_
  refine jr_callF (i := 2) rfl rfl rfl rfl (vs := [bs x2, bs x1]) (by kernel_rfl) (snapL_cons rfl (snapL_cons rfl (snapL_nil _))) (all2_cons (fle_refl _) (all2_cons (fle_refl _) all2_nil)) (scan_Cmp_ok x2 x1) (fun _ => rfl) (fun _ => rfl) ?_
  intro x7 h7
  refine jr_seg 3 4 [0, 1, 7, 8, 9, 32] [] (st1 := ⟨[(0, .av (bs x1)), (1, .av (bs x2)), (7, .av (iv x4)), (8, .av (iv x5)), (9, .av (iv x6)), (32, .av (bv (x7 != (w64 (0 - x4)))))], [], 0⟩) (by kernel_rfl) ?_
  refine jr_bind 7 5 (fun x9 => ⟨[(0, .av (bs x1)), (1, .av (bs x2)), (7, .av (iv x4)), (8, .av (iv x5)), (9, .av (iv x6)), (37, .av (bv x9))], [], 0⟩) ?_ ?_
  · refine jr_split (g := 32) (c := (x7 != (w64 (0 - x4)))) (by kernel_rfl) ?_ ?_
    · intro _
      refine jr_seg 0 5 [0, 1, 7, 8, 9, 37] [] (st1 := ⟨[(0, .av (bs x1)), (1, .av (bs x2)), (7, .av (iv x4)), (8, .av (iv x5)), (9, .av (iv x6)), (37, .av (bv true))], [], 0⟩) (by kernel_rfl) ?_
      refine jr_nil rfl ?_
      exact jx_mid rfl (wk_ren [] (fix_nil _) rfl (by kernel_rfl) allp_nil)
    · intro _
      refine jr_seg 0 2 [0, 1, 7, 8, 9, 32, 33, 34] [] (st1 := ⟨[(0, .av (bs x1)), (1, .av (bs x2)), (7, .av (iv x4)), (8, .av (iv x5)), (9, .av (iv x6)), (32, .lit false), (33, .av (bs x1)), (34, .av (bs x1))], [], 0⟩) (by kernel_rfl) ?_
      refine jr_callF (i := 2) rfl rfl rfl rfl (vs := [bs x1, bs x1]) (by kernel_rfl) (snapL_cons rfl (snapL_cons rfl (snapL_nil _))) (all2_cons (fle_refl _) (all2_cons (fle_refl _) all2_nil)) (scan_Cmp_ok x1 x1) (fun _ => rfl) (fun _ => rfl) ?_
      intro x10 h10
      refine jr_seg 3 2 [0, 1, 7, 8, 9, 37] [] (st1 := ⟨[(0, .av (bs x1)), (1, .av (bs x2)), (7, .av (iv x4)), (8, .av (iv x5)), (9, .av (iv x6)), (37, .av (bv (x10 != 0)))], [], 0⟩) (by kernel_rfl) ?_
      refine jr_nil rfl ?_
      exact jx_mid rfl (wk_ren [] (fix_nil _) rfl (by kernel_rfl) allp_nil)
  · intro x9
    refine jr_seg 12 13 [0, 1, 7, 50] [] (st1 := ⟨[(0, .av (bs x1)), (1, .av (bs x2)), (7, .av (iv x4)), (50, .av (bv (x9 || (((decide (x4 ≤ 0)) && (decide (x5 ≤ 0))) && (decide (x6 > 0))))))], [], 0⟩) (by kernel_rfl) ?_
    refine jr_bind 25 9 (fun x13 => ⟨[(0, .av (bs x1)), (1, .av (bs x2)), (7, .av (iv x4)), (59, .av (bv x13))], [], 0⟩) ?_ ?_
    · refine jr_split (g := 50) (c := (x9 || (((decide (x4 ≤ 0)) && (decide (x5 ≤ 0))) && (decide (x6 > 0))))) (by kernel_rfl) ?_ ?_
      · intro _
        refine jr_seg 0 9 [0, 1, 7, 59] [] (st1 := ⟨[(0, .av (bs x1)), (1, .av (bs x2)), (7, .av (iv x4)), (59, .av (bv true))], [], 0⟩) (by kernel_rfl) ?_
        refine jr_nil rfl ?_
        exact jx_mid rfl (wk_ren [] (fix_nil _) rfl (by kernel_rfl) allp_nil)
      · intro _
        refine jr_seg 0 3 [0, 1, 7, 50, 52, 53] [] (st1 := ⟨[(0, .av (bs x1)), (1, .av (bs x2)), (7, .av (iv x4)), (50, .lit false), (52, .av (bv (x4 == 0))), (53, .av (bs x1))], [], 0⟩) (by kernel_rfl) ?_
        refine jr_callF (i := 3) rfl rfl rfl rfl (vs := [bs x1]) (by kernel_rfl) (snapL_cons rfl (snapL_nil _)) (all2_cons (fle_refl _) all2_nil) (scan_Trim_ok x1) (fun _ => rfl) (fun _ => rfl) ?_
        intro x14 h14
        refine jr_seg 4 1 [0, 1, 7, 50, 52, 54, 55] [] (st1 := ⟨[(0, .av (bs x1)), (1, .av (bs x2)), (7, .av (iv x4)), (50, .lit false), (52, .av (bv (x4 == 0))), (54, .av (bs x14)), (55, .av (bs x2))], [], 0⟩) (by kernel_rfl) ?_
        refine jr_callF (i := 5) rfl rfl rfl rfl (vs := [bs x2]) (by kernel_rfl) (snapL_cons rfl (snapL_nil _)) (all2_cons (fle_refl _) all2_nil) (scan_Trim_ok x2) (fun _ => rfl) (fun _ => rfl) ?_
        intro x15 h15
        refine jr_seg 6 3 [0, 1, 7, 59] [] (st1 := ⟨[(0, .av (bs x1)), (1, .av (bs x2)), (7, .av (iv x4)), (59, .av (bv (!((x4 == 0) == (x14 == x15)))))], [], 0⟩) (by kernel_rfl) ?_
        refine jr_nil rfl ?_
        exact jx_mid rfl (wk_ren [] (fix_nil _) rfl (by kernel_rfl) allp_nil)
    · intro x13
      refine jr_nil rfl ?_
      refine jx_seqN ?_
      refine jc_cond (g := 59) (c := x13) (by kernel_rfl) ?_ ?_
      · intro _
        refine jc_seq ?_
        refine jc_reg ?_
        refine jr_seg 0 1 [6] [] (st1 := ⟨[(6, .av (bv false))], [], 0⟩) (by kernel_rfl) ?_
        refine jr_nil rfl ?_
        refine jx_seqN ?_
        refine jc_ret ?_
        refine jx_seqR ?_
        exact jx_retF (.inr rfl) (v := bv false) (by kernel_rfl) rfl (fle_refl _)
      · intro _
        refine jc_skip ?_
        refine jx_seqN ?_
        refine jc_seq ?_
        refine jc_reg ?_
        refine jr_seg 0 1 [0, 1, 7, 60] [] (st1 := ⟨[(0, .av (bs x1)), (1, .av (bs x2)), (7, .av (iv x4)), (60, .av (bs x1))], [], 0⟩) (by kernel_rfl) ?_
        refine jr_callF (i := 1) rfl rfl rfl rfl (vs := [bs x1]) (by kernel_rfl) (snapL_cons rfl (snapL_nil _)) (all2_cons (fle_refl _) all2_nil) (scan_Next_ok x1) (fun _ => rfl) (fun _ => rfl) ?_
        intro x16 h16
        refine jr_seg 2 1 [0, 1, 7, 10] [] (st1 := ⟨[(0, .av (bs x1)), (1, .av (bs x2)), (7, .av (iv x4)), (10, .av (bs x16))], [], 0⟩) (by kernel_rfl) ?_
        refine jr_nil rfl ?_
        refine jx_seqN ?_
        refine jc_seq ?_
        refine jc_reg ?_
        refine jr_seg 0 2 [0, 1, 7, 10, 62, 63] [] (st1 := ⟨[(0, .av (bs x1)), (1, .av (bs x2)), (7, .av (iv x4)), (10, .av (bs x16)), (62, .av (bs x1)), (63, .av (bs x16))], [], 0⟩) (by kernel_rfl) ?_
        refine jr_callF (i := 2) rfl rfl rfl rfl (vs := [bs x1, bs x16]) (by kernel_rfl) (snapL_cons rfl (snapL_cons rfl (snapL_nil _))) (all2_cons (fle_refl _) (all2_cons (fle_refl _) all2_nil)) (scan_Cmp_ok x1 x16) (fun _ => rfl) (fun _ => rfl) ?_
        intro x17 h17
        refine jr_seg 3 2 [0, 1, 7, 10, 66] [] (st1 := ⟨[(0, .av (bs x1)), (1, .av (bs x2)), (7, .av (iv x4)), (10, .av (bs x16)), (66, .av (bv (x17 == (-1))))], [], 0⟩) (by kernel_rfl) ?_
        refine jr_bind 5 9 (fun x20 => ⟨[(0, .av (bs x1)), (75, .av (bv x20))], [], 0⟩) ?_ ?_
        · refine jr_split (g := 66) (c := (x17 == (-1))) (by kernel_rfl) ?_ ?_
          · intro _
            refine jr_seg 0 3 [0, 1, 10, 66, 69] [] (st1 := ⟨[(0, .av (bs x1)), (1, .av (bs x2)), (10, .av (bs x16)), (66, .lit true), (69, .av (bv (decide (x4 ≥ 0))))], [], 0⟩) (by kernel_rfl) ?_
            refine jr_bind 3 5 (fun x22 => ⟨[(0, .av (bs x1)), (66, .av (bv true)), (74, .av (bv x22))], [], 0⟩) ?_ ?_
            · refine jr_split (g := 69) (c := (decide (x4 ≥ 0))) (by kernel_rfl) ?_ ?_
              · intro _
                refine jr_seg 0 5 [0, 66, 74] [] (st1 := ⟨[(0, .av (bs x1)), (66, .lit true), (74, .av (bv true))], [], 0⟩) (by kernel_rfl) ?_
                refine jr_nil rfl ?_
                exact jx_mid rfl (wk_ren [] (fix_nil _) rfl (by kernel_rfl) allp_nil)
              · intro _
                refine jr_seg 0 2 [0, 66, 69, 70, 71] [] (st1 := ⟨[(0, .av (bs x1)), (66, .lit true), (69, .lit false), (70, .av (bs x16)), (71, .av (bs x2))], [], 0⟩) (by kernel_rfl) ?_
                refine jr_callF (i := 2) rfl rfl rfl rfl (vs := [bs x16, bs x2]) (by kernel_rfl) (snapL_cons rfl (snapL_cons rfl (snapL_nil _))) (all2_cons (fle_refl _) (all2_cons (fle_refl _) all2_nil)) (scan_Cmp_ok x16 x2) (fun _ => rfl) (fun _ => rfl) ?_
                intro x23 h23
                refine jr_seg 3 2 [0, 66, 74] [] (st1 := ⟨[(0, .av (bs x1)), (66, .lit true), (74, .av (bv (decide (x23 ≤ 0))))], [], 0⟩) (by kernel_rfl) ?_
                refine jr_nil rfl ?_
                exact jx_mid rfl (wk_ren [] (fix_nil _) rfl (by kernel_rfl) allp_nil)
            · intro x22
              refine jr_seg 8 1 [0, 75] [] (st1 := ⟨[(0, .av (bs x1)), (75, .av (bv (true && x22)))], [], 0⟩) (by kernel_rfl) ?_
              refine jr_nil rfl ?_
              exact jx_mid rfl (wk_ren [] (fix_nil _) rfl (by kernel_rfl) allp_nil)
          · intro _
            refine jr_seg 0 9 [0, 75] [] (st1 := ⟨[(0, .av (bs x1)), (75, .av (bv false))], [], 0⟩) (by kernel_rfl) ?_
            refine jr_nil rfl ?_
            exact jx_mid rfl (wk_ren [] (fix_nil _) rfl (by kernel_rfl) allp_nil)
        · intro x20
          refine jr_seg 14 1 [0, 76] [] (st1 := ⟨[(0, .av (bs x1)), (76, .av (bv x20))], [], 0⟩) (by kernel_rfl) ?_
          refine jr_bind 15 6 (fun x26 => ⟨[(82, .av (bv x26))], [], 0⟩) ?_ ?_
          · refine jr_split (g := 76) (c := x20) (by kernel_rfl) ?_ ?_
            · intro _
              refine jr_seg 0 1 [0, 76, 77] [] (st1 := ⟨[(0, .av (bs x1)), (76, .lit true), (77, .av (bs x1))], [], 0⟩) (by kernel_rfl) ?_
              refine jr_part (i := 1) (mo := cat [48] x1) rfl rfl rfl rfl (fun _ hc => aop_cat (by kernel_rfl) (by kernel_rfl) hc) (fun _ => rfl) ?_
              intro x27 h27
              refine jr_seg 2 1 [76, 78, 79] [] (st1 := ⟨[(76, .lit true), (78, .av (bs x27)), (79, .av (bs x1))], [], 0⟩) (by kernel_rfl) ?_
              refine jr_callF (i := 3) rfl rfl rfl rfl (vs := [bs x27, bs x1]) (by kernel_rfl) (snapL_cons rfl (snapL_cons rfl (snapL_nil _))) (all2_cons (fle_refl _) (all2_cons (fle_refl _) all2_nil)) (scan_Cmp_ok x27 x1) (fun _ => rfl) (fun _ => rfl) ?_
              intro x28 h28
              refine jr_seg 4 2 [82] [] (st1 := ⟨[(82, .av (bv (x28 == 0)))], [], 0⟩) (by kernel_rfl) ?_
              refine jr_nil rfl ?_
              exact jx_mid rfl (wk_ren [] (fix_nil _) rfl (by kernel_rfl) allp_nil)
            · intro _
              refine jr_seg 0 6 [82] [] (st1 := ⟨[(82, .av (bv false))], [], 0⟩) (by kernel_rfl) ?_
              refine jr_nil rfl ?_
              exact jx_mid rfl (wk_ren [] (fix_nil _) rfl (by kernel_rfl) allp_nil)
          · intro x26
            refine jr_seg 21 1 [83] [] (st1 := ⟨[(83, .av (bv x26))], [], 0⟩) (by kernel_rfl) ?_
            refine jr_bind 22 2 (fun x30 => ⟨[(85, .av (bv x30))], [], 0⟩) ?_ ?_
            · refine jr_split (g := 83) (c := x26) (by kernel_rfl) ?_ ?_
              · intro _
                refine jr_callF (i := 0) rfl rfl rfl rfl (vs := []) (by kernel_rfl) (snapL_nil _) all2_nil (law01_awake_ok) (fun _ => rfl) (fun _ => rfl) ?_
                intro x31 h31
                refine jr_seg 1 1 [85] [] (st1 := ⟨[(85, .av (bv x31))], [], 0⟩) (by kernel_rfl) ?_
                refine jr_nil rfl ?_
                exact jx_mid rfl (wk_ren [] (fix_nil _) rfl (by kernel_rfl) allp_nil)
              · intro _
                refine jr_seg 0 2 [85] [] (st1 := ⟨[(85, .av (bv false))], [], 0⟩) (by kernel_rfl) ?_
                refine jr_nil rfl ?_
                exact jx_mid rfl (wk_ren [] (fix_nil _) rfl (by kernel_rfl) allp_nil)
            · intro x30
              refine jr_seg 24 1 [6] [] (st1 := ⟨[(6, .av (bv x30))], [], 0⟩) (by kernel_rfl) ?_
              refine jr_nil rfl ?_
              refine jx_seqN ?_
              refine jc_ret ?_
              exact jx_retF (.inr rfl) (v := bv x30) (by kernel_rfl) rfl (fle_refl _))
end Go.Vm

set_option maxRecDepth 100000
set_option maxHeartbeats 0
set_option linter.unusedVariables false
set_option linter.unusedSimpArgs false
namespace Go.Vm
open Go
/-! ### internal/stringslite.HasPrefix -/
abbrev stringslite_HasPrefix_r1 : List LO := [⟨some 4, Op.assign (Operand.const (Value.bool false)), 4, none⟩]
abbrev stringslite_HasPrefix_b2 : LC := .reg false stringslite_HasPrefix_r1
abbrev stringslite_HasPrefix_r3 : List LO := [⟨some 5, Op.move (Operand.tmp 0), 9, none⟩,
  ⟨some 6, Op.call { callee := Callee.builtin Builtin.len, args := #[Operand.tmp 5], argTypes := #[9] }, 3, none⟩,
  ⟨some 7, Op.move (Operand.tmp 1), 9, none⟩,
  ⟨some 8, Op.call { callee := Callee.builtin Builtin.len, args := #[Operand.tmp 7], argTypes := #[9] }, 3, none⟩,
  ⟨some 9, Op.binOp BinOp.geq 3 (Operand.tmp 6) (Operand.tmp 8) 3, 4, none⟩,
  ⟨some 10, Op.move (Operand.tmp 9), 4, none⟩,
  ⟨some 11, Op.move (Operand.tmp 0), 9, (some (10, true))⟩,
  ⟨some 12, Op.move (Operand.tmp 1), 9, (some (10, true))⟩,
  ⟨some 13, Op.call { callee := Callee.builtin Builtin.len, args := #[Operand.tmp 12], argTypes := #[9] }, 3, (some (10, true))⟩,
  ⟨some 14, Op.slice 9 (Operand.tmp 11) none (some (Operand.tmp 13)) none, 9, (some (10, true))⟩,
  ⟨some 15, Op.move (Operand.tmp 1), 9, (some (10, true))⟩,
  ⟨some 16, Op.binOp BinOp.eql 9 (Operand.tmp 14) (Operand.tmp 15) 9, 4, (some (10, true))⟩,
  ⟨some 17, Op.pick (Operand.tmp 10) (Operand.tmp 16) (Operand.const (Value.bool false)), 4, none⟩,
  ⟨some 4, Op.assign (Operand.tmp 17), 4, none⟩]
abbrev stringslite_HasPrefix_b4 : LC := .reg false stringslite_HasPrefix_r3
abbrev stringslite_HasPrefix_b5 : LC := .seq stringslite_HasPrefix_b4 .ret
abbrev stringslite_HasPrefix_b6 : LC := .seq stringslite_HasPrefix_b2 stringslite_HasPrefix_b5
theorem stringslite_HasPrefix_k : FnOk E 113 18 [.tmp 4] stringslite_HasPrefix_b6 := ⟨⟨Go.Proofs.Tryd.f113, by kernel_rfl, by kernel_rfl, by kernel_rfl, by kernel_rfl, by kernel_rfl⟩, rfl⟩
noncomputable def stringslite_HasPrefix (a0 : Str) (a1 : Str) : Option (Bool) := Option.bind (if (decide ((List.length a0 : Int) ≥ (List.length a1 : Int))) = true then Option.bind (subl a0 0 (List.length a1 : Int)) (fun x3 => some (x3 == a1)) else some false : Option (Bool)) (fun x2 => some x2)
theorem stringslite_HasPrefix_ok (a0 : Str) (a1 : Str) : Ct E 113 [bs a0, bs a1] (stringslite_HasPrefix a0 a1) (fun r : Bool => bv r) := ct_intro (N := 18) (L := stringslite_HasPrefix_b6) stringslite_HasPrefix_k rfl (Nat.le_of_ble_eq_true rfl) (by kernel_rfl) (by
  unfold stringslite_HasPrefix
  refine jc_seq ?_
  refine jc_reg ?_
  refine jr_seg 0 1 [0, 1] [] (st1 := ⟨[(0, .av (bs a0)), (1, .av (bs a1))], [], 0⟩) (by kernel_rfl) ?_
  refine jr_nil rfl ?_
  refine jx_seqN ?_
  refine jc_seq ?_
  refine jc_reg ?_
  refine jr_seg 0 6 [0, 1, 10] [] (st1 := ⟨[(0, .av (bs a0)), (1, .av (bs a1)), (10, .av (bv (decide ((List.length a0 : Int) ≥ (List.length a1 : Int)))))], [], 0⟩) (by kernel_rfl) ?_
  refine jr_bind 6 7 (fun x2 => ⟨[(17, .av (bv x2))], [], 0⟩) ?_ ?_
  · refine jr_split (g := 10) (c := (decide ((List.length a0 : Int) ≥ (List.length a1 : Int)))) (by kernel_rfl) ?_ ?_
    · intro _
      refine jr_seg 0 3 [1, 10, 11, 13] [] (st1 := ⟨[(1, .av (bs a1)), (10, .lit true), (11, .av (bs a0)), (13, .av (iv (List.length a1 : Int)))], [], 0⟩) (by kernel_rfl) ?_
      refine jr_part (i := 3) (mo := subl a0 0 (List.length a1 : Int)) rfl rfl rfl rfl (fun _ hc => aop_subs (by kernel_rfl) (by kernel_rfl) (by kernel_rfl) (by kernel_rfl) hc) (fun _ => rfl) ?_
      intro x3 h3
      refine jr_seg 4 3 [17] [] (st1 := ⟨[(17, .av (bv (x3 == a1)))], [], 0⟩) (by kernel_rfl) ?_
      refine jr_nil rfl ?_
      exact jx_mid rfl (wk_ren [] (fix_nil _) rfl (by kernel_rfl) allp_nil)
    · intro _
      refine jr_seg 0 7 [17] [] (st1 := ⟨[(17, .av (bv false))], [], 0⟩) (by kernel_rfl) ?_
      refine jr_nil rfl ?_
      exact jx_mid rfl (wk_ren [] (fix_nil _) rfl (by kernel_rfl) allp_nil)
  · intro x2
    refine jr_seg 13 1 [4] [] (st1 := ⟨[(4, .av (bv x2))], [], 0⟩) (by kernel_rfl) ?_
    refine jr_nil rfl ?_
    refine jx_seqN ?_
    refine jc_ret ?_
    exact jx_retF (.inr rfl) (v := bv x2) (by kernel_rfl) rfl (fle_refl _))
end Go.Vm

set_option maxRecDepth 100000
set_option maxHeartbeats 0
set_option linter.unusedVariables false
set_option linter.unusedSimpArgs false
namespace Go.Vm
open Go
/-! ### strings.HasPrefix -/
abbrev strings_HasPrefix_r1 : List LO := [⟨some 4, Op.assign (Operand.const (Value.bool false)), 4, none⟩]
abbrev strings_HasPrefix_b2 : LC := .reg false strings_HasPrefix_r1
abbrev strings_HasPrefix_r3 : List LO := [⟨some 5, Op.move (Operand.tmp 0), 9, none⟩,
  ⟨some 6, Op.move (Operand.tmp 1), 9, none⟩,
  ⟨some 7, Op.call { callee := Callee.value (Operand.func 113), args := #[Operand.tmp 5, Operand.tmp 6], argTypes := #[9, 9] }, 4, none⟩,
  ⟨some 4, Op.assign (Operand.tmp 7), 4, none⟩]
abbrev strings_HasPrefix_b4 : LC := .reg false strings_HasPrefix_r3
abbrev strings_HasPrefix_b5 : LC := .seq strings_HasPrefix_b4 .ret
abbrev strings_HasPrefix_b6 : LC := .seq strings_HasPrefix_b2 strings_HasPrefix_b5
theorem strings_HasPrefix_k : FnOk E 70 8 [.tmp 4] strings_HasPrefix_b6 := ⟨⟨Go.Proofs.Tryd.f70, by kernel_rfl, by kernel_rfl, by kernel_rfl, by kernel_rfl, by kernel_rfl⟩, rfl⟩
noncomputable def strings_HasPrefix (a0 : Str) (a1 : Str) : Option (Bool) := Option.bind (stringslite_HasPrefix a0 a1) (fun x1 => some x1)
theorem strings_HasPrefix_ok (a0 : Str) (a1 : Str) : Ct E 70 [bs a0, bs a1] (strings_HasPrefix a0 a1) (fun r : Bool => bv r) := ct_intro (N := 8) (L := strings_HasPrefix_b6) strings_HasPrefix_k rfl (Nat.le_of_ble_eq_true rfl) (by kernel_rfl) (by
  unfold strings_HasPrefix
  refine jc_seq ?_
  refine jc_reg ?_
  refine jr_seg 0 1 [0, 1] [] (st1 := ⟨[(0, .av (bs a0)), (1, .av (bs a1))], [], 0⟩) (by kernel_rfl) ?_
  refine jr_nil rfl ?_
  refine jx_seqN ?_
  refine jc_seq ?_
  refine jc_reg ?_
  refine jr_seg 0 2 [5, 6] [] (st1 := ⟨[(5, .av (bs a0)), (6, .av (bs a1))], [], 0⟩) (by kernel_rfl) ?_
  refine jr_callF (i := 2) rfl rfl rfl rfl (vs := [bs a0, bs a1]) (by kernel_rfl) (snapL_cons rfl (snapL_cons rfl (snapL_nil _))) (all2_cons (fle_refl _) (all2_cons (fle_refl _) all2_nil)) (stringslite_HasPrefix_ok a0 a1) (fun _ => rfl) (fun _ => rfl) ?_
  intro x1 h1
  refine jr_seg 3 1 [4] [] (st1 := ⟨[(4, .av (bv x1))], [], 0⟩) (by kernel_rfl) ?_
  refine jr_nil rfl ?_
  refine jx_seqN ?_
  refine jc_ret ?_
  exact jx_retF (.inr rfl) (v := bv x1) (by kernel_rfl) rfl (fle_refl _))
end Go.Vm

set_option maxRecDepth 100000
set_option maxHeartbeats 0
set_option linter.unusedVariables false
set_option linter.unusedSimpArgs false
namespace Go.Vm
open Go
/-! ### dovetail/scan.Word -/
abbrev scan_Word_r1 : List LO := [⟨some 6, Op.assign (Operand.const (Value.string { data := #[] })), 9, none⟩,
  ⟨some 7, Op.assign (Operand.const (Value.bool false)), 4, none⟩]
abbrev scan_Word_b2 : LC := .reg false scan_Word_r1
abbrev scan_Word_r3 : List LO := [⟨some 8, Op.assign (Operand.const (Value.string { data := #[] })), 9, none⟩,
  ⟨some 9, Op.assign (Operand.const (Value.bool false)), 4, none⟩]
abbrev scan_Word_b4 : LC := .reg false scan_Word_r3
abbrev scan_Word_r5 : List LO := [⟨some 12, Op.move (Operand.tmp 1), 3, none⟩,
  ⟨some 13, Op.binOp BinOp.lss 3 (Operand.tmp 12) (Operand.const (Value.int IntKind.i64 0)) 3, 4, none⟩,
  ⟨some 14, Op.move (Operand.tmp 13), 4, none⟩,
  ⟨some 15, Op.move (Operand.tmp 1), 3, (some (14, false))⟩,
  ⟨some 16, Op.move (Operand.tmp 0), 9, (some (14, false))⟩,
  ⟨some 17, Op.call { callee := Callee.builtin Builtin.len, args := #[Operand.tmp 16], argTypes := #[9] }, 3, (some (14, false))⟩,
  ⟨some 18, Op.binOp BinOp.gtr 3 (Operand.tmp 15) (Operand.tmp 17) 3, 4, (some (14, false))⟩,
  ⟨some 19, Op.pick (Operand.tmp 14) (Operand.const (Value.bool true)) (Operand.tmp 18), 4, none⟩]
abbrev scan_Word_b6 : LC := .reg false scan_Word_r5
abbrev scan_Word_r7 : List LO := [⟨some 6, Op.assign (Operand.const (Value.string { data := #[] })), 9, none⟩,
  ⟨some 7, Op.assign (Operand.const (Value.bool false)), 4, none⟩]
abbrev scan_Word_b8 : LC := .reg false scan_Word_r7
abbrev scan_Word_b9 : LC := .seq scan_Word_b8 .ret
abbrev scan_Word_b10 : LC := .cond (Operand.tmp 19) scan_Word_b9 .skip
abbrev scan_Word_b11 : LC := .seq scan_Word_b6 scan_Word_b10
abbrev scan_Word_r12 : List LO := [⟨some 20, Op.move (Operand.tmp 2), 35, none⟩,
  ⟨some 21, Op.call { callee := Callee.builtin Builtin.len, args := #[Operand.tmp 20], argTypes := #[35] }, 3, none⟩,
  ⟨some 22, Op.move (Operand.const (Value.int IntKind.i64 0)), 3, none⟩]
abbrev scan_Word_b13 : LC := .reg false scan_Word_r12
abbrev scan_Word_r14 : List LO := [⟨some 23, Op.binOp BinOp.lss 3 (Operand.tmp 22) (Operand.tmp 21) 3, 0, none⟩]
abbrev scan_Word_b15 : LC := .reg false scan_Word_r14
abbrev scan_Word_b16 : LC := .cond (Operand.tmp 23) .skip (.exit 0)
abbrev scan_Word_r17 : List LO := [⟨some 24, Op.indexAddr 35 (Operand.tmp 20) (Operand.tmp 22), 0, none⟩,
  ⟨some 25, Op.load 9 (Operand.tmp 24), 9, none⟩,
  ⟨some 11, Op.assign (Operand.tmp 25), 9, none⟩]
abbrev scan_Word_b18 : LC := .reg false scan_Word_r17
abbrev scan_Word_r19 : List LO := [⟨some 26, Op.move (Operand.tmp 0), 9, none⟩,
  ⟨some 27, Op.move (Operand.tmp 1), 3, none⟩,
  ⟨some 28, Op.slice 9 (Operand.tmp 26) (some (Operand.tmp 27)) none none, 9, none⟩,
  ⟨some 29, Op.move (Operand.tmp 11), 9, none⟩,
  ⟨some 30, Op.call { callee := Callee.value (Operand.func 70), args := #[Operand.tmp 28, Operand.tmp 29], argTypes := #[9, 9] }, 4, none⟩,
  ⟨some 31, Op.move (Operand.tmp 30), 4, none⟩,
  ⟨some 32, Op.move (Operand.tmp 9), 4, (some (31, true))⟩,
  ⟨some 33, Op.unOp UnOp.not 4 (Operand.tmp 32), 4, (some (31, true))⟩,
  ⟨some 34, Op.move (Operand.tmp 33), 4, (some (31, true))⟩,
  ⟨some 35, Op.move (Operand.tmp 11), 9, (some (34, false))⟩,
  ⟨some 36, Op.call { callee := Callee.builtin Builtin.len, args := #[Operand.tmp 35], argTypes := #[9] }, 3, (some (34, false))⟩,
  ⟨some 37, Op.move (Operand.tmp 8), 9, (some (34, false))⟩,
  ⟨some 38, Op.call { callee := Callee.builtin Builtin.len, args := #[Operand.tmp 37], argTypes := #[9] }, 3, (some (34, false))⟩,
  ⟨some 39, Op.binOp BinOp.gtr 3 (Operand.tmp 36) (Operand.tmp 38) 3, 4, (some (34, false))⟩,
  ⟨some 40, Op.pick (Operand.tmp 34) (Operand.const (Value.bool true)) (Operand.tmp 39), 4, (some (31, true))⟩,
  ⟨some 41, Op.pick (Operand.tmp 31) (Operand.tmp 40) (Operand.const (Value.bool false)), 4, none⟩]
abbrev scan_Word_b20 : LC := .reg false scan_Word_r19
abbrev scan_Word_r21 : List LO := [⟨some 42, Op.move (Operand.tmp 11), 9, none⟩,
  ⟨some 8, Op.assign (Operand.tmp 42), 9, none⟩,
  ⟨some 9, Op.assign (Operand.const (Value.bool true)), 4, none⟩]
abbrev scan_Word_b22 : LC := .reg false scan_Word_r21
abbrev scan_Word_b23 : LC := .cond (Operand.tmp 41) scan_Word_b22 .skip
abbrev scan_Word_b24 : LC := .seq scan_Word_b20 scan_Word_b23
abbrev scan_Word_b25 : LC := .seq scan_Word_b18 scan_Word_b24
abbrev scan_Word_b26 : LC := .block 1 scan_Word_b25
abbrev scan_Word_r27 : List LO := [⟨some 43, Op.binOp BinOp.add 3 (Operand.tmp 22) (Operand.const (Value.int IntKind.i64 1)) 3, 3, none⟩,
  ⟨some 22, Op.move (Operand.tmp 43), 3, none⟩]
abbrev scan_Word_b28 : LC := .reg false scan_Word_r27
abbrev scan_Word_b29 : LC := .seq scan_Word_b26 scan_Word_b28
abbrev scan_Word_b30 : LC := .seq scan_Word_b16 scan_Word_b29
abbrev scan_Word_b31 : LC := .seq scan_Word_b15 scan_Word_b30
abbrev scan_Word_b32 : LC := .loop scan_Word_b31
abbrev scan_Word_b33 : LC := .block 0 scan_Word_b32
abbrev scan_Word_b34 : LC := .seq scan_Word_b13 scan_Word_b33
abbrev scan_Word_r35 : List LO := [⟨some 44, Op.move (Operand.tmp 8), 9, none⟩,
  ⟨some 45, Op.move (Operand.tmp 9), 4, none⟩,
  ⟨some 6, Op.assign (Operand.tmp 44), 9, none⟩,
  ⟨some 7, Op.assign (Operand.tmp 45), 4, none⟩]
abbrev scan_Word_b36 : LC := .reg false scan_Word_r35
abbrev scan_Word_b37 : LC := .seq scan_Word_b36 .ret
abbrev scan_Word_b38 : LC := .seq scan_Word_b34 scan_Word_b37
abbrev scan_Word_b39 : LC := .seq scan_Word_b11 scan_Word_b38
abbrev scan_Word_b40 : LC := .seq scan_Word_b4 scan_Word_b39
abbrev scan_Word_b41 : LC := .seq scan_Word_b2 scan_Word_b40
theorem scan_Word_k : FnOk E 28 46 [.tmp 6, .tmp 7] scan_Word_b41 := ⟨⟨Go.Proofs.Tryd.f28, by kernel_rfl, by kernel_rfl, by kernel_rfl, by kernel_rfl, by kernel_rfl⟩, rfl⟩
noncomputable def scan_Word_l1 (a0 : Str) (a1 : Int) (a2 : (List Str)) : (Str × Bool × Int) → Option (Step (Str × Bool × Int) (Str × Bool)) := fun (x6, x7, x8) => (if (decide (x8 < (List.length a2 : Int))) = true then Option.bind (Option.bind (ixl a2 x8) (fun x24 => Option.bind (subl a0 a1 (List.length a0 : Int)) (fun x25 => Option.bind (strings_HasPrefix x25 x24) (fun x26 => (if (x26 && ((!x7) || (decide ((List.length x24 : Int) > (List.length x6 : Int))))) = true then some (x24, true) else some (x6, x7))))) : Option (Str × Bool)) (fun (x22, x23) => some (Step.next (x22, x23, (w64 (x8 + 1))))) else some (Step.done (x6, x7)))
noncomputable def scan_Word (a0 : Str) (a1 : Int) (a2 : (List Str)) : Option (Str × Bool) := (if ((decide (a1 < 0)) || (decide (a1 > (List.length a0 : Int)))) = true then some ([], false) else Option.bind (loopC (scan_Word_l1 a0 a1 a2) ([], false, 0)) (fun (x17, x18) => some (x17, x18)))
theorem scan_Word_ok (a0 : Str) (a1 : Int) (a2 : (List Str)) : Ct E 28 [bs a0, iv a1, .fsl 1 (List.map cS a2)] (scan_Word a0 a1 a2) (fun r : Str × Bool => .tup [bs r.1, bv r.2]) := ct_intro (N := 46) (L := scan_Word_b41) scan_Word_k rfl (Nat.le_of_ble_eq_true rfl) (by kernel_rfl) (by
  unfold scan_Word
  refine jc_seq ?_
  refine jc_reg ?_
  refine jr_seg 0 2 [0, 1, 2] [] (st1 := ⟨[(0, .av (bs a0)), (1, .av (iv a1)), (2, .av (.fsl 1 (List.map cS a2)))], [], 0⟩) (by kernel_rfl) ?_
  refine jr_nil rfl ?_
  refine jx_seqN ?_
  refine jc_seq ?_
  refine jc_reg ?_
  refine jr_seg 0 2 [0, 1, 2, 8, 9] [] (st1 := ⟨[(0, .av (bs a0)), (1, .av (iv a1)), (2, .av (.fsl 1 (List.map cS a2))), (8, .av (bs [])), (9, .av (bv false))], [], 0⟩) (by kernel_rfl) ?_
  refine jr_nil rfl ?_
  refine jx_seqN ?_
  refine jc_seq ?_
  refine jc_seq ?_
  refine jc_reg ?_
  refine jr_seg 0 8 [0, 1, 2, 8, 9, 19] [] (st1 := ⟨[(0, .av (bs a0)), (1, .av (iv a1)), (2, .av (.fsl 1 (List.map cS a2))), (8, .av (bs [])), (9, .av (bv false)), (19, .av (bv ((decide (a1 < 0)) || (decide (a1 > (List.length a0 : Int))))))], [], 0⟩) (by kernel_rfl) ?_
  refine jr_nil rfl ?_
  refine jx_seqN ?_
  refine jc_cond (g := 19) (c := ((decide (a1 < 0)) || (decide (a1 > (List.length a0 : Int))))) (by kernel_rfl) ?_ ?_
  · intro _
    refine jc_seq ?_
    refine jc_reg ?_
    refine jr_seg 0 2 [6, 7] [] (st1 := ⟨[(6, .av (bs [])), (7, .av (bv false))], [], 0⟩) (by kernel_rfl) ?_
    refine jr_nil rfl ?_
    refine jx_seqN ?_
    refine jc_ret ?_
    refine jx_seqR ?_
    exact jx_retF (.inr rfl) (v := .tup [bs [], bv false]) (by kernel_rfl) rfl (fle_refl _)
  · intro _
    refine jc_skip ?_
    refine jx_seqN ?_
    refine jc_seq ?_
    refine jc_seq ?_
    refine jc_reg ?_
    refine jr_seg 0 3 [0, 1, 8, 9, 20, 21, 22] [] (st1 := ⟨[(0, .av (bs a0)), (1, .av (iv a1)), (8, .av (bs [])), (9, .av (bv false)), (20, .av (.fsl 1 (List.map cS a2))), (21, .av (iv (List.length (List.map cS a2) : Int))), (22, .av (iv 0))], [], 0⟩) (by kernel_rfl) ?_
    simp only [List.length_map]
    refine jr_nil rfl ?_
    refine jx_seqN ?_
    refine jc_block ?_
    refine jc_bind (fun (x17, x18) => ⟨[(8, .av (bs x17)), (9, .av (bv x18))], [], 0⟩) (fun (x17, x18) => (.exit 0)) (jc_loop (fun (x6, x7, x8) => ⟨[(0, .av (bs a0)), (1, .av (iv a1)), (8, .av (bs x6)), (9, .av (bv x7)), (20, .av (.fsl 1 (List.map cS a2))), (21, .av (iv (List.length a2 : Int))), (22, .av (iv x8))], [], 0⟩) (wk_ren [] (fix_nil _) rfl (by kernel_rfl) allp_nil) ?_) ?_
    · rintro ⟨x6, x7, x8⟩
      unfold scan_Word_l1
      refine jc_seq ?_
      refine jc_reg ?_
      refine jr_seg 0 1 [0, 1, 8, 9, 20, 21, 22, 23] [] (st1 := ⟨[(0, .av (bs a0)), (1, .av (iv a1)), (8, .av (bs x6)), (9, .av (bv x7)), (20, .av (.fsl 1 (List.map cS a2))), (21, .av (iv (List.length a2 : Int))), (22, .av (iv x8)), (23, .av (bv (decide (x8 < (List.length a2 : Int)))))], [], 0⟩) (by kernel_rfl) ?_
      refine jr_nil rfl ?_
      refine jx_seqN ?_
      refine jc_seq ?_
      refine jc_cond (g := 23) (c := (decide (x8 < (List.length a2 : Int)))) (by kernel_rfl) ?_ ?_
      · intro _
        refine jc_skip ?_
        refine jx_seqN ?_
        refine jc_seq ?_
        refine jc_bind (fun (x22, x23) => ⟨[(0, .av (bs a0)), (1, .av (iv a1)), (8, .av (bs x22)), (9, .av (bv x23)), (20, .av (.fsl 1 (List.map cS a2))), (21, .av (iv (List.length a2 : Int))), (22, .av (iv x8))], [], 0⟩) (fun (x22, x23) => .normal) ?_ ?_
        · refine jc_block ?_
          refine jc_seq ?_
          refine jc_reg ?_
          refine jr_part (i := 0) (mo := ixl a2 x8) rfl rfl rfl rfl (fun _ hc => aop_ixf (c := cS) (sz := 1) (e := 9) (kk := .i64) (by kernel_rfl) (by kernel_rfl) (by kernel_rfl) (by kernel_rfl) hc) (fun _ => rfl) ?_
          intro x24 h24
          refine jr_seg 1 2 [0, 1, 8, 9, 11, 20, 21, 22] [] (st1 := ⟨[(0, .av (bs a0)), (1, .av (iv a1)), (8, .av (bs x6)), (9, .av (bv x7)), (11, .av (bs x24)), (20, .av (.fsl 1 (List.map cS a2))), (21, .av (iv (List.length a2 : Int))), (22, .av (iv x8))], [], 0⟩) (by kernel_rfl) ?_
          refine jr_nil rfl ?_
          refine jx_seqN ?_
          refine jc_seq ?_
          refine jc_reg ?_
          refine jr_seg 0 2 [0, 1, 8, 9, 11, 20, 21, 22, 26, 27] [] (st1 := ⟨[(0, .av (bs a0)), (1, .av (iv a1)), (8, .av (bs x6)), (9, .av (bv x7)), (11, .av (bs x24)), (20, .av (.fsl 1 (List.map cS a2))), (21, .av (iv (List.length a2 : Int))), (22, .av (iv x8)), (26, .av (bs a0)), (27, .av (iv a1))], [], 0⟩) (by kernel_rfl) ?_
          refine jr_part (i := 2) (mo := subl a0 a1 (List.length a0 : Int)) rfl rfl rfl rfl (fun _ hc => aop_subs (by kernel_rfl) (by kernel_rfl) (by kernel_rfl) (by kernel_rfl) hc) (fun _ => rfl) ?_
          intro x25 h25
          refine jr_seg 3 1 [0, 1, 8, 9, 11, 20, 21, 22, 28, 29] [] (st1 := ⟨[(0, .av (bs a0)), (1, .av (iv a1)), (8, .av (bs x6)), (9, .av (bv x7)), (11, .av (bs x24)), (20, .av (.fsl 1 (List.map cS a2))), (21, .av (iv (List.length a2 : Int))), (22, .av (iv x8)), (28, .av (bs x25)), (29, .av (bs x24))], [], 0⟩) (by kernel_rfl) ?_
          refine jr_callF (i := 4) rfl rfl rfl rfl (vs := [bs x25, bs x24]) (by kernel_rfl) (snapL_cons rfl (snapL_cons rfl (snapL_nil _))) (all2_cons (fle_refl _) (all2_cons (fle_refl _) all2_nil)) (strings_HasPrefix_ok x25 x24) (fun _ => rfl) (fun _ => rfl) ?_
          intro x26 h26
          refine jr_seg 5 11 [0, 1, 8, 9, 11, 20, 21, 22, 41] [] (st1 := ⟨[(0, .av (bs a0)), (1, .av (iv a1)), (8, .av (bs x6)), (9, .av (bv x7)), (11, .av (bs x24)), (20, .av (.fsl 1 (List.map cS a2))), (21, .av (iv (List.length a2 : Int))), (22, .av (iv x8)), (41, .av (bv (x26 && ((!x7) || (decide ((List.length x24 : Int) > (List.length x6 : Int)))))))], [], 0⟩) (by kernel_rfl) ?_
          refine jr_nil rfl ?_
          refine jx_seqN ?_
          refine jc_cond (g := 41) (c := (x26 && ((!x7) || (decide ((List.length x24 : Int) > (List.length x6 : Int)))))) (by kernel_rfl) ?_ ?_
          · intro _
            refine jc_reg ?_
            refine jr_seg 0 3 [0, 1, 8, 9, 20, 21, 22] [] (st1 := ⟨[(0, .av (bs a0)), (1, .av (iv a1)), (8, .av (bs x24)), (9, .av (bv true)), (20, .av (.fsl 1 (List.map cS a2))), (21, .av (iv (List.length a2 : Int))), (22, .av (iv x8))], [], 0⟩) (by kernel_rfl) ?_
            refine jr_nil rfl ?_
            refine jx_blkN ?_
            exact jx_mid rfl (wk_ren [] (fix_nil _) rfl (by kernel_rfl) allp_nil)
          · intro _
            refine jc_skip ?_
            refine jx_blkN ?_
            exact jx_mid rfl (wk_ren [] (fix_nil _) rfl (by kernel_rfl) allp_nil)
        · rintro ⟨x22, x23⟩
          refine jx_seqN ?_
          refine jc_reg ?_
          refine jr_seg 0 2 [0, 1, 8, 9, 20, 21, 22] [] (st1 := ⟨[(0, .av (bs a0)), (1, .av (iv a1)), (8, .av (bs x22)), (9, .av (bv x23)), (20, .av (.fsl 1 (List.map cS a2))), (21, .av (iv (List.length a2 : Int))), (22, .av (iv (w64 (x8 + 1))))], [], 0⟩) (by kernel_rfl) ?_
          refine jr_nil rfl ?_
          exact jx_next (wk_ren [] (fix_nil _) rfl (by kernel_rfl) allp_nil)
      · intro _
        refine jc_exit ?_
        refine jx_seqE ?_
        exact jx_done rfl nofun (wk_ren [] (fix_nil _) rfl (by kernel_rfl) allp_nil)
    · rintro ⟨x17, x18⟩
      refine jx_blkE ?_
      refine jx_seqN ?_
      refine jc_seq ?_
      refine jc_reg ?_
      refine jr_seg 0 4 [6, 7] [] (st1 := ⟨[(6, .av (bs x17)), (7, .av (bv x18))], [], 0⟩) (by kernel_rfl) ?_
      refine jr_nil rfl ?_
      refine jx_seqN ?_
      refine jc_ret ?_
      exact jx_retF (.inr rfl) (v := .tup [bs x17, bv x18]) (by kernel_rfl) rfl (fle_refl _))
end Go.Vm

set_option maxRecDepth 100000
set_option maxHeartbeats 0
set_option linter.unusedVariables false
set_option linter.unusedSimpArgs false
namespace Go.Vm
open Go
/-! ### dovetail/dovetailref01.Starts -/
abbrev ref01_Starts_r1 : List LO := [⟨some 6, Op.assign (Operand.const (Value.bool false)), 4, none⟩]
abbrev ref01_Starts_b2 : LC := .reg false ref01_Starts_r1
abbrev ref01_Starts_r3 : List LO := [⟨some 7, Op.move (Operand.tmp 1), 3, none⟩,
  ⟨some 8, Op.binOp BinOp.geq 3 (Operand.tmp 7) (Operand.const (Value.int IntKind.i64 0)) 3, 4, none⟩,
  ⟨some 9, Op.move (Operand.tmp 8), 4, none⟩,
  ⟨some 10, Op.move (Operand.tmp 1), 3, (some (9, true))⟩,
  ⟨some 11, Op.move (Operand.tmp 0), 9, (some (9, true))⟩,
  ⟨some 12, Op.call { callee := Callee.builtin Builtin.len, args := #[Operand.tmp 11], argTypes := #[9] }, 3, (some (9, true))⟩,
  ⟨some 13, Op.binOp BinOp.leq 3 (Operand.tmp 10) (Operand.tmp 12) 3, 4, (some (9, true))⟩,
  ⟨some 14, Op.pick (Operand.tmp 9) (Operand.tmp 13) (Operand.const (Value.bool false)), 4, none⟩,
  ⟨some 15, Op.move (Operand.tmp 14), 4, none⟩,
  ⟨some 16, Op.move (Operand.tmp 0), 9, (some (15, true))⟩,
  ⟨some 17, Op.call { callee := Callee.builtin Builtin.len, args := #[Operand.tmp 16], argTypes := #[9] }, 3, (some (15, true))⟩,
  ⟨some 18, Op.move (Operand.tmp 1), 3, (some (15, true))⟩,
  ⟨some 19, Op.binOp BinOp.sub 3 (Operand.tmp 17) (Operand.tmp 18) 3, 3, (some (15, true))⟩,
  ⟨some 20, Op.move (Operand.tmp 2), 9, (some (15, true))⟩,
  ⟨some 21, Op.call { callee := Callee.builtin Builtin.len, args := #[Operand.tmp 20], argTypes := #[9] }, 3, (some (15, true))⟩,
  ⟨some 22, Op.binOp BinOp.geq 3 (Operand.tmp 19) (Operand.tmp 21) 3, 4, (some (15, true))⟩,
  ⟨some 23, Op.pick (Operand.tmp 15) (Operand.tmp 22) (Operand.const (Value.bool false)), 4, none⟩,
  ⟨some 24, Op.move (Operand.tmp 23), 4, none⟩,
  ⟨some 25, Op.move (Operand.tmp 0), 9, (some (24, true))⟩,
  ⟨some 26, Op.move (Operand.tmp 1), 3, (some (24, true))⟩,
  ⟨some 27, Op.move (Operand.tmp 1), 3, (some (24, true))⟩,
  ⟨some 28, Op.move (Operand.tmp 2), 9, (some (24, true))⟩,
  ⟨some 29, Op.call { callee := Callee.builtin Builtin.len, args := #[Operand.tmp 28], argTypes := #[9] }, 3, (some (24, true))⟩,
  ⟨some 30, Op.binOp BinOp.add 3 (Operand.tmp 27) (Operand.tmp 29) 3, 3, (some (24, true))⟩,
  ⟨some 31, Op.slice 9 (Operand.tmp 25) (some (Operand.tmp 26)) (some (Operand.tmp 30)) none, 9, (some (24, true))⟩,
  ⟨some 32, Op.move (Operand.tmp 2), 9, (some (24, true))⟩,
  ⟨some 33, Op.binOp BinOp.eql 9 (Operand.tmp 31) (Operand.tmp 32) 9, 4, (some (24, true))⟩,
  ⟨some 34, Op.pick (Operand.tmp 24) (Operand.tmp 33) (Operand.const (Value.bool false)), 4, none⟩,
  ⟨some 6, Op.assign (Operand.tmp 34), 4, none⟩]
abbrev ref01_Starts_b4 : LC := .reg false ref01_Starts_r3
abbrev ref01_Starts_b5 : LC := .seq ref01_Starts_b4 .ret
abbrev ref01_Starts_b6 : LC := .seq ref01_Starts_b2 ref01_Starts_b5
theorem ref01_Starts_k : FnOk E 25 35 [.tmp 6] ref01_Starts_b6 := ⟨⟨Go.Proofs.Tryd.f25, by kernel_rfl, by kernel_rfl, by kernel_rfl, by kernel_rfl, by kernel_rfl⟩, rfl⟩
noncomputable def ref01_Starts (a0 : Str) (a1 : Int) (a2 : Str) : Option (Bool) := Option.bind (if (((decide (a1 ≥ 0)) && (decide (a1 ≤ (List.length a0 : Int)))) && (decide ((w64 ((List.length a0 : Int) - a1)) ≥ (List.length a2 : Int)))) = true then Option.bind (subl a0 a1 (w64 (a1 + (List.length a2 : Int)))) (fun x3 => some (x3 == a2)) else some false : Option (Bool)) (fun x2 => some x2)
theorem ref01_Starts_ok (a0 : Str) (a1 : Int) (a2 : Str) : Ct E 25 [bs a0, iv a1, bs a2] (ref01_Starts a0 a1 a2) (fun r : Bool => bv r) := ct_intro (N := 35) (L := ref01_Starts_b6) ref01_Starts_k rfl (Nat.le_of_ble_eq_true rfl) (by kernel_rfl) (by
  unfold ref01_Starts
  refine jc_seq ?_
  refine jc_reg ?_
  refine jr_seg 0 1 [0, 1, 2] [] (st1 := ⟨[(0, .av (bs a0)), (1, .av (iv a1)), (2, .av (bs a2))], [], 0⟩) (by kernel_rfl) ?_
  refine jr_nil rfl ?_
  refine jx_seqN ?_
  refine jc_seq ?_
  refine jc_reg ?_
  refine jr_seg 0 18 [0, 1, 2, 24] [] (st1 := ⟨[(0, .av (bs a0)), (1, .av (iv a1)), (2, .av (bs a2)), (24, .av (bv (((decide (a1 ≥ 0)) && (decide (a1 ≤ (List.length a0 : Int)))) && (decide ((w64 ((List.length a0 : Int) - a1)) ≥ (List.length a2 : Int))))))], [], 0⟩) (by kernel_rfl) ?_
  refine jr_bind 18 10 (fun x2 => ⟨[(34, .av (bv x2))], [], 0⟩) ?_ ?_
  · refine jr_split (g := 24) (c := (((decide (a1 ≥ 0)) && (decide (a1 ≤ (List.length a0 : Int)))) && (decide ((w64 ((List.length a0 : Int) - a1)) ≥ (List.length a2 : Int))))) (by kernel_rfl) ?_ ?_
    · intro _
      refine jr_seg 0 6 [2, 24, 25, 26, 30] [] (st1 := ⟨[(2, .av (bs a2)), (24, .lit true), (25, .av (bs a0)), (26, .av (iv a1)), (30, .av (iv (w64 (a1 + (List.length a2 : Int)))))], [], 0⟩) (by kernel_rfl) ?_
      refine jr_part (i := 6) (mo := subl a0 a1 (w64 (a1 + (List.length a2 : Int)))) rfl rfl rfl rfl (fun _ hc => aop_subs (by kernel_rfl) (by kernel_rfl) (by kernel_rfl) (by kernel_rfl) hc) (fun _ => rfl) ?_
      intro x3 h3
      refine jr_seg 7 3 [34] [] (st1 := ⟨[(34, .av (bv (x3 == a2)))], [], 0⟩) (by kernel_rfl) ?_
      refine jr_nil rfl ?_
      exact jx_mid rfl (wk_ren [] (fix_nil _) rfl (by kernel_rfl) allp_nil)
    · intro _
      refine jr_seg 0 10 [34] [] (st1 := ⟨[(34, .av (bv false))], [], 0⟩) (by kernel_rfl) ?_
      refine jr_nil rfl ?_
      exact jx_mid rfl (wk_ren [] (fix_nil _) rfl (by kernel_rfl) allp_nil)
  · intro x2
    refine jr_seg 28 1 [6] [] (st1 := ⟨[(6, .av (bv x2))], [], 0⟩) (by kernel_rfl) ?_
    refine jr_nil rfl ?_
    refine jx_seqN ?_
    refine jc_ret ?_
    exact jx_retF (.inr rfl) (v := bv x2) (by kernel_rfl) rfl (fle_refl _))
end Go.Vm

set_option maxRecDepth 100000
set_option maxHeartbeats 0
set_option linter.unusedVariables false
set_option linter.unusedSimpArgs false
namespace Go.Vm
open Go
/-! ### dovetail/dovetailref01.Word -/
abbrev ref01_Word_r1 : List LO := [⟨some 6, Op.assign (Operand.const (Value.string { data := #[] })), 9, none⟩,
  ⟨some 7, Op.assign (Operand.const (Value.bool false)), 4, none⟩]
abbrev ref01_Word_b2 : LC := .reg false ref01_Word_r1
abbrev ref01_Word_r3 : List LO := [⟨some 8, Op.assign (Operand.const (Value.string { data := #[] })), 9, none⟩]
abbrev ref01_Word_b4 : LC := .reg false ref01_Word_r3
abbrev ref01_Word_r5 : List LO := [⟨some 9, Op.assign (Operand.const (Value.bool false)), 4, none⟩]
abbrev ref01_Word_b6 : LC := .reg false ref01_Word_r5
abbrev ref01_Word_r7 : List LO := [⟨some 10, Op.assign (Operand.const (Value.int IntKind.i64 0)), 3, none⟩]
abbrev ref01_Word_b8 : LC := .reg false ref01_Word_r7
abbrev ref01_Word_r9 : List LO := [⟨some 11, Op.move (Operand.tmp 10), 3, none⟩,
  ⟨some 12, Op.move (Operand.tmp 2), 35, none⟩,
  ⟨some 13, Op.call { callee := Callee.builtin Builtin.len, args := #[Operand.tmp 12], argTypes := #[35] }, 3, none⟩,
  ⟨some 14, Op.binOp BinOp.lss 3 (Operand.tmp 11) (Operand.tmp 13) 3, 4, none⟩]
abbrev ref01_Word_b10 : LC := .reg false ref01_Word_r9
abbrev ref01_Word_b11 : LC := .cond (Operand.tmp 14) .skip (.exit 0)
abbrev ref01_Word_b12 : LC := .seq ref01_Word_b10 ref01_Word_b11
abbrev ref01_Word_r13 : List LO := [⟨some 17, Op.move (Operand.tmp 0), 9, none⟩,
  ⟨some 18, Op.move (Operand.tmp 1), 3, none⟩,
  ⟨some 19, Op.move (Operand.tmp 2), 35, none⟩,
  ⟨some 20, Op.move (Operand.tmp 10), 3, none⟩,
  ⟨some 21, Op.indexAddr 35 (Operand.tmp 19) (Operand.tmp 20), 0, none⟩,
  ⟨some 22, Op.load 9 (Operand.tmp 21), 9, none⟩,
  ⟨some 23, Op.call { callee := Callee.value (Operand.func 25), args := #[Operand.tmp 17, Operand.tmp 18, Operand.tmp 22], argTypes := #[9, 3, 9] }, 4, none⟩,
  ⟨some 24, Op.move (Operand.tmp 23), 4, none⟩,
  ⟨some 25, Op.move (Operand.tmp 9), 4, (some (24, true))⟩,
  ⟨some 26, Op.unOp UnOp.not 4 (Operand.tmp 25), 4, (some (24, true))⟩,
  ⟨some 27, Op.move (Operand.tmp 26), 4, (some (24, true))⟩,
  ⟨some 28, Op.move (Operand.tmp 2), 35, (some (27, false))⟩,
  ⟨some 29, Op.move (Operand.tmp 10), 3, (some (27, false))⟩,
  ⟨some 30, Op.indexAddr 35 (Operand.tmp 28) (Operand.tmp 29), 0, (some (27, false))⟩,
  ⟨some 31, Op.load 9 (Operand.tmp 30), 9, (some (27, false))⟩,
  ⟨some 32, Op.call { callee := Callee.builtin Builtin.len, args := #[Operand.tmp 31], argTypes := #[9] }, 3, (some (27, false))⟩,
  ⟨some 33, Op.move (Operand.tmp 8), 9, (some (27, false))⟩,
  ⟨some 34, Op.call { callee := Callee.builtin Builtin.len, args := #[Operand.tmp 33], argTypes := #[9] }, 3, (some (27, false))⟩,
  ⟨some 35, Op.binOp BinOp.gtr 3 (Operand.tmp 32) (Operand.tmp 34) 3, 4, (some (27, false))⟩,
  ⟨some 36, Op.pick (Operand.tmp 27) (Operand.const (Value.bool true)) (Operand.tmp 35), 4, (some (24, true))⟩,
  ⟨some 37, Op.pick (Operand.tmp 24) (Operand.tmp 36) (Operand.const (Value.bool false)), 4, none⟩]
abbrev ref01_Word_b14 : LC := .reg false ref01_Word_r13
abbrev ref01_Word_r15 : List LO := [⟨some 38, Op.move (Operand.tmp 2), 35, none⟩,
  ⟨some 39, Op.move (Operand.tmp 10), 3, none⟩,
  ⟨some 40, Op.indexAddr 35 (Operand.tmp 38) (Operand.tmp 39), 0, none⟩,
  ⟨some 41, Op.load 9 (Operand.tmp 40), 9, none⟩,
  ⟨some 8, Op.assign (Operand.tmp 41), 9, none⟩]
abbrev ref01_Word_b16 : LC := .reg false ref01_Word_r15
abbrev ref01_Word_r17 : List LO := [⟨some 9, Op.assign (Operand.const (Value.bool true)), 4, none⟩]
abbrev ref01_Word_b18 : LC := .reg false ref01_Word_r17
abbrev ref01_Word_b19 : LC := .seq ref01_Word_b16 ref01_Word_b18
abbrev ref01_Word_b20 : LC := .cond (Operand.tmp 37) ref01_Word_b19 .skip
abbrev ref01_Word_b21 : LC := .seq ref01_Word_b14 ref01_Word_b20
abbrev ref01_Word_b22 : LC := .block 1 ref01_Word_b21
abbrev ref01_Word_r23 : List LO := [⟨some 15, Op.move (Operand.tmp 10), 3, none⟩,
  ⟨some 16, Op.binOp BinOp.add 3 (Operand.tmp 15) (Operand.const (Value.int IntKind.i64 1)) 3, 3, none⟩,
  ⟨some 10, Op.assign (Operand.tmp 16), 3, none⟩]
abbrev ref01_Word_b24 : LC := .reg false ref01_Word_r23
abbrev ref01_Word_b25 : LC := .seq ref01_Word_b22 ref01_Word_b24
abbrev ref01_Word_b26 : LC := .seq ref01_Word_b12 ref01_Word_b25
abbrev ref01_Word_b27 : LC := .loop ref01_Word_b26
abbrev ref01_Word_b28 : LC := .block 0 ref01_Word_b27
abbrev ref01_Word_b29 : LC := .seq ref01_Word_b8 ref01_Word_b28
abbrev ref01_Word_r30 : List LO := [⟨some 42, Op.move (Operand.tmp 8), 9, none⟩,
  ⟨some 43, Op.move (Operand.tmp 9), 4, none⟩,
  ⟨some 6, Op.assign (Operand.tmp 42), 9, none⟩,
  ⟨some 7, Op.assign (Operand.tmp 43), 4, none⟩]
abbrev ref01_Word_b31 : LC := .reg false ref01_Word_r30
abbrev ref01_Word_b32 : LC := .seq ref01_Word_b31 .ret
abbrev ref01_Word_b33 : LC := .seq ref01_Word_b29 ref01_Word_b32
abbrev ref01_Word_b34 : LC := .seq ref01_Word_b6 ref01_Word_b33
abbrev ref01_Word_b35 : LC := .seq ref01_Word_b4 ref01_Word_b34
abbrev ref01_Word_b36 : LC := .seq ref01_Word_b2 ref01_Word_b35
theorem ref01_Word_k : FnOk E 29 44 [.tmp 6, .tmp 7] ref01_Word_b36 := ⟨⟨Go.Proofs.Tryd.f29, by kernel_rfl, by kernel_rfl, by kernel_rfl, by kernel_rfl, by kernel_rfl⟩, rfl⟩
noncomputable def ref01_Word_l1 (a0 : Str) (a1 : Int) (a2 : (List Str)) : (Str × Bool × Int) → Option (Step (Str × Bool × Int) (Str × Bool)) := fun (x7, x8, x9) => (if (decide (x9 < (List.length a2 : Int))) = true then Option.bind (Option.bind (ixl a2 x9) (fun x31 => Option.bind (ref01_Starts a0 a1 x31) (fun x32 => Option.bind (if x32 = true then Option.bind (if (!x8) = true then some true else Option.bind (ixl a2 x9) (fun x38 => some (decide ((List.length x38 : Int) > (List.length x7 : Int)))) : Option (Bool)) (fun x37 => some (true && x37)) else some false : Option (Bool)) (fun x35 => (if x35 = true then Option.bind (ixl a2 x9) (fun x39 => some (x39, true)) else some (x7, x8))))) : Option (Str × Bool)) (fun (x29, x30) => some (Step.next (x29, x30, (w64 (x9 + 1))))) else some (Step.done (x7, x8)))
noncomputable def ref01_Word (a0 : Str) (a1 : Int) (a2 : (List Str)) : Option (Str × Bool) := Option.bind (loopC (ref01_Word_l1 a0 a1 a2) ([], false, 0)) (fun (x21, x22) => some (x21, x22))
theorem ref01_Word_ok (a0 : Str) (a1 : Int) (a2 : (List Str)) : Ct E 29 [bs a0, iv a1, .fsl 1 (List.map cS a2)] (ref01_Word a0 a1 a2) (fun r : Str × Bool => .tup [bs r.1, bv r.2]) := ct_intro (N := 44) (L := ref01_Word_b36) ref01_Word_k rfl (Nat.le_of_ble_eq_true rfl) (by kernel_rfl) (by
  unfold ref01_Word
  refine jc_seq ?_
  refine jc_reg ?_
  refine jr_seg 0 2 [0, 1, 2] [] (st1 := ⟨[(0, .av (bs a0)), (1, .av (iv a1)), (2, .av (.fsl 1 (List.map cS a2)))], [], 0⟩) (by kernel_rfl) ?_
  refine jr_nil rfl ?_
  refine jx_seqN ?_
  refine jc_seq ?_
  refine jc_reg ?_
  refine jr_seg 0 1 [0, 1, 2, 8] [] (st1 := ⟨[(0, .av (bs a0)), (1, .av (iv a1)), (2, .av (.fsl 1 (List.map cS a2))), (8, .av (bs []))], [], 0⟩) (by kernel_rfl) ?_
  refine jr_nil rfl ?_
  refine jx_seqN ?_
  refine jc_seq ?_
  refine jc_reg ?_
  refine jr_seg 0 1 [0, 1, 2, 8, 9] [] (st1 := ⟨[(0, .av (bs a0)), (1, .av (iv a1)), (2, .av (.fsl 1 (List.map cS a2))), (8, .av (bs [])), (9, .av (bv false))], [], 0⟩) (by kernel_rfl) ?_
  refine jr_nil rfl ?_
  refine jx_seqN ?_
  refine jc_seq ?_
  refine jc_seq ?_
  refine jc_reg ?_
  refine jr_seg 0 1 [0, 1, 2, 8, 9, 10] [] (st1 := ⟨[(0, .av (bs a0)), (1, .av (iv a1)), (2, .av (.fsl 1 (List.map cS a2))), (8, .av (bs [])), (9, .av (bv false)), (10, .av (iv 0))], [], 0⟩) (by kernel_rfl) ?_
  refine jr_nil rfl ?_
  refine jx_seqN ?_
  refine jc_block ?_
  refine jc_bind (fun (x21, x22) => ⟨[(8, .av (bs x21)), (9, .av (bv x22))], [], 0⟩) (fun (x21, x22) => (.exit 0)) (jc_loop (fun (x7, x8, x9) => ⟨[(0, .av (bs a0)), (1, .av (iv a1)), (2, .av (.fsl 1 (List.map cS a2))), (8, .av (bs x7)), (9, .av (bv x8)), (10, .av (iv x9))], [], 0⟩) (wk_ren [] (fix_nil _) rfl (by kernel_rfl) allp_nil) ?_) ?_
  · rintro ⟨x7, x8, x9⟩
    unfold ref01_Word_l1
    refine jc_seq ?_
    refine jc_seq ?_
    refine jc_reg ?_
    refine jr_seg 0 4 [0, 1, 2, 8, 9, 10, 14] [] (st1 := ⟨[(0, .av (bs a0)), (1, .av (iv a1)), (2, .av (.fsl 1 (List.map cS a2))), (8, .av (bs x7)), (9, .av (bv x8)), (10, .av (iv x9)), (14, .av (bv (decide (x9 < (List.length (List.map cS a2) : Int)))))], [], 0⟩) (by kernel_rfl) ?_
    simp only [List.length_map]
    refine jr_nil rfl ?_
    refine jx_seqN ?_
    refine jc_cond (g := 14) (c := (decide (x9 < (List.length a2 : Int)))) (by kernel_rfl) ?_ ?_
    · intro _
      refine jc_skip ?_
      refine jx_seqN ?_
      refine jc_seq ?_
      refine jc_bind (fun (x29, x30) => ⟨[(0, .av (bs a0)), (1, .av (iv a1)), (2, .av (.fsl 1 (List.map cS a2))), (8, .av (bs x29)), (9, .av (bv x30)), (10, .av (iv x9))], [], 0⟩) (fun (x29, x30) => .normal) ?_ ?_
      · refine jc_block ?_
        refine jc_seq ?_
        refine jc_reg ?_
        refine jr_seg 0 4 [0, 1, 2, 8, 9, 10, 17, 18, 19, 20] [] (st1 := ⟨[(0, .av (bs a0)), (1, .av (iv a1)), (2, .av (.fsl 1 (List.map cS a2))), (8, .av (bs x7)), (9, .av (bv x8)), (10, .av (iv x9)), (17, .av (bs a0)), (18, .av (iv a1)), (19, .av (.fsl 1 (List.map cS a2))), (20, .av (iv x9))], [], 0⟩) (by kernel_rfl) ?_
        refine jr_part (i := 4) (mo := ixl a2 x9) rfl rfl rfl rfl (fun _ hc => aop_ixf (c := cS) (sz := 1) (e := 9) (kk := .i64) (by kernel_rfl) (by kernel_rfl) (by kernel_rfl) (by kernel_rfl) hc) (fun _ => rfl) ?_
        intro x31 h31
        refine jr_seg 5 1 [0, 1, 2, 8, 9, 10, 17, 18, 22] [] (st1 := ⟨[(0, .av (bs a0)), (1, .av (iv a1)), (2, .av (.fsl 1 (List.map cS a2))), (8, .av (bs x7)), (9, .av (bv x8)), (10, .av (iv x9)), (17, .av (bs a0)), (18, .av (iv a1)), (22, .av (bs x31))], [], 0⟩) (by kernel_rfl) ?_
        refine jr_callF (i := 6) rfl rfl rfl rfl (vs := [bs a0, iv a1, bs x31]) (by kernel_rfl) (snapL_cons rfl (snapL_cons rfl (snapL_cons rfl (snapL_nil _)))) (all2_cons (fle_refl _) (all2_cons (fle_refl _) (all2_cons (fle_refl _) all2_nil))) (ref01_Starts_ok a0 a1 x31) (fun _ => rfl) (fun _ => rfl) ?_
        intro x32 h32
        refine jr_seg 7 1 [0, 1, 2, 8, 9, 10, 24] [] (st1 := ⟨[(0, .av (bs a0)), (1, .av (iv a1)), (2, .av (.fsl 1 (List.map cS a2))), (8, .av (bs x7)), (9, .av (bv x8)), (10, .av (iv x9)), (24, .av (bv x32))], [], 0⟩) (by kernel_rfl) ?_
        refine jr_bind 8 13 (fun x35 => ⟨[(0, .av (bs a0)), (1, .av (iv a1)), (2, .av (.fsl 1 (List.map cS a2))), (8, .av (bs x7)), (9, .av (bv x8)), (10, .av (iv x9)), (37, .av (bv x35))], [], 0⟩) ?_ ?_
        · refine jr_split (g := 24) (c := x32) (by kernel_rfl) ?_ ?_
          · intro _
            refine jr_seg 0 3 [0, 1, 2, 8, 9, 10, 24, 27] [] (st1 := ⟨[(0, .av (bs a0)), (1, .av (iv a1)), (2, .av (.fsl 1 (List.map cS a2))), (8, .av (bs x7)), (9, .av (bv x8)), (10, .av (iv x9)), (24, .lit true), (27, .av (bv (!x8)))], [], 0⟩) (by kernel_rfl) ?_
            refine jr_bind 3 9 (fun x37 => ⟨[(0, .av (bs a0)), (1, .av (iv a1)), (2, .av (.fsl 1 (List.map cS a2))), (8, .av (bs x7)), (9, .av (bv x8)), (10, .av (iv x9)), (24, .av (bv true)), (36, .av (bv x37))], [], 0⟩) ?_ ?_
            · refine jr_split (g := 27) (c := (!x8)) (by kernel_rfl) ?_ ?_
              · intro _
                refine jr_seg 0 9 [0, 1, 2, 8, 9, 10, 24, 36] [] (st1 := ⟨[(0, .av (bs a0)), (1, .av (iv a1)), (2, .av (.fsl 1 (List.map cS a2))), (8, .av (bs x7)), (9, .av (bv x8)), (10, .av (iv x9)), (24, .lit true), (36, .av (bv true))], [], 0⟩) (by kernel_rfl) ?_
                refine jr_nil rfl ?_
                exact jx_mid rfl (wk_ren [] (fix_nil _) rfl (by kernel_rfl) allp_nil)
              · intro _
                refine jr_seg 0 2 [0, 1, 2, 8, 9, 10, 24, 27, 28, 29] [] (st1 := ⟨[(0, .av (bs a0)), (1, .av (iv a1)), (2, .av (.fsl 1 (List.map cS a2))), (8, .av (bs x7)), (9, .av (bv x8)), (10, .av (iv x9)), (24, .lit true), (27, .lit false), (28, .av (.fsl 1 (List.map cS a2))), (29, .av (iv x9))], [], 0⟩) (by kernel_rfl) ?_
                refine jr_part (i := 2) (mo := ixl a2 x9) rfl rfl rfl rfl (fun _ hc => aop_ixf (c := cS) (sz := 1) (e := 9) (kk := .i64) (by kernel_rfl) (by kernel_rfl) (by kernel_rfl) (by kernel_rfl) hc) (fun _ => rfl) ?_
                intro x38 h38
                refine jr_seg 3 6 [0, 1, 2, 8, 9, 10, 24, 36] [] (st1 := ⟨[(0, .av (bs a0)), (1, .av (iv a1)), (2, .av (.fsl 1 (List.map cS a2))), (8, .av (bs x7)), (9, .av (bv x8)), (10, .av (iv x9)), (24, .lit true), (36, .av (bv (decide ((List.length x38 : Int) > (List.length x7 : Int)))))], [], 0⟩) (by kernel_rfl) ?_
                refine jr_nil rfl ?_
                exact jx_mid rfl (wk_ren [] (fix_nil _) rfl (by kernel_rfl) allp_nil)
            · intro x37
              refine jr_seg 12 1 [0, 1, 2, 8, 9, 10, 37] [] (st1 := ⟨[(0, .av (bs a0)), (1, .av (iv a1)), (2, .av (.fsl 1 (List.map cS a2))), (8, .av (bs x7)), (9, .av (bv x8)), (10, .av (iv x9)), (37, .av (bv (true && x37)))], [], 0⟩) (by kernel_rfl) ?_
              refine jr_nil rfl ?_
              exact jx_mid rfl (wk_ren [] (fix_nil _) rfl (by kernel_rfl) allp_nil)
          · intro _
            refine jr_seg 0 13 [0, 1, 2, 8, 9, 10, 37] [] (st1 := ⟨[(0, .av (bs a0)), (1, .av (iv a1)), (2, .av (.fsl 1 (List.map cS a2))), (8, .av (bs x7)), (9, .av (bv x8)), (10, .av (iv x9)), (37, .av (bv false))], [], 0⟩) (by kernel_rfl) ?_
            refine jr_nil rfl ?_
            exact jx_mid rfl (wk_ren [] (fix_nil _) rfl (by kernel_rfl) allp_nil)
        · intro x35
          refine jr_nil rfl ?_
          refine jx_seqN ?_
          refine jc_cond (g := 37) (c := x35) (by kernel_rfl) ?_ ?_
          · intro _
            refine jc_seq ?_
            refine jc_reg ?_
            refine jr_seg 0 2 [0, 1, 2, 10, 38, 39] [] (st1 := ⟨[(0, .av (bs a0)), (1, .av (iv a1)), (2, .av (.fsl 1 (List.map cS a2))), (10, .av (iv x9)), (38, .av (.fsl 1 (List.map cS a2))), (39, .av (iv x9))], [], 0⟩) (by kernel_rfl) ?_
            refine jr_part (i := 2) (mo := ixl a2 x9) rfl rfl rfl rfl (fun _ hc => aop_ixf (c := cS) (sz := 1) (e := 9) (kk := .i64) (by kernel_rfl) (by kernel_rfl) (by kernel_rfl) (by kernel_rfl) hc) (fun _ => rfl) ?_
            intro x39 h39
            refine jr_seg 3 2 [0, 1, 2, 8, 10] [] (st1 := ⟨[(0, .av (bs a0)), (1, .av (iv a1)), (2, .av (.fsl 1 (List.map cS a2))), (8, .av (bs x39)), (10, .av (iv x9))], [], 0⟩) (by kernel_rfl) ?_
            refine jr_nil rfl ?_
            refine jx_seqN ?_
            refine jc_reg ?_
            refine jr_seg 0 1 [0, 1, 2, 8, 9, 10] [] (st1 := ⟨[(0, .av (bs a0)), (1, .av (iv a1)), (2, .av (.fsl 1 (List.map cS a2))), (8, .av (bs x39)), (9, .av (bv true)), (10, .av (iv x9))], [], 0⟩) (by kernel_rfl) ?_
            refine jr_nil rfl ?_
            refine jx_blkN ?_
            exact jx_mid rfl (wk_ren [] (fix_nil _) rfl (by kernel_rfl) allp_nil)
          · intro _
            refine jc_skip ?_
            refine jx_blkN ?_
            exact jx_mid rfl (wk_ren [] (fix_nil _) rfl (by kernel_rfl) allp_nil)
      · rintro ⟨x29, x30⟩
        refine jx_seqN ?_
        refine jc_reg ?_
        refine jr_seg 0 3 [0, 1, 2, 8, 9, 10] [] (st1 := ⟨[(0, .av (bs a0)), (1, .av (iv a1)), (2, .av (.fsl 1 (List.map cS a2))), (8, .av (bs x29)), (9, .av (bv x30)), (10, .av (iv (w64 (x9 + 1))))], [], 0⟩) (by kernel_rfl) ?_
        refine jr_nil rfl ?_
        exact jx_next (wk_ren [] (fix_nil _) rfl (by kernel_rfl) allp_nil)
    · intro _
      refine jc_exit ?_
      refine jx_seqE ?_
      exact jx_done rfl nofun (wk_ren [] (fix_nil _) rfl (by kernel_rfl) allp_nil)
  · rintro ⟨x21, x22⟩
    refine jx_blkE ?_
    refine jx_seqN ?_
    refine jc_seq ?_
    refine jc_reg ?_
    refine jr_seg 0 4 [6, 7] [] (st1 := ⟨[(6, .av (bs x21)), (7, .av (bv x22))], [], 0⟩) (by kernel_rfl) ?_
    refine jr_nil rfl ?_
    refine jx_seqN ?_
    refine jc_ret ?_
    exact jx_retF (.inr rfl) (v := .tup [bs x21, bv x22]) (by kernel_rfl) rfl (fle_refl _))
end Go.Vm

set_option maxRecDepth 100000
set_option maxHeartbeats 0
set_option linter.unusedVariables false
set_option linter.unusedSimpArgs false
namespace Go.Vm
open Go
/-! ### dovetail/scan.Lower -/
abbrev scan_Lower_r1 : List LO := [⟨some 2, Op.assign (Operand.const (Value.string { data := #[] })), 9, none⟩]
abbrev scan_Lower_b2 : LC := .reg false scan_Lower_r1
abbrev scan_Lower_r3 : List LO := [⟨some 6, Op.move (Operand.tmp 0), 9, none⟩,
  ⟨some 7, Op.convert 9 31 (Operand.tmp 6), 31, none⟩,
  ⟨some 3, Op.assign (Operand.tmp 7), 31, none⟩]
abbrev scan_Lower_b4 : LC := .reg false scan_Lower_r3
abbrev scan_Lower_r5 : List LO := [⟨some 8, Op.move (Operand.tmp 3), 31, none⟩,
  ⟨some 9, Op.call { callee := Callee.builtin Builtin.len, args := #[Operand.tmp 8], argTypes := #[31] }, 3, none⟩,
  ⟨some 10, Op.move (Operand.const (Value.int IntKind.i64 0)), 3, none⟩]
abbrev scan_Lower_b6 : LC := .reg false scan_Lower_r5
abbrev scan_Lower_r7 : List LO := [⟨some 11, Op.binOp BinOp.lss 3 (Operand.tmp 10) (Operand.tmp 9) 3, 0, none⟩]
abbrev scan_Lower_b8 : LC := .reg false scan_Lower_r7
abbrev scan_Lower_b9 : LC := .cond (Operand.tmp 11) .skip (.exit 0)
abbrev scan_Lower_r10 : List LO := [⟨some 12, Op.move (Operand.tmp 10), 3, none⟩,
  ⟨some 13, Op.indexAddr 31 (Operand.tmp 8) (Operand.tmp 10), 0, none⟩,
  ⟨some 14, Op.load 5 (Operand.tmp 13), 5, none⟩,
  ⟨some 4, Op.assign (Operand.tmp 12), 3, none⟩,
  ⟨some 5, Op.assign (Operand.tmp 14), 5, none⟩]
abbrev scan_Lower_b11 : LC := .reg false scan_Lower_r10
abbrev scan_Lower_r12 : List LO := [⟨some 15, Op.move (Operand.tmp 5), 5, none⟩,
  ⟨some 16, Op.call { callee := Callee.value (Operand.func 26), args := #[Operand.tmp 15, Operand.const (Value.int IntKind.i64 3)], argTypes := #[5, 3] }, 4, none⟩]
abbrev scan_Lower_b13 : LC := .reg false scan_Lower_r12
abbrev scan_Lower_r14 : List LO := [⟨some 17, Op.move (Operand.tmp 3), 31, none⟩,
  ⟨some 18, Op.move (Operand.tmp 4), 3, none⟩,
  ⟨some 19, Op.move (Operand.tmp 5), 5, none⟩,
  ⟨some 20, Op.binOp BinOp.add 5 (Operand.tmp 19) (Operand.const (Value.int IntKind.u8 32)) 5, 5, none⟩,
  ⟨some 21, Op.indexAddr 31 (Operand.tmp 17) (Operand.tmp 18), 0, none⟩,
  ⟨none, Op.store 5 (Operand.tmp 21) (Operand.tmp 20), 0, none⟩]
abbrev scan_Lower_b15 : LC := .reg false scan_Lower_r14
abbrev scan_Lower_b16 : LC := .cond (Operand.tmp 16) scan_Lower_b15 .skip
abbrev scan_Lower_b17 : LC := .seq scan_Lower_b13 scan_Lower_b16
abbrev scan_Lower_b18 : LC := .seq scan_Lower_b11 scan_Lower_b17
abbrev scan_Lower_b19 : LC := .block 1 scan_Lower_b18
abbrev scan_Lower_r20 : List LO := [⟨some 22, Op.binOp BinOp.add 3 (Operand.tmp 10) (Operand.const (Value.int IntKind.i64 1)) 3, 3, none⟩,
  ⟨some 10, Op.move (Operand.tmp 22), 3, none⟩]
abbrev scan_Lower_b21 : LC := .reg false scan_Lower_r20
abbrev scan_Lower_b22 : LC := .seq scan_Lower_b19 scan_Lower_b21
abbrev scan_Lower_b23 : LC := .seq scan_Lower_b9 scan_Lower_b22
abbrev scan_Lower_b24 : LC := .seq scan_Lower_b8 scan_Lower_b23
abbrev scan_Lower_b25 : LC := .loop scan_Lower_b24
abbrev scan_Lower_b26 : LC := .block 0 scan_Lower_b25
abbrev scan_Lower_b27 : LC := .seq scan_Lower_b6 scan_Lower_b26
abbrev scan_Lower_r28 : List LO := [⟨some 23, Op.move (Operand.tmp 3), 31, none⟩,
  ⟨some 24, Op.convert 31 9 (Operand.tmp 23), 9, none⟩,
  ⟨some 2, Op.assign (Operand.tmp 24), 9, none⟩]
abbrev scan_Lower_b29 : LC := .reg false scan_Lower_r28
abbrev scan_Lower_b30 : LC := .seq scan_Lower_b29 .ret
abbrev scan_Lower_b31 : LC := .seq scan_Lower_b27 scan_Lower_b30
abbrev scan_Lower_b32 : LC := .seq scan_Lower_b4 scan_Lower_b31
abbrev scan_Lower_b33 : LC := .seq scan_Lower_b2 scan_Lower_b32
theorem scan_Lower_k : FnOk E 32 25 [.tmp 2] scan_Lower_b33 := ⟨⟨Go.Proofs.Tryd.f32, by kernel_rfl, by kernel_rfl, by kernel_rfl, by kernel_rfl, by kernel_rfl⟩, rfl⟩
noncomputable def scan_Lower_l1 (x1 : List Int) : (List Int × Int) → Option (Step (List Int × Int) (List Int)) := fun (x6, x7) => (if (decide (x7 < (List.length x1 : Int))) = true then Option.bind (Option.bind (ixl x6 x7) (fun x19 => Option.bind (scan_Is x19 3) (fun x20 => (if x20 = true then Option.bind (ixl x6 x7) (fun x21 => some (List.set x6 (Int.toNat x7) (IntKind.wrap .u8 (x19 + 32)))) else some x6))) : Option (List Int)) (fun x18 => some (Step.next (x18, (w64 (x7 + 1))))) else some (Step.done x6))
noncomputable def scan_Lower (a0 : Str) : Option (Str) := Option.bind (tob a0) (fun x1 => Option.bind (loopC (scan_Lower_l1 x1) (x1, 0)) (fun x14 => some (ofb x14)))
theorem scan_Lower_ok (a0 : Str) : Ct E 32 [bs a0] (scan_Lower a0) (fun r : Str => bs r) := ct_intro (N := 25) (L := scan_Lower_b33) scan_Lower_k rfl (Nat.le_of_ble_eq_true rfl) (by kernel_rfl) (by
  unfold scan_Lower
  refine jc_seq ?_
  refine jc_reg ?_
  refine jr_seg 0 1 [0] [] (st1 := ⟨[(0, .av (bs a0))], [], 0⟩) (by kernel_rfl) ?_
  refine jr_nil rfl ?_
  refine jx_seqN ?_
  refine jc_seq ?_
  refine jc_reg ?_
  refine jr_seg 0 1 [6] [] (st1 := ⟨[(6, .av (bs a0))], [], 0⟩) (by kernel_rfl) ?_
  refine jr_part (i := 1) (mo := tob a0) rfl rfl rfl rfl (fun _ hc => aop_tob (e := 5) (st := .string) (by kernel_rfl) (by kernel_rfl) (by kernel_rfl) (by kernel_rfl) hc) (fun _ => rfl) ?_
  intro x1 h1
  refine jr_seg 2 1 [3] [0] (st1 := ⟨[(3, .av (.osl 0 0 (List.length x1) 1))], [(0, .rows 1 (List.map cB x1))], 1⟩) (by kernel_rfl) ?_
  refine jr_nil rfl ?_
  refine jx_seqN ?_
  refine jc_seq ?_
  refine jc_seq ?_
  refine jc_reg ?_
  refine jr_seg 0 3 [3, 8, 9, 10] [0] (st1 := ⟨[(3, .av (.osl 0 0 (List.length x1) 1)), (8, .av (.osl 0 0 (List.length x1) 1)), (9, .av (iv (List.length x1 : Int))), (10, .av (iv 0))], [(0, .rows 1 (List.map cB x1))], 1⟩) (by kernel_rfl) ?_
  refine jr_nil rfl ?_
  refine jx_seqN ?_
  refine jc_block ?_
  refine jc_bind (fun x14 => ⟨[(3, .av (.osl 0 0 (List.length x14) 1))], [(0, .rows 1 (List.map cB x14))], 1⟩) (fun x14 => (.exit 0)) (jc_loop (fun (x6, x7) => ⟨[(3, .av (.osl 0 0 (List.length x6) 1)), (8, .av (.osl 0 0 (List.length x6) 1)), (9, .av (iv (List.length x1 : Int))), (10, .av (iv x7))], [(0, .rows 1 (List.map cB x6))], 1⟩) (wk_ren [(0, some 0)] (fix_nil _) rfl (by kernel_rfl) (allp_cons (.inl ⟨0, _, _, _, rfl, rfl, rfl, .inr ⟨rfl, noid_map ni_B _⟩⟩) allp_nil)) ?_) ?_
  · rintro ⟨x6, x7⟩
    unfold scan_Lower_l1
    refine jc_seq ?_
    refine jc_reg ?_
    refine jr_seg 0 1 [3, 8, 9, 10, 11] [0] (st1 := ⟨[(3, .av (.osl 0 0 (List.length x6) 1)), (8, .av (.osl 0 0 (List.length x6) 1)), (9, .av (iv (List.length x1 : Int))), (10, .av (iv x7)), (11, .av (bv (decide (x7 < (List.length x1 : Int)))))], [(0, .rows 1 (List.map cB x6))], 1⟩) (by kernel_rfl) ?_
    refine jr_nil rfl ?_
    refine jx_seqN ?_
    refine jc_seq ?_
    refine jc_cond (g := 11) (c := (decide (x7 < (List.length x1 : Int)))) (by kernel_rfl) ?_ ?_
    · intro _
      refine jc_skip ?_
      refine jx_seqN ?_
      refine jc_seq ?_
      refine jc_bind (fun x18 => ⟨[(3, .av (.osl 0 0 (List.length x18) 1)), (8, .av (.osl 0 0 (List.length x18) 1)), (9, .av (iv (List.length x1 : Int))), (10, .av (iv x7))], [(0, .rows 1 (List.map cB x18))], 1⟩) (fun x18 => .normal) ?_ ?_
      · refine jc_block ?_
        refine jc_seq ?_
        refine jc_reg ?_
        refine jr_seg 0 1 [3, 8, 9, 10, 12] [0] (st1 := ⟨[(3, .av (.osl 0 0 (List.length x6) 1)), (8, .av (.osl 0 0 (List.length x6) 1)), (9, .av (iv (List.length x1 : Int))), (10, .av (iv x7)), (12, .av (iv x7))], [(0, .rows 1 (List.map cB x6))], 1⟩) (by kernel_rfl) ?_
        refine jr_part (i := 1) (mo := ixl x6 x7) rfl rfl rfl rfl (fun _ hc => aop_ixo0 (sz := 1) (e := 5) (kk := .i64) (id := 0) (by kernel_rfl) (by kernel_rfl) (by kernel_rfl) (by kernel_rfl) hc) (fun _ => rfl) ?_
        intro x19 h19
        refine jr_one (i := 2) (v := .s (.int .u8 x19)) rfl rfl rfl rfl (aop_ldo (l := x6) (c := cB) (id := 0) (k := (Int.toNat x7)) (sz := 1) (off := 0) (a := x19) (by kernel_rfl) (by kernel_rfl) (ixl_lt h19).2.2 (by kernel_rfl)) rfl ?_
        refine jr_seg 3 2 [3, 4, 5, 8, 9, 10] [0] (st1 := ⟨[(3, .av (.osl 0 0 (List.length x6) 1)), (4, .av (iv x7)), (5, .av (.s (.int .u8 x19))), (8, .av (.osl 0 0 (List.length x6) 1)), (9, .av (iv (List.length x1 : Int))), (10, .av (iv x7))], [(0, .rows 1 (List.map cB x6))], 1⟩) (by kernel_rfl) ?_
        refine jr_nil rfl ?_
        refine jx_seqN ?_
        refine jc_seq ?_
        refine jc_reg ?_
        refine jr_seg 0 1 [3, 4, 5, 8, 9, 10, 15] [0] (st1 := ⟨[(3, .av (.osl 0 0 (List.length x6) 1)), (4, .av (iv x7)), (5, .av (.s (.int .u8 x19))), (8, .av (.osl 0 0 (List.length x6) 1)), (9, .av (iv (List.length x1 : Int))), (10, .av (iv x7)), (15, .av (.s (.int .u8 x19)))], [(0, .rows 1 (List.map cB x6))], 1⟩) (by kernel_rfl) ?_
        refine jr_callF (i := 1) rfl rfl rfl rfl (vs := [.s (.int .u8 x19), iv 3]) (by kernel_rfl) (snapL_cons rfl (snapL_cons rfl (snapL_nil _))) (all2_cons (fle_refl _) (all2_cons (fle_refl _) all2_nil)) (scan_Is_ok x19 3) (fun _ => rfl) (fun _ => rfl) ?_
        intro x20 h20
        refine jr_nil rfl ?_
        refine jx_seqN ?_
        refine jc_cond (g := 16) (c := x20) (by kernel_rfl) ?_ ?_
        · intro _
          refine jc_reg ?_
          refine jr_seg 0 4 [3, 8, 9, 10, 17, 18, 20] [0] (st1 := ⟨[(3, .av (.osl 0 0 (List.length x6) 1)), (8, .av (.osl 0 0 (List.length x6) 1)), (9, .av (iv (List.length x1 : Int))), (10, .av (iv x7)), (17, .av (.osl 0 0 (List.length x6) 1)), (18, .av (iv x7)), (20, .av (.s (.int .u8 (IntKind.wrap .u8 (x19 + 32)))))], [(0, .rows 1 (List.map cB x6))], 1⟩) (by kernel_rfl) ?_
          refine jr_part (i := 4) (mo := ixl x6 x7) rfl rfl rfl rfl (fun _ hc => aop_ixo0 (sz := 1) (e := 5) (kk := .i64) (id := 0) (by kernel_rfl) (by kernel_rfl) (by kernel_rfl) (by kernel_rfl) hc) (fun _ => rfl) ?_
          intro x21 h21
          refine jr_sto (i := 5) [3, 8, 9, 10] [0] (st1 := ⟨[(3, .av (.osl 0 0 (List.length (List.set x6 (Int.toNat x7) (IntKind.wrap .u8 (x19 + 32)))) 1)), (8, .av (.osl 0 0 (List.length (List.set x6 (Int.toNat x7) (IntKind.wrap .u8 (x19 + 32)))) 1)), (9, .av (iv (List.length x1 : Int))), (10, .av (iv x7))], [(0, .rows 1 (List.map cB (List.set x6 (Int.toNat x7) (IntKind.wrap .u8 (x19 + 32)))))], 1⟩) rfl rfl rfl rfl (aop_sto (l := x6) (c := cB) (id := 0) (k := (Int.toNat x7)) (sz := 1) (off := 0) (a := x21) (a' := (IntKind.wrap .u8 (x19 + 32))) (w := .s (.int .u8 (IntKind.wrap .u8 (x19 + 32)))) (cs := [.s (.int .u8 (IntKind.wrap .u8 (x19 + 32)))]) (by kernel_rfl) (by kernel_rfl) (by kernel_rfl) (by kernel_rfl) (by kernel_rfl) (ixl_lt h21).2.2 (Nat.le_of_ble_eq_true rfl) (by kernel_rfl)) (by simp only [List.length_set]; kernel_rfl) ?_
          refine jr_nil rfl ?_
          refine jx_blkN ?_
          exact jx_mid rfl (wk_ren [(0, some 0)] (fix_nil _) rfl (by kernel_rfl) (allp_cons (.inl ⟨0, _, _, _, rfl, rfl, rfl, .inr ⟨rfl, noid_map ni_B _⟩⟩) allp_nil))
        · intro _
          refine jc_skip ?_
          refine jx_blkN ?_
          exact jx_mid rfl (wk_ren [(0, some 0)] (fix_nil _) rfl (by kernel_rfl) (allp_cons (.inl ⟨0, _, _, _, rfl, rfl, rfl, .inr ⟨rfl, noid_map ni_B _⟩⟩) allp_nil))
      · intro x18
        refine jx_seqN ?_
        refine jc_reg ?_
        refine jr_seg 0 2 [3, 8, 9, 10] [0] (st1 := ⟨[(3, .av (.osl 0 0 (List.length x18) 1)), (8, .av (.osl 0 0 (List.length x18) 1)), (9, .av (iv (List.length x1 : Int))), (10, .av (iv (w64 (x7 + 1))))], [(0, .rows 1 (List.map cB x18))], 1⟩) (by kernel_rfl) ?_
        refine jr_nil rfl ?_
        exact jx_next (wk_ren [(0, some 0)] (fix_nil _) rfl (by kernel_rfl) (allp_cons (.inl ⟨0, _, _, _, rfl, rfl, rfl, .inr ⟨rfl, noid_map ni_B _⟩⟩) allp_nil))
    · intro _
      refine jc_exit ?_
      refine jx_seqE ?_
      exact jx_done rfl nofun (wk_ren [(0, some 0)] (fix_nil _) rfl (by kernel_rfl) (allp_cons (.inl ⟨0, _, _, _, rfl, rfl, rfl, .inr ⟨rfl, noid_map ni_B _⟩⟩) allp_nil))
  · intro x14
    refine jx_blkE ?_
    refine jx_seqN ?_
    refine jc_seq ?_
    refine jc_reg ?_
    refine jr_seg 0 1 [23] [0] (st1 := ⟨[(23, .av (.osl 0 0 (List.length x14) 1))], [(0, .rows 1 (List.map cB x14))], 1⟩) (by kernel_rfl) ?_
    refine jr_one (i := 1) rfl rfl rfl rfl (aop_ofb_o (e := 5) (id := 0) (l := x14) (by kernel_rfl) (by kernel_rfl) (by kernel_rfl) (by kernel_rfl) (by kernel_rfl)) rfl ?_
    refine jr_seg 2 1 [2] [] (st1 := ⟨[(2, .av (bs (ofb x14)))], [], 2⟩) (by kernel_rfl) ?_
    refine jr_nil rfl ?_
    refine jx_seqN ?_
    refine jc_ret ?_
    exact jx_retF (.inr rfl) (v := bs (ofb x14)) (by kernel_rfl) rfl (fle_refl _))
end Go.Vm

/- The law RpmSigns, a part of its proof: what the functions that it reaches compute. -/
import Derived.Test.YtfkifahbmemepaaDoorDx36d5087e
set_option linter.unusedVariables false
namespace Go.Vm
open Go
structure S_api_Evr where
  Epoch : Str
  Ver : Str
  Rel : Str
  HasRel : Bool
  deriving DecidableEq, Inhabited
structure S_rpm_segment where
  kind : Int
  text : Str
  deriving DecidableEq, Inhabited
abbrev c_S_rpm_segment (x : S_rpm_segment) : List AV := [iv x.kind, bs x.text]
theorem ni_S_rpm_segment (x : S_rpm_segment) : NoIds (c_S_rpm_segment x) := noids_cons (noid_s _) (noids_cons (noid_s _) (noids_nil))
end Go.Vm

set_option maxRecDepth 100000
set_option maxHeartbeats 0
set_option linter.unusedVariables false
set_option linter.unusedSimpArgs false
namespace Go.Vm
open Go
abbrev strings_trimLeftByte_r1 : List LO := [⟨some 4, Op.assign (Operand.const (Value.string { data := #[] })), 9, none⟩]
abbrev strings_trimLeftByte_b2 : LC := .reg false strings_trimLeftByte_r1
abbrev strings_trimLeftByte_r3 : List LO := [⟨some 5, Op.move (Operand.tmp 0), 9, none⟩,
  ⟨some 6, Op.call { callee := Callee.builtin Builtin.len, args := #[Operand.tmp 5], argTypes := #[9] }, 3, none⟩,
  ⟨some 7, Op.binOp BinOp.gtr 3 (Operand.tmp 6) (Operand.const (Value.int IntKind.i64 0)) 3, 4, none⟩,
  ⟨some 8, Op.move (Operand.tmp 7), 4, none⟩,
  ⟨some 9, Op.move (Operand.tmp 0), 9, (some (8, true))⟩,
  ⟨some 10, Op.index 9 (Operand.tmp 9) (Operand.const (Value.int IntKind.i64 0)), 5, (some (8, true))⟩,
  ⟨some 11, Op.move (Operand.tmp 1), 5, (some (8, true))⟩,
  ⟨some 12, Op.binOp BinOp.eql 5 (Operand.tmp 10) (Operand.tmp 11) 5, 4, (some (8, true))⟩,
  ⟨some 13, Op.pick (Operand.tmp 8) (Operand.tmp 12) (Operand.const (Value.bool false)), 4, none⟩]
abbrev strings_trimLeftByte_b4 : LC := .reg false strings_trimLeftByte_r3
abbrev strings_trimLeftByte_b5 : LC := .cond (Operand.tmp 13) .skip (.exit 0)
abbrev strings_trimLeftByte_b6 : LC := .seq strings_trimLeftByte_b4 strings_trimLeftByte_b5
abbrev strings_trimLeftByte_r7 : List LO := [⟨some 14, Op.move (Operand.tmp 0), 9, none⟩,
  ⟨some 15, Op.slice 9 (Operand.tmp 14) (some (Operand.const (Value.int IntKind.i64 1))) none none, 9, none⟩,
  ⟨some 0, Op.assign (Operand.tmp 15), 9, none⟩]
abbrev strings_trimLeftByte_b8 : LC := .reg false strings_trimLeftByte_r7
abbrev strings_trimLeftByte_b9 : LC := .block 1 strings_trimLeftByte_b8
abbrev strings_trimLeftByte_b10 : LC := .seq strings_trimLeftByte_b6 strings_trimLeftByte_b9
abbrev strings_trimLeftByte_b11 : LC := .loop strings_trimLeftByte_b10
abbrev strings_trimLeftByte_b12 : LC := .block 0 strings_trimLeftByte_b11
abbrev strings_trimLeftByte_r13 : List LO := [⟨some 16, Op.move (Operand.tmp 0), 9, none⟩,
  ⟨some 4, Op.assign (Operand.tmp 16), 9, none⟩]
abbrev strings_trimLeftByte_b14 : LC := .reg false strings_trimLeftByte_r13
abbrev strings_trimLeftByte_b15 : LC := .seq strings_trimLeftByte_b14 .ret
abbrev strings_trimLeftByte_b16 : LC := .seq strings_trimLeftByte_b12 strings_trimLeftByte_b15
abbrev strings_trimLeftByte_b17 : LC := .seq strings_trimLeftByte_b2 strings_trimLeftByte_b16
theorem strings_trimLeftByte_k : FnOk E 104 17 [.tmp 4] strings_trimLeftByte_b17 := ⟨⟨Go.Proofs.Tryd.f104, by kernel_rfl, by kernel_rfl, by kernel_rfl, by kernel_rfl, by kernel_rfl⟩, rfl⟩
noncomputable def strings_trimLeftByte_l1 (a1 : Int) : Str → Option (Step (Str) (Str)) := fun x4 => Option.bind (if (decide ((List.length x4 : Int) > 0)) = true then Option.bind (idx x4 0) (fun x12 => some (x12 == a1)) else some false : Option (Bool)) (fun x11 => (if x11 = true then Option.bind (subl x4 1 (List.length x4 : Int)) (fun x13 => some (Step.next x13)) else some (Step.done x4)))
noncomputable def strings_trimLeftByte (a0 : Str) (a1 : Int) : Option (Str) := Option.bind (loopC (strings_trimLeftByte_l1 a1) a0) (fun x9 => some x9)
theorem strings_trimLeftByte_ok (a0 : Str) (a1 : Int) : Ct E 104 [bs a0, .s (.int .u8 a1)] (strings_trimLeftByte a0 a1) (fun r : Str => bs r) := ct_intro (N := 17) (L := strings_trimLeftByte_b17) strings_trimLeftByte_k rfl (Nat.le_of_ble_eq_true rfl) (by kernel_rfl) (by
  unfold strings_trimLeftByte
  refine jc_seq ?_
  refine jc_reg ?_
  refine jr_seg 0 1 [0, 1] [] (st1 := ⟨[(0, .av (bs a0)), (1, .av (.s (.int .u8 a1)))], [], 0⟩) (by kernel_rfl) ?_
  refine jr_nil rfl ?_
  refine jx_seqN ?_
  refine jc_seq ?_
  refine jc_block ?_
  refine jc_bind (fun x9 => ⟨[(0, .av (bs x9))], [], 0⟩) (fun x9 => (.exit 0)) (jc_loop (fun x4 => ⟨[(0, .av (bs x4)), (1, .av (.s (.int .u8 a1)))], [], 0⟩) (wk_ren [] (fix_nil _) rfl (by kernel_rfl) allp_nil) ?_) ?_
  · intro x4
    unfold strings_trimLeftByte_l1
    refine jc_seq ?_
    refine jc_seq ?_
    refine jc_reg ?_
    refine jr_seg 0 4 [0, 1, 8] [] (st1 := ⟨[(0, .av (bs x4)), (1, .av (.s (.int .u8 a1))), (8, .av (bv (decide ((List.length x4 : Int) > 0))))], [], 0⟩) (by kernel_rfl) ?_
    refine jr_bind 4 5 (fun x11 => ⟨[(0, .av (bs x4)), (1, .av (.s (.int .u8 a1))), (13, .av (bv x11))], [], 0⟩) ?_ ?_
    · refine jr_split (g := 8) (c := (decide ((List.length x4 : Int) > 0))) (by kernel_rfl) ?_ ?_
      · intro _
        refine jr_seg 0 1 [0, 1, 8, 9] [] (st1 := ⟨[(0, .av (bs x4)), (1, .av (.s (.int .u8 a1))), (8, .lit true), (9, .av (bs x4))], [], 0⟩) (by kernel_rfl) ?_
        refine jr_part (i := 1) (mo := idx x4 0) rfl rfl rfl rfl (fun _ hc => aop_index (kk := .i64) (by kernel_rfl) (by kernel_rfl) (by kernel_rfl) hc) (fun _ => rfl) ?_
        intro x12 h12
        refine jr_seg 2 3 [0, 1, 13] [] (st1 := ⟨[(0, .av (bs x4)), (1, .av (.s (.int .u8 a1))), (13, .av (bv (x12 == a1)))], [], 0⟩) (by kernel_rfl) ?_
        refine jr_nil rfl ?_
        exact jx_mid rfl (wk_ren [] (fix_nil _) rfl (by kernel_rfl) allp_nil)
      · intro _
        refine jr_seg 0 5 [0, 1, 13] [] (st1 := ⟨[(0, .av (bs x4)), (1, .av (.s (.int .u8 a1))), (13, .av (bv false))], [], 0⟩) (by kernel_rfl) ?_
        refine jr_nil rfl ?_
        exact jx_mid rfl (wk_ren [] (fix_nil _) rfl (by kernel_rfl) allp_nil)
    · intro x11
      refine jr_nil rfl ?_
      refine jx_seqN ?_
      refine jc_cond (g := 13) (c := x11) (by kernel_rfl) ?_ ?_
      · intro _
        refine jc_skip ?_
        refine jx_seqN ?_
        refine jc_block ?_
        refine jc_reg ?_
        refine jr_seg 0 1 [1, 14] [] (st1 := ⟨[(1, .av (.s (.int .u8 a1))), (14, .av (bs x4))], [], 0⟩) (by kernel_rfl) ?_
        refine jr_part (i := 1) (mo := subl x4 1 (List.length x4 : Int)) rfl rfl rfl rfl (fun _ hc => aop_subs (by kernel_rfl) (by kernel_rfl) (by kernel_rfl) (by kernel_rfl) hc) (fun _ => rfl) ?_
        intro x13 h13
        refine jr_seg 2 1 [0, 1] [] (st1 := ⟨[(0, .av (bs x13)), (1, .av (.s (.int .u8 a1)))], [], 0⟩) (by kernel_rfl) ?_
        refine jr_nil rfl ?_
        refine jx_blkN ?_
        exact jx_next (wk_ren [] (fix_nil _) rfl (by kernel_rfl) allp_nil)
      · intro _
        refine jc_exit ?_
        refine jx_seqE ?_
        exact jx_done rfl nofun (wk_ren [] (fix_nil _) rfl (by kernel_rfl) allp_nil)
  · intro x9
    refine jx_blkE ?_
    refine jx_seqN ?_
    refine jc_seq ?_
    refine jc_reg ?_
    refine jr_seg 0 2 [4] [] (st1 := ⟨[(4, .av (bs x9))], [], 0⟩) (by kernel_rfl) ?_
    refine jr_nil rfl ?_
    refine jx_seqN ?_
    refine jc_ret ?_
    exact jx_retF (.inr rfl) (v := bs x9) (by kernel_rfl) rfl (fle_refl _))
end Go.Vm

set_option maxRecDepth 100000
set_option maxHeartbeats 0
set_option linter.unusedVariables false
set_option linter.unusedSimpArgs false
namespace Go.Vm
open Go
abbrev strings_TrimLeft_s1_r1 : List LO := [⟨some 4, Op.assign (Operand.const (Value.string { data := #[] })), 9, none⟩]
abbrev strings_TrimLeft_s1_b2 : LC := .reg false strings_TrimLeft_s1_r1
abbrev strings_TrimLeft_s1_r3 : List LO := [⟨some 7, Op.move (Operand.tmp 0), 9, none⟩,
  ⟨some 8, Op.binOp BinOp.eql 9 (Operand.tmp 7) (Operand.const (Value.string { data := #[] })) 9, 4, none⟩,
  ⟨some 9, Op.move (Operand.tmp 8), 4, none⟩,
  ⟨some 10, Op.move (Operand.tmp 1), 9, (some (9, false))⟩,
  ⟨some 11, Op.binOp BinOp.eql 9 (Operand.tmp 10) (Operand.const (Value.string { data := #[] })) 9, 4, (some (9, false))⟩,
  ⟨some 12, Op.pick (Operand.tmp 9) (Operand.const (Value.bool true)) (Operand.tmp 11), 4, none⟩]
abbrev strings_TrimLeft_s1_b4 : LC := .reg false strings_TrimLeft_s1_r3
abbrev strings_TrimLeft_s1_r5 : List LO := [⟨some 13, Op.move (Operand.tmp 0), 9, none⟩,
  ⟨some 4, Op.assign (Operand.tmp 13), 9, none⟩]
abbrev strings_TrimLeft_s1_b6 : LC := .reg false strings_TrimLeft_s1_r5
abbrev strings_TrimLeft_s1_b7 : LC := .seq strings_TrimLeft_s1_b6 .ret
abbrev strings_TrimLeft_s1_b8 : LC := .cond (Operand.tmp 12) strings_TrimLeft_s1_b7 .skip
abbrev strings_TrimLeft_s1_b9 : LC := .seq strings_TrimLeft_s1_b4 strings_TrimLeft_s1_b8
abbrev strings_TrimLeft_s1_r10 : List LO := [⟨some 14, Op.move (Operand.tmp 1), 9, none⟩,
  ⟨some 15, Op.call { callee := Callee.builtin Builtin.len, args := #[Operand.tmp 14], argTypes := #[9] }, 3, none⟩,
  ⟨some 16, Op.binOp BinOp.eql 3 (Operand.tmp 15) (Operand.const (Value.int IntKind.i64 1)) 3, 4, none⟩,
  ⟨some 17, Op.move (Operand.tmp 16), 4, none⟩,
  ⟨some 18, Op.move (Operand.tmp 1), 9, (some (17, true))⟩,
  ⟨some 19, Op.index 9 (Operand.tmp 18) (Operand.const (Value.int IntKind.i64 0)), 5, (some (17, true))⟩,
  ⟨some 20, Op.binOp BinOp.lss 5 (Operand.tmp 19) (Operand.const (Value.int IntKind.u8 128)) 5, 4, (some (17, true))⟩,
  ⟨some 21, Op.pick (Operand.tmp 17) (Operand.tmp 20) (Operand.const (Value.bool false)), 4, none⟩]
abbrev strings_TrimLeft_s1_b11 : LC := .reg false strings_TrimLeft_s1_r10
abbrev strings_TrimLeft_s1_r12 : List LO := [⟨some 22, Op.move (Operand.tmp 0), 9, none⟩,
  ⟨some 23, Op.move (Operand.tmp 1), 9, none⟩,
  ⟨some 24, Op.index 9 (Operand.tmp 23) (Operand.const (Value.int IntKind.i64 0)), 5, none⟩,
  ⟨some 25, Op.call { callee := Callee.value (Operand.func 104), args := #[Operand.tmp 22, Operand.tmp 24], argTypes := #[9, 5] }, 9, none⟩,
  ⟨some 4, Op.assign (Operand.tmp 25), 9, none⟩]
abbrev strings_TrimLeft_s1_b13 : LC := .reg false strings_TrimLeft_s1_r12
abbrev strings_TrimLeft_s1_b14 : LC := .seq strings_TrimLeft_s1_b13 .ret
abbrev strings_TrimLeft_s1_b15 : LC := .cond (Operand.tmp 21) strings_TrimLeft_s1_b14 .skip
abbrev strings_TrimLeft_s1_b16 : LC := .seq strings_TrimLeft_s1_b11 strings_TrimLeft_s1_b15
abbrev strings_TrimLeft_s1_r17 : List LO := [⟨some 27, Op.move (Operand.tmp 1), 9, none⟩,
  ⟨some 28, Op.call { callee := Callee.value (Operand.func 105), args := #[Operand.tmp 27], argTypes := #[9] }, 125, none⟩,
  ⟨some 26, Op.move (Operand.tmp 28), 125, none⟩,
  ⟨some 29, Op.extract (Operand.tmp 26) 0, 124, none⟩,
  ⟨some 30, Op.extract (Operand.tmp 26) 1, 4, none⟩,
  ⟨some 5, Op.alloc 124, 0, none⟩,
  ⟨none, Op.store 124 (Operand.tmp 5) (Operand.tmp 29), 0, none⟩,
  ⟨some 6, Op.assign (Operand.tmp 30), 4, none⟩]
abbrev strings_TrimLeft_s1_b18 : LC := .reg false strings_TrimLeft_s1_r17
abbrev strings_TrimLeft_s1_r19 : List LO := [⟨some 31, Op.move (Operand.tmp 6), 4, none⟩]
abbrev strings_TrimLeft_s1_b20 : LC := .reg false strings_TrimLeft_s1_r19
abbrev strings_TrimLeft_s1_r21 : List LO := [⟨some 32, Op.move (Operand.tmp 0), 9, none⟩,
  ⟨some 33, Op.call { callee := Callee.value (Operand.func 106), args := #[Operand.tmp 32, Operand.tmp 5], argTypes := #[9, 128] }, 9, none⟩,
  ⟨some 4, Op.assign (Operand.tmp 33), 9, none⟩]
abbrev strings_TrimLeft_s1_b22 : LC := .reg false strings_TrimLeft_s1_r21
abbrev strings_TrimLeft_s1_b23 : LC := .seq strings_TrimLeft_s1_b22 .ret
abbrev strings_TrimLeft_s1_b24 : LC := .cond (Operand.tmp 31) strings_TrimLeft_s1_b23 .skip
abbrev strings_TrimLeft_s1_b25 : LC := .seq strings_TrimLeft_s1_b20 strings_TrimLeft_s1_b24
abbrev strings_TrimLeft_s1_b26 : LC := .seq strings_TrimLeft_s1_b18 strings_TrimLeft_s1_b25
abbrev strings_TrimLeft_s1_r27 : List LO := [⟨some 34, Op.move (Operand.tmp 0), 9, none⟩,
  ⟨some 35, Op.move (Operand.tmp 1), 9, none⟩,
  ⟨some 36, Op.call { callee := Callee.value (Operand.func 107), args := #[Operand.tmp 34, Operand.tmp 35], argTypes := #[9, 9] }, 9, none⟩,
  ⟨some 4, Op.assign (Operand.tmp 36), 9, none⟩]
abbrev strings_TrimLeft_s1_b28 : LC := .reg false strings_TrimLeft_s1_r27
abbrev strings_TrimLeft_s1_b29 : LC := .seq strings_TrimLeft_s1_b28 .ret
abbrev strings_TrimLeft_s1_b30 : LC := .seq strings_TrimLeft_s1_b26 strings_TrimLeft_s1_b29
abbrev strings_TrimLeft_s1_b31 : LC := .seq strings_TrimLeft_s1_b16 strings_TrimLeft_s1_b30
abbrev strings_TrimLeft_s1_b32 : LC := .seq strings_TrimLeft_s1_b9 strings_TrimLeft_s1_b31
abbrev strings_TrimLeft_s1_b33 : LC := .seq strings_TrimLeft_s1_b2 strings_TrimLeft_s1_b32
theorem strings_TrimLeft_s1_k : FnOk E 63 37 [.tmp 4] strings_TrimLeft_s1_b33 := ⟨⟨Go.Proofs.Tryd.f63, by kernel_rfl, by kernel_rfl, by kernel_rfl, by kernel_rfl, by kernel_rfl⟩, rfl⟩
noncomputable def strings_TrimLeft_s1 (a0 : Str) : Option (Str) := (if ((a0 == []) && true) = true then some a0 else Option.bind (strings_trimLeftByte a0 48) (fun x1 => some x1))
theorem strings_TrimLeft_s1_ok (a0 : Str) : Ct E 63 [bs a0, bs [48]] (strings_TrimLeft_s1 a0) (fun r : Str => bs r) := ct_intro (N := 37) (L := strings_TrimLeft_s1_b33) strings_TrimLeft_s1_k rfl (Nat.le_of_ble_eq_true rfl) (by kernel_rfl) (by
  unfold strings_TrimLeft_s1
  refine jc_seq ?_
  refine jc_reg ?_
  refine jr_seg 0 1 [0, 1] [] (st1 := ⟨[(0, .av (bs a0)), (1, .av (bs [48]))], [], 0⟩) (by kernel_rfl) ?_
  refine jr_nil rfl ?_
  refine jx_seqN ?_
  refine jc_seq ?_
  refine jc_seq ?_
  refine jc_reg ?_
  refine jr_seg 0 6 [0, 1, 12] [] (st1 := ⟨[(0, .av (bs a0)), (1, .av (bs [48])), (12, .av (bv ((a0 == []) && true)))], [], 0⟩) (by kernel_rfl) ?_
  refine jr_nil rfl ?_
  refine jx_seqN ?_
  refine jc_cond (g := 12) (c := ((a0 == []) && true)) (by kernel_rfl) ?_ ?_
  · intro _
    refine jc_seq ?_
    refine jc_reg ?_
    refine jr_seg 0 2 [4] [] (st1 := ⟨[(4, .av (bs a0))], [], 0⟩) (by kernel_rfl) ?_
    refine jr_nil rfl ?_
    refine jx_seqN ?_
    refine jc_ret ?_
    refine jx_seqR ?_
    exact jx_retF (.inr rfl) (v := bs a0) (by kernel_rfl) rfl (fle_refl _)
  · intro _
    refine jc_skip ?_
    refine jx_seqN ?_
    refine jc_seq ?_
    refine jc_seq ?_
    refine jc_reg ?_
    refine jr_seg 0 4 [0, 1, 17] [] (st1 := ⟨[(0, .av (bs a0)), (1, .av (bs [48])), (17, .av (bv true))], [], 0⟩) (by kernel_rfl) ?_
    refine jr_lit (g := 17) (b := true) (by kernel_rfl) ?_
    refine jr_seg 4 1 [0, 1, 17, 18] [] (st1 := ⟨[(0, .av (bs a0)), (1, .av (bs [48])), (17, .lit true), (18, .av (bs [48]))], [], 0⟩) (by kernel_rfl) ?_
    refine jr_one (i := 5) (v := .s (.int .u8 48)) (us := []) rfl rfl rfl rfl (aop_index (s := [48]) (j := 0) (c := 48) (kk := .i64) (by kernel_rfl) (by kernel_rfl) (by kernel_rfl) rfl) rfl ?_
    refine jr_seg 6 2 [0, 1, 21] [] (st1 := ⟨[(0, .av (bs a0)), (1, .av (bs [48])), (21, .av (bv true))], [], 0⟩) (by kernel_rfl) ?_
    refine jr_nil rfl ?_
    refine jx_seqN ?_
    refine jc_condK (c := true) (by kernel_rfl) ?_
    refine jc_seq ?_
    refine jc_reg ?_
    refine jr_seg 0 2 [22, 23] [] (st1 := ⟨[(22, .av (bs a0)), (23, .av (bs [48]))], [], 0⟩) (by kernel_rfl) ?_
    refine jr_one (i := 2) (v := .s (.int .u8 48)) (us := []) rfl rfl rfl rfl (aop_index (s := [48]) (j := 0) (c := 48) (kk := .i64) (by kernel_rfl) (by kernel_rfl) (by kernel_rfl) rfl) rfl ?_
    refine jr_callF (i := 3) rfl rfl rfl rfl (vs := [bs a0, .s (.int .u8 48)]) (by kernel_rfl) (snapL_cons rfl (snapL_cons rfl (snapL_nil _))) (all2_cons (fle_refl _) (all2_cons (fle_refl _) all2_nil)) (strings_trimLeftByte_ok a0 48) (fun _ => rfl) (fun _ => rfl) ?_
    intro x1 h1
    refine jr_seg 4 1 [4] [] (st1 := ⟨[(4, .av (bs x1))], [], 0⟩) (by kernel_rfl) ?_
    refine jr_nil rfl ?_
    refine jx_seqN ?_
    refine jc_ret ?_
    refine jx_seqR ?_
    exact jx_retF (.inr rfl) (v := bs x1) (by kernel_rfl) rfl (fle_refl _))
end Go.Vm

set_option maxRecDepth 100000
set_option maxHeartbeats 0
set_option linter.unusedVariables false
set_option linter.unusedSimpArgs false
namespace Go.Vm
open Go
abbrev scan_Trim_r1 : List LO := [⟨some 2, Op.assign (Operand.const (Value.string { data := #[] })), 9, none⟩]
abbrev scan_Trim_b2 : LC := .reg false scan_Trim_r1
abbrev scan_Trim_r3 : List LO := [⟨some 3, Op.move (Operand.tmp 0), 9, none⟩,
  ⟨some 4, Op.call { callee := Callee.value (Operand.func 63), args := #[Operand.tmp 3, Operand.const (Value.string { data := #[48] })], argTypes := #[9, 9] }, 9, none⟩,
  ⟨some 0, Op.assign (Operand.tmp 4), 9, none⟩]
abbrev scan_Trim_b4 : LC := .reg false scan_Trim_r3
abbrev scan_Trim_r5 : List LO := [⟨some 5, Op.move (Operand.tmp 0), 9, none⟩,
  ⟨some 6, Op.binOp BinOp.eql 9 (Operand.tmp 5) (Operand.const (Value.string { data := #[] })) 9, 4, none⟩]
abbrev scan_Trim_b6 : LC := .reg false scan_Trim_r5
abbrev scan_Trim_r7 : List LO := [⟨some 2, Op.assign (Operand.const (Value.string { data := #[48] })), 9, none⟩]
abbrev scan_Trim_b8 : LC := .reg false scan_Trim_r7
abbrev scan_Trim_b9 : LC := .seq scan_Trim_b8 .ret
abbrev scan_Trim_b10 : LC := .cond (Operand.tmp 6) scan_Trim_b9 .skip
abbrev scan_Trim_b11 : LC := .seq scan_Trim_b6 scan_Trim_b10
abbrev scan_Trim_r12 : List LO := [⟨some 7, Op.move (Operand.tmp 0), 9, none⟩,
  ⟨some 2, Op.assign (Operand.tmp 7), 9, none⟩]
abbrev scan_Trim_b13 : LC := .reg false scan_Trim_r12
abbrev scan_Trim_b14 : LC := .seq scan_Trim_b13 .ret
abbrev scan_Trim_b15 : LC := .seq scan_Trim_b11 scan_Trim_b14
abbrev scan_Trim_b16 : LC := .seq scan_Trim_b4 scan_Trim_b15
abbrev scan_Trim_b17 : LC := .seq scan_Trim_b2 scan_Trim_b16
theorem scan_Trim_k : FnOk E 15 8 [.tmp 2] scan_Trim_b17 := ⟨⟨Go.Proofs.Tryd.f15, by kernel_rfl, by kernel_rfl, by kernel_rfl, by kernel_rfl, by kernel_rfl⟩, rfl⟩
noncomputable def scan_Trim (a0 : Str) : Option (Str) := Option.bind (strings_TrimLeft_s1 a0) (fun x1 => (if (x1 == []) = true then some [48] else some x1))
theorem scan_Trim_ok (a0 : Str) : Ct E 15 [bs a0] (scan_Trim a0) (fun r : Str => bs r) := ct_intro (N := 8) (L := scan_Trim_b17) scan_Trim_k rfl (Nat.le_of_ble_eq_true rfl) (by kernel_rfl) (by
  unfold scan_Trim
  refine jc_seq ?_
  refine jc_reg ?_
  refine jr_seg 0 1 [0] [] (st1 := ⟨[(0, .av (bs a0))], [], 0⟩) (by kernel_rfl) ?_
  refine jr_nil rfl ?_
  refine jx_seqN ?_
  refine jc_seq ?_
  refine jc_reg ?_
  refine jr_seg 0 1 [3] [] (st1 := ⟨[(3, .av (bs a0))], [], 0⟩) (by kernel_rfl) ?_
  refine jr_callF (i := 1) rfl rfl rfl rfl (vs := [bs a0, bs [48]]) (by kernel_rfl) (snapL_cons rfl (snapL_cons rfl (snapL_nil _))) (all2_cons (fle_refl _) (all2_cons (fle_refl _) all2_nil)) (strings_TrimLeft_s1_ok a0) (fun _ => rfl) (fun _ => rfl) ?_
  intro x1 h1
  refine jr_seg 2 1 [0] [] (st1 := ⟨[(0, .av (bs x1))], [], 0⟩) (by kernel_rfl) ?_
  refine jr_nil rfl ?_
  refine jx_seqN ?_
  refine jc_seq ?_
  refine jc_seq ?_
  refine jc_reg ?_
  refine jr_seg 0 2 [0, 6] [] (st1 := ⟨[(0, .av (bs x1)), (6, .av (bv (x1 == [])))], [], 0⟩) (by kernel_rfl) ?_
  refine jr_nil rfl ?_
  refine jx_seqN ?_
  refine jc_cond (g := 6) (c := (x1 == [])) (by kernel_rfl) ?_ ?_
  · intro _
    refine jc_seq ?_
    refine jc_reg ?_
    refine jr_seg 0 1 [2] [] (st1 := ⟨[(2, .av (bs [48]))], [], 0⟩) (by kernel_rfl) ?_
    refine jr_nil rfl ?_
    refine jx_seqN ?_
    refine jc_ret ?_
    refine jx_seqR ?_
    exact jx_retF (.inr rfl) (v := bs [48]) (by kernel_rfl) rfl (fle_refl _)
  · intro _
    refine jc_skip ?_
    refine jx_seqN ?_
    refine jc_seq ?_
    refine jc_reg ?_
    refine jr_seg 0 2 [2] [] (st1 := ⟨[(2, .av (bs x1))], [], 0⟩) (by kernel_rfl) ?_
    refine jr_nil rfl ?_
    refine jx_seqN ?_
    refine jc_ret ?_
    exact jx_retF (.inr rfl) (v := bs x1) (by kernel_rfl) rfl (fle_refl _))
end Go.Vm

set_option maxRecDepth 100000
set_option maxHeartbeats 0
set_option linter.unusedVariables false
set_option linter.unusedSimpArgs false
namespace Go.Vm
open Go
abbrev ref01_Trim_r1 : List LO := [⟨some 2, Op.assign (Operand.const (Value.string { data := #[] })), 9, none⟩]
abbrev ref01_Trim_b2 : LC := .reg false ref01_Trim_r1
abbrev ref01_Trim_r3 : List LO := [⟨some 3, Op.assign (Operand.const (Value.int IntKind.i64 0)), 3, none⟩]
abbrev ref01_Trim_b4 : LC := .reg false ref01_Trim_r3
abbrev ref01_Trim_r5 : List LO := [⟨some 4, Op.move (Operand.tmp 3), 3, none⟩,
  ⟨some 5, Op.move (Operand.tmp 0), 9, none⟩,
  ⟨some 6, Op.call { callee := Callee.builtin Builtin.len, args := #[Operand.tmp 5], argTypes := #[9] }, 3, none⟩,
  ⟨some 7, Op.binOp BinOp.lss 3 (Operand.tmp 4) (Operand.tmp 6) 3, 4, none⟩,
  ⟨some 8, Op.move (Operand.tmp 7), 4, none⟩,
  ⟨some 9, Op.move (Operand.tmp 0), 9, (some (8, true))⟩,
  ⟨some 10, Op.move (Operand.tmp 3), 3, (some (8, true))⟩,
  ⟨some 11, Op.index 9 (Operand.tmp 9) (Operand.tmp 10), 5, (some (8, true))⟩,
  ⟨some 12, Op.binOp BinOp.eql 5 (Operand.tmp 11) (Operand.const (Value.int IntKind.u8 48)) 5, 4, (some (8, true))⟩,
  ⟨some 13, Op.pick (Operand.tmp 8) (Operand.tmp 12) (Operand.const (Value.bool false)), 4, none⟩]
abbrev ref01_Trim_b6 : LC := .reg false ref01_Trim_r5
abbrev ref01_Trim_b7 : LC := .cond (Operand.tmp 13) .skip (.exit 0)
abbrev ref01_Trim_b8 : LC := .seq ref01_Trim_b6 ref01_Trim_b7
abbrev ref01_Trim_r9 : List LO := [⟨some 14, Op.move (Operand.tmp 3), 3, none⟩,
  ⟨some 15, Op.binOp BinOp.add 3 (Operand.tmp 14) (Operand.const (Value.int IntKind.i64 1)) 3, 3, none⟩,
  ⟨some 3, Op.assign (Operand.tmp 15), 3, none⟩]
abbrev ref01_Trim_b10 : LC := .reg false ref01_Trim_r9
abbrev ref01_Trim_b11 : LC := .block 1 ref01_Trim_b10
abbrev ref01_Trim_b12 : LC := .seq ref01_Trim_b8 ref01_Trim_b11
abbrev ref01_Trim_b13 : LC := .loop ref01_Trim_b12
abbrev ref01_Trim_b14 : LC := .block 0 ref01_Trim_b13
abbrev ref01_Trim_r15 : List LO := [⟨some 16, Op.move (Operand.tmp 3), 3, none⟩,
  ⟨some 17, Op.move (Operand.tmp 0), 9, none⟩,
  ⟨some 18, Op.call { callee := Callee.builtin Builtin.len, args := #[Operand.tmp 17], argTypes := #[9] }, 3, none⟩,
  ⟨some 19, Op.binOp BinOp.eql 3 (Operand.tmp 16) (Operand.tmp 18) 3, 4, none⟩]
abbrev ref01_Trim_b16 : LC := .reg false ref01_Trim_r15
abbrev ref01_Trim_r17 : List LO := [⟨some 2, Op.assign (Operand.const (Value.string { data := #[48] })), 9, none⟩]
abbrev ref01_Trim_b18 : LC := .reg false ref01_Trim_r17
abbrev ref01_Trim_b19 : LC := .seq ref01_Trim_b18 .ret
abbrev ref01_Trim_b20 : LC := .cond (Operand.tmp 19) ref01_Trim_b19 .skip
abbrev ref01_Trim_b21 : LC := .seq ref01_Trim_b16 ref01_Trim_b20
abbrev ref01_Trim_r22 : List LO := [⟨some 20, Op.move (Operand.tmp 0), 9, none⟩,
  ⟨some 21, Op.move (Operand.tmp 3), 3, none⟩,
  ⟨some 22, Op.slice 9 (Operand.tmp 20) (some (Operand.tmp 21)) none none, 9, none⟩,
  ⟨some 2, Op.assign (Operand.tmp 22), 9, none⟩]
abbrev ref01_Trim_b23 : LC := .reg false ref01_Trim_r22
abbrev ref01_Trim_b24 : LC := .seq ref01_Trim_b23 .ret
abbrev ref01_Trim_b25 : LC := .seq ref01_Trim_b21 ref01_Trim_b24
abbrev ref01_Trim_b26 : LC := .seq ref01_Trim_b14 ref01_Trim_b25
abbrev ref01_Trim_b27 : LC := .seq ref01_Trim_b4 ref01_Trim_b26
abbrev ref01_Trim_b28 : LC := .seq ref01_Trim_b2 ref01_Trim_b27
theorem ref01_Trim_k : FnOk E 16 23 [.tmp 2] ref01_Trim_b28 := ⟨⟨Go.Proofs.Tryd.f16, by kernel_rfl, by kernel_rfl, by kernel_rfl, by kernel_rfl, by kernel_rfl⟩, rfl⟩
noncomputable def ref01_Trim_l1 (a0 : Str) : Int → Option (Step (Int) (Int)) := fun x3 => Option.bind (if (decide (x3 < (List.length a0 : Int))) = true then Option.bind (idx a0 x3) (fun x10 => some (x10 == 48)) else some false : Option (Bool)) (fun x9 => (if x9 = true then some (Step.next (w64 (x3 + 1))) else some (Step.done x3)))
noncomputable def ref01_Trim (a0 : Str) : Option (Str) := Option.bind (loopC (ref01_Trim_l1 a0) 0) (fun x7 => (if (x7 == (List.length a0 : Int)) = true then some [48] else Option.bind (subl a0 x7 (List.length a0 : Int)) (fun x11 => some x11)))
theorem ref01_Trim_ok (a0 : Str) : Ct E 16 [bs a0] (ref01_Trim a0) (fun r : Str => bs r) := ct_intro (N := 23) (L := ref01_Trim_b28) ref01_Trim_k rfl (Nat.le_of_ble_eq_true rfl) (by kernel_rfl) (by
  unfold ref01_Trim
  refine jc_seq ?_
  refine jc_reg ?_
  refine jr_seg 0 1 [0] [] (st1 := ⟨[(0, .av (bs a0))], [], 0⟩) (by kernel_rfl) ?_
  refine jr_nil rfl ?_
  refine jx_seqN ?_
  refine jc_seq ?_
  refine jc_reg ?_
  refine jr_seg 0 1 [0, 3] [] (st1 := ⟨[(0, .av (bs a0)), (3, .av (iv 0))], [], 0⟩) (by kernel_rfl) ?_
  refine jr_nil rfl ?_
  refine jx_seqN ?_
  refine jc_seq ?_
  refine jc_block ?_
  refine jc_bind (fun x7 => ⟨[(0, .av (bs a0)), (3, .av (iv x7))], [], 0⟩) (fun x7 => (.exit 0)) (jc_loop (fun x3 => ⟨[(0, .av (bs a0)), (3, .av (iv x3))], [], 0⟩) (wk_ren [] (fix_nil _) rfl (by kernel_rfl) allp_nil) ?_) ?_
  · intro x3
    unfold ref01_Trim_l1
    refine jc_seq ?_
    refine jc_seq ?_
    refine jc_reg ?_
    refine jr_seg 0 5 [0, 3, 8] [] (st1 := ⟨[(0, .av (bs a0)), (3, .av (iv x3)), (8, .av (bv (decide (x3 < (List.length a0 : Int)))))], [], 0⟩) (by kernel_rfl) ?_
    refine jr_bind 5 5 (fun x9 => ⟨[(0, .av (bs a0)), (3, .av (iv x3)), (13, .av (bv x9))], [], 0⟩) ?_ ?_
    · refine jr_split (g := 8) (c := (decide (x3 < (List.length a0 : Int)))) (by kernel_rfl) ?_ ?_
      · intro _
        refine jr_seg 0 2 [0, 3, 8, 9, 10] [] (st1 := ⟨[(0, .av (bs a0)), (3, .av (iv x3)), (8, .lit true), (9, .av (bs a0)), (10, .av (iv x3))], [], 0⟩) (by kernel_rfl) ?_
        refine jr_part (i := 2) (mo := idx a0 x3) rfl rfl rfl rfl (fun _ hc => aop_index (kk := .i64) (by kernel_rfl) (by kernel_rfl) (by kernel_rfl) hc) (fun _ => rfl) ?_
        intro x10 h10
        refine jr_seg 3 2 [0, 3, 13] [] (st1 := ⟨[(0, .av (bs a0)), (3, .av (iv x3)), (13, .av (bv (x10 == 48)))], [], 0⟩) (by kernel_rfl) ?_
        refine jr_nil rfl ?_
        exact jx_mid rfl (wk_ren [] (fix_nil _) rfl (by kernel_rfl) allp_nil)
      · intro _
        refine jr_seg 0 5 [0, 3, 13] [] (st1 := ⟨[(0, .av (bs a0)), (3, .av (iv x3)), (13, .av (bv false))], [], 0⟩) (by kernel_rfl) ?_
        refine jr_nil rfl ?_
        exact jx_mid rfl (wk_ren [] (fix_nil _) rfl (by kernel_rfl) allp_nil)
    · intro x9
      refine jr_nil rfl ?_
      refine jx_seqN ?_
      refine jc_cond (g := 13) (c := x9) (by kernel_rfl) ?_ ?_
      · intro _
        refine jc_skip ?_
        refine jx_seqN ?_
        refine jc_block ?_
        refine jc_reg ?_
        refine jr_seg 0 3 [0, 3] [] (st1 := ⟨[(0, .av (bs a0)), (3, .av (iv (w64 (x3 + 1))))], [], 0⟩) (by kernel_rfl) ?_
        refine jr_nil rfl ?_
        refine jx_blkN ?_
        exact jx_next (wk_ren [] (fix_nil _) rfl (by kernel_rfl) allp_nil)
      · intro _
        refine jc_exit ?_
        refine jx_seqE ?_
        exact jx_done rfl nofun (wk_ren [] (fix_nil _) rfl (by kernel_rfl) allp_nil)
  · intro x7
    refine jx_blkE ?_
    refine jx_seqN ?_
    refine jc_seq ?_
    refine jc_seq ?_
    refine jc_reg ?_
    refine jr_seg 0 4 [0, 3, 19] [] (st1 := ⟨[(0, .av (bs a0)), (3, .av (iv x7)), (19, .av (bv (x7 == (List.length a0 : Int))))], [], 0⟩) (by kernel_rfl) ?_
    refine jr_nil rfl ?_
    refine jx_seqN ?_
    refine jc_cond (g := 19) (c := (x7 == (List.length a0 : Int))) (by kernel_rfl) ?_ ?_
    · intro _
      refine jc_seq ?_
      refine jc_reg ?_
      refine jr_seg 0 1 [2] [] (st1 := ⟨[(2, .av (bs [48]))], [], 0⟩) (by kernel_rfl) ?_
      refine jr_nil rfl ?_
      refine jx_seqN ?_
      refine jc_ret ?_
      refine jx_seqR ?_
      exact jx_retF (.inr rfl) (v := bs [48]) (by kernel_rfl) rfl (fle_refl _)
    · intro _
      refine jc_skip ?_
      refine jx_seqN ?_
      refine jc_seq ?_
      refine jc_reg ?_
      refine jr_seg 0 2 [20, 21] [] (st1 := ⟨[(20, .av (bs a0)), (21, .av (iv x7))], [], 0⟩) (by kernel_rfl) ?_
      refine jr_part (i := 2) (mo := subl a0 x7 (List.length a0 : Int)) rfl rfl rfl rfl (fun _ hc => aop_subs (by kernel_rfl) (by kernel_rfl) (by kernel_rfl) (by kernel_rfl) hc) (fun _ => rfl) ?_
      intro x11 h11
      refine jr_seg 3 1 [2] [] (st1 := ⟨[(2, .av (bs x11))], [], 0⟩) (by kernel_rfl) ?_
      refine jr_nil rfl ?_
      refine jx_seqN ?_
      refine jc_ret ?_
      exact jx_retF (.inr rfl) (v := bs x11) (by kernel_rfl) rfl (fle_refl _))
end Go.Vm

set_option maxRecDepth 100000
set_option maxHeartbeats 0
set_option linter.unusedVariables false
set_option linter.unusedSimpArgs false
namespace Go.Vm
open Go
abbrev cmp_Or_int_r1 : List LO := [⟨some 2, Op.assign (Operand.const (Value.int IntKind.i64 0)), 3, none⟩]
abbrev cmp_Or_int_b2 : LC := .reg false cmp_Or_int_r1
abbrev cmp_Or_int_r3 : List LO := [⟨some 3, Op.assign (Operand.const (Value.int IntKind.i64 0)), 3, none⟩]
abbrev cmp_Or_int_b4 : LC := .reg false cmp_Or_int_r3
abbrev cmp_Or_int_r5 : List LO := [⟨some 6, Op.move (Operand.tmp 0), 129, none⟩,
  ⟨some 7, Op.call { callee := Callee.builtin Builtin.len, args := #[Operand.tmp 6], argTypes := #[129] }, 3, none⟩,
  ⟨some 8, Op.move (Operand.const (Value.int IntKind.i64 0)), 3, none⟩]
abbrev cmp_Or_int_b6 : LC := .reg false cmp_Or_int_r5
abbrev cmp_Or_int_r7 : List LO := [⟨some 9, Op.binOp BinOp.lss 3 (Operand.tmp 8) (Operand.tmp 7) 3, 0, none⟩]
abbrev cmp_Or_int_b8 : LC := .reg false cmp_Or_int_r7
abbrev cmp_Or_int_b9 : LC := .cond (Operand.tmp 9) .skip (.exit 0)
abbrev cmp_Or_int_r10 : List LO := [⟨some 10, Op.indexAddr 129 (Operand.tmp 6) (Operand.tmp 8), 0, none⟩,
  ⟨some 11, Op.load 3 (Operand.tmp 10), 3, none⟩,
  ⟨some 5, Op.assign (Operand.tmp 11), 3, none⟩]
abbrev cmp_Or_int_b11 : LC := .reg false cmp_Or_int_r10
abbrev cmp_Or_int_r12 : List LO := [⟨some 12, Op.move (Operand.tmp 5), 3, none⟩,
  ⟨some 13, Op.move (Operand.tmp 3), 3, none⟩,
  ⟨some 14, Op.binOp BinOp.neq 3 (Operand.tmp 12) (Operand.tmp 13) 3, 4, none⟩]
abbrev cmp_Or_int_b13 : LC := .reg false cmp_Or_int_r12
abbrev cmp_Or_int_r14 : List LO := [⟨some 15, Op.move (Operand.tmp 5), 3, none⟩,
  ⟨some 2, Op.assign (Operand.tmp 15), 3, none⟩]
abbrev cmp_Or_int_b15 : LC := .reg false cmp_Or_int_r14
abbrev cmp_Or_int_b16 : LC := .seq cmp_Or_int_b15 .ret
abbrev cmp_Or_int_b17 : LC := .cond (Operand.tmp 14) cmp_Or_int_b16 .skip
abbrev cmp_Or_int_b18 : LC := .seq cmp_Or_int_b13 cmp_Or_int_b17
abbrev cmp_Or_int_b19 : LC := .seq cmp_Or_int_b11 cmp_Or_int_b18
abbrev cmp_Or_int_b20 : LC := .block 1 cmp_Or_int_b19
abbrev cmp_Or_int_r21 : List LO := [⟨some 16, Op.binOp BinOp.add 3 (Operand.tmp 8) (Operand.const (Value.int IntKind.i64 1)) 3, 3, none⟩,
  ⟨some 8, Op.move (Operand.tmp 16), 3, none⟩]
abbrev cmp_Or_int_b22 : LC := .reg false cmp_Or_int_r21
abbrev cmp_Or_int_b23 : LC := .seq cmp_Or_int_b20 cmp_Or_int_b22
abbrev cmp_Or_int_b24 : LC := .seq cmp_Or_int_b9 cmp_Or_int_b23
abbrev cmp_Or_int_b25 : LC := .seq cmp_Or_int_b8 cmp_Or_int_b24
abbrev cmp_Or_int_b26 : LC := .loop cmp_Or_int_b25
abbrev cmp_Or_int_b27 : LC := .block 0 cmp_Or_int_b26
abbrev cmp_Or_int_b28 : LC := .seq cmp_Or_int_b6 cmp_Or_int_b27
abbrev cmp_Or_int_r29 : List LO := [⟨some 17, Op.move (Operand.tmp 3), 3, none⟩,
  ⟨some 2, Op.assign (Operand.tmp 17), 3, none⟩]
abbrev cmp_Or_int_b30 : LC := .reg false cmp_Or_int_r29
abbrev cmp_Or_int_b31 : LC := .seq cmp_Or_int_b30 .ret
abbrev cmp_Or_int_b32 : LC := .seq cmp_Or_int_b28 cmp_Or_int_b31
abbrev cmp_Or_int_b33 : LC := .seq cmp_Or_int_b4 cmp_Or_int_b32
abbrev cmp_Or_int_b34 : LC := .seq cmp_Or_int_b2 cmp_Or_int_b33
theorem cmp_Or_int_k : FnOk E 64 18 [.tmp 2] cmp_Or_int_b34 := ⟨⟨Go.Proofs.Tryd.f64, by kernel_rfl, by kernel_rfl, by kernel_rfl, by kernel_rfl, by kernel_rfl⟩, rfl⟩
noncomputable def cmp_Or_int_l1 (a0 : (List Int)) : Int → Option (Step (Int) ((Int) ⊕ (Unit))) := fun x2 => (if (decide (x2 < (List.length a0 : Int))) = true then Option.bind (ixl a0 x2) (fun x6 => (if (x6 != 0) = true then some (Step.done (Sum.inl x6)) else some (Step.next (w64 (x2 + 1))))) else some (Step.done (Sum.inr ())))
noncomputable def cmp_Or_int (a0 : (List Int)) : Option (Int) := Option.bind (loopC (cmp_Or_int_l1 a0) 0) (fun y => match y with | Sum.inl x5 => some x5 | Sum.inr _ => some 0)
theorem cmp_Or_int_ok (a0 : (List Int)) : Ct E 64 [.fsl 1 (List.map cI a0)] (cmp_Or_int a0) (fun r : Int => iv r) := ct_intro (N := 18) (L := cmp_Or_int_b34) cmp_Or_int_k rfl (Nat.le_of_ble_eq_true rfl) (by kernel_rfl) (by
  unfold cmp_Or_int
  refine jc_seq ?_
  refine jc_reg ?_
  refine jr_seg 0 1 [0] [] (st1 := ⟨[(0, .av (.fsl 1 (List.map cI a0)))], [], 0⟩) (by kernel_rfl) ?_
  refine jr_nil rfl ?_
  refine jx_seqN ?_
  refine jc_seq ?_
  refine jc_reg ?_
  refine jr_seg 0 1 [0, 3] [] (st1 := ⟨[(0, .av (.fsl 1 (List.map cI a0))), (3, .av (iv 0))], [], 0⟩) (by kernel_rfl) ?_
  refine jr_nil rfl ?_
  refine jx_seqN ?_
  refine jc_seq ?_
  refine jc_seq ?_
  refine jc_reg ?_
  refine jr_seg 0 3 [3, 6, 7, 8] [] (st1 := ⟨[(3, .av (iv 0)), (6, .av (.fsl 1 (List.map cI a0))), (7, .av (iv (List.length (List.map cI a0) : Int))), (8, .av (iv 0))], [], 0⟩) (by kernel_rfl) ?_
  simp only [List.length_map]
  refine jr_nil rfl ?_
  refine jx_seqN ?_
  refine jc_block ?_
  refine jc_bind (fun y => match y with | Sum.inl x5 => ⟨[(2, .av (iv x5))], [], 0⟩ | Sum.inr _ => ⟨[(3, .av (iv 0))], [], 0⟩) (fun y => match y with | Sum.inl x5 => .ret | Sum.inr _ => (.exit 0)) (jc_loop (fun x2 => ⟨[(3, .av (iv 0)), (6, .av (.fsl 1 (List.map cI a0))), (7, .av (iv (List.length a0 : Int))), (8, .av (iv x2))], [], 0⟩) (wk_ren [] (fix_nil _) rfl (by kernel_rfl) allp_nil) ?_) ?_
  · intro x2
    unfold cmp_Or_int_l1
    refine jc_seq ?_
    refine jc_reg ?_
    refine jr_seg 0 1 [3, 6, 7, 8, 9] [] (st1 := ⟨[(3, .av (iv 0)), (6, .av (.fsl 1 (List.map cI a0))), (7, .av (iv (List.length a0 : Int))), (8, .av (iv x2)), (9, .av (bv (decide (x2 < (List.length a0 : Int)))))], [], 0⟩) (by kernel_rfl) ?_
    refine jr_nil rfl ?_
    refine jx_seqN ?_
    refine jc_seq ?_
    refine jc_cond (g := 9) (c := (decide (x2 < (List.length a0 : Int)))) (by kernel_rfl) ?_ ?_
    · intro _
      refine jc_skip ?_
      refine jx_seqN ?_
      refine jc_seq ?_
      refine jc_block ?_
      refine jc_seq ?_
      refine jc_reg ?_
      refine jr_part (i := 0) (mo := ixl a0 x2) rfl rfl rfl rfl (fun _ hc => aop_ixf (c := cI) (sz := 1) (e := 3) (kk := .i64) (by kernel_rfl) (by kernel_rfl) (by kernel_rfl) (by kernel_rfl) hc) (fun _ => rfl) ?_
      intro x6 h6
      refine jr_seg 1 2 [3, 5, 6, 7, 8] [] (st1 := ⟨[(3, .av (iv 0)), (5, .av (iv x6)), (6, .av (.fsl 1 (List.map cI a0))), (7, .av (iv (List.length a0 : Int))), (8, .av (iv x2))], [], 0⟩) (by kernel_rfl) ?_
      refine jr_nil rfl ?_
      refine jx_seqN ?_
      refine jc_seq ?_
      refine jc_reg ?_
      refine jr_seg 0 3 [3, 5, 6, 7, 8, 14] [] (st1 := ⟨[(3, .av (iv 0)), (5, .av (iv x6)), (6, .av (.fsl 1 (List.map cI a0))), (7, .av (iv (List.length a0 : Int))), (8, .av (iv x2)), (14, .av (bv (x6 != 0)))], [], 0⟩) (by kernel_rfl) ?_
      refine jr_nil rfl ?_
      refine jx_seqN ?_
      refine jc_cond (g := 14) (c := (x6 != 0)) (by kernel_rfl) ?_ ?_
      · intro _
        refine jc_seq ?_
        refine jc_reg ?_
        refine jr_seg 0 2 [2] [] (st1 := ⟨[(2, .av (iv x6))], [], 0⟩) (by kernel_rfl) ?_
        refine jr_nil rfl ?_
        refine jx_seqN ?_
        refine jc_ret ?_
        refine jx_blkR ?_
        refine jx_seqR ?_
        exact jx_done rfl nofun (wk_ren [] (fix_nil _) rfl (by kernel_rfl) allp_nil)
      · intro _
        refine jc_skip ?_
        refine jx_blkN ?_
        refine jx_seqN ?_
        refine jc_reg ?_
        refine jr_seg 0 2 [3, 6, 7, 8] [] (st1 := ⟨[(3, .av (iv 0)), (6, .av (.fsl 1 (List.map cI a0))), (7, .av (iv (List.length a0 : Int))), (8, .av (iv (w64 (x2 + 1))))], [], 0⟩) (by kernel_rfl) ?_
        refine jr_nil rfl ?_
        exact jx_next (wk_ren [] (fix_nil _) rfl (by kernel_rfl) allp_nil)
    · intro _
      refine jc_exit ?_
      refine jx_seqE ?_
      exact jx_done rfl nofun (wk_ren [] (fix_nil _) rfl (by kernel_rfl) allp_nil)
  · rintro (x5 | _)
    · refine jx_blkR ?_
      refine jx_seqR ?_
      exact jx_retF (.inr rfl) (v := iv x5) (by kernel_rfl) rfl (fle_refl _)
    · refine jx_blkE ?_
      refine jx_seqN ?_
      refine jc_seq ?_
      refine jc_reg ?_
      refine jr_seg 0 2 [2] [] (st1 := ⟨[(2, .av (iv 0))], [], 0⟩) (by kernel_rfl) ?_
      refine jr_nil rfl ?_
      refine jx_seqN ?_
      refine jc_ret ?_
      exact jx_retF (.inr rfl) (v := iv 0) (by kernel_rfl) rfl (fle_refl _))
end Go.Vm

set_option maxRecDepth 100000
set_option maxHeartbeats 0
set_option linter.unusedVariables false
set_option linter.unusedSimpArgs false
namespace Go.Vm
open Go
abbrev cmp_isNaN_int_r1 : List LO := [⟨some 2, Op.assign (Operand.const (Value.bool false)), 4, none⟩]
abbrev cmp_isNaN_int_b2 : LC := .reg false cmp_isNaN_int_r1
abbrev cmp_isNaN_int_r3 : List LO := [⟨some 3, Op.move (Operand.tmp 0), 3, none⟩,
  ⟨some 4, Op.move (Operand.tmp 0), 3, none⟩,
  ⟨some 5, Op.binOp BinOp.neq 3 (Operand.tmp 3) (Operand.tmp 4) 3, 4, none⟩,
  ⟨some 2, Op.assign (Operand.tmp 5), 4, none⟩]
abbrev cmp_isNaN_int_b4 : LC := .reg false cmp_isNaN_int_r3
abbrev cmp_isNaN_int_b5 : LC := .seq cmp_isNaN_int_b4 .ret
abbrev cmp_isNaN_int_b6 : LC := .seq cmp_isNaN_int_b2 cmp_isNaN_int_b5
theorem cmp_isNaN_int_k : FnOk E 108 6 [.tmp 2] cmp_isNaN_int_b6 := ⟨⟨Go.Proofs.Tryd.f108, by kernel_rfl, by kernel_rfl, by kernel_rfl, by kernel_rfl, by kernel_rfl⟩, rfl⟩
noncomputable def cmp_isNaN_int (a0 : Int) : Option (Bool) := some (a0 != a0)
theorem cmp_isNaN_int_ok (a0 : Int) : Ct E 108 [iv a0] (cmp_isNaN_int a0) (fun r : Bool => bv r) := ct_intro (N := 6) (L := cmp_isNaN_int_b6) cmp_isNaN_int_k rfl (Nat.le_of_ble_eq_true rfl) (by kernel_rfl) (by
  unfold cmp_isNaN_int
  refine jc_seq ?_
  refine jc_reg ?_
  refine jr_seg 0 1 [0] [] (st1 := ⟨[(0, .av (iv a0))], [], 0⟩) (by kernel_rfl) ?_
  refine jr_nil rfl ?_
  refine jx_seqN ?_
  refine jc_seq ?_
  refine jc_reg ?_
  refine jr_seg 0 4 [2] [] (st1 := ⟨[(2, .av (bv (a0 != a0)))], [], 0⟩) (by kernel_rfl) ?_
  refine jr_nil rfl ?_
  refine jx_seqN ?_
  refine jc_ret ?_
  exact jx_retF (.inr rfl) (v := bv (a0 != a0)) (by kernel_rfl) rfl (fle_refl _))
end Go.Vm

set_option maxRecDepth 100000
set_option maxHeartbeats 0
set_option linter.unusedVariables false
set_option linter.unusedSimpArgs false
namespace Go.Vm
open Go
abbrev cmp_Compare_int_r1 : List LO := [⟨some 4, Op.assign (Operand.const (Value.int IntKind.i64 0)), 3, none⟩]
abbrev cmp_Compare_int_b2 : LC := .reg false cmp_Compare_int_r1
abbrev cmp_Compare_int_r3 : List LO := [⟨some 7, Op.move (Operand.tmp 0), 3, none⟩,
  ⟨some 8, Op.call { callee := Callee.value (Operand.func 108), args := #[Operand.tmp 7], argTypes := #[3] }, 4, none⟩,
  ⟨some 5, Op.assign (Operand.tmp 8), 4, none⟩]
abbrev cmp_Compare_int_b4 : LC := .reg false cmp_Compare_int_r3
abbrev cmp_Compare_int_r5 : List LO := [⟨some 9, Op.move (Operand.tmp 1), 3, none⟩,
  ⟨some 10, Op.call { callee := Callee.value (Operand.func 108), args := #[Operand.tmp 9], argTypes := #[3] }, 4, none⟩,
  ⟨some 6, Op.assign (Operand.tmp 10), 4, none⟩]
abbrev cmp_Compare_int_b6 : LC := .reg false cmp_Compare_int_r5
abbrev cmp_Compare_int_r7 : List LO := [⟨some 11, Op.move (Operand.tmp 5), 4, none⟩]
abbrev cmp_Compare_int_b8 : LC := .reg false cmp_Compare_int_r7
abbrev cmp_Compare_int_r9 : List LO := [⟨some 12, Op.move (Operand.tmp 6), 4, none⟩]
abbrev cmp_Compare_int_b10 : LC := .reg false cmp_Compare_int_r9
abbrev cmp_Compare_int_r11 : List LO := [⟨some 4, Op.assign (Operand.const (Value.int IntKind.i64 0)), 3, none⟩]
abbrev cmp_Compare_int_b12 : LC := .reg false cmp_Compare_int_r11
abbrev cmp_Compare_int_b13 : LC := .seq cmp_Compare_int_b12 .ret
abbrev cmp_Compare_int_b14 : LC := .cond (Operand.tmp 12) cmp_Compare_int_b13 .skip
abbrev cmp_Compare_int_b15 : LC := .seq cmp_Compare_int_b10 cmp_Compare_int_b14
abbrev cmp_Compare_int_r16 : List LO := [⟨some 4, Op.assign (Operand.const (Value.int IntKind.i64 (-1))), 3, none⟩]
abbrev cmp_Compare_int_b17 : LC := .reg false cmp_Compare_int_r16
abbrev cmp_Compare_int_b18 : LC := .seq cmp_Compare_int_b17 .ret
abbrev cmp_Compare_int_b19 : LC := .seq cmp_Compare_int_b15 cmp_Compare_int_b18
abbrev cmp_Compare_int_b20 : LC := .cond (Operand.tmp 11) cmp_Compare_int_b19 .skip
abbrev cmp_Compare_int_b21 : LC := .seq cmp_Compare_int_b8 cmp_Compare_int_b20
abbrev cmp_Compare_int_r22 : List LO := [⟨some 13, Op.move (Operand.tmp 6), 4, none⟩]
abbrev cmp_Compare_int_b23 : LC := .reg false cmp_Compare_int_r22
abbrev cmp_Compare_int_r24 : List LO := [⟨some 4, Op.assign (Operand.const (Value.int IntKind.i64 1)), 3, none⟩]
abbrev cmp_Compare_int_b25 : LC := .reg false cmp_Compare_int_r24
abbrev cmp_Compare_int_b26 : LC := .seq cmp_Compare_int_b25 .ret
abbrev cmp_Compare_int_b27 : LC := .cond (Operand.tmp 13) cmp_Compare_int_b26 .skip
abbrev cmp_Compare_int_b28 : LC := .seq cmp_Compare_int_b23 cmp_Compare_int_b27
abbrev cmp_Compare_int_r29 : List LO := [⟨some 14, Op.move (Operand.tmp 0), 3, none⟩,
  ⟨some 15, Op.move (Operand.tmp 1), 3, none⟩,
  ⟨some 16, Op.binOp BinOp.lss 3 (Operand.tmp 14) (Operand.tmp 15) 3, 4, none⟩]
abbrev cmp_Compare_int_b30 : LC := .reg false cmp_Compare_int_r29
abbrev cmp_Compare_int_r31 : List LO := [⟨some 4, Op.assign (Operand.const (Value.int IntKind.i64 (-1))), 3, none⟩]
abbrev cmp_Compare_int_b32 : LC := .reg false cmp_Compare_int_r31
abbrev cmp_Compare_int_b33 : LC := .seq cmp_Compare_int_b32 .ret
abbrev cmp_Compare_int_b34 : LC := .cond (Operand.tmp 16) cmp_Compare_int_b33 .skip
abbrev cmp_Compare_int_b35 : LC := .seq cmp_Compare_int_b30 cmp_Compare_int_b34
abbrev cmp_Compare_int_r36 : List LO := [⟨some 17, Op.move (Operand.tmp 0), 3, none⟩,
  ⟨some 18, Op.move (Operand.tmp 1), 3, none⟩,
  ⟨some 19, Op.binOp BinOp.gtr 3 (Operand.tmp 17) (Operand.tmp 18) 3, 4, none⟩]
abbrev cmp_Compare_int_b37 : LC := .reg false cmp_Compare_int_r36
abbrev cmp_Compare_int_r38 : List LO := [⟨some 4, Op.assign (Operand.const (Value.int IntKind.i64 1)), 3, none⟩]
abbrev cmp_Compare_int_b39 : LC := .reg false cmp_Compare_int_r38
abbrev cmp_Compare_int_b40 : LC := .seq cmp_Compare_int_b39 .ret
abbrev cmp_Compare_int_b41 : LC := .cond (Operand.tmp 19) cmp_Compare_int_b40 .skip
abbrev cmp_Compare_int_b42 : LC := .seq cmp_Compare_int_b37 cmp_Compare_int_b41
abbrev cmp_Compare_int_r43 : List LO := [⟨some 4, Op.assign (Operand.const (Value.int IntKind.i64 0)), 3, none⟩]
abbrev cmp_Compare_int_b44 : LC := .reg false cmp_Compare_int_r43
abbrev cmp_Compare_int_b45 : LC := .seq cmp_Compare_int_b44 .ret
abbrev cmp_Compare_int_b46 : LC := .seq cmp_Compare_int_b42 cmp_Compare_int_b45
abbrev cmp_Compare_int_b47 : LC := .seq cmp_Compare_int_b35 cmp_Compare_int_b46
abbrev cmp_Compare_int_b48 : LC := .seq cmp_Compare_int_b28 cmp_Compare_int_b47
abbrev cmp_Compare_int_b49 : LC := .seq cmp_Compare_int_b21 cmp_Compare_int_b48
abbrev cmp_Compare_int_b50 : LC := .seq cmp_Compare_int_b6 cmp_Compare_int_b49
abbrev cmp_Compare_int_b51 : LC := .seq cmp_Compare_int_b4 cmp_Compare_int_b50
abbrev cmp_Compare_int_b52 : LC := .seq cmp_Compare_int_b2 cmp_Compare_int_b51
theorem cmp_Compare_int_k : FnOk E 65 20 [.tmp 4] cmp_Compare_int_b52 := ⟨⟨Go.Proofs.Tryd.f65, by kernel_rfl, by kernel_rfl, by kernel_rfl, by kernel_rfl, by kernel_rfl⟩, rfl⟩
noncomputable def cmp_Compare_int (a0 : Int) (a1 : Int) : Option (Int) := Option.bind (cmp_isNaN_int a0) (fun x1 => Option.bind (cmp_isNaN_int a1) (fun x2 => (if x1 = true then (if x2 = true then some 0 else some (-1)) else (if x2 = true then some 1 else (if (decide (a0 < a1)) = true then some (-1) else (if (decide (a0 > a1)) = true then some 1 else some 0))))))
theorem cmp_Compare_int_ok (a0 : Int) (a1 : Int) : Ct E 65 [iv a0, iv a1] (cmp_Compare_int a0 a1) (fun r : Int => iv r) := ct_intro (N := 20) (L := cmp_Compare_int_b52) cmp_Compare_int_k rfl (Nat.le_of_ble_eq_true rfl) (by kernel_rfl) (by
  unfold cmp_Compare_int
  refine jc_seq ?_
  refine jc_reg ?_
  refine jr_seg 0 1 [0, 1] [] (st1 := ⟨[(0, .av (iv a0)), (1, .av (iv a1))], [], 0⟩) (by kernel_rfl) ?_
  refine jr_nil rfl ?_
  refine jx_seqN ?_
  refine jc_seq ?_
  refine jc_reg ?_
  refine jr_seg 0 1 [0, 1, 7] [] (st1 := ⟨[(0, .av (iv a0)), (1, .av (iv a1)), (7, .av (iv a0))], [], 0⟩) (by kernel_rfl) ?_
  refine jr_callF (i := 1) rfl rfl rfl rfl (vs := [iv a0]) (by kernel_rfl) (snapL_cons rfl (snapL_nil _)) (all2_cons (fle_refl _) all2_nil) (cmp_isNaN_int_ok a0) (fun _ => rfl) (fun _ => rfl) ?_
  intro x1 h1
  refine jr_seg 2 1 [0, 1, 5] [] (st1 := ⟨[(0, .av (iv a0)), (1, .av (iv a1)), (5, .av (bv x1))], [], 0⟩) (by kernel_rfl) ?_
  refine jr_nil rfl ?_
  refine jx_seqN ?_
  refine jc_seq ?_
  refine jc_reg ?_
  refine jr_seg 0 1 [0, 1, 5, 9] [] (st1 := ⟨[(0, .av (iv a0)), (1, .av (iv a1)), (5, .av (bv x1)), (9, .av (iv a1))], [], 0⟩) (by kernel_rfl) ?_
  refine jr_callF (i := 1) rfl rfl rfl rfl (vs := [iv a1]) (by kernel_rfl) (snapL_cons rfl (snapL_nil _)) (all2_cons (fle_refl _) all2_nil) (cmp_isNaN_int_ok a1) (fun _ => rfl) (fun _ => rfl) ?_
  intro x2 h2
  refine jr_seg 2 1 [0, 1, 5, 6] [] (st1 := ⟨[(0, .av (iv a0)), (1, .av (iv a1)), (5, .av (bv x1)), (6, .av (bv x2))], [], 0⟩) (by kernel_rfl) ?_
  refine jr_nil rfl ?_
  refine jx_seqN ?_
  refine jc_seq ?_
  refine jc_seq ?_
  refine jc_reg ?_
  refine jr_seg 0 1 [0, 1, 6, 11] [] (st1 := ⟨[(0, .av (iv a0)), (1, .av (iv a1)), (6, .av (bv x2)), (11, .av (bv x1))], [], 0⟩) (by kernel_rfl) ?_
  refine jr_nil rfl ?_
  refine jx_seqN ?_
  refine jc_cond (g := 11) (c := x1) (by kernel_rfl) ?_ ?_
  · intro _
    refine jc_seq ?_
    refine jc_seq ?_
    refine jc_reg ?_
    refine jr_seg 0 1 [12] [] (st1 := ⟨[(12, .av (bv x2))], [], 0⟩) (by kernel_rfl) ?_
    refine jr_nil rfl ?_
    refine jx_seqN ?_
    refine jc_cond (g := 12) (c := x2) (by kernel_rfl) ?_ ?_
    · intro _
      refine jc_seq ?_
      refine jc_reg ?_
      refine jr_seg 0 1 [4] [] (st1 := ⟨[(4, .av (iv 0))], [], 0⟩) (by kernel_rfl) ?_
      refine jr_nil rfl ?_
      refine jx_seqN ?_
      refine jc_ret ?_
      refine jx_seqR ?_
      refine jx_seqR ?_
      exact jx_retF (.inr rfl) (v := iv 0) (by kernel_rfl) rfl (fle_refl _)
    · intro _
      refine jc_skip ?_
      refine jx_seqN ?_
      refine jc_seq ?_
      refine jc_reg ?_
      refine jr_seg 0 1 [4] [] (st1 := ⟨[(4, .av (iv (-1)))], [], 0⟩) (by kernel_rfl) ?_
      refine jr_nil rfl ?_
      refine jx_seqN ?_
      refine jc_ret ?_
      refine jx_seqR ?_
      exact jx_retF (.inr rfl) (v := iv (-1)) (by kernel_rfl) rfl (fle_refl _)
  · intro _
    refine jc_skip ?_
    refine jx_seqN ?_
    refine jc_seq ?_
    refine jc_seq ?_
    refine jc_reg ?_
    refine jr_seg 0 1 [0, 1, 13] [] (st1 := ⟨[(0, .av (iv a0)), (1, .av (iv a1)), (13, .av (bv x2))], [], 0⟩) (by kernel_rfl) ?_
    refine jr_nil rfl ?_
    refine jx_seqN ?_
    refine jc_cond (g := 13) (c := x2) (by kernel_rfl) ?_ ?_
    · intro _
      refine jc_seq ?_
      refine jc_reg ?_
      refine jr_seg 0 1 [4] [] (st1 := ⟨[(4, .av (iv 1))], [], 0⟩) (by kernel_rfl) ?_
      refine jr_nil rfl ?_
      refine jx_seqN ?_
      refine jc_ret ?_
      refine jx_seqR ?_
      exact jx_retF (.inr rfl) (v := iv 1) (by kernel_rfl) rfl (fle_refl _)
    · intro _
      refine jc_skip ?_
      refine jx_seqN ?_
      refine jc_seq ?_
      refine jc_seq ?_
      refine jc_reg ?_
      refine jr_seg 0 3 [0, 1, 16] [] (st1 := ⟨[(0, .av (iv a0)), (1, .av (iv a1)), (16, .av (bv (decide (a0 < a1))))], [], 0⟩) (by kernel_rfl) ?_
      refine jr_nil rfl ?_
      refine jx_seqN ?_
      refine jc_cond (g := 16) (c := (decide (a0 < a1))) (by kernel_rfl) ?_ ?_
      · intro _
        refine jc_seq ?_
        refine jc_reg ?_
        refine jr_seg 0 1 [4] [] (st1 := ⟨[(4, .av (iv (-1)))], [], 0⟩) (by kernel_rfl) ?_
        refine jr_nil rfl ?_
        refine jx_seqN ?_
        refine jc_ret ?_
        refine jx_seqR ?_
        exact jx_retF (.inr rfl) (v := iv (-1)) (by kernel_rfl) rfl (fle_refl _)
      · intro _
        refine jc_skip ?_
        refine jx_seqN ?_
        refine jc_seq ?_
        refine jc_seq ?_
        refine jc_reg ?_
        refine jr_seg 0 3 [19] [] (st1 := ⟨[(19, .av (bv (decide (a0 > a1))))], [], 0⟩) (by kernel_rfl) ?_
        refine jr_nil rfl ?_
        refine jx_seqN ?_
        refine jc_cond (g := 19) (c := (decide (a0 > a1))) (by kernel_rfl) ?_ ?_
        · intro _
          refine jc_seq ?_
          refine jc_reg ?_
          refine jr_seg 0 1 [4] [] (st1 := ⟨[(4, .av (iv 1))], [], 0⟩) (by kernel_rfl) ?_
          refine jr_nil rfl ?_
          refine jx_seqN ?_
          refine jc_ret ?_
          refine jx_seqR ?_
          exact jx_retF (.inr rfl) (v := iv 1) (by kernel_rfl) rfl (fle_refl _)
        · intro _
          refine jc_skip ?_
          refine jx_seqN ?_
          refine jc_seq ?_
          refine jc_reg ?_
          refine jr_seg 0 1 [4] [] (st1 := ⟨[(4, .av (iv 0))], [], 0⟩) (by kernel_rfl) ?_
          refine jr_nil rfl ?_
          refine jx_seqN ?_
          refine jc_ret ?_
          exact jx_retF (.inr rfl) (v := iv 0) (by kernel_rfl) rfl (fle_refl _))
end Go.Vm

set_option maxRecDepth 100000
set_option maxHeartbeats 0
set_option linter.unusedVariables false
set_option linter.unusedSimpArgs false
namespace Go.Vm
open Go
abbrev strings_Compare_r1 : List LO := [⟨some 4, Op.assign (Operand.const (Value.int IntKind.i64 0)), 3, none⟩]
abbrev strings_Compare_b2 : LC := .reg false strings_Compare_r1
abbrev strings_Compare_r3 : List LO := [⟨some 5, Op.move (Operand.tmp 0), 9, none⟩,
  ⟨some 6, Op.move (Operand.tmp 1), 9, none⟩,
  ⟨some 7, Op.call { callee := Callee.value (Operand.func 109), args := #[Operand.tmp 5, Operand.tmp 6], argTypes := #[9, 9] }, 3, none⟩,
  ⟨some 4, Op.assign (Operand.tmp 7), 3, none⟩]
abbrev strings_Compare_b4 : LC := .reg false strings_Compare_r3
abbrev strings_Compare_b5 : LC := .seq strings_Compare_b4 .ret
abbrev strings_Compare_b6 : LC := .seq strings_Compare_b2 strings_Compare_b5
theorem strings_Compare_k : FnOk E 66 8 [.tmp 4] strings_Compare_b6 := ⟨⟨Go.Proofs.Tryd.f66, by kernel_rfl, by kernel_rfl, by kernel_rfl, by kernel_rfl, by kernel_rfl⟩, rfl⟩
noncomputable def strings_Compare (a0 : Str) (a1 : Str) : Option (Int) := Option.bind (bytealg_CompareString a0 a1) (fun x1 => some x1)
theorem strings_Compare_ok (a0 : Str) (a1 : Str) : Ct E 66 [bs a0, bs a1] (strings_Compare a0 a1) (fun r : Int => iv r) := ct_intro (N := 8) (L := strings_Compare_b6) strings_Compare_k rfl (Nat.le_of_ble_eq_true rfl) (by kernel_rfl) (by
  unfold strings_Compare
  refine jc_seq ?_
  refine jc_reg ?_
  refine jr_seg 0 1 [0, 1] [] (st1 := ⟨[(0, .av (bs a0)), (1, .av (bs a1))], [], 0⟩) (by kernel_rfl) ?_
  refine jr_nil rfl ?_
  refine jx_seqN ?_
  refine jc_seq ?_
  refine jc_reg ?_
  refine jr_seg 0 2 [5, 6] [] (st1 := ⟨[(5, .av (bs a0)), (6, .av (bs a1))], [], 0⟩) (by kernel_rfl) ?_
  refine jr_callPF (i := 2) rfl rfl (vs := [bs a0, bs a1]) (by kernel_rfl) rfl (bytealg_CompareString_ok a0 a1) (fun _ => rfl) ?_
  intro x1 h1
  refine jr_seg 3 1 [4] [] (st1 := ⟨[(4, .av (iv x1))], [], 0⟩) (by kernel_rfl) ?_
  refine jr_nil rfl ?_
  refine jx_seqN ?_
  refine jc_ret ?_
  exact jx_retF (.inr rfl) (v := iv x1) (by kernel_rfl) rfl (fle_refl _))
end Go.Vm

set_option maxRecDepth 100000
set_option maxHeartbeats 0
set_option linter.unusedVariables false
set_option linter.unusedSimpArgs false
namespace Go.Vm
open Go
abbrev scan_Cmp_r1 : List LO := [⟨some 4, Op.assign (Operand.const (Value.int IntKind.i64 0)), 3, none⟩]
abbrev scan_Cmp_b2 : LC := .reg false scan_Cmp_r1
abbrev scan_Cmp_r3 : List LO := [⟨some 5, Op.move (Operand.tmp 0), 9, none⟩,
  ⟨some 6, Op.call { callee := Callee.value (Operand.func 15), args := #[Operand.tmp 5], argTypes := #[9] }, 9, none⟩,
  ⟨some 7, Op.move (Operand.tmp 1), 9, none⟩,
  ⟨some 8, Op.call { callee := Callee.value (Operand.func 15), args := #[Operand.tmp 7], argTypes := #[9] }, 9, none⟩,
  ⟨some 0, Op.assign (Operand.tmp 6), 9, none⟩,
  ⟨some 1, Op.assign (Operand.tmp 8), 9, none⟩]
abbrev scan_Cmp_b4 : LC := .reg false scan_Cmp_r3
abbrev scan_Cmp_r5 : List LO := [⟨some 9, Op.move (Operand.tmp 0), 9, none⟩,
  ⟨some 10, Op.call { callee := Callee.builtin Builtin.len, args := #[Operand.tmp 9], argTypes := #[9] }, 3, none⟩,
  ⟨some 11, Op.move (Operand.tmp 1), 9, none⟩,
  ⟨some 12, Op.call { callee := Callee.builtin Builtin.len, args := #[Operand.tmp 11], argTypes := #[9] }, 3, none⟩,
  ⟨some 13, Op.call { callee := Callee.value (Operand.func 65), args := #[Operand.tmp 10, Operand.tmp 12], argTypes := #[3, 3] }, 3, none⟩,
  ⟨some 14, Op.move (Operand.tmp 0), 9, none⟩,
  ⟨some 15, Op.move (Operand.tmp 1), 9, none⟩,
  ⟨some 16, Op.call { callee := Callee.value (Operand.func 66), args := #[Operand.tmp 14, Operand.tmp 15], argTypes := #[9, 9] }, 3, none⟩,
  ⟨some 17, Op.buildSlice 129 2 #[(0, Operand.tmp 13), (1, Operand.tmp 16)], 129, none⟩,
  ⟨some 18, Op.call { callee := Callee.value (Operand.func 64), args := #[Operand.tmp 17], argTypes := #[129] }, 3, none⟩,
  ⟨some 4, Op.assign (Operand.tmp 18), 3, none⟩]
abbrev scan_Cmp_b6 : LC := .reg false scan_Cmp_r5
abbrev scan_Cmp_b7 : LC := .seq scan_Cmp_b6 .ret
abbrev scan_Cmp_b8 : LC := .seq scan_Cmp_b4 scan_Cmp_b7
abbrev scan_Cmp_b9 : LC := .seq scan_Cmp_b2 scan_Cmp_b8
theorem scan_Cmp_k : FnOk E 17 19 [.tmp 4] scan_Cmp_b9 := ⟨⟨Go.Proofs.Tryd.f17, by kernel_rfl, by kernel_rfl, by kernel_rfl, by kernel_rfl, by kernel_rfl⟩, rfl⟩
noncomputable def scan_Cmp (a0 : Str) (a1 : Str) : Option (Int) := Option.bind (scan_Trim a0) (fun x1 => Option.bind (scan_Trim a1) (fun x2 => Option.bind (cmp_Compare_int (List.length x1 : Int) (List.length x2 : Int)) (fun x3 => Option.bind (strings_Compare x1 x2) (fun x4 => Option.bind (cmp_Or_int [x3, x4]) (fun x5 => some x5)))))
theorem scan_Cmp_ok (a0 : Str) (a1 : Str) : Ct E 17 [bs a0, bs a1] (scan_Cmp a0 a1) (fun r : Int => iv r) := ct_intro (N := 19) (L := scan_Cmp_b9) scan_Cmp_k rfl (Nat.le_of_ble_eq_true rfl) (by kernel_rfl) (by
  unfold scan_Cmp
  refine jc_seq ?_
  refine jc_reg ?_
  refine jr_seg 0 1 [0, 1] [] (st1 := ⟨[(0, .av (bs a0)), (1, .av (bs a1))], [], 0⟩) (by kernel_rfl) ?_
  refine jr_nil rfl ?_
  refine jx_seqN ?_
  refine jc_seq ?_
  refine jc_reg ?_
  refine jr_seg 0 1 [1, 5] [] (st1 := ⟨[(1, .av (bs a1)), (5, .av (bs a0))], [], 0⟩) (by kernel_rfl) ?_
  refine jr_callF (i := 1) rfl rfl rfl rfl (vs := [bs a0]) (by kernel_rfl) (snapL_cons rfl (snapL_nil _)) (all2_cons (fle_refl _) all2_nil) (scan_Trim_ok a0) (fun _ => rfl) (fun _ => rfl) ?_
  intro x1 h1
  refine jr_seg 2 1 [6, 7] [] (st1 := ⟨[(6, .av (bs x1)), (7, .av (bs a1))], [], 0⟩) (by kernel_rfl) ?_
  refine jr_callF (i := 3) rfl rfl rfl rfl (vs := [bs a1]) (by kernel_rfl) (snapL_cons rfl (snapL_nil _)) (all2_cons (fle_refl _) all2_nil) (scan_Trim_ok a1) (fun _ => rfl) (fun _ => rfl) ?_
  intro x2 h2
  refine jr_seg 4 2 [0, 1] [] (st1 := ⟨[(0, .av (bs x1)), (1, .av (bs x2))], [], 0⟩) (by kernel_rfl) ?_
  refine jr_nil rfl ?_
  refine jx_seqN ?_
  refine jc_seq ?_
  refine jc_reg ?_
  refine jr_seg 0 4 [0, 1, 10, 12] [] (st1 := ⟨[(0, .av (bs x1)), (1, .av (bs x2)), (10, .av (iv (List.length x1 : Int))), (12, .av (iv (List.length x2 : Int)))], [], 0⟩) (by kernel_rfl) ?_
  refine jr_callF (i := 4) rfl rfl rfl rfl (vs := [iv (List.length x1 : Int), iv (List.length x2 : Int)]) (by kernel_rfl) (snapL_cons rfl (snapL_cons rfl (snapL_nil _))) (all2_cons (fle_refl _) (all2_cons (fle_refl _) all2_nil)) (cmp_Compare_int_ok (List.length x1 : Int) (List.length x2 : Int)) (fun _ => rfl) (fun _ => rfl) ?_
  intro x3 h3
  refine jr_seg 5 2 [13, 14, 15] [] (st1 := ⟨[(13, .av (iv x3)), (14, .av (bs x1)), (15, .av (bs x2))], [], 0⟩) (by kernel_rfl) ?_
  refine jr_callF (i := 7) rfl rfl rfl rfl (vs := [bs x1, bs x2]) (by kernel_rfl) (snapL_cons rfl (snapL_cons rfl (snapL_nil _))) (all2_cons (fle_refl _) (all2_cons (fle_refl _) all2_nil)) (strings_Compare_ok x1 x2) (fun _ => rfl) (fun _ => rfl) ?_
  intro x4 h4
  refine jr_seg 8 1 [17] [0] (st1 := ⟨[(17, .av (.osl 0 0 (List.length [x3, x4]) 1))], [(0, .rows 1 (List.map cI [x3, x4]))], 1⟩) (by kernel_rfl) ?_
  refine jr_callF (i := 9) rfl rfl rfl rfl (vs := [.osl 0 0 (List.length [x3, x4]) 1]) (by kernel_rfl) (snapL_cons (snapc_own fz_I (by kernel_rfl)) (snapL_nil _)) (all2_cons (fle_refl _) all2_nil) (cmp_Or_int_ok [x3, x4]) (fun _ => rfl) (fun _ => rfl) ?_
  intro x5 h5
  refine jr_seg 10 1 [4] [] (st1 := ⟨[(4, .av (iv x5))], [], 1⟩) (by kernel_rfl) ?_
  refine jr_nil rfl ?_
  refine jx_seqN ?_
  refine jc_ret ?_
  exact jx_retF (.inr rfl) (v := iv x5) (by kernel_rfl) rfl (fle_refl _))
end Go.Vm

set_option maxRecDepth 100000
set_option maxHeartbeats 0
set_option linter.unusedVariables false
set_option linter.unusedSimpArgs false
namespace Go.Vm
open Go
abbrev scan_Is_r1 : List LO := [⟨some 4, Op.assign (Operand.const (Value.bool false)), 4, none⟩]
abbrev scan_Is_b2 : LC := .reg false scan_Is_r1
abbrev scan_Is_r3 : List LO := [⟨some 9, Op.move (Operand.tmp 0), 5, none⟩,
  ⟨some 10, Op.binOp BinOp.geq 5 (Operand.tmp 9) (Operand.const (Value.int IntKind.u8 48)) 5, 4, none⟩,
  ⟨some 11, Op.move (Operand.tmp 10), 4, none⟩,
  ⟨some 12, Op.move (Operand.tmp 0), 5, (some (11, true))⟩,
  ⟨some 13, Op.binOp BinOp.leq 5 (Operand.tmp 12) (Operand.const (Value.int IntKind.u8 57)) 5, 4, (some (11, true))⟩,
  ⟨some 14, Op.pick (Operand.tmp 11) (Operand.tmp 13) (Operand.const (Value.bool false)), 4, none⟩,
  ⟨some 15, Op.move (Operand.tmp 0), 5, none⟩,
  ⟨some 16, Op.binOp BinOp.geq 5 (Operand.tmp 15) (Operand.const (Value.int IntKind.u8 97)) 5, 4, none⟩,
  ⟨some 17, Op.move (Operand.tmp 16), 4, none⟩,
  ⟨some 18, Op.move (Operand.tmp 0), 5, (some (17, true))⟩,
  ⟨some 19, Op.binOp BinOp.leq 5 (Operand.tmp 18) (Operand.const (Value.int IntKind.u8 122)) 5, 4, (some (17, true))⟩,
  ⟨some 20, Op.pick (Operand.tmp 17) (Operand.tmp 19) (Operand.const (Value.bool false)), 4, none⟩,
  ⟨some 21, Op.move (Operand.tmp 0), 5, none⟩,
  ⟨some 22, Op.binOp BinOp.geq 5 (Operand.tmp 21) (Operand.const (Value.int IntKind.u8 65)) 5, 4, none⟩,
  ⟨some 23, Op.move (Operand.tmp 22), 4, none⟩,
  ⟨some 24, Op.move (Operand.tmp 0), 5, (some (23, true))⟩,
  ⟨some 25, Op.binOp BinOp.leq 5 (Operand.tmp 24) (Operand.const (Value.int IntKind.u8 90)) 5, 4, (some (23, true))⟩,
  ⟨some 26, Op.pick (Operand.tmp 23) (Operand.tmp 25) (Operand.const (Value.bool false)), 4, none⟩,
  ⟨some 5, Op.assign (Operand.tmp 14), 4, none⟩,
  ⟨some 6, Op.assign (Operand.tmp 20), 4, none⟩,
  ⟨some 7, Op.assign (Operand.tmp 26), 4, none⟩]
abbrev scan_Is_b4 : LC := .reg false scan_Is_r3
abbrev scan_Is_r5 : List LO := [⟨some 27, Op.move (Operand.tmp 0), 5, none⟩,
  ⟨some 28, Op.binOp BinOp.eql 5 (Operand.tmp 27) (Operand.const (Value.int IntKind.u8 32)) 5, 4, none⟩,
  ⟨some 29, Op.move (Operand.tmp 28), 4, none⟩,
  ⟨some 30, Op.move (Operand.tmp 0), 5, (some (29, false))⟩,
  ⟨some 31, Op.binOp BinOp.eql 5 (Operand.tmp 30) (Operand.const (Value.int IntKind.u8 9)) 5, 4, (some (29, false))⟩,
  ⟨some 32, Op.pick (Operand.tmp 29) (Operand.const (Value.bool true)) (Operand.tmp 31), 4, none⟩,
  ⟨some 8, Op.assign (Operand.tmp 32), 4, none⟩]
abbrev scan_Is_b6 : LC := .reg false scan_Is_r5
abbrev scan_Is_r7 : List LO := [⟨some 33, Op.move (Operand.tmp 1), 3, none⟩]
abbrev scan_Is_b8 : LC := .reg false scan_Is_r7
abbrev scan_Is_r9 : List LO := [⟨some 35, Op.binOp BinOp.eql 3 (Operand.tmp 33) (Operand.const (Value.int IntKind.i64 1)) 3, 4, none⟩,
  ⟨some 34, Op.assign (Operand.tmp 35), 4, none⟩]
abbrev scan_Is_b10 : LC := .reg false scan_Is_r9
abbrev scan_Is_r11 : List LO := [⟨some 36, Op.move (Operand.tmp 5), 4, none⟩,
  ⟨some 4, Op.assign (Operand.tmp 36), 4, none⟩]
abbrev scan_Is_b12 : LC := .reg false scan_Is_r11
abbrev scan_Is_b13 : LC := .seq scan_Is_b12 .ret
abbrev scan_Is_r14 : List LO := [⟨some 38, Op.binOp BinOp.eql 3 (Operand.tmp 33) (Operand.const (Value.int IntKind.i64 2)) 3, 4, none⟩,
  ⟨some 37, Op.assign (Operand.tmp 38), 4, none⟩]
abbrev scan_Is_b15 : LC := .reg false scan_Is_r14
abbrev scan_Is_r16 : List LO := [⟨some 39, Op.move (Operand.tmp 6), 4, none⟩,
  ⟨some 4, Op.assign (Operand.tmp 39), 4, none⟩]
abbrev scan_Is_b17 : LC := .reg false scan_Is_r16
abbrev scan_Is_b18 : LC := .seq scan_Is_b17 .ret
abbrev scan_Is_r19 : List LO := [⟨some 41, Op.binOp BinOp.eql 3 (Operand.tmp 33) (Operand.const (Value.int IntKind.i64 3)) 3, 4, none⟩,
  ⟨some 40, Op.assign (Operand.tmp 41), 4, none⟩]
abbrev scan_Is_b20 : LC := .reg false scan_Is_r19
abbrev scan_Is_r21 : List LO := [⟨some 42, Op.move (Operand.tmp 7), 4, none⟩,
  ⟨some 4, Op.assign (Operand.tmp 42), 4, none⟩]
abbrev scan_Is_b22 : LC := .reg false scan_Is_r21
abbrev scan_Is_b23 : LC := .seq scan_Is_b22 .ret
abbrev scan_Is_r24 : List LO := [⟨some 44, Op.binOp BinOp.eql 3 (Operand.tmp 33) (Operand.const (Value.int IntKind.i64 4)) 3, 4, none⟩,
  ⟨some 43, Op.assign (Operand.tmp 44), 4, none⟩]
abbrev scan_Is_b25 : LC := .reg false scan_Is_r24
abbrev scan_Is_r26 : List LO := [⟨some 45, Op.move (Operand.tmp 6), 4, none⟩,
  ⟨some 46, Op.move (Operand.tmp 45), 4, none⟩,
  ⟨some 47, Op.move (Operand.tmp 7), 4, (some (46, false))⟩,
  ⟨some 48, Op.pick (Operand.tmp 46) (Operand.const (Value.bool true)) (Operand.tmp 47), 4, none⟩,
  ⟨some 4, Op.assign (Operand.tmp 48), 4, none⟩]
abbrev scan_Is_b27 : LC := .reg false scan_Is_r26
abbrev scan_Is_b28 : LC := .seq scan_Is_b27 .ret
abbrev scan_Is_r29 : List LO := [⟨some 50, Op.binOp BinOp.eql 3 (Operand.tmp 33) (Operand.const (Value.int IntKind.i64 5)) 3, 4, none⟩,
  ⟨some 49, Op.assign (Operand.tmp 50), 4, none⟩]
abbrev scan_Is_b30 : LC := .reg false scan_Is_r29
abbrev scan_Is_r31 : List LO := [⟨some 51, Op.move (Operand.tmp 5), 4, none⟩,
  ⟨some 52, Op.move (Operand.tmp 51), 4, none⟩,
  ⟨some 53, Op.move (Operand.tmp 6), 4, (some (52, false))⟩,
  ⟨some 54, Op.pick (Operand.tmp 52) (Operand.const (Value.bool true)) (Operand.tmp 53), 4, none⟩,
  ⟨some 55, Op.move (Operand.tmp 54), 4, none⟩,
  ⟨some 56, Op.move (Operand.tmp 7), 4, (some (55, false))⟩,
  ⟨some 57, Op.pick (Operand.tmp 55) (Operand.const (Value.bool true)) (Operand.tmp 56), 4, none⟩,
  ⟨some 4, Op.assign (Operand.tmp 57), 4, none⟩]
abbrev scan_Is_b32 : LC := .reg false scan_Is_r31
abbrev scan_Is_b33 : LC := .seq scan_Is_b32 .ret
abbrev scan_Is_r34 : List LO := [⟨some 59, Op.binOp BinOp.eql 3 (Operand.tmp 33) (Operand.const (Value.int IntKind.i64 6)) 3, 4, none⟩,
  ⟨some 58, Op.assign (Operand.tmp 59), 4, none⟩]
abbrev scan_Is_b35 : LC := .reg false scan_Is_r34
abbrev scan_Is_r36 : List LO := [⟨some 60, Op.move (Operand.tmp 8), 4, none⟩,
  ⟨some 4, Op.assign (Operand.tmp 60), 4, none⟩]
abbrev scan_Is_b37 : LC := .reg false scan_Is_r36
abbrev scan_Is_b38 : LC := .seq scan_Is_b37 .ret
abbrev scan_Is_r39 : List LO := [⟨some 62, Op.binOp BinOp.eql 3 (Operand.tmp 33) (Operand.const (Value.int IntKind.i64 7)) 3, 4, none⟩,
  ⟨some 61, Op.assign (Operand.tmp 62), 4, none⟩]
abbrev scan_Is_b40 : LC := .reg false scan_Is_r39
abbrev scan_Is_r41 : List LO := [⟨some 63, Op.move (Operand.tmp 8), 4, none⟩,
  ⟨some 64, Op.move (Operand.tmp 63), 4, none⟩,
  ⟨some 65, Op.move (Operand.tmp 0), 5, (some (64, false))⟩,
  ⟨some 66, Op.binOp BinOp.eql 5 (Operand.tmp 65) (Operand.const (Value.int IntKind.u8 10)) 5, 4, (some (64, false))⟩,
  ⟨some 67, Op.pick (Operand.tmp 64) (Operand.const (Value.bool true)) (Operand.tmp 66), 4, none⟩,
  ⟨some 68, Op.move (Operand.tmp 67), 4, none⟩,
  ⟨some 69, Op.move (Operand.tmp 0), 5, (some (68, false))⟩,
  ⟨some 70, Op.binOp BinOp.eql 5 (Operand.tmp 69) (Operand.const (Value.int IntKind.u8 13)) 5, 4, (some (68, false))⟩,
  ⟨some 71, Op.pick (Operand.tmp 68) (Operand.const (Value.bool true)) (Operand.tmp 70), 4, none⟩,
  ⟨some 4, Op.assign (Operand.tmp 71), 4, none⟩]
abbrev scan_Is_b42 : LC := .reg false scan_Is_r41
abbrev scan_Is_b43 : LC := .seq scan_Is_b42 .ret
abbrev scan_Is_b44 : LC := .cond (Operand.tmp 61) scan_Is_b43 .skip
abbrev scan_Is_b45 : LC := .seq scan_Is_b40 scan_Is_b44
abbrev scan_Is_b46 : LC := .cond (Operand.tmp 58) scan_Is_b38 scan_Is_b45
abbrev scan_Is_b47 : LC := .seq scan_Is_b35 scan_Is_b46
abbrev scan_Is_b48 : LC := .cond (Operand.tmp 49) scan_Is_b33 scan_Is_b47
abbrev scan_Is_b49 : LC := .seq scan_Is_b30 scan_Is_b48
abbrev scan_Is_b50 : LC := .cond (Operand.tmp 43) scan_Is_b28 scan_Is_b49
abbrev scan_Is_b51 : LC := .seq scan_Is_b25 scan_Is_b50
abbrev scan_Is_b52 : LC := .cond (Operand.tmp 40) scan_Is_b23 scan_Is_b51
abbrev scan_Is_b53 : LC := .seq scan_Is_b20 scan_Is_b52
abbrev scan_Is_b54 : LC := .cond (Operand.tmp 37) scan_Is_b18 scan_Is_b53
abbrev scan_Is_b55 : LC := .seq scan_Is_b15 scan_Is_b54
abbrev scan_Is_b56 : LC := .cond (Operand.tmp 34) scan_Is_b13 scan_Is_b55
abbrev scan_Is_b57 : LC := .seq scan_Is_b10 scan_Is_b56
abbrev scan_Is_b58 : LC := .block 0 scan_Is_b57
abbrev scan_Is_b59 : LC := .seq scan_Is_b8 scan_Is_b58
abbrev scan_Is_r60 : List LO := [⟨some 4, Op.assign (Operand.const (Value.bool false)), 4, none⟩]
abbrev scan_Is_b61 : LC := .reg false scan_Is_r60
abbrev scan_Is_b62 : LC := .seq scan_Is_b61 .ret
abbrev scan_Is_b63 : LC := .seq scan_Is_b59 scan_Is_b62
abbrev scan_Is_b64 : LC := .seq scan_Is_b6 scan_Is_b63
abbrev scan_Is_b65 : LC := .seq scan_Is_b4 scan_Is_b64
abbrev scan_Is_b66 : LC := .seq scan_Is_b2 scan_Is_b65
theorem scan_Is_k : FnOk E 26 72 [.tmp 4] scan_Is_b66 := ⟨⟨Go.Proofs.Tryd.f26, by kernel_rfl, by kernel_rfl, by kernel_rfl, by kernel_rfl, by kernel_rfl⟩, rfl⟩
noncomputable def scan_Is (a0 : Int) (a1 : Int) : Option (Bool) := (if (a1 == 1) = true then some ((decide (a0 ≥ 48)) && (decide (a0 ≤ 57))) else (if (a1 == 2) = true then some ((decide (a0 ≥ 97)) && (decide (a0 ≤ 122))) else (if (a1 == 3) = true then some ((decide (a0 ≥ 65)) && (decide (a0 ≤ 90))) else (if (a1 == 4) = true then some (((decide (a0 ≥ 97)) && (decide (a0 ≤ 122))) || ((decide (a0 ≥ 65)) && (decide (a0 ≤ 90)))) else (if (a1 == 5) = true then some ((((decide (a0 ≥ 48)) && (decide (a0 ≤ 57))) || ((decide (a0 ≥ 97)) && (decide (a0 ≤ 122)))) || ((decide (a0 ≥ 65)) && (decide (a0 ≤ 90)))) else (if (a1 == 6) = true then some ((a0 == 32) || (a0 == 9)) else (if (a1 == 7) = true then some ((((a0 == 32) || (a0 == 9)) || (a0 == 10)) || (a0 == 13)) else some false)))))))
theorem scan_Is_ok (a0 : Int) (a1 : Int) : Ct E 26 [.s (.int .u8 a0), iv a1] (scan_Is a0 a1) (fun r : Bool => bv r) := ct_intro (N := 72) (L := scan_Is_b66) scan_Is_k rfl (Nat.le_of_ble_eq_true rfl) (by kernel_rfl) (by
  unfold scan_Is
  refine jc_seq ?_
  refine jc_reg ?_
  refine jr_seg 0 1 [0, 1] [] (st1 := ⟨[(0, .av (.s (.int .u8 a0))), (1, .av (iv a1))], [], 0⟩) (by kernel_rfl) ?_
  refine jr_nil rfl ?_
  refine jx_seqN ?_
  refine jc_seq ?_
  refine jc_reg ?_
  refine jr_seg 0 21 [0, 1, 5, 6, 7] [] (st1 := ⟨[(0, .av (.s (.int .u8 a0))), (1, .av (iv a1)), (5, .av (bv ((decide (a0 ≥ 48)) && (decide (a0 ≤ 57))))), (6, .av (bv ((decide (a0 ≥ 97)) && (decide (a0 ≤ 122))))), (7, .av (bv ((decide (a0 ≥ 65)) && (decide (a0 ≤ 90)))))], [], 0⟩) (by kernel_rfl) ?_
  refine jr_nil rfl ?_
  refine jx_seqN ?_
  refine jc_seq ?_
  refine jc_reg ?_
  refine jr_seg 0 7 [0, 1, 5, 6, 7, 8] [] (st1 := ⟨[(0, .av (.s (.int .u8 a0))), (1, .av (iv a1)), (5, .av (bv ((decide (a0 ≥ 48)) && (decide (a0 ≤ 57))))), (6, .av (bv ((decide (a0 ≥ 97)) && (decide (a0 ≤ 122))))), (7, .av (bv ((decide (a0 ≥ 65)) && (decide (a0 ≤ 90))))), (8, .av (bv ((a0 == 32) || (a0 == 9))))], [], 0⟩) (by kernel_rfl) ?_
  refine jr_nil rfl ?_
  refine jx_seqN ?_
  refine jc_seq ?_
  refine jc_seq ?_
  refine jc_reg ?_
  refine jr_seg 0 1 [0, 5, 6, 7, 8, 33] [] (st1 := ⟨[(0, .av (.s (.int .u8 a0))), (5, .av (bv ((decide (a0 ≥ 48)) && (decide (a0 ≤ 57))))), (6, .av (bv ((decide (a0 ≥ 97)) && (decide (a0 ≤ 122))))), (7, .av (bv ((decide (a0 ≥ 65)) && (decide (a0 ≤ 90))))), (8, .av (bv ((a0 == 32) || (a0 == 9)))), (33, .av (iv a1))], [], 0⟩) (by kernel_rfl) ?_
  refine jr_nil rfl ?_
  refine jx_seqN ?_
  refine jc_block ?_
  refine jc_seq ?_
  refine jc_reg ?_
  refine jr_seg 0 2 [0, 5, 6, 7, 8, 33, 34] [] (st1 := ⟨[(0, .av (.s (.int .u8 a0))), (5, .av (bv ((decide (a0 ≥ 48)) && (decide (a0 ≤ 57))))), (6, .av (bv ((decide (a0 ≥ 97)) && (decide (a0 ≤ 122))))), (7, .av (bv ((decide (a0 ≥ 65)) && (decide (a0 ≤ 90))))), (8, .av (bv ((a0 == 32) || (a0 == 9)))), (33, .av (iv a1)), (34, .av (bv (a1 == 1)))], [], 0⟩) (by kernel_rfl) ?_
  refine jr_nil rfl ?_
  refine jx_seqN ?_
  refine jc_cond (g := 34) (c := (a1 == 1)) (by kernel_rfl) ?_ ?_
  · intro _
    refine jc_seq ?_
    refine jc_reg ?_
    refine jr_seg 0 2 [4] [] (st1 := ⟨[(4, .av (bv ((decide (a0 ≥ 48)) && (decide (a0 ≤ 57)))))], [], 0⟩) (by kernel_rfl) ?_
    refine jr_nil rfl ?_
    refine jx_seqN ?_
    refine jc_ret ?_
    refine jx_blkR ?_
    refine jx_seqR ?_
    exact jx_retF (.inr rfl) (v := bv ((decide (a0 ≥ 48)) && (decide (a0 ≤ 57)))) (by kernel_rfl) rfl (fle_refl _)
  · intro _
    refine jc_seq ?_
    refine jc_reg ?_
    refine jr_seg 0 2 [0, 5, 6, 7, 8, 33, 37] [] (st1 := ⟨[(0, .av (.s (.int .u8 a0))), (5, .av (bv ((decide (a0 ≥ 48)) && (decide (a0 ≤ 57))))), (6, .av (bv ((decide (a0 ≥ 97)) && (decide (a0 ≤ 122))))), (7, .av (bv ((decide (a0 ≥ 65)) && (decide (a0 ≤ 90))))), (8, .av (bv ((a0 == 32) || (a0 == 9)))), (33, .av (iv a1)), (37, .av (bv (a1 == 2)))], [], 0⟩) (by kernel_rfl) ?_
    refine jr_nil rfl ?_
    refine jx_seqN ?_
    refine jc_cond (g := 37) (c := (a1 == 2)) (by kernel_rfl) ?_ ?_
    · intro _
      refine jc_seq ?_
      refine jc_reg ?_
      refine jr_seg 0 2 [4] [] (st1 := ⟨[(4, .av (bv ((decide (a0 ≥ 97)) && (decide (a0 ≤ 122)))))], [], 0⟩) (by kernel_rfl) ?_
      refine jr_nil rfl ?_
      refine jx_seqN ?_
      refine jc_ret ?_
      refine jx_blkR ?_
      refine jx_seqR ?_
      exact jx_retF (.inr rfl) (v := bv ((decide (a0 ≥ 97)) && (decide (a0 ≤ 122)))) (by kernel_rfl) rfl (fle_refl _)
    · intro _
      refine jc_seq ?_
      refine jc_reg ?_
      refine jr_seg 0 2 [0, 5, 6, 7, 8, 33, 40] [] (st1 := ⟨[(0, .av (.s (.int .u8 a0))), (5, .av (bv ((decide (a0 ≥ 48)) && (decide (a0 ≤ 57))))), (6, .av (bv ((decide (a0 ≥ 97)) && (decide (a0 ≤ 122))))), (7, .av (bv ((decide (a0 ≥ 65)) && (decide (a0 ≤ 90))))), (8, .av (bv ((a0 == 32) || (a0 == 9)))), (33, .av (iv a1)), (40, .av (bv (a1 == 3)))], [], 0⟩) (by kernel_rfl) ?_
      refine jr_nil rfl ?_
      refine jx_seqN ?_
      refine jc_cond (g := 40) (c := (a1 == 3)) (by kernel_rfl) ?_ ?_
      · intro _
        refine jc_seq ?_
        refine jc_reg ?_
        refine jr_seg 0 2 [4] [] (st1 := ⟨[(4, .av (bv ((decide (a0 ≥ 65)) && (decide (a0 ≤ 90)))))], [], 0⟩) (by kernel_rfl) ?_
        refine jr_nil rfl ?_
        refine jx_seqN ?_
        refine jc_ret ?_
        refine jx_blkR ?_
        refine jx_seqR ?_
        exact jx_retF (.inr rfl) (v := bv ((decide (a0 ≥ 65)) && (decide (a0 ≤ 90)))) (by kernel_rfl) rfl (fle_refl _)
      · intro _
        refine jc_seq ?_
        refine jc_reg ?_
        refine jr_seg 0 2 [0, 5, 6, 7, 8, 33, 43] [] (st1 := ⟨[(0, .av (.s (.int .u8 a0))), (5, .av (bv ((decide (a0 ≥ 48)) && (decide (a0 ≤ 57))))), (6, .av (bv ((decide (a0 ≥ 97)) && (decide (a0 ≤ 122))))), (7, .av (bv ((decide (a0 ≥ 65)) && (decide (a0 ≤ 90))))), (8, .av (bv ((a0 == 32) || (a0 == 9)))), (33, .av (iv a1)), (43, .av (bv (a1 == 4)))], [], 0⟩) (by kernel_rfl) ?_
        refine jr_nil rfl ?_
        refine jx_seqN ?_
        refine jc_cond (g := 43) (c := (a1 == 4)) (by kernel_rfl) ?_ ?_
        · intro _
          refine jc_seq ?_
          refine jc_reg ?_
          refine jr_seg 0 5 [4] [] (st1 := ⟨[(4, .av (bv (((decide (a0 ≥ 97)) && (decide (a0 ≤ 122))) || ((decide (a0 ≥ 65)) && (decide (a0 ≤ 90))))))], [], 0⟩) (by kernel_rfl) ?_
          refine jr_nil rfl ?_
          refine jx_seqN ?_
          refine jc_ret ?_
          refine jx_blkR ?_
          refine jx_seqR ?_
          exact jx_retF (.inr rfl) (v := bv (((decide (a0 ≥ 97)) && (decide (a0 ≤ 122))) || ((decide (a0 ≥ 65)) && (decide (a0 ≤ 90))))) (by kernel_rfl) rfl (fle_refl _)
        · intro _
          refine jc_seq ?_
          refine jc_reg ?_
          refine jr_seg 0 2 [0, 5, 6, 7, 8, 33, 49] [] (st1 := ⟨[(0, .av (.s (.int .u8 a0))), (5, .av (bv ((decide (a0 ≥ 48)) && (decide (a0 ≤ 57))))), (6, .av (bv ((decide (a0 ≥ 97)) && (decide (a0 ≤ 122))))), (7, .av (bv ((decide (a0 ≥ 65)) && (decide (a0 ≤ 90))))), (8, .av (bv ((a0 == 32) || (a0 == 9)))), (33, .av (iv a1)), (49, .av (bv (a1 == 5)))], [], 0⟩) (by kernel_rfl) ?_
          refine jr_nil rfl ?_
          refine jx_seqN ?_
          refine jc_cond (g := 49) (c := (a1 == 5)) (by kernel_rfl) ?_ ?_
          · intro _
            refine jc_seq ?_
            refine jc_reg ?_
            refine jr_seg 0 8 [4] [] (st1 := ⟨[(4, .av (bv ((((decide (a0 ≥ 48)) && (decide (a0 ≤ 57))) || ((decide (a0 ≥ 97)) && (decide (a0 ≤ 122)))) || ((decide (a0 ≥ 65)) && (decide (a0 ≤ 90))))))], [], 0⟩) (by kernel_rfl) ?_
            refine jr_nil rfl ?_
            refine jx_seqN ?_
            refine jc_ret ?_
            refine jx_blkR ?_
            refine jx_seqR ?_
            exact jx_retF (.inr rfl) (v := bv ((((decide (a0 ≥ 48)) && (decide (a0 ≤ 57))) || ((decide (a0 ≥ 97)) && (decide (a0 ≤ 122)))) || ((decide (a0 ≥ 65)) && (decide (a0 ≤ 90))))) (by kernel_rfl) rfl (fle_refl _)
          · intro _
            refine jc_seq ?_
            refine jc_reg ?_
            refine jr_seg 0 2 [0, 8, 33, 58] [] (st1 := ⟨[(0, .av (.s (.int .u8 a0))), (8, .av (bv ((a0 == 32) || (a0 == 9)))), (33, .av (iv a1)), (58, .av (bv (a1 == 6)))], [], 0⟩) (by kernel_rfl) ?_
            refine jr_nil rfl ?_
            refine jx_seqN ?_
            refine jc_cond (g := 58) (c := (a1 == 6)) (by kernel_rfl) ?_ ?_
            · intro _
              refine jc_seq ?_
              refine jc_reg ?_
              refine jr_seg 0 2 [4] [] (st1 := ⟨[(4, .av (bv ((a0 == 32) || (a0 == 9))))], [], 0⟩) (by kernel_rfl) ?_
              refine jr_nil rfl ?_
              refine jx_seqN ?_
              refine jc_ret ?_
              refine jx_blkR ?_
              refine jx_seqR ?_
              exact jx_retF (.inr rfl) (v := bv ((a0 == 32) || (a0 == 9))) (by kernel_rfl) rfl (fle_refl _)
            · intro _
              refine jc_seq ?_
              refine jc_reg ?_
              refine jr_seg 0 2 [0, 8, 61] [] (st1 := ⟨[(0, .av (.s (.int .u8 a0))), (8, .av (bv ((a0 == 32) || (a0 == 9)))), (61, .av (bv (a1 == 7)))], [], 0⟩) (by kernel_rfl) ?_
              refine jr_nil rfl ?_
              refine jx_seqN ?_
              refine jc_cond (g := 61) (c := (a1 == 7)) (by kernel_rfl) ?_ ?_
              · intro _
                refine jc_seq ?_
                refine jc_reg ?_
                refine jr_seg 0 10 [4] [] (st1 := ⟨[(4, .av (bv ((((a0 == 32) || (a0 == 9)) || (a0 == 10)) || (a0 == 13))))], [], 0⟩) (by kernel_rfl) ?_
                refine jr_nil rfl ?_
                refine jx_seqN ?_
                refine jc_ret ?_
                refine jx_blkR ?_
                refine jx_seqR ?_
                exact jx_retF (.inr rfl) (v := bv ((((a0 == 32) || (a0 == 9)) || (a0 == 10)) || (a0 == 13))) (by kernel_rfl) rfl (fle_refl _)
              · intro _
                refine jc_skip ?_
                refine jx_blkN ?_
                refine jx_seqN ?_
                refine jc_seq ?_
                refine jc_reg ?_
                refine jr_seg 0 1 [4] [] (st1 := ⟨[(4, .av (bv false))], [], 0⟩) (by kernel_rfl) ?_
                refine jr_nil rfl ?_
                refine jx_seqN ?_
                refine jc_ret ?_
                exact jx_retF (.inr rfl) (v := bv false) (by kernel_rfl) rfl (fle_refl _))
end Go.Vm

set_option maxRecDepth 100000
set_option maxHeartbeats 0
set_option linter.unusedVariables false
set_option linter.unusedSimpArgs false
namespace Go.Vm
open Go
abbrev scan_Run_r1 : List LO := [⟨some 6, Op.assign (Operand.const (Value.int IntKind.i64 0)), 3, none⟩]
abbrev scan_Run_b2 : LC := .reg false scan_Run_r1
abbrev scan_Run_r3 : List LO := [⟨some 8, Op.move (Operand.tmp 1), 3, none⟩,
  ⟨some 9, Op.binOp BinOp.lss 3 (Operand.tmp 8) (Operand.const (Value.int IntKind.i64 0)) 3, 4, none⟩,
  ⟨some 10, Op.move (Operand.tmp 9), 4, none⟩,
  ⟨some 11, Op.move (Operand.tmp 1), 3, (some (10, false))⟩,
  ⟨some 12, Op.move (Operand.tmp 0), 9, (some (10, false))⟩,
  ⟨some 13, Op.call { callee := Callee.builtin Builtin.len, args := #[Operand.tmp 12], argTypes := #[9] }, 3, (some (10, false))⟩,
  ⟨some 14, Op.binOp BinOp.gtr 3 (Operand.tmp 11) (Operand.tmp 13) 3, 4, (some (10, false))⟩,
  ⟨some 15, Op.pick (Operand.tmp 10) (Operand.const (Value.bool true)) (Operand.tmp 14), 4, none⟩]
abbrev scan_Run_b4 : LC := .reg false scan_Run_r3
abbrev scan_Run_r5 : List LO := [⟨some 16, Op.move (Operand.tmp 1), 3, none⟩,
  ⟨some 6, Op.assign (Operand.tmp 16), 3, none⟩]
abbrev scan_Run_b6 : LC := .reg false scan_Run_r5
abbrev scan_Run_b7 : LC := .seq scan_Run_b6 .ret
abbrev scan_Run_b8 : LC := .cond (Operand.tmp 15) scan_Run_b7 .skip
abbrev scan_Run_b9 : LC := .seq scan_Run_b4 scan_Run_b8
abbrev scan_Run_r10 : List LO := [⟨some 17, Op.move (Operand.tmp 0), 9, none⟩,
  ⟨some 18, Op.call { callee := Callee.builtin Builtin.len, args := #[Operand.tmp 17], argTypes := #[9] }, 3, none⟩,
  ⟨some 19, Op.move (Operand.tmp 1), 3, none⟩,
  ⟨some 20, Op.binOp BinOp.sub 3 (Operand.tmp 18) (Operand.tmp 19) 3, 3, none⟩,
  ⟨some 21, Op.move (Operand.const (Value.int IntKind.i64 0)), 3, none⟩]
abbrev scan_Run_b11 : LC := .reg false scan_Run_r10
abbrev scan_Run_r12 : List LO := [⟨some 22, Op.binOp BinOp.lss 3 (Operand.tmp 21) (Operand.tmp 20) 3, 4, none⟩]
abbrev scan_Run_b13 : LC := .reg false scan_Run_r12
abbrev scan_Run_b14 : LC := .cond (Operand.tmp 22) .skip (.exit 0)
abbrev scan_Run_r15 : List LO := [⟨some 23, Op.move (Operand.tmp 21), 3, none⟩,
  ⟨some 7, Op.assign (Operand.tmp 23), 3, none⟩]
abbrev scan_Run_b16 : LC := .reg false scan_Run_r15
abbrev scan_Run_r17 : List LO := [⟨some 24, Op.move (Operand.tmp 0), 9, none⟩,
  ⟨some 25, Op.move (Operand.tmp 1), 3, none⟩,
  ⟨some 26, Op.move (Operand.tmp 7), 3, none⟩,
  ⟨some 27, Op.binOp BinOp.add 3 (Operand.tmp 25) (Operand.tmp 26) 3, 3, none⟩,
  ⟨some 28, Op.index 9 (Operand.tmp 24) (Operand.tmp 27), 5, none⟩,
  ⟨some 29, Op.move (Operand.tmp 2), 3, none⟩,
  ⟨some 30, Op.call { callee := Callee.value (Operand.func 26), args := #[Operand.tmp 28, Operand.tmp 29], argTypes := #[5, 3] }, 4, none⟩,
  ⟨some 31, Op.unOp UnOp.not 4 (Operand.tmp 30), 4, none⟩]
abbrev scan_Run_b18 : LC := .reg false scan_Run_r17
abbrev scan_Run_r19 : List LO := [⟨some 32, Op.move (Operand.tmp 1), 3, none⟩,
  ⟨some 33, Op.move (Operand.tmp 7), 3, none⟩,
  ⟨some 34, Op.binOp BinOp.add 3 (Operand.tmp 32) (Operand.tmp 33) 3, 3, none⟩,
  ⟨some 6, Op.assign (Operand.tmp 34), 3, none⟩]
abbrev scan_Run_b20 : LC := .reg false scan_Run_r19
abbrev scan_Run_b21 : LC := .seq scan_Run_b20 .ret
abbrev scan_Run_b22 : LC := .cond (Operand.tmp 31) scan_Run_b21 .skip
abbrev scan_Run_b23 : LC := .seq scan_Run_b18 scan_Run_b22
abbrev scan_Run_b24 : LC := .seq scan_Run_b16 scan_Run_b23
abbrev scan_Run_b25 : LC := .block 1 scan_Run_b24
abbrev scan_Run_r26 : List LO := [⟨some 35, Op.binOp BinOp.add 3 (Operand.tmp 21) (Operand.const (Value.int IntKind.i64 1)) 3, 3, none⟩,
  ⟨some 21, Op.move (Operand.tmp 35), 3, none⟩]
abbrev scan_Run_b27 : LC := .reg false scan_Run_r26
abbrev scan_Run_b28 : LC := .seq scan_Run_b25 scan_Run_b27
abbrev scan_Run_b29 : LC := .seq scan_Run_b14 scan_Run_b28
abbrev scan_Run_b30 : LC := .seq scan_Run_b13 scan_Run_b29
abbrev scan_Run_b31 : LC := .loop scan_Run_b30
abbrev scan_Run_b32 : LC := .block 0 scan_Run_b31
abbrev scan_Run_b33 : LC := .seq scan_Run_b11 scan_Run_b32
abbrev scan_Run_r34 : List LO := [⟨some 36, Op.move (Operand.tmp 0), 9, none⟩,
  ⟨some 37, Op.call { callee := Callee.builtin Builtin.len, args := #[Operand.tmp 36], argTypes := #[9] }, 3, none⟩,
  ⟨some 6, Op.assign (Operand.tmp 37), 3, none⟩]
abbrev scan_Run_b35 : LC := .reg false scan_Run_r34
abbrev scan_Run_b36 : LC := .seq scan_Run_b35 .ret
abbrev scan_Run_b37 : LC := .seq scan_Run_b33 scan_Run_b36
abbrev scan_Run_b38 : LC := .seq scan_Run_b9 scan_Run_b37
abbrev scan_Run_b39 : LC := .seq scan_Run_b2 scan_Run_b38
theorem scan_Run_k : FnOk E 30 38 [.tmp 6] scan_Run_b39 := ⟨⟨Go.Proofs.Tryd.f30, by kernel_rfl, by kernel_rfl, by kernel_rfl, by kernel_rfl, by kernel_rfl⟩, rfl⟩
noncomputable def scan_Run_l1 (a0 : Str) (a1 : Int) (a2 : Int) : Int → Option (Step (Int) ((Int) ⊕ (Unit))) := fun x3 => (if (decide (x3 < (w64 ((List.length a0 : Int) - a1)))) = true then Option.bind (idx a0 (w64 (a1 + x3))) (fun x8 => Option.bind (scan_Is x8 a2) (fun x9 => (if (!x9) = true then some (Step.done (Sum.inl (w64 (a1 + x3)))) else some (Step.next (w64 (x3 + 1)))))) else some (Step.done (Sum.inr ())))
noncomputable def scan_Run (a0 : Str) (a1 : Int) (a2 : Int) : Option (Int) := (if ((decide (a1 < 0)) || (decide (a1 > (List.length a0 : Int)))) = true then some a1 else Option.bind (loopC (scan_Run_l1 a0 a1 a2) 0) (fun y => match y with | Sum.inl x7 => some x7 | Sum.inr _ => some (List.length a0 : Int)))
theorem scan_Run_ok (a0 : Str) (a1 : Int) (a2 : Int) : Ct E 30 [bs a0, iv a1, iv a2] (scan_Run a0 a1 a2) (fun r : Int => iv r) := ct_intro (N := 38) (L := scan_Run_b39) scan_Run_k rfl (Nat.le_of_ble_eq_true rfl) (by kernel_rfl) (by
  unfold scan_Run
  refine jc_seq ?_
  refine jc_reg ?_
  refine jr_seg 0 1 [0, 1, 2] [] (st1 := ⟨[(0, .av (bs a0)), (1, .av (iv a1)), (2, .av (iv a2))], [], 0⟩) (by kernel_rfl) ?_
  refine jr_nil rfl ?_
  refine jx_seqN ?_
  refine jc_seq ?_
  refine jc_seq ?_
  refine jc_reg ?_
  refine jr_seg 0 8 [0, 1, 2, 15] [] (st1 := ⟨[(0, .av (bs a0)), (1, .av (iv a1)), (2, .av (iv a2)), (15, .av (bv ((decide (a1 < 0)) || (decide (a1 > (List.length a0 : Int))))))], [], 0⟩) (by kernel_rfl) ?_
  refine jr_nil rfl ?_
  refine jx_seqN ?_
  refine jc_cond (g := 15) (c := ((decide (a1 < 0)) || (decide (a1 > (List.length a0 : Int))))) (by kernel_rfl) ?_ ?_
  · intro _
    refine jc_seq ?_
    refine jc_reg ?_
    refine jr_seg 0 2 [6] [] (st1 := ⟨[(6, .av (iv a1))], [], 0⟩) (by kernel_rfl) ?_
    refine jr_nil rfl ?_
    refine jx_seqN ?_
    refine jc_ret ?_
    refine jx_seqR ?_
    exact jx_retF (.inr rfl) (v := iv a1) (by kernel_rfl) rfl (fle_refl _)
  · intro _
    refine jc_skip ?_
    refine jx_seqN ?_
    refine jc_seq ?_
    refine jc_seq ?_
    refine jc_reg ?_
    refine jr_seg 0 5 [0, 1, 2, 20, 21] [] (st1 := ⟨[(0, .av (bs a0)), (1, .av (iv a1)), (2, .av (iv a2)), (20, .av (iv (w64 ((List.length a0 : Int) - a1)))), (21, .av (iv 0))], [], 0⟩) (by kernel_rfl) ?_
    refine jr_nil rfl ?_
    refine jx_seqN ?_
    refine jc_block ?_
    refine jc_bind (fun y => match y with | Sum.inl x7 => ⟨[(6, .av (iv x7))], [], 0⟩ | Sum.inr _ => ⟨[(0, .av (bs a0))], [], 0⟩) (fun y => match y with | Sum.inl x7 => .ret | Sum.inr _ => (.exit 0)) (jc_loop (fun x3 => ⟨[(0, .av (bs a0)), (1, .av (iv a1)), (2, .av (iv a2)), (20, .av (iv (w64 ((List.length a0 : Int) - a1)))), (21, .av (iv x3))], [], 0⟩) (wk_ren [] (fix_nil _) rfl (by kernel_rfl) allp_nil) ?_) ?_
    · intro x3
      unfold scan_Run_l1
      refine jc_seq ?_
      refine jc_reg ?_
      refine jr_seg 0 1 [0, 1, 2, 20, 21, 22] [] (st1 := ⟨[(0, .av (bs a0)), (1, .av (iv a1)), (2, .av (iv a2)), (20, .av (iv (w64 ((List.length a0 : Int) - a1)))), (21, .av (iv x3)), (22, .av (bv (decide (x3 < (w64 ((List.length a0 : Int) - a1))))))], [], 0⟩) (by kernel_rfl) ?_
      refine jr_nil rfl ?_
      refine jx_seqN ?_
      refine jc_seq ?_
      refine jc_cond (g := 22) (c := (decide (x3 < (w64 ((List.length a0 : Int) - a1))))) (by kernel_rfl) ?_ ?_
      · intro _
        refine jc_skip ?_
        refine jx_seqN ?_
        refine jc_seq ?_
        refine jc_block ?_
        refine jc_seq ?_
        refine jc_reg ?_
        refine jr_seg 0 2 [0, 1, 2, 7, 20, 21] [] (st1 := ⟨[(0, .av (bs a0)), (1, .av (iv a1)), (2, .av (iv a2)), (7, .av (iv x3)), (20, .av (iv (w64 ((List.length a0 : Int) - a1)))), (21, .av (iv x3))], [], 0⟩) (by kernel_rfl) ?_
        refine jr_nil rfl ?_
        refine jx_seqN ?_
        refine jc_seq ?_
        refine jc_reg ?_
        refine jr_seg 0 4 [0, 1, 2, 7, 20, 21, 24, 27] [] (st1 := ⟨[(0, .av (bs a0)), (1, .av (iv a1)), (2, .av (iv a2)), (7, .av (iv x3)), (20, .av (iv (w64 ((List.length a0 : Int) - a1)))), (21, .av (iv x3)), (24, .av (bs a0)), (27, .av (iv (w64 (a1 + x3))))], [], 0⟩) (by kernel_rfl) ?_
        refine jr_part (i := 4) (mo := idx a0 (w64 (a1 + x3))) rfl rfl rfl rfl (fun _ hc => aop_index (kk := .i64) (by kernel_rfl) (by kernel_rfl) (by kernel_rfl) hc) (fun _ => rfl) ?_
        intro x8 h8
        refine jr_seg 5 1 [0, 1, 2, 7, 20, 21, 28, 29] [] (st1 := ⟨[(0, .av (bs a0)), (1, .av (iv a1)), (2, .av (iv a2)), (7, .av (iv x3)), (20, .av (iv (w64 ((List.length a0 : Int) - a1)))), (21, .av (iv x3)), (28, .av (.s (.int .u8 x8))), (29, .av (iv a2))], [], 0⟩) (by kernel_rfl) ?_
        refine jr_callF (i := 6) rfl rfl rfl rfl (vs := [.s (.int .u8 x8), iv a2]) (by kernel_rfl) (snapL_cons rfl (snapL_cons rfl (snapL_nil _))) (all2_cons (fle_refl _) (all2_cons (fle_refl _) all2_nil)) (scan_Is_ok x8 a2) (fun _ => rfl) (fun _ => rfl) ?_
        intro x9 h9
        refine jr_seg 7 1 [0, 1, 2, 7, 20, 21, 31] [] (st1 := ⟨[(0, .av (bs a0)), (1, .av (iv a1)), (2, .av (iv a2)), (7, .av (iv x3)), (20, .av (iv (w64 ((List.length a0 : Int) - a1)))), (21, .av (iv x3)), (31, .av (bv (!x9)))], [], 0⟩) (by kernel_rfl) ?_
        refine jr_nil rfl ?_
        refine jx_seqN ?_
        refine jc_cond (g := 31) (c := (!x9)) (by kernel_rfl) ?_ ?_
        · intro _
          refine jc_seq ?_
          refine jc_reg ?_
          refine jr_seg 0 4 [6] [] (st1 := ⟨[(6, .av (iv (w64 (a1 + x3))))], [], 0⟩) (by kernel_rfl) ?_
          refine jr_nil rfl ?_
          refine jx_seqN ?_
          refine jc_ret ?_
          refine jx_blkR ?_
          refine jx_seqR ?_
          exact jx_done rfl nofun (wk_ren [] (fix_nil _) rfl (by kernel_rfl) allp_nil)
        · intro _
          refine jc_skip ?_
          refine jx_blkN ?_
          refine jx_seqN ?_
          refine jc_reg ?_
          refine jr_seg 0 2 [0, 1, 2, 20, 21] [] (st1 := ⟨[(0, .av (bs a0)), (1, .av (iv a1)), (2, .av (iv a2)), (20, .av (iv (w64 ((List.length a0 : Int) - a1)))), (21, .av (iv (w64 (x3 + 1))))], [], 0⟩) (by kernel_rfl) ?_
          refine jr_nil rfl ?_
          exact jx_next (wk_ren [] (fix_nil _) rfl (by kernel_rfl) allp_nil)
      · intro _
        refine jc_exit ?_
        refine jx_seqE ?_
        exact jx_done rfl nofun (wk_ren [] (fix_nil _) rfl (by kernel_rfl) allp_nil)
    · rintro (x7 | _)
      · refine jx_blkR ?_
        refine jx_seqR ?_
        exact jx_retF (.inr rfl) (v := iv x7) (by kernel_rfl) rfl (fle_refl _)
      · refine jx_blkE ?_
        refine jx_seqN ?_
        refine jc_seq ?_
        refine jc_reg ?_
        refine jr_seg 0 3 [6] [] (st1 := ⟨[(6, .av (iv (List.length a0 : Int)))], [], 0⟩) (by kernel_rfl) ?_
        refine jr_nil rfl ?_
        refine jx_seqN ?_
        refine jc_ret ?_
        exact jx_retF (.inr rfl) (v := iv (List.length a0 : Int)) (by kernel_rfl) rfl (fle_refl _))
end Go.Vm

set_option maxRecDepth 100000
set_option maxHeartbeats 0
set_option linter.unusedVariables false
set_option linter.unusedSimpArgs false
namespace Go.Vm
open Go
abbrev ref01_Is_r1 : List LO := [⟨some 4, Op.assign (Operand.const (Value.bool false)), 4, none⟩]
abbrev ref01_Is_b2 : LC := .reg false ref01_Is_r1
abbrev ref01_Is_r3 : List LO := [⟨some 9, Op.move (Operand.tmp 0), 5, none⟩,
  ⟨some 10, Op.binOp BinOp.geq 5 (Operand.tmp 9) (Operand.const (Value.int IntKind.u8 48)) 5, 4, none⟩,
  ⟨some 11, Op.move (Operand.tmp 10), 4, none⟩,
  ⟨some 12, Op.move (Operand.tmp 0), 5, (some (11, true))⟩,
  ⟨some 13, Op.binOp BinOp.leq 5 (Operand.tmp 12) (Operand.const (Value.int IntKind.u8 57)) 5, 4, (some (11, true))⟩,
  ⟨some 14, Op.pick (Operand.tmp 11) (Operand.tmp 13) (Operand.const (Value.bool false)), 4, none⟩,
  ⟨some 5, Op.assign (Operand.tmp 14), 4, none⟩]
abbrev ref01_Is_b4 : LC := .reg false ref01_Is_r3
abbrev ref01_Is_r5 : List LO := [⟨some 15, Op.move (Operand.tmp 0), 5, none⟩,
  ⟨some 16, Op.binOp BinOp.geq 5 (Operand.tmp 15) (Operand.const (Value.int IntKind.u8 97)) 5, 4, none⟩,
  ⟨some 17, Op.move (Operand.tmp 16), 4, none⟩,
  ⟨some 18, Op.move (Operand.tmp 0), 5, (some (17, true))⟩,
  ⟨some 19, Op.binOp BinOp.leq 5 (Operand.tmp 18) (Operand.const (Value.int IntKind.u8 122)) 5, 4, (some (17, true))⟩,
  ⟨some 20, Op.pick (Operand.tmp 17) (Operand.tmp 19) (Operand.const (Value.bool false)), 4, none⟩,
  ⟨some 6, Op.assign (Operand.tmp 20), 4, none⟩]
abbrev ref01_Is_b6 : LC := .reg false ref01_Is_r5
abbrev ref01_Is_r7 : List LO := [⟨some 21, Op.move (Operand.tmp 0), 5, none⟩,
  ⟨some 22, Op.binOp BinOp.geq 5 (Operand.tmp 21) (Operand.const (Value.int IntKind.u8 65)) 5, 4, none⟩,
  ⟨some 23, Op.move (Operand.tmp 22), 4, none⟩,
  ⟨some 24, Op.move (Operand.tmp 0), 5, (some (23, true))⟩,
  ⟨some 25, Op.binOp BinOp.leq 5 (Operand.tmp 24) (Operand.const (Value.int IntKind.u8 90)) 5, 4, (some (23, true))⟩,
  ⟨some 26, Op.pick (Operand.tmp 23) (Operand.tmp 25) (Operand.const (Value.bool false)), 4, none⟩,
  ⟨some 7, Op.assign (Operand.tmp 26), 4, none⟩]
abbrev ref01_Is_b8 : LC := .reg false ref01_Is_r7
abbrev ref01_Is_r9 : List LO := [⟨some 27, Op.move (Operand.tmp 0), 5, none⟩,
  ⟨some 28, Op.binOp BinOp.eql 5 (Operand.tmp 27) (Operand.const (Value.int IntKind.u8 32)) 5, 4, none⟩,
  ⟨some 29, Op.move (Operand.tmp 28), 4, none⟩,
  ⟨some 30, Op.move (Operand.tmp 0), 5, (some (29, false))⟩,
  ⟨some 31, Op.binOp BinOp.eql 5 (Operand.tmp 30) (Operand.const (Value.int IntKind.u8 9)) 5, 4, (some (29, false))⟩,
  ⟨some 32, Op.pick (Operand.tmp 29) (Operand.const (Value.bool true)) (Operand.tmp 31), 4, none⟩,
  ⟨some 8, Op.assign (Operand.tmp 32), 4, none⟩]
abbrev ref01_Is_b10 : LC := .reg false ref01_Is_r9
abbrev ref01_Is_r11 : List LO := [⟨some 33, Op.move (Operand.tmp 1), 3, none⟩]
abbrev ref01_Is_b12 : LC := .reg false ref01_Is_r11
abbrev ref01_Is_r13 : List LO := [⟨some 35, Op.binOp BinOp.eql 3 (Operand.tmp 33) (Operand.const (Value.int IntKind.i64 1)) 3, 4, none⟩,
  ⟨some 34, Op.assign (Operand.tmp 35), 4, none⟩]
abbrev ref01_Is_b14 : LC := .reg false ref01_Is_r13
abbrev ref01_Is_r15 : List LO := [⟨some 36, Op.move (Operand.tmp 5), 4, none⟩,
  ⟨some 4, Op.assign (Operand.tmp 36), 4, none⟩]
abbrev ref01_Is_b16 : LC := .reg false ref01_Is_r15
abbrev ref01_Is_b17 : LC := .seq ref01_Is_b16 .ret
abbrev ref01_Is_r18 : List LO := [⟨some 38, Op.binOp BinOp.eql 3 (Operand.tmp 33) (Operand.const (Value.int IntKind.i64 2)) 3, 4, none⟩,
  ⟨some 37, Op.assign (Operand.tmp 38), 4, none⟩]
abbrev ref01_Is_b19 : LC := .reg false ref01_Is_r18
abbrev ref01_Is_r20 : List LO := [⟨some 39, Op.move (Operand.tmp 6), 4, none⟩,
  ⟨some 4, Op.assign (Operand.tmp 39), 4, none⟩]
abbrev ref01_Is_b21 : LC := .reg false ref01_Is_r20
abbrev ref01_Is_b22 : LC := .seq ref01_Is_b21 .ret
abbrev ref01_Is_r23 : List LO := [⟨some 41, Op.binOp BinOp.eql 3 (Operand.tmp 33) (Operand.const (Value.int IntKind.i64 3)) 3, 4, none⟩,
  ⟨some 40, Op.assign (Operand.tmp 41), 4, none⟩]
abbrev ref01_Is_b24 : LC := .reg false ref01_Is_r23
abbrev ref01_Is_r25 : List LO := [⟨some 42, Op.move (Operand.tmp 7), 4, none⟩,
  ⟨some 4, Op.assign (Operand.tmp 42), 4, none⟩]
abbrev ref01_Is_b26 : LC := .reg false ref01_Is_r25
abbrev ref01_Is_b27 : LC := .seq ref01_Is_b26 .ret
abbrev ref01_Is_r28 : List LO := [⟨some 44, Op.binOp BinOp.eql 3 (Operand.tmp 33) (Operand.const (Value.int IntKind.i64 4)) 3, 4, none⟩,
  ⟨some 43, Op.assign (Operand.tmp 44), 4, none⟩]
abbrev ref01_Is_b29 : LC := .reg false ref01_Is_r28
abbrev ref01_Is_r30 : List LO := [⟨some 45, Op.move (Operand.tmp 6), 4, none⟩,
  ⟨some 46, Op.move (Operand.tmp 45), 4, none⟩,
  ⟨some 47, Op.move (Operand.tmp 7), 4, (some (46, false))⟩,
  ⟨some 48, Op.pick (Operand.tmp 46) (Operand.const (Value.bool true)) (Operand.tmp 47), 4, none⟩,
  ⟨some 4, Op.assign (Operand.tmp 48), 4, none⟩]
abbrev ref01_Is_b31 : LC := .reg false ref01_Is_r30
abbrev ref01_Is_b32 : LC := .seq ref01_Is_b31 .ret
abbrev ref01_Is_r33 : List LO := [⟨some 50, Op.binOp BinOp.eql 3 (Operand.tmp 33) (Operand.const (Value.int IntKind.i64 5)) 3, 4, none⟩,
  ⟨some 49, Op.assign (Operand.tmp 50), 4, none⟩]
abbrev ref01_Is_b34 : LC := .reg false ref01_Is_r33
abbrev ref01_Is_r35 : List LO := [⟨some 51, Op.move (Operand.tmp 6), 4, none⟩,
  ⟨some 52, Op.move (Operand.tmp 51), 4, none⟩,
  ⟨some 53, Op.move (Operand.tmp 7), 4, (some (52, false))⟩,
  ⟨some 54, Op.pick (Operand.tmp 52) (Operand.const (Value.bool true)) (Operand.tmp 53), 4, none⟩,
  ⟨some 55, Op.move (Operand.tmp 54), 4, none⟩,
  ⟨some 56, Op.move (Operand.tmp 5), 4, (some (55, false))⟩,
  ⟨some 57, Op.pick (Operand.tmp 55) (Operand.const (Value.bool true)) (Operand.tmp 56), 4, none⟩,
  ⟨some 4, Op.assign (Operand.tmp 57), 4, none⟩]
abbrev ref01_Is_b36 : LC := .reg false ref01_Is_r35
abbrev ref01_Is_b37 : LC := .seq ref01_Is_b36 .ret
abbrev ref01_Is_r38 : List LO := [⟨some 59, Op.binOp BinOp.eql 3 (Operand.tmp 33) (Operand.const (Value.int IntKind.i64 6)) 3, 4, none⟩,
  ⟨some 58, Op.assign (Operand.tmp 59), 4, none⟩]
abbrev ref01_Is_b39 : LC := .reg false ref01_Is_r38
abbrev ref01_Is_r40 : List LO := [⟨some 60, Op.move (Operand.tmp 8), 4, none⟩,
  ⟨some 4, Op.assign (Operand.tmp 60), 4, none⟩]
abbrev ref01_Is_b41 : LC := .reg false ref01_Is_r40
abbrev ref01_Is_b42 : LC := .seq ref01_Is_b41 .ret
abbrev ref01_Is_r43 : List LO := [⟨some 62, Op.binOp BinOp.eql 3 (Operand.tmp 33) (Operand.const (Value.int IntKind.i64 7)) 3, 4, none⟩,
  ⟨some 61, Op.assign (Operand.tmp 62), 4, none⟩]
abbrev ref01_Is_b44 : LC := .reg false ref01_Is_r43
abbrev ref01_Is_r45 : List LO := [⟨some 63, Op.move (Operand.tmp 8), 4, none⟩,
  ⟨some 64, Op.move (Operand.tmp 63), 4, none⟩,
  ⟨some 65, Op.move (Operand.tmp 0), 5, (some (64, false))⟩,
  ⟨some 66, Op.binOp BinOp.eql 5 (Operand.tmp 65) (Operand.const (Value.int IntKind.u8 10)) 5, 4, (some (64, false))⟩,
  ⟨some 67, Op.pick (Operand.tmp 64) (Operand.const (Value.bool true)) (Operand.tmp 66), 4, none⟩,
  ⟨some 68, Op.move (Operand.tmp 67), 4, none⟩,
  ⟨some 69, Op.move (Operand.tmp 0), 5, (some (68, false))⟩,
  ⟨some 70, Op.binOp BinOp.eql 5 (Operand.tmp 69) (Operand.const (Value.int IntKind.u8 13)) 5, 4, (some (68, false))⟩,
  ⟨some 71, Op.pick (Operand.tmp 68) (Operand.const (Value.bool true)) (Operand.tmp 70), 4, none⟩,
  ⟨some 4, Op.assign (Operand.tmp 71), 4, none⟩]
abbrev ref01_Is_b46 : LC := .reg false ref01_Is_r45
abbrev ref01_Is_b47 : LC := .seq ref01_Is_b46 .ret
abbrev ref01_Is_b48 : LC := .cond (Operand.tmp 61) ref01_Is_b47 .skip
abbrev ref01_Is_b49 : LC := .seq ref01_Is_b44 ref01_Is_b48
abbrev ref01_Is_b50 : LC := .cond (Operand.tmp 58) ref01_Is_b42 ref01_Is_b49
abbrev ref01_Is_b51 : LC := .seq ref01_Is_b39 ref01_Is_b50
abbrev ref01_Is_b52 : LC := .cond (Operand.tmp 49) ref01_Is_b37 ref01_Is_b51
abbrev ref01_Is_b53 : LC := .seq ref01_Is_b34 ref01_Is_b52
abbrev ref01_Is_b54 : LC := .cond (Operand.tmp 43) ref01_Is_b32 ref01_Is_b53
abbrev ref01_Is_b55 : LC := .seq ref01_Is_b29 ref01_Is_b54
abbrev ref01_Is_b56 : LC := .cond (Operand.tmp 40) ref01_Is_b27 ref01_Is_b55
abbrev ref01_Is_b57 : LC := .seq ref01_Is_b24 ref01_Is_b56
abbrev ref01_Is_b58 : LC := .cond (Operand.tmp 37) ref01_Is_b22 ref01_Is_b57
abbrev ref01_Is_b59 : LC := .seq ref01_Is_b19 ref01_Is_b58
abbrev ref01_Is_b60 : LC := .cond (Operand.tmp 34) ref01_Is_b17 ref01_Is_b59
abbrev ref01_Is_b61 : LC := .seq ref01_Is_b14 ref01_Is_b60
abbrev ref01_Is_b62 : LC := .block 0 ref01_Is_b61
abbrev ref01_Is_b63 : LC := .seq ref01_Is_b12 ref01_Is_b62
abbrev ref01_Is_r64 : List LO := [⟨some 4, Op.assign (Operand.const (Value.bool false)), 4, none⟩]
abbrev ref01_Is_b65 : LC := .reg false ref01_Is_r64
abbrev ref01_Is_b66 : LC := .seq ref01_Is_b65 .ret
abbrev ref01_Is_b67 : LC := .seq ref01_Is_b63 ref01_Is_b66
abbrev ref01_Is_b68 : LC := .seq ref01_Is_b10 ref01_Is_b67
abbrev ref01_Is_b69 : LC := .seq ref01_Is_b8 ref01_Is_b68
abbrev ref01_Is_b70 : LC := .seq ref01_Is_b6 ref01_Is_b69
abbrev ref01_Is_b71 : LC := .seq ref01_Is_b4 ref01_Is_b70
abbrev ref01_Is_b72 : LC := .seq ref01_Is_b2 ref01_Is_b71
theorem ref01_Is_k : FnOk E 27 72 [.tmp 4] ref01_Is_b72 := ⟨⟨Go.Proofs.Tryd.f27, by kernel_rfl, by kernel_rfl, by kernel_rfl, by kernel_rfl, by kernel_rfl⟩, rfl⟩
noncomputable def ref01_Is (a0 : Int) (a1 : Int) : Option (Bool) := (if (a1 == 1) = true then some ((decide (a0 ≥ 48)) && (decide (a0 ≤ 57))) else (if (a1 == 2) = true then some ((decide (a0 ≥ 97)) && (decide (a0 ≤ 122))) else (if (a1 == 3) = true then some ((decide (a0 ≥ 65)) && (decide (a0 ≤ 90))) else (if (a1 == 4) = true then some (((decide (a0 ≥ 97)) && (decide (a0 ≤ 122))) || ((decide (a0 ≥ 65)) && (decide (a0 ≤ 90)))) else (if (a1 == 5) = true then some ((((decide (a0 ≥ 97)) && (decide (a0 ≤ 122))) || ((decide (a0 ≥ 65)) && (decide (a0 ≤ 90)))) || ((decide (a0 ≥ 48)) && (decide (a0 ≤ 57)))) else (if (a1 == 6) = true then some ((a0 == 32) || (a0 == 9)) else (if (a1 == 7) = true then some ((((a0 == 32) || (a0 == 9)) || (a0 == 10)) || (a0 == 13)) else some false)))))))
theorem ref01_Is_ok (a0 : Int) (a1 : Int) : Ct E 27 [.s (.int .u8 a0), iv a1] (ref01_Is a0 a1) (fun r : Bool => bv r) := ct_intro (N := 72) (L := ref01_Is_b72) ref01_Is_k rfl (Nat.le_of_ble_eq_true rfl) (by kernel_rfl) (by
  unfold ref01_Is
  refine jc_seq ?_
  refine jc_reg ?_
  refine jr_seg 0 1 [0, 1] [] (st1 := ⟨[(0, .av (.s (.int .u8 a0))), (1, .av (iv a1))], [], 0⟩) (by kernel_rfl) ?_
  refine jr_nil rfl ?_
  refine jx_seqN ?_
  refine jc_seq ?_
  refine jc_reg ?_
  refine jr_seg 0 7 [0, 1, 5] [] (st1 := ⟨[(0, .av (.s (.int .u8 a0))), (1, .av (iv a1)), (5, .av (bv ((decide (a0 ≥ 48)) && (decide (a0 ≤ 57)))))], [], 0⟩) (by kernel_rfl) ?_
  refine jr_nil rfl ?_
  refine jx_seqN ?_
  refine jc_seq ?_
  refine jc_reg ?_
  refine jr_seg 0 7 [0, 1, 5, 6] [] (st1 := ⟨[(0, .av (.s (.int .u8 a0))), (1, .av (iv a1)), (5, .av (bv ((decide (a0 ≥ 48)) && (decide (a0 ≤ 57))))), (6, .av (bv ((decide (a0 ≥ 97)) && (decide (a0 ≤ 122)))))], [], 0⟩) (by kernel_rfl) ?_
  refine jr_nil rfl ?_
  refine jx_seqN ?_
  refine jc_seq ?_
  refine jc_reg ?_
  refine jr_seg 0 7 [0, 1, 5, 6, 7] [] (st1 := ⟨[(0, .av (.s (.int .u8 a0))), (1, .av (iv a1)), (5, .av (bv ((decide (a0 ≥ 48)) && (decide (a0 ≤ 57))))), (6, .av (bv ((decide (a0 ≥ 97)) && (decide (a0 ≤ 122))))), (7, .av (bv ((decide (a0 ≥ 65)) && (decide (a0 ≤ 90)))))], [], 0⟩) (by kernel_rfl) ?_
  refine jr_nil rfl ?_
  refine jx_seqN ?_
  refine jc_seq ?_
  refine jc_reg ?_
  refine jr_seg 0 7 [0, 1, 5, 6, 7, 8] [] (st1 := ⟨[(0, .av (.s (.int .u8 a0))), (1, .av (iv a1)), (5, .av (bv ((decide (a0 ≥ 48)) && (decide (a0 ≤ 57))))), (6, .av (bv ((decide (a0 ≥ 97)) && (decide (a0 ≤ 122))))), (7, .av (bv ((decide (a0 ≥ 65)) && (decide (a0 ≤ 90))))), (8, .av (bv ((a0 == 32) || (a0 == 9))))], [], 0⟩) (by kernel_rfl) ?_
  refine jr_nil rfl ?_
  refine jx_seqN ?_
  refine jc_seq ?_
  refine jc_seq ?_
  refine jc_reg ?_
  refine jr_seg 0 1 [0, 5, 6, 7, 8, 33] [] (st1 := ⟨[(0, .av (.s (.int .u8 a0))), (5, .av (bv ((decide (a0 ≥ 48)) && (decide (a0 ≤ 57))))), (6, .av (bv ((decide (a0 ≥ 97)) && (decide (a0 ≤ 122))))), (7, .av (bv ((decide (a0 ≥ 65)) && (decide (a0 ≤ 90))))), (8, .av (bv ((a0 == 32) || (a0 == 9)))), (33, .av (iv a1))], [], 0⟩) (by kernel_rfl) ?_
  refine jr_nil rfl ?_
  refine jx_seqN ?_
  refine jc_block ?_
  refine jc_seq ?_
  refine jc_reg ?_
  refine jr_seg 0 2 [0, 5, 6, 7, 8, 33, 34] [] (st1 := ⟨[(0, .av (.s (.int .u8 a0))), (5, .av (bv ((decide (a0 ≥ 48)) && (decide (a0 ≤ 57))))), (6, .av (bv ((decide (a0 ≥ 97)) && (decide (a0 ≤ 122))))), (7, .av (bv ((decide (a0 ≥ 65)) && (decide (a0 ≤ 90))))), (8, .av (bv ((a0 == 32) || (a0 == 9)))), (33, .av (iv a1)), (34, .av (bv (a1 == 1)))], [], 0⟩) (by kernel_rfl) ?_
  refine jr_nil rfl ?_
  refine jx_seqN ?_
  refine jc_cond (g := 34) (c := (a1 == 1)) (by kernel_rfl) ?_ ?_
  · intro _
    refine jc_seq ?_
    refine jc_reg ?_
    refine jr_seg 0 2 [4] [] (st1 := ⟨[(4, .av (bv ((decide (a0 ≥ 48)) && (decide (a0 ≤ 57)))))], [], 0⟩) (by kernel_rfl) ?_
    refine jr_nil rfl ?_
    refine jx_seqN ?_
    refine jc_ret ?_
    refine jx_blkR ?_
    refine jx_seqR ?_
    exact jx_retF (.inr rfl) (v := bv ((decide (a0 ≥ 48)) && (decide (a0 ≤ 57)))) (by kernel_rfl) rfl (fle_refl _)
  · intro _
    refine jc_seq ?_
    refine jc_reg ?_
    refine jr_seg 0 2 [0, 5, 6, 7, 8, 33, 37] [] (st1 := ⟨[(0, .av (.s (.int .u8 a0))), (5, .av (bv ((decide (a0 ≥ 48)) && (decide (a0 ≤ 57))))), (6, .av (bv ((decide (a0 ≥ 97)) && (decide (a0 ≤ 122))))), (7, .av (bv ((decide (a0 ≥ 65)) && (decide (a0 ≤ 90))))), (8, .av (bv ((a0 == 32) || (a0 == 9)))), (33, .av (iv a1)), (37, .av (bv (a1 == 2)))], [], 0⟩) (by kernel_rfl) ?_
    refine jr_nil rfl ?_
    refine jx_seqN ?_
    refine jc_cond (g := 37) (c := (a1 == 2)) (by kernel_rfl) ?_ ?_
    · intro _
      refine jc_seq ?_
      refine jc_reg ?_
      refine jr_seg 0 2 [4] [] (st1 := ⟨[(4, .av (bv ((decide (a0 ≥ 97)) && (decide (a0 ≤ 122)))))], [], 0⟩) (by kernel_rfl) ?_
      refine jr_nil rfl ?_
      refine jx_seqN ?_
      refine jc_ret ?_
      refine jx_blkR ?_
      refine jx_seqR ?_
      exact jx_retF (.inr rfl) (v := bv ((decide (a0 ≥ 97)) && (decide (a0 ≤ 122)))) (by kernel_rfl) rfl (fle_refl _)
    · intro _
      refine jc_seq ?_
      refine jc_reg ?_
      refine jr_seg 0 2 [0, 5, 6, 7, 8, 33, 40] [] (st1 := ⟨[(0, .av (.s (.int .u8 a0))), (5, .av (bv ((decide (a0 ≥ 48)) && (decide (a0 ≤ 57))))), (6, .av (bv ((decide (a0 ≥ 97)) && (decide (a0 ≤ 122))))), (7, .av (bv ((decide (a0 ≥ 65)) && (decide (a0 ≤ 90))))), (8, .av (bv ((a0 == 32) || (a0 == 9)))), (33, .av (iv a1)), (40, .av (bv (a1 == 3)))], [], 0⟩) (by kernel_rfl) ?_
      refine jr_nil rfl ?_
      refine jx_seqN ?_
      refine jc_cond (g := 40) (c := (a1 == 3)) (by kernel_rfl) ?_ ?_
      · intro _
        refine jc_seq ?_
        refine jc_reg ?_
        refine jr_seg 0 2 [4] [] (st1 := ⟨[(4, .av (bv ((decide (a0 ≥ 65)) && (decide (a0 ≤ 90)))))], [], 0⟩) (by kernel_rfl) ?_
        refine jr_nil rfl ?_
        refine jx_seqN ?_
        refine jc_ret ?_
        refine jx_blkR ?_
        refine jx_seqR ?_
        exact jx_retF (.inr rfl) (v := bv ((decide (a0 ≥ 65)) && (decide (a0 ≤ 90)))) (by kernel_rfl) rfl (fle_refl _)
      · intro _
        refine jc_seq ?_
        refine jc_reg ?_
        refine jr_seg 0 2 [0, 5, 6, 7, 8, 33, 43] [] (st1 := ⟨[(0, .av (.s (.int .u8 a0))), (5, .av (bv ((decide (a0 ≥ 48)) && (decide (a0 ≤ 57))))), (6, .av (bv ((decide (a0 ≥ 97)) && (decide (a0 ≤ 122))))), (7, .av (bv ((decide (a0 ≥ 65)) && (decide (a0 ≤ 90))))), (8, .av (bv ((a0 == 32) || (a0 == 9)))), (33, .av (iv a1)), (43, .av (bv (a1 == 4)))], [], 0⟩) (by kernel_rfl) ?_
        refine jr_nil rfl ?_
        refine jx_seqN ?_
        refine jc_cond (g := 43) (c := (a1 == 4)) (by kernel_rfl) ?_ ?_
        · intro _
          refine jc_seq ?_
          refine jc_reg ?_
          refine jr_seg 0 5 [4] [] (st1 := ⟨[(4, .av (bv (((decide (a0 ≥ 97)) && (decide (a0 ≤ 122))) || ((decide (a0 ≥ 65)) && (decide (a0 ≤ 90))))))], [], 0⟩) (by kernel_rfl) ?_
          refine jr_nil rfl ?_
          refine jx_seqN ?_
          refine jc_ret ?_
          refine jx_blkR ?_
          refine jx_seqR ?_
          exact jx_retF (.inr rfl) (v := bv (((decide (a0 ≥ 97)) && (decide (a0 ≤ 122))) || ((decide (a0 ≥ 65)) && (decide (a0 ≤ 90))))) (by kernel_rfl) rfl (fle_refl _)
        · intro _
          refine jc_seq ?_
          refine jc_reg ?_
          refine jr_seg 0 2 [0, 5, 6, 7, 8, 33, 49] [] (st1 := ⟨[(0, .av (.s (.int .u8 a0))), (5, .av (bv ((decide (a0 ≥ 48)) && (decide (a0 ≤ 57))))), (6, .av (bv ((decide (a0 ≥ 97)) && (decide (a0 ≤ 122))))), (7, .av (bv ((decide (a0 ≥ 65)) && (decide (a0 ≤ 90))))), (8, .av (bv ((a0 == 32) || (a0 == 9)))), (33, .av (iv a1)), (49, .av (bv (a1 == 5)))], [], 0⟩) (by kernel_rfl) ?_
          refine jr_nil rfl ?_
          refine jx_seqN ?_
          refine jc_cond (g := 49) (c := (a1 == 5)) (by kernel_rfl) ?_ ?_
          · intro _
            refine jc_seq ?_
            refine jc_reg ?_
            refine jr_seg 0 8 [4] [] (st1 := ⟨[(4, .av (bv ((((decide (a0 ≥ 97)) && (decide (a0 ≤ 122))) || ((decide (a0 ≥ 65)) && (decide (a0 ≤ 90)))) || ((decide (a0 ≥ 48)) && (decide (a0 ≤ 57))))))], [], 0⟩) (by kernel_rfl) ?_
            refine jr_nil rfl ?_
            refine jx_seqN ?_
            refine jc_ret ?_
            refine jx_blkR ?_
            refine jx_seqR ?_
            exact jx_retF (.inr rfl) (v := bv ((((decide (a0 ≥ 97)) && (decide (a0 ≤ 122))) || ((decide (a0 ≥ 65)) && (decide (a0 ≤ 90)))) || ((decide (a0 ≥ 48)) && (decide (a0 ≤ 57))))) (by kernel_rfl) rfl (fle_refl _)
          · intro _
            refine jc_seq ?_
            refine jc_reg ?_
            refine jr_seg 0 2 [0, 8, 33, 58] [] (st1 := ⟨[(0, .av (.s (.int .u8 a0))), (8, .av (bv ((a0 == 32) || (a0 == 9)))), (33, .av (iv a1)), (58, .av (bv (a1 == 6)))], [], 0⟩) (by kernel_rfl) ?_
            refine jr_nil rfl ?_
            refine jx_seqN ?_
            refine jc_cond (g := 58) (c := (a1 == 6)) (by kernel_rfl) ?_ ?_
            · intro _
              refine jc_seq ?_
              refine jc_reg ?_
              refine jr_seg 0 2 [4] [] (st1 := ⟨[(4, .av (bv ((a0 == 32) || (a0 == 9))))], [], 0⟩) (by kernel_rfl) ?_
              refine jr_nil rfl ?_
              refine jx_seqN ?_
              refine jc_ret ?_
              refine jx_blkR ?_
              refine jx_seqR ?_
              exact jx_retF (.inr rfl) (v := bv ((a0 == 32) || (a0 == 9))) (by kernel_rfl) rfl (fle_refl _)
            · intro _
              refine jc_seq ?_
              refine jc_reg ?_
              refine jr_seg 0 2 [0, 8, 61] [] (st1 := ⟨[(0, .av (.s (.int .u8 a0))), (8, .av (bv ((a0 == 32) || (a0 == 9)))), (61, .av (bv (a1 == 7)))], [], 0⟩) (by kernel_rfl) ?_
              refine jr_nil rfl ?_
              refine jx_seqN ?_
              refine jc_cond (g := 61) (c := (a1 == 7)) (by kernel_rfl) ?_ ?_
              · intro _
                refine jc_seq ?_
                refine jc_reg ?_
                refine jr_seg 0 10 [4] [] (st1 := ⟨[(4, .av (bv ((((a0 == 32) || (a0 == 9)) || (a0 == 10)) || (a0 == 13))))], [], 0⟩) (by kernel_rfl) ?_
                refine jr_nil rfl ?_
                refine jx_seqN ?_
                refine jc_ret ?_
                refine jx_blkR ?_
                refine jx_seqR ?_
                exact jx_retF (.inr rfl) (v := bv ((((a0 == 32) || (a0 == 9)) || (a0 == 10)) || (a0 == 13))) (by kernel_rfl) rfl (fle_refl _)
              · intro _
                refine jc_skip ?_
                refine jx_blkN ?_
                refine jx_seqN ?_
                refine jc_seq ?_
                refine jc_reg ?_
                refine jr_seg 0 1 [4] [] (st1 := ⟨[(4, .av (bv false))], [], 0⟩) (by kernel_rfl) ?_
                refine jr_nil rfl ?_
                refine jx_seqN ?_
                refine jc_ret ?_
                exact jx_retF (.inr rfl) (v := bv false) (by kernel_rfl) rfl (fle_refl _))
end Go.Vm

set_option maxRecDepth 100000
set_option maxHeartbeats 0
set_option linter.unusedVariables false
set_option linter.unusedSimpArgs false
namespace Go.Vm
open Go
abbrev ref01_Run_r1 : List LO := [⟨some 6, Op.assign (Operand.const (Value.int IntKind.i64 0)), 3, none⟩]
abbrev ref01_Run_b2 : LC := .reg false ref01_Run_r1
abbrev ref01_Run_r3 : List LO := [⟨some 7, Op.move (Operand.tmp 1), 3, none⟩,
  ⟨some 8, Op.binOp BinOp.lss 3 (Operand.tmp 7) (Operand.const (Value.int IntKind.i64 0)) 3, 4, none⟩,
  ⟨some 9, Op.move (Operand.tmp 8), 4, none⟩,
  ⟨some 10, Op.move (Operand.tmp 1), 3, (some (9, false))⟩,
  ⟨some 11, Op.move (Operand.tmp 0), 9, (some (9, false))⟩,
  ⟨some 12, Op.call { callee := Callee.builtin Builtin.len, args := #[Operand.tmp 11], argTypes := #[9] }, 3, (some (9, false))⟩,
  ⟨some 13, Op.binOp BinOp.gtr 3 (Operand.tmp 10) (Operand.tmp 12) 3, 4, (some (9, false))⟩,
  ⟨some 14, Op.pick (Operand.tmp 9) (Operand.const (Value.bool true)) (Operand.tmp 13), 4, none⟩]
abbrev ref01_Run_b4 : LC := .reg false ref01_Run_r3
abbrev ref01_Run_r5 : List LO := [⟨some 15, Op.move (Operand.tmp 1), 3, none⟩,
  ⟨some 6, Op.assign (Operand.tmp 15), 3, none⟩]
abbrev ref01_Run_b6 : LC := .reg false ref01_Run_r5
abbrev ref01_Run_b7 : LC := .seq ref01_Run_b6 .ret
abbrev ref01_Run_b8 : LC := .cond (Operand.tmp 14) ref01_Run_b7 .skip
abbrev ref01_Run_b9 : LC := .seq ref01_Run_b4 ref01_Run_b8
abbrev ref01_Run_r10 : List LO := [⟨some 16, Op.move (Operand.tmp 1), 3, none⟩,
  ⟨some 17, Op.move (Operand.tmp 0), 9, none⟩,
  ⟨some 18, Op.call { callee := Callee.builtin Builtin.len, args := #[Operand.tmp 17], argTypes := #[9] }, 3, none⟩,
  ⟨some 19, Op.binOp BinOp.lss 3 (Operand.tmp 16) (Operand.tmp 18) 3, 4, none⟩,
  ⟨some 20, Op.move (Operand.tmp 19), 4, none⟩,
  ⟨some 21, Op.move (Operand.tmp 0), 9, (some (20, true))⟩,
  ⟨some 22, Op.move (Operand.tmp 1), 3, (some (20, true))⟩,
  ⟨some 23, Op.index 9 (Operand.tmp 21) (Operand.tmp 22), 5, (some (20, true))⟩,
  ⟨some 24, Op.move (Operand.tmp 2), 3, (some (20, true))⟩,
  ⟨some 25, Op.call { callee := Callee.value (Operand.func 27), args := #[Operand.tmp 23, Operand.tmp 24], argTypes := #[5, 3] }, 4, (some (20, true))⟩,
  ⟨some 26, Op.pick (Operand.tmp 20) (Operand.tmp 25) (Operand.const (Value.bool false)), 4, none⟩]
abbrev ref01_Run_b11 : LC := .reg false ref01_Run_r10
abbrev ref01_Run_b12 : LC := .cond (Operand.tmp 26) .skip (.exit 0)
abbrev ref01_Run_b13 : LC := .seq ref01_Run_b11 ref01_Run_b12
abbrev ref01_Run_r14 : List LO := [⟨some 27, Op.move (Operand.tmp 1), 3, none⟩,
  ⟨some 28, Op.binOp BinOp.add 3 (Operand.tmp 27) (Operand.const (Value.int IntKind.i64 1)) 3, 3, none⟩,
  ⟨some 1, Op.assign (Operand.tmp 28), 3, none⟩]
abbrev ref01_Run_b15 : LC := .reg false ref01_Run_r14
abbrev ref01_Run_b16 : LC := .block 1 ref01_Run_b15
abbrev ref01_Run_b17 : LC := .seq ref01_Run_b13 ref01_Run_b16
abbrev ref01_Run_b18 : LC := .loop ref01_Run_b17
abbrev ref01_Run_b19 : LC := .block 0 ref01_Run_b18
abbrev ref01_Run_r20 : List LO := [⟨some 29, Op.move (Operand.tmp 1), 3, none⟩,
  ⟨some 6, Op.assign (Operand.tmp 29), 3, none⟩]
abbrev ref01_Run_b21 : LC := .reg false ref01_Run_r20
abbrev ref01_Run_b22 : LC := .seq ref01_Run_b21 .ret
abbrev ref01_Run_b23 : LC := .seq ref01_Run_b19 ref01_Run_b22
abbrev ref01_Run_b24 : LC := .seq ref01_Run_b9 ref01_Run_b23
abbrev ref01_Run_b25 : LC := .seq ref01_Run_b2 ref01_Run_b24
theorem ref01_Run_k : FnOk E 31 30 [.tmp 6] ref01_Run_b25 := ⟨⟨Go.Proofs.Tryd.f31, by kernel_rfl, by kernel_rfl, by kernel_rfl, by kernel_rfl, by kernel_rfl⟩, rfl⟩
noncomputable def ref01_Run_l1 (a0 : Str) (a2 : Int) : Int → Option (Step (Int) (Int)) := fun x4 => Option.bind (if (decide (x4 < (List.length a0 : Int))) = true then Option.bind (idx a0 x4) (fun x13 => Option.bind (ref01_Is x13 a2) (fun x14 => some x14)) else some false : Option (Bool)) (fun x12 => (if x12 = true then some (Step.next (w64 (x4 + 1))) else some (Step.done x4)))
noncomputable def ref01_Run (a0 : Str) (a1 : Int) (a2 : Int) : Option (Int) := (if ((decide (a1 < 0)) || (decide (a1 > (List.length a0 : Int)))) = true then some a1 else Option.bind (loopC (ref01_Run_l1 a0 a2) a1) (fun x9 => some x9))
theorem ref01_Run_ok (a0 : Str) (a1 : Int) (a2 : Int) : Ct E 31 [bs a0, iv a1, iv a2] (ref01_Run a0 a1 a2) (fun r : Int => iv r) := ct_intro (N := 30) (L := ref01_Run_b25) ref01_Run_k rfl (Nat.le_of_ble_eq_true rfl) (by kernel_rfl) (by
  unfold ref01_Run
  refine jc_seq ?_
  refine jc_reg ?_
  refine jr_seg 0 1 [0, 1, 2] [] (st1 := ⟨[(0, .av (bs a0)), (1, .av (iv a1)), (2, .av (iv a2))], [], 0⟩) (by kernel_rfl) ?_
  refine jr_nil rfl ?_
  refine jx_seqN ?_
  refine jc_seq ?_
  refine jc_seq ?_
  refine jc_reg ?_
  refine jr_seg 0 8 [0, 1, 2, 14] [] (st1 := ⟨[(0, .av (bs a0)), (1, .av (iv a1)), (2, .av (iv a2)), (14, .av (bv ((decide (a1 < 0)) || (decide (a1 > (List.length a0 : Int))))))], [], 0⟩) (by kernel_rfl) ?_
  refine jr_nil rfl ?_
  refine jx_seqN ?_
  refine jc_cond (g := 14) (c := ((decide (a1 < 0)) || (decide (a1 > (List.length a0 : Int))))) (by kernel_rfl) ?_ ?_
  · intro _
    refine jc_seq ?_
    refine jc_reg ?_
    refine jr_seg 0 2 [6] [] (st1 := ⟨[(6, .av (iv a1))], [], 0⟩) (by kernel_rfl) ?_
    refine jr_nil rfl ?_
    refine jx_seqN ?_
    refine jc_ret ?_
    refine jx_seqR ?_
    exact jx_retF (.inr rfl) (v := iv a1) (by kernel_rfl) rfl (fle_refl _)
  · intro _
    refine jc_skip ?_
    refine jx_seqN ?_
    refine jc_seq ?_
    refine jc_block ?_
    refine jc_bind (fun x9 => ⟨[(1, .av (iv x9))], [], 0⟩) (fun x9 => (.exit 0)) (jc_loop (fun x4 => ⟨[(0, .av (bs a0)), (1, .av (iv x4)), (2, .av (iv a2))], [], 0⟩) (wk_ren [] (fix_nil _) rfl (by kernel_rfl) allp_nil) ?_) ?_
    · intro x4
      unfold ref01_Run_l1
      refine jc_seq ?_
      refine jc_seq ?_
      refine jc_reg ?_
      refine jr_seg 0 5 [0, 1, 2, 20] [] (st1 := ⟨[(0, .av (bs a0)), (1, .av (iv x4)), (2, .av (iv a2)), (20, .av (bv (decide (x4 < (List.length a0 : Int)))))], [], 0⟩) (by kernel_rfl) ?_
      refine jr_bind 5 6 (fun x12 => ⟨[(0, .av (bs a0)), (1, .av (iv x4)), (2, .av (iv a2)), (26, .av (bv x12))], [], 0⟩) ?_ ?_
      · refine jr_split (g := 20) (c := (decide (x4 < (List.length a0 : Int)))) (by kernel_rfl) ?_ ?_
        · intro _
          refine jr_seg 0 2 [0, 1, 2, 20, 21, 22] [] (st1 := ⟨[(0, .av (bs a0)), (1, .av (iv x4)), (2, .av (iv a2)), (20, .lit true), (21, .av (bs a0)), (22, .av (iv x4))], [], 0⟩) (by kernel_rfl) ?_
          refine jr_part (i := 2) (mo := idx a0 x4) rfl rfl rfl rfl (fun _ hc => aop_index (kk := .i64) (by kernel_rfl) (by kernel_rfl) (by kernel_rfl) hc) (fun _ => rfl) ?_
          intro x13 h13
          refine jr_seg 3 1 [0, 1, 2, 20, 23, 24] [] (st1 := ⟨[(0, .av (bs a0)), (1, .av (iv x4)), (2, .av (iv a2)), (20, .lit true), (23, .av (.s (.int .u8 x13))), (24, .av (iv a2))], [], 0⟩) (by kernel_rfl) ?_
          refine jr_callF (i := 4) rfl rfl rfl rfl (vs := [.s (.int .u8 x13), iv a2]) (by kernel_rfl) (snapL_cons rfl (snapL_cons rfl (snapL_nil _))) (all2_cons (fle_refl _) (all2_cons (fle_refl _) all2_nil)) (ref01_Is_ok x13 a2) (fun _ => rfl) (fun _ => rfl) ?_
          intro x14 h14
          refine jr_seg 5 1 [0, 1, 2, 26] [] (st1 := ⟨[(0, .av (bs a0)), (1, .av (iv x4)), (2, .av (iv a2)), (26, .av (bv x14))], [], 0⟩) (by kernel_rfl) ?_
          refine jr_nil rfl ?_
          exact jx_mid rfl (wk_ren [] (fix_nil _) rfl (by kernel_rfl) allp_nil)
        · intro _
          refine jr_seg 0 6 [0, 1, 2, 26] [] (st1 := ⟨[(0, .av (bs a0)), (1, .av (iv x4)), (2, .av (iv a2)), (26, .av (bv false))], [], 0⟩) (by kernel_rfl) ?_
          refine jr_nil rfl ?_
          exact jx_mid rfl (wk_ren [] (fix_nil _) rfl (by kernel_rfl) allp_nil)
      · intro x12
        refine jr_nil rfl ?_
        refine jx_seqN ?_
        refine jc_cond (g := 26) (c := x12) (by kernel_rfl) ?_ ?_
        · intro _
          refine jc_skip ?_
          refine jx_seqN ?_
          refine jc_block ?_
          refine jc_reg ?_
          refine jr_seg 0 3 [0, 1, 2] [] (st1 := ⟨[(0, .av (bs a0)), (1, .av (iv (w64 (x4 + 1)))), (2, .av (iv a2))], [], 0⟩) (by kernel_rfl) ?_
          refine jr_nil rfl ?_
          refine jx_blkN ?_
          exact jx_next (wk_ren [] (fix_nil _) rfl (by kernel_rfl) allp_nil)
        · intro _
          refine jc_exit ?_
          refine jx_seqE ?_
          exact jx_done rfl nofun (wk_ren [] (fix_nil _) rfl (by kernel_rfl) allp_nil)
    · intro x9
      refine jx_blkE ?_
      refine jx_seqN ?_
      refine jc_seq ?_
      refine jc_reg ?_
      refine jr_seg 0 2 [6] [] (st1 := ⟨[(6, .av (iv x9))], [], 0⟩) (by kernel_rfl) ?_
      refine jr_nil rfl ?_
      refine jx_seqN ?_
      refine jc_ret ?_
      exact jx_retF (.inr rfl) (v := iv x9) (by kernel_rfl) rfl (fle_refl _))
end Go.Vm

set_option maxRecDepth 100000
set_option maxHeartbeats 0
set_option linter.unusedVariables false
set_option linter.unusedSimpArgs false
namespace Go.Vm
open Go
abbrev ref05_Byte_r1 : List LO := [⟨some 2, Op.assign (Operand.const (Value.bool false)), 4, none⟩]
abbrev ref05_Byte_b2 : LC := .reg false ref05_Byte_r1
abbrev ref05_Byte_r3 : List LO := [⟨some 3, Op.move (Operand.tmp 0), 5, none⟩,
  ⟨some 4, Op.call { callee := Callee.value (Operand.func 27), args := #[Operand.tmp 3, Operand.const (Value.int IntKind.i64 5)], argTypes := #[5, 3] }, 4, none⟩,
  ⟨some 5, Op.move (Operand.tmp 4), 4, none⟩,
  ⟨some 6, Op.move (Operand.tmp 0), 5, (some (5, false))⟩,
  ⟨some 7, Op.binOp BinOp.eql 5 (Operand.tmp 6) (Operand.const (Value.int IntKind.u8 46)) 5, 4, (some (5, false))⟩,
  ⟨some 8, Op.pick (Operand.tmp 5) (Operand.const (Value.bool true)) (Operand.tmp 7), 4, none⟩,
  ⟨some 9, Op.move (Operand.tmp 8), 4, none⟩,
  ⟨some 10, Op.move (Operand.tmp 0), 5, (some (9, false))⟩,
  ⟨some 11, Op.binOp BinOp.eql 5 (Operand.tmp 10) (Operand.const (Value.int IntKind.u8 95)) 5, 4, (some (9, false))⟩,
  ⟨some 12, Op.pick (Operand.tmp 9) (Operand.const (Value.bool true)) (Operand.tmp 11), 4, none⟩,
  ⟨some 13, Op.move (Operand.tmp 12), 4, none⟩,
  ⟨some 14, Op.move (Operand.tmp 0), 5, (some (13, false))⟩,
  ⟨some 15, Op.binOp BinOp.eql 5 (Operand.tmp 14) (Operand.const (Value.int IntKind.u8 43)) 5, 4, (some (13, false))⟩,
  ⟨some 16, Op.pick (Operand.tmp 13) (Operand.const (Value.bool true)) (Operand.tmp 15), 4, none⟩,
  ⟨some 17, Op.move (Operand.tmp 16), 4, none⟩,
  ⟨some 18, Op.move (Operand.tmp 0), 5, (some (17, false))⟩,
  ⟨some 19, Op.binOp BinOp.eql 5 (Operand.tmp 18) (Operand.const (Value.int IntKind.u8 126)) 5, 4, (some (17, false))⟩,
  ⟨some 20, Op.pick (Operand.tmp 17) (Operand.const (Value.bool true)) (Operand.tmp 19), 4, none⟩,
  ⟨some 21, Op.move (Operand.tmp 20), 4, none⟩,
  ⟨some 22, Op.move (Operand.tmp 0), 5, (some (21, false))⟩,
  ⟨some 23, Op.binOp BinOp.eql 5 (Operand.tmp 22) (Operand.const (Value.int IntKind.u8 94)) 5, 4, (some (21, false))⟩,
  ⟨some 24, Op.pick (Operand.tmp 21) (Operand.const (Value.bool true)) (Operand.tmp 23), 4, none⟩,
  ⟨some 2, Op.assign (Operand.tmp 24), 4, none⟩]
abbrev ref05_Byte_b4 : LC := .reg false ref05_Byte_r3
abbrev ref05_Byte_b5 : LC := .seq ref05_Byte_b4 .ret
abbrev ref05_Byte_b6 : LC := .seq ref05_Byte_b2 ref05_Byte_b5
theorem ref05_Byte_k : FnOk E 119 25 [.tmp 2] ref05_Byte_b6 := ⟨⟨Go.Proofs.Tryd.f119, by kernel_rfl, by kernel_rfl, by kernel_rfl, by kernel_rfl, by kernel_rfl⟩, rfl⟩
noncomputable def ref05_Byte (a0 : Int) : Option (Bool) := Option.bind (ref01_Is a0 5) (fun x1 => some (((((x1 || (a0 == 46)) || (a0 == 95)) || (a0 == 43)) || (a0 == 126)) || (a0 == 94)))
theorem ref05_Byte_ok (a0 : Int) : Ct E 119 [.s (.int .u8 a0)] (ref05_Byte a0) (fun r : Bool => bv r) := ct_intro (N := 25) (L := ref05_Byte_b6) ref05_Byte_k rfl (Nat.le_of_ble_eq_true rfl) (by kernel_rfl) (by
  unfold ref05_Byte
  refine jc_seq ?_
  refine jc_reg ?_
  refine jr_seg 0 1 [0] [] (st1 := ⟨[(0, .av (.s (.int .u8 a0)))], [], 0⟩) (by kernel_rfl) ?_
  refine jr_nil rfl ?_
  refine jx_seqN ?_
  refine jc_seq ?_
  refine jc_reg ?_
  refine jr_seg 0 1 [0, 3] [] (st1 := ⟨[(0, .av (.s (.int .u8 a0))), (3, .av (.s (.int .u8 a0)))], [], 0⟩) (by kernel_rfl) ?_
  refine jr_callF (i := 1) rfl rfl rfl rfl (vs := [.s (.int .u8 a0), iv 5]) (by kernel_rfl) (snapL_cons rfl (snapL_cons rfl (snapL_nil _))) (all2_cons (fle_refl _) (all2_cons (fle_refl _) all2_nil)) (ref01_Is_ok a0 5) (fun _ => rfl) (fun _ => rfl) ?_
  intro x1 h1
  refine jr_seg 2 21 [2] [] (st1 := ⟨[(2, .av (bv (((((x1 || (a0 == 46)) || (a0 == 95)) || (a0 == 43)) || (a0 == 126)) || (a0 == 94))))], [], 0⟩) (by kernel_rfl) ?_
  refine jr_nil rfl ?_
  refine jx_seqN ?_
  refine jc_ret ?_
  exact jx_retF (.inr rfl) (v := bv (((((x1 || (a0 == 46)) || (a0 == 95)) || (a0 == 43)) || (a0 == 126)) || (a0 == 94))) (by kernel_rfl) rfl (fle_refl _))
end Go.Vm

set_option maxRecDepth 100000
set_option maxHeartbeats 0
set_option linter.unusedVariables false
set_option linter.unusedSimpArgs false
namespace Go.Vm
open Go
abbrev ref05_run_r1 : List LO := [⟨some 4, Op.assign (Operand.const (Value.int IntKind.i64 0)), 3, none⟩]
abbrev ref05_run_b2 : LC := .reg false ref05_run_r1
abbrev ref05_run_r3 : List LO := [⟨some 5, Op.move (Operand.tmp 1), 3, none⟩,
  ⟨some 6, Op.move (Operand.tmp 0), 9, none⟩,
  ⟨some 7, Op.call { callee := Callee.builtin Builtin.len, args := #[Operand.tmp 6], argTypes := #[9] }, 3, none⟩,
  ⟨some 8, Op.binOp BinOp.lss 3 (Operand.tmp 5) (Operand.tmp 7) 3, 4, none⟩,
  ⟨some 9, Op.move (Operand.tmp 8), 4, none⟩,
  ⟨some 10, Op.move (Operand.tmp 0), 9, (some (9, true))⟩,
  ⟨some 11, Op.move (Operand.tmp 1), 3, (some (9, true))⟩,
  ⟨some 12, Op.index 9 (Operand.tmp 10) (Operand.tmp 11), 5, (some (9, true))⟩,
  ⟨some 13, Op.call { callee := Callee.value (Operand.func 119), args := #[Operand.tmp 12], argTypes := #[5] }, 4, (some (9, true))⟩,
  ⟨some 14, Op.pick (Operand.tmp 9) (Operand.tmp 13) (Operand.const (Value.bool false)), 4, none⟩]
abbrev ref05_run_b4 : LC := .reg false ref05_run_r3
abbrev ref05_run_b5 : LC := .cond (Operand.tmp 14) .skip (.exit 0)
abbrev ref05_run_b6 : LC := .seq ref05_run_b4 ref05_run_b5
abbrev ref05_run_r7 : List LO := [⟨some 15, Op.move (Operand.tmp 1), 3, none⟩,
  ⟨some 16, Op.binOp BinOp.add 3 (Operand.tmp 15) (Operand.const (Value.int IntKind.i64 1)) 3, 3, none⟩,
  ⟨some 1, Op.assign (Operand.tmp 16), 3, none⟩]
abbrev ref05_run_b8 : LC := .reg false ref05_run_r7
abbrev ref05_run_b9 : LC := .block 1 ref05_run_b8
abbrev ref05_run_b10 : LC := .seq ref05_run_b6 ref05_run_b9
abbrev ref05_run_b11 : LC := .loop ref05_run_b10
abbrev ref05_run_b12 : LC := .block 0 ref05_run_b11
abbrev ref05_run_r13 : List LO := [⟨some 17, Op.move (Operand.tmp 1), 3, none⟩,
  ⟨some 4, Op.assign (Operand.tmp 17), 3, none⟩]
abbrev ref05_run_b14 : LC := .reg false ref05_run_r13
abbrev ref05_run_b15 : LC := .seq ref05_run_b14 .ret
abbrev ref05_run_b16 : LC := .seq ref05_run_b12 ref05_run_b15
abbrev ref05_run_b17 : LC := .seq ref05_run_b2 ref05_run_b16
theorem ref05_run_k : FnOk E 78 18 [.tmp 4] ref05_run_b17 := ⟨⟨Go.Proofs.Tryd.f78, by kernel_rfl, by kernel_rfl, by kernel_rfl, by kernel_rfl, by kernel_rfl⟩, rfl⟩
noncomputable def ref05_run_l1 (a0 : Str) : Int → Option (Step (Int) (Int)) := fun x4 => Option.bind (if (decide (x4 < (List.length a0 : Int))) = true then Option.bind (idx a0 x4) (fun x13 => Option.bind (ref05_Byte x13) (fun x14 => some x14)) else some false : Option (Bool)) (fun x12 => (if x12 = true then some (Step.next (w64 (x4 + 1))) else some (Step.done x4)))
noncomputable def ref05_run (a0 : Str) (a1 : Int) : Option (Int) := Option.bind (loopC (ref05_run_l1 a0) a1) (fun x9 => some x9)
theorem ref05_run_ok (a0 : Str) (a1 : Int) : Ct E 78 [bs a0, iv a1] (ref05_run a0 a1) (fun r : Int => iv r) := ct_intro (N := 18) (L := ref05_run_b17) ref05_run_k rfl (Nat.le_of_ble_eq_true rfl) (by kernel_rfl) (by
  unfold ref05_run
  refine jc_seq ?_
  refine jc_reg ?_
  refine jr_seg 0 1 [0, 1] [] (st1 := ⟨[(0, .av (bs a0)), (1, .av (iv a1))], [], 0⟩) (by kernel_rfl) ?_
  refine jr_nil rfl ?_
  refine jx_seqN ?_
  refine jc_seq ?_
  refine jc_block ?_
  refine jc_bind (fun x9 => ⟨[(1, .av (iv x9))], [], 0⟩) (fun x9 => (.exit 0)) (jc_loop (fun x4 => ⟨[(0, .av (bs a0)), (1, .av (iv x4))], [], 0⟩) (wk_ren [] (fix_nil _) rfl (by kernel_rfl) allp_nil) ?_) ?_
  · intro x4
    unfold ref05_run_l1
    refine jc_seq ?_
    refine jc_seq ?_
    refine jc_reg ?_
    refine jr_seg 0 5 [0, 1, 9] [] (st1 := ⟨[(0, .av (bs a0)), (1, .av (iv x4)), (9, .av (bv (decide (x4 < (List.length a0 : Int)))))], [], 0⟩) (by kernel_rfl) ?_
    refine jr_bind 5 5 (fun x12 => ⟨[(0, .av (bs a0)), (1, .av (iv x4)), (14, .av (bv x12))], [], 0⟩) ?_ ?_
    · refine jr_split (g := 9) (c := (decide (x4 < (List.length a0 : Int)))) (by kernel_rfl) ?_ ?_
      · intro _
        refine jr_seg 0 2 [0, 1, 9, 10, 11] [] (st1 := ⟨[(0, .av (bs a0)), (1, .av (iv x4)), (9, .lit true), (10, .av (bs a0)), (11, .av (iv x4))], [], 0⟩) (by kernel_rfl) ?_
        refine jr_part (i := 2) (mo := idx a0 x4) rfl rfl rfl rfl (fun _ hc => aop_index (kk := .i64) (by kernel_rfl) (by kernel_rfl) (by kernel_rfl) hc) (fun _ => rfl) ?_
        intro x13 h13
        refine jr_callF (i := 3) rfl rfl rfl rfl (vs := [.s (.int .u8 x13)]) (by kernel_rfl) (snapL_cons rfl (snapL_nil _)) (all2_cons (fle_refl _) all2_nil) (ref05_Byte_ok x13) (fun _ => rfl) (fun _ => rfl) ?_
        intro x14 h14
        refine jr_seg 4 1 [0, 1, 14] [] (st1 := ⟨[(0, .av (bs a0)), (1, .av (iv x4)), (14, .av (bv x14))], [], 0⟩) (by kernel_rfl) ?_
        refine jr_nil rfl ?_
        exact jx_mid rfl (wk_ren [] (fix_nil _) rfl (by kernel_rfl) allp_nil)
      · intro _
        refine jr_seg 0 5 [0, 1, 14] [] (st1 := ⟨[(0, .av (bs a0)), (1, .av (iv x4)), (14, .av (bv false))], [], 0⟩) (by kernel_rfl) ?_
        refine jr_nil rfl ?_
        exact jx_mid rfl (wk_ren [] (fix_nil _) rfl (by kernel_rfl) allp_nil)
    · intro x12
      refine jr_nil rfl ?_
      refine jx_seqN ?_
      refine jc_cond (g := 14) (c := x12) (by kernel_rfl) ?_ ?_
      · intro _
        refine jc_skip ?_
        refine jx_seqN ?_
        refine jc_block ?_
        refine jc_reg ?_
        refine jr_seg 0 3 [0, 1] [] (st1 := ⟨[(0, .av (bs a0)), (1, .av (iv (w64 (x4 + 1))))], [], 0⟩) (by kernel_rfl) ?_
        refine jr_nil rfl ?_
        refine jx_blkN ?_
        exact jx_next (wk_ren [] (fix_nil _) rfl (by kernel_rfl) allp_nil)
      · intro _
        refine jc_exit ?_
        refine jx_seqE ?_
        exact jx_done rfl nofun (wk_ren [] (fix_nil _) rfl (by kernel_rfl) allp_nil)
  · intro x9
    refine jx_blkE ?_
    refine jx_seqN ?_
    refine jc_seq ?_
    refine jc_reg ?_
    refine jr_seg 0 2 [4] [] (st1 := ⟨[(4, .av (iv x9))], [], 0⟩) (by kernel_rfl) ?_
    refine jr_nil rfl ?_
    refine jx_seqN ?_
    refine jc_ret ?_
    exact jx_retF (.inr rfl) (v := iv x9) (by kernel_rfl) rfl (fle_refl _))
end Go.Vm

set_option maxRecDepth 100000
set_option maxHeartbeats 0
set_option linter.unusedVariables false
set_option linter.unusedSimpArgs false
namespace Go.Vm
open Go
abbrev rpm_segments_1_it_r1 : List LO := [⟨some 3, Op.assign (Operand.const (Value.int IntKind.i64 0)), 3, none⟩]
abbrev rpm_segments_1_it_b2 : LC := .reg false rpm_segments_1_it_r1
abbrev rpm_segments_1_it_r3 : List LO := [⟨some 6, Op.move (Operand.tmp 3), 3, none⟩,
  ⟨some 7, Op.load 9 (Operand.tmp 1), 9, none⟩,
  ⟨some 8, Op.call { callee := Callee.builtin Builtin.len, args := #[Operand.tmp 7], argTypes := #[9] }, 3, none⟩,
  ⟨some 9, Op.binOp BinOp.lss 3 (Operand.tmp 6) (Operand.tmp 8) 3, 4, none⟩]
abbrev rpm_segments_1_it_b4 : LC := .reg false rpm_segments_1_it_r3
abbrev rpm_segments_1_it_b5 : LC := .cond (Operand.tmp 9) .skip (.exit 0)
abbrev rpm_segments_1_it_b6 : LC := .seq rpm_segments_1_it_b4 rpm_segments_1_it_b5
abbrev rpm_segments_1_it_r7 : List LO := [⟨some 10, Op.load 9 (Operand.tmp 1), 9, none⟩,
  ⟨some 11, Op.move (Operand.tmp 3), 3, none⟩,
  ⟨some 12, Op.move (Operand.tmp 3), 3, none⟩,
  ⟨some 13, Op.binOp BinOp.add 3 (Operand.tmp 12) (Operand.const (Value.int IntKind.i64 1)) 3, 3, none⟩,
  ⟨some 14, Op.slice 9 (Operand.tmp 10) (some (Operand.tmp 11)) (some (Operand.tmp 13)) none, 9, none⟩,
  ⟨some 15, Op.build 100 #[(1, Operand.tmp 14)], 100, none⟩,
  ⟨some 4, Op.alloc 100, 0, none⟩,
  ⟨none, Op.store 100 (Operand.tmp 4) (Operand.tmp 15), 0, none⟩]
abbrev rpm_segments_1_it_b8 : LC := .reg false rpm_segments_1_it_r7
abbrev rpm_segments_1_it_r9 : List LO := [⟨some 16, Op.load 9 (Operand.tmp 1), 9, none⟩,
  ⟨some 17, Op.move (Operand.tmp 3), 3, none⟩,
  ⟨some 18, Op.index 9 (Operand.tmp 16) (Operand.tmp 17), 5, none⟩,
  ⟨some 5, Op.assign (Operand.tmp 18), 5, none⟩]
abbrev rpm_segments_1_it_b10 : LC := .reg false rpm_segments_1_it_r9
abbrev rpm_segments_1_it_r11 : List LO := [⟨some 22, Op.move (Operand.tmp 5), 5, none⟩,
  ⟨some 23, Op.binOp BinOp.eql 5 (Operand.tmp 22) (Operand.const (Value.int IntKind.u8 126)) 5, 4, none⟩,
  ⟨some 21, Op.assign (Operand.tmp 23), 4, none⟩]
abbrev rpm_segments_1_it_b12 : LC := .reg false rpm_segments_1_it_r11
abbrev rpm_segments_1_it_r13 : List LO := [⟨some 24, Op.fieldAddr 100 (Operand.tmp 4) 0, 0, none⟩,
  ⟨none, Op.store 3 (Operand.tmp 24) (Operand.const (Value.int IntKind.i64 0)), 0, none⟩]
abbrev rpm_segments_1_it_b14 : LC := .reg false rpm_segments_1_it_r13
abbrev rpm_segments_1_it_r15 : List LO := [⟨some 26, Op.move (Operand.tmp 5), 5, none⟩,
  ⟨some 27, Op.binOp BinOp.eql 5 (Operand.tmp 26) (Operand.const (Value.int IntKind.u8 94)) 5, 4, none⟩,
  ⟨some 25, Op.assign (Operand.tmp 27), 4, none⟩]
abbrev rpm_segments_1_it_b16 : LC := .reg false rpm_segments_1_it_r15
abbrev rpm_segments_1_it_r17 : List LO := [⟨some 28, Op.fieldAddr 100 (Operand.tmp 4) 0, 0, none⟩,
  ⟨none, Op.store 3 (Operand.tmp 28) (Operand.const (Value.int IntKind.i64 2)), 0, none⟩]
abbrev rpm_segments_1_it_b18 : LC := .reg false rpm_segments_1_it_r17
abbrev rpm_segments_1_it_r19 : List LO := [⟨some 30, Op.move (Operand.tmp 5), 5, none⟩,
  ⟨some 31, Op.call { callee := Callee.value (Operand.func 26), args := #[Operand.tmp 30, Operand.const (Value.int IntKind.i64 1)], argTypes := #[5, 3] }, 4, none⟩,
  ⟨some 29, Op.assign (Operand.tmp 31), 4, none⟩]
abbrev rpm_segments_1_it_b20 : LC := .reg false rpm_segments_1_it_r19
abbrev rpm_segments_1_it_r21 : List LO := [⟨some 32, Op.load 9 (Operand.tmp 1), 9, none⟩,
  ⟨some 33, Op.move (Operand.tmp 3), 3, none⟩,
  ⟨some 34, Op.load 9 (Operand.tmp 1), 9, none⟩,
  ⟨some 35, Op.move (Operand.tmp 3), 3, none⟩,
  ⟨some 36, Op.call { callee := Callee.value (Operand.func 30), args := #[Operand.tmp 34, Operand.tmp 35, Operand.const (Value.int IntKind.i64 1)], argTypes := #[9, 3, 3] }, 3, none⟩,
  ⟨some 37, Op.slice 9 (Operand.tmp 32) (some (Operand.tmp 33)) (some (Operand.tmp 36)) none, 9, none⟩,
  ⟨some 38, Op.build 100 #[(0, Operand.const (Value.int IntKind.i64 4)), (1, Operand.tmp 37)], 100, none⟩,
  ⟨none, Op.store 100 (Operand.tmp 4) (Operand.tmp 38), 0, none⟩]
abbrev rpm_segments_1_it_b22 : LC := .reg true rpm_segments_1_it_r21
abbrev rpm_segments_1_it_r23 : List LO := [⟨some 40, Op.move (Operand.tmp 5), 5, none⟩,
  ⟨some 41, Op.call { callee := Callee.value (Operand.func 26), args := #[Operand.tmp 40, Operand.const (Value.int IntKind.i64 4)], argTypes := #[5, 3] }, 4, none⟩,
  ⟨some 39, Op.assign (Operand.tmp 41), 4, none⟩]
abbrev rpm_segments_1_it_b24 : LC := .reg false rpm_segments_1_it_r23
abbrev rpm_segments_1_it_r25 : List LO := [⟨some 42, Op.load 9 (Operand.tmp 1), 9, none⟩,
  ⟨some 43, Op.move (Operand.tmp 3), 3, none⟩,
  ⟨some 44, Op.load 9 (Operand.tmp 1), 9, none⟩,
  ⟨some 45, Op.move (Operand.tmp 3), 3, none⟩,
  ⟨some 46, Op.call { callee := Callee.value (Operand.func 30), args := #[Operand.tmp 44, Operand.tmp 45, Operand.const (Value.int IntKind.i64 4)], argTypes := #[9, 3, 3] }, 3, none⟩,
  ⟨some 47, Op.slice 9 (Operand.tmp 42) (some (Operand.tmp 43)) (some (Operand.tmp 46)) none, 9, none⟩,
  ⟨some 48, Op.build 100 #[(0, Operand.const (Value.int IntKind.i64 3)), (1, Operand.tmp 47)], 100, none⟩,
  ⟨none, Op.store 100 (Operand.tmp 4) (Operand.tmp 48), 0, none⟩]
abbrev rpm_segments_1_it_b26 : LC := .reg true rpm_segments_1_it_r25
abbrev rpm_segments_1_it_r27 : List LO := [⟨some 19, Op.move (Operand.tmp 3), 3, none⟩,
  ⟨some 20, Op.binOp BinOp.add 3 (Operand.tmp 19) (Operand.const (Value.int IntKind.i64 1)) 3, 3, none⟩,
  ⟨some 3, Op.assign (Operand.tmp 20), 3, none⟩]
abbrev rpm_segments_1_it_b28 : LC := .reg false rpm_segments_1_it_r27
abbrev rpm_segments_1_it_b29 : LC := .seq rpm_segments_1_it_b28 (.exit 1)
abbrev rpm_segments_1_it_b30 : LC := .cond (Operand.tmp 39) rpm_segments_1_it_b26 rpm_segments_1_it_b29
abbrev rpm_segments_1_it_b31 : LC := .seq rpm_segments_1_it_b24 rpm_segments_1_it_b30
abbrev rpm_segments_1_it_b32 : LC := .cond (Operand.tmp 29) rpm_segments_1_it_b22 rpm_segments_1_it_b31
abbrev rpm_segments_1_it_b33 : LC := .seq rpm_segments_1_it_b20 rpm_segments_1_it_b32
abbrev rpm_segments_1_it_b34 : LC := .cond (Operand.tmp 25) rpm_segments_1_it_b18 rpm_segments_1_it_b33
abbrev rpm_segments_1_it_b35 : LC := .seq rpm_segments_1_it_b16 rpm_segments_1_it_b34
abbrev rpm_segments_1_it_b36 : LC := .cond (Operand.tmp 21) rpm_segments_1_it_b14 rpm_segments_1_it_b35
abbrev rpm_segments_1_it_b37 : LC := .seq rpm_segments_1_it_b12 rpm_segments_1_it_b36
abbrev rpm_segments_1_it_b38 : LC := .block 2 rpm_segments_1_it_b37
abbrev rpm_segments_1_it_b39 : LC := .seq rpm_segments_1_it_b10 rpm_segments_1_it_b38
abbrev rpm_segments_1_it_r40 : List LO := [⟨some 49, Op.move (Operand.tmp 3), 3, none⟩,
  ⟨some 50, Op.fieldAddr 100 (Operand.tmp 4) 1, 0, none⟩,
  ⟨some 51, Op.load 9 (Operand.tmp 50), 9, none⟩,
  ⟨some 52, Op.call { callee := Callee.builtin Builtin.len, args := #[Operand.tmp 51], argTypes := #[9] }, 3, none⟩,
  ⟨some 53, Op.binOp BinOp.add 3 (Operand.tmp 49) (Operand.tmp 52) 3, 3, none⟩,
  ⟨some 3, Op.assign (Operand.tmp 53), 3, none⟩]
abbrev rpm_segments_1_it_b41 : LC := .reg false rpm_segments_1_it_r40
abbrev rpm_segments_1_it_r42 : List LO := [⟨some 54, Op.move (Operand.tmp 0), 135, none⟩,
  ⟨some 55, Op.load 100 (Operand.tmp 4), 100, none⟩,
  ⟨some 56, Op.call { callee := Callee.value (Operand.tmp 54), args := #[Operand.tmp 55], argTypes := #[100] }, 4, none⟩,
  ⟨some 57, Op.unOp UnOp.not 4 (Operand.tmp 56), 4, none⟩]
abbrev rpm_segments_1_it_b43 : LC := .reg false rpm_segments_1_it_r42
abbrev rpm_segments_1_it_b44 : LC := .cond (Operand.tmp 57) .ret .skip
abbrev rpm_segments_1_it_b45 : LC := .seq rpm_segments_1_it_b43 rpm_segments_1_it_b44
abbrev rpm_segments_1_it_b46 : LC := .seq rpm_segments_1_it_b41 rpm_segments_1_it_b45
abbrev rpm_segments_1_it_b47 : LC := .seq rpm_segments_1_it_b39 rpm_segments_1_it_b46
abbrev rpm_segments_1_it_b48 : LC := .seq rpm_segments_1_it_b8 rpm_segments_1_it_b47
abbrev rpm_segments_1_it_b49 : LC := .block 1 rpm_segments_1_it_b48
abbrev rpm_segments_1_it_b50 : LC := .seq rpm_segments_1_it_b6 rpm_segments_1_it_b49
abbrev rpm_segments_1_it_b51 : LC := .loop rpm_segments_1_it_b50
abbrev rpm_segments_1_it_b52 : LC := .block 0 rpm_segments_1_it_b51
abbrev rpm_segments_1_it_b53 : LC := .seq rpm_segments_1_it_b2 rpm_segments_1_it_b52
abbrev rpm_segments_1_it_r54 : List LO := [⟨some 58, Op.move (Operand.tmp 0), 135, none⟩,
  ⟨some 59, Op.build 100 #[(0, Operand.const (Value.int IntKind.i64 1))], 100, none⟩,
  ⟨some 60, Op.call { callee := Callee.value (Operand.tmp 58), args := #[Operand.tmp 59], argTypes := #[100] }, 4, none⟩]
abbrev rpm_segments_1_it_b55 : LC := .reg false rpm_segments_1_it_r54
abbrev rpm_segments_1_it_b56 : LC := .seq rpm_segments_1_it_b53 rpm_segments_1_it_b55
theorem rpm_segments_1_it_k : FnOk E 120 61 [] rpm_segments_1_it_b56 := ⟨⟨Go.Proofs.Tryd.f120, by kernel_rfl, by kernel_rfl, by kernel_rfl, by kernel_rfl, by kernel_rfl⟩, rfl⟩
end Go.Vm

set_option maxRecDepth 100000
set_option maxHeartbeats 0
set_option linter.unusedVariables false
set_option linter.unusedSimpArgs false
namespace Go.Vm
open Go
abbrev rpm_segments_r1 : List LO := [⟨some 1, Op.box 9 (Operand.tmp 0), 0, none⟩,
  ⟨some 2, Op.assign (Operand.const Value.nilFunc), 97, none⟩]
abbrev rpm_segments_b2 : LC := .reg false rpm_segments_r1
abbrev rpm_segments_r3 : List LO := [⟨some 3, Op.makeFunc (Fn.func 120) #[] #[Operand.tmp 1], 96, none⟩,
  ⟨some 2, Op.assign (Operand.tmp 3), 97, none⟩]
abbrev rpm_segments_b4 : LC := .reg false rpm_segments_r3
abbrev rpm_segments_b5 : LC := .seq rpm_segments_b4 .ret
abbrev rpm_segments_b6 : LC := .seq rpm_segments_b2 rpm_segments_b5
theorem rpm_segments_k : FnOk E 80 4 [.tmp 2] rpm_segments_b6 := ⟨⟨Go.Proofs.Tryd.f80, by kernel_rfl, by kernel_rfl, by kernel_rfl, by kernel_rfl, by kernel_rfl⟩, rfl⟩
noncomputable def rpm_segments (a0 : Str) : Option (Str) := some a0
theorem rpm_segments_ok (a0 : Str) : Ct E 80 [bs a0] (rpm_segments a0) (fun r : Str => .fn 120 [.fptr [bs r] 0]) := ct_intro (N := 4) (L := rpm_segments_b6) rpm_segments_k rfl (Nat.le_of_ble_eq_true rfl) (by kernel_rfl) (by
  unfold rpm_segments
  refine jc_seq ?_
  refine jc_reg ?_
  refine jr_seg 0 2 [1] [0] (st1 := ⟨[(1, .av (.ptr 0 0 1 0))], [(0, .rows 1 [[bs a0]])], 1⟩) (by kernel_rfl) ?_
  refine jr_nil rfl ?_
  refine jx_seqN ?_
  refine jc_seq ?_
  refine jc_reg ?_
  refine jr_seg 0 2 [2] [0] (st1 := ⟨[(2, .av (.fn 120 [.ptr 0 0 1 0]))], [(0, .rows 1 [[bs a0]])], 1⟩) (by kernel_rfl) ?_
  refine jr_nil rfl ?_
  refine jx_seqN ?_
  refine jc_ret ?_
  exact jx_retF (.inr rfl) (v := .fn 120 [.ptr 0 0 1 0]) (u := .fn 120 [.fptr [bs a0] 0]) (q := true) (by kernel_rfl) (by kernel_rfl) (fle_refl _))
end Go.Vm

set_option maxRecDepth 100000
set_option maxHeartbeats 0
set_option linter.unusedVariables false
set_option linter.unusedSimpArgs false
namespace Go.Vm
open Go
abbrev rpm_Segments_r1 : List LO := [⟨some 4, Op.assign (Operand.const (Value.int IntKind.i64 0)), 3, none⟩]
abbrev rpm_Segments_b2 : LC := .reg false rpm_Segments_r1
abbrev rpm_Segments_r3 : List LO := [⟨some 5, Op.alloc 95, 0, none⟩]
abbrev rpm_Segments_b4 : LC := .reg false rpm_Segments_r3
abbrev rpm_Segments_r5 : List LO := [⟨some 10, Op.move (Operand.tmp 0), 9, none⟩,
  ⟨some 11, Op.call { callee := Callee.value (Operand.func 80), args := #[Operand.tmp 10], argTypes := #[9] }, 97, none⟩]
abbrev rpm_Segments_b6 : LC := .reg false rpm_Segments_r5
abbrev rpm_Segments_r7 : List LO := [⟨some 6, Op.alloc 100, 0, none⟩,
  ⟨none, Op.store 100 (Operand.tmp 6) (Operand.tmp 12), 0, none⟩]
abbrev rpm_Segments_b8 : LC := .reg false rpm_Segments_r7
abbrev rpm_Segments_r9 : List LO := [⟨some 13, Op.load 95 (Operand.tmp 5), 95, none⟩,
  ⟨some 14, Op.load 100 (Operand.tmp 6), 100, none⟩,
  ⟨some 15, Op.buildSlice 95 1 #[(0, Operand.tmp 14)], 95, none⟩,
  ⟨some 16, Op.call { callee := Callee.builtin Builtin.append, args := #[Operand.tmp 13, Operand.tmp 15], argTypes := #[95, 95] }, 95, none⟩,
  ⟨none, Op.store 95 (Operand.tmp 5) (Operand.tmp 16), 0, none⟩]
abbrev rpm_Segments_b10 : LC := .reg false rpm_Segments_r9
abbrev rpm_Segments_b11 : LC := .block 1 rpm_Segments_b10
noncomputable def rpm_Segments_y12_a0 : Code := codeSub (bodyOf Go.Proofs.Tryd.f39) [1, 0, 1, 0, 1, 0, 0]
theorem rpm_Segments_y12_aw : lower E rpm_Segments_y12_a0 = some rpm_Segments_b8 := by kernel_rfl
noncomputable def rpm_Segments_y12_b0 : Code := codeSub (bodyOf Go.Proofs.Tryd.f39) [1, 0, 1, 0, 1, 0, 1]
theorem rpm_Segments_y12_bw : lower E rpm_Segments_y12_b0 = some rpm_Segments_b11 := by kernel_rfl
noncomputable abbrev rpm_Segments_b13 : LC := .rng (Operand.tmp 11) [12] rpm_Segments_y12_a0 rpm_Segments_y12_b0
noncomputable abbrev rpm_Segments_b14 : LC := .block 0 rpm_Segments_b13
noncomputable abbrev rpm_Segments_b15 : LC := .seq rpm_Segments_b6 rpm_Segments_b14
abbrev rpm_Segments_r16 : List LO := [⟨some 7, Op.alloc 3, 0, none⟩,
  ⟨none, Op.store 3 (Operand.tmp 7) (Operand.const (Value.int IntKind.i64 0)), 0, none⟩]
abbrev rpm_Segments_b17 : LC := .reg false rpm_Segments_r16
abbrev rpm_Segments_r18 : List LO := [⟨some 17, Op.move (Operand.tmp 1), 9, none⟩,
  ⟨some 18, Op.call { callee := Callee.value (Operand.func 80), args := #[Operand.tmp 17], argTypes := #[9] }, 97, none⟩]
abbrev rpm_Segments_b19 : LC := .reg false rpm_Segments_r18
abbrev rpm_Segments_r20 : List LO := [⟨some 8, Op.alloc 100, 0, none⟩,
  ⟨none, Op.store 100 (Operand.tmp 8) (Operand.tmp 19), 0, none⟩]
abbrev rpm_Segments_b21 : LC := .reg false rpm_Segments_r20
abbrev rpm_Segments_r22 : List LO := [⟨some 20, Op.load 95 (Operand.tmp 5), 95, none⟩,
  ⟨some 21, Op.call { callee := Callee.builtin Builtin.len, args := #[Operand.tmp 20], argTypes := #[95] }, 3, none⟩,
  ⟨some 22, Op.binOp BinOp.eql 3 (Operand.tmp 21) (Operand.const (Value.int IntKind.i64 0)) 3, 4, none⟩]
abbrev rpm_Segments_b23 : LC := .reg false rpm_Segments_r22
abbrev rpm_Segments_b24 : LC := .cond (Operand.tmp 22) (.exit 2) .skip
abbrev rpm_Segments_b25 : LC := .seq rpm_Segments_b23 rpm_Segments_b24
abbrev rpm_Segments_r26 : List LO := [⟨some 23, Op.load 95 (Operand.tmp 5), 95, none⟩,
  ⟨some 24, Op.indexAddr 95 (Operand.tmp 23) (Operand.const (Value.int IntKind.i64 0)), 0, none⟩,
  ⟨some 25, Op.load 100 (Operand.tmp 24), 100, none⟩,
  ⟨some 9, Op.alloc 100, 0, none⟩,
  ⟨none, Op.store 100 (Operand.tmp 9) (Operand.tmp 25), 0, none⟩]
abbrev rpm_Segments_b27 : LC := .reg false rpm_Segments_r26
abbrev rpm_Segments_r28 : List LO := [⟨some 26, Op.load 95 (Operand.tmp 5), 95, none⟩,
  ⟨some 27, Op.slice 95 (Operand.tmp 26) (some (Operand.const (Value.int IntKind.i64 1))) none none, 95, none⟩,
  ⟨none, Op.store 95 (Operand.tmp 5) (Operand.tmp 27), 0, none⟩]
abbrev rpm_Segments_b29 : LC := .reg false rpm_Segments_r28
abbrev rpm_Segments_r30 : List LO := [⟨some 28, Op.fieldAddr 100 (Operand.tmp 9) 0, 0, none⟩,
  ⟨some 29, Op.load 3 (Operand.tmp 28), 3, none⟩,
  ⟨some 30, Op.fieldAddr 100 (Operand.tmp 8) 0, 0, none⟩,
  ⟨some 31, Op.load 3 (Operand.tmp 30), 3, none⟩,
  ⟨some 32, Op.call { callee := Callee.value (Operand.func 65), args := #[Operand.tmp 29, Operand.tmp 31], argTypes := #[3, 3] }, 3, none⟩,
  ⟨none, Op.store 3 (Operand.tmp 7) (Operand.tmp 32), 0, none⟩]
abbrev rpm_Segments_b31 : LC := .reg false rpm_Segments_r30
abbrev rpm_Segments_r32 : List LO := [⟨some 33, Op.load 3 (Operand.tmp 7), 3, none⟩,
  ⟨some 34, Op.binOp BinOp.eql 3 (Operand.tmp 33) (Operand.const (Value.int IntKind.i64 0)) 3, 4, none⟩,
  ⟨some 35, Op.move (Operand.tmp 34), 4, none⟩,
  ⟨some 36, Op.fieldAddr 100 (Operand.tmp 9) 0, 0, (some (35, true))⟩,
  ⟨some 37, Op.load 3 (Operand.tmp 36), 3, (some (35, true))⟩,
  ⟨some 38, Op.binOp BinOp.eql 3 (Operand.tmp 37) (Operand.const (Value.int IntKind.i64 4)) 3, 4, (some (35, true))⟩,
  ⟨some 39, Op.pick (Operand.tmp 35) (Operand.tmp 38) (Operand.const (Value.bool false)), 4, none⟩]
abbrev rpm_Segments_b33 : LC := .reg false rpm_Segments_r32
abbrev rpm_Segments_r34 : List LO := [⟨some 40, Op.fieldAddr 100 (Operand.tmp 9) 1, 0, none⟩,
  ⟨some 41, Op.load 9 (Operand.tmp 40), 9, none⟩,
  ⟨some 42, Op.fieldAddr 100 (Operand.tmp 8) 1, 0, none⟩,
  ⟨some 43, Op.load 9 (Operand.tmp 42), 9, none⟩,
  ⟨some 44, Op.call { callee := Callee.value (Operand.func 17), args := #[Operand.tmp 41, Operand.tmp 43], argTypes := #[9, 9] }, 3, none⟩,
  ⟨none, Op.store 3 (Operand.tmp 7) (Operand.tmp 44), 0, none⟩]
abbrev rpm_Segments_b35 : LC := .reg false rpm_Segments_r34
abbrev rpm_Segments_b36 : LC := .cond (Operand.tmp 39) rpm_Segments_b35 .skip
abbrev rpm_Segments_b37 : LC := .seq rpm_Segments_b33 rpm_Segments_b36
abbrev rpm_Segments_r38 : List LO := [⟨some 45, Op.load 3 (Operand.tmp 7), 3, none⟩,
  ⟨some 46, Op.binOp BinOp.eql 3 (Operand.tmp 45) (Operand.const (Value.int IntKind.i64 0)) 3, 4, none⟩,
  ⟨some 47, Op.move (Operand.tmp 46), 4, none⟩,
  ⟨some 48, Op.fieldAddr 100 (Operand.tmp 9) 0, 0, (some (47, true))⟩,
  ⟨some 49, Op.load 3 (Operand.tmp 48), 3, (some (47, true))⟩,
  ⟨some 50, Op.binOp BinOp.eql 3 (Operand.tmp 49) (Operand.const (Value.int IntKind.i64 3)) 3, 4, (some (47, true))⟩,
  ⟨some 51, Op.pick (Operand.tmp 47) (Operand.tmp 50) (Operand.const (Value.bool false)), 4, none⟩]
abbrev rpm_Segments_b39 : LC := .reg false rpm_Segments_r38
abbrev rpm_Segments_r40 : List LO := [⟨some 52, Op.fieldAddr 100 (Operand.tmp 9) 1, 0, none⟩,
  ⟨some 53, Op.load 9 (Operand.tmp 52), 9, none⟩,
  ⟨some 54, Op.fieldAddr 100 (Operand.tmp 8) 1, 0, none⟩,
  ⟨some 55, Op.load 9 (Operand.tmp 54), 9, none⟩,
  ⟨some 56, Op.call { callee := Callee.value (Operand.func 66), args := #[Operand.tmp 53, Operand.tmp 55], argTypes := #[9, 9] }, 3, none⟩,
  ⟨none, Op.store 3 (Operand.tmp 7) (Operand.tmp 56), 0, none⟩]
abbrev rpm_Segments_b41 : LC := .reg false rpm_Segments_r40
abbrev rpm_Segments_b42 : LC := .cond (Operand.tmp 51) rpm_Segments_b41 .skip
abbrev rpm_Segments_b43 : LC := .seq rpm_Segments_b39 rpm_Segments_b42
abbrev rpm_Segments_r44 : List LO := [⟨some 57, Op.load 3 (Operand.tmp 7), 3, none⟩,
  ⟨some 58, Op.binOp BinOp.neq 3 (Operand.tmp 57) (Operand.const (Value.int IntKind.i64 0)) 3, 4, none⟩]
abbrev rpm_Segments_b45 : LC := .reg false rpm_Segments_r44
abbrev rpm_Segments_b46 : LC := .cond (Operand.tmp 58) (.exit 2) .skip
abbrev rpm_Segments_b47 : LC := .seq rpm_Segments_b45 rpm_Segments_b46
abbrev rpm_Segments_b48 : LC := .seq rpm_Segments_b43 rpm_Segments_b47
abbrev rpm_Segments_b49 : LC := .seq rpm_Segments_b37 rpm_Segments_b48
abbrev rpm_Segments_b50 : LC := .seq rpm_Segments_b31 rpm_Segments_b49
abbrev rpm_Segments_b51 : LC := .seq rpm_Segments_b29 rpm_Segments_b50
abbrev rpm_Segments_b52 : LC := .seq rpm_Segments_b27 rpm_Segments_b51
abbrev rpm_Segments_b53 : LC := .seq rpm_Segments_b25 rpm_Segments_b52
abbrev rpm_Segments_b54 : LC := .block 3 rpm_Segments_b53
noncomputable def rpm_Segments_y55_a0 : Code := codeSub (bodyOf Go.Proofs.Tryd.f39) [1, 0, 1, 1, 1, 1, 0, 1, 0, 0]
theorem rpm_Segments_y55_aw : lower E rpm_Segments_y55_a0 = some rpm_Segments_b21 := by kernel_rfl
noncomputable def rpm_Segments_y55_b0 : Code := codeSub (bodyOf Go.Proofs.Tryd.f39) [1, 0, 1, 1, 1, 1, 0, 1, 0, 1]
theorem rpm_Segments_y55_bw : lower E rpm_Segments_y55_b0 = some rpm_Segments_b54 := by kernel_rfl
noncomputable abbrev rpm_Segments_b56 : LC := .rng (Operand.tmp 18) [19] rpm_Segments_y55_a0 rpm_Segments_y55_b0
noncomputable abbrev rpm_Segments_b57 : LC := .block 2 rpm_Segments_b56
noncomputable abbrev rpm_Segments_b58 : LC := .seq rpm_Segments_b19 rpm_Segments_b57
abbrev rpm_Segments_r59 : List LO := [⟨some 59, Op.load 3 (Operand.tmp 7), 3, none⟩,
  ⟨some 4, Op.assign (Operand.tmp 59), 3, none⟩]
abbrev rpm_Segments_b60 : LC := .reg false rpm_Segments_r59
abbrev rpm_Segments_b61 : LC := .seq rpm_Segments_b60 .ret
noncomputable abbrev rpm_Segments_b62 : LC := .seq rpm_Segments_b58 rpm_Segments_b61
noncomputable abbrev rpm_Segments_b63 : LC := .seq .label rpm_Segments_b62
noncomputable abbrev rpm_Segments_b64 : LC := .seq rpm_Segments_b17 rpm_Segments_b63
noncomputable abbrev rpm_Segments_b65 : LC := .seq rpm_Segments_b15 rpm_Segments_b64
noncomputable abbrev rpm_Segments_b66 : LC := .seq rpm_Segments_b4 rpm_Segments_b65
noncomputable abbrev rpm_Segments_b67 : LC := .scope rpm_Segments_b66
noncomputable abbrev rpm_Segments_b68 : LC := .seq rpm_Segments_b2 rpm_Segments_b67
theorem rpm_Segments_k : FnOk E 39 60 [.tmp 4] rpm_Segments_b68 := ⟨⟨Go.Proofs.Tryd.f39, by kernel_rfl, by kernel_rfl, by kernel_rfl, by kernel_rfl, by kernel_rfl⟩, rfl⟩
noncomputable abbrev rpm_Segments_lp1 (a1 : Str) (x1 : Str) (q : LoopState) (p : Option Code) : AObj := .loop { state := q, pending := p, tmps := tl 60 [(1, .av (bs a1)), (5, .av (.ptr 0 0 1 0)), (11, .av (.fn 120 [.fptr [bs x1] 0]))] none, params := [12], assign := rpm_Segments_y12_a0, body := rpm_Segments_y12_b0 }
noncomputable def rpm_Segments_l1 (x1 : Str) : (Int × List S_rpm_segment) → Option (Step (Int × List S_rpm_segment) (List S_rpm_segment)) := fun (x14, x15) => (if (decide (x14 < (List.length x1 : Int))) = true then Option.bind (subl x1 x14 (w64 (x14 + 1))) (fun x31 => Option.bind (Option.bind (idx x1 x14) (fun x41 => (if (x41 == 126) = true then some (Sum.inl (0, x31)) else (if (x41 == 94) = true then some (Sum.inl (2, x31)) else Option.bind (scan_Is x41 1) (fun x42 => (if x42 = true then Option.bind (scan_Run x1 x14 1) (fun x43 => Option.bind (subl x1 x14 x43) (fun x44 => some (Sum.inl (4, x44)))) else Option.bind (scan_Is x41 4) (fun x45 => (if x45 = true then Option.bind (scan_Run x1 x14 4) (fun x46 => Option.bind (subl x1 x14 x46) (fun x47 => some (Sum.inl (3, x47)))) else some (Sum.inr ())))))))) : Option ((Int × Str) ⊕ (Unit))) (fun y => match y with | Sum.inl (x39, x40) => Option.bind (Option.bind (app 24 x15 [(S_rpm_segment.mk x39 x40)]) (fun x50 => some x50) : Option (List S_rpm_segment)) (fun x49 => some (Step.next ((w64 (x14 + (List.length x40 : Int))), x49))) | Sum.inr _ => some (Step.next ((w64 (x14 + 1)), x15)))) else some (Step.done x15))
noncomputable abbrev rpm_Segments_lp10 (x119 : Str) (q : LoopState) (p : Option Code) : AObj := .loop { state := q, pending := p, tmps := tl 60 [(5, .av (.ptr 0 0 1 0)), (7, .av (.ptr 4 0 1 0)), (18, .av (.fn 120 [.fptr [bs x119] 0]))] none, params := [19], assign := rpm_Segments_y55_a0, body := rpm_Segments_y55_b0 }
noncomputable def rpm_Segments_l2 (x119 : Str) : (Int × List S_rpm_segment × Int) → Option (Step (Int × List S_rpm_segment × Int) ((List S_rpm_segment × Int) ⊕ (List S_rpm_segment × Int))) := fun (x141, x142, x143) => (if (decide (x141 < (List.length x119 : Int))) = true then Option.bind (subl x119 x141 (w64 (x141 + 1))) (fun x172 => Option.bind (Option.bind (idx x119 x141) (fun x182 => (if (x182 == 126) = true then some (Sum.inl (0, x172)) else (if (x182 == 94) = true then some (Sum.inl (2, x172)) else Option.bind (scan_Is x182 1) (fun x183 => (if x183 = true then Option.bind (scan_Run x119 x141 1) (fun x184 => Option.bind (subl x119 x141 x184) (fun x185 => some (Sum.inl (4, x185)))) else Option.bind (scan_Is x182 4) (fun x186 => (if x186 = true then Option.bind (scan_Run x119 x141 4) (fun x187 => Option.bind (subl x119 x141 x187) (fun x188 => some (Sum.inl (3, x188)))) else some (Sum.inr ())))))))) : Option ((Int × Str) ⊕ (Unit))) (fun y => match y with | Sum.inl (x180, x181) => Option.bind ((if ((List.length x142 : Int) == 0) = true then some (Sum.inl (x142, x143)) else Option.bind (ixl x142 0) (fun x200 => Option.bind (subl x142 1 (List.length x142 : Int)) (fun x201 => Option.bind (cmp_Compare_int x200.kind x180) (fun x202 => Option.bind ((if ((x202 == 0) && (x200.kind == 4)) = true then Option.bind (scan_Cmp x200.text x181) (fun x205 => some x205) else some x202) : Option (Int)) (fun x204 => Option.bind ((if ((x204 == 0) && (x200.kind == 3)) = true then Option.bind (strings_Compare x200.text x181) (fun x208 => some x208) else some x204) : Option (Int)) (fun x207 => (if (x207 != 0) = true then some (Sum.inl (x201, x207)) else some (Sum.inr (x201, x207))))))))) : Option ((List S_rpm_segment × Int) ⊕ (List S_rpm_segment × Int))) (fun y => match y with | Sum.inl (x196, x197) => some (Step.done (Sum.inl (x196, x197))) | Sum.inr (x198, x199) => some (Step.next ((w64 (x141 + (List.length x181 : Int))), x198, x199))) | Sum.inr _ => some (Step.next ((w64 (x141 + 1)), x142, x143)))) else some (Step.done (Sum.inr (x142, x143))))
noncomputable def rpm_Segments (a0 : Str) (a1 : Str) : Option (Int) := Option.bind (rpm_segments a0) (fun x1 => Option.bind (loopC (rpm_Segments_l1 x1) (0, [])) (fun x30 => Option.bind (Option.bind (app 24 x30 [(S_rpm_segment.mk 1 [])]) (fun x53 => some x53) : Option (List S_rpm_segment)) (fun x52 => Option.bind (Option.bind (rpm_segments a1) (fun x119 => Option.bind (loopC (rpm_Segments_l2 x119) (0, x52, 0)) (fun y => match y with | Sum.inl (x168, x169) => some x169 | Sum.inr (x170, x171) => Option.bind ((if ((List.length x170 : Int) == 0) = true then some (Sum.inl (x170, x171)) else Option.bind (ixl x170 0) (fun x220 => Option.bind (subl x170 1 (List.length x170 : Int)) (fun x221 => Option.bind (cmp_Compare_int x220.kind 1) (fun x222 => Option.bind ((if ((x222 == 0) && (x220.kind == 4)) = true then Option.bind (scan_Cmp x220.text []) (fun x225 => some x225) else some x222) : Option (Int)) (fun x224 => Option.bind ((if ((x224 == 0) && (x220.kind == 3)) = true then Option.bind (strings_Compare x220.text []) (fun x228 => some x228) else some x224) : Option (Int)) (fun x227 => (if (x227 != 0) = true then some (Sum.inl (x221, x227)) else some (Sum.inr (x221, x227))))))))) : Option ((List S_rpm_segment × Int) ⊕ (List S_rpm_segment × Int))) (fun y => match y with | Sum.inl (x216, x217) => some x217 | Sum.inr (x218, x219) => some x219))) : Option (Int)) (fun x118 => some x118))))
theorem rpm_Segments_ok (a0 : Str) (a1 : Str) : Ct E 39 [bs a0, bs a1] (rpm_Segments a0 a1) (fun r : Int => iv r) := ct_intro (N := 60) (L := rpm_Segments_b68) rpm_Segments_k rfl (Nat.le_of_ble_eq_true rfl) (by kernel_rfl) (by
  unfold rpm_Segments
  refine jc_seq ?_
  refine jc_reg ?_
  refine jr_seg 0 1 [0, 1] [] (st1 := ⟨[(0, .av (bs a0)), (1, .av (bs a1))], [], 0⟩) (by kernel_rfl) ?_
  refine jr_nil rfl ?_
  refine jx_seqN ?_
  refine jc_scope ?_
  refine jc_seq ?_
  refine jc_reg ?_
  refine jr_seg 0 1 [0, 1, 5] [0] (st1 := ⟨[(0, .av (bs a0)), (1, .av (bs a1)), (5, .av (.ptr 0 0 1 0))], [(0, .rows 1 [[nilS]])], 1⟩) (by kernel_rfl) ?_
  refine jr_nil rfl ?_
  refine jx_seqN ?_
  refine jc_seq ?_
  refine jc_seq ?_
  refine jc_reg ?_
  refine jr_seg 0 1 [1, 5, 10] [0] (st1 := ⟨[(1, .av (bs a1)), (5, .av (.ptr 0 0 1 0)), (10, .av (bs a0))], [(0, .rows 1 [[nilS]])], 1⟩) (by kernel_rfl) ?_
  refine jr_callF (i := 1) rfl rfl rfl rfl (vs := [bs a0]) (by kernel_rfl) (snapL_cons rfl (snapL_nil _)) (all2_cons (fle_refl _) all2_nil) (rpm_segments_ok a0) (fun _ => rfl) (fun _ => rfl) ?_
  intro x1 h1
  refine jr_nil rfl ?_
  refine jx_seqN ?_
  refine jc_block ?_
  refine jc_keep [1, 5, 11] [0] (st1 := ⟨[(1, .av (bs a1)), (5, .av (.ptr 0 0 1 0)), (11, .av (.fn 120 [.fptr [bs x1] 0]))], [(0, .rows 1 [[nilS]])], 1⟩) (by kernel_rfl) ?_
  refine jc_rng (g := 120) (caps := [.fptr [bs x1] 0]) (by kernel_rfl) rpm_segments_1_it_k (Nat.le_of_ble_eq_true rfl) ?_
  intro F1 hc1
  refine jc_seq ?_
  refine jc_seq ?_
  refine jc_reg ?_
  refine jr_seg 0 1 [0, 1, 3] [0, 1] (st1 := ⟨[(0, .av (.yld 1)), (1, .av (.fptr [bs x1] 0)), (3, .av (iv 0))], [(0, .rows 1 [[nilS]]), (1, rpm_Segments_lp1 a1 x1 .ready none)], 2⟩) (by kernel_rfl) ?_
  refine jr_nil rfl ?_
  refine jx_seqN ?_
  refine jc_block ?_
  refine jc_bind (fun x30 => ⟨[(0, .av (.yld 1))], [(0, .rows 1 [[.osl 2 0 (List.length x30) 2]]), (1, rpm_Segments_lp1 a1 x1 .ready none), (2, .rows 2 (List.map c_S_rpm_segment x30))], 3⟩) (fun x30 => (.exit 0)) (jc_loop (fun (x14, x15) => ⟨[(0, .av (.yld 1)), (1, .av (.fptr [bs x1] 0)), (3, .av (iv x14))], [(0, .rows 1 [[.osl 2 0 (List.length x15) 2]]), (1, rpm_Segments_lp1 a1 x1 .ready none), (2, .rows 2 (List.map c_S_rpm_segment x15))], 3⟩) (wk_ren [(0, some 0), (1, some 1), (2, none)] (fix_of hc1.2.2 (k := 2) rfl) rfl (by kernel_rfl) (allp_cons (.inl ⟨0, _, _, _, rfl, rfl, rfl, .inl (by kernel_rfl)⟩) (allp_cons (.inr (.inr ⟨1, _, _, rfl, rfl, rfl, by kernel_rfl⟩)) (allp_cons (.inr (.inl ⟨rfl, _, rfl⟩)) allp_nil)))) ?_) ?_
  · rintro ⟨x14, x15⟩
    unfold rpm_Segments_l1
    refine jc_seq ?_
    refine jc_seq ?_
    refine jc_reg ?_
    refine jr_seg 0 4 [0, 1, 3, 9] [0, 1, 2] (st1 := ⟨[(0, .av (.yld 1)), (1, .av (.fptr [bs x1] 0)), (3, .av (iv x14)), (9, .av (bv (decide (x14 < (List.length x1 : Int)))))], [(0, .rows 1 [[.osl 2 0 (List.length x15) 2]]), (1, rpm_Segments_lp1 a1 x1 .ready none), (2, .rows 2 (List.map c_S_rpm_segment x15))], 3⟩) (by kernel_rfl) ?_
    refine jr_nil rfl ?_
    refine jx_seqN ?_
    refine jc_cond (g := 9) (c := (decide (x14 < (List.length x1 : Int)))) (by kernel_rfl) ?_ ?_
    · intro _
      refine jc_skip ?_
      refine jx_seqN ?_
      refine jc_block ?_
      refine jc_seq ?_
      refine jc_reg ?_
      refine jr_seg 0 4 [0, 1, 3, 10, 11, 13] [0, 1, 2] (st1 := ⟨[(0, .av (.yld 1)), (1, .av (.fptr [bs x1] 0)), (3, .av (iv x14)), (10, .av (bs x1)), (11, .av (iv x14)), (13, .av (iv (w64 (x14 + 1))))], [(0, .rows 1 [[.osl 2 0 (List.length x15) 2]]), (1, rpm_Segments_lp1 a1 x1 .ready none), (2, .rows 2 (List.map c_S_rpm_segment x15))], 3⟩) (by kernel_rfl) ?_
      refine jr_part (i := 4) (mo := subl x1 x14 (w64 (x14 + 1))) rfl rfl rfl rfl (fun _ hc => aop_subs (by kernel_rfl) (by kernel_rfl) (by kernel_rfl) (by kernel_rfl) hc) (fun _ => rfl) ?_
      intro x31 h31
      refine jr_seg 5 3 [0, 1, 3, 4] [0, 1, 2, 3] (st1 := ⟨[(0, .av (.yld 1)), (1, .av (.fptr [bs x1] 0)), (3, .av (iv x14)), (4, .av (.ptr 3 0 2 0))], [(0, .rows 1 [[.osl 2 0 (List.length x15) 2]]), (1, rpm_Segments_lp1 a1 x1 .ready none), (2, .rows 2 (List.map c_S_rpm_segment x15)), (3, .rows 2 [[iv 0, bs x31]])], 4⟩) (by kernel_rfl) ?_
      refine jr_nil rfl ?_
      refine jx_seqN ?_
      refine jc_seq ?_
      refine jc_bind (fun y => match y with | Sum.inl (x39, x40) => ⟨[(0, .av (.yld 1)), (1, .av (.fptr [bs x1] 0)), (3, .av (iv x14)), (4, .av (.ptr 2 0 2 0))], [(0, .rows 1 [[.osl 3 0 (List.length x15) 2]]), (1, rpm_Segments_lp1 a1 x1 .ready none), (2, .rows 2 [[iv x39, bs x40]]), (3, .rows 2 (List.map c_S_rpm_segment x15))], 4⟩ | Sum.inr _ => ⟨[(0, .av (.yld 1)), (1, .av (.fptr [bs x1] 0)), (3, .av (iv (w64 (x14 + 1))))], [(0, .rows 1 [[.osl 2 0 (List.length x15) 2]]), (1, rpm_Segments_lp1 a1 x1 .ready none), (2, .rows 2 (List.map c_S_rpm_segment x15))], 3⟩) (fun y => match y with | Sum.inl (x39, x40) => .normal | Sum.inr _ => (.exit 1)) ?_ ?_
      · refine jc_seq ?_
        refine jc_reg ?_
        refine jr_seg 0 2 [0, 1, 3, 4, 16, 17] [0, 1, 2, 3] (st1 := ⟨[(0, .av (.yld 1)), (1, .av (.fptr [bs x1] 0)), (3, .av (iv x14)), (4, .av (.ptr 3 0 2 0)), (16, .av (bs x1)), (17, .av (iv x14))], [(0, .rows 1 [[.osl 2 0 (List.length x15) 2]]), (1, rpm_Segments_lp1 a1 x1 .ready none), (2, .rows 2 (List.map c_S_rpm_segment x15)), (3, .rows 2 [[iv 0, bs x31]])], 4⟩) (by kernel_rfl) ?_
        refine jr_part (i := 2) (mo := idx x1 x14) rfl rfl rfl rfl (fun _ hc => aop_index (kk := .i64) (by kernel_rfl) (by kernel_rfl) (by kernel_rfl) hc) (fun _ => rfl) ?_
        intro x41 h41
        refine jr_seg 3 1 [0, 1, 3, 4, 5] [0, 1, 2, 3] (st1 := ⟨[(0, .av (.yld 1)), (1, .av (.fptr [bs x1] 0)), (3, .av (iv x14)), (4, .av (.ptr 3 0 2 0)), (5, .av (.s (.int .u8 x41)))], [(0, .rows 1 [[.osl 2 0 (List.length x15) 2]]), (1, rpm_Segments_lp1 a1 x1 .ready none), (2, .rows 2 (List.map c_S_rpm_segment x15)), (3, .rows 2 [[iv 0, bs x31]])], 4⟩) (by kernel_rfl) ?_
        refine jr_nil rfl ?_
        refine jx_seqN ?_
        refine jc_block ?_
        refine jc_seq ?_
        refine jc_reg ?_
        refine jr_seg 0 3 [0, 1, 3, 4, 5, 21] [0, 1, 2, 3] (st1 := ⟨[(0, .av (.yld 1)), (1, .av (.fptr [bs x1] 0)), (3, .av (iv x14)), (4, .av (.ptr 3 0 2 0)), (5, .av (.s (.int .u8 x41))), (21, .av (bv (x41 == 126)))], [(0, .rows 1 [[.osl 2 0 (List.length x15) 2]]), (1, rpm_Segments_lp1 a1 x1 .ready none), (2, .rows 2 (List.map c_S_rpm_segment x15)), (3, .rows 2 [[iv 0, bs x31]])], 4⟩) (by kernel_rfl) ?_
        refine jr_nil rfl ?_
        refine jx_seqN ?_
        refine jc_cond (g := 21) (c := (x41 == 126)) (by kernel_rfl) ?_ ?_
        · intro _
          refine jc_reg ?_
          refine jr_seg 0 2 [0, 1, 3, 4] [0, 1, 2, 3] (st1 := ⟨[(0, .av (.yld 1)), (1, .av (.fptr [bs x1] 0)), (3, .av (iv x14)), (4, .av (.ptr 3 0 2 0))], [(0, .rows 1 [[.osl 2 0 (List.length x15) 2]]), (1, rpm_Segments_lp1 a1 x1 .ready none), (2, .rows 2 (List.map c_S_rpm_segment x15)), (3, .rows 2 [[iv 0, bs x31]])], 4⟩) (by kernel_rfl) ?_
          refine jr_nil rfl ?_
          refine jx_blkN ?_
          exact jx_mid rfl (wk_ren [(0, some 0), (1, some 1), (2, some 3), (3, some 2)] (fix_of hc1.2.2 (k := 2) rfl) rfl (by kernel_rfl) (allp_cons (.inl ⟨0, _, _, _, rfl, rfl, rfl, .inl (by kernel_rfl)⟩) (allp_cons (.inr (.inr ⟨1, _, _, rfl, rfl, rfl, by kernel_rfl⟩)) (allp_cons (.inl ⟨3, _, _, _, rfl, rfl, rfl, .inl (by kernel_rfl)⟩) (allp_cons (.inl ⟨2, _, _, _, rfl, rfl, rfl, .inr ⟨rfl, noid_map ni_S_rpm_segment _⟩⟩) allp_nil)))))
        · intro _
          refine jc_seq ?_
          refine jc_reg ?_
          refine jr_seg 0 3 [0, 1, 3, 4, 5, 25] [0, 1, 2, 3] (st1 := ⟨[(0, .av (.yld 1)), (1, .av (.fptr [bs x1] 0)), (3, .av (iv x14)), (4, .av (.ptr 3 0 2 0)), (5, .av (.s (.int .u8 x41))), (25, .av (bv (x41 == 94)))], [(0, .rows 1 [[.osl 2 0 (List.length x15) 2]]), (1, rpm_Segments_lp1 a1 x1 .ready none), (2, .rows 2 (List.map c_S_rpm_segment x15)), (3, .rows 2 [[iv 0, bs x31]])], 4⟩) (by kernel_rfl) ?_
          refine jr_nil rfl ?_
          refine jx_seqN ?_
          refine jc_cond (g := 25) (c := (x41 == 94)) (by kernel_rfl) ?_ ?_
          · intro _
            refine jc_reg ?_
            refine jr_seg 0 2 [0, 1, 3, 4] [0, 1, 2, 3] (st1 := ⟨[(0, .av (.yld 1)), (1, .av (.fptr [bs x1] 0)), (3, .av (iv x14)), (4, .av (.ptr 3 0 2 0))], [(0, .rows 1 [[.osl 2 0 (List.length x15) 2]]), (1, rpm_Segments_lp1 a1 x1 .ready none), (2, .rows 2 (List.map c_S_rpm_segment x15)), (3, .rows 2 [[iv 2, bs x31]])], 4⟩) (by kernel_rfl) ?_
            refine jr_nil rfl ?_
            refine jx_blkN ?_
            exact jx_mid rfl (wk_ren [(0, some 0), (1, some 1), (2, some 3), (3, some 2)] (fix_of hc1.2.2 (k := 2) rfl) rfl (by kernel_rfl) (allp_cons (.inl ⟨0, _, _, _, rfl, rfl, rfl, .inl (by kernel_rfl)⟩) (allp_cons (.inr (.inr ⟨1, _, _, rfl, rfl, rfl, by kernel_rfl⟩)) (allp_cons (.inl ⟨3, _, _, _, rfl, rfl, rfl, .inl (by kernel_rfl)⟩) (allp_cons (.inl ⟨2, _, _, _, rfl, rfl, rfl, .inr ⟨rfl, noid_map ni_S_rpm_segment _⟩⟩) allp_nil)))))
          · intro _
            refine jc_seq ?_
            refine jc_reg ?_
            refine jr_seg 0 1 [0, 1, 3, 4, 5, 30] [0, 1, 2, 3] (st1 := ⟨[(0, .av (.yld 1)), (1, .av (.fptr [bs x1] 0)), (3, .av (iv x14)), (4, .av (.ptr 3 0 2 0)), (5, .av (.s (.int .u8 x41))), (30, .av (.s (.int .u8 x41)))], [(0, .rows 1 [[.osl 2 0 (List.length x15) 2]]), (1, rpm_Segments_lp1 a1 x1 .ready none), (2, .rows 2 (List.map c_S_rpm_segment x15)), (3, .rows 2 [[iv 0, bs x31]])], 4⟩) (by kernel_rfl) ?_
            refine jr_callF (i := 1) rfl rfl rfl rfl (vs := [.s (.int .u8 x41), iv 1]) (by kernel_rfl) (snapL_cons rfl (snapL_cons rfl (snapL_nil _))) (all2_cons (fle_refl _) (all2_cons (fle_refl _) all2_nil)) (scan_Is_ok x41 1) (fun _ => rfl) (fun _ => rfl) ?_
            intro x42 h42
            refine jr_seg 2 1 [0, 1, 3, 4, 5, 29] [0, 1, 2, 3] (st1 := ⟨[(0, .av (.yld 1)), (1, .av (.fptr [bs x1] 0)), (3, .av (iv x14)), (4, .av (.ptr 3 0 2 0)), (5, .av (.s (.int .u8 x41))), (29, .av (bv x42))], [(0, .rows 1 [[.osl 2 0 (List.length x15) 2]]), (1, rpm_Segments_lp1 a1 x1 .ready none), (2, .rows 2 (List.map c_S_rpm_segment x15)), (3, .rows 2 [[iv 0, bs x31]])], 4⟩) (by kernel_rfl) ?_
            refine jr_nil rfl ?_
            refine jx_seqN ?_
            refine jc_cond (g := 29) (c := x42) (by kernel_rfl) ?_ ?_
            · intro _
              refine jc_reg ?_
              refine jr_seg 0 4 [0, 1, 3, 4, 32, 33, 34, 35] [0, 1, 2, 3] (st1 := ⟨[(0, .av (.yld 1)), (1, .av (.fptr [bs x1] 0)), (3, .av (iv x14)), (4, .av (.ptr 3 0 2 0)), (32, .av (bs x1)), (33, .av (iv x14)), (34, .av (bs x1)), (35, .av (iv x14))], [(0, .rows 1 [[.osl 2 0 (List.length x15) 2]]), (1, rpm_Segments_lp1 a1 x1 .ready none), (2, .rows 2 (List.map c_S_rpm_segment x15)), (3, .rows 2 [[iv 0, bs x31]])], 4⟩) (by kernel_rfl) ?_
              refine jr_callF (i := 4) rfl rfl rfl rfl (vs := [bs x1, iv x14, iv 1]) (by kernel_rfl) (snapL_cons rfl (snapL_cons rfl (snapL_cons rfl (snapL_nil _)))) (all2_cons (fle_refl _) (all2_cons (fle_refl _) (all2_cons (fle_refl _) all2_nil))) (scan_Run_ok x1 x14 1) (fun _ => rfl) (fun _ => rfl) ?_
              intro x43 h43
              refine jr_part (i := 5) (mo := subl x1 x14 x43) rfl rfl rfl rfl (fun _ hc => aop_subs (by kernel_rfl) (by kernel_rfl) (by kernel_rfl) (by kernel_rfl) hc) (fun _ => rfl) ?_
              intro x44 h44
              refine jr_seg 6 2 [0, 1, 3, 4] [0, 1, 2, 3] (st1 := ⟨[(0, .av (.yld 1)), (1, .av (.fptr [bs x1] 0)), (3, .av (iv x14)), (4, .av (.ptr 3 0 2 0))], [(0, .rows 1 [[.osl 2 0 (List.length x15) 2]]), (1, rpm_Segments_lp1 a1 x1 .ready none), (2, .rows 2 (List.map c_S_rpm_segment x15)), (3, .rows 2 [[iv 4, bs x44]])], 4⟩) (by kernel_rfl) ?_
              refine jr_nil rfl ?_
              refine jx_blkN ?_
              exact jx_mid rfl (wk_ren [(0, some 0), (1, some 1), (2, some 3), (3, some 2)] (fix_of hc1.2.2 (k := 2) rfl) rfl (by kernel_rfl) (allp_cons (.inl ⟨0, _, _, _, rfl, rfl, rfl, .inl (by kernel_rfl)⟩) (allp_cons (.inr (.inr ⟨1, _, _, rfl, rfl, rfl, by kernel_rfl⟩)) (allp_cons (.inl ⟨3, _, _, _, rfl, rfl, rfl, .inl (by kernel_rfl)⟩) (allp_cons (.inl ⟨2, _, _, _, rfl, rfl, rfl, .inr ⟨rfl, noid_map ni_S_rpm_segment _⟩⟩) allp_nil)))))
            · intro _
              refine jc_seq ?_
              refine jc_reg ?_
              refine jr_seg 0 1 [0, 1, 3, 4, 40] [0, 1, 2, 3] (st1 := ⟨[(0, .av (.yld 1)), (1, .av (.fptr [bs x1] 0)), (3, .av (iv x14)), (4, .av (.ptr 3 0 2 0)), (40, .av (.s (.int .u8 x41)))], [(0, .rows 1 [[.osl 2 0 (List.length x15) 2]]), (1, rpm_Segments_lp1 a1 x1 .ready none), (2, .rows 2 (List.map c_S_rpm_segment x15)), (3, .rows 2 [[iv 0, bs x31]])], 4⟩) (by kernel_rfl) ?_
              refine jr_callF (i := 1) rfl rfl rfl rfl (vs := [.s (.int .u8 x41), iv 4]) (by kernel_rfl) (snapL_cons rfl (snapL_cons rfl (snapL_nil _))) (all2_cons (fle_refl _) (all2_cons (fle_refl _) all2_nil)) (scan_Is_ok x41 4) (fun _ => rfl) (fun _ => rfl) ?_
              intro x45 h45
              refine jr_seg 2 1 [0, 1, 3, 4, 39] [0, 1, 2, 3] (st1 := ⟨[(0, .av (.yld 1)), (1, .av (.fptr [bs x1] 0)), (3, .av (iv x14)), (4, .av (.ptr 3 0 2 0)), (39, .av (bv x45))], [(0, .rows 1 [[.osl 2 0 (List.length x15) 2]]), (1, rpm_Segments_lp1 a1 x1 .ready none), (2, .rows 2 (List.map c_S_rpm_segment x15)), (3, .rows 2 [[iv 0, bs x31]])], 4⟩) (by kernel_rfl) ?_
              refine jr_nil rfl ?_
              refine jx_seqN ?_
              refine jc_cond (g := 39) (c := x45) (by kernel_rfl) ?_ ?_
              · intro _
                refine jc_reg ?_
                refine jr_seg 0 4 [0, 1, 3, 4, 42, 43, 44, 45] [0, 1, 2, 3] (st1 := ⟨[(0, .av (.yld 1)), (1, .av (.fptr [bs x1] 0)), (3, .av (iv x14)), (4, .av (.ptr 3 0 2 0)), (42, .av (bs x1)), (43, .av (iv x14)), (44, .av (bs x1)), (45, .av (iv x14))], [(0, .rows 1 [[.osl 2 0 (List.length x15) 2]]), (1, rpm_Segments_lp1 a1 x1 .ready none), (2, .rows 2 (List.map c_S_rpm_segment x15)), (3, .rows 2 [[iv 0, bs x31]])], 4⟩) (by kernel_rfl) ?_
                refine jr_callF (i := 4) rfl rfl rfl rfl (vs := [bs x1, iv x14, iv 4]) (by kernel_rfl) (snapL_cons rfl (snapL_cons rfl (snapL_cons rfl (snapL_nil _)))) (all2_cons (fle_refl _) (all2_cons (fle_refl _) (all2_cons (fle_refl _) all2_nil))) (scan_Run_ok x1 x14 4) (fun _ => rfl) (fun _ => rfl) ?_
                intro x46 h46
                refine jr_part (i := 5) (mo := subl x1 x14 x46) rfl rfl rfl rfl (fun _ hc => aop_subs (by kernel_rfl) (by kernel_rfl) (by kernel_rfl) (by kernel_rfl) hc) (fun _ => rfl) ?_
                intro x47 h47
                refine jr_seg 6 2 [0, 1, 3, 4] [0, 1, 2, 3] (st1 := ⟨[(0, .av (.yld 1)), (1, .av (.fptr [bs x1] 0)), (3, .av (iv x14)), (4, .av (.ptr 3 0 2 0))], [(0, .rows 1 [[.osl 2 0 (List.length x15) 2]]), (1, rpm_Segments_lp1 a1 x1 .ready none), (2, .rows 2 (List.map c_S_rpm_segment x15)), (3, .rows 2 [[iv 3, bs x47]])], 4⟩) (by kernel_rfl) ?_
                refine jr_nil rfl ?_
                refine jx_blkN ?_
                exact jx_mid rfl (wk_ren [(0, some 0), (1, some 1), (2, some 3), (3, some 2)] (fix_of hc1.2.2 (k := 2) rfl) rfl (by kernel_rfl) (allp_cons (.inl ⟨0, _, _, _, rfl, rfl, rfl, .inl (by kernel_rfl)⟩) (allp_cons (.inr (.inr ⟨1, _, _, rfl, rfl, rfl, by kernel_rfl⟩)) (allp_cons (.inl ⟨3, _, _, _, rfl, rfl, rfl, .inl (by kernel_rfl)⟩) (allp_cons (.inl ⟨2, _, _, _, rfl, rfl, rfl, .inr ⟨rfl, noid_map ni_S_rpm_segment _⟩⟩) allp_nil)))))
              · intro _
                refine jc_seq ?_
                refine jc_reg ?_
                refine jr_seg 0 3 [0, 1, 3] [0, 1, 2] (st1 := ⟨[(0, .av (.yld 1)), (1, .av (.fptr [bs x1] 0)), (3, .av (iv (w64 (x14 + 1))))], [(0, .rows 1 [[.osl 2 0 (List.length x15) 2]]), (1, rpm_Segments_lp1 a1 x1 .ready none), (2, .rows 2 (List.map c_S_rpm_segment x15))], 4⟩) (by kernel_rfl) ?_
                refine jr_nil rfl ?_
                refine jx_seqN ?_
                refine jc_exit ?_
                refine jx_blkX rfl ?_
                exact jx_mid rfl (wk_ren [(0, some 0), (1, some 1), (2, some 2)] (fix_of hc1.2.2 (k := 2) rfl) rfl (by kernel_rfl) (allp_cons (.inl ⟨0, _, _, _, rfl, rfl, rfl, .inl (by kernel_rfl)⟩) (allp_cons (.inr (.inr ⟨1, _, _, rfl, rfl, rfl, by kernel_rfl⟩)) (allp_cons (.inl ⟨2, _, _, _, rfl, rfl, rfl, .inr ⟨rfl, noid_map ni_S_rpm_segment _⟩⟩) allp_nil))))
      · rintro (⟨x39, x40⟩ | _)
        · refine jx_seqN ?_
          refine jc_seq ?_
          refine jc_reg ?_
          refine jr_seg 0 6 [0, 1, 3, 4] [0, 1, 2, 3] (st1 := ⟨[(0, .av (.yld 1)), (1, .av (.fptr [bs x1] 0)), (3, .av (iv (w64 (x14 + (List.length x40 : Int))))), (4, .av (.ptr 2 0 2 0))], [(0, .rows 1 [[.osl 3 0 (List.length x15) 2]]), (1, rpm_Segments_lp1 a1 x1 .ready none), (2, .rows 2 [[iv x39, bs x40]]), (3, .rows 2 (List.map c_S_rpm_segment x15))], 4⟩) (by kernel_rfl) ?_
          refine jr_nil rfl ?_
          refine jx_seqN ?_
          refine jc_seq ?_
          refine jc_reg ?_
          refine jr_seg 0 2 [0, 1, 3, 54, 55] [0, 1, 3] (st1 := ⟨[(0, .av (.yld 1)), (1, .av (.fptr [bs x1] 0)), (3, .av (iv (w64 (x14 + (List.length x40 : Int))))), (54, .av (.yld 1)), (55, .av (.agg [iv x39, bs x40]))], [(0, .rows 1 [[.osl 3 0 (List.length x15) 2]]), (1, rpm_Segments_lp1 a1 x1 .ready none), (3, .rows 2 (List.map c_S_rpm_segment x15))], 4⟩) (by kernel_rfl) ?_
          refine jr_yield (i := 2) (l := 1) (Nc := 60) (Kc := [(1, .av (bs a1)), (5, .av (.ptr 0 0 1 0)), (11, .av (.fn 120 [.fptr [bs x1] 0]))]) (ps := [12]) (vs := [.agg [iv x39, bs x40]]) (fun x49 => ⟨[], [(0, .rows 1 [[.osl 4 0 (List.length x49) 2]]), (1, rpm_Segments_lp1 a1 x1 .busy none), (4, .rows 2 (List.map c_S_rpm_segment x49))], 5⟩) (fun x49 => .normal) [0, 1, 3, 56] [0, 1, 4] (after := (fun x49 => ⟨[(0, .av (.yld 1)), (1, .av (.fptr [bs x1] 0)), (3, .av (iv (w64 (x14 + (List.length x40 : Int))))), (56, .av (bv true))], [(0, .rows 1 [[.osl 4 0 (List.length x49) 2]]), (1, rpm_Segments_lp1 a1 x1 .ready none), (4, .rows 2 (List.map c_S_rpm_segment x49))], 5⟩)) rfl rfl rpm_Segments_y12_aw rpm_Segments_y12_bw (by kernel_rfl) (by kernel_rfl) (yctx_of hc1 rfl) rfl (by kernel_rfl) rfl ?_ (by intro x49 <;> exact ⟨none, by kernel_rfl⟩) (by intro x49 <;> kernel_rfl) ?_
          · intro F4 hy4
            refine jc_reg ?_
            refine jr_seg 0 2 [5, 6] [0, 1, 3, 4] (st1 := ⟨[(5, .av (.ptr 0 0 1 0)), (6, .av (.ptr 4 0 2 0))], [(0, .rows 1 [[.osl 3 0 (List.length x15) 2]]), (1, rpm_Segments_lp1 a1 x1 .ready none), (3, .rows 2 (List.map c_S_rpm_segment x15)), (4, .rows 2 [[iv x39, bs x40]])], 5⟩) (by kernel_rfl) ?_
            refine jr_nil rfl ?_
            refine jx_asg hy4 rfl ?_
            refine jc_block ?_
            refine jc_reg ?_
            refine jr_seg 0 3 [5, 13, 15] [0, 1, 3, 5] (st1 := ⟨[(5, .av (.ptr 0 0 1 0)), (13, .av (.osl 3 0 (List.length x15) 2)), (15, .av (.osl 5 0 (List.length [(S_rpm_segment.mk x39 x40)]) 2))], [(0, .rows 1 [[.osl 3 0 (List.length x15) 2]]), (1, rpm_Segments_lp1 a1 x1 .busy none), (3, .rows 2 (List.map c_S_rpm_segment x15)), (5, .rows 2 (List.map c_S_rpm_segment [(S_rpm_segment.mk x39 x40)]))], 6⟩) (by kernel_rfl) ?_
            refine jr_part (i := 3) (mo := app 24 x15 [(S_rpm_segment.mk x39 x40)]) rfl rfl rfl rfl (fun _ hc => aop_app (u := .osl 3 0 (List.length x15) 2) (w := .osl 5 0 (List.length [(S_rpm_segment.mk x39 x40)]) 2) (e := 100) (td := .slice 100) (by kernel_rfl) (by kernel_rfl) (by kernel_rfl) (by kernel_rfl) (.inl ⟨_, rfl⟩) (appendOf_own (c := c_S_rpm_segment) (sz := 2) (b := 24) (id := 3) (by kernel_rfl) (by kernel_rfl) (rows_own (by kernel_rfl)) (List.cons_ne_nil _ _) hc)) (fun _ => rfl) ?_
            intro x50 h50
            refine jr_seg 4 1 [] [0, 1, 6] (st1 := ⟨[], [(0, .rows 1 [[.osl 6 0 (List.length x50) 2]]), (1, rpm_Segments_lp1 a1 x1 .busy none), (6, .rows 2 (List.map c_S_rpm_segment x50))], 7⟩) (by kernel_rfl) ?_
            refine jr_nil rfl ?_
            refine jx_blkN ?_
            exact jx_mid rfl (wk_ren [(0, some 0), (1, some 1), (2, some 2), (3, some 3), (4, some 6)] (fix_of hy4.2 (k := 4) rfl) rfl (by kernel_rfl) (allp_cons (.inl ⟨0, _, _, _, rfl, rfl, rfl, .inl (by kernel_rfl)⟩) (allp_cons (.inr (.inr ⟨1, _, _, rfl, rfl, rfl, by kernel_rfl⟩)) (allp_cons (.inl ⟨6, _, _, _, rfl, rfl, rfl, .inr ⟨rfl, noid_map ni_S_rpm_segment _⟩⟩) allp_nil))))
          · intro x49
            refine jr_seg 3 1 [0, 1, 3, 57] [0, 1, 4] (st1 := ⟨[(0, .av (.yld 1)), (1, .av (.fptr [bs x1] 0)), (3, .av (iv (w64 (x14 + (List.length x40 : Int))))), (57, .av (bv false))], [(0, .rows 1 [[.osl 4 0 (List.length x49) 2]]), (1, rpm_Segments_lp1 a1 x1 .ready none), (4, .rows 2 (List.map c_S_rpm_segment x49))], 5⟩) (by kernel_rfl) ?_
            refine jr_nil rfl ?_
            refine jx_seqN ?_
            refine jc_condK (c := false) (by kernel_rfl) ?_
            refine jc_skip ?_
            refine jx_blkN ?_
            exact jx_next (wk_ren [(0, some 0), (1, some 1), (2, some 4)] (fix_of hc1.2.2 (k := 2) rfl) rfl (by kernel_rfl) (allp_cons (.inl ⟨0, _, _, _, rfl, rfl, rfl, .inl (by kernel_rfl)⟩) (allp_cons (.inr (.inr ⟨1, _, _, rfl, rfl, rfl, by kernel_rfl⟩)) (allp_cons (.inl ⟨4, _, _, _, rfl, rfl, rfl, .inr ⟨rfl, noid_map ni_S_rpm_segment _⟩⟩) allp_nil))))
        · refine jx_seqE ?_
          refine jx_blkE ?_
          exact jx_next (wk_ren [(0, some 0), (1, some 1), (2, some 2)] (fix_of hc1.2.2 (k := 2) rfl) rfl (by kernel_rfl) (allp_cons (.inl ⟨0, _, _, _, rfl, rfl, rfl, .inl (by kernel_rfl)⟩) (allp_cons (.inr (.inr ⟨1, _, _, rfl, rfl, rfl, by kernel_rfl⟩)) (allp_cons (.inl ⟨2, _, _, _, rfl, rfl, rfl, .inr ⟨rfl, noid_map ni_S_rpm_segment _⟩⟩) allp_nil))))
    · intro _
      refine jc_exit ?_
      refine jx_seqE ?_
      exact jx_done rfl nofun (wk_ren [(0, some 0), (1, some 1), (2, some 2)] (fix_of hc1.2.2 (k := 2) rfl) rfl (by kernel_rfl) (allp_cons (.inl ⟨0, _, _, _, rfl, rfl, rfl, .inl (by kernel_rfl)⟩) (allp_cons (.inr (.inr ⟨1, _, _, rfl, rfl, rfl, by kernel_rfl⟩)) (allp_cons (.inl ⟨2, _, _, _, rfl, rfl, rfl, .inr ⟨rfl, noid_map ni_S_rpm_segment _⟩⟩) allp_nil))))
  · intro x30
    refine jx_blkE ?_
    refine jx_seqN ?_
    refine jc_reg ?_
    refine jr_seg 0 2 [58, 59] [0, 1, 2] (st1 := ⟨[(58, .av (.yld 1)), (59, .av (.agg [iv 1, bs []]))], [(0, .rows 1 [[.osl 2 0 (List.length x30) 2]]), (1, rpm_Segments_lp1 a1 x1 .ready none), (2, .rows 2 (List.map c_S_rpm_segment x30))], 3⟩) (by kernel_rfl) ?_
    refine jr_yield (i := 2) (l := 1) (Nc := 60) (Kc := [(1, .av (bs a1)), (5, .av (.ptr 0 0 1 0)), (11, .av (.fn 120 [.fptr [bs x1] 0]))]) (ps := [12]) (vs := [.agg [iv 1, bs []]]) (fun x52 => ⟨[], [(0, .rows 1 [[.osl 3 0 (List.length x52) 2]]), (1, rpm_Segments_lp1 a1 x1 .busy none), (3, .rows 2 (List.map c_S_rpm_segment x52))], 4⟩) (fun x52 => .normal) [60] [0, 1, 3] (after := (fun x52 => ⟨[(60, .av (bv true))], [(0, .rows 1 [[.osl 3 0 (List.length x52) 2]]), (1, rpm_Segments_lp1 a1 x1 .ready none), (3, .rows 2 (List.map c_S_rpm_segment x52))], 4⟩)) rfl rfl rpm_Segments_y12_aw rpm_Segments_y12_bw (by kernel_rfl) (by kernel_rfl) (yctx_of hc1 rfl) rfl (by kernel_rfl) rfl ?_ (by intro x52 <;> exact ⟨none, by kernel_rfl⟩) (by intro x52 <;> kernel_rfl) ?_
    · intro F5 hy5
      refine jc_reg ?_
      refine jr_seg 0 2 [5, 6] [0, 1, 2, 3] (st1 := ⟨[(5, .av (.ptr 0 0 1 0)), (6, .av (.ptr 3 0 2 0))], [(0, .rows 1 [[.osl 2 0 (List.length x30) 2]]), (1, rpm_Segments_lp1 a1 x1 .ready none), (2, .rows 2 (List.map c_S_rpm_segment x30)), (3, .rows 2 [[iv 1, bs []]])], 4⟩) (by kernel_rfl) ?_
      refine jr_nil rfl ?_
      refine jx_asg hy5 rfl ?_
      refine jc_block ?_
      refine jc_reg ?_
      refine jr_seg 0 3 [5, 13, 15] [0, 1, 2, 4] (st1 := ⟨[(5, .av (.ptr 0 0 1 0)), (13, .av (.osl 2 0 (List.length x30) 2)), (15, .av (.osl 4 0 (List.length ([(S_rpm_segment.mk 1 [])])) 2))], [(0, .rows 1 [[.osl 2 0 (List.length x30) 2]]), (1, rpm_Segments_lp1 a1 x1 .busy none), (2, .rows 2 (List.map c_S_rpm_segment x30)), (4, .rows 2 (List.map c_S_rpm_segment ([(S_rpm_segment.mk 1 [])])))], 5⟩) (by kernel_rfl) ?_
      refine jr_part (i := 3) (mo := app 24 x30 [(S_rpm_segment.mk 1 [])]) rfl rfl rfl rfl (fun _ hc => aop_app (u := .osl 2 0 (List.length x30) 2) (w := .osl 4 0 (List.length ([(S_rpm_segment.mk 1 [])])) 2) (e := 100) (td := .slice 100) (by kernel_rfl) (by kernel_rfl) (by kernel_rfl) (by kernel_rfl) (.inl ⟨_, rfl⟩) (appendOf_own (c := c_S_rpm_segment) (sz := 2) (b := 24) (id := 2) (by kernel_rfl) (by kernel_rfl) (rows_own (by kernel_rfl)) (List.cons_ne_nil _ _) hc)) (fun _ => rfl) ?_
      intro x53 h53
      refine jr_seg 4 1 [] [0, 1, 5] (st1 := ⟨[], [(0, .rows 1 [[.osl 5 0 (List.length x53) 2]]), (1, rpm_Segments_lp1 a1 x1 .busy none), (5, .rows 2 (List.map c_S_rpm_segment x53))], 6⟩) (by kernel_rfl) ?_
      refine jr_nil rfl ?_
      refine jx_blkN ?_
      exact jx_mid rfl (wk_ren [(0, some 0), (1, some 1), (2, some 2), (3, some 5)] (fix_of hy5.2 (k := 3) rfl) rfl (by kernel_rfl) (allp_cons (.inl ⟨0, _, _, _, rfl, rfl, rfl, .inl (by kernel_rfl)⟩) (allp_cons (.inr (.inr ⟨1, _, _, rfl, rfl, rfl, by kernel_rfl⟩)) (allp_cons (.inl ⟨5, _, _, _, rfl, rfl, rfl, .inr ⟨rfl, noid_map ni_S_rpm_segment _⟩⟩) allp_nil))))
    · intro x52
      refine jr_nil rfl ?_
      refine jx_rng hc1 (.inl rfl) rfl nofun rfl ?_
      refine jx_blkN ?_
      refine jx_seqN ?_
      refine jc_seq ?_
      refine jc_reg ?_
      refine jr_seg 0 2 [1, 5, 7] [0, 3, 4] (st1 := ⟨[(1, .av (bs a1)), (5, .av (.ptr 0 0 1 0)), (7, .av (.ptr 4 0 1 0))], [(0, .rows 1 [[.osl 3 0 (List.length x52) 2]]), (3, .rows 2 (List.map c_S_rpm_segment x52)), (4, .rows 1 [[iv 0]])], 5⟩) (by kernel_rfl) ?_
      refine jr_nil rfl ?_
      refine jx_seqN ?_
      refine jc_seq ?_
      refine jc_label ?_
      refine jx_seqN ?_
      refine jc_seq ?_
      refine jc_bind (fun x118 => ⟨[(7, .av (.ptr 0 0 1 0))], [(0, .rows 1 [[iv x118]])], 1⟩) (fun x118 => .normal) ?_ ?_
      · refine jc_seq ?_
        refine jc_reg ?_
        refine jr_seg 0 1 [5, 7, 17] [0, 3, 4] (st1 := ⟨[(5, .av (.ptr 0 0 1 0)), (7, .av (.ptr 4 0 1 0)), (17, .av (bs a1))], [(0, .rows 1 [[.osl 3 0 (List.length x52) 2]]), (3, .rows 2 (List.map c_S_rpm_segment x52)), (4, .rows 1 [[iv 0]])], 5⟩) (by kernel_rfl) ?_
        refine jr_callF (i := 1) rfl rfl rfl rfl (vs := [bs a1]) (by kernel_rfl) (snapL_cons rfl (snapL_nil _)) (all2_cons (fle_refl _) all2_nil) (rpm_segments_ok a1) (fun _ => rfl) (fun _ => rfl) ?_
        intro x119 h119
        refine jr_nil rfl ?_
        refine jx_seqN ?_
        refine jc_block ?_
        refine jc_keep [5, 7, 18] [0, 3, 4] (st1 := ⟨[(5, .av (.ptr 0 0 1 0)), (7, .av (.ptr 4 0 1 0)), (18, .av (.fn 120 [.fptr [bs x119] 0]))], [(0, .rows 1 [[.osl 3 0 (List.length x52) 2]]), (3, .rows 2 (List.map c_S_rpm_segment x52)), (4, .rows 1 [[iv 0]])], 5⟩) (by kernel_rfl) ?_
        refine jc_rng (g := 120) (caps := [.fptr [bs x119] 0]) (by kernel_rfl) rpm_segments_1_it_k (Nat.le_of_ble_eq_true rfl) ?_
        intro F10 hc10
        refine jc_seq ?_
        refine jc_seq ?_
        refine jc_reg ?_
        refine jr_seg 0 1 [0, 1, 3] [0, 3, 4, 5] (st1 := ⟨[(0, .av (.yld 5)), (1, .av (.fptr [bs x119] 0)), (3, .av (iv 0))], [(0, .rows 1 [[.osl 3 0 (List.length x52) 2]]), (3, .rows 2 (List.map c_S_rpm_segment x52)), (4, .rows 1 [[iv 0]]), (5, rpm_Segments_lp10 x119 .ready none)], 6⟩) (by kernel_rfl) ?_
        refine jr_nil rfl ?_
        refine jx_seqN ?_
        refine jc_block ?_
        refine jc_bind (fun y => match y with | Sum.inl (x168, x169) => ⟨[], [(0, .rows 1 [[.osl 6 0 (List.length x168) 2]]), (4, .rows 1 [[iv x169]]), (5, rpm_Segments_lp10 x119 .done (some (.exit 2))), (6, .rows 2 (List.map c_S_rpm_segment x168))], 7⟩ | Sum.inr (x170, x171) => ⟨[(0, .av (.yld 5))], [(0, .rows 1 [[.osl 6 0 (List.length x170) 2]]), (4, .rows 1 [[iv x171]]), (5, rpm_Segments_lp10 x119 .ready none), (6, .rows 2 (List.map c_S_rpm_segment x170))], 7⟩) (fun y => match y with | Sum.inl (x168, x169) => .ret | Sum.inr (x170, x171) => (.exit 0)) (jc_loop (fun (x141, x142, x143) => ⟨[(0, .av (.yld 5)), (1, .av (.fptr [bs x119] 0)), (3, .av (iv x141))], [(0, .rows 1 [[.osl 6 0 (List.length x142) 2]]), (4, .rows 1 [[iv x143]]), (5, rpm_Segments_lp10 x119 .ready none), (6, .rows 2 (List.map c_S_rpm_segment x142))], 7⟩) (wk_ren [(0, some 0), (1, some 1), (2, some 2), (3, some 3), (4, some 4), (5, some 5), (6, some 3)] (fix_of hc10.2.2 (k := 6) rfl) rfl (by kernel_rfl) (allp_cons (.inl ⟨0, _, _, _, rfl, rfl, rfl, .inl (by kernel_rfl)⟩) (allp_cons (.inl ⟨4, _, _, _, rfl, rfl, rfl, .inl (by kernel_rfl)⟩) (allp_cons (.inr (.inr ⟨5, _, _, rfl, rfl, rfl, by kernel_rfl⟩)) (allp_cons (.inl ⟨3, _, _, _, rfl, rfl, rfl, .inr ⟨rfl, noid_map ni_S_rpm_segment _⟩⟩) allp_nil))))) ?_) ?_
        · rintro ⟨x141, x142, x143⟩
          unfold rpm_Segments_l2
          refine jc_seq ?_
          refine jc_seq ?_
          refine jc_reg ?_
          refine jr_seg 0 4 [0, 1, 3, 9] [0, 4, 5, 6] (st1 := ⟨[(0, .av (.yld 5)), (1, .av (.fptr [bs x119] 0)), (3, .av (iv x141)), (9, .av (bv (decide (x141 < (List.length x119 : Int)))))], [(0, .rows 1 [[.osl 6 0 (List.length x142) 2]]), (4, .rows 1 [[iv x143]]), (5, rpm_Segments_lp10 x119 .ready none), (6, .rows 2 (List.map c_S_rpm_segment x142))], 7⟩) (by kernel_rfl) ?_
          refine jr_nil rfl ?_
          refine jx_seqN ?_
          refine jc_cond (g := 9) (c := (decide (x141 < (List.length x119 : Int)))) (by kernel_rfl) ?_ ?_
          · intro _
            refine jc_skip ?_
            refine jx_seqN ?_
            refine jc_block ?_
            refine jc_seq ?_
            refine jc_reg ?_
            refine jr_seg 0 4 [0, 1, 3, 10, 11, 13] [0, 4, 5, 6] (st1 := ⟨[(0, .av (.yld 5)), (1, .av (.fptr [bs x119] 0)), (3, .av (iv x141)), (10, .av (bs x119)), (11, .av (iv x141)), (13, .av (iv (w64 (x141 + 1))))], [(0, .rows 1 [[.osl 6 0 (List.length x142) 2]]), (4, .rows 1 [[iv x143]]), (5, rpm_Segments_lp10 x119 .ready none), (6, .rows 2 (List.map c_S_rpm_segment x142))], 7⟩) (by kernel_rfl) ?_
            refine jr_part (i := 4) (mo := subl x119 x141 (w64 (x141 + 1))) rfl rfl rfl rfl (fun _ hc => aop_subs (by kernel_rfl) (by kernel_rfl) (by kernel_rfl) (by kernel_rfl) hc) (fun _ => rfl) ?_
            intro x172 h172
            refine jr_seg 5 3 [0, 1, 3, 4] [0, 4, 5, 6, 7] (st1 := ⟨[(0, .av (.yld 5)), (1, .av (.fptr [bs x119] 0)), (3, .av (iv x141)), (4, .av (.ptr 7 0 2 0))], [(0, .rows 1 [[.osl 6 0 (List.length x142) 2]]), (4, .rows 1 [[iv x143]]), (5, rpm_Segments_lp10 x119 .ready none), (6, .rows 2 (List.map c_S_rpm_segment x142)), (7, .rows 2 [[iv 0, bs x172]])], 8⟩) (by kernel_rfl) ?_
            refine jr_nil rfl ?_
            refine jx_seqN ?_
            refine jc_seq ?_
            refine jc_bind (fun y => match y with | Sum.inl (x180, x181) => ⟨[(0, .av (.yld 5)), (1, .av (.fptr [bs x119] 0)), (3, .av (iv x141)), (4, .av (.ptr 6 0 2 0))], [(0, .rows 1 [[.osl 7 0 (List.length x142) 2]]), (4, .rows 1 [[iv x143]]), (5, rpm_Segments_lp10 x119 .ready none), (6, .rows 2 [[iv x180, bs x181]]), (7, .rows 2 (List.map c_S_rpm_segment x142))], 8⟩ | Sum.inr _ => ⟨[(0, .av (.yld 5)), (1, .av (.fptr [bs x119] 0)), (3, .av (iv (w64 (x141 + 1))))], [(0, .rows 1 [[.osl 6 0 (List.length x142) 2]]), (4, .rows 1 [[iv x143]]), (5, rpm_Segments_lp10 x119 .ready none), (6, .rows 2 (List.map c_S_rpm_segment x142))], 7⟩) (fun y => match y with | Sum.inl (x180, x181) => .normal | Sum.inr _ => (.exit 1)) ?_ ?_
            · refine jc_seq ?_
              refine jc_reg ?_
              refine jr_seg 0 2 [0, 1, 3, 4, 16, 17] [0, 4, 5, 6, 7] (st1 := ⟨[(0, .av (.yld 5)), (1, .av (.fptr [bs x119] 0)), (3, .av (iv x141)), (4, .av (.ptr 7 0 2 0)), (16, .av (bs x119)), (17, .av (iv x141))], [(0, .rows 1 [[.osl 6 0 (List.length x142) 2]]), (4, .rows 1 [[iv x143]]), (5, rpm_Segments_lp10 x119 .ready none), (6, .rows 2 (List.map c_S_rpm_segment x142)), (7, .rows 2 [[iv 0, bs x172]])], 8⟩) (by kernel_rfl) ?_
              refine jr_part (i := 2) (mo := idx x119 x141) rfl rfl rfl rfl (fun _ hc => aop_index (kk := .i64) (by kernel_rfl) (by kernel_rfl) (by kernel_rfl) hc) (fun _ => rfl) ?_
              intro x182 h182
              refine jr_seg 3 1 [0, 1, 3, 4, 5] [0, 4, 5, 6, 7] (st1 := ⟨[(0, .av (.yld 5)), (1, .av (.fptr [bs x119] 0)), (3, .av (iv x141)), (4, .av (.ptr 7 0 2 0)), (5, .av (.s (.int .u8 x182)))], [(0, .rows 1 [[.osl 6 0 (List.length x142) 2]]), (4, .rows 1 [[iv x143]]), (5, rpm_Segments_lp10 x119 .ready none), (6, .rows 2 (List.map c_S_rpm_segment x142)), (7, .rows 2 [[iv 0, bs x172]])], 8⟩) (by kernel_rfl) ?_
              refine jr_nil rfl ?_
              refine jx_seqN ?_
              refine jc_block ?_
              refine jc_seq ?_
              refine jc_reg ?_
              refine jr_seg 0 3 [0, 1, 3, 4, 5, 21] [0, 4, 5, 6, 7] (st1 := ⟨[(0, .av (.yld 5)), (1, .av (.fptr [bs x119] 0)), (3, .av (iv x141)), (4, .av (.ptr 7 0 2 0)), (5, .av (.s (.int .u8 x182))), (21, .av (bv (x182 == 126)))], [(0, .rows 1 [[.osl 6 0 (List.length x142) 2]]), (4, .rows 1 [[iv x143]]), (5, rpm_Segments_lp10 x119 .ready none), (6, .rows 2 (List.map c_S_rpm_segment x142)), (7, .rows 2 [[iv 0, bs x172]])], 8⟩) (by kernel_rfl) ?_
              refine jr_nil rfl ?_
              refine jx_seqN ?_
              refine jc_cond (g := 21) (c := (x182 == 126)) (by kernel_rfl) ?_ ?_
              · intro _
                refine jc_reg ?_
                refine jr_seg 0 2 [0, 1, 3, 4] [0, 4, 5, 6, 7] (st1 := ⟨[(0, .av (.yld 5)), (1, .av (.fptr [bs x119] 0)), (3, .av (iv x141)), (4, .av (.ptr 7 0 2 0))], [(0, .rows 1 [[.osl 6 0 (List.length x142) 2]]), (4, .rows 1 [[iv x143]]), (5, rpm_Segments_lp10 x119 .ready none), (6, .rows 2 (List.map c_S_rpm_segment x142)), (7, .rows 2 [[iv 0, bs x172]])], 8⟩) (by kernel_rfl) ?_
                refine jr_nil rfl ?_
                refine jx_blkN ?_
                exact jx_mid rfl (wk_ren [(0, some 0), (1, some 1), (2, some 2), (3, some 3), (4, some 4), (5, some 5), (6, some 7), (7, some 6)] (fix_of hc10.2.2 (k := 6) rfl) rfl (by kernel_rfl) (allp_cons (.inl ⟨0, _, _, _, rfl, rfl, rfl, .inl (by kernel_rfl)⟩) (allp_cons (.inl ⟨4, _, _, _, rfl, rfl, rfl, .inl (by kernel_rfl)⟩) (allp_cons (.inr (.inr ⟨5, _, _, rfl, rfl, rfl, by kernel_rfl⟩)) (allp_cons (.inl ⟨7, _, _, _, rfl, rfl, rfl, .inl (by kernel_rfl)⟩) (allp_cons (.inl ⟨6, _, _, _, rfl, rfl, rfl, .inr ⟨rfl, noid_map ni_S_rpm_segment _⟩⟩) allp_nil))))))
              · intro _
                refine jc_seq ?_
                refine jc_reg ?_
                refine jr_seg 0 3 [0, 1, 3, 4, 5, 25] [0, 4, 5, 6, 7] (st1 := ⟨[(0, .av (.yld 5)), (1, .av (.fptr [bs x119] 0)), (3, .av (iv x141)), (4, .av (.ptr 7 0 2 0)), (5, .av (.s (.int .u8 x182))), (25, .av (bv (x182 == 94)))], [(0, .rows 1 [[.osl 6 0 (List.length x142) 2]]), (4, .rows 1 [[iv x143]]), (5, rpm_Segments_lp10 x119 .ready none), (6, .rows 2 (List.map c_S_rpm_segment x142)), (7, .rows 2 [[iv 0, bs x172]])], 8⟩) (by kernel_rfl) ?_
                refine jr_nil rfl ?_
                refine jx_seqN ?_
                refine jc_cond (g := 25) (c := (x182 == 94)) (by kernel_rfl) ?_ ?_
                · intro _
                  refine jc_reg ?_
                  refine jr_seg 0 2 [0, 1, 3, 4] [0, 4, 5, 6, 7] (st1 := ⟨[(0, .av (.yld 5)), (1, .av (.fptr [bs x119] 0)), (3, .av (iv x141)), (4, .av (.ptr 7 0 2 0))], [(0, .rows 1 [[.osl 6 0 (List.length x142) 2]]), (4, .rows 1 [[iv x143]]), (5, rpm_Segments_lp10 x119 .ready none), (6, .rows 2 (List.map c_S_rpm_segment x142)), (7, .rows 2 [[iv 2, bs x172]])], 8⟩) (by kernel_rfl) ?_
                  refine jr_nil rfl ?_
                  refine jx_blkN ?_
                  exact jx_mid rfl (wk_ren [(0, some 0), (1, some 1), (2, some 2), (3, some 3), (4, some 4), (5, some 5), (6, some 7), (7, some 6)] (fix_of hc10.2.2 (k := 6) rfl) rfl (by kernel_rfl) (allp_cons (.inl ⟨0, _, _, _, rfl, rfl, rfl, .inl (by kernel_rfl)⟩) (allp_cons (.inl ⟨4, _, _, _, rfl, rfl, rfl, .inl (by kernel_rfl)⟩) (allp_cons (.inr (.inr ⟨5, _, _, rfl, rfl, rfl, by kernel_rfl⟩)) (allp_cons (.inl ⟨7, _, _, _, rfl, rfl, rfl, .inl (by kernel_rfl)⟩) (allp_cons (.inl ⟨6, _, _, _, rfl, rfl, rfl, .inr ⟨rfl, noid_map ni_S_rpm_segment _⟩⟩) allp_nil))))))
                · intro _
                  refine jc_seq ?_
                  refine jc_reg ?_
                  refine jr_seg 0 1 [0, 1, 3, 4, 5, 30] [0, 4, 5, 6, 7] (st1 := ⟨[(0, .av (.yld 5)), (1, .av (.fptr [bs x119] 0)), (3, .av (iv x141)), (4, .av (.ptr 7 0 2 0)), (5, .av (.s (.int .u8 x182))), (30, .av (.s (.int .u8 x182)))], [(0, .rows 1 [[.osl 6 0 (List.length x142) 2]]), (4, .rows 1 [[iv x143]]), (5, rpm_Segments_lp10 x119 .ready none), (6, .rows 2 (List.map c_S_rpm_segment x142)), (7, .rows 2 [[iv 0, bs x172]])], 8⟩) (by kernel_rfl) ?_
                  refine jr_callF (i := 1) rfl rfl rfl rfl (vs := [.s (.int .u8 x182), iv 1]) (by kernel_rfl) (snapL_cons rfl (snapL_cons rfl (snapL_nil _))) (all2_cons (fle_refl _) (all2_cons (fle_refl _) all2_nil)) (scan_Is_ok x182 1) (fun _ => rfl) (fun _ => rfl) ?_
                  intro x183 h183
                  refine jr_seg 2 1 [0, 1, 3, 4, 5, 29] [0, 4, 5, 6, 7] (st1 := ⟨[(0, .av (.yld 5)), (1, .av (.fptr [bs x119] 0)), (3, .av (iv x141)), (4, .av (.ptr 7 0 2 0)), (5, .av (.s (.int .u8 x182))), (29, .av (bv x183))], [(0, .rows 1 [[.osl 6 0 (List.length x142) 2]]), (4, .rows 1 [[iv x143]]), (5, rpm_Segments_lp10 x119 .ready none), (6, .rows 2 (List.map c_S_rpm_segment x142)), (7, .rows 2 [[iv 0, bs x172]])], 8⟩) (by kernel_rfl) ?_
                  refine jr_nil rfl ?_
                  refine jx_seqN ?_
                  refine jc_cond (g := 29) (c := x183) (by kernel_rfl) ?_ ?_
                  · intro _
                    refine jc_reg ?_
                    refine jr_seg 0 4 [0, 1, 3, 4, 32, 33, 34, 35] [0, 4, 5, 6, 7] (st1 := ⟨[(0, .av (.yld 5)), (1, .av (.fptr [bs x119] 0)), (3, .av (iv x141)), (4, .av (.ptr 7 0 2 0)), (32, .av (bs x119)), (33, .av (iv x141)), (34, .av (bs x119)), (35, .av (iv x141))], [(0, .rows 1 [[.osl 6 0 (List.length x142) 2]]), (4, .rows 1 [[iv x143]]), (5, rpm_Segments_lp10 x119 .ready none), (6, .rows 2 (List.map c_S_rpm_segment x142)), (7, .rows 2 [[iv 0, bs x172]])], 8⟩) (by kernel_rfl) ?_
                    refine jr_callF (i := 4) rfl rfl rfl rfl (vs := [bs x119, iv x141, iv 1]) (by kernel_rfl) (snapL_cons rfl (snapL_cons rfl (snapL_cons rfl (snapL_nil _)))) (all2_cons (fle_refl _) (all2_cons (fle_refl _) (all2_cons (fle_refl _) all2_nil))) (scan_Run_ok x119 x141 1) (fun _ => rfl) (fun _ => rfl) ?_
                    intro x184 h184
                    refine jr_part (i := 5) (mo := subl x119 x141 x184) rfl rfl rfl rfl (fun _ hc => aop_subs (by kernel_rfl) (by kernel_rfl) (by kernel_rfl) (by kernel_rfl) hc) (fun _ => rfl) ?_
                    intro x185 h185
                    refine jr_seg 6 2 [0, 1, 3, 4] [0, 4, 5, 6, 7] (st1 := ⟨[(0, .av (.yld 5)), (1, .av (.fptr [bs x119] 0)), (3, .av (iv x141)), (4, .av (.ptr 7 0 2 0))], [(0, .rows 1 [[.osl 6 0 (List.length x142) 2]]), (4, .rows 1 [[iv x143]]), (5, rpm_Segments_lp10 x119 .ready none), (6, .rows 2 (List.map c_S_rpm_segment x142)), (7, .rows 2 [[iv 4, bs x185]])], 8⟩) (by kernel_rfl) ?_
                    refine jr_nil rfl ?_
                    refine jx_blkN ?_
                    exact jx_mid rfl (wk_ren [(0, some 0), (1, some 1), (2, some 2), (3, some 3), (4, some 4), (5, some 5), (6, some 7), (7, some 6)] (fix_of hc10.2.2 (k := 6) rfl) rfl (by kernel_rfl) (allp_cons (.inl ⟨0, _, _, _, rfl, rfl, rfl, .inl (by kernel_rfl)⟩) (allp_cons (.inl ⟨4, _, _, _, rfl, rfl, rfl, .inl (by kernel_rfl)⟩) (allp_cons (.inr (.inr ⟨5, _, _, rfl, rfl, rfl, by kernel_rfl⟩)) (allp_cons (.inl ⟨7, _, _, _, rfl, rfl, rfl, .inl (by kernel_rfl)⟩) (allp_cons (.inl ⟨6, _, _, _, rfl, rfl, rfl, .inr ⟨rfl, noid_map ni_S_rpm_segment _⟩⟩) allp_nil))))))
                  · intro _
                    refine jc_seq ?_
                    refine jc_reg ?_
                    refine jr_seg 0 1 [0, 1, 3, 4, 40] [0, 4, 5, 6, 7] (st1 := ⟨[(0, .av (.yld 5)), (1, .av (.fptr [bs x119] 0)), (3, .av (iv x141)), (4, .av (.ptr 7 0 2 0)), (40, .av (.s (.int .u8 x182)))], [(0, .rows 1 [[.osl 6 0 (List.length x142) 2]]), (4, .rows 1 [[iv x143]]), (5, rpm_Segments_lp10 x119 .ready none), (6, .rows 2 (List.map c_S_rpm_segment x142)), (7, .rows 2 [[iv 0, bs x172]])], 8⟩) (by kernel_rfl) ?_
                    refine jr_callF (i := 1) rfl rfl rfl rfl (vs := [.s (.int .u8 x182), iv 4]) (by kernel_rfl) (snapL_cons rfl (snapL_cons rfl (snapL_nil _))) (all2_cons (fle_refl _) (all2_cons (fle_refl _) all2_nil)) (scan_Is_ok x182 4) (fun _ => rfl) (fun _ => rfl) ?_
                    intro x186 h186
                    refine jr_seg 2 1 [0, 1, 3, 4, 39] [0, 4, 5, 6, 7] (st1 := ⟨[(0, .av (.yld 5)), (1, .av (.fptr [bs x119] 0)), (3, .av (iv x141)), (4, .av (.ptr 7 0 2 0)), (39, .av (bv x186))], [(0, .rows 1 [[.osl 6 0 (List.length x142) 2]]), (4, .rows 1 [[iv x143]]), (5, rpm_Segments_lp10 x119 .ready none), (6, .rows 2 (List.map c_S_rpm_segment x142)), (7, .rows 2 [[iv 0, bs x172]])], 8⟩) (by kernel_rfl) ?_
                    refine jr_nil rfl ?_
                    refine jx_seqN ?_
                    refine jc_cond (g := 39) (c := x186) (by kernel_rfl) ?_ ?_
                    · intro _
                      refine jc_reg ?_
                      refine jr_seg 0 4 [0, 1, 3, 4, 42, 43, 44, 45] [0, 4, 5, 6, 7] (st1 := ⟨[(0, .av (.yld 5)), (1, .av (.fptr [bs x119] 0)), (3, .av (iv x141)), (4, .av (.ptr 7 0 2 0)), (42, .av (bs x119)), (43, .av (iv x141)), (44, .av (bs x119)), (45, .av (iv x141))], [(0, .rows 1 [[.osl 6 0 (List.length x142) 2]]), (4, .rows 1 [[iv x143]]), (5, rpm_Segments_lp10 x119 .ready none), (6, .rows 2 (List.map c_S_rpm_segment x142)), (7, .rows 2 [[iv 0, bs x172]])], 8⟩) (by kernel_rfl) ?_
                      refine jr_callF (i := 4) rfl rfl rfl rfl (vs := [bs x119, iv x141, iv 4]) (by kernel_rfl) (snapL_cons rfl (snapL_cons rfl (snapL_cons rfl (snapL_nil _)))) (all2_cons (fle_refl _) (all2_cons (fle_refl _) (all2_cons (fle_refl _) all2_nil))) (scan_Run_ok x119 x141 4) (fun _ => rfl) (fun _ => rfl) ?_
                      intro x187 h187
                      refine jr_part (i := 5) (mo := subl x119 x141 x187) rfl rfl rfl rfl (fun _ hc => aop_subs (by kernel_rfl) (by kernel_rfl) (by kernel_rfl) (by kernel_rfl) hc) (fun _ => rfl) ?_
                      intro x188 h188
                      refine jr_seg 6 2 [0, 1, 3, 4] [0, 4, 5, 6, 7] (st1 := ⟨[(0, .av (.yld 5)), (1, .av (.fptr [bs x119] 0)), (3, .av (iv x141)), (4, .av (.ptr 7 0 2 0))], [(0, .rows 1 [[.osl 6 0 (List.length x142) 2]]), (4, .rows 1 [[iv x143]]), (5, rpm_Segments_lp10 x119 .ready none), (6, .rows 2 (List.map c_S_rpm_segment x142)), (7, .rows 2 [[iv 3, bs x188]])], 8⟩) (by kernel_rfl) ?_
                      refine jr_nil rfl ?_
                      refine jx_blkN ?_
                      exact jx_mid rfl (wk_ren [(0, some 0), (1, some 1), (2, some 2), (3, some 3), (4, some 4), (5, some 5), (6, some 7), (7, some 6)] (fix_of hc10.2.2 (k := 6) rfl) rfl (by kernel_rfl) (allp_cons (.inl ⟨0, _, _, _, rfl, rfl, rfl, .inl (by kernel_rfl)⟩) (allp_cons (.inl ⟨4, _, _, _, rfl, rfl, rfl, .inl (by kernel_rfl)⟩) (allp_cons (.inr (.inr ⟨5, _, _, rfl, rfl, rfl, by kernel_rfl⟩)) (allp_cons (.inl ⟨7, _, _, _, rfl, rfl, rfl, .inl (by kernel_rfl)⟩) (allp_cons (.inl ⟨6, _, _, _, rfl, rfl, rfl, .inr ⟨rfl, noid_map ni_S_rpm_segment _⟩⟩) allp_nil))))))
                    · intro _
                      refine jc_seq ?_
                      refine jc_reg ?_
                      refine jr_seg 0 3 [0, 1, 3] [0, 4, 5, 6] (st1 := ⟨[(0, .av (.yld 5)), (1, .av (.fptr [bs x119] 0)), (3, .av (iv (w64 (x141 + 1))))], [(0, .rows 1 [[.osl 6 0 (List.length x142) 2]]), (4, .rows 1 [[iv x143]]), (5, rpm_Segments_lp10 x119 .ready none), (6, .rows 2 (List.map c_S_rpm_segment x142))], 8⟩) (by kernel_rfl) ?_
                      refine jr_nil rfl ?_
                      refine jx_seqN ?_
                      refine jc_exit ?_
                      refine jx_blkX rfl ?_
                      exact jx_mid rfl (wk_ren [(0, some 0), (1, some 1), (2, some 2), (3, some 3), (4, some 4), (5, some 5), (6, some 6)] (fix_of hc10.2.2 (k := 6) rfl) rfl (by kernel_rfl) (allp_cons (.inl ⟨0, _, _, _, rfl, rfl, rfl, .inl (by kernel_rfl)⟩) (allp_cons (.inl ⟨4, _, _, _, rfl, rfl, rfl, .inl (by kernel_rfl)⟩) (allp_cons (.inr (.inr ⟨5, _, _, rfl, rfl, rfl, by kernel_rfl⟩)) (allp_cons (.inl ⟨6, _, _, _, rfl, rfl, rfl, .inr ⟨rfl, noid_map ni_S_rpm_segment _⟩⟩) allp_nil)))))
            · rintro (⟨x180, x181⟩ | _)
              · refine jx_seqN ?_
                refine jc_seq ?_
                refine jc_reg ?_
                refine jr_seg 0 6 [0, 1, 3, 4] [0, 4, 5, 6, 7] (st1 := ⟨[(0, .av (.yld 5)), (1, .av (.fptr [bs x119] 0)), (3, .av (iv (w64 (x141 + (List.length x181 : Int))))), (4, .av (.ptr 6 0 2 0))], [(0, .rows 1 [[.osl 7 0 (List.length x142) 2]]), (4, .rows 1 [[iv x143]]), (5, rpm_Segments_lp10 x119 .ready none), (6, .rows 2 [[iv x180, bs x181]]), (7, .rows 2 (List.map c_S_rpm_segment x142))], 8⟩) (by kernel_rfl) ?_
                refine jr_nil rfl ?_
                refine jx_seqN ?_
                refine jc_seq ?_
                refine jc_reg ?_
                refine jr_seg 0 2 [0, 1, 3, 54, 55] [0, 4, 5, 7] (st1 := ⟨[(0, .av (.yld 5)), (1, .av (.fptr [bs x119] 0)), (3, .av (iv (w64 (x141 + (List.length x181 : Int))))), (54, .av (.yld 5)), (55, .av (.agg [iv x180, bs x181]))], [(0, .rows 1 [[.osl 7 0 (List.length x142) 2]]), (4, .rows 1 [[iv x143]]), (5, rpm_Segments_lp10 x119 .ready none), (7, .rows 2 (List.map c_S_rpm_segment x142))], 8⟩) (by kernel_rfl) ?_
                refine jr_yield (i := 2) (l := 5) (Nc := 60) (Kc := [(5, .av (.ptr 0 0 1 0)), (7, .av (.ptr 4 0 1 0)), (18, .av (.fn 120 [.fptr [bs x119] 0]))]) (ps := [19]) (vs := [.agg [iv x180, bs x181]]) (fun y => match y with | Sum.inl (x196, x197) => ⟨[], [(0, .rows 1 [[.osl 8 0 (List.length x196) 2]]), (4, .rows 1 [[iv x197]]), (5, rpm_Segments_lp10 x119 .busy none), (8, .rows 2 (List.map c_S_rpm_segment x196))], 9⟩ | Sum.inr (x198, x199) => ⟨[], [(0, .rows 1 [[.osl 8 0 (List.length x198) 2]]), (4, .rows 1 [[iv x199]]), (5, rpm_Segments_lp10 x119 .busy none), (8, .rows 2 (List.map c_S_rpm_segment x198))], 9⟩) (fun y => match y with | Sum.inl (x196, x197) => (.exit 2) | Sum.inr (x198, x199) => .normal) [0, 1, 3, 56] [0, 4, 5, 8] (after := (fun y => match y with | Sum.inl (x196, x197) => ⟨[(0, .av (.yld 5)), (1, .av (.fptr [bs x119] 0)), (3, .av (iv (w64 (x141 + (List.length x181 : Int))))), (56, .av (bv false))], [(0, .rows 1 [[.osl 8 0 (List.length x196) 2]]), (4, .rows 1 [[iv x197]]), (5, rpm_Segments_lp10 x119 .done (some (.exit 2))), (8, .rows 2 (List.map c_S_rpm_segment x196))], 9⟩ | Sum.inr (x198, x199) => ⟨[(0, .av (.yld 5)), (1, .av (.fptr [bs x119] 0)), (3, .av (iv (w64 (x141 + (List.length x181 : Int))))), (56, .av (bv true))], [(0, .rows 1 [[.osl 8 0 (List.length x198) 2]]), (4, .rows 1 [[iv x199]]), (5, rpm_Segments_lp10 x119 .ready none), (8, .rows 2 (List.map c_S_rpm_segment x198))], 9⟩)) rfl rfl rpm_Segments_y55_aw rpm_Segments_y55_bw (by kernel_rfl) (by kernel_rfl) (yctx_of hc10 rfl) rfl (by kernel_rfl) rfl ?_ (by rintro (⟨x196, x197⟩ | ⟨x198, x199⟩) <;> exact ⟨none, by kernel_rfl⟩) (by rintro (⟨x196, x197⟩ | ⟨x198, x199⟩) <;> kernel_rfl) ?_
                · intro F13 hy13
                  refine jc_reg ?_
                  refine jr_seg 0 2 [5, 7, 8] [0, 4, 5, 7, 8] (st1 := ⟨[(5, .av (.ptr 0 0 1 0)), (7, .av (.ptr 4 0 1 0)), (8, .av (.ptr 8 0 2 0))], [(0, .rows 1 [[.osl 7 0 (List.length x142) 2]]), (4, .rows 1 [[iv x143]]), (5, rpm_Segments_lp10 x119 .ready none), (7, .rows 2 (List.map c_S_rpm_segment x142)), (8, .rows 2 [[iv x180, bs x181]])], 9⟩) (by kernel_rfl) ?_
                  refine jr_nil rfl ?_
                  refine jx_asg hy13 rfl ?_
                  refine jc_block ?_
                  refine jc_seq ?_
                  refine jc_seq ?_
                  refine jc_reg ?_
                  refine jr_seg 0 3 [5, 7, 8, 22] [0, 4, 5, 7, 8] (st1 := ⟨[(5, .av (.ptr 0 0 1 0)), (7, .av (.ptr 4 0 1 0)), (8, .av (.ptr 8 0 2 0)), (22, .av (bv ((List.length x142 : Int) == 0)))], [(0, .rows 1 [[.osl 7 0 (List.length x142) 2]]), (4, .rows 1 [[iv x143]]), (5, rpm_Segments_lp10 x119 .busy none), (7, .rows 2 (List.map c_S_rpm_segment x142)), (8, .rows 2 [[iv x180, bs x181]])], 9⟩) (by kernel_rfl) ?_
                  refine jr_nil rfl ?_
                  refine jx_seqN ?_
                  refine jc_cond (g := 22) (c := ((List.length x142 : Int) == 0)) (by kernel_rfl) ?_ ?_
                  · intro _
                    refine jc_exit ?_
                    refine jx_seqE ?_
                    refine jx_blkX rfl ?_
                    exact jx_mid rfl (wk_ren [(0, some 0), (1, some 1), (2, some 2), (3, some 3), (4, some 4), (5, some 5), (6, some 6), (7, some 7), (8, some 7)] (fix_of hy13.2 (k := 8) rfl) rfl (by kernel_rfl) (allp_cons (.inl ⟨0, _, _, _, rfl, rfl, rfl, .inl (by kernel_rfl)⟩) (allp_cons (.inl ⟨4, _, _, _, rfl, rfl, rfl, .inl (by kernel_rfl)⟩) (allp_cons (.inr (.inr ⟨5, _, _, rfl, rfl, rfl, by kernel_rfl⟩)) (allp_cons (.inl ⟨7, _, _, _, rfl, rfl, rfl, .inr ⟨rfl, noid_map ni_S_rpm_segment _⟩⟩) allp_nil)))))
                  · intro _
                    refine jc_skip ?_
                    refine jx_seqN ?_
                    refine jc_seq ?_
                    refine jc_reg ?_
                    refine jr_seg 0 1 [5, 7, 8, 23] [0, 4, 5, 7, 8] (st1 := ⟨[(5, .av (.ptr 0 0 1 0)), (7, .av (.ptr 4 0 1 0)), (8, .av (.ptr 8 0 2 0)), (23, .av (.osl 7 0 (List.length x142) 2))], [(0, .rows 1 [[.osl 7 0 (List.length x142) 2]]), (4, .rows 1 [[iv x143]]), (5, rpm_Segments_lp10 x119 .busy none), (7, .rows 2 (List.map c_S_rpm_segment x142)), (8, .rows 2 [[iv x180, bs x181]])], 9⟩) (by kernel_rfl) ?_
                    refine jr_part (i := 1) (mo := ixl x142 0) rfl rfl rfl rfl (fun _ hc => aop_ixo0 (sz := 2) (e := 100) (kk := .i64) (id := 7) (by kernel_rfl) (by kernel_rfl) (by kernel_rfl) (by kernel_rfl) hc) (fun _ => rfl) ?_
                    intro x200 h200
                    refine jr_one (i := 2) (v := .agg [iv x200.kind, bs x200.text]) rfl rfl rfl rfl (aop_ldo (l := x142) (c := c_S_rpm_segment) (id := 7) (k := (Int.toNat 0)) (sz := 2) (off := 0) (a := x200) (by kernel_rfl) (by kernel_rfl) (ixl_lt h200).2.2 (by kernel_rfl)) rfl ?_
                    refine jr_seg 3 2 [5, 7, 8, 9] [0, 4, 5, 7, 8, 9] (st1 := ⟨[(5, .av (.ptr 0 0 1 0)), (7, .av (.ptr 4 0 1 0)), (8, .av (.ptr 8 0 2 0)), (9, .av (.ptr 9 0 2 0))], [(0, .rows 1 [[.osl 7 0 (List.length x142) 2]]), (4, .rows 1 [[iv x143]]), (5, rpm_Segments_lp10 x119 .busy none), (7, .rows 2 (List.map c_S_rpm_segment x142)), (8, .rows 2 [[iv x180, bs x181]]), (9, .rows 2 [[iv x200.kind, bs x200.text]])], 10⟩) (by kernel_rfl) ?_
                    refine jr_nil rfl ?_
                    refine jx_seqN ?_
                    refine jc_seq ?_
                    refine jc_reg ?_
                    refine jr_seg 0 1 [5, 7, 8, 9, 26] [0, 4, 5, 7, 8, 9] (st1 := ⟨[(5, .av (.ptr 0 0 1 0)), (7, .av (.ptr 4 0 1 0)), (8, .av (.ptr 8 0 2 0)), (9, .av (.ptr 9 0 2 0)), (26, .av (.osl 7 0 (List.length x142) 2))], [(0, .rows 1 [[.osl 7 0 (List.length x142) 2]]), (4, .rows 1 [[iv x143]]), (5, rpm_Segments_lp10 x119 .busy none), (7, .rows 2 (List.map c_S_rpm_segment x142)), (8, .rows 2 [[iv x180, bs x181]]), (9, .rows 2 [[iv x200.kind, bs x200.text]])], 10⟩) (by kernel_rfl) ?_
                    refine jr_part (i := 1) (mo := subl x142 1 (List.length x142 : Int)) rfl rfl rfl rfl (fun _ hc => aop_subo (l := x142) (e := 100) (id := 7) (off := 0) (sz := 2) (by kernel_rfl) (by kernel_rfl) (by kernel_rfl) (by kernel_rfl) (by kernel_rfl) hc) (fun _ => rfl) ?_
                    intro x201 h201
                    refine jr_root (d := 27) (j := 7) (k := 0 + Int.toNat 1) (len := List.length x201) (sz := 2) (rows := List.map c_S_rpm_segment x142) (rows' := List.map c_S_rpm_segment x201) (by kernel_rfl) (by kernel_rfl) (subl_kle h201) (subl_rows0 h201) ?_
                    refine jr_seg 2 1 [7, 8, 9] [0, 4, 5, 8, 9, 10] (st1 := ⟨[(7, .av (.ptr 4 0 1 0)), (8, .av (.ptr 8 0 2 0)), (9, .av (.ptr 9 0 2 0))], [(0, .rows 1 [[.osl 10 0 (List.length x201) 2]]), (4, .rows 1 [[iv x143]]), (5, rpm_Segments_lp10 x119 .busy none), (8, .rows 2 [[iv x180, bs x181]]), (9, .rows 2 [[iv x200.kind, bs x200.text]]), (10, .rows 2 (List.map c_S_rpm_segment x201))], 11⟩) (by kernel_rfl) ?_
                    refine jr_nil rfl ?_
                    refine jx_seqN ?_
                    refine jc_seq ?_
                    refine jc_reg ?_
                    refine jr_seg 0 4 [7, 8, 9, 29, 31] [0, 4, 5, 8, 9, 10] (st1 := ⟨[(7, .av (.ptr 4 0 1 0)), (8, .av (.ptr 8 0 2 0)), (9, .av (.ptr 9 0 2 0)), (29, .av (iv x200.kind)), (31, .av (iv x180))], [(0, .rows 1 [[.osl 10 0 (List.length x201) 2]]), (4, .rows 1 [[iv x143]]), (5, rpm_Segments_lp10 x119 .busy none), (8, .rows 2 [[iv x180, bs x181]]), (9, .rows 2 [[iv x200.kind, bs x200.text]]), (10, .rows 2 (List.map c_S_rpm_segment x201))], 11⟩) (by kernel_rfl) ?_
                    refine jr_callF (i := 4) rfl rfl rfl rfl (vs := [iv x200.kind, iv x180]) (by kernel_rfl) (snapL_cons rfl (snapL_cons rfl (snapL_nil _))) (all2_cons (fle_refl _) (all2_cons (fle_refl _) all2_nil)) (cmp_Compare_int_ok x200.kind x180) (fun _ => rfl) (fun _ => rfl) ?_
                    intro x202 h202
                    refine jr_seg 5 1 [7, 8, 9] [0, 4, 5, 8, 9, 10] (st1 := ⟨[(7, .av (.ptr 4 0 1 0)), (8, .av (.ptr 8 0 2 0)), (9, .av (.ptr 9 0 2 0))], [(0, .rows 1 [[.osl 10 0 (List.length x201) 2]]), (4, .rows 1 [[iv x202]]), (5, rpm_Segments_lp10 x119 .busy none), (8, .rows 2 [[iv x180, bs x181]]), (9, .rows 2 [[iv x200.kind, bs x200.text]]), (10, .rows 2 (List.map c_S_rpm_segment x201))], 11⟩) (by kernel_rfl) ?_
                    refine jr_nil rfl ?_
                    refine jx_seqN ?_
                    refine jc_seq ?_
                    refine jc_bind (fun x204 => ⟨[(7, .av (.ptr 4 0 1 0)), (8, .av (.ptr 8 0 2 0)), (9, .av (.ptr 9 0 2 0))], [(0, .rows 1 [[.osl 10 0 (List.length x201) 2]]), (4, .rows 1 [[iv x204]]), (5, rpm_Segments_lp10 x119 .busy none), (8, .rows 2 [[iv x180, bs x181]]), (9, .rows 2 [[iv x200.kind, bs x200.text]]), (10, .rows 2 (List.map c_S_rpm_segment x201))], 11⟩) (fun x204 => .normal) ?_ ?_
                    · refine jc_seq ?_
                      refine jc_reg ?_
                      refine jr_seg 0 7 [7, 8, 9, 39] [0, 4, 5, 8, 9, 10] (st1 := ⟨[(7, .av (.ptr 4 0 1 0)), (8, .av (.ptr 8 0 2 0)), (9, .av (.ptr 9 0 2 0)), (39, .av (bv ((x202 == 0) && (x200.kind == 4))))], [(0, .rows 1 [[.osl 10 0 (List.length x201) 2]]), (4, .rows 1 [[iv x202]]), (5, rpm_Segments_lp10 x119 .busy none), (8, .rows 2 [[iv x180, bs x181]]), (9, .rows 2 [[iv x200.kind, bs x200.text]]), (10, .rows 2 (List.map c_S_rpm_segment x201))], 11⟩) (by kernel_rfl) ?_
                      refine jr_nil rfl ?_
                      refine jx_seqN ?_
                      refine jc_cond (g := 39) (c := ((x202 == 0) && (x200.kind == 4))) (by kernel_rfl) ?_ ?_
                      · intro _
                        refine jc_reg ?_
                        refine jr_seg 0 4 [7, 8, 9, 41, 43] [0, 4, 5, 8, 9, 10] (st1 := ⟨[(7, .av (.ptr 4 0 1 0)), (8, .av (.ptr 8 0 2 0)), (9, .av (.ptr 9 0 2 0)), (41, .av (bs x200.text)), (43, .av (bs x181))], [(0, .rows 1 [[.osl 10 0 (List.length x201) 2]]), (4, .rows 1 [[iv x202]]), (5, rpm_Segments_lp10 x119 .busy none), (8, .rows 2 [[iv x180, bs x181]]), (9, .rows 2 [[iv x200.kind, bs x200.text]]), (10, .rows 2 (List.map c_S_rpm_segment x201))], 11⟩) (by kernel_rfl) ?_
                        refine jr_callF (i := 4) rfl rfl rfl rfl (vs := [bs x200.text, bs x181]) (by kernel_rfl) (snapL_cons rfl (snapL_cons rfl (snapL_nil _))) (all2_cons (fle_refl _) (all2_cons (fle_refl _) all2_nil)) (scan_Cmp_ok x200.text x181) (fun _ => rfl) (fun _ => rfl) ?_
                        intro x205 h205
                        refine jr_seg 5 1 [7, 8, 9] [0, 4, 5, 8, 9, 10] (st1 := ⟨[(7, .av (.ptr 4 0 1 0)), (8, .av (.ptr 8 0 2 0)), (9, .av (.ptr 9 0 2 0))], [(0, .rows 1 [[.osl 10 0 (List.length x201) 2]]), (4, .rows 1 [[iv x205]]), (5, rpm_Segments_lp10 x119 .busy none), (8, .rows 2 [[iv x180, bs x181]]), (9, .rows 2 [[iv x200.kind, bs x200.text]]), (10, .rows 2 (List.map c_S_rpm_segment x201))], 11⟩) (by kernel_rfl) ?_
                        refine jr_nil rfl ?_
                        exact jx_mid rfl (wk_ren [(0, some 0), (1, some 1), (2, some 2), (3, some 3), (4, some 4), (5, some 5), (6, some 6), (7, some 7), (8, some 8), (9, some 9), (10, some 10)] (fix_of hy13.2 (k := 8) rfl) rfl (by kernel_rfl) (allp_cons (.inl ⟨0, _, _, _, rfl, rfl, rfl, .inl (by kernel_rfl)⟩) (allp_cons (.inl ⟨4, _, _, _, rfl, rfl, rfl, .inl (by kernel_rfl)⟩) (allp_cons (.inr (.inr ⟨5, _, _, rfl, rfl, rfl, by kernel_rfl⟩)) (allp_cons (.inl ⟨8, _, _, _, rfl, rfl, rfl, .inl (by kernel_rfl)⟩) (allp_cons (.inl ⟨9, _, _, _, rfl, rfl, rfl, .inl (by kernel_rfl)⟩) (allp_cons (.inl ⟨10, _, _, _, rfl, rfl, rfl, .inr ⟨rfl, noid_map ni_S_rpm_segment _⟩⟩) allp_nil)))))))
                      · intro _
                        refine jc_skip ?_
                        exact jx_mid rfl (wk_ren [(0, some 0), (1, some 1), (2, some 2), (3, some 3), (4, some 4), (5, some 5), (6, some 6), (7, some 7), (8, some 8), (9, some 9), (10, some 10)] (fix_of hy13.2 (k := 8) rfl) rfl (by kernel_rfl) (allp_cons (.inl ⟨0, _, _, _, rfl, rfl, rfl, .inl (by kernel_rfl)⟩) (allp_cons (.inl ⟨4, _, _, _, rfl, rfl, rfl, .inl (by kernel_rfl)⟩) (allp_cons (.inr (.inr ⟨5, _, _, rfl, rfl, rfl, by kernel_rfl⟩)) (allp_cons (.inl ⟨8, _, _, _, rfl, rfl, rfl, .inl (by kernel_rfl)⟩) (allp_cons (.inl ⟨9, _, _, _, rfl, rfl, rfl, .inl (by kernel_rfl)⟩) (allp_cons (.inl ⟨10, _, _, _, rfl, rfl, rfl, .inr ⟨rfl, noid_map ni_S_rpm_segment _⟩⟩) allp_nil)))))))
                    · intro x204
                      refine jx_seqN ?_
                      refine jc_seq ?_
                      refine jc_bind (fun x207 => ⟨[(7, .av (.ptr 4 0 1 0))], [(0, .rows 1 [[.osl 8 0 (List.length x201) 2]]), (4, .rows 1 [[iv x207]]), (5, rpm_Segments_lp10 x119 .busy none), (8, .rows 2 (List.map c_S_rpm_segment x201))], 9⟩) (fun x207 => .normal) ?_ ?_
                      · refine jc_seq ?_
                        refine jc_reg ?_
                        refine jr_seg 0 7 [7, 8, 9, 51] [0, 4, 5, 8, 9, 10] (st1 := ⟨[(7, .av (.ptr 4 0 1 0)), (8, .av (.ptr 8 0 2 0)), (9, .av (.ptr 9 0 2 0)), (51, .av (bv ((x204 == 0) && (x200.kind == 3))))], [(0, .rows 1 [[.osl 10 0 (List.length x201) 2]]), (4, .rows 1 [[iv x204]]), (5, rpm_Segments_lp10 x119 .busy none), (8, .rows 2 [[iv x180, bs x181]]), (9, .rows 2 [[iv x200.kind, bs x200.text]]), (10, .rows 2 (List.map c_S_rpm_segment x201))], 11⟩) (by kernel_rfl) ?_
                        refine jr_nil rfl ?_
                        refine jx_seqN ?_
                        refine jc_cond (g := 51) (c := ((x204 == 0) && (x200.kind == 3))) (by kernel_rfl) ?_ ?_
                        · intro _
                          refine jc_reg ?_
                          refine jr_seg 0 4 [7, 53, 55] [0, 4, 5, 10] (st1 := ⟨[(7, .av (.ptr 4 0 1 0)), (53, .av (bs x200.text)), (55, .av (bs x181))], [(0, .rows 1 [[.osl 10 0 (List.length x201) 2]]), (4, .rows 1 [[iv x204]]), (5, rpm_Segments_lp10 x119 .busy none), (10, .rows 2 (List.map c_S_rpm_segment x201))], 11⟩) (by kernel_rfl) ?_
                          refine jr_callF (i := 4) rfl rfl rfl rfl (vs := [bs x200.text, bs x181]) (by kernel_rfl) (snapL_cons rfl (snapL_cons rfl (snapL_nil _))) (all2_cons (fle_refl _) (all2_cons (fle_refl _) all2_nil)) (strings_Compare_ok x200.text x181) (fun _ => rfl) (fun _ => rfl) ?_
                          intro x208 h208
                          refine jr_seg 5 1 [7] [0, 4, 5, 10] (st1 := ⟨[(7, .av (.ptr 4 0 1 0))], [(0, .rows 1 [[.osl 10 0 (List.length x201) 2]]), (4, .rows 1 [[iv x208]]), (5, rpm_Segments_lp10 x119 .busy none), (10, .rows 2 (List.map c_S_rpm_segment x201))], 11⟩) (by kernel_rfl) ?_
                          refine jr_nil rfl ?_
                          exact jx_mid rfl (wk_ren [(0, some 0), (1, some 1), (2, some 2), (3, some 3), (4, some 4), (5, some 5), (6, some 6), (7, some 7), (8, some 10)] (fix_of hy13.2 (k := 8) rfl) rfl (by kernel_rfl) (allp_cons (.inl ⟨0, _, _, _, rfl, rfl, rfl, .inl (by kernel_rfl)⟩) (allp_cons (.inl ⟨4, _, _, _, rfl, rfl, rfl, .inl (by kernel_rfl)⟩) (allp_cons (.inr (.inr ⟨5, _, _, rfl, rfl, rfl, by kernel_rfl⟩)) (allp_cons (.inl ⟨10, _, _, _, rfl, rfl, rfl, .inr ⟨rfl, noid_map ni_S_rpm_segment _⟩⟩) allp_nil)))))
                        · intro _
                          refine jc_skip ?_
                          exact jx_mid rfl (wk_ren [(0, some 0), (1, some 1), (2, some 2), (3, some 3), (4, some 4), (5, some 5), (6, some 6), (7, some 7), (8, some 10)] (fix_of hy13.2 (k := 8) rfl) rfl (by kernel_rfl) (allp_cons (.inl ⟨0, _, _, _, rfl, rfl, rfl, .inl (by kernel_rfl)⟩) (allp_cons (.inl ⟨4, _, _, _, rfl, rfl, rfl, .inl (by kernel_rfl)⟩) (allp_cons (.inr (.inr ⟨5, _, _, rfl, rfl, rfl, by kernel_rfl⟩)) (allp_cons (.inl ⟨10, _, _, _, rfl, rfl, rfl, .inr ⟨rfl, noid_map ni_S_rpm_segment _⟩⟩) allp_nil)))))
                      · intro x207
                        refine jx_seqN ?_
                        refine jc_seq ?_
                        refine jc_reg ?_
                        refine jr_seg 0 2 [58] [0, 4, 5, 8] (st1 := ⟨[(58, .av (bv (x207 != 0)))], [(0, .rows 1 [[.osl 8 0 (List.length x201) 2]]), (4, .rows 1 [[iv x207]]), (5, rpm_Segments_lp10 x119 .busy none), (8, .rows 2 (List.map c_S_rpm_segment x201))], 9⟩) (by kernel_rfl) ?_
                        refine jr_nil rfl ?_
                        refine jx_seqN ?_
                        refine jc_cond (g := 58) (c := (x207 != 0)) (by kernel_rfl) ?_ ?_
                        · intro _
                          refine jc_exit ?_
                          refine jx_blkX rfl ?_
                          exact jx_mid rfl (wk_ren [(0, some 0), (1, some 1), (2, some 2), (3, some 3), (4, some 4), (5, some 5), (6, some 6), (7, some 7), (8, some 8)] (fix_of hy13.2 (k := 8) rfl) rfl (by kernel_rfl) (allp_cons (.inl ⟨0, _, _, _, rfl, rfl, rfl, .inl (by kernel_rfl)⟩) (allp_cons (.inl ⟨4, _, _, _, rfl, rfl, rfl, .inl (by kernel_rfl)⟩) (allp_cons (.inr (.inr ⟨5, _, _, rfl, rfl, rfl, by kernel_rfl⟩)) (allp_cons (.inl ⟨8, _, _, _, rfl, rfl, rfl, .inr ⟨rfl, noid_map ni_S_rpm_segment _⟩⟩) allp_nil)))))
                        · intro _
                          refine jc_skip ?_
                          refine jx_blkN ?_
                          exact jx_mid rfl (wk_ren [(0, some 0), (1, some 1), (2, some 2), (3, some 3), (4, some 4), (5, some 5), (6, some 6), (7, some 7), (8, some 8)] (fix_of hy13.2 (k := 8) rfl) rfl (by kernel_rfl) (allp_cons (.inl ⟨0, _, _, _, rfl, rfl, rfl, .inl (by kernel_rfl)⟩) (allp_cons (.inl ⟨4, _, _, _, rfl, rfl, rfl, .inl (by kernel_rfl)⟩) (allp_cons (.inr (.inr ⟨5, _, _, rfl, rfl, rfl, by kernel_rfl⟩)) (allp_cons (.inl ⟨8, _, _, _, rfl, rfl, rfl, .inr ⟨rfl, noid_map ni_S_rpm_segment _⟩⟩) allp_nil)))))
                · rintro (⟨x196, x197⟩ | ⟨x198, x199⟩)
                  · refine jr_seg 3 1 [0, 1, 3, 57] [0, 4, 5, 8] (st1 := ⟨[(0, .av (.yld 5)), (1, .av (.fptr [bs x119] 0)), (3, .av (iv (w64 (x141 + (List.length x181 : Int))))), (57, .av (bv true))], [(0, .rows 1 [[.osl 8 0 (List.length x196) 2]]), (4, .rows 1 [[iv x197]]), (5, rpm_Segments_lp10 x119 .done (some (.exit 2))), (8, .rows 2 (List.map c_S_rpm_segment x196))], 9⟩) (by kernel_rfl) ?_
                    refine jr_nil rfl ?_
                    refine jx_seqN ?_
                    refine jc_condK (c := true) (by kernel_rfl) ?_
                    refine jc_ret ?_
                    refine jx_blkR ?_
                    exact jx_done rfl nofun (wk_ren [(0, some 0), (1, some 1), (2, some 2), (3, some 3), (4, some 4), (5, some 5), (6, some 8)] (fix_of hc10.2.2 (k := 6) rfl) rfl (by kernel_rfl) (allp_cons (.inl ⟨0, _, _, _, rfl, rfl, rfl, .inl (by kernel_rfl)⟩) (allp_cons (.inl ⟨4, _, _, _, rfl, rfl, rfl, .inl (by kernel_rfl)⟩) (allp_cons (.inr (.inr ⟨5, _, _, rfl, rfl, rfl, by kernel_rfl⟩)) (allp_cons (.inl ⟨8, _, _, _, rfl, rfl, rfl, .inr ⟨rfl, noid_map ni_S_rpm_segment _⟩⟩) allp_nil)))))
                  · refine jr_seg 3 1 [0, 1, 3, 57] [0, 4, 5, 8] (st1 := ⟨[(0, .av (.yld 5)), (1, .av (.fptr [bs x119] 0)), (3, .av (iv (w64 (x141 + (List.length x181 : Int))))), (57, .av (bv false))], [(0, .rows 1 [[.osl 8 0 (List.length x198) 2]]), (4, .rows 1 [[iv x199]]), (5, rpm_Segments_lp10 x119 .ready none), (8, .rows 2 (List.map c_S_rpm_segment x198))], 9⟩) (by kernel_rfl) ?_
                    refine jr_nil rfl ?_
                    refine jx_seqN ?_
                    refine jc_condK (c := false) (by kernel_rfl) ?_
                    refine jc_skip ?_
                    refine jx_blkN ?_
                    exact jx_next (wk_ren [(0, some 0), (1, some 1), (2, some 2), (3, some 3), (4, some 4), (5, some 5), (6, some 8)] (fix_of hc10.2.2 (k := 6) rfl) rfl (by kernel_rfl) (allp_cons (.inl ⟨0, _, _, _, rfl, rfl, rfl, .inl (by kernel_rfl)⟩) (allp_cons (.inl ⟨4, _, _, _, rfl, rfl, rfl, .inl (by kernel_rfl)⟩) (allp_cons (.inr (.inr ⟨5, _, _, rfl, rfl, rfl, by kernel_rfl⟩)) (allp_cons (.inl ⟨8, _, _, _, rfl, rfl, rfl, .inr ⟨rfl, noid_map ni_S_rpm_segment _⟩⟩) allp_nil)))))
              · refine jx_seqE ?_
                refine jx_blkE ?_
                exact jx_next (wk_ren [(0, some 0), (1, some 1), (2, some 2), (3, some 3), (4, some 4), (5, some 5), (6, some 6)] (fix_of hc10.2.2 (k := 6) rfl) rfl (by kernel_rfl) (allp_cons (.inl ⟨0, _, _, _, rfl, rfl, rfl, .inl (by kernel_rfl)⟩) (allp_cons (.inl ⟨4, _, _, _, rfl, rfl, rfl, .inl (by kernel_rfl)⟩) (allp_cons (.inr (.inr ⟨5, _, _, rfl, rfl, rfl, by kernel_rfl⟩)) (allp_cons (.inl ⟨6, _, _, _, rfl, rfl, rfl, .inr ⟨rfl, noid_map ni_S_rpm_segment _⟩⟩) allp_nil)))))
          · intro _
            refine jc_exit ?_
            refine jx_seqE ?_
            exact jx_done rfl nofun (wk_ren [(0, some 0), (1, some 1), (2, some 2), (3, some 3), (4, some 4), (5, some 5), (6, some 6)] (fix_of hc10.2.2 (k := 6) rfl) rfl (by kernel_rfl) (allp_cons (.inl ⟨0, _, _, _, rfl, rfl, rfl, .inl (by kernel_rfl)⟩) (allp_cons (.inl ⟨4, _, _, _, rfl, rfl, rfl, .inl (by kernel_rfl)⟩) (allp_cons (.inr (.inr ⟨5, _, _, rfl, rfl, rfl, by kernel_rfl⟩)) (allp_cons (.inl ⟨6, _, _, _, rfl, rfl, rfl, .inr ⟨rfl, noid_map ni_S_rpm_segment _⟩⟩) allp_nil)))))
        · rintro (⟨x168, x169⟩ | ⟨x170, x171⟩)
          · refine jx_blkR ?_
            refine jx_seqR ?_
            refine jx_rng hc10 (.inr rfl) rfl nofun rfl ?_
            refine jx_blkE ?_
            exact jx_mid rfl (wk_ren [(0, some 4)] (fix_nil _) rfl (by kernel_rfl) (allp_cons (.inl ⟨4, _, _, _, rfl, rfl, rfl, .inl (by kernel_rfl)⟩) allp_nil))
          · refine jx_blkE ?_
            refine jx_seqN ?_
            refine jc_reg ?_
            refine jr_seg 0 2 [58, 59] [0, 4, 5, 6] (st1 := ⟨[(58, .av (.yld 5)), (59, .av (.agg [iv 1, bs []]))], [(0, .rows 1 [[.osl 6 0 (List.length x170) 2]]), (4, .rows 1 [[iv x171]]), (5, rpm_Segments_lp10 x119 .ready none), (6, .rows 2 (List.map c_S_rpm_segment x170))], 7⟩) (by kernel_rfl) ?_
            refine jr_yield (i := 2) (l := 5) (Nc := 60) (Kc := [(5, .av (.ptr 0 0 1 0)), (7, .av (.ptr 4 0 1 0)), (18, .av (.fn 120 [.fptr [bs x119] 0]))]) (ps := [19]) (vs := [.agg [iv 1, bs []]]) (fun y => match y with | Sum.inl (x216, x217) => ⟨[], [(0, .rows 1 [[.osl 7 0 (List.length x216) 2]]), (4, .rows 1 [[iv x217]]), (5, rpm_Segments_lp10 x119 .busy none), (7, .rows 2 (List.map c_S_rpm_segment x216))], 8⟩ | Sum.inr (x218, x219) => ⟨[], [(0, .rows 1 [[.osl 7 0 (List.length x218) 2]]), (4, .rows 1 [[iv x219]]), (5, rpm_Segments_lp10 x119 .busy none), (7, .rows 2 (List.map c_S_rpm_segment x218))], 8⟩) (fun y => match y with | Sum.inl (x216, x217) => (.exit 2) | Sum.inr (x218, x219) => .normal) [60] [0, 4, 5, 7] (after := (fun y => match y with | Sum.inl (x216, x217) => ⟨[(60, .av (bv false))], [(0, .rows 1 [[.osl 7 0 (List.length x216) 2]]), (4, .rows 1 [[iv x217]]), (5, rpm_Segments_lp10 x119 .done (some (.exit 2))), (7, .rows 2 (List.map c_S_rpm_segment x216))], 8⟩ | Sum.inr (x218, x219) => ⟨[(60, .av (bv true))], [(0, .rows 1 [[.osl 7 0 (List.length x218) 2]]), (4, .rows 1 [[iv x219]]), (5, rpm_Segments_lp10 x119 .ready none), (7, .rows 2 (List.map c_S_rpm_segment x218))], 8⟩)) rfl rfl rpm_Segments_y55_aw rpm_Segments_y55_bw (by kernel_rfl) (by kernel_rfl) (yctx_of hc10 rfl) rfl (by kernel_rfl) rfl ?_ (by rintro (⟨x216, x217⟩ | ⟨x218, x219⟩) <;> exact ⟨none, by kernel_rfl⟩) (by rintro (⟨x216, x217⟩ | ⟨x218, x219⟩) <;> kernel_rfl) ?_
            · intro F14 hy14
              refine jc_reg ?_
              refine jr_seg 0 2 [5, 7, 8] [0, 4, 5, 6, 7] (st1 := ⟨[(5, .av (.ptr 0 0 1 0)), (7, .av (.ptr 4 0 1 0)), (8, .av (.ptr 7 0 2 0))], [(0, .rows 1 [[.osl 6 0 (List.length x170) 2]]), (4, .rows 1 [[iv x171]]), (5, rpm_Segments_lp10 x119 .ready none), (6, .rows 2 (List.map c_S_rpm_segment x170)), (7, .rows 2 [[iv 1, bs []]])], 8⟩) (by kernel_rfl) ?_
              refine jr_nil rfl ?_
              refine jx_asg hy14 rfl ?_
              refine jc_block ?_
              refine jc_seq ?_
              refine jc_seq ?_
              refine jc_reg ?_
              refine jr_seg 0 3 [5, 7, 8, 22] [0, 4, 5, 6, 7] (st1 := ⟨[(5, .av (.ptr 0 0 1 0)), (7, .av (.ptr 4 0 1 0)), (8, .av (.ptr 7 0 2 0)), (22, .av (bv ((List.length x170 : Int) == 0)))], [(0, .rows 1 [[.osl 6 0 (List.length x170) 2]]), (4, .rows 1 [[iv x171]]), (5, rpm_Segments_lp10 x119 .busy none), (6, .rows 2 (List.map c_S_rpm_segment x170)), (7, .rows 2 [[iv 1, bs []]])], 8⟩) (by kernel_rfl) ?_
              refine jr_nil rfl ?_
              refine jx_seqN ?_
              refine jc_cond (g := 22) (c := ((List.length x170 : Int) == 0)) (by kernel_rfl) ?_ ?_
              · intro _
                refine jc_exit ?_
                refine jx_seqE ?_
                refine jx_blkX rfl ?_
                exact jx_mid rfl (wk_ren [(0, some 0), (1, some 1), (2, some 2), (3, some 3), (4, some 4), (5, some 5), (6, some 6), (7, some 6)] (fix_of hy14.2 (k := 7) rfl) rfl (by kernel_rfl) (allp_cons (.inl ⟨0, _, _, _, rfl, rfl, rfl, .inl (by kernel_rfl)⟩) (allp_cons (.inl ⟨4, _, _, _, rfl, rfl, rfl, .inl (by kernel_rfl)⟩) (allp_cons (.inr (.inr ⟨5, _, _, rfl, rfl, rfl, by kernel_rfl⟩)) (allp_cons (.inl ⟨6, _, _, _, rfl, rfl, rfl, .inr ⟨rfl, noid_map ni_S_rpm_segment _⟩⟩) allp_nil)))))
              · intro _
                refine jc_skip ?_
                refine jx_seqN ?_
                refine jc_seq ?_
                refine jc_reg ?_
                refine jr_seg 0 1 [5, 7, 8, 23] [0, 4, 5, 6, 7] (st1 := ⟨[(5, .av (.ptr 0 0 1 0)), (7, .av (.ptr 4 0 1 0)), (8, .av (.ptr 7 0 2 0)), (23, .av (.osl 6 0 (List.length x170) 2))], [(0, .rows 1 [[.osl 6 0 (List.length x170) 2]]), (4, .rows 1 [[iv x171]]), (5, rpm_Segments_lp10 x119 .busy none), (6, .rows 2 (List.map c_S_rpm_segment x170)), (7, .rows 2 [[iv 1, bs []]])], 8⟩) (by kernel_rfl) ?_
                refine jr_part (i := 1) (mo := ixl x170 0) rfl rfl rfl rfl (fun _ hc => aop_ixo0 (sz := 2) (e := 100) (kk := .i64) (id := 6) (by kernel_rfl) (by kernel_rfl) (by kernel_rfl) (by kernel_rfl) hc) (fun _ => rfl) ?_
                intro x220 h220
                refine jr_one (i := 2) (v := .agg [iv x220.kind, bs x220.text]) rfl rfl rfl rfl (aop_ldo (l := x170) (c := c_S_rpm_segment) (id := 6) (k := (Int.toNat 0)) (sz := 2) (off := 0) (a := x220) (by kernel_rfl) (by kernel_rfl) (ixl_lt h220).2.2 (by kernel_rfl)) rfl ?_
                refine jr_seg 3 2 [5, 7, 8, 9] [0, 4, 5, 6, 7, 8] (st1 := ⟨[(5, .av (.ptr 0 0 1 0)), (7, .av (.ptr 4 0 1 0)), (8, .av (.ptr 7 0 2 0)), (9, .av (.ptr 8 0 2 0))], [(0, .rows 1 [[.osl 6 0 (List.length x170) 2]]), (4, .rows 1 [[iv x171]]), (5, rpm_Segments_lp10 x119 .busy none), (6, .rows 2 (List.map c_S_rpm_segment x170)), (7, .rows 2 [[iv 1, bs []]]), (8, .rows 2 [[iv x220.kind, bs x220.text]])], 9⟩) (by kernel_rfl) ?_
                refine jr_nil rfl ?_
                refine jx_seqN ?_
                refine jc_seq ?_
                refine jc_reg ?_
                refine jr_seg 0 1 [5, 7, 8, 9, 26] [0, 4, 5, 6, 7, 8] (st1 := ⟨[(5, .av (.ptr 0 0 1 0)), (7, .av (.ptr 4 0 1 0)), (8, .av (.ptr 7 0 2 0)), (9, .av (.ptr 8 0 2 0)), (26, .av (.osl 6 0 (List.length x170) 2))], [(0, .rows 1 [[.osl 6 0 (List.length x170) 2]]), (4, .rows 1 [[iv x171]]), (5, rpm_Segments_lp10 x119 .busy none), (6, .rows 2 (List.map c_S_rpm_segment x170)), (7, .rows 2 [[iv 1, bs []]]), (8, .rows 2 [[iv x220.kind, bs x220.text]])], 9⟩) (by kernel_rfl) ?_
                refine jr_part (i := 1) (mo := subl x170 1 (List.length x170 : Int)) rfl rfl rfl rfl (fun _ hc => aop_subo (l := x170) (e := 100) (id := 6) (off := 0) (sz := 2) (by kernel_rfl) (by kernel_rfl) (by kernel_rfl) (by kernel_rfl) (by kernel_rfl) hc) (fun _ => rfl) ?_
                intro x221 h221
                refine jr_root (d := 27) (j := 6) (k := 0 + Int.toNat 1) (len := List.length x221) (sz := 2) (rows := List.map c_S_rpm_segment x170) (rows' := List.map c_S_rpm_segment x221) (by kernel_rfl) (by kernel_rfl) (subl_kle h221) (subl_rows0 h221) ?_
                refine jr_seg 2 1 [7, 8, 9] [0, 4, 5, 7, 8, 9] (st1 := ⟨[(7, .av (.ptr 4 0 1 0)), (8, .av (.ptr 7 0 2 0)), (9, .av (.ptr 8 0 2 0))], [(0, .rows 1 [[.osl 9 0 (List.length x221) 2]]), (4, .rows 1 [[iv x171]]), (5, rpm_Segments_lp10 x119 .busy none), (7, .rows 2 [[iv 1, bs []]]), (8, .rows 2 [[iv x220.kind, bs x220.text]]), (9, .rows 2 (List.map c_S_rpm_segment x221))], 10⟩) (by kernel_rfl) ?_
                refine jr_nil rfl ?_
                refine jx_seqN ?_
                refine jc_seq ?_
                refine jc_reg ?_
                refine jr_seg 0 4 [7, 8, 9, 29, 31] [0, 4, 5, 7, 8, 9] (st1 := ⟨[(7, .av (.ptr 4 0 1 0)), (8, .av (.ptr 7 0 2 0)), (9, .av (.ptr 8 0 2 0)), (29, .av (iv x220.kind)), (31, .av (iv 1))], [(0, .rows 1 [[.osl 9 0 (List.length x221) 2]]), (4, .rows 1 [[iv x171]]), (5, rpm_Segments_lp10 x119 .busy none), (7, .rows 2 [[iv 1, bs []]]), (8, .rows 2 [[iv x220.kind, bs x220.text]]), (9, .rows 2 (List.map c_S_rpm_segment x221))], 10⟩) (by kernel_rfl) ?_
                refine jr_callF (i := 4) rfl rfl rfl rfl (vs := [iv x220.kind, iv 1]) (by kernel_rfl) (snapL_cons rfl (snapL_cons rfl (snapL_nil _))) (all2_cons (fle_refl _) (all2_cons (fle_refl _) all2_nil)) (cmp_Compare_int_ok x220.kind 1) (fun _ => rfl) (fun _ => rfl) ?_
                intro x222 h222
                refine jr_seg 5 1 [7, 8, 9] [0, 4, 5, 7, 8, 9] (st1 := ⟨[(7, .av (.ptr 4 0 1 0)), (8, .av (.ptr 7 0 2 0)), (9, .av (.ptr 8 0 2 0))], [(0, .rows 1 [[.osl 9 0 (List.length x221) 2]]), (4, .rows 1 [[iv x222]]), (5, rpm_Segments_lp10 x119 .busy none), (7, .rows 2 [[iv 1, bs []]]), (8, .rows 2 [[iv x220.kind, bs x220.text]]), (9, .rows 2 (List.map c_S_rpm_segment x221))], 10⟩) (by kernel_rfl) ?_
                refine jr_nil rfl ?_
                refine jx_seqN ?_
                refine jc_seq ?_
                refine jc_bind (fun x224 => ⟨[(7, .av (.ptr 4 0 1 0)), (8, .av (.ptr 7 0 2 0)), (9, .av (.ptr 8 0 2 0))], [(0, .rows 1 [[.osl 9 0 (List.length x221) 2]]), (4, .rows 1 [[iv x224]]), (5, rpm_Segments_lp10 x119 .busy none), (7, .rows 2 [[iv 1, bs []]]), (8, .rows 2 [[iv x220.kind, bs x220.text]]), (9, .rows 2 (List.map c_S_rpm_segment x221))], 10⟩) (fun x224 => .normal) ?_ ?_
                · refine jc_seq ?_
                  refine jc_reg ?_
                  refine jr_seg 0 7 [7, 8, 9, 39] [0, 4, 5, 7, 8, 9] (st1 := ⟨[(7, .av (.ptr 4 0 1 0)), (8, .av (.ptr 7 0 2 0)), (9, .av (.ptr 8 0 2 0)), (39, .av (bv ((x222 == 0) && (x220.kind == 4))))], [(0, .rows 1 [[.osl 9 0 (List.length x221) 2]]), (4, .rows 1 [[iv x222]]), (5, rpm_Segments_lp10 x119 .busy none), (7, .rows 2 [[iv 1, bs []]]), (8, .rows 2 [[iv x220.kind, bs x220.text]]), (9, .rows 2 (List.map c_S_rpm_segment x221))], 10⟩) (by kernel_rfl) ?_
                  refine jr_nil rfl ?_
                  refine jx_seqN ?_
                  refine jc_cond (g := 39) (c := ((x222 == 0) && (x220.kind == 4))) (by kernel_rfl) ?_ ?_
                  · intro _
                    refine jc_reg ?_
                    refine jr_seg 0 4 [7, 8, 9, 41, 43] [0, 4, 5, 7, 8, 9] (st1 := ⟨[(7, .av (.ptr 4 0 1 0)), (8, .av (.ptr 7 0 2 0)), (9, .av (.ptr 8 0 2 0)), (41, .av (bs x220.text)), (43, .av (bs []))], [(0, .rows 1 [[.osl 9 0 (List.length x221) 2]]), (4, .rows 1 [[iv x222]]), (5, rpm_Segments_lp10 x119 .busy none), (7, .rows 2 [[iv 1, bs []]]), (8, .rows 2 [[iv x220.kind, bs x220.text]]), (9, .rows 2 (List.map c_S_rpm_segment x221))], 10⟩) (by kernel_rfl) ?_
                    refine jr_callF (i := 4) rfl rfl rfl rfl (vs := [bs x220.text, bs []]) (by kernel_rfl) (snapL_cons rfl (snapL_cons rfl (snapL_nil _))) (all2_cons (fle_refl _) (all2_cons (fle_refl _) all2_nil)) (scan_Cmp_ok x220.text []) (fun _ => rfl) (fun _ => rfl) ?_
                    intro x225 h225
                    refine jr_seg 5 1 [7, 8, 9] [0, 4, 5, 7, 8, 9] (st1 := ⟨[(7, .av (.ptr 4 0 1 0)), (8, .av (.ptr 7 0 2 0)), (9, .av (.ptr 8 0 2 0))], [(0, .rows 1 [[.osl 9 0 (List.length x221) 2]]), (4, .rows 1 [[iv x225]]), (5, rpm_Segments_lp10 x119 .busy none), (7, .rows 2 [[iv 1, bs []]]), (8, .rows 2 [[iv x220.kind, bs x220.text]]), (9, .rows 2 (List.map c_S_rpm_segment x221))], 10⟩) (by kernel_rfl) ?_
                    refine jr_nil rfl ?_
                    exact jx_mid rfl (wk_ren [(0, some 0), (1, some 1), (2, some 2), (3, some 3), (4, some 4), (5, some 5), (6, some 6), (7, some 7), (8, some 8), (9, some 9)] (fix_of hy14.2 (k := 7) rfl) rfl (by kernel_rfl) (allp_cons (.inl ⟨0, _, _, _, rfl, rfl, rfl, .inl (by kernel_rfl)⟩) (allp_cons (.inl ⟨4, _, _, _, rfl, rfl, rfl, .inl (by kernel_rfl)⟩) (allp_cons (.inr (.inr ⟨5, _, _, rfl, rfl, rfl, by kernel_rfl⟩)) (allp_cons (.inl ⟨7, _, _, _, rfl, rfl, rfl, .inl (by kernel_rfl)⟩) (allp_cons (.inl ⟨8, _, _, _, rfl, rfl, rfl, .inl (by kernel_rfl)⟩) (allp_cons (.inl ⟨9, _, _, _, rfl, rfl, rfl, .inr ⟨rfl, noid_map ni_S_rpm_segment _⟩⟩) allp_nil)))))))
                  · intro _
                    refine jc_skip ?_
                    exact jx_mid rfl (wk_ren [(0, some 0), (1, some 1), (2, some 2), (3, some 3), (4, some 4), (5, some 5), (6, some 6), (7, some 7), (8, some 8), (9, some 9)] (fix_of hy14.2 (k := 7) rfl) rfl (by kernel_rfl) (allp_cons (.inl ⟨0, _, _, _, rfl, rfl, rfl, .inl (by kernel_rfl)⟩) (allp_cons (.inl ⟨4, _, _, _, rfl, rfl, rfl, .inl (by kernel_rfl)⟩) (allp_cons (.inr (.inr ⟨5, _, _, rfl, rfl, rfl, by kernel_rfl⟩)) (allp_cons (.inl ⟨7, _, _, _, rfl, rfl, rfl, .inl (by kernel_rfl)⟩) (allp_cons (.inl ⟨8, _, _, _, rfl, rfl, rfl, .inl (by kernel_rfl)⟩) (allp_cons (.inl ⟨9, _, _, _, rfl, rfl, rfl, .inr ⟨rfl, noid_map ni_S_rpm_segment _⟩⟩) allp_nil)))))))
                · intro x224
                  refine jx_seqN ?_
                  refine jc_seq ?_
                  refine jc_bind (fun x227 => ⟨[(7, .av (.ptr 4 0 1 0))], [(0, .rows 1 [[.osl 7 0 (List.length x221) 2]]), (4, .rows 1 [[iv x227]]), (5, rpm_Segments_lp10 x119 .busy none), (7, .rows 2 (List.map c_S_rpm_segment x221))], 8⟩) (fun x227 => .normal) ?_ ?_
                  · refine jc_seq ?_
                    refine jc_reg ?_
                    refine jr_seg 0 7 [7, 8, 9, 51] [0, 4, 5, 7, 8, 9] (st1 := ⟨[(7, .av (.ptr 4 0 1 0)), (8, .av (.ptr 7 0 2 0)), (9, .av (.ptr 8 0 2 0)), (51, .av (bv ((x224 == 0) && (x220.kind == 3))))], [(0, .rows 1 [[.osl 9 0 (List.length x221) 2]]), (4, .rows 1 [[iv x224]]), (5, rpm_Segments_lp10 x119 .busy none), (7, .rows 2 [[iv 1, bs []]]), (8, .rows 2 [[iv x220.kind, bs x220.text]]), (9, .rows 2 (List.map c_S_rpm_segment x221))], 10⟩) (by kernel_rfl) ?_
                    refine jr_nil rfl ?_
                    refine jx_seqN ?_
                    refine jc_cond (g := 51) (c := ((x224 == 0) && (x220.kind == 3))) (by kernel_rfl) ?_ ?_
                    · intro _
                      refine jc_reg ?_
                      refine jr_seg 0 4 [7, 53, 55] [0, 4, 5, 9] (st1 := ⟨[(7, .av (.ptr 4 0 1 0)), (53, .av (bs x220.text)), (55, .av (bs []))], [(0, .rows 1 [[.osl 9 0 (List.length x221) 2]]), (4, .rows 1 [[iv x224]]), (5, rpm_Segments_lp10 x119 .busy none), (9, .rows 2 (List.map c_S_rpm_segment x221))], 10⟩) (by kernel_rfl) ?_
                      refine jr_callF (i := 4) rfl rfl rfl rfl (vs := [bs x220.text, bs []]) (by kernel_rfl) (snapL_cons rfl (snapL_cons rfl (snapL_nil _))) (all2_cons (fle_refl _) (all2_cons (fle_refl _) all2_nil)) (strings_Compare_ok x220.text []) (fun _ => rfl) (fun _ => rfl) ?_
                      intro x228 h228
                      refine jr_seg 5 1 [7] [0, 4, 5, 9] (st1 := ⟨[(7, .av (.ptr 4 0 1 0))], [(0, .rows 1 [[.osl 9 0 (List.length x221) 2]]), (4, .rows 1 [[iv x228]]), (5, rpm_Segments_lp10 x119 .busy none), (9, .rows 2 (List.map c_S_rpm_segment x221))], 10⟩) (by kernel_rfl) ?_
                      refine jr_nil rfl ?_
                      exact jx_mid rfl (wk_ren [(0, some 0), (1, some 1), (2, some 2), (3, some 3), (4, some 4), (5, some 5), (6, some 6), (7, some 9)] (fix_of hy14.2 (k := 7) rfl) rfl (by kernel_rfl) (allp_cons (.inl ⟨0, _, _, _, rfl, rfl, rfl, .inl (by kernel_rfl)⟩) (allp_cons (.inl ⟨4, _, _, _, rfl, rfl, rfl, .inl (by kernel_rfl)⟩) (allp_cons (.inr (.inr ⟨5, _, _, rfl, rfl, rfl, by kernel_rfl⟩)) (allp_cons (.inl ⟨9, _, _, _, rfl, rfl, rfl, .inr ⟨rfl, noid_map ni_S_rpm_segment _⟩⟩) allp_nil)))))
                    · intro _
                      refine jc_skip ?_
                      exact jx_mid rfl (wk_ren [(0, some 0), (1, some 1), (2, some 2), (3, some 3), (4, some 4), (5, some 5), (6, some 6), (7, some 9)] (fix_of hy14.2 (k := 7) rfl) rfl (by kernel_rfl) (allp_cons (.inl ⟨0, _, _, _, rfl, rfl, rfl, .inl (by kernel_rfl)⟩) (allp_cons (.inl ⟨4, _, _, _, rfl, rfl, rfl, .inl (by kernel_rfl)⟩) (allp_cons (.inr (.inr ⟨5, _, _, rfl, rfl, rfl, by kernel_rfl⟩)) (allp_cons (.inl ⟨9, _, _, _, rfl, rfl, rfl, .inr ⟨rfl, noid_map ni_S_rpm_segment _⟩⟩) allp_nil)))))
                  · intro x227
                    refine jx_seqN ?_
                    refine jc_seq ?_
                    refine jc_reg ?_
                    refine jr_seg 0 2 [58] [0, 4, 5, 7] (st1 := ⟨[(58, .av (bv (x227 != 0)))], [(0, .rows 1 [[.osl 7 0 (List.length x221) 2]]), (4, .rows 1 [[iv x227]]), (5, rpm_Segments_lp10 x119 .busy none), (7, .rows 2 (List.map c_S_rpm_segment x221))], 8⟩) (by kernel_rfl) ?_
                    refine jr_nil rfl ?_
                    refine jx_seqN ?_
                    refine jc_cond (g := 58) (c := (x227 != 0)) (by kernel_rfl) ?_ ?_
                    · intro _
                      refine jc_exit ?_
                      refine jx_blkX rfl ?_
                      exact jx_mid rfl (wk_ren [(0, some 0), (1, some 1), (2, some 2), (3, some 3), (4, some 4), (5, some 5), (6, some 6), (7, some 7)] (fix_of hy14.2 (k := 7) rfl) rfl (by kernel_rfl) (allp_cons (.inl ⟨0, _, _, _, rfl, rfl, rfl, .inl (by kernel_rfl)⟩) (allp_cons (.inl ⟨4, _, _, _, rfl, rfl, rfl, .inl (by kernel_rfl)⟩) (allp_cons (.inr (.inr ⟨5, _, _, rfl, rfl, rfl, by kernel_rfl⟩)) (allp_cons (.inl ⟨7, _, _, _, rfl, rfl, rfl, .inr ⟨rfl, noid_map ni_S_rpm_segment _⟩⟩) allp_nil)))))
                    · intro _
                      refine jc_skip ?_
                      refine jx_blkN ?_
                      exact jx_mid rfl (wk_ren [(0, some 0), (1, some 1), (2, some 2), (3, some 3), (4, some 4), (5, some 5), (6, some 6), (7, some 7)] (fix_of hy14.2 (k := 7) rfl) rfl (by kernel_rfl) (allp_cons (.inl ⟨0, _, _, _, rfl, rfl, rfl, .inl (by kernel_rfl)⟩) (allp_cons (.inl ⟨4, _, _, _, rfl, rfl, rfl, .inl (by kernel_rfl)⟩) (allp_cons (.inr (.inr ⟨5, _, _, rfl, rfl, rfl, by kernel_rfl⟩)) (allp_cons (.inl ⟨7, _, _, _, rfl, rfl, rfl, .inr ⟨rfl, noid_map ni_S_rpm_segment _⟩⟩) allp_nil)))))
            · rintro (⟨x216, x217⟩ | ⟨x218, x219⟩)
              · refine jr_nil rfl ?_
                refine jx_rng hc10 (.inl rfl) rfl nofun rfl ?_
                refine jx_blkE ?_
                exact jx_mid rfl (wk_ren [(0, some 4)] (fix_nil _) rfl (by kernel_rfl) (allp_cons (.inl ⟨4, _, _, _, rfl, rfl, rfl, .inl (by kernel_rfl)⟩) allp_nil))
              · refine jr_nil rfl ?_
                refine jx_rng hc10 (.inl rfl) rfl nofun rfl ?_
                refine jx_blkN ?_
                exact jx_mid rfl (wk_ren [(0, some 4)] (fix_nil _) rfl (by kernel_rfl) (allp_cons (.inl ⟨4, _, _, _, rfl, rfl, rfl, .inl (by kernel_rfl)⟩) allp_nil))
      · intro x118
        refine jx_seqN ?_
        refine jc_seq ?_
        refine jc_reg ?_
        refine jr_seg 0 2 [4] [] (st1 := ⟨[(4, .av (iv x118))], [], 1⟩) (by kernel_rfl) ?_
        refine jr_nil rfl ?_
        refine jx_seqN ?_
        refine jc_ret ?_
        refine jx_scopeR ?_
        exact jx_retF (.inr rfl) (v := iv x118) (by kernel_rfl) rfl (fle_refl _))
end Go.Vm

set_option maxRecDepth 100000
set_option maxHeartbeats 0
set_option linter.unusedVariables false
set_option linter.unusedSimpArgs false
namespace Go.Vm
open Go
abbrev ref05_segments_r1 : List LO := [⟨some 2, Op.assign (Operand.const (Value.bool false)), 4, none⟩]
abbrev ref05_segments_b2 : LC := .reg false ref05_segments_r1
abbrev ref05_segments_r3 : List LO := [⟨some 3, Op.move (Operand.tmp 0), 9, none⟩,
  ⟨some 4, Op.binOp BinOp.neq 9 (Operand.tmp 3) (Operand.const (Value.string { data := #[] })) 9, 4, none⟩,
  ⟨some 5, Op.move (Operand.tmp 4), 4, none⟩,
  ⟨some 6, Op.move (Operand.tmp 0), 9, (some (5, true))⟩,
  ⟨some 7, Op.call { callee := Callee.value (Operand.func 78), args := #[Operand.tmp 6, Operand.const (Value.int IntKind.i64 0)], argTypes := #[9, 3] }, 3, (some (5, true))⟩,
  ⟨some 8, Op.move (Operand.tmp 0), 9, (some (5, true))⟩,
  ⟨some 9, Op.call { callee := Callee.builtin Builtin.len, args := #[Operand.tmp 8], argTypes := #[9] }, 3, (some (5, true))⟩,
  ⟨some 10, Op.binOp BinOp.eql 3 (Operand.tmp 7) (Operand.tmp 9) 3, 4, (some (5, true))⟩,
  ⟨some 11, Op.pick (Operand.tmp 5) (Operand.tmp 10) (Operand.const (Value.bool false)), 4, none⟩,
  ⟨some 2, Op.assign (Operand.tmp 11), 4, none⟩]
abbrev ref05_segments_b4 : LC := .reg false ref05_segments_r3
abbrev ref05_segments_b5 : LC := .seq ref05_segments_b4 .ret
abbrev ref05_segments_b6 : LC := .seq ref05_segments_b2 ref05_segments_b5
theorem ref05_segments_k : FnOk E 84 12 [.tmp 2] ref05_segments_b6 := ⟨⟨Go.Proofs.Tryd.f84, by kernel_rfl, by kernel_rfl, by kernel_rfl, by kernel_rfl, by kernel_rfl⟩, rfl⟩
noncomputable def ref05_segments (a0 : Str) : Option (Bool) := Option.bind (if (!(a0 == [])) = true then Option.bind (ref05_run a0 0) (fun x3 => some (x3 == (List.length a0 : Int))) else some false : Option (Bool)) (fun x2 => some x2)
theorem ref05_segments_ok (a0 : Str) : Ct E 84 [bs a0] (ref05_segments a0) (fun r : Bool => bv r) := ct_intro (N := 12) (L := ref05_segments_b6) ref05_segments_k rfl (Nat.le_of_ble_eq_true rfl) (by kernel_rfl) (by
  unfold ref05_segments
  refine jc_seq ?_
  refine jc_reg ?_
  refine jr_seg 0 1 [0] [] (st1 := ⟨[(0, .av (bs a0))], [], 0⟩) (by kernel_rfl) ?_
  refine jr_nil rfl ?_
  refine jx_seqN ?_
  refine jc_seq ?_
  refine jc_reg ?_
  refine jr_seg 0 3 [0, 5] [] (st1 := ⟨[(0, .av (bs a0)), (5, .av (bv (!(a0 == []))))], [], 0⟩) (by kernel_rfl) ?_
  refine jr_bind 3 6 (fun x2 => ⟨[(11, .av (bv x2))], [], 0⟩) ?_ ?_
  · refine jr_split (g := 5) (c := (!(a0 == []))) (by kernel_rfl) ?_ ?_
    · intro _
      refine jr_seg 0 1 [0, 5, 6] [] (st1 := ⟨[(0, .av (bs a0)), (5, .lit true), (6, .av (bs a0))], [], 0⟩) (by kernel_rfl) ?_
      refine jr_callF (i := 1) rfl rfl rfl rfl (vs := [bs a0, iv 0]) (by kernel_rfl) (snapL_cons rfl (snapL_cons rfl (snapL_nil _))) (all2_cons (fle_refl _) (all2_cons (fle_refl _) all2_nil)) (ref05_run_ok a0 0) (fun _ => rfl) (fun _ => rfl) ?_
      intro x3 h3
      refine jr_seg 2 4 [11] [] (st1 := ⟨[(11, .av (bv (x3 == (List.length a0 : Int))))], [], 0⟩) (by kernel_rfl) ?_
      refine jr_nil rfl ?_
      exact jx_mid rfl (wk_ren [] (fix_nil _) rfl (by kernel_rfl) allp_nil)
    · intro _
      refine jr_seg 0 6 [11] [] (st1 := ⟨[(11, .av (bv false))], [], 0⟩) (by kernel_rfl) ?_
      refine jr_nil rfl ?_
      exact jx_mid rfl (wk_ren [] (fix_nil _) rfl (by kernel_rfl) allp_nil)
  · intro x2
    refine jr_seg 9 1 [2] [] (st1 := ⟨[(2, .av (bv x2))], [], 0⟩) (by kernel_rfl) ?_
    refine jr_nil rfl ?_
    refine jx_seqN ?_
    refine jc_ret ?_
    exact jx_retF (.inr rfl) (v := bv x2) (by kernel_rfl) rfl (fle_refl _))
end Go.Vm

set_option maxRecDepth 100000
set_option maxHeartbeats 0
set_option linter.unusedVariables false
set_option linter.unusedSimpArgs false
namespace Go.Vm
open Go
abbrev ref05_raw_r1 : List LO := [⟨some 1, Op.box 51 (Operand.tmp 0), 0, none⟩,
  ⟨some 2, Op.assign (Operand.const (Value.string { data := #[] })), 9, none⟩]
abbrev ref05_raw_b2 : LC := .reg false ref05_raw_r1
abbrev ref05_raw_r3 : List LO := [⟨some 4, Op.fieldAddr 51 (Operand.tmp 1) 1, 0, none⟩,
  ⟨some 5, Op.load 9 (Operand.tmp 4), 9, none⟩,
  ⟨some 3, Op.assign (Operand.tmp 5), 9, none⟩]
abbrev ref05_raw_b4 : LC := .reg false ref05_raw_r3
abbrev ref05_raw_r5 : List LO := [⟨some 6, Op.fieldAddr 51 (Operand.tmp 1) 0, 0, none⟩,
  ⟨some 7, Op.load 9 (Operand.tmp 6), 9, none⟩,
  ⟨some 8, Op.binOp BinOp.neq 9 (Operand.tmp 7) (Operand.const (Value.string { data := #[48] })) 9, 4, none⟩]
abbrev ref05_raw_b6 : LC := .reg false ref05_raw_r5
abbrev ref05_raw_r7 : List LO := [⟨some 9, Op.fieldAddr 51 (Operand.tmp 1) 0, 0, none⟩,
  ⟨some 10, Op.load 9 (Operand.tmp 9), 9, none⟩,
  ⟨some 11, Op.binOp BinOp.add 9 (Operand.tmp 10) (Operand.const (Value.string { data := #[58] })) 9, 9, none⟩,
  ⟨some 12, Op.move (Operand.tmp 3), 9, none⟩,
  ⟨some 13, Op.binOp BinOp.add 9 (Operand.tmp 11) (Operand.tmp 12) 9, 9, none⟩,
  ⟨some 3, Op.assign (Operand.tmp 13), 9, none⟩]
abbrev ref05_raw_b8 : LC := .reg false ref05_raw_r7
abbrev ref05_raw_b9 : LC := .cond (Operand.tmp 8) ref05_raw_b8 .skip
abbrev ref05_raw_b10 : LC := .seq ref05_raw_b6 ref05_raw_b9
abbrev ref05_raw_r11 : List LO := [⟨some 14, Op.fieldAddr 51 (Operand.tmp 1) 3, 0, none⟩,
  ⟨some 15, Op.load 4 (Operand.tmp 14), 4, none⟩]
abbrev ref05_raw_b12 : LC := .reg false ref05_raw_r11
abbrev ref05_raw_r13 : List LO := [⟨some 16, Op.move (Operand.tmp 3), 9, none⟩,
  ⟨some 17, Op.binOp BinOp.add 9 (Operand.tmp 16) (Operand.const (Value.string { data := #[45] })) 9, 9, none⟩,
  ⟨some 18, Op.fieldAddr 51 (Operand.tmp 1) 2, 0, none⟩,
  ⟨some 19, Op.load 9 (Operand.tmp 18), 9, none⟩,
  ⟨some 20, Op.binOp BinOp.add 9 (Operand.tmp 17) (Operand.tmp 19) 9, 9, none⟩,
  ⟨some 3, Op.assign (Operand.tmp 20), 9, none⟩]
abbrev ref05_raw_b14 : LC := .reg false ref05_raw_r13
abbrev ref05_raw_b15 : LC := .cond (Operand.tmp 15) ref05_raw_b14 .skip
abbrev ref05_raw_b16 : LC := .seq ref05_raw_b12 ref05_raw_b15
abbrev ref05_raw_r17 : List LO := [⟨some 21, Op.move (Operand.tmp 3), 9, none⟩,
  ⟨some 2, Op.assign (Operand.tmp 21), 9, none⟩]
abbrev ref05_raw_b18 : LC := .reg false ref05_raw_r17
abbrev ref05_raw_b19 : LC := .seq ref05_raw_b18 .ret
abbrev ref05_raw_b20 : LC := .seq ref05_raw_b16 ref05_raw_b19
abbrev ref05_raw_b21 : LC := .seq ref05_raw_b10 ref05_raw_b20
abbrev ref05_raw_b22 : LC := .seq ref05_raw_b4 ref05_raw_b21
abbrev ref05_raw_b23 : LC := .seq ref05_raw_b2 ref05_raw_b22
theorem ref05_raw_k : FnOk E 85 22 [.tmp 2] ref05_raw_b23 := ⟨⟨Go.Proofs.Tryd.f85, by kernel_rfl, by kernel_rfl, by kernel_rfl, by kernel_rfl, by kernel_rfl⟩, rfl⟩
noncomputable def ref05_raw (a0 : S_api_Evr) : Option (Str) := Option.bind ((if (!(a0.Epoch == [48])) = true then Option.bind (cat a0.Epoch [58]) (fun x4 => Option.bind (cat x4 a0.Ver) (fun x5 => some x5)) else some a0.Ver) : Option (Str)) (fun x3 => Option.bind ((if a0.HasRel = true then Option.bind (cat x3 [45]) (fun x9 => Option.bind (cat x9 a0.Rel) (fun x10 => some x10)) else some x3) : Option (Str)) (fun x8 => some x8))
theorem ref05_raw_ok (a0 : S_api_Evr) : Ct E 85 [.agg [bs a0.Epoch, bs a0.Ver, bs a0.Rel, bv a0.HasRel]] (ref05_raw a0) (fun r : Str => bs r) := ct_intro (N := 22) (L := ref05_raw_b23) ref05_raw_k rfl (Nat.le_of_ble_eq_true rfl) (by kernel_rfl) (by
  unfold ref05_raw
  refine jc_seq ?_
  refine jc_reg ?_
  refine jr_seg 0 2 [1] [0] (st1 := ⟨[(1, .av (.ptr 0 0 4 0))], [(0, .rows 4 [[bs a0.Epoch, bs a0.Ver, bs a0.Rel, bv a0.HasRel]])], 1⟩) (by kernel_rfl) ?_
  refine jr_nil rfl ?_
  refine jx_seqN ?_
  refine jc_seq ?_
  refine jc_reg ?_
  refine jr_seg 0 3 [1, 3] [0] (st1 := ⟨[(1, .av (.ptr 0 0 4 0)), (3, .av (bs a0.Ver))], [(0, .rows 4 [[bs a0.Epoch, bs a0.Ver, bs a0.Rel, bv a0.HasRel]])], 1⟩) (by kernel_rfl) ?_
  refine jr_nil rfl ?_
  refine jx_seqN ?_
  refine jc_seq ?_
  refine jc_bind (fun x3 => ⟨[(1, .av (.ptr 0 0 4 0)), (3, .av (bs x3))], [(0, .rows 4 [[bs a0.Epoch, bs a0.Ver, bs a0.Rel, bv a0.HasRel]])], 1⟩) (fun x3 => .normal) ?_ ?_
  · refine jc_seq ?_
    refine jc_reg ?_
    refine jr_seg 0 3 [1, 3, 8] [0] (st1 := ⟨[(1, .av (.ptr 0 0 4 0)), (3, .av (bs a0.Ver)), (8, .av (bv (!(a0.Epoch == [48]))))], [(0, .rows 4 [[bs a0.Epoch, bs a0.Ver, bs a0.Rel, bv a0.HasRel]])], 1⟩) (by kernel_rfl) ?_
    refine jr_nil rfl ?_
    refine jx_seqN ?_
    refine jc_cond (g := 8) (c := (!(a0.Epoch == [48]))) (by kernel_rfl) ?_ ?_
    · intro _
      refine jc_reg ?_
      refine jr_seg 0 2 [1, 3, 10] [0] (st1 := ⟨[(1, .av (.ptr 0 0 4 0)), (3, .av (bs a0.Ver)), (10, .av (bs a0.Epoch))], [(0, .rows 4 [[bs a0.Epoch, bs a0.Ver, bs a0.Rel, bv a0.HasRel]])], 1⟩) (by kernel_rfl) ?_
      refine jr_part (i := 2) (mo := cat a0.Epoch [58]) rfl rfl rfl rfl (fun _ hc => aop_cat (by kernel_rfl) (by kernel_rfl) hc) (fun _ => rfl) ?_
      intro x4 h4
      refine jr_seg 3 1 [1, 11, 12] [0] (st1 := ⟨[(1, .av (.ptr 0 0 4 0)), (11, .av (bs x4)), (12, .av (bs a0.Ver))], [(0, .rows 4 [[bs a0.Epoch, bs a0.Ver, bs a0.Rel, bv a0.HasRel]])], 1⟩) (by kernel_rfl) ?_
      refine jr_part (i := 4) (mo := cat x4 a0.Ver) rfl rfl rfl rfl (fun _ hc => aop_cat (by kernel_rfl) (by kernel_rfl) hc) (fun _ => rfl) ?_
      intro x5 h5
      refine jr_seg 5 1 [1, 3] [0] (st1 := ⟨[(1, .av (.ptr 0 0 4 0)), (3, .av (bs x5))], [(0, .rows 4 [[bs a0.Epoch, bs a0.Ver, bs a0.Rel, bv a0.HasRel]])], 1⟩) (by kernel_rfl) ?_
      refine jr_nil rfl ?_
      exact jx_mid rfl (wk_ren [(0, some 0)] (fix_nil _) rfl (by kernel_rfl) (allp_cons (.inl ⟨0, _, _, _, rfl, rfl, rfl, .inl (by kernel_rfl)⟩) allp_nil))
    · intro _
      refine jc_skip ?_
      exact jx_mid rfl (wk_ren [(0, some 0)] (fix_nil _) rfl (by kernel_rfl) (allp_cons (.inl ⟨0, _, _, _, rfl, rfl, rfl, .inl (by kernel_rfl)⟩) allp_nil))
  · intro x3
    refine jx_seqN ?_
    refine jc_seq ?_
    refine jc_bind (fun x8 => ⟨[(3, .av (bs x8))], [], 0⟩) (fun x8 => .normal) ?_ ?_
    · refine jc_seq ?_
      refine jc_reg ?_
      refine jr_seg 0 2 [1, 3, 15] [0] (st1 := ⟨[(1, .av (.ptr 0 0 4 0)), (3, .av (bs x3)), (15, .av (bv a0.HasRel))], [(0, .rows 4 [[bs a0.Epoch, bs a0.Ver, bs a0.Rel, bv a0.HasRel]])], 1⟩) (by kernel_rfl) ?_
      refine jr_nil rfl ?_
      refine jx_seqN ?_
      refine jc_cond (g := 15) (c := a0.HasRel) (by kernel_rfl) ?_ ?_
      · intro _
        refine jc_reg ?_
        refine jr_seg 0 1 [1, 16] [0] (st1 := ⟨[(1, .av (.ptr 0 0 4 0)), (16, .av (bs x3))], [(0, .rows 4 [[bs a0.Epoch, bs a0.Ver, bs a0.Rel, bv a0.HasRel]])], 1⟩) (by kernel_rfl) ?_
        refine jr_part (i := 1) (mo := cat x3 [45]) rfl rfl rfl rfl (fun _ hc => aop_cat (by kernel_rfl) (by kernel_rfl) hc) (fun _ => rfl) ?_
        intro x9 h9
        refine jr_seg 2 2 [17, 19] [] (st1 := ⟨[(17, .av (bs x9)), (19, .av (bs a0.Rel))], [], 1⟩) (by kernel_rfl) ?_
        refine jr_part (i := 4) (mo := cat x9 a0.Rel) rfl rfl rfl rfl (fun _ hc => aop_cat (by kernel_rfl) (by kernel_rfl) hc) (fun _ => rfl) ?_
        intro x10 h10
        refine jr_seg 5 1 [3] [] (st1 := ⟨[(3, .av (bs x10))], [], 1⟩) (by kernel_rfl) ?_
        refine jr_nil rfl ?_
        exact jx_mid rfl (wk_ren [] (fix_nil _) rfl (by kernel_rfl) allp_nil)
      · intro _
        refine jc_skip ?_
        exact jx_mid rfl (wk_ren [] (fix_nil _) rfl (by kernel_rfl) allp_nil)
    · intro x8
      refine jx_seqN ?_
      refine jc_seq ?_
      refine jc_reg ?_
      refine jr_seg 0 2 [2] [] (st1 := ⟨[(2, .av (bs x8))], [], 0⟩) (by kernel_rfl) ?_
      refine jr_nil rfl ?_
      refine jx_seqN ?_
      refine jc_ret ?_
      exact jx_retF (.inr rfl) (v := bs x8) (by kernel_rfl) rfl (fle_refl _))
end Go.Vm

set_option maxRecDepth 100000
set_option maxHeartbeats 0
set_option linter.unusedVariables false
set_option linter.unusedSimpArgs false
namespace Go.Vm
open Go
abbrev ref05_Fit_r1 : List LO := [⟨some 1, Op.box 51 (Operand.tmp 0), 0, none⟩,
  ⟨some 2, Op.assign (Operand.const (Value.bool false)), 4, none⟩]
abbrev ref05_Fit_b2 : LC := .reg false ref05_Fit_r1
abbrev ref05_Fit_r3 : List LO := [⟨some 3, Op.fieldAddr 51 (Operand.tmp 1) 0, 0, none⟩,
  ⟨some 4, Op.load 9 (Operand.tmp 3), 9, none⟩,
  ⟨some 5, Op.binOp BinOp.eql 9 (Operand.tmp 4) (Operand.const (Value.string { data := #[] })) 9, 4, none⟩,
  ⟨some 6, Op.move (Operand.tmp 5), 4, none⟩,
  ⟨some 7, Op.fieldAddr 51 (Operand.tmp 1) 0, 0, (some (6, false))⟩,
  ⟨some 8, Op.load 9 (Operand.tmp 7), 9, (some (6, false))⟩,
  ⟨some 9, Op.call { callee := Callee.value (Operand.func 31), args := #[Operand.tmp 8, Operand.const (Value.int IntKind.i64 0), Operand.const (Value.int IntKind.i64 1)], argTypes := #[9, 3, 3] }, 3, (some (6, false))⟩,
  ⟨some 10, Op.fieldAddr 51 (Operand.tmp 1) 0, 0, (some (6, false))⟩,
  ⟨some 11, Op.load 9 (Operand.tmp 10), 9, (some (6, false))⟩,
  ⟨some 12, Op.call { callee := Callee.builtin Builtin.len, args := #[Operand.tmp 11], argTypes := #[9] }, 3, (some (6, false))⟩,
  ⟨some 13, Op.binOp BinOp.neq 3 (Operand.tmp 9) (Operand.tmp 12) 3, 4, (some (6, false))⟩,
  ⟨some 14, Op.pick (Operand.tmp 6) (Operand.const (Value.bool true)) (Operand.tmp 13), 4, none⟩,
  ⟨some 15, Op.move (Operand.tmp 14), 4, none⟩,
  ⟨some 16, Op.fieldAddr 51 (Operand.tmp 1) 0, 0, (some (15, false))⟩,
  ⟨some 17, Op.load 9 (Operand.tmp 16), 9, (some (15, false))⟩,
  ⟨some 18, Op.call { callee := Callee.value (Operand.func 16), args := #[Operand.tmp 17], argTypes := #[9] }, 9, (some (15, false))⟩,
  ⟨some 19, Op.fieldAddr 51 (Operand.tmp 1) 0, 0, (some (15, false))⟩,
  ⟨some 20, Op.load 9 (Operand.tmp 19), 9, (some (15, false))⟩,
  ⟨some 21, Op.binOp BinOp.neq 9 (Operand.tmp 18) (Operand.tmp 20) 9, 4, (some (15, false))⟩,
  ⟨some 22, Op.pick (Operand.tmp 15) (Operand.const (Value.bool true)) (Operand.tmp 21), 4, none⟩,
  ⟨some 23, Op.move (Operand.tmp 22), 4, none⟩,
  ⟨some 24, Op.fieldAddr 51 (Operand.tmp 1) 1, 0, (some (23, false))⟩,
  ⟨some 25, Op.load 9 (Operand.tmp 24), 9, (some (23, false))⟩,
  ⟨some 26, Op.call { callee := Callee.value (Operand.func 84), args := #[Operand.tmp 25], argTypes := #[9] }, 4, (some (23, false))⟩,
  ⟨some 27, Op.unOp UnOp.not 4 (Operand.tmp 26), 4, (some (23, false))⟩,
  ⟨some 28, Op.pick (Operand.tmp 23) (Operand.const (Value.bool true)) (Operand.tmp 27), 4, none⟩,
  ⟨some 29, Op.move (Operand.tmp 28), 4, none⟩,
  ⟨some 30, Op.load 51 (Operand.tmp 1), 51, (some (29, false))⟩,
  ⟨some 31, Op.call { callee := Callee.value (Operand.func 85), args := #[Operand.tmp 30], argTypes := #[51] }, 9, (some (29, false))⟩,
  ⟨some 32, Op.call { callee := Callee.builtin Builtin.len, args := #[Operand.tmp 31], argTypes := #[9] }, 3, (some (29, false))⟩,
  ⟨some 33, Op.binOp BinOp.gtr 3 (Operand.tmp 32) (Operand.const (Value.int IntKind.i64 64)) 3, 4, (some (29, false))⟩,
  ⟨some 34, Op.pick (Operand.tmp 29) (Operand.const (Value.bool true)) (Operand.tmp 33), 4, none⟩]
abbrev ref05_Fit_b4 : LC := .reg true ref05_Fit_r3
abbrev ref05_Fit_r5 : List LO := [⟨some 2, Op.assign (Operand.const (Value.bool false)), 4, none⟩]
abbrev ref05_Fit_b6 : LC := .reg false ref05_Fit_r5
abbrev ref05_Fit_b7 : LC := .seq ref05_Fit_b6 .ret
abbrev ref05_Fit_b8 : LC := .cond (Operand.tmp 34) ref05_Fit_b7 .skip
abbrev ref05_Fit_b9 : LC := .seq ref05_Fit_b4 ref05_Fit_b8
abbrev ref05_Fit_r10 : List LO := [⟨some 35, Op.fieldAddr 51 (Operand.tmp 1) 3, 0, none⟩,
  ⟨some 36, Op.load 4 (Operand.tmp 35), 4, none⟩]
abbrev ref05_Fit_b11 : LC := .reg false ref05_Fit_r10
abbrev ref05_Fit_r12 : List LO := [⟨some 37, Op.fieldAddr 51 (Operand.tmp 1) 2, 0, none⟩,
  ⟨some 38, Op.load 9 (Operand.tmp 37), 9, none⟩,
  ⟨some 39, Op.call { callee := Callee.value (Operand.func 84), args := #[Operand.tmp 38], argTypes := #[9] }, 4, none⟩,
  ⟨some 2, Op.assign (Operand.tmp 39), 4, none⟩]
abbrev ref05_Fit_b13 : LC := .reg false ref05_Fit_r12
abbrev ref05_Fit_b14 : LC := .seq ref05_Fit_b13 .ret
abbrev ref05_Fit_b15 : LC := .cond (Operand.tmp 36) ref05_Fit_b14 .skip
abbrev ref05_Fit_b16 : LC := .seq ref05_Fit_b11 ref05_Fit_b15
abbrev ref05_Fit_r17 : List LO := [⟨some 40, Op.fieldAddr 51 (Operand.tmp 1) 2, 0, none⟩,
  ⟨some 41, Op.load 9 (Operand.tmp 40), 9, none⟩,
  ⟨some 42, Op.binOp BinOp.eql 9 (Operand.tmp 41) (Operand.const (Value.string { data := #[] })) 9, 4, none⟩,
  ⟨some 2, Op.assign (Operand.tmp 42), 4, none⟩]
abbrev ref05_Fit_b18 : LC := .reg false ref05_Fit_r17
abbrev ref05_Fit_b19 : LC := .seq ref05_Fit_b18 .ret
abbrev ref05_Fit_b20 : LC := .seq ref05_Fit_b16 ref05_Fit_b19
abbrev ref05_Fit_b21 : LC := .seq ref05_Fit_b9 ref05_Fit_b20
abbrev ref05_Fit_b22 : LC := .seq ref05_Fit_b2 ref05_Fit_b21
theorem ref05_Fit_k : FnOk E 44 43 [.tmp 2] ref05_Fit_b22 := ⟨⟨Go.Proofs.Tryd.f44, by kernel_rfl, by kernel_rfl, by kernel_rfl, by kernel_rfl, by kernel_rfl⟩, rfl⟩
noncomputable def ref05_Fit (a0 : S_api_Evr) : Option (Bool) := Option.bind (if (a0.Epoch == []) = true then some true else Option.bind (ref01_Run a0.Epoch 0 1) (fun x3 => some (x3 != (List.length a0.Epoch : Int))) : Option (Bool)) (fun x2 => Option.bind (if x2 = true then some true else Option.bind (ref01_Trim a0.Epoch) (fun x6 => some (!(x6 == a0.Epoch))) : Option (Bool)) (fun x5 => Option.bind (if x5 = true then some true else Option.bind (ref05_segments a0.Ver) (fun x9 => some (!x9)) : Option (Bool)) (fun x8 => Option.bind (if x8 = true then some true else Option.bind (ref05_raw a0) (fun x12 => some (decide ((List.length x12 : Int) > 64))) : Option (Bool)) (fun x11 => (if x11 = true then some false else (if a0.HasRel = true then Option.bind (ref05_segments a0.Rel) (fun x13 => some x13) else some (a0.Rel == [])))))))
theorem ref05_Fit_ok (a0 : S_api_Evr) : Ct E 44 [.agg [bs a0.Epoch, bs a0.Ver, bs a0.Rel, bv a0.HasRel]] (ref05_Fit a0) (fun r : Bool => bv r) := ct_intro (N := 43) (L := ref05_Fit_b22) ref05_Fit_k rfl (Nat.le_of_ble_eq_true rfl) (by kernel_rfl) (by
  unfold ref05_Fit
  refine jc_seq ?_
  refine jc_reg ?_
  refine jr_seg 0 2 [1] [0] (st1 := ⟨[(1, .av (.ptr 0 0 4 0))], [(0, .rows 4 [[bs a0.Epoch, bs a0.Ver, bs a0.Rel, bv a0.HasRel]])], 1⟩) (by kernel_rfl) ?_
  refine jr_nil rfl ?_
  refine jx_seqN ?_
  refine jc_seq ?_
  refine jc_seq ?_
  refine jc_reg ?_
  refine jr_seg 0 4 [1, 6] [0] (st1 := ⟨[(1, .av (.ptr 0 0 4 0)), (6, .av (bv (a0.Epoch == [])))], [(0, .rows 4 [[bs a0.Epoch, bs a0.Ver, bs a0.Rel, bv a0.HasRel]])], 1⟩) (by kernel_rfl) ?_
  refine jr_bind 4 8 (fun x2 => ⟨[(1, .av (.ptr 0 0 4 0)), (14, .av (bv x2))], [(0, .rows 4 [[bs a0.Epoch, bs a0.Ver, bs a0.Rel, bv a0.HasRel]])], 1⟩) ?_ ?_
  · refine jr_split (g := 6) (c := (a0.Epoch == [])) (by kernel_rfl) ?_ ?_
    · intro _
      refine jr_seg 0 8 [1, 14] [0] (st1 := ⟨[(1, .av (.ptr 0 0 4 0)), (14, .av (bv true))], [(0, .rows 4 [[bs a0.Epoch, bs a0.Ver, bs a0.Rel, bv a0.HasRel]])], 1⟩) (by kernel_rfl) ?_
      refine jr_nil rfl ?_
      exact jx_mid rfl (wk_ren [(0, some 0)] (fix_nil _) rfl (by kernel_rfl) (allp_cons (.inl ⟨0, _, _, _, rfl, rfl, rfl, .inl (by kernel_rfl)⟩) allp_nil))
    · intro _
      refine jr_seg 0 2 [1, 6, 8] [0] (st1 := ⟨[(1, .av (.ptr 0 0 4 0)), (6, .lit false), (8, .av (bs a0.Epoch))], [(0, .rows 4 [[bs a0.Epoch, bs a0.Ver, bs a0.Rel, bv a0.HasRel]])], 1⟩) (by kernel_rfl) ?_
      refine jr_callF (i := 2) rfl rfl rfl rfl (vs := [bs a0.Epoch, iv 0, iv 1]) (by kernel_rfl) (snapL_cons rfl (snapL_cons rfl (snapL_cons rfl (snapL_nil _)))) (all2_cons (fle_refl _) (all2_cons (fle_refl _) (all2_cons (fle_refl _) all2_nil))) (ref01_Run_ok a0.Epoch 0 1) (fun _ => rfl) (fun _ => rfl) ?_
      intro x3 h3
      refine jr_seg 3 5 [1, 14] [0] (st1 := ⟨[(1, .av (.ptr 0 0 4 0)), (14, .av (bv (x3 != (List.length a0.Epoch : Int))))], [(0, .rows 4 [[bs a0.Epoch, bs a0.Ver, bs a0.Rel, bv a0.HasRel]])], 1⟩) (by kernel_rfl) ?_
      refine jr_nil rfl ?_
      exact jx_mid rfl (wk_ren [(0, some 0)] (fix_nil _) rfl (by kernel_rfl) (allp_cons (.inl ⟨0, _, _, _, rfl, rfl, rfl, .inl (by kernel_rfl)⟩) allp_nil))
  · intro x2
    refine jr_seg 12 1 [1, 15] [0] (st1 := ⟨[(1, .av (.ptr 0 0 4 0)), (15, .av (bv x2))], [(0, .rows 4 [[bs a0.Epoch, bs a0.Ver, bs a0.Rel, bv a0.HasRel]])], 1⟩) (by kernel_rfl) ?_
    refine jr_bind 13 7 (fun x5 => ⟨[(1, .av (.ptr 0 0 4 0)), (22, .av (bv x5))], [(0, .rows 4 [[bs a0.Epoch, bs a0.Ver, bs a0.Rel, bv a0.HasRel]])], 1⟩) ?_ ?_
    · refine jr_split (g := 15) (c := x2) (by kernel_rfl) ?_ ?_
      · intro _
        refine jr_seg 0 7 [1, 22] [0] (st1 := ⟨[(1, .av (.ptr 0 0 4 0)), (22, .av (bv true))], [(0, .rows 4 [[bs a0.Epoch, bs a0.Ver, bs a0.Rel, bv a0.HasRel]])], 1⟩) (by kernel_rfl) ?_
        refine jr_nil rfl ?_
        exact jx_mid rfl (wk_ren [(0, some 0)] (fix_nil _) rfl (by kernel_rfl) (allp_cons (.inl ⟨0, _, _, _, rfl, rfl, rfl, .inl (by kernel_rfl)⟩) allp_nil))
      · intro _
        refine jr_seg 0 2 [1, 15, 17] [0] (st1 := ⟨[(1, .av (.ptr 0 0 4 0)), (15, .lit false), (17, .av (bs a0.Epoch))], [(0, .rows 4 [[bs a0.Epoch, bs a0.Ver, bs a0.Rel, bv a0.HasRel]])], 1⟩) (by kernel_rfl) ?_
        refine jr_callF (i := 2) rfl rfl rfl rfl (vs := [bs a0.Epoch]) (by kernel_rfl) (snapL_cons rfl (snapL_nil _)) (all2_cons (fle_refl _) all2_nil) (ref01_Trim_ok a0.Epoch) (fun _ => rfl) (fun _ => rfl) ?_
        intro x6 h6
        refine jr_seg 3 4 [1, 22] [0] (st1 := ⟨[(1, .av (.ptr 0 0 4 0)), (22, .av (bv (!(x6 == a0.Epoch))))], [(0, .rows 4 [[bs a0.Epoch, bs a0.Ver, bs a0.Rel, bv a0.HasRel]])], 1⟩) (by kernel_rfl) ?_
        refine jr_nil rfl ?_
        exact jx_mid rfl (wk_ren [(0, some 0)] (fix_nil _) rfl (by kernel_rfl) (allp_cons (.inl ⟨0, _, _, _, rfl, rfl, rfl, .inl (by kernel_rfl)⟩) allp_nil))
    · intro x5
      refine jr_seg 20 1 [1, 23] [0] (st1 := ⟨[(1, .av (.ptr 0 0 4 0)), (23, .av (bv x5))], [(0, .rows 4 [[bs a0.Epoch, bs a0.Ver, bs a0.Rel, bv a0.HasRel]])], 1⟩) (by kernel_rfl) ?_
      refine jr_bind 21 5 (fun x8 => ⟨[(1, .av (.ptr 0 0 4 0)), (28, .av (bv x8))], [(0, .rows 4 [[bs a0.Epoch, bs a0.Ver, bs a0.Rel, bv a0.HasRel]])], 1⟩) ?_ ?_
      · refine jr_split (g := 23) (c := x5) (by kernel_rfl) ?_ ?_
        · intro _
          refine jr_seg 0 5 [1, 28] [0] (st1 := ⟨[(1, .av (.ptr 0 0 4 0)), (28, .av (bv true))], [(0, .rows 4 [[bs a0.Epoch, bs a0.Ver, bs a0.Rel, bv a0.HasRel]])], 1⟩) (by kernel_rfl) ?_
          refine jr_nil rfl ?_
          exact jx_mid rfl (wk_ren [(0, some 0)] (fix_nil _) rfl (by kernel_rfl) (allp_cons (.inl ⟨0, _, _, _, rfl, rfl, rfl, .inl (by kernel_rfl)⟩) allp_nil))
        · intro _
          refine jr_seg 0 2 [1, 23, 25] [0] (st1 := ⟨[(1, .av (.ptr 0 0 4 0)), (23, .lit false), (25, .av (bs a0.Ver))], [(0, .rows 4 [[bs a0.Epoch, bs a0.Ver, bs a0.Rel, bv a0.HasRel]])], 1⟩) (by kernel_rfl) ?_
          refine jr_callF (i := 2) rfl rfl rfl rfl (vs := [bs a0.Ver]) (by kernel_rfl) (snapL_cons rfl (snapL_nil _)) (all2_cons (fle_refl _) all2_nil) (ref05_segments_ok a0.Ver) (fun _ => rfl) (fun _ => rfl) ?_
          intro x9 h9
          refine jr_seg 3 2 [1, 28] [0] (st1 := ⟨[(1, .av (.ptr 0 0 4 0)), (28, .av (bv (!x9)))], [(0, .rows 4 [[bs a0.Epoch, bs a0.Ver, bs a0.Rel, bv a0.HasRel]])], 1⟩) (by kernel_rfl) ?_
          refine jr_nil rfl ?_
          exact jx_mid rfl (wk_ren [(0, some 0)] (fix_nil _) rfl (by kernel_rfl) (allp_cons (.inl ⟨0, _, _, _, rfl, rfl, rfl, .inl (by kernel_rfl)⟩) allp_nil))
      · intro x8
        refine jr_seg 26 1 [1, 29] [0] (st1 := ⟨[(1, .av (.ptr 0 0 4 0)), (29, .av (bv x8))], [(0, .rows 4 [[bs a0.Epoch, bs a0.Ver, bs a0.Rel, bv a0.HasRel]])], 1⟩) (by kernel_rfl) ?_
        refine jr_bind 27 5 (fun x11 => ⟨[(1, .av (.ptr 0 0 4 0)), (34, .av (bv x11))], [(0, .rows 4 [[bs a0.Epoch, bs a0.Ver, bs a0.Rel, bv a0.HasRel]])], 1⟩) ?_ ?_
        · refine jr_split (g := 29) (c := x8) (by kernel_rfl) ?_ ?_
          · intro _
            refine jr_seg 0 5 [1, 34] [0] (st1 := ⟨[(1, .av (.ptr 0 0 4 0)), (34, .av (bv true))], [(0, .rows 4 [[bs a0.Epoch, bs a0.Ver, bs a0.Rel, bv a0.HasRel]])], 1⟩) (by kernel_rfl) ?_
            refine jr_nil rfl ?_
            exact jx_mid rfl (wk_ren [(0, some 0)] (fix_nil _) rfl (by kernel_rfl) (allp_cons (.inl ⟨0, _, _, _, rfl, rfl, rfl, .inl (by kernel_rfl)⟩) allp_nil))
          · intro _
            refine jr_seg 0 1 [1, 29, 30] [0] (st1 := ⟨[(1, .av (.ptr 0 0 4 0)), (29, .lit false), (30, .av (.agg [bs a0.Epoch, bs a0.Ver, bs a0.Rel, bv a0.HasRel]))], [(0, .rows 4 [[bs a0.Epoch, bs a0.Ver, bs a0.Rel, bv a0.HasRel]])], 1⟩) (by kernel_rfl) ?_
            refine jr_callF (i := 1) rfl rfl rfl rfl (vs := [.agg [bs a0.Epoch, bs a0.Ver, bs a0.Rel, bv a0.HasRel]]) (by kernel_rfl) (snapL_cons rfl (snapL_nil _)) (all2_cons (fle_refl _) all2_nil) (ref05_raw_ok a0) (fun _ => rfl) (fun _ => rfl) ?_
            intro x12 h12
            refine jr_seg 2 3 [1, 34] [0] (st1 := ⟨[(1, .av (.ptr 0 0 4 0)), (34, .av (bv (decide ((List.length x12 : Int) > 64))))], [(0, .rows 4 [[bs a0.Epoch, bs a0.Ver, bs a0.Rel, bv a0.HasRel]])], 1⟩) (by kernel_rfl) ?_
            refine jr_nil rfl ?_
            exact jx_mid rfl (wk_ren [(0, some 0)] (fix_nil _) rfl (by kernel_rfl) (allp_cons (.inl ⟨0, _, _, _, rfl, rfl, rfl, .inl (by kernel_rfl)⟩) allp_nil))
        · intro x11
          refine jr_nil rfl ?_
          refine jx_seqN ?_
          refine jc_cond (g := 34) (c := x11) (by kernel_rfl) ?_ ?_
          · intro _
            refine jc_seq ?_
            refine jc_reg ?_
            refine jr_seg 0 1 [2] [] (st1 := ⟨[(2, .av (bv false))], [], 1⟩) (by kernel_rfl) ?_
            refine jr_nil rfl ?_
            refine jx_seqN ?_
            refine jc_ret ?_
            refine jx_seqR ?_
            exact jx_retF (.inr rfl) (v := bv false) (by kernel_rfl) rfl (fle_refl _)
          · intro _
            refine jc_skip ?_
            refine jx_seqN ?_
            refine jc_seq ?_
            refine jc_seq ?_
            refine jc_reg ?_
            refine jr_seg 0 2 [1, 36] [0] (st1 := ⟨[(1, .av (.ptr 0 0 4 0)), (36, .av (bv a0.HasRel))], [(0, .rows 4 [[bs a0.Epoch, bs a0.Ver, bs a0.Rel, bv a0.HasRel]])], 1⟩) (by kernel_rfl) ?_
            refine jr_nil rfl ?_
            refine jx_seqN ?_
            refine jc_cond (g := 36) (c := a0.HasRel) (by kernel_rfl) ?_ ?_
            · intro _
              refine jc_seq ?_
              refine jc_reg ?_
              refine jr_seg 0 2 [38] [] (st1 := ⟨[(38, .av (bs a0.Rel))], [], 1⟩) (by kernel_rfl) ?_
              refine jr_callF (i := 2) rfl rfl rfl rfl (vs := [bs a0.Rel]) (by kernel_rfl) (snapL_cons rfl (snapL_nil _)) (all2_cons (fle_refl _) all2_nil) (ref05_segments_ok a0.Rel) (fun _ => rfl) (fun _ => rfl) ?_
              intro x13 h13
              refine jr_seg 3 1 [2] [] (st1 := ⟨[(2, .av (bv x13))], [], 1⟩) (by kernel_rfl) ?_
              refine jr_nil rfl ?_
              refine jx_seqN ?_
              refine jc_ret ?_
              refine jx_seqR ?_
              exact jx_retF (.inr rfl) (v := bv x13) (by kernel_rfl) rfl (fle_refl _)
            · intro _
              refine jc_skip ?_
              refine jx_seqN ?_
              refine jc_seq ?_
              refine jc_reg ?_
              refine jr_seg 0 4 [2] [] (st1 := ⟨[(2, .av (bv (a0.Rel == [])))], [], 1⟩) (by kernel_rfl) ?_
              refine jr_nil rfl ?_
              refine jx_seqN ?_
              refine jc_ret ?_
              exact jx_retF (.inr rfl) (v := bv (a0.Rel == [])) (by kernel_rfl) rfl (fle_refl _))
end Go.Vm

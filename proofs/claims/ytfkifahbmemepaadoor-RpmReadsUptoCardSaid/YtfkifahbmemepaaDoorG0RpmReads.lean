/- The law RpmReads, a part of its proof: what the functions that it reaches compute. -/
import Derived.Test.YtfkifahbmemepaaDoorDx1e28a0ba
set_option linter.unusedVariables false
namespace Go.Vm
open Go
structure S_api_Evr where
  Epoch : Str
  Ver : Str
  Rel : Str
  HasRel : Bool
  deriving DecidableEq, Inhabited
structure S_api_Fault where
  Err : Int
  At : Int
  deriving DecidableEq, Inhabited
structure S_rpm_segment where
  kind : Int
  text : Str
  deriving DecidableEq, Inhabited
abbrev c_S_rpm_segment (x : S_rpm_segment) : List AV := [iv x.kind, bs x.text]
theorem ni_S_rpm_segment (x : S_rpm_segment) : NoIds (c_S_rpm_segment x) := noids_cons (noid_s _) (noids_cons (noid_s _) (noids_nil))
end Go.Vm

set_option maxRecDepth 100000
set_option maxHeartbeats 0
set_option linter.unusedVariables false
set_option linter.unusedSimpArgs false
namespace Go.Vm
open Go
abbrev strings_trimLeftByte_r1 : List LO := [⟨some 4, Op.assign (Operand.const (Value.string { data := #[] })), 9, none⟩]
abbrev strings_trimLeftByte_b2 : LC := .reg false strings_trimLeftByte_r1
abbrev strings_trimLeftByte_r3 : List LO := [⟨some 5, Op.move (Operand.tmp 0), 9, none⟩,
  ⟨some 6, Op.call { callee := Callee.builtin Builtin.len, args := #[Operand.tmp 5], argTypes := #[9] }, 3, none⟩,
  ⟨some 7, Op.binOp BinOp.gtr 3 (Operand.tmp 6) (Operand.const (Value.int IntKind.i64 0)) 3, 4, none⟩,
  ⟨some 8, Op.move (Operand.tmp 7), 4, none⟩,
  ⟨some 9, Op.move (Operand.tmp 0), 9, (some (8, true))⟩,
  ⟨some 10, Op.index 9 (Operand.tmp 9) (Operand.const (Value.int IntKind.i64 0)), 5, (some (8, true))⟩,
  ⟨some 11, Op.move (Operand.tmp 1), 5, (some (8, true))⟩,
  ⟨some 12, Op.binOp BinOp.eql 5 (Operand.tmp 10) (Operand.tmp 11) 5, 4, (some (8, true))⟩,
  ⟨some 13, Op.pick (Operand.tmp 8) (Operand.tmp 12) (Operand.const (Value.bool false)), 4, none⟩]
abbrev strings_trimLeftByte_b4 : LC := .reg false strings_trimLeftByte_r3
abbrev strings_trimLeftByte_b5 : LC := .cond (Operand.tmp 13) .skip (.exit 0)
abbrev strings_trimLeftByte_b6 : LC := .seq strings_trimLeftByte_b4 strings_trimLeftByte_b5
abbrev strings_trimLeftByte_r7 : List LO := [⟨some 14, Op.move (Operand.tmp 0), 9, none⟩,
  ⟨some 15, Op.slice 9 (Operand.tmp 14) (some (Operand.const (Value.int IntKind.i64 1))) none none, 9, none⟩,
  ⟨some 0, Op.assign (Operand.tmp 15), 9, none⟩]
abbrev strings_trimLeftByte_b8 : LC := .reg false strings_trimLeftByte_r7
abbrev strings_trimLeftByte_b9 : LC := .block 1 strings_trimLeftByte_b8
abbrev strings_trimLeftByte_b10 : LC := .seq strings_trimLeftByte_b6 strings_trimLeftByte_b9
abbrev strings_trimLeftByte_b11 : LC := .loop strings_trimLeftByte_b10
abbrev strings_trimLeftByte_b12 : LC := .block 0 strings_trimLeftByte_b11
abbrev strings_trimLeftByte_r13 : List LO := [⟨some 16, Op.move (Operand.tmp 0), 9, none⟩,
  ⟨some 4, Op.assign (Operand.tmp 16), 9, none⟩]
abbrev strings_trimLeftByte_b14 : LC := .reg false strings_trimLeftByte_r13
abbrev strings_trimLeftByte_b15 : LC := .seq strings_trimLeftByte_b14 .ret
abbrev strings_trimLeftByte_b16 : LC := .seq strings_trimLeftByte_b12 strings_trimLeftByte_b15
abbrev strings_trimLeftByte_b17 : LC := .seq strings_trimLeftByte_b2 strings_trimLeftByte_b16
theorem strings_trimLeftByte_k : FnOk E 104 17 [.tmp 4] strings_trimLeftByte_b17 := ⟨⟨Go.Proofs.Tryd.f104, by kernel_rfl, by kernel_rfl, by kernel_rfl, by kernel_rfl, by kernel_rfl⟩, rfl⟩
noncomputable def strings_trimLeftByte_l1 (a1 : Int) : Str → Option (Step (Str) (Str)) := fun x4 => Option.bind (if (decide ((List.length x4 : Int) > 0)) = true then Option.bind (idx x4 0) (fun x12 => some (x12 == a1)) else some false : Option (Bool)) (fun x11 => (if x11 = true then Option.bind (subl x4 1 (List.length x4 : Int)) (fun x13 => some (Step.next x13)) else some (Step.done x4)))
noncomputable def strings_trimLeftByte (a0 : Str) (a1 : Int) : Option (Str) := Option.bind (loopC (strings_trimLeftByte_l1 a1) a0) (fun x9 => some x9)
theorem strings_trimLeftByte_ok (a0 : Str) (a1 : Int) : Ct E 104 [bs a0, .s (.int .u8 a1)] (strings_trimLeftByte a0 a1) (fun r : Str => bs r) := ct_intro (N := 17) (L := strings_trimLeftByte_b17) strings_trimLeftByte_k rfl (Nat.le_of_ble_eq_true rfl) (by kernel_rfl) (by
  unfold strings_trimLeftByte
  refine jc_seq ?_
  refine jc_reg ?_
  refine jr_seg 0 1 [0, 1] [] (st1 := ⟨[(0, .av (bs a0)), (1, .av (.s (.int .u8 a1)))], [], 0⟩) (by kernel_rfl) ?_
  refine jr_nil rfl ?_
  refine jx_seqN ?_
  refine jc_seq ?_
  refine jc_block ?_
  refine jc_bind (fun x9 => ⟨[(0, .av (bs x9))], [], 0⟩) (fun x9 => (.exit 0)) (jc_loop (fun x4 => ⟨[(0, .av (bs x4)), (1, .av (.s (.int .u8 a1)))], [], 0⟩) (wk_ren [] (fix_nil _) rfl (by kernel_rfl) allp_nil) ?_) ?_
  · intro x4
    unfold strings_trimLeftByte_l1
    refine jc_seq ?_
    refine jc_seq ?_
    refine jc_reg ?_
    refine jr_seg 0 4 [0, 1, 8] [] (st1 := ⟨[(0, .av (bs x4)), (1, .av (.s (.int .u8 a1))), (8, .av (bv (decide ((List.length x4 : Int) > 0))))], [], 0⟩) (by kernel_rfl) ?_
    refine jr_bind 4 5 (fun x11 => ⟨[(0, .av (bs x4)), (1, .av (.s (.int .u8 a1))), (13, .av (bv x11))], [], 0⟩) ?_ ?_
    · refine jr_split (g := 8) (c := (decide ((List.length x4 : Int) > 0))) (by kernel_rfl) ?_ ?_
      · intro _
        refine jr_seg 0 1 [0, 1, 8, 9] [] (st1 := ⟨[(0, .av (bs x4)), (1, .av (.s (.int .u8 a1))), (8, .lit true), (9, .av (bs x4))], [], 0⟩) (by kernel_rfl) ?_
        refine jr_part (i := 1) (mo := idx x4 0) rfl rfl rfl rfl (fun _ hc => aop_index (kk := .i64) (by kernel_rfl) (by kernel_rfl) (by kernel_rfl) hc) (fun _ => rfl) ?_
        intro x12 h12
        refine jr_seg 2 3 [0, 1, 13] [] (st1 := ⟨[(0, .av (bs x4)), (1, .av (.s (.int .u8 a1))), (13, .av (bv (x12 == a1)))], [], 0⟩) (by kernel_rfl) ?_
        refine jr_nil rfl ?_
        exact jx_mid rfl (wk_ren [] (fix_nil _) rfl (by kernel_rfl) allp_nil)
      · intro _
        refine jr_seg 0 5 [0, 1, 13] [] (st1 := ⟨[(0, .av (bs x4)), (1, .av (.s (.int .u8 a1))), (13, .av (bv false))], [], 0⟩) (by kernel_rfl) ?_
        refine jr_nil rfl ?_
        exact jx_mid rfl (wk_ren [] (fix_nil _) rfl (by kernel_rfl) allp_nil)
    · intro x11
      refine jr_nil rfl ?_
      refine jx_seqN ?_
      refine jc_cond (g := 13) (c := x11) (by kernel_rfl) ?_ ?_
      · intro _
        refine jc_skip ?_
        refine jx_seqN ?_
        refine jc_block ?_
        refine jc_reg ?_
        refine jr_seg 0 1 [1, 14] [] (st1 := ⟨[(1, .av (.s (.int .u8 a1))), (14, .av (bs x4))], [], 0⟩) (by kernel_rfl) ?_
        refine jr_part (i := 1) (mo := subl x4 1 (List.length x4 : Int)) rfl rfl rfl rfl (fun _ hc => aop_subs (by kernel_rfl) (by kernel_rfl) (by kernel_rfl) (by kernel_rfl) hc) (fun _ => rfl) ?_
        intro x13 h13
        refine jr_seg 2 1 [0, 1] [] (st1 := ⟨[(0, .av (bs x13)), (1, .av (.s (.int .u8 a1)))], [], 0⟩) (by kernel_rfl) ?_
        refine jr_nil rfl ?_
        refine jx_blkN ?_
        exact jx_next (wk_ren [] (fix_nil _) rfl (by kernel_rfl) allp_nil)
      · intro _
        refine jc_exit ?_
        refine jx_seqE ?_
        exact jx_done rfl nofun (wk_ren [] (fix_nil _) rfl (by kernel_rfl) allp_nil)
  · intro x9
    refine jx_blkE ?_
    refine jx_seqN ?_
    refine jc_seq ?_
    refine jc_reg ?_
    refine jr_seg 0 2 [4] [] (st1 := ⟨[(4, .av (bs x9))], [], 0⟩) (by kernel_rfl) ?_
    refine jr_nil rfl ?_
    refine jx_seqN ?_
    refine jc_ret ?_
    exact jx_retF (.inr rfl) (v := bs x9) (by kernel_rfl) rfl (fle_refl _))
end Go.Vm

set_option maxRecDepth 100000
set_option maxHeartbeats 0
set_option linter.unusedVariables false
set_option linter.unusedSimpArgs false
namespace Go.Vm
open Go
abbrev strings_TrimLeft_s1_r1 : List LO := [⟨some 4, Op.assign (Operand.const (Value.string { data := #[] })), 9, none⟩]
abbrev strings_TrimLeft_s1_b2 : LC := .reg false strings_TrimLeft_s1_r1
abbrev strings_TrimLeft_s1_r3 : List LO := [⟨some 7, Op.move (Operand.tmp 0), 9, none⟩,
  ⟨some 8, Op.binOp BinOp.eql 9 (Operand.tmp 7) (Operand.const (Value.string { data := #[] })) 9, 4, none⟩,
  ⟨some 9, Op.move (Operand.tmp 8), 4, none⟩,
  ⟨some 10, Op.move (Operand.tmp 1), 9, (some (9, false))⟩,
  ⟨some 11, Op.binOp BinOp.eql 9 (Operand.tmp 10) (Operand.const (Value.string { data := #[] })) 9, 4, (some (9, false))⟩,
  ⟨some 12, Op.pick (Operand.tmp 9) (Operand.const (Value.bool true)) (Operand.tmp 11), 4, none⟩]
abbrev strings_TrimLeft_s1_b4 : LC := .reg false strings_TrimLeft_s1_r3
abbrev strings_TrimLeft_s1_r5 : List LO := [⟨some 13, Op.move (Operand.tmp 0), 9, none⟩,
  ⟨some 4, Op.assign (Operand.tmp 13), 9, none⟩]
abbrev strings_TrimLeft_s1_b6 : LC := .reg false strings_TrimLeft_s1_r5
abbrev strings_TrimLeft_s1_b7 : LC := .seq strings_TrimLeft_s1_b6 .ret
abbrev strings_TrimLeft_s1_b8 : LC := .cond (Operand.tmp 12) strings_TrimLeft_s1_b7 .skip
abbrev strings_TrimLeft_s1_b9 : LC := .seq strings_TrimLeft_s1_b4 strings_TrimLeft_s1_b8
abbrev strings_TrimLeft_s1_r10 : List LO := [⟨some 14, Op.move (Operand.tmp 1), 9, none⟩,
  ⟨some 15, Op.call { callee := Callee.builtin Builtin.len, args := #[Operand.tmp 14], argTypes := #[9] }, 3, none⟩,
  ⟨some 16, Op.binOp BinOp.eql 3 (Operand.tmp 15) (Operand.const (Value.int IntKind.i64 1)) 3, 4, none⟩,
  ⟨some 17, Op.move (Operand.tmp 16), 4, none⟩,
  ⟨some 18, Op.move (Operand.tmp 1), 9, (some (17, true))⟩,
  ⟨some 19, Op.index 9 (Operand.tmp 18) (Operand.const (Value.int IntKind.i64 0)), 5, (some (17, true))⟩,
  ⟨some 20, Op.binOp BinOp.lss 5 (Operand.tmp 19) (Operand.const (Value.int IntKind.u8 128)) 5, 4, (some (17, true))⟩,
  ⟨some 21, Op.pick (Operand.tmp 17) (Operand.tmp 20) (Operand.const (Value.bool false)), 4, none⟩]
abbrev strings_TrimLeft_s1_b11 : LC := .reg false strings_TrimLeft_s1_r10
abbrev strings_TrimLeft_s1_r12 : List LO := [⟨some 22, Op.move (Operand.tmp 0), 9, none⟩,
  ⟨some 23, Op.move (Operand.tmp 1), 9, none⟩,
  ⟨some 24, Op.index 9 (Operand.tmp 23) (Operand.const (Value.int IntKind.i64 0)), 5, none⟩,
  ⟨some 25, Op.call { callee := Callee.value (Operand.func 104), args := #[Operand.tmp 22, Operand.tmp 24], argTypes := #[9, 5] }, 9, none⟩,
  ⟨some 4, Op.assign (Operand.tmp 25), 9, none⟩]
abbrev strings_TrimLeft_s1_b13 : LC := .reg false strings_TrimLeft_s1_r12
abbrev strings_TrimLeft_s1_b14 : LC := .seq strings_TrimLeft_s1_b13 .ret
abbrev strings_TrimLeft_s1_b15 : LC := .cond (Operand.tmp 21) strings_TrimLeft_s1_b14 .skip
abbrev strings_TrimLeft_s1_b16 : LC := .seq strings_TrimLeft_s1_b11 strings_TrimLeft_s1_b15
abbrev strings_TrimLeft_s1_r17 : List LO := [⟨some 27, Op.move (Operand.tmp 1), 9, none⟩,
  ⟨some 28, Op.call { callee := Callee.value (Operand.func 105), args := #[Operand.tmp 27], argTypes := #[9] }, 125, none⟩,
  ⟨some 26, Op.move (Operand.tmp 28), 125, none⟩,
  ⟨some 29, Op.extract (Operand.tmp 26) 0, 124, none⟩,
  ⟨some 30, Op.extract (Operand.tmp 26) 1, 4, none⟩,
  ⟨some 5, Op.alloc 124, 0, none⟩,
  ⟨none, Op.store 124 (Operand.tmp 5) (Operand.tmp 29), 0, none⟩,
  ⟨some 6, Op.assign (Operand.tmp 30), 4, none⟩]
abbrev strings_TrimLeft_s1_b18 : LC := .reg false strings_TrimLeft_s1_r17
abbrev strings_TrimLeft_s1_r19 : List LO := [⟨some 31, Op.move (Operand.tmp 6), 4, none⟩]
abbrev strings_TrimLeft_s1_b20 : LC := .reg false strings_TrimLeft_s1_r19
abbrev strings_TrimLeft_s1_r21 : List LO := [⟨some 32, Op.move (Operand.tmp 0), 9, none⟩,
  ⟨some 33, Op.call { callee := Callee.value (Operand.func 106), args := #[Operand.tmp 32, Operand.tmp 5], argTypes := #[9, 128] }, 9, none⟩,
  ⟨some 4, Op.assign (Operand.tmp 33), 9, none⟩]
abbrev strings_TrimLeft_s1_b22 : LC := .reg false strings_TrimLeft_s1_r21
abbrev strings_TrimLeft_s1_b23 : LC := .seq strings_TrimLeft_s1_b22 .ret
abbrev strings_TrimLeft_s1_b24 : LC := .cond (Operand.tmp 31) strings_TrimLeft_s1_b23 .skip
abbrev strings_TrimLeft_s1_b25 : LC := .seq strings_TrimLeft_s1_b20 strings_TrimLeft_s1_b24
abbrev strings_TrimLeft_s1_b26 : LC := .seq strings_TrimLeft_s1_b18 strings_TrimLeft_s1_b25
abbrev strings_TrimLeft_s1_r27 : List LO := [⟨some 34, Op.move (Operand.tmp 0), 9, none⟩,
  ⟨some 35, Op.move (Operand.tmp 1), 9, none⟩,
  ⟨some 36, Op.call { callee := Callee.value (Operand.func 107), args := #[Operand.tmp 34, Operand.tmp 35], argTypes := #[9, 9] }, 9, none⟩,
  ⟨some 4, Op.assign (Operand.tmp 36), 9, none⟩]
abbrev strings_TrimLeft_s1_b28 : LC := .reg false strings_TrimLeft_s1_r27
abbrev strings_TrimLeft_s1_b29 : LC := .seq strings_TrimLeft_s1_b28 .ret
abbrev strings_TrimLeft_s1_b30 : LC := .seq strings_TrimLeft_s1_b26 strings_TrimLeft_s1_b29
abbrev strings_TrimLeft_s1_b31 : LC := .seq strings_TrimLeft_s1_b16 strings_TrimLeft_s1_b30
abbrev strings_TrimLeft_s1_b32 : LC := .seq strings_TrimLeft_s1_b9 strings_TrimLeft_s1_b31
abbrev strings_TrimLeft_s1_b33 : LC := .seq strings_TrimLeft_s1_b2 strings_TrimLeft_s1_b32
theorem strings_TrimLeft_s1_k : FnOk E 63 37 [.tmp 4] strings_TrimLeft_s1_b33 := ⟨⟨Go.Proofs.Tryd.f63, by kernel_rfl, by kernel_rfl, by kernel_rfl, by kernel_rfl, by kernel_rfl⟩, rfl⟩
noncomputable def strings_TrimLeft_s1 (a0 : Str) : Option (Str) := (if ((a0 == []) && true) = true then some a0 else Option.bind (strings_trimLeftByte a0 48) (fun x1 => some x1))
theorem strings_TrimLeft_s1_ok (a0 : Str) : Ct E 63 [bs a0, bs [48]] (strings_TrimLeft_s1 a0) (fun r : Str => bs r) := ct_intro (N := 37) (L := strings_TrimLeft_s1_b33) strings_TrimLeft_s1_k rfl (Nat.le_of_ble_eq_true rfl) (by kernel_rfl) (by
  unfold strings_TrimLeft_s1
  refine jc_seq ?_
  refine jc_reg ?_
  refine jr_seg 0 1 [0, 1] [] (st1 := ⟨[(0, .av (bs a0)), (1, .av (bs [48]))], [], 0⟩) (by kernel_rfl) ?_
  refine jr_nil rfl ?_
  refine jx_seqN ?_
  refine jc_seq ?_
  refine jc_seq ?_
  refine jc_reg ?_
  refine jr_seg 0 6 [0, 1, 12] [] (st1 := ⟨[(0, .av (bs a0)), (1, .av (bs [48])), (12, .av (bv ((a0 == []) && true)))], [], 0⟩) (by kernel_rfl) ?_
  refine jr_nil rfl ?_
  refine jx_seqN ?_
  refine jc_cond (g := 12) (c := ((a0 == []) && true)) (by kernel_rfl) ?_ ?_
  · intro _
    refine jc_seq ?_
    refine jc_reg ?_
    refine jr_seg 0 2 [4] [] (st1 := ⟨[(4, .av (bs a0))], [], 0⟩) (by kernel_rfl) ?_
    refine jr_nil rfl ?_
    refine jx_seqN ?_
    refine jc_ret ?_
    refine jx_seqR ?_
    exact jx_retF (.inr rfl) (v := bs a0) (by kernel_rfl) rfl (fle_refl _)
  · intro _
    refine jc_skip ?_
    refine jx_seqN ?_
    refine jc_seq ?_
    refine jc_seq ?_
    refine jc_reg ?_
    refine jr_seg 0 4 [0, 1, 17] [] (st1 := ⟨[(0, .av (bs a0)), (1, .av (bs [48])), (17, .av (bv true))], [], 0⟩) (by kernel_rfl) ?_
    refine jr_lit (g := 17) (b := true) (by kernel_rfl) ?_
    refine jr_seg 4 1 [0, 1, 17, 18] [] (st1 := ⟨[(0, .av (bs a0)), (1, .av (bs [48])), (17, .lit true), (18, .av (bs [48]))], [], 0⟩) (by kernel_rfl) ?_
    refine jr_one (i := 5) (v := .s (.int .u8 48)) (us := []) rfl rfl rfl rfl (aop_index (s := [48]) (j := 0) (c := 48) (kk := .i64) (by kernel_rfl) (by kernel_rfl) (by kernel_rfl) rfl) rfl ?_
    refine jr_seg 6 2 [0, 1, 21] [] (st1 := ⟨[(0, .av (bs a0)), (1, .av (bs [48])), (21, .av (bv true))], [], 0⟩) (by kernel_rfl) ?_
    refine jr_nil rfl ?_
    refine jx_seqN ?_
    refine jc_condK (c := true) (by kernel_rfl) ?_
    refine jc_seq ?_
    refine jc_reg ?_
    refine jr_seg 0 2 [22, 23] [] (st1 := ⟨[(22, .av (bs a0)), (23, .av (bs [48]))], [], 0⟩) (by kernel_rfl) ?_
    refine jr_one (i := 2) (v := .s (.int .u8 48)) (us := []) rfl rfl rfl rfl (aop_index (s := [48]) (j := 0) (c := 48) (kk := .i64) (by kernel_rfl) (by kernel_rfl) (by kernel_rfl) rfl) rfl ?_
    refine jr_callF (i := 3) rfl rfl rfl rfl (vs := [bs a0, .s (.int .u8 48)]) (by kernel_rfl) (snapL_cons rfl (snapL_cons rfl (snapL_nil _))) (all2_cons (fle_refl _) (all2_cons (fle_refl _) all2_nil)) (strings_trimLeftByte_ok a0 48) (fun _ => rfl) (fun _ => rfl) ?_
    intro x1 h1
    refine jr_seg 4 1 [4] [] (st1 := ⟨[(4, .av (bs x1))], [], 0⟩) (by kernel_rfl) ?_
    refine jr_nil rfl ?_
    refine jx_seqN ?_
    refine jc_ret ?_
    refine jx_seqR ?_
    exact jx_retF (.inr rfl) (v := bs x1) (by kernel_rfl) rfl (fle_refl _))
end Go.Vm

set_option maxRecDepth 100000
set_option maxHeartbeats 0
set_option linter.unusedVariables false
set_option linter.unusedSimpArgs false
namespace Go.Vm
open Go
abbrev scan_Trim_r1 : List LO := [⟨some 2, Op.assign (Operand.const (Value.string { data := #[] })), 9, none⟩]
abbrev scan_Trim_b2 : LC := .reg false scan_Trim_r1
abbrev scan_Trim_r3 : List LO := [⟨some 3, Op.move (Operand.tmp 0), 9, none⟩,
  ⟨some 4, Op.call { callee := Callee.value (Operand.func 63), args := #[Operand.tmp 3, Operand.const (Value.string { data := #[48] })], argTypes := #[9, 9] }, 9, none⟩,
  ⟨some 0, Op.assign (Operand.tmp 4), 9, none⟩]
abbrev scan_Trim_b4 : LC := .reg false scan_Trim_r3
abbrev scan_Trim_r5 : List LO := [⟨some 5, Op.move (Operand.tmp 0), 9, none⟩,
  ⟨some 6, Op.binOp BinOp.eql 9 (Operand.tmp 5) (Operand.const (Value.string { data := #[] })) 9, 4, none⟩]
abbrev scan_Trim_b6 : LC := .reg false scan_Trim_r5
abbrev scan_Trim_r7 : List LO := [⟨some 2, Op.assign (Operand.const (Value.string { data := #[48] })), 9, none⟩]
abbrev scan_Trim_b8 : LC := .reg false scan_Trim_r7
abbrev scan_Trim_b9 : LC := .seq scan_Trim_b8 .ret
abbrev scan_Trim_b10 : LC := .cond (Operand.tmp 6) scan_Trim_b9 .skip
abbrev scan_Trim_b11 : LC := .seq scan_Trim_b6 scan_Trim_b10
abbrev scan_Trim_r12 : List LO := [⟨some 7, Op.move (Operand.tmp 0), 9, none⟩,
  ⟨some 2, Op.assign (Operand.tmp 7), 9, none⟩]
abbrev scan_Trim_b13 : LC := .reg false scan_Trim_r12
abbrev scan_Trim_b14 : LC := .seq scan_Trim_b13 .ret
abbrev scan_Trim_b15 : LC := .seq scan_Trim_b11 scan_Trim_b14
abbrev scan_Trim_b16 : LC := .seq scan_Trim_b4 scan_Trim_b15
abbrev scan_Trim_b17 : LC := .seq scan_Trim_b2 scan_Trim_b16
theorem scan_Trim_k : FnOk E 15 8 [.tmp 2] scan_Trim_b17 := ⟨⟨Go.Proofs.Tryd.f15, by kernel_rfl, by kernel_rfl, by kernel_rfl, by kernel_rfl, by kernel_rfl⟩, rfl⟩
noncomputable def scan_Trim (a0 : Str) : Option (Str) := Option.bind (strings_TrimLeft_s1 a0) (fun x1 => (if (x1 == []) = true then some [48] else some x1))
theorem scan_Trim_ok (a0 : Str) : Ct E 15 [bs a0] (scan_Trim a0) (fun r : Str => bs r) := ct_intro (N := 8) (L := scan_Trim_b17) scan_Trim_k rfl (Nat.le_of_ble_eq_true rfl) (by kernel_rfl) (by
  unfold scan_Trim
  refine jc_seq ?_
  refine jc_reg ?_
  refine jr_seg 0 1 [0] [] (st1 := ⟨[(0, .av (bs a0))], [], 0⟩) (by kernel_rfl) ?_
  refine jr_nil rfl ?_
  refine jx_seqN ?_
  refine jc_seq ?_
  refine jc_reg ?_
  refine jr_seg 0 1 [3] [] (st1 := ⟨[(3, .av (bs a0))], [], 0⟩) (by kernel_rfl) ?_
  refine jr_callF (i := 1) rfl rfl rfl rfl (vs := [bs a0, bs [48]]) (by kernel_rfl) (snapL_cons rfl (snapL_cons rfl (snapL_nil _))) (all2_cons (fle_refl _) (all2_cons (fle_refl _) all2_nil)) (strings_TrimLeft_s1_ok a0) (fun _ => rfl) (fun _ => rfl) ?_
  intro x1 h1
  refine jr_seg 2 1 [0] [] (st1 := ⟨[(0, .av (bs x1))], [], 0⟩) (by kernel_rfl) ?_
  refine jr_nil rfl ?_
  refine jx_seqN ?_
  refine jc_seq ?_
  refine jc_seq ?_
  refine jc_reg ?_
  refine jr_seg 0 2 [0, 6] [] (st1 := ⟨[(0, .av (bs x1)), (6, .av (bv (x1 == [])))], [], 0⟩) (by kernel_rfl) ?_
  refine jr_nil rfl ?_
  refine jx_seqN ?_
  refine jc_cond (g := 6) (c := (x1 == [])) (by kernel_rfl) ?_ ?_
  · intro _
    refine jc_seq ?_
    refine jc_reg ?_
    refine jr_seg 0 1 [2] [] (st1 := ⟨[(2, .av (bs [48]))], [], 0⟩) (by kernel_rfl) ?_
    refine jr_nil rfl ?_
    refine jx_seqN ?_
    refine jc_ret ?_
    refine jx_seqR ?_
    exact jx_retF (.inr rfl) (v := bs [48]) (by kernel_rfl) rfl (fle_refl _)
  · intro _
    refine jc_skip ?_
    refine jx_seqN ?_
    refine jc_seq ?_
    refine jc_reg ?_
    refine jr_seg 0 2 [2] [] (st1 := ⟨[(2, .av (bs x1))], [], 0⟩) (by kernel_rfl) ?_
    refine jr_nil rfl ?_
    refine jx_seqN ?_
    refine jc_ret ?_
    exact jx_retF (.inr rfl) (v := bs x1) (by kernel_rfl) rfl (fle_refl _))
end Go.Vm

set_option maxRecDepth 100000
set_option maxHeartbeats 0
set_option linter.unusedVariables false
set_option linter.unusedSimpArgs false
namespace Go.Vm
open Go
abbrev ref01_Trim_r1 : List LO := [⟨some 2, Op.assign (Operand.const (Value.string { data := #[] })), 9, none⟩]
abbrev ref01_Trim_b2 : LC := .reg false ref01_Trim_r1
abbrev ref01_Trim_r3 : List LO := [⟨some 3, Op.assign (Operand.const (Value.int IntKind.i64 0)), 3, none⟩]
abbrev ref01_Trim_b4 : LC := .reg false ref01_Trim_r3
abbrev ref01_Trim_r5 : List LO := [⟨some 4, Op.move (Operand.tmp 3), 3, none⟩,
  ⟨some 5, Op.move (Operand.tmp 0), 9, none⟩,
  ⟨some 6, Op.call { callee := Callee.builtin Builtin.len, args := #[Operand.tmp 5], argTypes := #[9] }, 3, none⟩,
  ⟨some 7, Op.binOp BinOp.lss 3 (Operand.tmp 4) (Operand.tmp 6) 3, 4, none⟩,
  ⟨some 8, Op.move (Operand.tmp 7), 4, none⟩,
  ⟨some 9, Op.move (Operand.tmp 0), 9, (some (8, true))⟩,
  ⟨some 10, Op.move (Operand.tmp 3), 3, (some (8, true))⟩,
  ⟨some 11, Op.index 9 (Operand.tmp 9) (Operand.tmp 10), 5, (some (8, true))⟩,
  ⟨some 12, Op.binOp BinOp.eql 5 (Operand.tmp 11) (Operand.const (Value.int IntKind.u8 48)) 5, 4, (some (8, true))⟩,
  ⟨some 13, Op.pick (Operand.tmp 8) (Operand.tmp 12) (Operand.const (Value.bool false)), 4, none⟩]
abbrev ref01_Trim_b6 : LC := .reg false ref01_Trim_r5
abbrev ref01_Trim_b7 : LC := .cond (Operand.tmp 13) .skip (.exit 0)
abbrev ref01_Trim_b8 : LC := .seq ref01_Trim_b6 ref01_Trim_b7
abbrev ref01_Trim_r9 : List LO := [⟨some 14, Op.move (Operand.tmp 3), 3, none⟩,
  ⟨some 15, Op.binOp BinOp.add 3 (Operand.tmp 14) (Operand.const (Value.int IntKind.i64 1)) 3, 3, none⟩,
  ⟨some 3, Op.assign (Operand.tmp 15), 3, none⟩]
abbrev ref01_Trim_b10 : LC := .reg false ref01_Trim_r9
abbrev ref01_Trim_b11 : LC := .block 1 ref01_Trim_b10
abbrev ref01_Trim_b12 : LC := .seq ref01_Trim_b8 ref01_Trim_b11
abbrev ref01_Trim_b13 : LC := .loop ref01_Trim_b12
abbrev ref01_Trim_b14 : LC := .block 0 ref01_Trim_b13
abbrev ref01_Trim_r15 : List LO := [⟨some 16, Op.move (Operand.tmp 3), 3, none⟩,
  ⟨some 17, Op.move (Operand.tmp 0), 9, none⟩,
  ⟨some 18, Op.call { callee := Callee.builtin Builtin.len, args := #[Operand.tmp 17], argTypes := #[9] }, 3, none⟩,
  ⟨some 19, Op.binOp BinOp.eql 3 (Operand.tmp 16) (Operand.tmp 18) 3, 4, none⟩]
abbrev ref01_Trim_b16 : LC := .reg false ref01_Trim_r15
abbrev ref01_Trim_r17 : List LO := [⟨some 2, Op.assign (Operand.const (Value.string { data := #[48] })), 9, none⟩]
abbrev ref01_Trim_b18 : LC := .reg false ref01_Trim_r17
abbrev ref01_Trim_b19 : LC := .seq ref01_Trim_b18 .ret
abbrev ref01_Trim_b20 : LC := .cond (Operand.tmp 19) ref01_Trim_b19 .skip
abbrev ref01_Trim_b21 : LC := .seq ref01_Trim_b16 ref01_Trim_b20
abbrev ref01_Trim_r22 : List LO := [⟨some 20, Op.move (Operand.tmp 0), 9, none⟩,
  ⟨some 21, Op.move (Operand.tmp 3), 3, none⟩,
  ⟨some 22, Op.slice 9 (Operand.tmp 20) (some (Operand.tmp 21)) none none, 9, none⟩,
  ⟨some 2, Op.assign (Operand.tmp 22), 9, none⟩]
abbrev ref01_Trim_b23 : LC := .reg false ref01_Trim_r22
abbrev ref01_Trim_b24 : LC := .seq ref01_Trim_b23 .ret
abbrev ref01_Trim_b25 : LC := .seq ref01_Trim_b21 ref01_Trim_b24
abbrev ref01_Trim_b26 : LC := .seq ref01_Trim_b14 ref01_Trim_b25
abbrev ref01_Trim_b27 : LC := .seq ref01_Trim_b4 ref01_Trim_b26
abbrev ref01_Trim_b28 : LC := .seq ref01_Trim_b2 ref01_Trim_b27
theorem ref01_Trim_k : FnOk E 16 23 [.tmp 2] ref01_Trim_b28 := ⟨⟨Go.Proofs.Tryd.f16, by kernel_rfl, by kernel_rfl, by kernel_rfl, by kernel_rfl, by kernel_rfl⟩, rfl⟩
noncomputable def ref01_Trim_l1 (a0 : Str) : Int → Option (Step (Int) (Int)) := fun x3 => Option.bind (if (decide (x3 < (List.length a0 : Int))) = true then Option.bind (idx a0 x3) (fun x10 => some (x10 == 48)) else some false : Option (Bool)) (fun x9 => (if x9 = true then some (Step.next (w64 (x3 + 1))) else some (Step.done x3)))
noncomputable def ref01_Trim (a0 : Str) : Option (Str) := Option.bind (loopC (ref01_Trim_l1 a0) 0) (fun x7 => (if (x7 == (List.length a0 : Int)) = true then some [48] else Option.bind (subl a0 x7 (List.length a0 : Int)) (fun x11 => some x11)))
theorem ref01_Trim_ok (a0 : Str) : Ct E 16 [bs a0] (ref01_Trim a0) (fun r : Str => bs r) := ct_intro (N := 23) (L := ref01_Trim_b28) ref01_Trim_k rfl (Nat.le_of_ble_eq_true rfl) (by kernel_rfl) (by
  unfold ref01_Trim
  refine jc_seq ?_
  refine jc_reg ?_
  refine jr_seg 0 1 [0] [] (st1 := ⟨[(0, .av (bs a0))], [], 0⟩) (by kernel_rfl) ?_
  refine jr_nil rfl ?_
  refine jx_seqN ?_
  refine jc_seq ?_
  refine jc_reg ?_
  refine jr_seg 0 1 [0, 3] [] (st1 := ⟨[(0, .av (bs a0)), (3, .av (iv 0))], [], 0⟩) (by kernel_rfl) ?_
  refine jr_nil rfl ?_
  refine jx_seqN ?_
  refine jc_seq ?_
  refine jc_block ?_
  refine jc_bind (fun x7 => ⟨[(0, .av (bs a0)), (3, .av (iv x7))], [], 0⟩) (fun x7 => (.exit 0)) (jc_loop (fun x3 => ⟨[(0, .av (bs a0)), (3, .av (iv x3))], [], 0⟩) (wk_ren [] (fix_nil _) rfl (by kernel_rfl) allp_nil) ?_) ?_
  · intro x3
    unfold ref01_Trim_l1
    refine jc_seq ?_
    refine jc_seq ?_
    refine jc_reg ?_
    refine jr_seg 0 5 [0, 3, 8] [] (st1 := ⟨[(0, .av (bs a0)), (3, .av (iv x3)), (8, .av (bv (decide (x3 < (List.length a0 : Int)))))], [], 0⟩) (by kernel_rfl) ?_
    refine jr_bind 5 5 (fun x9 => ⟨[(0, .av (bs a0)), (3, .av (iv x3)), (13, .av (bv x9))], [], 0⟩) ?_ ?_
    · refine jr_split (g := 8) (c := (decide (x3 < (List.length a0 : Int)))) (by kernel_rfl) ?_ ?_
      · intro _
        refine jr_seg 0 2 [0, 3, 8, 9, 10] [] (st1 := ⟨[(0, .av (bs a0)), (3, .av (iv x3)), (8, .lit true), (9, .av (bs a0)), (10, .av (iv x3))], [], 0⟩) (by kernel_rfl) ?_
        refine jr_part (i := 2) (mo := idx a0 x3) rfl rfl rfl rfl (fun _ hc => aop_index (kk := .i64) (by kernel_rfl) (by kernel_rfl) (by kernel_rfl) hc) (fun _ => rfl) ?_
        intro x10 h10
        refine jr_seg 3 2 [0, 3, 13] [] (st1 := ⟨[(0, .av (bs a0)), (3, .av (iv x3)), (13, .av (bv (x10 == 48)))], [], 0⟩) (by kernel_rfl) ?_
        refine jr_nil rfl ?_
        exact jx_mid rfl (wk_ren [] (fix_nil _) rfl (by kernel_rfl) allp_nil)
      · intro _
        refine jr_seg 0 5 [0, 3, 13] [] (st1 := ⟨[(0, .av (bs a0)), (3, .av (iv x3)), (13, .av (bv false))], [], 0⟩) (by kernel_rfl) ?_
        refine jr_nil rfl ?_
        exact jx_mid rfl (wk_ren [] (fix_nil _) rfl (by kernel_rfl) allp_nil)
    · intro x9
      refine jr_nil rfl ?_
      refine jx_seqN ?_
      refine jc_cond (g := 13) (c := x9) (by kernel_rfl) ?_ ?_
      · intro _
        refine jc_skip ?_
        refine jx_seqN ?_
        refine jc_block ?_
        refine jc_reg ?_
        refine jr_seg 0 3 [0, 3] [] (st1 := ⟨[(0, .av (bs a0)), (3, .av (iv (w64 (x3 + 1))))], [], 0⟩) (by kernel_rfl) ?_
        refine jr_nil rfl ?_
        refine jx_blkN ?_
        exact jx_next (wk_ren [] (fix_nil _) rfl (by kernel_rfl) allp_nil)
      · intro _
        refine jc_exit ?_
        refine jx_seqE ?_
        exact jx_done rfl nofun (wk_ren [] (fix_nil _) rfl (by kernel_rfl) allp_nil)
  · intro x7
    refine jx_blkE ?_
    refine jx_seqN ?_
    refine jc_seq ?_
    refine jc_seq ?_
    refine jc_reg ?_
    refine jr_seg 0 4 [0, 3, 19] [] (st1 := ⟨[(0, .av (bs a0)), (3, .av (iv x7)), (19, .av (bv (x7 == (List.length a0 : Int))))], [], 0⟩) (by kernel_rfl) ?_
    refine jr_nil rfl ?_
    refine jx_seqN ?_
    refine jc_cond (g := 19) (c := (x7 == (List.length a0 : Int))) (by kernel_rfl) ?_ ?_
    · intro _
      refine jc_seq ?_
      refine jc_reg ?_
      refine jr_seg 0 1 [2] [] (st1 := ⟨[(2, .av (bs [48]))], [], 0⟩) (by kernel_rfl) ?_
      refine jr_nil rfl ?_
      refine jx_seqN ?_
      refine jc_ret ?_
      refine jx_seqR ?_
      exact jx_retF (.inr rfl) (v := bs [48]) (by kernel_rfl) rfl (fle_refl _)
    · intro _
      refine jc_skip ?_
      refine jx_seqN ?_
      refine jc_seq ?_
      refine jc_reg ?_
      refine jr_seg 0 2 [20, 21] [] (st1 := ⟨[(20, .av (bs a0)), (21, .av (iv x7))], [], 0⟩) (by kernel_rfl) ?_
      refine jr_part (i := 2) (mo := subl a0 x7 (List.length a0 : Int)) rfl rfl rfl rfl (fun _ hc => aop_subs (by kernel_rfl) (by kernel_rfl) (by kernel_rfl) (by kernel_rfl) hc) (fun _ => rfl) ?_
      intro x11 h11
      refine jr_seg 3 1 [2] [] (st1 := ⟨[(2, .av (bs x11))], [], 0⟩) (by kernel_rfl) ?_
      refine jr_nil rfl ?_
      refine jx_seqN ?_
      refine jc_ret ?_
      exact jx_retF (.inr rfl) (v := bs x11) (by kernel_rfl) rfl (fle_refl _))
end Go.Vm

set_option maxRecDepth 100000
set_option maxHeartbeats 0
set_option linter.unusedVariables false
set_option linter.unusedSimpArgs false
namespace Go.Vm
open Go
abbrev cmp_Or_int_r1 : List LO := [⟨some 2, Op.assign (Operand.const (Value.int IntKind.i64 0)), 3, none⟩]
abbrev cmp_Or_int_b2 : LC := .reg false cmp_Or_int_r1
abbrev cmp_Or_int_r3 : List LO := [⟨some 3, Op.assign (Operand.const (Value.int IntKind.i64 0)), 3, none⟩]
abbrev cmp_Or_int_b4 : LC := .reg false cmp_Or_int_r3
abbrev cmp_Or_int_r5 : List LO := [⟨some 6, Op.move (Operand.tmp 0), 129, none⟩,
  ⟨some 7, Op.call { callee := Callee.builtin Builtin.len, args := #[Operand.tmp 6], argTypes := #[129] }, 3, none⟩,
  ⟨some 8, Op.move (Operand.const (Value.int IntKind.i64 0)), 3, none⟩]
abbrev cmp_Or_int_b6 : LC := .reg false cmp_Or_int_r5
abbrev cmp_Or_int_r7 : List LO := [⟨some 9, Op.binOp BinOp.lss 3 (Operand.tmp 8) (Operand.tmp 7) 3, 0, none⟩]
abbrev cmp_Or_int_b8 : LC := .reg false cmp_Or_int_r7
abbrev cmp_Or_int_b9 : LC := .cond (Operand.tmp 9) .skip (.exit 0)
abbrev cmp_Or_int_r10 : List LO := [⟨some 10, Op.indexAddr 129 (Operand.tmp 6) (Operand.tmp 8), 0, none⟩,
  ⟨some 11, Op.load 3 (Operand.tmp 10), 3, none⟩,
  ⟨some 5, Op.assign (Operand.tmp 11), 3, none⟩]
abbrev cmp_Or_int_b11 : LC := .reg false cmp_Or_int_r10
abbrev cmp_Or_int_r12 : List LO := [⟨some 12, Op.move (Operand.tmp 5), 3, none⟩,
  ⟨some 13, Op.move (Operand.tmp 3), 3, none⟩,
  ⟨some 14, Op.binOp BinOp.neq 3 (Operand.tmp 12) (Operand.tmp 13) 3, 4, none⟩]
abbrev cmp_Or_int_b13 : LC := .reg false cmp_Or_int_r12
abbrev cmp_Or_int_r14 : List LO := [⟨some 15, Op.move (Operand.tmp 5), 3, none⟩,
  ⟨some 2, Op.assign (Operand.tmp 15), 3, none⟩]
abbrev cmp_Or_int_b15 : LC := .reg false cmp_Or_int_r14
abbrev cmp_Or_int_b16 : LC := .seq cmp_Or_int_b15 .ret
abbrev cmp_Or_int_b17 : LC := .cond (Operand.tmp 14) cmp_Or_int_b16 .skip
abbrev cmp_Or_int_b18 : LC := .seq cmp_Or_int_b13 cmp_Or_int_b17
abbrev cmp_Or_int_b19 : LC := .seq cmp_Or_int_b11 cmp_Or_int_b18
abbrev cmp_Or_int_b20 : LC := .block 1 cmp_Or_int_b19
abbrev cmp_Or_int_r21 : List LO := [⟨some 16, Op.binOp BinOp.add 3 (Operand.tmp 8) (Operand.const (Value.int IntKind.i64 1)) 3, 3, none⟩,
  ⟨some 8, Op.move (Operand.tmp 16), 3, none⟩]
abbrev cmp_Or_int_b22 : LC := .reg false cmp_Or_int_r21
abbrev cmp_Or_int_b23 : LC := .seq cmp_Or_int_b20 cmp_Or_int_b22
abbrev cmp_Or_int_b24 : LC := .seq cmp_Or_int_b9 cmp_Or_int_b23
abbrev cmp_Or_int_b25 : LC := .seq cmp_Or_int_b8 cmp_Or_int_b24
abbrev cmp_Or_int_b26 : LC := .loop cmp_Or_int_b25
abbrev cmp_Or_int_b27 : LC := .block 0 cmp_Or_int_b26
abbrev cmp_Or_int_b28 : LC := .seq cmp_Or_int_b6 cmp_Or_int_b27
abbrev cmp_Or_int_r29 : List LO := [⟨some 17, Op.move (Operand.tmp 3), 3, none⟩,
  ⟨some 2, Op.assign (Operand.tmp 17), 3, none⟩]
abbrev cmp_Or_int_b30 : LC := .reg false cmp_Or_int_r29
abbrev cmp_Or_int_b31 : LC := .seq cmp_Or_int_b30 .ret
abbrev cmp_Or_int_b32 : LC := .seq cmp_Or_int_b28 cmp_Or_int_b31
abbrev cmp_Or_int_b33 : LC := .seq cmp_Or_int_b4 cmp_Or_int_b32
abbrev cmp_Or_int_b34 : LC := .seq cmp_Or_int_b2 cmp_Or_int_b33
theorem cmp_Or_int_k : FnOk E 64 18 [.tmp 2] cmp_Or_int_b34 := ⟨⟨Go.Proofs.Tryd.f64, by kernel_rfl, by kernel_rfl, by kernel_rfl, by kernel_rfl, by kernel_rfl⟩, rfl⟩
noncomputable def cmp_Or_int_l1 (a0 : (List Int)) : Int → Option (Step (Int) ((Int) ⊕ (Unit))) := fun x2 => (if (decide (x2 < (List.length a0 : Int))) = true then Option.bind (ixl a0 x2) (fun x6 => (if (x6 != 0) = true then some (Step.done (Sum.inl x6)) else some (Step.next (w64 (x2 + 1))))) else some (Step.done (Sum.inr ())))
noncomputable def cmp_Or_int (a0 : (List Int)) : Option (Int) := Option.bind (loopC (cmp_Or_int_l1 a0) 0) (fun y => match y with | Sum.inl x5 => some x5 | Sum.inr _ => some 0)
theorem cmp_Or_int_ok (a0 : (List Int)) : Ct E 64 [.fsl 1 (List.map cI a0)] (cmp_Or_int a0) (fun r : Int => iv r) := ct_intro (N := 18) (L := cmp_Or_int_b34) cmp_Or_int_k rfl (Nat.le_of_ble_eq_true rfl) (by kernel_rfl) (by
  unfold cmp_Or_int
  refine jc_seq ?_
  refine jc_reg ?_
  refine jr_seg 0 1 [0] [] (st1 := ⟨[(0, .av (.fsl 1 (List.map cI a0)))], [], 0⟩) (by kernel_rfl) ?_
  refine jr_nil rfl ?_
  refine jx_seqN ?_
  refine jc_seq ?_
  refine jc_reg ?_
  refine jr_seg 0 1 [0, 3] [] (st1 := ⟨[(0, .av (.fsl 1 (List.map cI a0))), (3, .av (iv 0))], [], 0⟩) (by kernel_rfl) ?_
  refine jr_nil rfl ?_
  refine jx_seqN ?_
  refine jc_seq ?_
  refine jc_seq ?_
  refine jc_reg ?_
  refine jr_seg 0 3 [3, 6, 7, 8] [] (st1 := ⟨[(3, .av (iv 0)), (6, .av (.fsl 1 (List.map cI a0))), (7, .av (iv (List.length (List.map cI a0) : Int))), (8, .av (iv 0))], [], 0⟩) (by kernel_rfl) ?_
  simp only [List.length_map]
  refine jr_nil rfl ?_
  refine jx_seqN ?_
  refine jc_block ?_
  refine jc_bind (fun y => match y with | Sum.inl x5 => ⟨[(2, .av (iv x5))], [], 0⟩ | Sum.inr _ => ⟨[(3, .av (iv 0))], [], 0⟩) (fun y => match y with | Sum.inl x5 => .ret | Sum.inr _ => (.exit 0)) (jc_loop (fun x2 => ⟨[(3, .av (iv 0)), (6, .av (.fsl 1 (List.map cI a0))), (7, .av (iv (List.length a0 : Int))), (8, .av (iv x2))], [], 0⟩) (wk_ren [] (fix_nil _) rfl (by kernel_rfl) allp_nil) ?_) ?_
  · intro x2
    unfold cmp_Or_int_l1
    refine jc_seq ?_
    refine jc_reg ?_
    refine jr_seg 0 1 [3, 6, 7, 8, 9] [] (st1 := ⟨[(3, .av (iv 0)), (6, .av (.fsl 1 (List.map cI a0))), (7, .av (iv (List.length a0 : Int))), (8, .av (iv x2)), (9, .av (bv (decide (x2 < (List.length a0 : Int)))))], [], 0⟩) (by kernel_rfl) ?_
    refine jr_nil rfl ?_
    refine jx_seqN ?_
    refine jc_seq ?_
    refine jc_cond (g := 9) (c := (decide (x2 < (List.length a0 : Int)))) (by kernel_rfl) ?_ ?_
    · intro _
      refine jc_skip ?_
      refine jx_seqN ?_
      refine jc_seq ?_
      refine jc_block ?_
      refine jc_seq ?_
      refine jc_reg ?_
      refine jr_part (i := 0) (mo := ixl a0 x2) rfl rfl rfl rfl (fun _ hc => aop_ixf (c := cI) (sz := 1) (e := 3) (kk := .i64) (by kernel_rfl) (by kernel_rfl) (by kernel_rfl) (by kernel_rfl) hc) (fun _ => rfl) ?_
      intro x6 h6
      refine jr_seg 1 2 [3, 5, 6, 7, 8] [] (st1 := ⟨[(3, .av (iv 0)), (5, .av (iv x6)), (6, .av (.fsl 1 (List.map cI a0))), (7, .av (iv (List.length a0 : Int))), (8, .av (iv x2))], [], 0⟩) (by kernel_rfl) ?_
      refine jr_nil rfl ?_
      refine jx_seqN ?_
      refine jc_seq ?_
      refine jc_reg ?_
      refine jr_seg 0 3 [3, 5, 6, 7, 8, 14] [] (st1 := ⟨[(3, .av (iv 0)), (5, .av (iv x6)), (6, .av (.fsl 1 (List.map cI a0))), (7, .av (iv (List.length a0 : Int))), (8, .av (iv x2)), (14, .av (bv (x6 != 0)))], [], 0⟩) (by kernel_rfl) ?_
      refine jr_nil rfl ?_
      refine jx_seqN ?_
      refine jc_cond (g := 14) (c := (x6 != 0)) (by kernel_rfl) ?_ ?_
      · intro _
        refine jc_seq ?_
        refine jc_reg ?_
        refine jr_seg 0 2 [2] [] (st1 := ⟨[(2, .av (iv x6))], [], 0⟩) (by kernel_rfl) ?_
        refine jr_nil rfl ?_
        refine jx_seqN ?_
        refine jc_ret ?_
        refine jx_blkR ?_
        refine jx_seqR ?_
        exact jx_done rfl nofun (wk_ren [] (fix_nil _) rfl (by kernel_rfl) allp_nil)
      · intro _
        refine jc_skip ?_
        refine jx_blkN ?_
        refine jx_seqN ?_
        refine jc_reg ?_
        refine jr_seg 0 2 [3, 6, 7, 8] [] (st1 := ⟨[(3, .av (iv 0)), (6, .av (.fsl 1 (List.map cI a0))), (7, .av (iv (List.length a0 : Int))), (8, .av (iv (w64 (x2 + 1))))], [], 0⟩) (by kernel_rfl) ?_
        refine jr_nil rfl ?_
        exact jx_next (wk_ren [] (fix_nil _) rfl (by kernel_rfl) allp_nil)
    · intro _
      refine jc_exit ?_
      refine jx_seqE ?_
      exact jx_done rfl nofun (wk_ren [] (fix_nil _) rfl (by kernel_rfl) allp_nil)
  · rintro (x5 | _)
    · refine jx_blkR ?_
      refine jx_seqR ?_
      exact jx_retF (.inr rfl) (v := iv x5) (by kernel_rfl) rfl (fle_refl _)
    · refine jx_blkE ?_
      refine jx_seqN ?_
      refine jc_seq ?_
      refine jc_reg ?_
      refine jr_seg 0 2 [2] [] (st1 := ⟨[(2, .av (iv 0))], [], 0⟩) (by kernel_rfl) ?_
      refine jr_nil rfl ?_
      refine jx_seqN ?_
      refine jc_ret ?_
      exact jx_retF (.inr rfl) (v := iv 0) (by kernel_rfl) rfl (fle_refl _))
end Go.Vm

set_option maxRecDepth 100000
set_option maxHeartbeats 0
set_option linter.unusedVariables false
set_option linter.unusedSimpArgs false
namespace Go.Vm
open Go
abbrev cmp_isNaN_int_r1 : List LO := [⟨some 2, Op.assign (Operand.const (Value.bool false)), 4, none⟩]
abbrev cmp_isNaN_int_b2 : LC := .reg false cmp_isNaN_int_r1
abbrev cmp_isNaN_int_r3 : List LO := [⟨some 3, Op.move (Operand.tmp 0), 3, none⟩,
  ⟨some 4, Op.move (Operand.tmp 0), 3, none⟩,
  ⟨some 5, Op.binOp BinOp.neq 3 (Operand.tmp 3) (Operand.tmp 4) 3, 4, none⟩,
  ⟨some 2, Op.assign (Operand.tmp 5), 4, none⟩]
abbrev cmp_isNaN_int_b4 : LC := .reg false cmp_isNaN_int_r3
abbrev cmp_isNaN_int_b5 : LC := .seq cmp_isNaN_int_b4 .ret
abbrev cmp_isNaN_int_b6 : LC := .seq cmp_isNaN_int_b2 cmp_isNaN_int_b5
theorem cmp_isNaN_int_k : FnOk E 108 6 [.tmp 2] cmp_isNaN_int_b6 := ⟨⟨Go.Proofs.Tryd.f108, by kernel_rfl, by kernel_rfl, by kernel_rfl, by kernel_rfl, by kernel_rfl⟩, rfl⟩
noncomputable def cmp_isNaN_int (a0 : Int) : Option (Bool) := some (a0 != a0)
theorem cmp_isNaN_int_ok (a0 : Int) : Ct E 108 [iv a0] (cmp_isNaN_int a0) (fun r : Bool => bv r) := ct_intro (N := 6) (L := cmp_isNaN_int_b6) cmp_isNaN_int_k rfl (Nat.le_of_ble_eq_true rfl) (by kernel_rfl) (by
  unfold cmp_isNaN_int
  refine jc_seq ?_
  refine jc_reg ?_
  refine jr_seg 0 1 [0] [] (st1 := ⟨[(0, .av (iv a0))], [], 0⟩) (by kernel_rfl) ?_
  refine jr_nil rfl ?_
  refine jx_seqN ?_
  refine jc_seq ?_
  refine jc_reg ?_
  refine jr_seg 0 4 [2] [] (st1 := ⟨[(2, .av (bv (a0 != a0)))], [], 0⟩) (by kernel_rfl) ?_
  refine jr_nil rfl ?_
  refine jx_seqN ?_
  refine jc_ret ?_
  exact jx_retF (.inr rfl) (v := bv (a0 != a0)) (by kernel_rfl) rfl (fle_refl _))
end Go.Vm

set_option maxRecDepth 100000
set_option maxHeartbeats 0
set_option linter.unusedVariables false
set_option linter.unusedSimpArgs false
namespace Go.Vm
open Go
abbrev cmp_Compare_int_r1 : List LO := [⟨some 4, Op.assign (Operand.const (Value.int IntKind.i64 0)), 3, none⟩]
abbrev cmp_Compare_int_b2 : LC := .reg false cmp_Compare_int_r1
abbrev cmp_Compare_int_r3 : List LO := [⟨some 7, Op.move (Operand.tmp 0), 3, none⟩,
  ⟨some 8, Op.call { callee := Callee.value (Operand.func 108), args := #[Operand.tmp 7], argTypes := #[3] }, 4, none⟩,
  ⟨some 5, Op.assign (Operand.tmp 8), 4, none⟩]
abbrev cmp_Compare_int_b4 : LC := .reg false cmp_Compare_int_r3
abbrev cmp_Compare_int_r5 : List LO := [⟨some 9, Op.move (Operand.tmp 1), 3, none⟩,
  ⟨some 10, Op.call { callee := Callee.value (Operand.func 108), args := #[Operand.tmp 9], argTypes := #[3] }, 4, none⟩,
  ⟨some 6, Op.assign (Operand.tmp 10), 4, none⟩]
abbrev cmp_Compare_int_b6 : LC := .reg false cmp_Compare_int_r5
abbrev cmp_Compare_int_r7 : List LO := [⟨some 11, Op.move (Operand.tmp 5), 4, none⟩]
abbrev cmp_Compare_int_b8 : LC := .reg false cmp_Compare_int_r7
abbrev cmp_Compare_int_r9 : List LO := [⟨some 12, Op.move (Operand.tmp 6), 4, none⟩]
abbrev cmp_Compare_int_b10 : LC := .reg false cmp_Compare_int_r9
abbrev cmp_Compare_int_r11 : List LO := [⟨some 4, Op.assign (Operand.const (Value.int IntKind.i64 0)), 3, none⟩]
abbrev cmp_Compare_int_b12 : LC := .reg false cmp_Compare_int_r11
abbrev cmp_Compare_int_b13 : LC := .seq cmp_Compare_int_b12 .ret
abbrev cmp_Compare_int_b14 : LC := .cond (Operand.tmp 12) cmp_Compare_int_b13 .skip
abbrev cmp_Compare_int_b15 : LC := .seq cmp_Compare_int_b10 cmp_Compare_int_b14
abbrev cmp_Compare_int_r16 : List LO := [⟨some 4, Op.assign (Operand.const (Value.int IntKind.i64 (-1))), 3, none⟩]
abbrev cmp_Compare_int_b17 : LC := .reg false cmp_Compare_int_r16
abbrev cmp_Compare_int_b18 : LC := .seq cmp_Compare_int_b17 .ret
abbrev cmp_Compare_int_b19 : LC := .seq cmp_Compare_int_b15 cmp_Compare_int_b18
abbrev cmp_Compare_int_b20 : LC := .cond (Operand.tmp 11) cmp_Compare_int_b19 .skip
abbrev cmp_Compare_int_b21 : LC := .seq cmp_Compare_int_b8 cmp_Compare_int_b20
abbrev cmp_Compare_int_r22 : List LO := [⟨some 13, Op.move (Operand.tmp 6), 4, none⟩]
abbrev cmp_Compare_int_b23 : LC := .reg false cmp_Compare_int_r22
abbrev cmp_Compare_int_r24 : List LO := [⟨some 4, Op.assign (Operand.const (Value.int IntKind.i64 1)), 3, none⟩]
abbrev cmp_Compare_int_b25 : LC := .reg false cmp_Compare_int_r24
abbrev cmp_Compare_int_b26 : LC := .seq cmp_Compare_int_b25 .ret
abbrev cmp_Compare_int_b27 : LC := .cond (Operand.tmp 13) cmp_Compare_int_b26 .skip
abbrev cmp_Compare_int_b28 : LC := .seq cmp_Compare_int_b23 cmp_Compare_int_b27
abbrev cmp_Compare_int_r29 : List LO := [⟨some 14, Op.move (Operand.tmp 0), 3, none⟩,
  ⟨some 15, Op.move (Operand.tmp 1), 3, none⟩,
  ⟨some 16, Op.binOp BinOp.lss 3 (Operand.tmp 14) (Operand.tmp 15) 3, 4, none⟩]
abbrev cmp_Compare_int_b30 : LC := .reg false cmp_Compare_int_r29
abbrev cmp_Compare_int_r31 : List LO := [⟨some 4, Op.assign (Operand.const (Value.int IntKind.i64 (-1))), 3, none⟩]
abbrev cmp_Compare_int_b32 : LC := .reg false cmp_Compare_int_r31
abbrev cmp_Compare_int_b33 : LC := .seq cmp_Compare_int_b32 .ret
abbrev cmp_Compare_int_b34 : LC := .cond (Operand.tmp 16) cmp_Compare_int_b33 .skip
abbrev cmp_Compare_int_b35 : LC := .seq cmp_Compare_int_b30 cmp_Compare_int_b34
abbrev cmp_Compare_int_r36 : List LO := [⟨some 17, Op.move (Operand.tmp 0), 3, none⟩,
  ⟨some 18, Op.move (Operand.tmp 1), 3, none⟩,
  ⟨some 19, Op.binOp BinOp.gtr 3 (Operand.tmp 17) (Operand.tmp 18) 3, 4, none⟩]
abbrev cmp_Compare_int_b37 : LC := .reg false cmp_Compare_int_r36
abbrev cmp_Compare_int_r38 : List LO := [⟨some 4, Op.assign (Operand.const (Value.int IntKind.i64 1)), 3, none⟩]
abbrev cmp_Compare_int_b39 : LC := .reg false cmp_Compare_int_r38
abbrev cmp_Compare_int_b40 : LC := .seq cmp_Compare_int_b39 .ret
abbrev cmp_Compare_int_b41 : LC := .cond (Operand.tmp 19) cmp_Compare_int_b40 .skip
abbrev cmp_Compare_int_b42 : LC := .seq cmp_Compare_int_b37 cmp_Compare_int_b41
abbrev cmp_Compare_int_r43 : List LO := [⟨some 4, Op.assign (Operand.const (Value.int IntKind.i64 0)), 3, none⟩]
abbrev cmp_Compare_int_b44 : LC := .reg false cmp_Compare_int_r43
abbrev cmp_Compare_int_b45 : LC := .seq cmp_Compare_int_b44 .ret
abbrev cmp_Compare_int_b46 : LC := .seq cmp_Compare_int_b42 cmp_Compare_int_b45
abbrev cmp_Compare_int_b47 : LC := .seq cmp_Compare_int_b35 cmp_Compare_int_b46
abbrev cmp_Compare_int_b48 : LC := .seq cmp_Compare_int_b28 cmp_Compare_int_b47
abbrev cmp_Compare_int_b49 : LC := .seq cmp_Compare_int_b21 cmp_Compare_int_b48
abbrev cmp_Compare_int_b50 : LC := .seq cmp_Compare_int_b6 cmp_Compare_int_b49
abbrev cmp_Compare_int_b51 : LC := .seq cmp_Compare_int_b4 cmp_Compare_int_b50
abbrev cmp_Compare_int_b52 : LC := .seq cmp_Compare_int_b2 cmp_Compare_int_b51
theorem cmp_Compare_int_k : FnOk E 65 20 [.tmp 4] cmp_Compare_int_b52 := ⟨⟨Go.Proofs.Tryd.f65, by kernel_rfl, by kernel_rfl, by kernel_rfl, by kernel_rfl, by kernel_rfl⟩, rfl⟩
noncomputable def cmp_Compare_int (a0 : Int) (a1 : Int) : Option (Int) := Option.bind (cmp_isNaN_int a0) (fun x1 => Option.bind (cmp_isNaN_int a1) (fun x2 => (if x1 = true then (if x2 = true then some 0 else some (-1)) else (if x2 = true then some 1 else (if (decide (a0 < a1)) = true then some (-1) else (if (decide (a0 > a1)) = true then some 1 else some 0))))))
theorem cmp_Compare_int_ok (a0 : Int) (a1 : Int) : Ct E 65 [iv a0, iv a1] (cmp_Compare_int a0 a1) (fun r : Int => iv r) := ct_intro (N := 20) (L := cmp_Compare_int_b52) cmp_Compare_int_k rfl (Nat.le_of_ble_eq_true rfl) (by kernel_rfl) (by
  unfold cmp_Compare_int
  refine jc_seq ?_
  refine jc_reg ?_
  refine jr_seg 0 1 [0, 1] [] (st1 := ⟨[(0, .av (iv a0)), (1, .av (iv a1))], [], 0⟩) (by kernel_rfl) ?_
  refine jr_nil rfl ?_
  refine jx_seqN ?_
  refine jc_seq ?_
  refine jc_reg ?_
  refine jr_seg 0 1 [0, 1, 7] [] (st1 := ⟨[(0, .av (iv a0)), (1, .av (iv a1)), (7, .av (iv a0))], [], 0⟩) (by kernel_rfl) ?_
  refine jr_callF (i := 1) rfl rfl rfl rfl (vs := [iv a0]) (by kernel_rfl) (snapL_cons rfl (snapL_nil _)) (all2_cons (fle_refl _) all2_nil) (cmp_isNaN_int_ok a0) (fun _ => rfl) (fun _ => rfl) ?_
  intro x1 h1
  refine jr_seg 2 1 [0, 1, 5] [] (st1 := ⟨[(0, .av (iv a0)), (1, .av (iv a1)), (5, .av (bv x1))], [], 0⟩) (by kernel_rfl) ?_
  refine jr_nil rfl ?_
  refine jx_seqN ?_
  refine jc_seq ?_
  refine jc_reg ?_
  refine jr_seg 0 1 [0, 1, 5, 9] [] (st1 := ⟨[(0, .av (iv a0)), (1, .av (iv a1)), (5, .av (bv x1)), (9, .av (iv a1))], [], 0⟩) (by kernel_rfl) ?_
  refine jr_callF (i := 1) rfl rfl rfl rfl (vs := [iv a1]) (by kernel_rfl) (snapL_cons rfl (snapL_nil _)) (all2_cons (fle_refl _) all2_nil) (cmp_isNaN_int_ok a1) (fun _ => rfl) (fun _ => rfl) ?_
  intro x2 h2
  refine jr_seg 2 1 [0, 1, 5, 6] [] (st1 := ⟨[(0, .av (iv a0)), (1, .av (iv a1)), (5, .av (bv x1)), (6, .av (bv x2))], [], 0⟩) (by kernel_rfl) ?_
  refine jr_nil rfl ?_
  refine jx_seqN ?_
  refine jc_seq ?_
  refine jc_seq ?_
  refine jc_reg ?_
  refine jr_seg 0 1 [0, 1, 6, 11] [] (st1 := ⟨[(0, .av (iv a0)), (1, .av (iv a1)), (6, .av (bv x2)), (11, .av (bv x1))], [], 0⟩) (by kernel_rfl) ?_
  refine jr_nil rfl ?_
  refine jx_seqN ?_
  refine jc_cond (g := 11) (c := x1) (by kernel_rfl) ?_ ?_
  · intro _
    refine jc_seq ?_
    refine jc_seq ?_
    refine jc_reg ?_
    refine jr_seg 0 1 [12] [] (st1 := ⟨[(12, .av (bv x2))], [], 0⟩) (by kernel_rfl) ?_
    refine jr_nil rfl ?_
    refine jx_seqN ?_
    refine jc_cond (g := 12) (c := x2) (by kernel_rfl) ?_ ?_
    · intro _
      refine jc_seq ?_
      refine jc_reg ?_
      refine jr_seg 0 1 [4] [] (st1 := ⟨[(4, .av (iv 0))], [], 0⟩) (by kernel_rfl) ?_
      refine jr_nil rfl ?_
      refine jx_seqN ?_
      refine jc_ret ?_
      refine jx_seqR ?_
      refine jx_seqR ?_
      exact jx_retF (.inr rfl) (v := iv 0) (by kernel_rfl) rfl (fle_refl _)
    · intro _
      refine jc_skip ?_
      refine jx_seqN ?_
      refine jc_seq ?_
      refine jc_reg ?_
      refine jr_seg 0 1 [4] [] (st1 := ⟨[(4, .av (iv (-1)))], [], 0⟩) (by kernel_rfl) ?_
      refine jr_nil rfl ?_
      refine jx_seqN ?_
      refine jc_ret ?_
      refine jx_seqR ?_
      exact jx_retF (.inr rfl) (v := iv (-1)) (by kernel_rfl) rfl (fle_refl _)
  · intro _
    refine jc_skip ?_
    refine jx_seqN ?_
    refine jc_seq ?_
    refine jc_seq ?_
    refine jc_reg ?_
    refine jr_seg 0 1 [0, 1, 13] [] (st1 := ⟨[(0, .av (iv a0)), (1, .av (iv a1)), (13, .av (bv x2))], [], 0⟩) (by kernel_rfl) ?_
    refine jr_nil rfl ?_
    refine jx_seqN ?_
    refine jc_cond (g := 13) (c := x2) (by kernel_rfl) ?_ ?_
    · intro _
      refine jc_seq ?_
      refine jc_reg ?_
      refine jr_seg 0 1 [4] [] (st1 := ⟨[(4, .av (iv 1))], [], 0⟩) (by kernel_rfl) ?_
      refine jr_nil rfl ?_
      refine jx_seqN ?_
      refine jc_ret ?_
      refine jx_seqR ?_
      exact jx_retF (.inr rfl) (v := iv 1) (by kernel_rfl) rfl (fle_refl _)
    · intro _
      refine jc_skip ?_
      refine jx_seqN ?_
      refine jc_seq ?_
      refine jc_seq ?_
      refine jc_reg ?_
      refine jr_seg 0 3 [0, 1, 16] [] (st1 := ⟨[(0, .av (iv a0)), (1, .av (iv a1)), (16, .av (bv (decide (a0 < a1))))], [], 0⟩) (by kernel_rfl) ?_
      refine jr_nil rfl ?_
      refine jx_seqN ?_
      refine jc_cond (g := 16) (c := (decide (a0 < a1))) (by kernel_rfl) ?_ ?_
      · intro _
        refine jc_seq ?_
        refine jc_reg ?_
        refine jr_seg 0 1 [4] [] (st1 := ⟨[(4, .av (iv (-1)))], [], 0⟩) (by kernel_rfl) ?_
        refine jr_nil rfl ?_
        refine jx_seqN ?_
        refine jc_ret ?_
        refine jx_seqR ?_
        exact jx_retF (.inr rfl) (v := iv (-1)) (by kernel_rfl) rfl (fle_refl _)
      · intro _
        refine jc_skip ?_
        refine jx_seqN ?_
        refine jc_seq ?_
        refine jc_seq ?_
        refine jc_reg ?_
        refine jr_seg 0 3 [19] [] (st1 := ⟨[(19, .av (bv (decide (a0 > a1))))], [], 0⟩) (by kernel_rfl) ?_
        refine jr_nil rfl ?_
        refine jx_seqN ?_
        refine jc_cond (g := 19) (c := (decide (a0 > a1))) (by kernel_rfl) ?_ ?_
        · intro _
          refine jc_seq ?_
          refine jc_reg ?_
          refine jr_seg 0 1 [4] [] (st1 := ⟨[(4, .av (iv 1))], [], 0⟩) (by kernel_rfl) ?_
          refine jr_nil rfl ?_
          refine jx_seqN ?_
          refine jc_ret ?_
          refine jx_seqR ?_
          exact jx_retF (.inr rfl) (v := iv 1) (by kernel_rfl) rfl (fle_refl _)
        · intro _
          refine jc_skip ?_
          refine jx_seqN ?_
          refine jc_seq ?_
          refine jc_reg ?_
          refine jr_seg 0 1 [4] [] (st1 := ⟨[(4, .av (iv 0))], [], 0⟩) (by kernel_rfl) ?_
          refine jr_nil rfl ?_
          refine jx_seqN ?_
          refine jc_ret ?_
          exact jx_retF (.inr rfl) (v := iv 0) (by kernel_rfl) rfl (fle_refl _))
end Go.Vm

set_option maxRecDepth 100000
set_option maxHeartbeats 0
set_option linter.unusedVariables false
set_option linter.unusedSimpArgs false
namespace Go.Vm
open Go
abbrev strings_Compare_r1 : List LO := [⟨some 4, Op.assign (Operand.const (Value.int IntKind.i64 0)), 3, none⟩]
abbrev strings_Compare_b2 : LC := .reg false strings_Compare_r1
abbrev strings_Compare_r3 : List LO := [⟨some 5, Op.move (Operand.tmp 0), 9, none⟩,
  ⟨some 6, Op.move (Operand.tmp 1), 9, none⟩,
  ⟨some 7, Op.call { callee := Callee.value (Operand.func 109), args := #[Operand.tmp 5, Operand.tmp 6], argTypes := #[9, 9] }, 3, none⟩,
  ⟨some 4, Op.assign (Operand.tmp 7), 3, none⟩]
abbrev strings_Compare_b4 : LC := .reg false strings_Compare_r3
abbrev strings_Compare_b5 : LC := .seq strings_Compare_b4 .ret
abbrev strings_Compare_b6 : LC := .seq strings_Compare_b2 strings_Compare_b5
theorem strings_Compare_k : FnOk E 66 8 [.tmp 4] strings_Compare_b6 := ⟨⟨Go.Proofs.Tryd.f66, by kernel_rfl, by kernel_rfl, by kernel_rfl, by kernel_rfl, by kernel_rfl⟩, rfl⟩
noncomputable def strings_Compare (a0 : Str) (a1 : Str) : Option (Int) := Option.bind (bytealg_CompareString a0 a1) (fun x1 => some x1)
theorem strings_Compare_ok (a0 : Str) (a1 : Str) : Ct E 66 [bs a0, bs a1] (strings_Compare a0 a1) (fun r : Int => iv r) := ct_intro (N := 8) (L := strings_Compare_b6) strings_Compare_k rfl (Nat.le_of_ble_eq_true rfl) (by kernel_rfl) (by
  unfold strings_Compare
  refine jc_seq ?_
  refine jc_reg ?_
  refine jr_seg 0 1 [0, 1] [] (st1 := ⟨[(0, .av (bs a0)), (1, .av (bs a1))], [], 0⟩) (by kernel_rfl) ?_
  refine jr_nil rfl ?_
  refine jx_seqN ?_
  refine jc_seq ?_
  refine jc_reg ?_
  refine jr_seg 0 2 [5, 6] [] (st1 := ⟨[(5, .av (bs a0)), (6, .av (bs a1))], [], 0⟩) (by kernel_rfl) ?_
  refine jr_callPF (i := 2) rfl rfl (vs := [bs a0, bs a1]) (by kernel_rfl) rfl (bytealg_CompareString_ok a0 a1) (fun _ => rfl) ?_
  intro x1 h1
  refine jr_seg 3 1 [4] [] (st1 := ⟨[(4, .av (iv x1))], [], 0⟩) (by kernel_rfl) ?_
  refine jr_nil rfl ?_
  refine jx_seqN ?_
  refine jc_ret ?_
  exact jx_retF (.inr rfl) (v := iv x1) (by kernel_rfl) rfl (fle_refl _))
end Go.Vm

set_option maxRecDepth 100000
set_option maxHeartbeats 0
set_option linter.unusedVariables false
set_option linter.unusedSimpArgs false
namespace Go.Vm
open Go
abbrev scan_Cmp_r1 : List LO := [⟨some 4, Op.assign (Operand.const (Value.int IntKind.i64 0)), 3, none⟩]
abbrev scan_Cmp_b2 : LC := .reg false scan_Cmp_r1
abbrev scan_Cmp_r3 : List LO := [⟨some 5, Op.move (Operand.tmp 0), 9, none⟩,
  ⟨some 6, Op.call { callee := Callee.value (Operand.func 15), args := #[Operand.tmp 5], argTypes := #[9] }, 9, none⟩,
  ⟨some 7, Op.move (Operand.tmp 1), 9, none⟩,
  ⟨some 8, Op.call { callee := Callee.value (Operand.func 15), args := #[Operand.tmp 7], argTypes := #[9] }, 9, none⟩,
  ⟨some 0, Op.assign (Operand.tmp 6), 9, none⟩,
  ⟨some 1, Op.assign (Operand.tmp 8), 9, none⟩]
abbrev scan_Cmp_b4 : LC := .reg false scan_Cmp_r3
abbrev scan_Cmp_r5 : List LO := [⟨some 9, Op.move (Operand.tmp 0), 9, none⟩,
  ⟨some 10, Op.call { callee := Callee.builtin Builtin.len, args := #[Operand.tmp 9], argTypes := #[9] }, 3, none⟩,
  ⟨some 11, Op.move (Operand.tmp 1), 9, none⟩,
  ⟨some 12, Op.call { callee := Callee.builtin Builtin.len, args := #[Operand.tmp 11], argTypes := #[9] }, 3, none⟩,
  ⟨some 13, Op.call { callee := Callee.value (Operand.func 65), args := #[Operand.tmp 10, Operand.tmp 12], argTypes := #[3, 3] }, 3, none⟩,
  ⟨some 14, Op.move (Operand.tmp 0), 9, none⟩,
  ⟨some 15, Op.move (Operand.tmp 1), 9, none⟩,
  ⟨some 16, Op.call { callee := Callee.value (Operand.func 66), args := #[Operand.tmp 14, Operand.tmp 15], argTypes := #[9, 9] }, 3, none⟩,
  ⟨some 17, Op.buildSlice 129 2 #[(0, Operand.tmp 13), (1, Operand.tmp 16)], 129, none⟩,
  ⟨some 18, Op.call { callee := Callee.value (Operand.func 64), args := #[Operand.tmp 17], argTypes := #[129] }, 3, none⟩,
  ⟨some 4, Op.assign (Operand.tmp 18), 3, none⟩]
abbrev scan_Cmp_b6 : LC := .reg false scan_Cmp_r5
abbrev scan_Cmp_b7 : LC := .seq scan_Cmp_b6 .ret
abbrev scan_Cmp_b8 : LC := .seq scan_Cmp_b4 scan_Cmp_b7
abbrev scan_Cmp_b9 : LC := .seq scan_Cmp_b2 scan_Cmp_b8
theorem scan_Cmp_k : FnOk E 17 19 [.tmp 4] scan_Cmp_b9 := ⟨⟨Go.Proofs.Tryd.f17, by kernel_rfl, by kernel_rfl, by kernel_rfl, by kernel_rfl, by kernel_rfl⟩, rfl⟩
noncomputable def scan_Cmp (a0 : Str) (a1 : Str) : Option (Int) := Option.bind (scan_Trim a0) (fun x1 => Option.bind (scan_Trim a1) (fun x2 => Option.bind (cmp_Compare_int (List.length x1 : Int) (List.length x2 : Int)) (fun x3 => Option.bind (strings_Compare x1 x2) (fun x4 => Option.bind (cmp_Or_int [x3, x4]) (fun x5 => some x5)))))
theorem scan_Cmp_ok (a0 : Str) (a1 : Str) : Ct E 17 [bs a0, bs a1] (scan_Cmp a0 a1) (fun r : Int => iv r) := ct_intro (N := 19) (L := scan_Cmp_b9) scan_Cmp_k rfl (Nat.le_of_ble_eq_true rfl) (by kernel_rfl) (by
  unfold scan_Cmp
  refine jc_seq ?_
  refine jc_reg ?_
  refine jr_seg 0 1 [0, 1] [] (st1 := ⟨[(0, .av (bs a0)), (1, .av (bs a1))], [], 0⟩) (by kernel_rfl) ?_
  refine jr_nil rfl ?_
  refine jx_seqN ?_
  refine jc_seq ?_
  refine jc_reg ?_
  refine jr_seg 0 1 [1, 5] [] (st1 := ⟨[(1, .av (bs a1)), (5, .av (bs a0))], [], 0⟩) (by kernel_rfl) ?_
  refine jr_callF (i := 1) rfl rfl rfl rfl (vs := [bs a0]) (by kernel_rfl) (snapL_cons rfl (snapL_nil _)) (all2_cons (fle_refl _) all2_nil) (scan_Trim_ok a0) (fun _ => rfl) (fun _ => rfl) ?_
  intro x1 h1
  refine jr_seg 2 1 [6, 7] [] (st1 := ⟨[(6, .av (bs x1)), (7, .av (bs a1))], [], 0⟩) (by kernel_rfl) ?_
  refine jr_callF (i := 3) rfl rfl rfl rfl (vs := [bs a1]) (by kernel_rfl) (snapL_cons rfl (snapL_nil _)) (all2_cons (fle_refl _) all2_nil) (scan_Trim_ok a1) (fun _ => rfl) (fun _ => rfl) ?_
  intro x2 h2
  refine jr_seg 4 2 [0, 1] [] (st1 := ⟨[(0, .av (bs x1)), (1, .av (bs x2))], [], 0⟩) (by kernel_rfl) ?_
  refine jr_nil rfl ?_
  refine jx_seqN ?_
  refine jc_seq ?_
  refine jc_reg ?_
  refine jr_seg 0 4 [0, 1, 10, 12] [] (st1 := ⟨[(0, .av (bs x1)), (1, .av (bs x2)), (10, .av (iv (List.length x1 : Int))), (12, .av (iv (List.length x2 : Int)))], [], 0⟩) (by kernel_rfl) ?_
  refine jr_callF (i := 4) rfl rfl rfl rfl (vs := [iv (List.length x1 : Int), iv (List.length x2 : Int)]) (by kernel_rfl) (snapL_cons rfl (snapL_cons rfl (snapL_nil _))) (all2_cons (fle_refl _) (all2_cons (fle_refl _) all2_nil)) (cmp_Compare_int_ok (List.length x1 : Int) (List.length x2 : Int)) (fun _ => rfl) (fun _ => rfl) ?_
  intro x3 h3
  refine jr_seg 5 2 [13, 14, 15] [] (st1 := ⟨[(13, .av (iv x3)), (14, .av (bs x1)), (15, .av (bs x2))], [], 0⟩) (by kernel_rfl) ?_
  refine jr_callF (i := 7) rfl rfl rfl rfl (vs := [bs x1, bs x2]) (by kernel_rfl) (snapL_cons rfl (snapL_cons rfl (snapL_nil _))) (all2_cons (fle_refl _) (all2_cons (fle_refl _) all2_nil)) (strings_Compare_ok x1 x2) (fun _ => rfl) (fun _ => rfl) ?_
  intro x4 h4
  refine jr_seg 8 1 [17] [0] (st1 := ⟨[(17, .av (.osl 0 0 (List.length [x3, x4]) 1))], [(0, .rows 1 (List.map cI [x3, x4]))], 1⟩) (by kernel_rfl) ?_
  refine jr_callF (i := 9) rfl rfl rfl rfl (vs := [.osl 0 0 (List.length [x3, x4]) 1]) (by kernel_rfl) (snapL_cons (snapc_own fz_I (by kernel_rfl)) (snapL_nil _)) (all2_cons (fle_refl _) all2_nil) (cmp_Or_int_ok [x3, x4]) (fun _ => rfl) (fun _ => rfl) ?_
  intro x5 h5
  refine jr_seg 10 1 [4] [] (st1 := ⟨[(4, .av (iv x5))], [], 1⟩) (by kernel_rfl) ?_
  refine jr_nil rfl ?_
  refine jx_seqN ?_
  refine jc_ret ?_
  exact jx_retF (.inr rfl) (v := iv x5) (by kernel_rfl) rfl (fle_refl _))
end Go.Vm

set_option maxRecDepth 100000
set_option maxHeartbeats 0
set_option linter.unusedVariables false
set_option linter.unusedSimpArgs false
namespace Go.Vm
open Go
abbrev ref01_Texts_r1 : List LO := [⟨some 4, Op.assign (Operand.const (Value.int IntKind.i64 0)), 3, none⟩]
abbrev ref01_Texts_b2 : LC := .reg false ref01_Texts_r1
abbrev ref01_Texts_r3 : List LO := [⟨some 6, Op.move (Operand.tmp 0), 9, none⟩,
  ⟨some 7, Op.move (Operand.tmp 1), 9, none⟩,
  ⟨some 8, Op.binOp BinOp.lss 9 (Operand.tmp 6) (Operand.tmp 7) 9, 4, none⟩,
  ⟨some 5, Op.assign (Operand.tmp 8), 4, none⟩]
abbrev ref01_Texts_b4 : LC := .reg false ref01_Texts_r3
abbrev ref01_Texts_r5 : List LO := [⟨some 4, Op.assign (Operand.const (Value.int IntKind.i64 (-1))), 3, none⟩]
abbrev ref01_Texts_b6 : LC := .reg false ref01_Texts_r5
abbrev ref01_Texts_b7 : LC := .seq ref01_Texts_b6 .ret
abbrev ref01_Texts_r8 : List LO := [⟨some 10, Op.move (Operand.tmp 0), 9, none⟩,
  ⟨some 11, Op.move (Operand.tmp 1), 9, none⟩,
  ⟨some 12, Op.binOp BinOp.gtr 9 (Operand.tmp 10) (Operand.tmp 11) 9, 4, none⟩,
  ⟨some 9, Op.assign (Operand.tmp 12), 4, none⟩]
abbrev ref01_Texts_b9 : LC := .reg false ref01_Texts_r8
abbrev ref01_Texts_r10 : List LO := [⟨some 4, Op.assign (Operand.const (Value.int IntKind.i64 1)), 3, none⟩]
abbrev ref01_Texts_b11 : LC := .reg false ref01_Texts_r10
abbrev ref01_Texts_b12 : LC := .seq ref01_Texts_b11 .ret
abbrev ref01_Texts_b13 : LC := .cond (Operand.tmp 9) ref01_Texts_b12 .skip
abbrev ref01_Texts_b14 : LC := .seq ref01_Texts_b9 ref01_Texts_b13
abbrev ref01_Texts_b15 : LC := .cond (Operand.tmp 5) ref01_Texts_b7 ref01_Texts_b14
abbrev ref01_Texts_b16 : LC := .seq ref01_Texts_b4 ref01_Texts_b15
abbrev ref01_Texts_b17 : LC := .block 0 ref01_Texts_b16
abbrev ref01_Texts_r18 : List LO := [⟨some 4, Op.assign (Operand.const (Value.int IntKind.i64 0)), 3, none⟩]
abbrev ref01_Texts_b19 : LC := .reg false ref01_Texts_r18
abbrev ref01_Texts_b20 : LC := .seq ref01_Texts_b19 .ret
abbrev ref01_Texts_b21 : LC := .seq ref01_Texts_b17 ref01_Texts_b20
abbrev ref01_Texts_b22 : LC := .seq ref01_Texts_b2 ref01_Texts_b21
theorem ref01_Texts_k : FnOk E 67 13 [.tmp 4] ref01_Texts_b22 := ⟨⟨Go.Proofs.Tryd.f67, by kernel_rfl, by kernel_rfl, by kernel_rfl, by kernel_rfl, by kernel_rfl⟩, rfl⟩
noncomputable def ref01_Texts (a0 : Str) (a1 : Str) : Option (Int) := (if (Op.bytesLess a0 a1) = true then some (-1) else (if (!(Op.bytesLess a0 a1 || a0 == a1)) = true then some 1 else some 0))
theorem ref01_Texts_ok (a0 : Str) (a1 : Str) : Ct E 67 [bs a0, bs a1] (ref01_Texts a0 a1) (fun r : Int => iv r) := ct_intro (N := 13) (L := ref01_Texts_b22) ref01_Texts_k rfl (Nat.le_of_ble_eq_true rfl) (by kernel_rfl) (by
  unfold ref01_Texts
  refine jc_seq ?_
  refine jc_reg ?_
  refine jr_seg 0 1 [0, 1] [] (st1 := ⟨[(0, .av (bs a0)), (1, .av (bs a1))], [], 0⟩) (by kernel_rfl) ?_
  refine jr_nil rfl ?_
  refine jx_seqN ?_
  refine jc_seq ?_
  refine jc_block ?_
  refine jc_seq ?_
  refine jc_reg ?_
  refine jr_seg 0 4 [0, 1, 5] [] (st1 := ⟨[(0, .av (bs a0)), (1, .av (bs a1)), (5, .av (bv (Op.bytesLess a0 a1)))], [], 0⟩) (by kernel_rfl) ?_
  refine jr_nil rfl ?_
  refine jx_seqN ?_
  refine jc_cond (g := 5) (c := (Op.bytesLess a0 a1)) (by kernel_rfl) ?_ ?_
  · intro _
    refine jc_seq ?_
    refine jc_reg ?_
    refine jr_seg 0 1 [4] [] (st1 := ⟨[(4, .av (iv (-1)))], [], 0⟩) (by kernel_rfl) ?_
    refine jr_nil rfl ?_
    refine jx_seqN ?_
    refine jc_ret ?_
    refine jx_blkR ?_
    refine jx_seqR ?_
    exact jx_retF (.inr rfl) (v := iv (-1)) (by kernel_rfl) rfl (fle_refl _)
  · intro _
    refine jc_seq ?_
    refine jc_reg ?_
    refine jr_seg 0 4 [9] [] (st1 := ⟨[(9, .av (bv (!(Op.bytesLess a0 a1 || a0 == a1))))], [], 0⟩) (by kernel_rfl) ?_
    refine jr_nil rfl ?_
    refine jx_seqN ?_
    refine jc_cond (g := 9) (c := (!(Op.bytesLess a0 a1 || a0 == a1))) (by kernel_rfl) ?_ ?_
    · intro _
      refine jc_seq ?_
      refine jc_reg ?_
      refine jr_seg 0 1 [4] [] (st1 := ⟨[(4, .av (iv 1))], [], 0⟩) (by kernel_rfl) ?_
      refine jr_nil rfl ?_
      refine jx_seqN ?_
      refine jc_ret ?_
      refine jx_blkR ?_
      refine jx_seqR ?_
      exact jx_retF (.inr rfl) (v := iv 1) (by kernel_rfl) rfl (fle_refl _)
    · intro _
      refine jc_skip ?_
      refine jx_blkN ?_
      refine jx_seqN ?_
      refine jc_seq ?_
      refine jc_reg ?_
      refine jr_seg 0 1 [4] [] (st1 := ⟨[(4, .av (iv 0))], [], 0⟩) (by kernel_rfl) ?_
      refine jr_nil rfl ?_
      refine jx_seqN ?_
      refine jc_ret ?_
      exact jx_retF (.inr rfl) (v := iv 0) (by kernel_rfl) rfl (fle_refl _))
end Go.Vm

set_option maxRecDepth 100000
set_option maxHeartbeats 0
set_option linter.unusedVariables false
set_option linter.unusedSimpArgs false
namespace Go.Vm
open Go
abbrev ref01_Cmp_r1 : List LO := [⟨some 4, Op.assign (Operand.const (Value.int IntKind.i64 0)), 3, none⟩]
abbrev ref01_Cmp_b2 : LC := .reg false ref01_Cmp_r1
abbrev ref01_Cmp_r3 : List LO := [⟨some 7, Op.move (Operand.tmp 0), 9, none⟩,
  ⟨some 8, Op.call { callee := Callee.value (Operand.func 16), args := #[Operand.tmp 7], argTypes := #[9] }, 9, none⟩,
  ⟨some 5, Op.assign (Operand.tmp 8), 9, none⟩]
abbrev ref01_Cmp_b4 : LC := .reg false ref01_Cmp_r3
abbrev ref01_Cmp_r5 : List LO := [⟨some 9, Op.move (Operand.tmp 1), 9, none⟩,
  ⟨some 10, Op.call { callee := Callee.value (Operand.func 16), args := #[Operand.tmp 9], argTypes := #[9] }, 9, none⟩,
  ⟨some 6, Op.assign (Operand.tmp 10), 9, none⟩]
abbrev ref01_Cmp_b6 : LC := .reg false ref01_Cmp_r5
abbrev ref01_Cmp_r7 : List LO := [⟨some 12, Op.move (Operand.tmp 5), 9, none⟩,
  ⟨some 13, Op.call { callee := Callee.builtin Builtin.len, args := #[Operand.tmp 12], argTypes := #[9] }, 3, none⟩,
  ⟨some 14, Op.move (Operand.tmp 6), 9, none⟩,
  ⟨some 15, Op.call { callee := Callee.builtin Builtin.len, args := #[Operand.tmp 14], argTypes := #[9] }, 3, none⟩,
  ⟨some 16, Op.binOp BinOp.lss 3 (Operand.tmp 13) (Operand.tmp 15) 3, 4, none⟩,
  ⟨some 11, Op.assign (Operand.tmp 16), 4, none⟩]
abbrev ref01_Cmp_b8 : LC := .reg false ref01_Cmp_r7
abbrev ref01_Cmp_r9 : List LO := [⟨some 4, Op.assign (Operand.const (Value.int IntKind.i64 (-1))), 3, none⟩]
abbrev ref01_Cmp_b10 : LC := .reg false ref01_Cmp_r9
abbrev ref01_Cmp_b11 : LC := .seq ref01_Cmp_b10 .ret
abbrev ref01_Cmp_r12 : List LO := [⟨some 18, Op.move (Operand.tmp 5), 9, none⟩,
  ⟨some 19, Op.call { callee := Callee.builtin Builtin.len, args := #[Operand.tmp 18], argTypes := #[9] }, 3, none⟩,
  ⟨some 20, Op.move (Operand.tmp 6), 9, none⟩,
  ⟨some 21, Op.call { callee := Callee.builtin Builtin.len, args := #[Operand.tmp 20], argTypes := #[9] }, 3, none⟩,
  ⟨some 22, Op.binOp BinOp.gtr 3 (Operand.tmp 19) (Operand.tmp 21) 3, 4, none⟩,
  ⟨some 17, Op.assign (Operand.tmp 22), 4, none⟩]
abbrev ref01_Cmp_b13 : LC := .reg false ref01_Cmp_r12
abbrev ref01_Cmp_r14 : List LO := [⟨some 4, Op.assign (Operand.const (Value.int IntKind.i64 1)), 3, none⟩]
abbrev ref01_Cmp_b15 : LC := .reg false ref01_Cmp_r14
abbrev ref01_Cmp_b16 : LC := .seq ref01_Cmp_b15 .ret
abbrev ref01_Cmp_b17 : LC := .cond (Operand.tmp 17) ref01_Cmp_b16 .skip
abbrev ref01_Cmp_b18 : LC := .seq ref01_Cmp_b13 ref01_Cmp_b17
abbrev ref01_Cmp_b19 : LC := .cond (Operand.tmp 11) ref01_Cmp_b11 ref01_Cmp_b18
abbrev ref01_Cmp_b20 : LC := .seq ref01_Cmp_b8 ref01_Cmp_b19
abbrev ref01_Cmp_b21 : LC := .block 0 ref01_Cmp_b20
abbrev ref01_Cmp_r22 : List LO := [⟨some 23, Op.move (Operand.tmp 5), 9, none⟩,
  ⟨some 24, Op.move (Operand.tmp 6), 9, none⟩,
  ⟨some 25, Op.call { callee := Callee.value (Operand.func 67), args := #[Operand.tmp 23, Operand.tmp 24], argTypes := #[9, 9] }, 3, none⟩,
  ⟨some 4, Op.assign (Operand.tmp 25), 3, none⟩]
abbrev ref01_Cmp_b23 : LC := .reg false ref01_Cmp_r22
abbrev ref01_Cmp_b24 : LC := .seq ref01_Cmp_b23 .ret
abbrev ref01_Cmp_b25 : LC := .seq ref01_Cmp_b21 ref01_Cmp_b24
abbrev ref01_Cmp_b26 : LC := .seq ref01_Cmp_b6 ref01_Cmp_b25
abbrev ref01_Cmp_b27 : LC := .seq ref01_Cmp_b4 ref01_Cmp_b26
abbrev ref01_Cmp_b28 : LC := .seq ref01_Cmp_b2 ref01_Cmp_b27
theorem ref01_Cmp_k : FnOk E 18 26 [.tmp 4] ref01_Cmp_b28 := ⟨⟨Go.Proofs.Tryd.f18, by kernel_rfl, by kernel_rfl, by kernel_rfl, by kernel_rfl, by kernel_rfl⟩, rfl⟩
noncomputable def ref01_Cmp (a0 : Str) (a1 : Str) : Option (Int) := Option.bind (ref01_Trim a0) (fun x1 => Option.bind (ref01_Trim a1) (fun x2 => (if (decide ((List.length x1 : Int) < (List.length x2 : Int))) = true then some (-1) else (if (decide ((List.length x1 : Int) > (List.length x2 : Int))) = true then some 1 else Option.bind (ref01_Texts x1 x2) (fun x3 => some x3)))))
theorem ref01_Cmp_ok (a0 : Str) (a1 : Str) : Ct E 18 [bs a0, bs a1] (ref01_Cmp a0 a1) (fun r : Int => iv r) := ct_intro (N := 26) (L := ref01_Cmp_b28) ref01_Cmp_k rfl (Nat.le_of_ble_eq_true rfl) (by kernel_rfl) (by
  unfold ref01_Cmp
  refine jc_seq ?_
  refine jc_reg ?_
  refine jr_seg 0 1 [0, 1] [] (st1 := ⟨[(0, .av (bs a0)), (1, .av (bs a1))], [], 0⟩) (by kernel_rfl) ?_
  refine jr_nil rfl ?_
  refine jx_seqN ?_
  refine jc_seq ?_
  refine jc_reg ?_
  refine jr_seg 0 1 [1, 7] [] (st1 := ⟨[(1, .av (bs a1)), (7, .av (bs a0))], [], 0⟩) (by kernel_rfl) ?_
  refine jr_callF (i := 1) rfl rfl rfl rfl (vs := [bs a0]) (by kernel_rfl) (snapL_cons rfl (snapL_nil _)) (all2_cons (fle_refl _) all2_nil) (ref01_Trim_ok a0) (fun _ => rfl) (fun _ => rfl) ?_
  intro x1 h1
  refine jr_seg 2 1 [1, 5] [] (st1 := ⟨[(1, .av (bs a1)), (5, .av (bs x1))], [], 0⟩) (by kernel_rfl) ?_
  refine jr_nil rfl ?_
  refine jx_seqN ?_
  refine jc_seq ?_
  refine jc_reg ?_
  refine jr_seg 0 1 [5, 9] [] (st1 := ⟨[(5, .av (bs x1)), (9, .av (bs a1))], [], 0⟩) (by kernel_rfl) ?_
  refine jr_callF (i := 1) rfl rfl rfl rfl (vs := [bs a1]) (by kernel_rfl) (snapL_cons rfl (snapL_nil _)) (all2_cons (fle_refl _) all2_nil) (ref01_Trim_ok a1) (fun _ => rfl) (fun _ => rfl) ?_
  intro x2 h2
  refine jr_seg 2 1 [5, 6] [] (st1 := ⟨[(5, .av (bs x1)), (6, .av (bs x2))], [], 0⟩) (by kernel_rfl) ?_
  refine jr_nil rfl ?_
  refine jx_seqN ?_
  refine jc_seq ?_
  refine jc_block ?_
  refine jc_seq ?_
  refine jc_reg ?_
  refine jr_seg 0 6 [5, 6, 11] [] (st1 := ⟨[(5, .av (bs x1)), (6, .av (bs x2)), (11, .av (bv (decide ((List.length x1 : Int) < (List.length x2 : Int)))))], [], 0⟩) (by kernel_rfl) ?_
  refine jr_nil rfl ?_
  refine jx_seqN ?_
  refine jc_cond (g := 11) (c := (decide ((List.length x1 : Int) < (List.length x2 : Int)))) (by kernel_rfl) ?_ ?_
  · intro _
    refine jc_seq ?_
    refine jc_reg ?_
    refine jr_seg 0 1 [4] [] (st1 := ⟨[(4, .av (iv (-1)))], [], 0⟩) (by kernel_rfl) ?_
    refine jr_nil rfl ?_
    refine jx_seqN ?_
    refine jc_ret ?_
    refine jx_blkR ?_
    refine jx_seqR ?_
    exact jx_retF (.inr rfl) (v := iv (-1)) (by kernel_rfl) rfl (fle_refl _)
  · intro _
    refine jc_seq ?_
    refine jc_reg ?_
    refine jr_seg 0 6 [5, 6, 17] [] (st1 := ⟨[(5, .av (bs x1)), (6, .av (bs x2)), (17, .av (bv (decide ((List.length x1 : Int) > (List.length x2 : Int)))))], [], 0⟩) (by kernel_rfl) ?_
    refine jr_nil rfl ?_
    refine jx_seqN ?_
    refine jc_cond (g := 17) (c := (decide ((List.length x1 : Int) > (List.length x2 : Int)))) (by kernel_rfl) ?_ ?_
    · intro _
      refine jc_seq ?_
      refine jc_reg ?_
      refine jr_seg 0 1 [4] [] (st1 := ⟨[(4, .av (iv 1))], [], 0⟩) (by kernel_rfl) ?_
      refine jr_nil rfl ?_
      refine jx_seqN ?_
      refine jc_ret ?_
      refine jx_blkR ?_
      refine jx_seqR ?_
      exact jx_retF (.inr rfl) (v := iv 1) (by kernel_rfl) rfl (fle_refl _)
    · intro _
      refine jc_skip ?_
      refine jx_blkN ?_
      refine jx_seqN ?_
      refine jc_seq ?_
      refine jc_reg ?_
      refine jr_seg 0 2 [23, 24] [] (st1 := ⟨[(23, .av (bs x1)), (24, .av (bs x2))], [], 0⟩) (by kernel_rfl) ?_
      refine jr_callF (i := 2) rfl rfl rfl rfl (vs := [bs x1, bs x2]) (by kernel_rfl) (snapL_cons rfl (snapL_cons rfl (snapL_nil _))) (all2_cons (fle_refl _) (all2_cons (fle_refl _) all2_nil)) (ref01_Texts_ok x1 x2) (fun _ => rfl) (fun _ => rfl) ?_
      intro x3 h3
      refine jr_seg 3 1 [4] [] (st1 := ⟨[(4, .av (iv x3))], [], 0⟩) (by kernel_rfl) ?_
      refine jr_nil rfl ?_
      refine jx_seqN ?_
      refine jc_ret ?_
      exact jx_retF (.inr rfl) (v := iv x3) (by kernel_rfl) rfl (fle_refl _))
end Go.Vm

set_option maxRecDepth 100000
set_option maxHeartbeats 0
set_option linter.unusedVariables false
set_option linter.unusedSimpArgs false
namespace Go.Vm
open Go
abbrev scan_Is_r1 : List LO := [⟨some 4, Op.assign (Operand.const (Value.bool false)), 4, none⟩]
abbrev scan_Is_b2 : LC := .reg false scan_Is_r1
abbrev scan_Is_r3 : List LO := [⟨some 9, Op.move (Operand.tmp 0), 5, none⟩,
  ⟨some 10, Op.binOp BinOp.geq 5 (Operand.tmp 9) (Operand.const (Value.int IntKind.u8 48)) 5, 4, none⟩,
  ⟨some 11, Op.move (Operand.tmp 10), 4, none⟩,
  ⟨some 12, Op.move (Operand.tmp 0), 5, (some (11, true))⟩,
  ⟨some 13, Op.binOp BinOp.leq 5 (Operand.tmp 12) (Operand.const (Value.int IntKind.u8 57)) 5, 4, (some (11, true))⟩,
  ⟨some 14, Op.pick (Operand.tmp 11) (Operand.tmp 13) (Operand.const (Value.bool false)), 4, none⟩,
  ⟨some 15, Op.move (Operand.tmp 0), 5, none⟩,
  ⟨some 16, Op.binOp BinOp.geq 5 (Operand.tmp 15) (Operand.const (Value.int IntKind.u8 97)) 5, 4, none⟩,
  ⟨some 17, Op.move (Operand.tmp 16), 4, none⟩,
  ⟨some 18, Op.move (Operand.tmp 0), 5, (some (17, true))⟩,
  ⟨some 19, Op.binOp BinOp.leq 5 (Operand.tmp 18) (Operand.const (Value.int IntKind.u8 122)) 5, 4, (some (17, true))⟩,
  ⟨some 20, Op.pick (Operand.tmp 17) (Operand.tmp 19) (Operand.const (Value.bool false)), 4, none⟩,
  ⟨some 21, Op.move (Operand.tmp 0), 5, none⟩,
  ⟨some 22, Op.binOp BinOp.geq 5 (Operand.tmp 21) (Operand.const (Value.int IntKind.u8 65)) 5, 4, none⟩,
  ⟨some 23, Op.move (Operand.tmp 22), 4, none⟩,
  ⟨some 24, Op.move (Operand.tmp 0), 5, (some (23, true))⟩,
  ⟨some 25, Op.binOp BinOp.leq 5 (Operand.tmp 24) (Operand.const (Value.int IntKind.u8 90)) 5, 4, (some (23, true))⟩,
  ⟨some 26, Op.pick (Operand.tmp 23) (Operand.tmp 25) (Operand.const (Value.bool false)), 4, none⟩,
  ⟨some 5, Op.assign (Operand.tmp 14), 4, none⟩,
  ⟨some 6, Op.assign (Operand.tmp 20), 4, none⟩,
  ⟨some 7, Op.assign (Operand.tmp 26), 4, none⟩]
abbrev scan_Is_b4 : LC := .reg false scan_Is_r3
abbrev scan_Is_r5 : List LO := [⟨some 27, Op.move (Operand.tmp 0), 5, none⟩,
  ⟨some 28, Op.binOp BinOp.eql 5 (Operand.tmp 27) (Operand.const (Value.int IntKind.u8 32)) 5, 4, none⟩,
  ⟨some 29, Op.move (Operand.tmp 28), 4, none⟩,
  ⟨some 30, Op.move (Operand.tmp 0), 5, (some (29, false))⟩,
  ⟨some 31, Op.binOp BinOp.eql 5 (Operand.tmp 30) (Operand.const (Value.int IntKind.u8 9)) 5, 4, (some (29, false))⟩,
  ⟨some 32, Op.pick (Operand.tmp 29) (Operand.const (Value.bool true)) (Operand.tmp 31), 4, none⟩,
  ⟨some 8, Op.assign (Operand.tmp 32), 4, none⟩]
abbrev scan_Is_b6 : LC := .reg false scan_Is_r5
abbrev scan_Is_r7 : List LO := [⟨some 33, Op.move (Operand.tmp 1), 3, none⟩]
abbrev scan_Is_b8 : LC := .reg false scan_Is_r7
abbrev scan_Is_r9 : List LO := [⟨some 35, Op.binOp BinOp.eql 3 (Operand.tmp 33) (Operand.const (Value.int IntKind.i64 1)) 3, 4, none⟩,
  ⟨some 34, Op.assign (Operand.tmp 35), 4, none⟩]
abbrev scan_Is_b10 : LC := .reg false scan_Is_r9
abbrev scan_Is_r11 : List LO := [⟨some 36, Op.move (Operand.tmp 5), 4, none⟩,
  ⟨some 4, Op.assign (Operand.tmp 36), 4, none⟩]
abbrev scan_Is_b12 : LC := .reg false scan_Is_r11
abbrev scan_Is_b13 : LC := .seq scan_Is_b12 .ret
abbrev scan_Is_r14 : List LO := [⟨some 38, Op.binOp BinOp.eql 3 (Operand.tmp 33) (Operand.const (Value.int IntKind.i64 2)) 3, 4, none⟩,
  ⟨some 37, Op.assign (Operand.tmp 38), 4, none⟩]
abbrev scan_Is_b15 : LC := .reg false scan_Is_r14
abbrev scan_Is_r16 : List LO := [⟨some 39, Op.move (Operand.tmp 6), 4, none⟩,
  ⟨some 4, Op.assign (Operand.tmp 39), 4, none⟩]
abbrev scan_Is_b17 : LC := .reg false scan_Is_r16
abbrev scan_Is_b18 : LC := .seq scan_Is_b17 .ret
abbrev scan_Is_r19 : List LO := [⟨some 41, Op.binOp BinOp.eql 3 (Operand.tmp 33) (Operand.const (Value.int IntKind.i64 3)) 3, 4, none⟩,
  ⟨some 40, Op.assign (Operand.tmp 41), 4, none⟩]
abbrev scan_Is_b20 : LC := .reg false scan_Is_r19
abbrev scan_Is_r21 : List LO := [⟨some 42, Op.move (Operand.tmp 7), 4, none⟩,
  ⟨some 4, Op.assign (Operand.tmp 42), 4, none⟩]
abbrev scan_Is_b22 : LC := .reg false scan_Is_r21
abbrev scan_Is_b23 : LC := .seq scan_Is_b22 .ret
abbrev scan_Is_r24 : List LO := [⟨some 44, Op.binOp BinOp.eql 3 (Operand.tmp 33) (Operand.const (Value.int IntKind.i64 4)) 3, 4, none⟩,
  ⟨some 43, Op.assign (Operand.tmp 44), 4, none⟩]
abbrev scan_Is_b25 : LC := .reg false scan_Is_r24
abbrev scan_Is_r26 : List LO := [⟨some 45, Op.move (Operand.tmp 6), 4, none⟩,
  ⟨some 46, Op.move (Operand.tmp 45), 4, none⟩,
  ⟨some 47, Op.move (Operand.tmp 7), 4, (some (46, false))⟩,
  ⟨some 48, Op.pick (Operand.tmp 46) (Operand.const (Value.bool true)) (Operand.tmp 47), 4, none⟩,
  ⟨some 4, Op.assign (Operand.tmp 48), 4, none⟩]
abbrev scan_Is_b27 : LC := .reg false scan_Is_r26
abbrev scan_Is_b28 : LC := .seq scan_Is_b27 .ret
abbrev scan_Is_r29 : List LO := [⟨some 50, Op.binOp BinOp.eql 3 (Operand.tmp 33) (Operand.const (Value.int IntKind.i64 5)) 3, 4, none⟩,
  ⟨some 49, Op.assign (Operand.tmp 50), 4, none⟩]
abbrev scan_Is_b30 : LC := .reg false scan_Is_r29
abbrev scan_Is_r31 : List LO := [⟨some 51, Op.move (Operand.tmp 5), 4, none⟩,
  ⟨some 52, Op.move (Operand.tmp 51), 4, none⟩,
  ⟨some 53, Op.move (Operand.tmp 6), 4, (some (52, false))⟩,
  ⟨some 54, Op.pick (Operand.tmp 52) (Operand.const (Value.bool true)) (Operand.tmp 53), 4, none⟩,
  ⟨some 55, Op.move (Operand.tmp 54), 4, none⟩,
  ⟨some 56, Op.move (Operand.tmp 7), 4, (some (55, false))⟩,
  ⟨some 57, Op.pick (Operand.tmp 55) (Operand.const (Value.bool true)) (Operand.tmp 56), 4, none⟩,
  ⟨some 4, Op.assign (Operand.tmp 57), 4, none⟩]
abbrev scan_Is_b32 : LC := .reg false scan_Is_r31
abbrev scan_Is_b33 : LC := .seq scan_Is_b32 .ret
abbrev scan_Is_r34 : List LO := [⟨some 59, Op.binOp BinOp.eql 3 (Operand.tmp 33) (Operand.const (Value.int IntKind.i64 6)) 3, 4, none⟩,
  ⟨some 58, Op.assign (Operand.tmp 59), 4, none⟩]
abbrev scan_Is_b35 : LC := .reg false scan_Is_r34
abbrev scan_Is_r36 : List LO := [⟨some 60, Op.move (Operand.tmp 8), 4, none⟩,
  ⟨some 4, Op.assign (Operand.tmp 60), 4, none⟩]
abbrev scan_Is_b37 : LC := .reg false scan_Is_r36
abbrev scan_Is_b38 : LC := .seq scan_Is_b37 .ret
abbrev scan_Is_r39 : List LO := [⟨some 62, Op.binOp BinOp.eql 3 (Operand.tmp 33) (Operand.const (Value.int IntKind.i64 7)) 3, 4, none⟩,
  ⟨some 61, Op.assign (Operand.tmp 62), 4, none⟩]
abbrev scan_Is_b40 : LC := .reg false scan_Is_r39
abbrev scan_Is_r41 : List LO := [⟨some 63, Op.move (Operand.tmp 8), 4, none⟩,
  ⟨some 64, Op.move (Operand.tmp 63), 4, none⟩,
  ⟨some 65, Op.move (Operand.tmp 0), 5, (some (64, false))⟩,
  ⟨some 66, Op.binOp BinOp.eql 5 (Operand.tmp 65) (Operand.const (Value.int IntKind.u8 10)) 5, 4, (some (64, false))⟩,
  ⟨some 67, Op.pick (Operand.tmp 64) (Operand.const (Value.bool true)) (Operand.tmp 66), 4, none⟩,
  ⟨some 68, Op.move (Operand.tmp 67), 4, none⟩,
  ⟨some 69, Op.move (Operand.tmp 0), 5, (some (68, false))⟩,
  ⟨some 70, Op.binOp BinOp.eql 5 (Operand.tmp 69) (Operand.const (Value.int IntKind.u8 13)) 5, 4, (some (68, false))⟩,
  ⟨some 71, Op.pick (Operand.tmp 68) (Operand.const (Value.bool true)) (Operand.tmp 70), 4, none⟩,
  ⟨some 4, Op.assign (Operand.tmp 71), 4, none⟩]
abbrev scan_Is_b42 : LC := .reg false scan_Is_r41
abbrev scan_Is_b43 : LC := .seq scan_Is_b42 .ret
abbrev scan_Is_b44 : LC := .cond (Operand.tmp 61) scan_Is_b43 .skip
abbrev scan_Is_b45 : LC := .seq scan_Is_b40 scan_Is_b44
abbrev scan_Is_b46 : LC := .cond (Operand.tmp 58) scan_Is_b38 scan_Is_b45
abbrev scan_Is_b47 : LC := .seq scan_Is_b35 scan_Is_b46
abbrev scan_Is_b48 : LC := .cond (Operand.tmp 49) scan_Is_b33 scan_Is_b47
abbrev scan_Is_b49 : LC := .seq scan_Is_b30 scan_Is_b48
abbrev scan_Is_b50 : LC := .cond (Operand.tmp 43) scan_Is_b28 scan_Is_b49
abbrev scan_Is_b51 : LC := .seq scan_Is_b25 scan_Is_b50
abbrev scan_Is_b52 : LC := .cond (Operand.tmp 40) scan_Is_b23 scan_Is_b51
abbrev scan_Is_b53 : LC := .seq scan_Is_b20 scan_Is_b52
abbrev scan_Is_b54 : LC := .cond (Operand.tmp 37) scan_Is_b18 scan_Is_b53
abbrev scan_Is_b55 : LC := .seq scan_Is_b15 scan_Is_b54
abbrev scan_Is_b56 : LC := .cond (Operand.tmp 34) scan_Is_b13 scan_Is_b55
abbrev scan_Is_b57 : LC := .seq scan_Is_b10 scan_Is_b56
abbrev scan_Is_b58 : LC := .block 0 scan_Is_b57
abbrev scan_Is_b59 : LC := .seq scan_Is_b8 scan_Is_b58
abbrev scan_Is_r60 : List LO := [⟨some 4, Op.assign (Operand.const (Value.bool false)), 4, none⟩]
abbrev scan_Is_b61 : LC := .reg false scan_Is_r60
abbrev scan_Is_b62 : LC := .seq scan_Is_b61 .ret
abbrev scan_Is_b63 : LC := .seq scan_Is_b59 scan_Is_b62
abbrev scan_Is_b64 : LC := .seq scan_Is_b6 scan_Is_b63
abbrev scan_Is_b65 : LC := .seq scan_Is_b4 scan_Is_b64
abbrev scan_Is_b66 : LC := .seq scan_Is_b2 scan_Is_b65
theorem scan_Is_k : FnOk E 26 72 [.tmp 4] scan_Is_b66 := ⟨⟨Go.Proofs.Tryd.f26, by kernel_rfl, by kernel_rfl, by kernel_rfl, by kernel_rfl, by kernel_rfl⟩, rfl⟩
noncomputable def scan_Is (a0 : Int) (a1 : Int) : Option (Bool) := (if (a1 == 1) = true then some ((decide (a0 ≥ 48)) && (decide (a0 ≤ 57))) else (if (a1 == 2) = true then some ((decide (a0 ≥ 97)) && (decide (a0 ≤ 122))) else (if (a1 == 3) = true then some ((decide (a0 ≥ 65)) && (decide (a0 ≤ 90))) else (if (a1 == 4) = true then some (((decide (a0 ≥ 97)) && (decide (a0 ≤ 122))) || ((decide (a0 ≥ 65)) && (decide (a0 ≤ 90)))) else (if (a1 == 5) = true then some ((((decide (a0 ≥ 48)) && (decide (a0 ≤ 57))) || ((decide (a0 ≥ 97)) && (decide (a0 ≤ 122)))) || ((decide (a0 ≥ 65)) && (decide (a0 ≤ 90)))) else (if (a1 == 6) = true then some ((a0 == 32) || (a0 == 9)) else (if (a1 == 7) = true then some ((((a0 == 32) || (a0 == 9)) || (a0 == 10)) || (a0 == 13)) else some false)))))))
theorem scan_Is_ok (a0 : Int) (a1 : Int) : Ct E 26 [.s (.int .u8 a0), iv a1] (scan_Is a0 a1) (fun r : Bool => bv r) := ct_intro (N := 72) (L := scan_Is_b66) scan_Is_k rfl (Nat.le_of_ble_eq_true rfl) (by kernel_rfl) (by
  unfold scan_Is
  refine jc_seq ?_
  refine jc_reg ?_
  refine jr_seg 0 1 [0, 1] [] (st1 := ⟨[(0, .av (.s (.int .u8 a0))), (1, .av (iv a1))], [], 0⟩) (by kernel_rfl) ?_
  refine jr_nil rfl ?_
  refine jx_seqN ?_
  refine jc_seq ?_
  refine jc_reg ?_
  refine jr_seg 0 21 [0, 1, 5, 6, 7] [] (st1 := ⟨[(0, .av (.s (.int .u8 a0))), (1, .av (iv a1)), (5, .av (bv ((decide (a0 ≥ 48)) && (decide (a0 ≤ 57))))), (6, .av (bv ((decide (a0 ≥ 97)) && (decide (a0 ≤ 122))))), (7, .av (bv ((decide (a0 ≥ 65)) && (decide (a0 ≤ 90)))))], [], 0⟩) (by kernel_rfl) ?_
  refine jr_nil rfl ?_
  refine jx_seqN ?_
  refine jc_seq ?_
  refine jc_reg ?_
  refine jr_seg 0 7 [0, 1, 5, 6, 7, 8] [] (st1 := ⟨[(0, .av (.s (.int .u8 a0))), (1, .av (iv a1)), (5, .av (bv ((decide (a0 ≥ 48)) && (decide (a0 ≤ 57))))), (6, .av (bv ((decide (a0 ≥ 97)) && (decide (a0 ≤ 122))))), (7, .av (bv ((decide (a0 ≥ 65)) && (decide (a0 ≤ 90))))), (8, .av (bv ((a0 == 32) || (a0 == 9))))], [], 0⟩) (by kernel_rfl) ?_
  refine jr_nil rfl ?_
  refine jx_seqN ?_
  refine jc_seq ?_
  refine jc_seq ?_
  refine jc_reg ?_
  refine jr_seg 0 1 [0, 5, 6, 7, 8, 33] [] (st1 := ⟨[(0, .av (.s (.int .u8 a0))), (5, .av (bv ((decide (a0 ≥ 48)) && (decide (a0 ≤ 57))))), (6, .av (bv ((decide (a0 ≥ 97)) && (decide (a0 ≤ 122))))), (7, .av (bv ((decide (a0 ≥ 65)) && (decide (a0 ≤ 90))))), (8, .av (bv ((a0 == 32) || (a0 == 9)))), (33, .av (iv a1))], [], 0⟩) (by kernel_rfl) ?_
  refine jr_nil rfl ?_
  refine jx_seqN ?_
  refine jc_block ?_
  refine jc_seq ?_
  refine jc_reg ?_
  refine jr_seg 0 2 [0, 5, 6, 7, 8, 33, 34] [] (st1 := ⟨[(0, .av (.s (.int .u8 a0))), (5, .av (bv ((decide (a0 ≥ 48)) && (decide (a0 ≤ 57))))), (6, .av (bv ((decide (a0 ≥ 97)) && (decide (a0 ≤ 122))))), (7, .av (bv ((decide (a0 ≥ 65)) && (decide (a0 ≤ 90))))), (8, .av (bv ((a0 == 32) || (a0 == 9)))), (33, .av (iv a1)), (34, .av (bv (a1 == 1)))], [], 0⟩) (by kernel_rfl) ?_
  refine jr_nil rfl ?_
  refine jx_seqN ?_
  refine jc_cond (g := 34) (c := (a1 == 1)) (by kernel_rfl) ?_ ?_
  · intro _
    refine jc_seq ?_
    refine jc_reg ?_
    refine jr_seg 0 2 [4] [] (st1 := ⟨[(4, .av (bv ((decide (a0 ≥ 48)) && (decide (a0 ≤ 57)))))], [], 0⟩) (by kernel_rfl) ?_
    refine jr_nil rfl ?_
    refine jx_seqN ?_
    refine jc_ret ?_
    refine jx_blkR ?_
    refine jx_seqR ?_
    exact jx_retF (.inr rfl) (v := bv ((decide (a0 ≥ 48)) && (decide (a0 ≤ 57)))) (by kernel_rfl) rfl (fle_refl _)
  · intro _
    refine jc_seq ?_
    refine jc_reg ?_
    refine jr_seg 0 2 [0, 5, 6, 7, 8, 33, 37] [] (st1 := ⟨[(0, .av (.s (.int .u8 a0))), (5, .av (bv ((decide (a0 ≥ 48)) && (decide (a0 ≤ 57))))), (6, .av (bv ((decide (a0 ≥ 97)) && (decide (a0 ≤ 122))))), (7, .av (bv ((decide (a0 ≥ 65)) && (decide (a0 ≤ 90))))), (8, .av (bv ((a0 == 32) || (a0 == 9)))), (33, .av (iv a1)), (37, .av (bv (a1 == 2)))], [], 0⟩) (by kernel_rfl) ?_
    refine jr_nil rfl ?_
    refine jx_seqN ?_
    refine jc_cond (g := 37) (c := (a1 == 2)) (by kernel_rfl) ?_ ?_
    · intro _
      refine jc_seq ?_
      refine jc_reg ?_
      refine jr_seg 0 2 [4] [] (st1 := ⟨[(4, .av (bv ((decide (a0 ≥ 97)) && (decide (a0 ≤ 122)))))], [], 0⟩) (by kernel_rfl) ?_
      refine jr_nil rfl ?_
      refine jx_seqN ?_
      refine jc_ret ?_
      refine jx_blkR ?_
      refine jx_seqR ?_
      exact jx_retF (.inr rfl) (v := bv ((decide (a0 ≥ 97)) && (decide (a0 ≤ 122)))) (by kernel_rfl) rfl (fle_refl _)
    · intro _
      refine jc_seq ?_
      refine jc_reg ?_
      refine jr_seg 0 2 [0, 5, 6, 7, 8, 33, 40] [] (st1 := ⟨[(0, .av (.s (.int .u8 a0))), (5, .av (bv ((decide (a0 ≥ 48)) && (decide (a0 ≤ 57))))), (6, .av (bv ((decide (a0 ≥ 97)) && (decide (a0 ≤ 122))))), (7, .av (bv ((decide (a0 ≥ 65)) && (decide (a0 ≤ 90))))), (8, .av (bv ((a0 == 32) || (a0 == 9)))), (33, .av (iv a1)), (40, .av (bv (a1 == 3)))], [], 0⟩) (by kernel_rfl) ?_
      refine jr_nil rfl ?_
      refine jx_seqN ?_
      refine jc_cond (g := 40) (c := (a1 == 3)) (by kernel_rfl) ?_ ?_
      · intro _
        refine jc_seq ?_
        refine jc_reg ?_
        refine jr_seg 0 2 [4] [] (st1 := ⟨[(4, .av (bv ((decide (a0 ≥ 65)) && (decide (a0 ≤ 90)))))], [], 0⟩) (by kernel_rfl) ?_
        refine jr_nil rfl ?_
        refine jx_seqN ?_
        refine jc_ret ?_
        refine jx_blkR ?_
        refine jx_seqR ?_
        exact jx_retF (.inr rfl) (v := bv ((decide (a0 ≥ 65)) && (decide (a0 ≤ 90)))) (by kernel_rfl) rfl (fle_refl _)
      · intro _
        refine jc_seq ?_
        refine jc_reg ?_
        refine jr_seg 0 2 [0, 5, 6, 7, 8, 33, 43] [] (st1 := ⟨[(0, .av (.s (.int .u8 a0))), (5, .av (bv ((decide (a0 ≥ 48)) && (decide (a0 ≤ 57))))), (6, .av (bv ((decide (a0 ≥ 97)) && (decide (a0 ≤ 122))))), (7, .av (bv ((decide (a0 ≥ 65)) && (decide (a0 ≤ 90))))), (8, .av (bv ((a0 == 32) || (a0 == 9)))), (33, .av (iv a1)), (43, .av (bv (a1 == 4)))], [], 0⟩) (by kernel_rfl) ?_
        refine jr_nil rfl ?_
        refine jx_seqN ?_
        refine jc_cond (g := 43) (c := (a1 == 4)) (by kernel_rfl) ?_ ?_
        · intro _
          refine jc_seq ?_
          refine jc_reg ?_
          refine jr_seg 0 5 [4] [] (st1 := ⟨[(4, .av (bv (((decide (a0 ≥ 97)) && (decide (a0 ≤ 122))) || ((decide (a0 ≥ 65)) && (decide (a0 ≤ 90))))))], [], 0⟩) (by kernel_rfl) ?_
          refine jr_nil rfl ?_
          refine jx_seqN ?_
          refine jc_ret ?_
          refine jx_blkR ?_
          refine jx_seqR ?_
          exact jx_retF (.inr rfl) (v := bv (((decide (a0 ≥ 97)) && (decide (a0 ≤ 122))) || ((decide (a0 ≥ 65)) && (decide (a0 ≤ 90))))) (by kernel_rfl) rfl (fle_refl _)
        · intro _
          refine jc_seq ?_
          refine jc_reg ?_
          refine jr_seg 0 2 [0, 5, 6, 7, 8, 33, 49] [] (st1 := ⟨[(0, .av (.s (.int .u8 a0))), (5, .av (bv ((decide (a0 ≥ 48)) && (decide (a0 ≤ 57))))), (6, .av (bv ((decide (a0 ≥ 97)) && (decide (a0 ≤ 122))))), (7, .av (bv ((decide (a0 ≥ 65)) && (decide (a0 ≤ 90))))), (8, .av (bv ((a0 == 32) || (a0 == 9)))), (33, .av (iv a1)), (49, .av (bv (a1 == 5)))], [], 0⟩) (by kernel_rfl) ?_
          refine jr_nil rfl ?_
          refine jx_seqN ?_
          refine jc_cond (g := 49) (c := (a1 == 5)) (by kernel_rfl) ?_ ?_
          · intro _
            refine jc_seq ?_
            refine jc_reg ?_
            refine jr_seg 0 8 [4] [] (st1 := ⟨[(4, .av (bv ((((decide (a0 ≥ 48)) && (decide (a0 ≤ 57))) || ((decide (a0 ≥ 97)) && (decide (a0 ≤ 122)))) || ((decide (a0 ≥ 65)) && (decide (a0 ≤ 90))))))], [], 0⟩) (by kernel_rfl) ?_
            refine jr_nil rfl ?_
            refine jx_seqN ?_
            refine jc_ret ?_
            refine jx_blkR ?_
            refine jx_seqR ?_
            exact jx_retF (.inr rfl) (v := bv ((((decide (a0 ≥ 48)) && (decide (a0 ≤ 57))) || ((decide (a0 ≥ 97)) && (decide (a0 ≤ 122)))) || ((decide (a0 ≥ 65)) && (decide (a0 ≤ 90))))) (by kernel_rfl) rfl (fle_refl _)
          · intro _
            refine jc_seq ?_
            refine jc_reg ?_
            refine jr_seg 0 2 [0, 8, 33, 58] [] (st1 := ⟨[(0, .av (.s (.int .u8 a0))), (8, .av (bv ((a0 == 32) || (a0 == 9)))), (33, .av (iv a1)), (58, .av (bv (a1 == 6)))], [], 0⟩) (by kernel_rfl) ?_
            refine jr_nil rfl ?_
            refine jx_seqN ?_
            refine jc_cond (g := 58) (c := (a1 == 6)) (by kernel_rfl) ?_ ?_
            · intro _
              refine jc_seq ?_
              refine jc_reg ?_
              refine jr_seg 0 2 [4] [] (st1 := ⟨[(4, .av (bv ((a0 == 32) || (a0 == 9))))], [], 0⟩) (by kernel_rfl) ?_
              refine jr_nil rfl ?_
              refine jx_seqN ?_
              refine jc_ret ?_
              refine jx_blkR ?_
              refine jx_seqR ?_
              exact jx_retF (.inr rfl) (v := bv ((a0 == 32) || (a0 == 9))) (by kernel_rfl) rfl (fle_refl _)
            · intro _
              refine jc_seq ?_
              refine jc_reg ?_
              refine jr_seg 0 2 [0, 8, 61] [] (st1 := ⟨[(0, .av (.s (.int .u8 a0))), (8, .av (bv ((a0 == 32) || (a0 == 9)))), (61, .av (bv (a1 == 7)))], [], 0⟩) (by kernel_rfl) ?_
              refine jr_nil rfl ?_
              refine jx_seqN ?_
              refine jc_cond (g := 61) (c := (a1 == 7)) (by kernel_rfl) ?_ ?_
              · intro _
                refine jc_seq ?_
                refine jc_reg ?_
                refine jr_seg 0 10 [4] [] (st1 := ⟨[(4, .av (bv ((((a0 == 32) || (a0 == 9)) || (a0 == 10)) || (a0 == 13))))], [], 0⟩) (by kernel_rfl) ?_
                refine jr_nil rfl ?_
                refine jx_seqN ?_
                refine jc_ret ?_
                refine jx_blkR ?_
                refine jx_seqR ?_
                exact jx_retF (.inr rfl) (v := bv ((((a0 == 32) || (a0 == 9)) || (a0 == 10)) || (a0 == 13))) (by kernel_rfl) rfl (fle_refl _)
              · intro _
                refine jc_skip ?_
                refine jx_blkN ?_
                refine jx_seqN ?_
                refine jc_seq ?_
                refine jc_reg ?_
                refine jr_seg 0 1 [4] [] (st1 := ⟨[(4, .av (bv false))], [], 0⟩) (by kernel_rfl) ?_
                refine jr_nil rfl ?_
                refine jx_seqN ?_
                refine jc_ret ?_
                exact jx_retF (.inr rfl) (v := bv false) (by kernel_rfl) rfl (fle_refl _))
end Go.Vm

set_option maxRecDepth 100000
set_option maxHeartbeats 0
set_option linter.unusedVariables false
set_option linter.unusedSimpArgs false
namespace Go.Vm
open Go
abbrev scan_Run_r1 : List LO := [⟨some 6, Op.assign (Operand.const (Value.int IntKind.i64 0)), 3, none⟩]
abbrev scan_Run_b2 : LC := .reg false scan_Run_r1
abbrev scan_Run_r3 : List LO := [⟨some 8, Op.move (Operand.tmp 1), 3, none⟩,
  ⟨some 9, Op.binOp BinOp.lss 3 (Operand.tmp 8) (Operand.const (Value.int IntKind.i64 0)) 3, 4, none⟩,
  ⟨some 10, Op.move (Operand.tmp 9), 4, none⟩,
  ⟨some 11, Op.move (Operand.tmp 1), 3, (some (10, false))⟩,
  ⟨some 12, Op.move (Operand.tmp 0), 9, (some (10, false))⟩,
  ⟨some 13, Op.call { callee := Callee.builtin Builtin.len, args := #[Operand.tmp 12], argTypes := #[9] }, 3, (some (10, false))⟩,
  ⟨some 14, Op.binOp BinOp.gtr 3 (Operand.tmp 11) (Operand.tmp 13) 3, 4, (some (10, false))⟩,
  ⟨some 15, Op.pick (Operand.tmp 10) (Operand.const (Value.bool true)) (Operand.tmp 14), 4, none⟩]
abbrev scan_Run_b4 : LC := .reg false scan_Run_r3
abbrev scan_Run_r5 : List LO := [⟨some 16, Op.move (Operand.tmp 1), 3, none⟩,
  ⟨some 6, Op.assign (Operand.tmp 16), 3, none⟩]
abbrev scan_Run_b6 : LC := .reg false scan_Run_r5
abbrev scan_Run_b7 : LC := .seq scan_Run_b6 .ret
abbrev scan_Run_b8 : LC := .cond (Operand.tmp 15) scan_Run_b7 .skip
abbrev scan_Run_b9 : LC := .seq scan_Run_b4 scan_Run_b8
abbrev scan_Run_r10 : List LO := [⟨some 17, Op.move (Operand.tmp 0), 9, none⟩,
  ⟨some 18, Op.call { callee := Callee.builtin Builtin.len, args := #[Operand.tmp 17], argTypes := #[9] }, 3, none⟩,
  ⟨some 19, Op.move (Operand.tmp 1), 3, none⟩,
  ⟨some 20, Op.binOp BinOp.sub 3 (Operand.tmp 18) (Operand.tmp 19) 3, 3, none⟩,
  ⟨some 21, Op.move (Operand.const (Value.int IntKind.i64 0)), 3, none⟩]
abbrev scan_Run_b11 : LC := .reg false scan_Run_r10
abbrev scan_Run_r12 : List LO := [⟨some 22, Op.binOp BinOp.lss 3 (Operand.tmp 21) (Operand.tmp 20) 3, 4, none⟩]
abbrev scan_Run_b13 : LC := .reg false scan_Run_r12
abbrev scan_Run_b14 : LC := .cond (Operand.tmp 22) .skip (.exit 0)
abbrev scan_Run_r15 : List LO := [⟨some 23, Op.move (Operand.tmp 21), 3, none⟩,
  ⟨some 7, Op.assign (Operand.tmp 23), 3, none⟩]
abbrev scan_Run_b16 : LC := .reg false scan_Run_r15
abbrev scan_Run_r17 : List LO := [⟨some 24, Op.move (Operand.tmp 0), 9, none⟩,
  ⟨some 25, Op.move (Operand.tmp 1), 3, none⟩,
  ⟨some 26, Op.move (Operand.tmp 7), 3, none⟩,
  ⟨some 27, Op.binOp BinOp.add 3 (Operand.tmp 25) (Operand.tmp 26) 3, 3, none⟩,
  ⟨some 28, Op.index 9 (Operand.tmp 24) (Operand.tmp 27), 5, none⟩,
  ⟨some 29, Op.move (Operand.tmp 2), 3, none⟩,
  ⟨some 30, Op.call { callee := Callee.value (Operand.func 26), args := #[Operand.tmp 28, Operand.tmp 29], argTypes := #[5, 3] }, 4, none⟩,
  ⟨some 31, Op.unOp UnOp.not 4 (Operand.tmp 30), 4, none⟩]
abbrev scan_Run_b18 : LC := .reg false scan_Run_r17
abbrev scan_Run_r19 : List LO := [⟨some 32, Op.move (Operand.tmp 1), 3, none⟩,
  ⟨some 33, Op.move (Operand.tmp 7), 3, none⟩,
  ⟨some 34, Op.binOp BinOp.add 3 (Operand.tmp 32) (Operand.tmp 33) 3, 3, none⟩,
  ⟨some 6, Op.assign (Operand.tmp 34), 3, none⟩]
abbrev scan_Run_b20 : LC := .reg false scan_Run_r19
abbrev scan_Run_b21 : LC := .seq scan_Run_b20 .ret
abbrev scan_Run_b22 : LC := .cond (Operand.tmp 31) scan_Run_b21 .skip
abbrev scan_Run_b23 : LC := .seq scan_Run_b18 scan_Run_b22
abbrev scan_Run_b24 : LC := .seq scan_Run_b16 scan_Run_b23
abbrev scan_Run_b25 : LC := .block 1 scan_Run_b24
abbrev scan_Run_r26 : List LO := [⟨some 35, Op.binOp BinOp.add 3 (Operand.tmp 21) (Operand.const (Value.int IntKind.i64 1)) 3, 3, none⟩,
  ⟨some 21, Op.move (Operand.tmp 35), 3, none⟩]
abbrev scan_Run_b27 : LC := .reg false scan_Run_r26
abbrev scan_Run_b28 : LC := .seq scan_Run_b25 scan_Run_b27
abbrev scan_Run_b29 : LC := .seq scan_Run_b14 scan_Run_b28
abbrev scan_Run_b30 : LC := .seq scan_Run_b13 scan_Run_b29
abbrev scan_Run_b31 : LC := .loop scan_Run_b30
abbrev scan_Run_b32 : LC := .block 0 scan_Run_b31
abbrev scan_Run_b33 : LC := .seq scan_Run_b11 scan_Run_b32
abbrev scan_Run_r34 : List LO := [⟨some 36, Op.move (Operand.tmp 0), 9, none⟩,
  ⟨some 37, Op.call { callee := Callee.builtin Builtin.len, args := #[Operand.tmp 36], argTypes := #[9] }, 3, none⟩,
  ⟨some 6, Op.assign (Operand.tmp 37), 3, none⟩]
abbrev scan_Run_b35 : LC := .reg false scan_Run_r34
abbrev scan_Run_b36 : LC := .seq scan_Run_b35 .ret
abbrev scan_Run_b37 : LC := .seq scan_Run_b33 scan_Run_b36
abbrev scan_Run_b38 : LC := .seq scan_Run_b9 scan_Run_b37
abbrev scan_Run_b39 : LC := .seq scan_Run_b2 scan_Run_b38
theorem scan_Run_k : FnOk E 30 38 [.tmp 6] scan_Run_b39 := ⟨⟨Go.Proofs.Tryd.f30, by kernel_rfl, by kernel_rfl, by kernel_rfl, by kernel_rfl, by kernel_rfl⟩, rfl⟩
noncomputable def scan_Run_l1 (a0 : Str) (a1 : Int) (a2 : Int) : Int → Option (Step (Int) ((Int) ⊕ (Unit))) := fun x3 => (if (decide (x3 < (w64 ((List.length a0 : Int) - a1)))) = true then Option.bind (idx a0 (w64 (a1 + x3))) (fun x8 => Option.bind (scan_Is x8 a2) (fun x9 => (if (!x9) = true then some (Step.done (Sum.inl (w64 (a1 + x3)))) else some (Step.next (w64 (x3 + 1)))))) else some (Step.done (Sum.inr ())))
noncomputable def scan_Run (a0 : Str) (a1 : Int) (a2 : Int) : Option (Int) := (if ((decide (a1 < 0)) || (decide (a1 > (List.length a0 : Int)))) = true then some a1 else Option.bind (loopC (scan_Run_l1 a0 a1 a2) 0) (fun y => match y with | Sum.inl x7 => some x7 | Sum.inr _ => some (List.length a0 : Int)))
theorem scan_Run_ok (a0 : Str) (a1 : Int) (a2 : Int) : Ct E 30 [bs a0, iv a1, iv a2] (scan_Run a0 a1 a2) (fun r : Int => iv r) := ct_intro (N := 38) (L := scan_Run_b39) scan_Run_k rfl (Nat.le_of_ble_eq_true rfl) (by kernel_rfl) (by
  unfold scan_Run
  refine jc_seq ?_
  refine jc_reg ?_
  refine jr_seg 0 1 [0, 1, 2] [] (st1 := ⟨[(0, .av (bs a0)), (1, .av (iv a1)), (2, .av (iv a2))], [], 0⟩) (by kernel_rfl) ?_
  refine jr_nil rfl ?_
  refine jx_seqN ?_
  refine jc_seq ?_
  refine jc_seq ?_
  refine jc_reg ?_
  refine jr_seg 0 8 [0, 1, 2, 15] [] (st1 := ⟨[(0, .av (bs a0)), (1, .av (iv a1)), (2, .av (iv a2)), (15, .av (bv ((decide (a1 < 0)) || (decide (a1 > (List.length a0 : Int))))))], [], 0⟩) (by kernel_rfl) ?_
  refine jr_nil rfl ?_
  refine jx_seqN ?_
  refine jc_cond (g := 15) (c := ((decide (a1 < 0)) || (decide (a1 > (List.length a0 : Int))))) (by kernel_rfl) ?_ ?_
  · intro _
    refine jc_seq ?_
    refine jc_reg ?_
    refine jr_seg 0 2 [6] [] (st1 := ⟨[(6, .av (iv a1))], [], 0⟩) (by kernel_rfl) ?_
    refine jr_nil rfl ?_
    refine jx_seqN ?_
    refine jc_ret ?_
    refine jx_seqR ?_
    exact jx_retF (.inr rfl) (v := iv a1) (by kernel_rfl) rfl (fle_refl _)
  · intro _
    refine jc_skip ?_
    refine jx_seqN ?_
    refine jc_seq ?_
    refine jc_seq ?_
    refine jc_reg ?_
    refine jr_seg 0 5 [0, 1, 2, 20, 21] [] (st1 := ⟨[(0, .av (bs a0)), (1, .av (iv a1)), (2, .av (iv a2)), (20, .av (iv (w64 ((List.length a0 : Int) - a1)))), (21, .av (iv 0))], [], 0⟩) (by kernel_rfl) ?_
    refine jr_nil rfl ?_
    refine jx_seqN ?_
    refine jc_block ?_
    refine jc_bind (fun y => match y with | Sum.inl x7 => ⟨[(6, .av (iv x7))], [], 0⟩ | Sum.inr _ => ⟨[(0, .av (bs a0))], [], 0⟩) (fun y => match y with | Sum.inl x7 => .ret | Sum.inr _ => (.exit 0)) (jc_loop (fun x3 => ⟨[(0, .av (bs a0)), (1, .av (iv a1)), (2, .av (iv a2)), (20, .av (iv (w64 ((List.length a0 : Int) - a1)))), (21, .av (iv x3))], [], 0⟩) (wk_ren [] (fix_nil _) rfl (by kernel_rfl) allp_nil) ?_) ?_
    · intro x3
      unfold scan_Run_l1
      refine jc_seq ?_
      refine jc_reg ?_
      refine jr_seg 0 1 [0, 1, 2, 20, 21, 22] [] (st1 := ⟨[(0, .av (bs a0)), (1, .av (iv a1)), (2, .av (iv a2)), (20, .av (iv (w64 ((List.length a0 : Int) - a1)))), (21, .av (iv x3)), (22, .av (bv (decide (x3 < (w64 ((List.length a0 : Int) - a1))))))], [], 0⟩) (by kernel_rfl) ?_
      refine jr_nil rfl ?_
      refine jx_seqN ?_
      refine jc_seq ?_
      refine jc_cond (g := 22) (c := (decide (x3 < (w64 ((List.length a0 : Int) - a1))))) (by kernel_rfl) ?_ ?_
      · intro _
        refine jc_skip ?_
        refine jx_seqN ?_
        refine jc_seq ?_
        refine jc_block ?_
        refine jc_seq ?_
        refine jc_reg ?_
        refine jr_seg 0 2 [0, 1, 2, 7, 20, 21] [] (st1 := ⟨[(0, .av (bs a0)), (1, .av (iv a1)), (2, .av (iv a2)), (7, .av (iv x3)), (20, .av (iv (w64 ((List.length a0 : Int) - a1)))), (21, .av (iv x3))], [], 0⟩) (by kernel_rfl) ?_
        refine jr_nil rfl ?_
        refine jx_seqN ?_
        refine jc_seq ?_
        refine jc_reg ?_
        refine jr_seg 0 4 [0, 1, 2, 7, 20, 21, 24, 27] [] (st1 := ⟨[(0, .av (bs a0)), (1, .av (iv a1)), (2, .av (iv a2)), (7, .av (iv x3)), (20, .av (iv (w64 ((List.length a0 : Int) - a1)))), (21, .av (iv x3)), (24, .av (bs a0)), (27, .av (iv (w64 (a1 + x3))))], [], 0⟩) (by kernel_rfl) ?_
        refine jr_part (i := 4) (mo := idx a0 (w64 (a1 + x3))) rfl rfl rfl rfl (fun _ hc => aop_index (kk := .i64) (by kernel_rfl) (by kernel_rfl) (by kernel_rfl) hc) (fun _ => rfl) ?_
        intro x8 h8
        refine jr_seg 5 1 [0, 1, 2, 7, 20, 21, 28, 29] [] (st1 := ⟨[(0, .av (bs a0)), (1, .av (iv a1)), (2, .av (iv a2)), (7, .av (iv x3)), (20, .av (iv (w64 ((List.length a0 : Int) - a1)))), (21, .av (iv x3)), (28, .av (.s (.int .u8 x8))), (29, .av (iv a2))], [], 0⟩) (by kernel_rfl) ?_
        refine jr_callF (i := 6) rfl rfl rfl rfl (vs := [.s (.int .u8 x8), iv a2]) (by kernel_rfl) (snapL_cons rfl (snapL_cons rfl (snapL_nil _))) (all2_cons (fle_refl _) (all2_cons (fle_refl _) all2_nil)) (scan_Is_ok x8 a2) (fun _ => rfl) (fun _ => rfl) ?_
        intro x9 h9
        refine jr_seg 7 1 [0, 1, 2, 7, 20, 21, 31] [] (st1 := ⟨[(0, .av (bs a0)), (1, .av (iv a1)), (2, .av (iv a2)), (7, .av (iv x3)), (20, .av (iv (w64 ((List.length a0 : Int) - a1)))), (21, .av (iv x3)), (31, .av (bv (!x9)))], [], 0⟩) (by kernel_rfl) ?_
        refine jr_nil rfl ?_
        refine jx_seqN ?_
        refine jc_cond (g := 31) (c := (!x9)) (by kernel_rfl) ?_ ?_
        · intro _
          refine jc_seq ?_
          refine jc_reg ?_
          refine jr_seg 0 4 [6] [] (st1 := ⟨[(6, .av (iv (w64 (a1 + x3))))], [], 0⟩) (by kernel_rfl) ?_
          refine jr_nil rfl ?_
          refine jx_seqN ?_
          refine jc_ret ?_
          refine jx_blkR ?_
          refine jx_seqR ?_
          exact jx_done rfl nofun (wk_ren [] (fix_nil _) rfl (by kernel_rfl) allp_nil)
        · intro _
          refine jc_skip ?_
          refine jx_blkN ?_
          refine jx_seqN ?_
          refine jc_reg ?_
          refine jr_seg 0 2 [0, 1, 2, 20, 21] [] (st1 := ⟨[(0, .av (bs a0)), (1, .av (iv a1)), (2, .av (iv a2)), (20, .av (iv (w64 ((List.length a0 : Int) - a1)))), (21, .av (iv (w64 (x3 + 1))))], [], 0⟩) (by kernel_rfl) ?_
          refine jr_nil rfl ?_
          exact jx_next (wk_ren [] (fix_nil _) rfl (by kernel_rfl) allp_nil)
      · intro _
        refine jc_exit ?_
        refine jx_seqE ?_
        exact jx_done rfl nofun (wk_ren [] (fix_nil _) rfl (by kernel_rfl) allp_nil)
    · rintro (x7 | _)
      · refine jx_blkR ?_
        refine jx_seqR ?_
        exact jx_retF (.inr rfl) (v := iv x7) (by kernel_rfl) rfl (fle_refl _)
      · refine jx_blkE ?_
        refine jx_seqN ?_
        refine jc_seq ?_
        refine jc_reg ?_
        refine jr_seg 0 3 [6] [] (st1 := ⟨[(6, .av (iv (List.length a0 : Int)))], [], 0⟩) (by kernel_rfl) ?_
        refine jr_nil rfl ?_
        refine jx_seqN ?_
        refine jc_ret ?_
        exact jx_retF (.inr rfl) (v := iv (List.length a0 : Int)) (by kernel_rfl) rfl (fle_refl _))
end Go.Vm

set_option maxRecDepth 100000
set_option maxHeartbeats 0
set_option linter.unusedVariables false
set_option linter.unusedSimpArgs false
namespace Go.Vm
open Go
abbrev ref01_Is_r1 : List LO := [⟨some 4, Op.assign (Operand.const (Value.bool false)), 4, none⟩]
abbrev ref01_Is_b2 : LC := .reg false ref01_Is_r1
abbrev ref01_Is_r3 : List LO := [⟨some 9, Op.move (Operand.tmp 0), 5, none⟩,
  ⟨some 10, Op.binOp BinOp.geq 5 (Operand.tmp 9) (Operand.const (Value.int IntKind.u8 48)) 5, 4, none⟩,
  ⟨some 11, Op.move (Operand.tmp 10), 4, none⟩,
  ⟨some 12, Op.move (Operand.tmp 0), 5, (some (11, true))⟩,
  ⟨some 13, Op.binOp BinOp.leq 5 (Operand.tmp 12) (Operand.const (Value.int IntKind.u8 57)) 5, 4, (some (11, true))⟩,
  ⟨some 14, Op.pick (Operand.tmp 11) (Operand.tmp 13) (Operand.const (Value.bool false)), 4, none⟩,
  ⟨some 5, Op.assign (Operand.tmp 14), 4, none⟩]
abbrev ref01_Is_b4 : LC := .reg false ref01_Is_r3
abbrev ref01_Is_r5 : List LO := [⟨some 15, Op.move (Operand.tmp 0), 5, none⟩,
  ⟨some 16, Op.binOp BinOp.geq 5 (Operand.tmp 15) (Operand.const (Value.int IntKind.u8 97)) 5, 4, none⟩,
  ⟨some 17, Op.move (Operand.tmp 16), 4, none⟩,
  ⟨some 18, Op.move (Operand.tmp 0), 5, (some (17, true))⟩,
  ⟨some 19, Op.binOp BinOp.leq 5 (Operand.tmp 18) (Operand.const (Value.int IntKind.u8 122)) 5, 4, (some (17, true))⟩,
  ⟨some 20, Op.pick (Operand.tmp 17) (Operand.tmp 19) (Operand.const (Value.bool false)), 4, none⟩,
  ⟨some 6, Op.assign (Operand.tmp 20), 4, none⟩]
abbrev ref01_Is_b6 : LC := .reg false ref01_Is_r5
abbrev ref01_Is_r7 : List LO := [⟨some 21, Op.move (Operand.tmp 0), 5, none⟩,
  ⟨some 22, Op.binOp BinOp.geq 5 (Operand.tmp 21) (Operand.const (Value.int IntKind.u8 65)) 5, 4, none⟩,
  ⟨some 23, Op.move (Operand.tmp 22), 4, none⟩,
  ⟨some 24, Op.move (Operand.tmp 0), 5, (some (23, true))⟩,
  ⟨some 25, Op.binOp BinOp.leq 5 (Operand.tmp 24) (Operand.const (Value.int IntKind.u8 90)) 5, 4, (some (23, true))⟩,
  ⟨some 26, Op.pick (Operand.tmp 23) (Operand.tmp 25) (Operand.const (Value.bool false)), 4, none⟩,
  ⟨some 7, Op.assign (Operand.tmp 26), 4, none⟩]
abbrev ref01_Is_b8 : LC := .reg false ref01_Is_r7
abbrev ref01_Is_r9 : List LO := [⟨some 27, Op.move (Operand.tmp 0), 5, none⟩,
  ⟨some 28, Op.binOp BinOp.eql 5 (Operand.tmp 27) (Operand.const (Value.int IntKind.u8 32)) 5, 4, none⟩,
  ⟨some 29, Op.move (Operand.tmp 28), 4, none⟩,
  ⟨some 30, Op.move (Operand.tmp 0), 5, (some (29, false))⟩,
  ⟨some 31, Op.binOp BinOp.eql 5 (Operand.tmp 30) (Operand.const (Value.int IntKind.u8 9)) 5, 4, (some (29, false))⟩,
  ⟨some 32, Op.pick (Operand.tmp 29) (Operand.const (Value.bool true)) (Operand.tmp 31), 4, none⟩,
  ⟨some 8, Op.assign (Operand.tmp 32), 4, none⟩]
abbrev ref01_Is_b10 : LC := .reg false ref01_Is_r9
abbrev ref01_Is_r11 : List LO := [⟨some 33, Op.move (Operand.tmp 1), 3, none⟩]
abbrev ref01_Is_b12 : LC := .reg false ref01_Is_r11
abbrev ref01_Is_r13 : List LO := [⟨some 35, Op.binOp BinOp.eql 3 (Operand.tmp 33) (Operand.const (Value.int IntKind.i64 1)) 3, 4, none⟩,
  ⟨some 34, Op.assign (Operand.tmp 35), 4, none⟩]
abbrev ref01_Is_b14 : LC := .reg false ref01_Is_r13
abbrev ref01_Is_r15 : List LO := [⟨some 36, Op.move (Operand.tmp 5), 4, none⟩,
  ⟨some 4, Op.assign (Operand.tmp 36), 4, none⟩]
abbrev ref01_Is_b16 : LC := .reg false ref01_Is_r15
abbrev ref01_Is_b17 : LC := .seq ref01_Is_b16 .ret
abbrev ref01_Is_r18 : List LO := [⟨some 38, Op.binOp BinOp.eql 3 (Operand.tmp 33) (Operand.const (Value.int IntKind.i64 2)) 3, 4, none⟩,
  ⟨some 37, Op.assign (Operand.tmp 38), 4, none⟩]
abbrev ref01_Is_b19 : LC := .reg false ref01_Is_r18
abbrev ref01_Is_r20 : List LO := [⟨some 39, Op.move (Operand.tmp 6), 4, none⟩,
  ⟨some 4, Op.assign (Operand.tmp 39), 4, none⟩]
abbrev ref01_Is_b21 : LC := .reg false ref01_Is_r20
abbrev ref01_Is_b22 : LC := .seq ref01_Is_b21 .ret
abbrev ref01_Is_r23 : List LO := [⟨some 41, Op.binOp BinOp.eql 3 (Operand.tmp 33) (Operand.const (Value.int IntKind.i64 3)) 3, 4, none⟩,
  ⟨some 40, Op.assign (Operand.tmp 41), 4, none⟩]
abbrev ref01_Is_b24 : LC := .reg false ref01_Is_r23
abbrev ref01_Is_r25 : List LO := [⟨some 42, Op.move (Operand.tmp 7), 4, none⟩,
  ⟨some 4, Op.assign (Operand.tmp 42), 4, none⟩]
abbrev ref01_Is_b26 : LC := .reg false ref01_Is_r25
abbrev ref01_Is_b27 : LC := .seq ref01_Is_b26 .ret
abbrev ref01_Is_r28 : List LO := [⟨some 44, Op.binOp BinOp.eql 3 (Operand.tmp 33) (Operand.const (Value.int IntKind.i64 4)) 3, 4, none⟩,
  ⟨some 43, Op.assign (Operand.tmp 44), 4, none⟩]
abbrev ref01_Is_b29 : LC := .reg false ref01_Is_r28
abbrev ref01_Is_r30 : List LO := [⟨some 45, Op.move (Operand.tmp 6), 4, none⟩,
  ⟨some 46, Op.move (Operand.tmp 45), 4, none⟩,
  ⟨some 47, Op.move (Operand.tmp 7), 4, (some (46, false))⟩,
  ⟨some 48, Op.pick (Operand.tmp 46) (Operand.const (Value.bool true)) (Operand.tmp 47), 4, none⟩,
  ⟨some 4, Op.assign (Operand.tmp 48), 4, none⟩]
abbrev ref01_Is_b31 : LC := .reg false ref01_Is_r30
abbrev ref01_Is_b32 : LC := .seq ref01_Is_b31 .ret
abbrev ref01_Is_r33 : List LO := [⟨some 50, Op.binOp BinOp.eql 3 (Operand.tmp 33) (Operand.const (Value.int IntKind.i64 5)) 3, 4, none⟩,
  ⟨some 49, Op.assign (Operand.tmp 50), 4, none⟩]
abbrev ref01_Is_b34 : LC := .reg false ref01_Is_r33
abbrev ref01_Is_r35 : List LO := [⟨some 51, Op.move (Operand.tmp 6), 4, none⟩,
  ⟨some 52, Op.move (Operand.tmp 51), 4, none⟩,
  ⟨some 53, Op.move (Operand.tmp 7), 4, (some (52, false))⟩,
  ⟨some 54, Op.pick (Operand.tmp 52) (Operand.const (Value.bool true)) (Operand.tmp 53), 4, none⟩,
  ⟨some 55, Op.move (Operand.tmp 54), 4, none⟩,
  ⟨some 56, Op.move (Operand.tmp 5), 4, (some (55, false))⟩,
  ⟨some 57, Op.pick (Operand.tmp 55) (Operand.const (Value.bool true)) (Operand.tmp 56), 4, none⟩,
  ⟨some 4, Op.assign (Operand.tmp 57), 4, none⟩]
abbrev ref01_Is_b36 : LC := .reg false ref01_Is_r35
abbrev ref01_Is_b37 : LC := .seq ref01_Is_b36 .ret
abbrev ref01_Is_r38 : List LO := [⟨some 59, Op.binOp BinOp.eql 3 (Operand.tmp 33) (Operand.const (Value.int IntKind.i64 6)) 3, 4, none⟩,
  ⟨some 58, Op.assign (Operand.tmp 59), 4, none⟩]
abbrev ref01_Is_b39 : LC := .reg false ref01_Is_r38
abbrev ref01_Is_r40 : List LO := [⟨some 60, Op.move (Operand.tmp 8), 4, none⟩,
  ⟨some 4, Op.assign (Operand.tmp 60), 4, none⟩]
abbrev ref01_Is_b41 : LC := .reg false ref01_Is_r40
abbrev ref01_Is_b42 : LC := .seq ref01_Is_b41 .ret
abbrev ref01_Is_r43 : List LO := [⟨some 62, Op.binOp BinOp.eql 3 (Operand.tmp 33) (Operand.const (Value.int IntKind.i64 7)) 3, 4, none⟩,
  ⟨some 61, Op.assign (Operand.tmp 62), 4, none⟩]
abbrev ref01_Is_b44 : LC := .reg false ref01_Is_r43
abbrev ref01_Is_r45 : List LO := [⟨some 63, Op.move (Operand.tmp 8), 4, none⟩,
  ⟨some 64, Op.move (Operand.tmp 63), 4, none⟩,
  ⟨some 65, Op.move (Operand.tmp 0), 5, (some (64, false))⟩,
  ⟨some 66, Op.binOp BinOp.eql 5 (Operand.tmp 65) (Operand.const (Value.int IntKind.u8 10)) 5, 4, (some (64, false))⟩,
  ⟨some 67, Op.pick (Operand.tmp 64) (Operand.const (Value.bool true)) (Operand.tmp 66), 4, none⟩,
  ⟨some 68, Op.move (Operand.tmp 67), 4, none⟩,
  ⟨some 69, Op.move (Operand.tmp 0), 5, (some (68, false))⟩,
  ⟨some 70, Op.binOp BinOp.eql 5 (Operand.tmp 69) (Operand.const (Value.int IntKind.u8 13)) 5, 4, (some (68, false))⟩,
  ⟨some 71, Op.pick (Operand.tmp 68) (Operand.const (Value.bool true)) (Operand.tmp 70), 4, none⟩,
  ⟨some 4, Op.assign (Operand.tmp 71), 4, none⟩]
abbrev ref01_Is_b46 : LC := .reg false ref01_Is_r45
abbrev ref01_Is_b47 : LC := .seq ref01_Is_b46 .ret
abbrev ref01_Is_b48 : LC := .cond (Operand.tmp 61) ref01_Is_b47 .skip
abbrev ref01_Is_b49 : LC := .seq ref01_Is_b44 ref01_Is_b48
abbrev ref01_Is_b50 : LC := .cond (Operand.tmp 58) ref01_Is_b42 ref01_Is_b49
abbrev ref01_Is_b51 : LC := .seq ref01_Is_b39 ref01_Is_b50
abbrev ref01_Is_b52 : LC := .cond (Operand.tmp 49) ref01_Is_b37 ref01_Is_b51
abbrev ref01_Is_b53 : LC := .seq ref01_Is_b34 ref01_Is_b52
abbrev ref01_Is_b54 : LC := .cond (Operand.tmp 43) ref01_Is_b32 ref01_Is_b53
abbrev ref01_Is_b55 : LC := .seq ref01_Is_b29 ref01_Is_b54
abbrev ref01_Is_b56 : LC := .cond (Operand.tmp 40) ref01_Is_b27 ref01_Is_b55
abbrev ref01_Is_b57 : LC := .seq ref01_Is_b24 ref01_Is_b56
abbrev ref01_Is_b58 : LC := .cond (Operand.tmp 37) ref01_Is_b22 ref01_Is_b57
abbrev ref01_Is_b59 : LC := .seq ref01_Is_b19 ref01_Is_b58
abbrev ref01_Is_b60 : LC := .cond (Operand.tmp 34) ref01_Is_b17 ref01_Is_b59
abbrev ref01_Is_b61 : LC := .seq ref01_Is_b14 ref01_Is_b60
abbrev ref01_Is_b62 : LC := .block 0 ref01_Is_b61
abbrev ref01_Is_b63 : LC := .seq ref01_Is_b12 ref01_Is_b62
abbrev ref01_Is_r64 : List LO := [⟨some 4, Op.assign (Operand.const (Value.bool false)), 4, none⟩]
abbrev ref01_Is_b65 : LC := .reg false ref01_Is_r64
abbrev ref01_Is_b66 : LC := .seq ref01_Is_b65 .ret
abbrev ref01_Is_b67 : LC := .seq ref01_Is_b63 ref01_Is_b66
abbrev ref01_Is_b68 : LC := .seq ref01_Is_b10 ref01_Is_b67
abbrev ref01_Is_b69 : LC := .seq ref01_Is_b8 ref01_Is_b68
abbrev ref01_Is_b70 : LC := .seq ref01_Is_b6 ref01_Is_b69
abbrev ref01_Is_b71 : LC := .seq ref01_Is_b4 ref01_Is_b70
abbrev ref01_Is_b72 : LC := .seq ref01_Is_b2 ref01_Is_b71
theorem ref01_Is_k : FnOk E 27 72 [.tmp 4] ref01_Is_b72 := ⟨⟨Go.Proofs.Tryd.f27, by kernel_rfl, by kernel_rfl, by kernel_rfl, by kernel_rfl, by kernel_rfl⟩, rfl⟩
noncomputable def ref01_Is (a0 : Int) (a1 : Int) : Option (Bool) := (if (a1 == 1) = true then some ((decide (a0 ≥ 48)) && (decide (a0 ≤ 57))) else (if (a1 == 2) = true then some ((decide (a0 ≥ 97)) && (decide (a0 ≤ 122))) else (if (a1 == 3) = true then some ((decide (a0 ≥ 65)) && (decide (a0 ≤ 90))) else (if (a1 == 4) = true then some (((decide (a0 ≥ 97)) && (decide (a0 ≤ 122))) || ((decide (a0 ≥ 65)) && (decide (a0 ≤ 90)))) else (if (a1 == 5) = true then some ((((decide (a0 ≥ 97)) && (decide (a0 ≤ 122))) || ((decide (a0 ≥ 65)) && (decide (a0 ≤ 90)))) || ((decide (a0 ≥ 48)) && (decide (a0 ≤ 57)))) else (if (a1 == 6) = true then some ((a0 == 32) || (a0 == 9)) else (if (a1 == 7) = true then some ((((a0 == 32) || (a0 == 9)) || (a0 == 10)) || (a0 == 13)) else some false)))))))
theorem ref01_Is_ok (a0 : Int) (a1 : Int) : Ct E 27 [.s (.int .u8 a0), iv a1] (ref01_Is a0 a1) (fun r : Bool => bv r) := ct_intro (N := 72) (L := ref01_Is_b72) ref01_Is_k rfl (Nat.le_of_ble_eq_true rfl) (by kernel_rfl) (by
  unfold ref01_Is
  refine jc_seq ?_
  refine jc_reg ?_
  refine jr_seg 0 1 [0, 1] [] (st1 := ⟨[(0, .av (.s (.int .u8 a0))), (1, .av (iv a1))], [], 0⟩) (by kernel_rfl) ?_
  refine jr_nil rfl ?_
  refine jx_seqN ?_
  refine jc_seq ?_
  refine jc_reg ?_
  refine jr_seg 0 7 [0, 1, 5] [] (st1 := ⟨[(0, .av (.s (.int .u8 a0))), (1, .av (iv a1)), (5, .av (bv ((decide (a0 ≥ 48)) && (decide (a0 ≤ 57)))))], [], 0⟩) (by kernel_rfl) ?_
  refine jr_nil rfl ?_
  refine jx_seqN ?_
  refine jc_seq ?_
  refine jc_reg ?_
  refine jr_seg 0 7 [0, 1, 5, 6] [] (st1 := ⟨[(0, .av (.s (.int .u8 a0))), (1, .av (iv a1)), (5, .av (bv ((decide (a0 ≥ 48)) && (decide (a0 ≤ 57))))), (6, .av (bv ((decide (a0 ≥ 97)) && (decide (a0 ≤ 122)))))], [], 0⟩) (by kernel_rfl) ?_
  refine jr_nil rfl ?_
  refine jx_seqN ?_
  refine jc_seq ?_
  refine jc_reg ?_
  refine jr_seg 0 7 [0, 1, 5, 6, 7] [] (st1 := ⟨[(0, .av (.s (.int .u8 a0))), (1, .av (iv a1)), (5, .av (bv ((decide (a0 ≥ 48)) && (decide (a0 ≤ 57))))), (6, .av (bv ((decide (a0 ≥ 97)) && (decide (a0 ≤ 122))))), (7, .av (bv ((decide (a0 ≥ 65)) && (decide (a0 ≤ 90)))))], [], 0⟩) (by kernel_rfl) ?_
  refine jr_nil rfl ?_
  refine jx_seqN ?_
  refine jc_seq ?_
  refine jc_reg ?_
  refine jr_seg 0 7 [0, 1, 5, 6, 7, 8] [] (st1 := ⟨[(0, .av (.s (.int .u8 a0))), (1, .av (iv a1)), (5, .av (bv ((decide (a0 ≥ 48)) && (decide (a0 ≤ 57))))), (6, .av (bv ((decide (a0 ≥ 97)) && (decide (a0 ≤ 122))))), (7, .av (bv ((decide (a0 ≥ 65)) && (decide (a0 ≤ 90))))), (8, .av (bv ((a0 == 32) || (a0 == 9))))], [], 0⟩) (by kernel_rfl) ?_
  refine jr_nil rfl ?_
  refine jx_seqN ?_
  refine jc_seq ?_
  refine jc_seq ?_
  refine jc_reg ?_
  refine jr_seg 0 1 [0, 5, 6, 7, 8, 33] [] (st1 := ⟨[(0, .av (.s (.int .u8 a0))), (5, .av (bv ((decide (a0 ≥ 48)) && (decide (a0 ≤ 57))))), (6, .av (bv ((decide (a0 ≥ 97)) && (decide (a0 ≤ 122))))), (7, .av (bv ((decide (a0 ≥ 65)) && (decide (a0 ≤ 90))))), (8, .av (bv ((a0 == 32) || (a0 == 9)))), (33, .av (iv a1))], [], 0⟩) (by kernel_rfl) ?_
  refine jr_nil rfl ?_
  refine jx_seqN ?_
  refine jc_block ?_
  refine jc_seq ?_
  refine jc_reg ?_
  refine jr_seg 0 2 [0, 5, 6, 7, 8, 33, 34] [] (st1 := ⟨[(0, .av (.s (.int .u8 a0))), (5, .av (bv ((decide (a0 ≥ 48)) && (decide (a0 ≤ 57))))), (6, .av (bv ((decide (a0 ≥ 97)) && (decide (a0 ≤ 122))))), (7, .av (bv ((decide (a0 ≥ 65)) && (decide (a0 ≤ 90))))), (8, .av (bv ((a0 == 32) || (a0 == 9)))), (33, .av (iv a1)), (34, .av (bv (a1 == 1)))], [], 0⟩) (by kernel_rfl) ?_
  refine jr_nil rfl ?_
  refine jx_seqN ?_
  refine jc_cond (g := 34) (c := (a1 == 1)) (by kernel_rfl) ?_ ?_
  · intro _
    refine jc_seq ?_
    refine jc_reg ?_
    refine jr_seg 0 2 [4] [] (st1 := ⟨[(4, .av (bv ((decide (a0 ≥ 48)) && (decide (a0 ≤ 57)))))], [], 0⟩) (by kernel_rfl) ?_
    refine jr_nil rfl ?_
    refine jx_seqN ?_
    refine jc_ret ?_
    refine jx_blkR ?_
    refine jx_seqR ?_
    exact jx_retF (.inr rfl) (v := bv ((decide (a0 ≥ 48)) && (decide (a0 ≤ 57)))) (by kernel_rfl) rfl (fle_refl _)
  · intro _
    refine jc_seq ?_
    refine jc_reg ?_
    refine jr_seg 0 2 [0, 5, 6, 7, 8, 33, 37] [] (st1 := ⟨[(0, .av (.s (.int .u8 a0))), (5, .av (bv ((decide (a0 ≥ 48)) && (decide (a0 ≤ 57))))), (6, .av (bv ((decide (a0 ≥ 97)) && (decide (a0 ≤ 122))))), (7, .av (bv ((decide (a0 ≥ 65)) && (decide (a0 ≤ 90))))), (8, .av (bv ((a0 == 32) || (a0 == 9)))), (33, .av (iv a1)), (37, .av (bv (a1 == 2)))], [], 0⟩) (by kernel_rfl) ?_
    refine jr_nil rfl ?_
    refine jx_seqN ?_
    refine jc_cond (g := 37) (c := (a1 == 2)) (by kernel_rfl) ?_ ?_
    · intro _
      refine jc_seq ?_
      refine jc_reg ?_
      refine jr_seg 0 2 [4] [] (st1 := ⟨[(4, .av (bv ((decide (a0 ≥ 97)) && (decide (a0 ≤ 122)))))], [], 0⟩) (by kernel_rfl) ?_
      refine jr_nil rfl ?_
      refine jx_seqN ?_
      refine jc_ret ?_
      refine jx_blkR ?_
      refine jx_seqR ?_
      exact jx_retF (.inr rfl) (v := bv ((decide (a0 ≥ 97)) && (decide (a0 ≤ 122)))) (by kernel_rfl) rfl (fle_refl _)
    · intro _
      refine jc_seq ?_
      refine jc_reg ?_
      refine jr_seg 0 2 [0, 5, 6, 7, 8, 33, 40] [] (st1 := ⟨[(0, .av (.s (.int .u8 a0))), (5, .av (bv ((decide (a0 ≥ 48)) && (decide (a0 ≤ 57))))), (6, .av (bv ((decide (a0 ≥ 97)) && (decide (a0 ≤ 122))))), (7, .av (bv ((decide (a0 ≥ 65)) && (decide (a0 ≤ 90))))), (8, .av (bv ((a0 == 32) || (a0 == 9)))), (33, .av (iv a1)), (40, .av (bv (a1 == 3)))], [], 0⟩) (by kernel_rfl) ?_
      refine jr_nil rfl ?_
      refine jx_seqN ?_
      refine jc_cond (g := 40) (c := (a1 == 3)) (by kernel_rfl) ?_ ?_
      · intro _
        refine jc_seq ?_
        refine jc_reg ?_
        refine jr_seg 0 2 [4] [] (st1 := ⟨[(4, .av (bv ((decide (a0 ≥ 65)) && (decide (a0 ≤ 90)))))], [], 0⟩) (by kernel_rfl) ?_
        refine jr_nil rfl ?_
        refine jx_seqN ?_
        refine jc_ret ?_
        refine jx_blkR ?_
        refine jx_seqR ?_
        exact jx_retF (.inr rfl) (v := bv ((decide (a0 ≥ 65)) && (decide (a0 ≤ 90)))) (by kernel_rfl) rfl (fle_refl _)
      · intro _
        refine jc_seq ?_
        refine jc_reg ?_
        refine jr_seg 0 2 [0, 5, 6, 7, 8, 33, 43] [] (st1 := ⟨[(0, .av (.s (.int .u8 a0))), (5, .av (bv ((decide (a0 ≥ 48)) && (decide (a0 ≤ 57))))), (6, .av (bv ((decide (a0 ≥ 97)) && (decide (a0 ≤ 122))))), (7, .av (bv ((decide (a0 ≥ 65)) && (decide (a0 ≤ 90))))), (8, .av (bv ((a0 == 32) || (a0 == 9)))), (33, .av (iv a1)), (43, .av (bv (a1 == 4)))], [], 0⟩) (by kernel_rfl) ?_
        refine jr_nil rfl ?_
        refine jx_seqN ?_
        refine jc_cond (g := 43) (c := (a1 == 4)) (by kernel_rfl) ?_ ?_
        · intro _
          refine jc_seq ?_
          refine jc_reg ?_
          refine jr_seg 0 5 [4] [] (st1 := ⟨[(4, .av (bv (((decide (a0 ≥ 97)) && (decide (a0 ≤ 122))) || ((decide (a0 ≥ 65)) && (decide (a0 ≤ 90))))))], [], 0⟩) (by kernel_rfl) ?_
          refine jr_nil rfl ?_
          refine jx_seqN ?_
          refine jc_ret ?_
          refine jx_blkR ?_
          refine jx_seqR ?_
          exact jx_retF (.inr rfl) (v := bv (((decide (a0 ≥ 97)) && (decide (a0 ≤ 122))) || ((decide (a0 ≥ 65)) && (decide (a0 ≤ 90))))) (by kernel_rfl) rfl (fle_refl _)
        · intro _
          refine jc_seq ?_
          refine jc_reg ?_
          refine jr_seg 0 2 [0, 5, 6, 7, 8, 33, 49] [] (st1 := ⟨[(0, .av (.s (.int .u8 a0))), (5, .av (bv ((decide (a0 ≥ 48)) && (decide (a0 ≤ 57))))), (6, .av (bv ((decide (a0 ≥ 97)) && (decide (a0 ≤ 122))))), (7, .av (bv ((decide (a0 ≥ 65)) && (decide (a0 ≤ 90))))), (8, .av (bv ((a0 == 32) || (a0 == 9)))), (33, .av (iv a1)), (49, .av (bv (a1 == 5)))], [], 0⟩) (by kernel_rfl) ?_
          refine jr_nil rfl ?_
          refine jx_seqN ?_
          refine jc_cond (g := 49) (c := (a1 == 5)) (by kernel_rfl) ?_ ?_
          · intro _
            refine jc_seq ?_
            refine jc_reg ?_
            refine jr_seg 0 8 [4] [] (st1 := ⟨[(4, .av (bv ((((decide (a0 ≥ 97)) && (decide (a0 ≤ 122))) || ((decide (a0 ≥ 65)) && (decide (a0 ≤ 90)))) || ((decide (a0 ≥ 48)) && (decide (a0 ≤ 57))))))], [], 0⟩) (by kernel_rfl) ?_
            refine jr_nil rfl ?_
            refine jx_seqN ?_
            refine jc_ret ?_
            refine jx_blkR ?_
            refine jx_seqR ?_
            exact jx_retF (.inr rfl) (v := bv ((((decide (a0 ≥ 97)) && (decide (a0 ≤ 122))) || ((decide (a0 ≥ 65)) && (decide (a0 ≤ 90)))) || ((decide (a0 ≥ 48)) && (decide (a0 ≤ 57))))) (by kernel_rfl) rfl (fle_refl _)
          · intro _
            refine jc_seq ?_
            refine jc_reg ?_
            refine jr_seg 0 2 [0, 8, 33, 58] [] (st1 := ⟨[(0, .av (.s (.int .u8 a0))), (8, .av (bv ((a0 == 32) || (a0 == 9)))), (33, .av (iv a1)), (58, .av (bv (a1 == 6)))], [], 0⟩) (by kernel_rfl) ?_
            refine jr_nil rfl ?_
            refine jx_seqN ?_
            refine jc_cond (g := 58) (c := (a1 == 6)) (by kernel_rfl) ?_ ?_
            · intro _
              refine jc_seq ?_
              refine jc_reg ?_
              refine jr_seg 0 2 [4] [] (st1 := ⟨[(4, .av (bv ((a0 == 32) || (a0 == 9))))], [], 0⟩) (by kernel_rfl) ?_
              refine jr_nil rfl ?_
              refine jx_seqN ?_
              refine jc_ret ?_
              refine jx_blkR ?_
              refine jx_seqR ?_
              exact jx_retF (.inr rfl) (v := bv ((a0 == 32) || (a0 == 9))) (by kernel_rfl) rfl (fle_refl _)
            · intro _
              refine jc_seq ?_
              refine jc_reg ?_
              refine jr_seg 0 2 [0, 8, 61] [] (st1 := ⟨[(0, .av (.s (.int .u8 a0))), (8, .av (bv ((a0 == 32) || (a0 == 9)))), (61, .av (bv (a1 == 7)))], [], 0⟩) (by kernel_rfl) ?_
              refine jr_nil rfl ?_
              refine jx_seqN ?_
              refine jc_cond (g := 61) (c := (a1 == 7)) (by kernel_rfl) ?_ ?_
              · intro _
                refine jc_seq ?_
                refine jc_reg ?_
                refine jr_seg 0 10 [4] [] (st1 := ⟨[(4, .av (bv ((((a0 == 32) || (a0 == 9)) || (a0 == 10)) || (a0 == 13))))], [], 0⟩) (by kernel_rfl) ?_
                refine jr_nil rfl ?_
                refine jx_seqN ?_
                refine jc_ret ?_
                refine jx_blkR ?_
                refine jx_seqR ?_
                exact jx_retF (.inr rfl) (v := bv ((((a0 == 32) || (a0 == 9)) || (a0 == 10)) || (a0 == 13))) (by kernel_rfl) rfl (fle_refl _)
              · intro _
                refine jc_skip ?_
                refine jx_blkN ?_
                refine jx_seqN ?_
                refine jc_seq ?_
                refine jc_reg ?_
                refine jr_seg 0 1 [4] [] (st1 := ⟨[(4, .av (bv false))], [], 0⟩) (by kernel_rfl) ?_
                refine jr_nil rfl ?_
                refine jx_seqN ?_
                refine jc_ret ?_
                exact jx_retF (.inr rfl) (v := bv false) (by kernel_rfl) rfl (fle_refl _))
end Go.Vm

set_option maxRecDepth 100000
set_option maxHeartbeats 0
set_option linter.unusedVariables false
set_option linter.unusedSimpArgs false
namespace Go.Vm
open Go
abbrev ref01_Run_r1 : List LO := [⟨some 6, Op.assign (Operand.const (Value.int IntKind.i64 0)), 3, none⟩]
abbrev ref01_Run_b2 : LC := .reg false ref01_Run_r1
abbrev ref01_Run_r3 : List LO := [⟨some 7, Op.move (Operand.tmp 1), 3, none⟩,
  ⟨some 8, Op.binOp BinOp.lss 3 (Operand.tmp 7) (Operand.const (Value.int IntKind.i64 0)) 3, 4, none⟩,
  ⟨some 9, Op.move (Operand.tmp 8), 4, none⟩,
  ⟨some 10, Op.move (Operand.tmp 1), 3, (some (9, false))⟩,
  ⟨some 11, Op.move (Operand.tmp 0), 9, (some (9, false))⟩,
  ⟨some 12, Op.call { callee := Callee.builtin Builtin.len, args := #[Operand.tmp 11], argTypes := #[9] }, 3, (some (9, false))⟩,
  ⟨some 13, Op.binOp BinOp.gtr 3 (Operand.tmp 10) (Operand.tmp 12) 3, 4, (some (9, false))⟩,
  ⟨some 14, Op.pick (Operand.tmp 9) (Operand.const (Value.bool true)) (Operand.tmp 13), 4, none⟩]
abbrev ref01_Run_b4 : LC := .reg false ref01_Run_r3
abbrev ref01_Run_r5 : List LO := [⟨some 15, Op.move (Operand.tmp 1), 3, none⟩,
  ⟨some 6, Op.assign (Operand.tmp 15), 3, none⟩]
abbrev ref01_Run_b6 : LC := .reg false ref01_Run_r5
abbrev ref01_Run_b7 : LC := .seq ref01_Run_b6 .ret
abbrev ref01_Run_b8 : LC := .cond (Operand.tmp 14) ref01_Run_b7 .skip
abbrev ref01_Run_b9 : LC := .seq ref01_Run_b4 ref01_Run_b8
abbrev ref01_Run_r10 : List LO := [⟨some 16, Op.move (Operand.tmp 1), 3, none⟩,
  ⟨some 17, Op.move (Operand.tmp 0), 9, none⟩,
  ⟨some 18, Op.call { callee := Callee.builtin Builtin.len, args := #[Operand.tmp 17], argTypes := #[9] }, 3, none⟩,
  ⟨some 19, Op.binOp BinOp.lss 3 (Operand.tmp 16) (Operand.tmp 18) 3, 4, none⟩,
  ⟨some 20, Op.move (Operand.tmp 19), 4, none⟩,
  ⟨some 21, Op.move (Operand.tmp 0), 9, (some (20, true))⟩,
  ⟨some 22, Op.move (Operand.tmp 1), 3, (some (20, true))⟩,
  ⟨some 23, Op.index 9 (Operand.tmp 21) (Operand.tmp 22), 5, (some (20, true))⟩,
  ⟨some 24, Op.move (Operand.tmp 2), 3, (some (20, true))⟩,
  ⟨some 25, Op.call { callee := Callee.value (Operand.func 27), args := #[Operand.tmp 23, Operand.tmp 24], argTypes := #[5, 3] }, 4, (some (20, true))⟩,
  ⟨some 26, Op.pick (Operand.tmp 20) (Operand.tmp 25) (Operand.const (Value.bool false)), 4, none⟩]
abbrev ref01_Run_b11 : LC := .reg false ref01_Run_r10
abbrev ref01_Run_b12 : LC := .cond (Operand.tmp 26) .skip (.exit 0)
abbrev ref01_Run_b13 : LC := .seq ref01_Run_b11 ref01_Run_b12
abbrev ref01_Run_r14 : List LO := [⟨some 27, Op.move (Operand.tmp 1), 3, none⟩,
  ⟨some 28, Op.binOp BinOp.add 3 (Operand.tmp 27) (Operand.const (Value.int IntKind.i64 1)) 3, 3, none⟩,
  ⟨some 1, Op.assign (Operand.tmp 28), 3, none⟩]
abbrev ref01_Run_b15 : LC := .reg false ref01_Run_r14
abbrev ref01_Run_b16 : LC := .block 1 ref01_Run_b15
abbrev ref01_Run_b17 : LC := .seq ref01_Run_b13 ref01_Run_b16
abbrev ref01_Run_b18 : LC := .loop ref01_Run_b17
abbrev ref01_Run_b19 : LC := .block 0 ref01_Run_b18
abbrev ref01_Run_r20 : List LO := [⟨some 29, Op.move (Operand.tmp 1), 3, none⟩,
  ⟨some 6, Op.assign (Operand.tmp 29), 3, none⟩]
abbrev ref01_Run_b21 : LC := .reg false ref01_Run_r20
abbrev ref01_Run_b22 : LC := .seq ref01_Run_b21 .ret
abbrev ref01_Run_b23 : LC := .seq ref01_Run_b19 ref01_Run_b22
abbrev ref01_Run_b24 : LC := .seq ref01_Run_b9 ref01_Run_b23
abbrev ref01_Run_b25 : LC := .seq ref01_Run_b2 ref01_Run_b24
theorem ref01_Run_k : FnOk E 31 30 [.tmp 6] ref01_Run_b25 := ⟨⟨Go.Proofs.Tryd.f31, by kernel_rfl, by kernel_rfl, by kernel_rfl, by kernel_rfl, by kernel_rfl⟩, rfl⟩
noncomputable def ref01_Run_l1 (a0 : Str) (a2 : Int) : Int → Option (Step (Int) (Int)) := fun x4 => Option.bind (if (decide (x4 < (List.length a0 : Int))) = true then Option.bind (idx a0 x4) (fun x13 => Option.bind (ref01_Is x13 a2) (fun x14 => some x14)) else some false : Option (Bool)) (fun x12 => (if x12 = true then some (Step.next (w64 (x4 + 1))) else some (Step.done x4)))
noncomputable def ref01_Run (a0 : Str) (a1 : Int) (a2 : Int) : Option (Int) := (if ((decide (a1 < 0)) || (decide (a1 > (List.length a0 : Int)))) = true then some a1 else Option.bind (loopC (ref01_Run_l1 a0 a2) a1) (fun x9 => some x9))
theorem ref01_Run_ok (a0 : Str) (a1 : Int) (a2 : Int) : Ct E 31 [bs a0, iv a1, iv a2] (ref01_Run a0 a1 a2) (fun r : Int => iv r) := ct_intro (N := 30) (L := ref01_Run_b25) ref01_Run_k rfl (Nat.le_of_ble_eq_true rfl) (by kernel_rfl) (by
  unfold ref01_Run
  refine jc_seq ?_
  refine jc_reg ?_
  refine jr_seg 0 1 [0, 1, 2] [] (st1 := ⟨[(0, .av (bs a0)), (1, .av (iv a1)), (2, .av (iv a2))], [], 0⟩) (by kernel_rfl) ?_
  refine jr_nil rfl ?_
  refine jx_seqN ?_
  refine jc_seq ?_
  refine jc_seq ?_
  refine jc_reg ?_
  refine jr_seg 0 8 [0, 1, 2, 14] [] (st1 := ⟨[(0, .av (bs a0)), (1, .av (iv a1)), (2, .av (iv a2)), (14, .av (bv ((decide (a1 < 0)) || (decide (a1 > (List.length a0 : Int))))))], [], 0⟩) (by kernel_rfl) ?_
  refine jr_nil rfl ?_
  refine jx_seqN ?_
  refine jc_cond (g := 14) (c := ((decide (a1 < 0)) || (decide (a1 > (List.length a0 : Int))))) (by kernel_rfl) ?_ ?_
  · intro _
    refine jc_seq ?_
    refine jc_reg ?_
    refine jr_seg 0 2 [6] [] (st1 := ⟨[(6, .av (iv a1))], [], 0⟩) (by kernel_rfl) ?_
    refine jr_nil rfl ?_
    refine jx_seqN ?_
    refine jc_ret ?_
    refine jx_seqR ?_
    exact jx_retF (.inr rfl) (v := iv a1) (by kernel_rfl) rfl (fle_refl _)
  · intro _
    refine jc_skip ?_
    refine jx_seqN ?_
    refine jc_seq ?_
    refine jc_block ?_
    refine jc_bind (fun x9 => ⟨[(1, .av (iv x9))], [], 0⟩) (fun x9 => (.exit 0)) (jc_loop (fun x4 => ⟨[(0, .av (bs a0)), (1, .av (iv x4)), (2, .av (iv a2))], [], 0⟩) (wk_ren [] (fix_nil _) rfl (by kernel_rfl) allp_nil) ?_) ?_
    · intro x4
      unfold ref01_Run_l1
      refine jc_seq ?_
      refine jc_seq ?_
      refine jc_reg ?_
      refine jr_seg 0 5 [0, 1, 2, 20] [] (st1 := ⟨[(0, .av (bs a0)), (1, .av (iv x4)), (2, .av (iv a2)), (20, .av (bv (decide (x4 < (List.length a0 : Int)))))], [], 0⟩) (by kernel_rfl) ?_
      refine jr_bind 5 6 (fun x12 => ⟨[(0, .av (bs a0)), (1, .av (iv x4)), (2, .av (iv a2)), (26, .av (bv x12))], [], 0⟩) ?_ ?_
      · refine jr_split (g := 20) (c := (decide (x4 < (List.length a0 : Int)))) (by kernel_rfl) ?_ ?_
        · intro _
          refine jr_seg 0 2 [0, 1, 2, 20, 21, 22] [] (st1 := ⟨[(0, .av (bs a0)), (1, .av (iv x4)), (2, .av (iv a2)), (20, .lit true), (21, .av (bs a0)), (22, .av (iv x4))], [], 0⟩) (by kernel_rfl) ?_
          refine jr_part (i := 2) (mo := idx a0 x4) rfl rfl rfl rfl (fun _ hc => aop_index (kk := .i64) (by kernel_rfl) (by kernel_rfl) (by kernel_rfl) hc) (fun _ => rfl) ?_
          intro x13 h13
          refine jr_seg 3 1 [0, 1, 2, 20, 23, 24] [] (st1 := ⟨[(0, .av (bs a0)), (1, .av (iv x4)), (2, .av (iv a2)), (20, .lit true), (23, .av (.s (.int .u8 x13))), (24, .av (iv a2))], [], 0⟩) (by kernel_rfl) ?_
          refine jr_callF (i := 4) rfl rfl rfl rfl (vs := [.s (.int .u8 x13), iv a2]) (by kernel_rfl) (snapL_cons rfl (snapL_cons rfl (snapL_nil _))) (all2_cons (fle_refl _) (all2_cons (fle_refl _) all2_nil)) (ref01_Is_ok x13 a2) (fun _ => rfl) (fun _ => rfl) ?_
          intro x14 h14
          refine jr_seg 5 1 [0, 1, 2, 26] [] (st1 := ⟨[(0, .av (bs a0)), (1, .av (iv x4)), (2, .av (iv a2)), (26, .av (bv x14))], [], 0⟩) (by kernel_rfl) ?_
          refine jr_nil rfl ?_
          exact jx_mid rfl (wk_ren [] (fix_nil _) rfl (by kernel_rfl) allp_nil)
        · intro _
          refine jr_seg 0 6 [0, 1, 2, 26] [] (st1 := ⟨[(0, .av (bs a0)), (1, .av (iv x4)), (2, .av (iv a2)), (26, .av (bv false))], [], 0⟩) (by kernel_rfl) ?_
          refine jr_nil rfl ?_
          exact jx_mid rfl (wk_ren [] (fix_nil _) rfl (by kernel_rfl) allp_nil)
      · intro x12
        refine jr_nil rfl ?_
        refine jx_seqN ?_
        refine jc_cond (g := 26) (c := x12) (by kernel_rfl) ?_ ?_
        · intro _
          refine jc_skip ?_
          refine jx_seqN ?_
          refine jc_block ?_
          refine jc_reg ?_
          refine jr_seg 0 3 [0, 1, 2] [] (st1 := ⟨[(0, .av (bs a0)), (1, .av (iv (w64 (x4 + 1)))), (2, .av (iv a2))], [], 0⟩) (by kernel_rfl) ?_
          refine jr_nil rfl ?_
          refine jx_blkN ?_
          exact jx_next (wk_ren [] (fix_nil _) rfl (by kernel_rfl) allp_nil)
        · intro _
          refine jc_exit ?_
          refine jx_seqE ?_
          exact jx_done rfl nofun (wk_ren [] (fix_nil _) rfl (by kernel_rfl) allp_nil)
    · intro x9
      refine jx_blkE ?_
      refine jx_seqN ?_
      refine jc_seq ?_
      refine jc_reg ?_
      refine jr_seg 0 2 [6] [] (st1 := ⟨[(6, .av (iv x9))], [], 0⟩) (by kernel_rfl) ?_
      refine jr_nil rfl ?_
      refine jx_seqN ?_
      refine jc_ret ?_
      exact jx_retF (.inr rfl) (v := iv x9) (by kernel_rfl) rfl (fle_refl _))
end Go.Vm

set_option maxRecDepth 100000
set_option maxHeartbeats 0
set_option linter.unusedVariables false
set_option linter.unusedSimpArgs false
namespace Go.Vm
open Go
abbrev rpm_part_r1 : List LO := [⟨some 2, Op.assign (Operand.const (Value.bool false)), 4, none⟩]
abbrev rpm_part_b2 : LC := .reg false rpm_part_r1
abbrev rpm_part_r3 : List LO := [⟨some 3, Op.move (Operand.tmp 0), 5, none⟩,
  ⟨some 4, Op.call { callee := Callee.value (Operand.func 26), args := #[Operand.tmp 3, Operand.const (Value.int IntKind.i64 5)], argTypes := #[5, 3] }, 4, none⟩,
  ⟨some 5, Op.move (Operand.tmp 4), 4, none⟩,
  ⟨some 6, Op.move (Operand.tmp 0), 5, (some (5, false))⟩,
  ⟨some 7, Op.binOp BinOp.eql 5 (Operand.tmp 6) (Operand.const (Value.int IntKind.u8 46)) 5, 4, (some (5, false))⟩,
  ⟨some 8, Op.pick (Operand.tmp 5) (Operand.const (Value.bool true)) (Operand.tmp 7), 4, none⟩,
  ⟨some 9, Op.move (Operand.tmp 8), 4, none⟩,
  ⟨some 10, Op.move (Operand.tmp 0), 5, (some (9, false))⟩,
  ⟨some 11, Op.binOp BinOp.eql 5 (Operand.tmp 10) (Operand.const (Value.int IntKind.u8 95)) 5, 4, (some (9, false))⟩,
  ⟨some 12, Op.pick (Operand.tmp 9) (Operand.const (Value.bool true)) (Operand.tmp 11), 4, none⟩,
  ⟨some 13, Op.move (Operand.tmp 12), 4, none⟩,
  ⟨some 14, Op.move (Operand.tmp 0), 5, (some (13, false))⟩,
  ⟨some 15, Op.binOp BinOp.eql 5 (Operand.tmp 14) (Operand.const (Value.int IntKind.u8 43)) 5, 4, (some (13, false))⟩,
  ⟨some 16, Op.pick (Operand.tmp 13) (Operand.const (Value.bool true)) (Operand.tmp 15), 4, none⟩,
  ⟨some 17, Op.move (Operand.tmp 16), 4, none⟩,
  ⟨some 18, Op.move (Operand.tmp 0), 5, (some (17, false))⟩,
  ⟨some 19, Op.binOp BinOp.eql 5 (Operand.tmp 18) (Operand.const (Value.int IntKind.u8 126)) 5, 4, (some (17, false))⟩,
  ⟨some 20, Op.pick (Operand.tmp 17) (Operand.const (Value.bool true)) (Operand.tmp 19), 4, none⟩,
  ⟨some 21, Op.move (Operand.tmp 20), 4, none⟩,
  ⟨some 22, Op.move (Operand.tmp 0), 5, (some (21, false))⟩,
  ⟨some 23, Op.binOp BinOp.eql 5 (Operand.tmp 22) (Operand.const (Value.int IntKind.u8 94)) 5, 4, (some (21, false))⟩,
  ⟨some 24, Op.pick (Operand.tmp 21) (Operand.const (Value.bool true)) (Operand.tmp 23), 4, none⟩,
  ⟨some 2, Op.assign (Operand.tmp 24), 4, none⟩]
abbrev rpm_part_b4 : LC := .reg false rpm_part_r3
abbrev rpm_part_b5 : LC := .seq rpm_part_b4 .ret
abbrev rpm_part_b6 : LC := .seq rpm_part_b2 rpm_part_b5
theorem rpm_part_k : FnOk E 118 25 [.tmp 2] rpm_part_b6 := ⟨⟨Go.Proofs.Tryd.f118, by kernel_rfl, by kernel_rfl, by kernel_rfl, by kernel_rfl, by kernel_rfl⟩, rfl⟩
noncomputable def rpm_part (a0 : Int) : Option (Bool) := Option.bind (scan_Is a0 5) (fun x1 => some (((((x1 || (a0 == 46)) || (a0 == 95)) || (a0 == 43)) || (a0 == 126)) || (a0 == 94)))
theorem rpm_part_ok (a0 : Int) : Ct E 118 [.s (.int .u8 a0)] (rpm_part a0) (fun r : Bool => bv r) := ct_intro (N := 25) (L := rpm_part_b6) rpm_part_k rfl (Nat.le_of_ble_eq_true rfl) (by kernel_rfl) (by
  unfold rpm_part
  refine jc_seq ?_
  refine jc_reg ?_
  refine jr_seg 0 1 [0] [] (st1 := ⟨[(0, .av (.s (.int .u8 a0)))], [], 0⟩) (by kernel_rfl) ?_
  refine jr_nil rfl ?_
  refine jx_seqN ?_
  refine jc_seq ?_
  refine jc_reg ?_
  refine jr_seg 0 1 [0, 3] [] (st1 := ⟨[(0, .av (.s (.int .u8 a0))), (3, .av (.s (.int .u8 a0)))], [], 0⟩) (by kernel_rfl) ?_
  refine jr_callF (i := 1) rfl rfl rfl rfl (vs := [.s (.int .u8 a0), iv 5]) (by kernel_rfl) (snapL_cons rfl (snapL_cons rfl (snapL_nil _))) (all2_cons (fle_refl _) (all2_cons (fle_refl _) all2_nil)) (scan_Is_ok a0 5) (fun _ => rfl) (fun _ => rfl) ?_
  intro x1 h1
  refine jr_seg 2 21 [2] [] (st1 := ⟨[(2, .av (bv (((((x1 || (a0 == 46)) || (a0 == 95)) || (a0 == 43)) || (a0 == 126)) || (a0 == 94))))], [], 0⟩) (by kernel_rfl) ?_
  refine jr_nil rfl ?_
  refine jx_seqN ?_
  refine jc_ret ?_
  exact jx_retF (.inr rfl) (v := bv (((((x1 || (a0 == 46)) || (a0 == 95)) || (a0 == 43)) || (a0 == 126)) || (a0 == 94))) (by kernel_rfl) rfl (fle_refl _))
end Go.Vm

set_option maxRecDepth 100000
set_option maxHeartbeats 0
set_option linter.unusedVariables false
set_option linter.unusedSimpArgs false
namespace Go.Vm
open Go
abbrev rpm_end_r1 : List LO := [⟨some 4, Op.assign (Operand.const (Value.int IntKind.i64 0)), 3, none⟩]
abbrev rpm_end_b2 : LC := .reg false rpm_end_r1
abbrev rpm_end_r3 : List LO := [⟨some 5, Op.move (Operand.tmp 1), 3, none⟩,
  ⟨some 6, Op.move (Operand.tmp 0), 9, none⟩,
  ⟨some 7, Op.call { callee := Callee.builtin Builtin.len, args := #[Operand.tmp 6], argTypes := #[9] }, 3, none⟩,
  ⟨some 8, Op.binOp BinOp.lss 3 (Operand.tmp 5) (Operand.tmp 7) 3, 4, none⟩,
  ⟨some 9, Op.move (Operand.tmp 8), 4, none⟩,
  ⟨some 10, Op.move (Operand.tmp 0), 9, (some (9, true))⟩,
  ⟨some 11, Op.move (Operand.tmp 1), 3, (some (9, true))⟩,
  ⟨some 12, Op.index 9 (Operand.tmp 10) (Operand.tmp 11), 5, (some (9, true))⟩,
  ⟨some 13, Op.call { callee := Callee.value (Operand.func 118), args := #[Operand.tmp 12], argTypes := #[5] }, 4, (some (9, true))⟩,
  ⟨some 14, Op.pick (Operand.tmp 9) (Operand.tmp 13) (Operand.const (Value.bool false)), 4, none⟩]
abbrev rpm_end_b4 : LC := .reg false rpm_end_r3
abbrev rpm_end_b5 : LC := .cond (Operand.tmp 14) .skip (.exit 0)
abbrev rpm_end_b6 : LC := .seq rpm_end_b4 rpm_end_b5
abbrev rpm_end_r7 : List LO := [⟨some 15, Op.move (Operand.tmp 1), 3, none⟩,
  ⟨some 16, Op.binOp BinOp.add 3 (Operand.tmp 15) (Operand.const (Value.int IntKind.i64 1)) 3, 3, none⟩,
  ⟨some 1, Op.assign (Operand.tmp 16), 3, none⟩]
abbrev rpm_end_b8 : LC := .reg false rpm_end_r7
abbrev rpm_end_b9 : LC := .block 1 rpm_end_b8
abbrev rpm_end_b10 : LC := .seq rpm_end_b6 rpm_end_b9
abbrev rpm_end_b11 : LC := .loop rpm_end_b10
abbrev rpm_end_b12 : LC := .block 0 rpm_end_b11
abbrev rpm_end_r13 : List LO := [⟨some 17, Op.move (Operand.tmp 1), 3, none⟩,
  ⟨some 4, Op.assign (Operand.tmp 17), 3, none⟩]
abbrev rpm_end_b14 : LC := .reg false rpm_end_r13
abbrev rpm_end_b15 : LC := .seq rpm_end_b14 .ret
abbrev rpm_end_b16 : LC := .seq rpm_end_b12 rpm_end_b15
abbrev rpm_end_b17 : LC := .seq rpm_end_b2 rpm_end_b16
theorem rpm_end_k : FnOk E 76 18 [.tmp 4] rpm_end_b17 := ⟨⟨Go.Proofs.Tryd.f76, by kernel_rfl, by kernel_rfl, by kernel_rfl, by kernel_rfl, by kernel_rfl⟩, rfl⟩
noncomputable def rpm_end_l1 (a0 : Str) : Int → Option (Step (Int) (Int)) := fun x4 => Option.bind (if (decide (x4 < (List.length a0 : Int))) = true then Option.bind (idx a0 x4) (fun x13 => Option.bind (rpm_part x13) (fun x14 => some x14)) else some false : Option (Bool)) (fun x12 => (if x12 = true then some (Step.next (w64 (x4 + 1))) else some (Step.done x4)))
noncomputable def rpm_end (a0 : Str) (a1 : Int) : Option (Int) := Option.bind (loopC (rpm_end_l1 a0) a1) (fun x9 => some x9)
theorem rpm_end_ok (a0 : Str) (a1 : Int) : Ct E 76 [bs a0, iv a1] (rpm_end a0 a1) (fun r : Int => iv r) := ct_intro (N := 18) (L := rpm_end_b17) rpm_end_k rfl (Nat.le_of_ble_eq_true rfl) (by kernel_rfl) (by
  unfold rpm_end
  refine jc_seq ?_
  refine jc_reg ?_
  refine jr_seg 0 1 [0, 1] [] (st1 := ⟨[(0, .av (bs a0)), (1, .av (iv a1))], [], 0⟩) (by kernel_rfl) ?_
  refine jr_nil rfl ?_
  refine jx_seqN ?_
  refine jc_seq ?_
  refine jc_block ?_
  refine jc_bind (fun x9 => ⟨[(1, .av (iv x9))], [], 0⟩) (fun x9 => (.exit 0)) (jc_loop (fun x4 => ⟨[(0, .av (bs a0)), (1, .av (iv x4))], [], 0⟩) (wk_ren [] (fix_nil _) rfl (by kernel_rfl) allp_nil) ?_) ?_
  · intro x4
    unfold rpm_end_l1
    refine jc_seq ?_
    refine jc_seq ?_
    refine jc_reg ?_
    refine jr_seg 0 5 [0, 1, 9] [] (st1 := ⟨[(0, .av (bs a0)), (1, .av (iv x4)), (9, .av (bv (decide (x4 < (List.length a0 : Int)))))], [], 0⟩) (by kernel_rfl) ?_
    refine jr_bind 5 5 (fun x12 => ⟨[(0, .av (bs a0)), (1, .av (iv x4)), (14, .av (bv x12))], [], 0⟩) ?_ ?_
    · refine jr_split (g := 9) (c := (decide (x4 < (List.length a0 : Int)))) (by kernel_rfl) ?_ ?_
      · intro _
        refine jr_seg 0 2 [0, 1, 9, 10, 11] [] (st1 := ⟨[(0, .av (bs a0)), (1, .av (iv x4)), (9, .lit true), (10, .av (bs a0)), (11, .av (iv x4))], [], 0⟩) (by kernel_rfl) ?_
        refine jr_part (i := 2) (mo := idx a0 x4) rfl rfl rfl rfl (fun _ hc => aop_index (kk := .i64) (by kernel_rfl) (by kernel_rfl) (by kernel_rfl) hc) (fun _ => rfl) ?_
        intro x13 h13
        refine jr_callF (i := 3) rfl rfl rfl rfl (vs := [.s (.int .u8 x13)]) (by kernel_rfl) (snapL_cons rfl (snapL_nil _)) (all2_cons (fle_refl _) all2_nil) (rpm_part_ok x13) (fun _ => rfl) (fun _ => rfl) ?_
        intro x14 h14
        refine jr_seg 4 1 [0, 1, 14] [] (st1 := ⟨[(0, .av (bs a0)), (1, .av (iv x4)), (14, .av (bv x14))], [], 0⟩) (by kernel_rfl) ?_
        refine jr_nil rfl ?_
        exact jx_mid rfl (wk_ren [] (fix_nil _) rfl (by kernel_rfl) allp_nil)
      · intro _
        refine jr_seg 0 5 [0, 1, 14] [] (st1 := ⟨[(0, .av (bs a0)), (1, .av (iv x4)), (14, .av (bv false))], [], 0⟩) (by kernel_rfl) ?_
        refine jr_nil rfl ?_
        exact jx_mid rfl (wk_ren [] (fix_nil _) rfl (by kernel_rfl) allp_nil)
    · intro x12
      refine jr_nil rfl ?_
      refine jx_seqN ?_
      refine jc_cond (g := 14) (c := x12) (by kernel_rfl) ?_ ?_
      · intro _
        refine jc_skip ?_
        refine jx_seqN ?_
        refine jc_block ?_
        refine jc_reg ?_
        refine jr_seg 0 3 [0, 1] [] (st1 := ⟨[(0, .av (bs a0)), (1, .av (iv (w64 (x4 + 1))))], [], 0⟩) (by kernel_rfl) ?_
        refine jr_nil rfl ?_
        refine jx_blkN ?_
        exact jx_next (wk_ren [] (fix_nil _) rfl (by kernel_rfl) allp_nil)
      · intro _
        refine jc_exit ?_
        refine jx_seqE ?_
        exact jx_done rfl nofun (wk_ren [] (fix_nil _) rfl (by kernel_rfl) allp_nil)
  · intro x9
    refine jx_blkE ?_
    refine jx_seqN ?_
    refine jc_seq ?_
    refine jc_reg ?_
    refine jr_seg 0 2 [4] [] (st1 := ⟨[(4, .av (iv x9))], [], 0⟩) (by kernel_rfl) ?_
    refine jr_nil rfl ?_
    refine jx_seqN ?_
    refine jc_ret ?_
    exact jx_retF (.inr rfl) (v := iv x9) (by kernel_rfl) rfl (fle_refl _))
end Go.Vm

set_option maxRecDepth 100000
set_option maxHeartbeats 0
set_option linter.unusedVariables false
set_option linter.unusedSimpArgs false
namespace Go.Vm
open Go
abbrev rpm_wrong_r1 : List LO := [⟨some 4, Op.alloc 44, 0, none⟩]
abbrev rpm_wrong_b2 : LC := .reg false rpm_wrong_r1
abbrev rpm_wrong_r3 : List LO := [⟨some 5, Op.move (Operand.tmp 1), 3, none⟩,
  ⟨some 6, Op.move (Operand.tmp 0), 9, none⟩,
  ⟨some 7, Op.call { callee := Callee.builtin Builtin.len, args := #[Operand.tmp 6], argTypes := #[9] }, 3, none⟩,
  ⟨some 8, Op.binOp BinOp.geq 3 (Operand.tmp 5) (Operand.tmp 7) 3, 4, none⟩]
abbrev rpm_wrong_b4 : LC := .reg false rpm_wrong_r3
abbrev rpm_wrong_r5 : List LO := [⟨some 9, Op.move (Operand.tmp 0), 9, none⟩,
  ⟨some 10, Op.call { callee := Callee.builtin Builtin.len, args := #[Operand.tmp 9], argTypes := #[9] }, 3, none⟩,
  ⟨some 11, Op.build 44 #[(0, Operand.const (Value.int IntKind.i64 11)), (1, Operand.tmp 10)], 44, none⟩,
  ⟨none, Op.store 44 (Operand.tmp 4) (Operand.tmp 11), 0, none⟩]
abbrev rpm_wrong_b6 : LC := .reg false rpm_wrong_r5
abbrev rpm_wrong_b7 : LC := .seq rpm_wrong_b6 .ret
abbrev rpm_wrong_b8 : LC := .cond (Operand.tmp 8) rpm_wrong_b7 .skip
abbrev rpm_wrong_b9 : LC := .seq rpm_wrong_b4 rpm_wrong_b8
abbrev rpm_wrong_r10 : List LO := [⟨some 12, Op.move (Operand.tmp 1), 3, none⟩,
  ⟨some 13, Op.build 44 #[(0, Operand.const (Value.int IntKind.i64 10)), (1, Operand.tmp 12)], 44, none⟩,
  ⟨none, Op.store 44 (Operand.tmp 4) (Operand.tmp 13), 0, none⟩]
abbrev rpm_wrong_b11 : LC := .reg false rpm_wrong_r10
abbrev rpm_wrong_b12 : LC := .seq rpm_wrong_b11 .ret
abbrev rpm_wrong_b13 : LC := .seq rpm_wrong_b9 rpm_wrong_b12
abbrev rpm_wrong_b14 : LC := .seq rpm_wrong_b2 rpm_wrong_b13
theorem rpm_wrong_k : FnOk E 77 14 [.cell 4 44] rpm_wrong_b14 := ⟨⟨Go.Proofs.Tryd.f77, by kernel_rfl, by kernel_rfl, by kernel_rfl, by kernel_rfl, by kernel_rfl⟩, rfl⟩
noncomputable def rpm_wrong (a0 : Str) (a1 : Int) : Option (S_api_Fault) := (if (decide (a1 ≥ (List.length a0 : Int))) = true then some (S_api_Fault.mk 11 (List.length a0 : Int)) else some (S_api_Fault.mk 10 a1))
theorem rpm_wrong_ok (a0 : Str) (a1 : Int) : Ct E 77 [bs a0, iv a1] (rpm_wrong a0 a1) (fun r : S_api_Fault => .agg [iv r.Err, iv r.At]) := ct_intro (N := 14) (L := rpm_wrong_b14) rpm_wrong_k rfl (Nat.le_of_ble_eq_true rfl) (by kernel_rfl) (by
  unfold rpm_wrong
  refine jc_seq ?_
  refine jc_reg ?_
  refine jr_seg 0 1 [0, 1, 4] [0] (st1 := ⟨[(0, .av (bs a0)), (1, .av (iv a1)), (4, .av (.ptr 0 0 2 0))], [(0, .rows 2 [[iv 0, iv 0]])], 1⟩) (by kernel_rfl) ?_
  refine jr_nil rfl ?_
  refine jx_seqN ?_
  refine jc_seq ?_
  refine jc_seq ?_
  refine jc_reg ?_
  refine jr_seg 0 4 [0, 1, 4, 8] [0] (st1 := ⟨[(0, .av (bs a0)), (1, .av (iv a1)), (4, .av (.ptr 0 0 2 0)), (8, .av (bv (decide (a1 ≥ (List.length a0 : Int)))))], [(0, .rows 2 [[iv 0, iv 0]])], 1⟩) (by kernel_rfl) ?_
  refine jr_nil rfl ?_
  refine jx_seqN ?_
  refine jc_cond (g := 8) (c := (decide (a1 ≥ (List.length a0 : Int)))) (by kernel_rfl) ?_ ?_
  · intro _
    refine jc_seq ?_
    refine jc_reg ?_
    refine jr_seg 0 4 [4] [0] (st1 := ⟨[(4, .av (.ptr 0 0 2 0))], [(0, .rows 2 [[iv 11, iv (List.length a0 : Int)]])], 1⟩) (by kernel_rfl) ?_
    refine jr_nil rfl ?_
    refine jx_seqN ?_
    refine jc_ret ?_
    refine jx_seqR ?_
    exact jx_retF (.inr rfl) (v := .agg [iv 11, iv (List.length a0 : Int)]) (by kernel_rfl) rfl (fle_refl _)
  · intro _
    refine jc_skip ?_
    refine jx_seqN ?_
    refine jc_seq ?_
    refine jc_reg ?_
    refine jr_seg 0 3 [4] [0] (st1 := ⟨[(4, .av (.ptr 0 0 2 0))], [(0, .rows 2 [[iv 10, iv a1]])], 1⟩) (by kernel_rfl) ?_
    refine jr_nil rfl ?_
    refine jx_seqN ?_
    refine jc_ret ?_
    exact jx_retF (.inr rfl) (v := .agg [iv 10, iv a1]) (by kernel_rfl) rfl (fle_refl _))
end Go.Vm

set_option maxRecDepth 100000
set_option maxHeartbeats 0
set_option linter.unusedVariables false
set_option linter.unusedSimpArgs false
namespace Go.Vm
open Go
abbrev rpm_Parse_r1 : List LO := [⟨some 2, Op.alloc 51, 0, none⟩,
  ⟨some 3, Op.alloc 44, 0, none⟩]
abbrev rpm_Parse_b2 : LC := .reg false rpm_Parse_r1
abbrev rpm_Parse_r3 : List LO := [⟨some 8, Op.move (Operand.tmp 0), 9, none⟩,
  ⟨some 9, Op.call { callee := Callee.builtin Builtin.len, args := #[Operand.tmp 8], argTypes := #[9] }, 3, none⟩,
  ⟨some 10, Op.binOp BinOp.gtr 3 (Operand.tmp 9) (Operand.const (Value.int IntKind.i64 64)) 3, 4, none⟩]
abbrev rpm_Parse_b4 : LC := .reg false rpm_Parse_r3
abbrev rpm_Parse_r5 : List LO := [⟨some 11, Op.build 51 #[], 51, none⟩,
  ⟨some 12, Op.build 44 #[(0, Operand.const (Value.int IntKind.i64 12)), (1, Operand.const (Value.int IntKind.i64 64))], 44, none⟩,
  ⟨none, Op.store 51 (Operand.tmp 2) (Operand.tmp 11), 0, none⟩,
  ⟨none, Op.store 44 (Operand.tmp 3) (Operand.tmp 12), 0, none⟩]
abbrev rpm_Parse_b6 : LC := .reg false rpm_Parse_r5
abbrev rpm_Parse_b7 : LC := .seq rpm_Parse_b6 .ret
abbrev rpm_Parse_b8 : LC := .cond (Operand.tmp 10) rpm_Parse_b7 .skip
abbrev rpm_Parse_b9 : LC := .seq rpm_Parse_b4 rpm_Parse_b8
abbrev rpm_Parse_r10 : List LO := [⟨some 13, Op.build 51 #[(0, Operand.const (Value.string { data := #[48] }))], 51, none⟩,
  ⟨some 4, Op.alloc 51, 0, none⟩,
  ⟨none, Op.store 51 (Operand.tmp 4) (Operand.tmp 13), 0, none⟩]
abbrev rpm_Parse_b11 : LC := .reg false rpm_Parse_r10
abbrev rpm_Parse_r12 : List LO := [⟨some 5, Op.assign (Operand.const (Value.int IntKind.i64 0)), 3, none⟩]
abbrev rpm_Parse_b13 : LC := .reg false rpm_Parse_r12
abbrev rpm_Parse_r14 : List LO := [⟨some 14, Op.move (Operand.tmp 0), 9, none⟩,
  ⟨some 15, Op.call { callee := Callee.value (Operand.func 30), args := #[Operand.tmp 14, Operand.const (Value.int IntKind.i64 0), Operand.const (Value.int IntKind.i64 1)], argTypes := #[9, 3, 3] }, 3, none⟩,
  ⟨some 6, Op.assign (Operand.tmp 15), 3, none⟩]
abbrev rpm_Parse_b15 : LC := .reg false rpm_Parse_r14
abbrev rpm_Parse_r16 : List LO := [⟨some 16, Op.move (Operand.tmp 6), 3, none⟩,
  ⟨some 17, Op.binOp BinOp.gtr 3 (Operand.tmp 16) (Operand.const (Value.int IntKind.i64 0)) 3, 4, none⟩,
  ⟨some 18, Op.move (Operand.tmp 17), 4, none⟩,
  ⟨some 19, Op.move (Operand.tmp 6), 3, (some (18, true))⟩,
  ⟨some 20, Op.move (Operand.tmp 0), 9, (some (18, true))⟩,
  ⟨some 21, Op.call { callee := Callee.builtin Builtin.len, args := #[Operand.tmp 20], argTypes := #[9] }, 3, (some (18, true))⟩,
  ⟨some 22, Op.binOp BinOp.lss 3 (Operand.tmp 19) (Operand.tmp 21) 3, 4, (some (18, true))⟩,
  ⟨some 23, Op.pick (Operand.tmp 18) (Operand.tmp 22) (Operand.const (Value.bool false)), 4, none⟩,
  ⟨some 24, Op.move (Operand.tmp 23), 4, none⟩,
  ⟨some 25, Op.move (Operand.tmp 0), 9, (some (24, true))⟩,
  ⟨some 26, Op.move (Operand.tmp 6), 3, (some (24, true))⟩,
  ⟨some 27, Op.index 9 (Operand.tmp 25) (Operand.tmp 26), 5, (some (24, true))⟩,
  ⟨some 28, Op.binOp BinOp.eql 5 (Operand.tmp 27) (Operand.const (Value.int IntKind.u8 58)) 5, 4, (some (24, true))⟩,
  ⟨some 29, Op.pick (Operand.tmp 24) (Operand.tmp 28) (Operand.const (Value.bool false)), 4, none⟩]
abbrev rpm_Parse_b17 : LC := .reg false rpm_Parse_r16
abbrev rpm_Parse_r18 : List LO := [⟨some 30, Op.move (Operand.tmp 0), 9, none⟩,
  ⟨some 31, Op.move (Operand.tmp 6), 3, none⟩,
  ⟨some 32, Op.slice 9 (Operand.tmp 30) none (some (Operand.tmp 31)) none, 9, none⟩,
  ⟨some 33, Op.call { callee := Callee.value (Operand.func 15), args := #[Operand.tmp 32], argTypes := #[9] }, 9, none⟩,
  ⟨some 34, Op.move (Operand.tmp 6), 3, none⟩,
  ⟨some 35, Op.binOp BinOp.add 3 (Operand.tmp 34) (Operand.const (Value.int IntKind.i64 1)) 3, 3, none⟩,
  ⟨some 36, Op.fieldAddr 51 (Operand.tmp 4) 0, 0, none⟩,
  ⟨none, Op.store 9 (Operand.tmp 36) (Operand.tmp 33), 0, none⟩,
  ⟨some 5, Op.assign (Operand.tmp 35), 3, none⟩]
abbrev rpm_Parse_b19 : LC := .reg false rpm_Parse_r18
abbrev rpm_Parse_b20 : LC := .cond (Operand.tmp 29) rpm_Parse_b19 .skip
abbrev rpm_Parse_b21 : LC := .seq rpm_Parse_b17 rpm_Parse_b20
abbrev rpm_Parse_b22 : LC := .seq rpm_Parse_b15 rpm_Parse_b21
abbrev rpm_Parse_r23 : List LO := [⟨some 37, Op.move (Operand.tmp 5), 3, none⟩,
  ⟨some 7, Op.assign (Operand.tmp 37), 3, none⟩]
abbrev rpm_Parse_b24 : LC := .reg false rpm_Parse_r23
abbrev rpm_Parse_r25 : List LO := [⟨some 38, Op.move (Operand.tmp 0), 9, none⟩,
  ⟨some 39, Op.move (Operand.tmp 5), 3, none⟩,
  ⟨some 40, Op.call { callee := Callee.value (Operand.func 76), args := #[Operand.tmp 38, Operand.tmp 39], argTypes := #[9, 3] }, 3, none⟩,
  ⟨some 5, Op.assign (Operand.tmp 40), 3, none⟩]
abbrev rpm_Parse_b26 : LC := .reg false rpm_Parse_r25
abbrev rpm_Parse_r27 : List LO := [⟨some 41, Op.move (Operand.tmp 5), 3, none⟩,
  ⟨some 42, Op.move (Operand.tmp 7), 3, none⟩,
  ⟨some 43, Op.binOp BinOp.eql 3 (Operand.tmp 41) (Operand.tmp 42) 3, 4, none⟩]
abbrev rpm_Parse_b28 : LC := .reg false rpm_Parse_r27
abbrev rpm_Parse_r29 : List LO := [⟨some 44, Op.build 51 #[], 51, none⟩,
  ⟨some 45, Op.move (Operand.tmp 0), 9, none⟩,
  ⟨some 46, Op.move (Operand.tmp 5), 3, none⟩,
  ⟨some 47, Op.call { callee := Callee.value (Operand.func 77), args := #[Operand.tmp 45, Operand.tmp 46], argTypes := #[9, 3] }, 44, none⟩,
  ⟨none, Op.store 51 (Operand.tmp 2) (Operand.tmp 44), 0, none⟩,
  ⟨none, Op.store 44 (Operand.tmp 3) (Operand.tmp 47), 0, none⟩]
abbrev rpm_Parse_b30 : LC := .reg false rpm_Parse_r29
abbrev rpm_Parse_b31 : LC := .seq rpm_Parse_b30 .ret
abbrev rpm_Parse_b32 : LC := .cond (Operand.tmp 43) rpm_Parse_b31 .skip
abbrev rpm_Parse_b33 : LC := .seq rpm_Parse_b28 rpm_Parse_b32
abbrev rpm_Parse_b34 : LC := .seq rpm_Parse_b26 rpm_Parse_b33
abbrev rpm_Parse_r35 : List LO := [⟨some 48, Op.move (Operand.tmp 0), 9, none⟩,
  ⟨some 49, Op.move (Operand.tmp 7), 3, none⟩,
  ⟨some 50, Op.move (Operand.tmp 5), 3, none⟩,
  ⟨some 51, Op.slice 9 (Operand.tmp 48) (some (Operand.tmp 49)) (some (Operand.tmp 50)) none, 9, none⟩,
  ⟨some 52, Op.fieldAddr 51 (Operand.tmp 4) 1, 0, none⟩,
  ⟨none, Op.store 9 (Operand.tmp 52) (Operand.tmp 51), 0, none⟩]
abbrev rpm_Parse_b36 : LC := .reg false rpm_Parse_r35
abbrev rpm_Parse_r37 : List LO := [⟨some 53, Op.move (Operand.tmp 5), 3, none⟩,
  ⟨some 54, Op.move (Operand.tmp 0), 9, none⟩,
  ⟨some 55, Op.call { callee := Callee.builtin Builtin.len, args := #[Operand.tmp 54], argTypes := #[9] }, 3, none⟩,
  ⟨some 56, Op.binOp BinOp.lss 3 (Operand.tmp 53) (Operand.tmp 55) 3, 4, none⟩,
  ⟨some 57, Op.move (Operand.tmp 56), 4, none⟩,
  ⟨some 58, Op.move (Operand.tmp 0), 9, (some (57, true))⟩,
  ⟨some 59, Op.move (Operand.tmp 5), 3, (some (57, true))⟩,
  ⟨some 60, Op.index 9 (Operand.tmp 58) (Operand.tmp 59), 5, (some (57, true))⟩,
  ⟨some 61, Op.binOp BinOp.eql 5 (Operand.tmp 60) (Operand.const (Value.int IntKind.u8 45)) 5, 4, (some (57, true))⟩,
  ⟨some 62, Op.pick (Operand.tmp 57) (Operand.tmp 61) (Operand.const (Value.bool false)), 4, none⟩]
abbrev rpm_Parse_b38 : LC := .reg false rpm_Parse_r37
abbrev rpm_Parse_r39 : List LO := [⟨some 63, Op.move (Operand.tmp 5), 3, none⟩,
  ⟨some 64, Op.binOp BinOp.add 3 (Operand.tmp 63) (Operand.const (Value.int IntKind.i64 1)) 3, 3, none⟩,
  ⟨some 7, Op.assign (Operand.tmp 64), 3, none⟩]
abbrev rpm_Parse_b40 : LC := .reg false rpm_Parse_r39
abbrev rpm_Parse_r41 : List LO := [⟨some 65, Op.move (Operand.tmp 0), 9, none⟩,
  ⟨some 66, Op.move (Operand.tmp 7), 3, none⟩,
  ⟨some 67, Op.call { callee := Callee.value (Operand.func 76), args := #[Operand.tmp 65, Operand.tmp 66], argTypes := #[9, 3] }, 3, none⟩,
  ⟨some 5, Op.assign (Operand.tmp 67), 3, none⟩]
abbrev rpm_Parse_b42 : LC := .reg false rpm_Parse_r41
abbrev rpm_Parse_r43 : List LO := [⟨some 68, Op.move (Operand.tmp 5), 3, none⟩,
  ⟨some 69, Op.move (Operand.tmp 7), 3, none⟩,
  ⟨some 70, Op.binOp BinOp.eql 3 (Operand.tmp 68) (Operand.tmp 69) 3, 4, none⟩]
abbrev rpm_Parse_b44 : LC := .reg false rpm_Parse_r43
abbrev rpm_Parse_r45 : List LO := [⟨some 71, Op.build 51 #[], 51, none⟩,
  ⟨some 72, Op.move (Operand.tmp 0), 9, none⟩,
  ⟨some 73, Op.move (Operand.tmp 5), 3, none⟩,
  ⟨some 74, Op.call { callee := Callee.value (Operand.func 77), args := #[Operand.tmp 72, Operand.tmp 73], argTypes := #[9, 3] }, 44, none⟩,
  ⟨none, Op.store 51 (Operand.tmp 2) (Operand.tmp 71), 0, none⟩,
  ⟨none, Op.store 44 (Operand.tmp 3) (Operand.tmp 74), 0, none⟩]
abbrev rpm_Parse_b46 : LC := .reg false rpm_Parse_r45
abbrev rpm_Parse_b47 : LC := .seq rpm_Parse_b46 .ret
abbrev rpm_Parse_b48 : LC := .cond (Operand.tmp 70) rpm_Parse_b47 .skip
abbrev rpm_Parse_b49 : LC := .seq rpm_Parse_b44 rpm_Parse_b48
abbrev rpm_Parse_b50 : LC := .seq rpm_Parse_b42 rpm_Parse_b49
abbrev rpm_Parse_r51 : List LO := [⟨some 75, Op.move (Operand.tmp 0), 9, none⟩,
  ⟨some 76, Op.move (Operand.tmp 7), 3, none⟩,
  ⟨some 77, Op.move (Operand.tmp 5), 3, none⟩,
  ⟨some 78, Op.slice 9 (Operand.tmp 75) (some (Operand.tmp 76)) (some (Operand.tmp 77)) none, 9, none⟩,
  ⟨some 79, Op.fieldAddr 51 (Operand.tmp 4) 2, 0, none⟩,
  ⟨none, Op.store 9 (Operand.tmp 79) (Operand.tmp 78), 0, none⟩,
  ⟨some 80, Op.fieldAddr 51 (Operand.tmp 4) 3, 0, none⟩,
  ⟨none, Op.store 4 (Operand.tmp 80) (Operand.const (Value.bool true)), 0, none⟩]
abbrev rpm_Parse_b52 : LC := .reg false rpm_Parse_r51
abbrev rpm_Parse_b53 : LC := .seq rpm_Parse_b50 rpm_Parse_b52
abbrev rpm_Parse_b54 : LC := .seq rpm_Parse_b40 rpm_Parse_b53
abbrev rpm_Parse_b55 : LC := .cond (Operand.tmp 62) rpm_Parse_b54 .skip
abbrev rpm_Parse_b56 : LC := .seq rpm_Parse_b38 rpm_Parse_b55
abbrev rpm_Parse_r57 : List LO := [⟨some 81, Op.move (Operand.tmp 5), 3, none⟩,
  ⟨some 82, Op.move (Operand.tmp 0), 9, none⟩,
  ⟨some 83, Op.call { callee := Callee.builtin Builtin.len, args := #[Operand.tmp 82], argTypes := #[9] }, 3, none⟩,
  ⟨some 84, Op.binOp BinOp.lss 3 (Operand.tmp 81) (Operand.tmp 83) 3, 4, none⟩]
abbrev rpm_Parse_b58 : LC := .reg false rpm_Parse_r57
abbrev rpm_Parse_r59 : List LO := [⟨some 85, Op.build 51 #[], 51, none⟩,
  ⟨some 86, Op.move (Operand.tmp 0), 9, none⟩,
  ⟨some 87, Op.move (Operand.tmp 5), 3, none⟩,
  ⟨some 88, Op.call { callee := Callee.value (Operand.func 77), args := #[Operand.tmp 86, Operand.tmp 87], argTypes := #[9, 3] }, 44, none⟩,
  ⟨none, Op.store 51 (Operand.tmp 2) (Operand.tmp 85), 0, none⟩,
  ⟨none, Op.store 44 (Operand.tmp 3) (Operand.tmp 88), 0, none⟩]
abbrev rpm_Parse_b60 : LC := .reg false rpm_Parse_r59
abbrev rpm_Parse_b61 : LC := .seq rpm_Parse_b60 .ret
abbrev rpm_Parse_b62 : LC := .cond (Operand.tmp 84) rpm_Parse_b61 .skip
abbrev rpm_Parse_b63 : LC := .seq rpm_Parse_b58 rpm_Parse_b62
abbrev rpm_Parse_r64 : List LO := [⟨some 89, Op.load 51 (Operand.tmp 4), 51, none⟩,
  ⟨some 90, Op.build 44 #[], 44, none⟩,
  ⟨none, Op.store 51 (Operand.tmp 2) (Operand.tmp 89), 0, none⟩,
  ⟨none, Op.store 44 (Operand.tmp 3) (Operand.tmp 90), 0, none⟩]
abbrev rpm_Parse_b65 : LC := .reg false rpm_Parse_r64
abbrev rpm_Parse_b66 : LC := .seq rpm_Parse_b65 .ret
abbrev rpm_Parse_b67 : LC := .seq rpm_Parse_b63 rpm_Parse_b66
abbrev rpm_Parse_b68 : LC := .seq rpm_Parse_b56 rpm_Parse_b67
abbrev rpm_Parse_b69 : LC := .seq rpm_Parse_b36 rpm_Parse_b68
abbrev rpm_Parse_b70 : LC := .seq rpm_Parse_b34 rpm_Parse_b69
abbrev rpm_Parse_b71 : LC := .seq rpm_Parse_b24 rpm_Parse_b70
abbrev rpm_Parse_b72 : LC := .seq rpm_Parse_b22 rpm_Parse_b71
abbrev rpm_Parse_b73 : LC := .seq rpm_Parse_b13 rpm_Parse_b72
abbrev rpm_Parse_b74 : LC := .seq rpm_Parse_b11 rpm_Parse_b73
abbrev rpm_Parse_b75 : LC := .seq rpm_Parse_b9 rpm_Parse_b74
abbrev rpm_Parse_b76 : LC := .seq rpm_Parse_b2 rpm_Parse_b75
theorem rpm_Parse_k : FnOk E 37 91 [.cell 2 51, .cell 3 44] rpm_Parse_b76 := ⟨⟨Go.Proofs.Tryd.f37, by kernel_rfl, by kernel_rfl, by kernel_rfl, by kernel_rfl, by kernel_rfl⟩, rfl⟩
noncomputable def rpm_Parse (a0 : Str) : Option (S_api_Evr × S_api_Fault) := (if (decide ((List.length a0 : Int) > 64)) = true then some ((S_api_Evr.mk [] [] [] false), (S_api_Fault.mk 12 64)) else Option.bind (Option.bind (scan_Run a0 0 1) (fun x8 => Option.bind (if ((decide (x8 > 0)) && (decide (x8 < (List.length a0 : Int)))) = true then Option.bind (idx a0 x8) (fun x11 => some (x11 == 58)) else some false : Option (Bool)) (fun x10 => (if x10 = true then Option.bind (subl a0 0 x8) (fun x12 => Option.bind (scan_Trim x12) (fun x13 => some (x13, (w64 (x8 + 1))))) else some ([48], 0)))) : Option (Str × Int)) (fun (x6, x7) => Option.bind (rpm_end a0 x7) (fun x14 => (if (x14 == x7) = true then Option.bind (rpm_wrong a0 x14) (fun x15 => some ((S_api_Evr.mk [] [] [] false), x15)) else Option.bind (subl a0 x7 x14) (fun x16 => Option.bind (Option.bind (if (decide (x14 < (List.length a0 : Int))) = true then Option.bind (idx a0 x14) (fun x29 => some (x29 == 45)) else some false : Option (Bool)) (fun x28 => (if x28 = true then Option.bind (rpm_end a0 (w64 (x14 + 1))) (fun x30 => (if (x30 == (w64 (x14 + 1))) = true then Option.bind (rpm_wrong a0 x30) (fun x31 => some (Sum.inl (x31.Err, x31.At))) else Option.bind (subl a0 (w64 (x14 + 1)) x30) (fun x32 => some (Sum.inr (x32, true, x30))))) else some (Sum.inr ([], false, x14)))) : Option ((Int × Int) ⊕ (Str × Bool × Int))) (fun y => match y with | Sum.inl (x22, x23) => some ((S_api_Evr.mk [] [] [] false), (S_api_Fault.mk x22 x23)) | Sum.inr (x24, x25, x26) => (if (decide (x26 < (List.length a0 : Int))) = true then Option.bind (rpm_wrong a0 x26) (fun x33 => some ((S_api_Evr.mk [] [] [] false), x33)) else some ((S_api_Evr.mk x6 x16 x24 x25), (S_api_Fault.mk 0 0)))))))))
theorem rpm_Parse_ok (a0 : Str) : Ct E 37 [bs a0] (rpm_Parse a0) (fun r : S_api_Evr × S_api_Fault => .tup [.agg [bs r.1.Epoch, bs r.1.Ver, bs r.1.Rel, bv r.1.HasRel], .agg [iv r.2.Err, iv r.2.At]]) := ct_intro (N := 91) (L := rpm_Parse_b76) rpm_Parse_k rfl (Nat.le_of_ble_eq_true rfl) (by kernel_rfl) (by
  unfold rpm_Parse
  refine jc_seq ?_
  refine jc_reg ?_
  refine jr_seg 0 2 [0, 2, 3] [0, 1] (st1 := ⟨[(0, .av (bs a0)), (2, .av (.ptr 0 0 4 0)), (3, .av (.ptr 1 0 2 0))], [(0, .rows 4 [[bs [], bs [], bs [], bv false]]), (1, .rows 2 [[iv 0, iv 0]])], 2⟩) (by kernel_rfl) ?_
  refine jr_nil rfl ?_
  refine jx_seqN ?_
  refine jc_seq ?_
  refine jc_seq ?_
  refine jc_reg ?_
  refine jr_seg 0 3 [0, 2, 3, 10] [0, 1] (st1 := ⟨[(0, .av (bs a0)), (2, .av (.ptr 0 0 4 0)), (3, .av (.ptr 1 0 2 0)), (10, .av (bv (decide ((List.length a0 : Int) > 64))))], [(0, .rows 4 [[bs [], bs [], bs [], bv false]]), (1, .rows 2 [[iv 0, iv 0]])], 2⟩) (by kernel_rfl) ?_
  refine jr_nil rfl ?_
  refine jx_seqN ?_
  refine jc_cond (g := 10) (c := (decide ((List.length a0 : Int) > 64))) (by kernel_rfl) ?_ ?_
  · intro _
    refine jc_seq ?_
    refine jc_reg ?_
    refine jr_seg 0 4 [2, 3] [0, 1] (st1 := ⟨[(2, .av (.ptr 0 0 4 0)), (3, .av (.ptr 1 0 2 0))], [(0, .rows 4 [[bs [], bs [], bs [], bv false]]), (1, .rows 2 [[iv 12, iv 64]])], 2⟩) (by kernel_rfl) ?_
    refine jr_nil rfl ?_
    refine jx_seqN ?_
    refine jc_ret ?_
    refine jx_seqR ?_
    exact jx_retF (.inr rfl) (v := .tup [.agg [bs [], bs [], bs [], bv false], .agg [iv 12, iv 64]]) (by kernel_rfl) (snapc_tup (snapL_cons rfl (snapL_cons rfl (snapL_nil _)))) (fle_tup (all2_cons (fle_refl _) (all2_cons (fle_refl _) all2_nil)))
  · intro _
    refine jc_skip ?_
    refine jx_seqN ?_
    refine jc_seq ?_
    refine jc_reg ?_
    refine jr_seg 0 3 [0, 2, 3, 4] [0, 1, 2] (st1 := ⟨[(0, .av (bs a0)), (2, .av (.ptr 0 0 4 0)), (3, .av (.ptr 1 0 2 0)), (4, .av (.ptr 2 0 4 0))], [(0, .rows 4 [[bs [], bs [], bs [], bv false]]), (1, .rows 2 [[iv 0, iv 0]]), (2, .rows 4 [[bs [48], bs [], bs [], bv false]])], 3⟩) (by kernel_rfl) ?_
    refine jr_nil rfl ?_
    refine jx_seqN ?_
    refine jc_seq ?_
    refine jc_reg ?_
    refine jr_seg 0 1 [0, 2, 3, 4, 5] [0, 1, 2] (st1 := ⟨[(0, .av (bs a0)), (2, .av (.ptr 0 0 4 0)), (3, .av (.ptr 1 0 2 0)), (4, .av (.ptr 2 0 4 0)), (5, .av (iv 0))], [(0, .rows 4 [[bs [], bs [], bs [], bv false]]), (1, .rows 2 [[iv 0, iv 0]]), (2, .rows 4 [[bs [48], bs [], bs [], bv false]])], 3⟩) (by kernel_rfl) ?_
    refine jr_nil rfl ?_
    refine jx_seqN ?_
    refine jc_seq ?_
    refine jc_bind (fun (x6, x7) => ⟨[(0, .av (bs a0)), (2, .av (.ptr 0 0 4 0)), (3, .av (.ptr 1 0 2 0)), (4, .av (.ptr 2 0 4 0)), (5, .av (iv x7))], [(0, .rows 4 [[bs [], bs [], bs [], bv false]]), (1, .rows 2 [[iv 0, iv 0]]), (2, .rows 4 [[bs x6, bs [], bs [], bv false]])], 3⟩) (fun (x6, x7) => .normal) ?_ ?_
    · refine jc_seq ?_
      refine jc_reg ?_
      refine jr_seg 0 1 [0, 2, 3, 4, 5, 14] [0, 1, 2] (st1 := ⟨[(0, .av (bs a0)), (2, .av (.ptr 0 0 4 0)), (3, .av (.ptr 1 0 2 0)), (4, .av (.ptr 2 0 4 0)), (5, .av (iv 0)), (14, .av (bs a0))], [(0, .rows 4 [[bs [], bs [], bs [], bv false]]), (1, .rows 2 [[iv 0, iv 0]]), (2, .rows 4 [[bs [48], bs [], bs [], bv false]])], 3⟩) (by kernel_rfl) ?_
      refine jr_callF (i := 1) rfl rfl rfl rfl (vs := [bs a0, iv 0, iv 1]) (by kernel_rfl) (snapL_cons rfl (snapL_cons rfl (snapL_cons rfl (snapL_nil _)))) (all2_cons (fle_refl _) (all2_cons (fle_refl _) (all2_cons (fle_refl _) all2_nil))) (scan_Run_ok a0 0 1) (fun _ => rfl) (fun _ => rfl) ?_
      intro x8 h8
      refine jr_seg 2 1 [0, 2, 3, 4, 5, 6] [0, 1, 2] (st1 := ⟨[(0, .av (bs a0)), (2, .av (.ptr 0 0 4 0)), (3, .av (.ptr 1 0 2 0)), (4, .av (.ptr 2 0 4 0)), (5, .av (iv 0)), (6, .av (iv x8))], [(0, .rows 4 [[bs [], bs [], bs [], bv false]]), (1, .rows 2 [[iv 0, iv 0]]), (2, .rows 4 [[bs [48], bs [], bs [], bv false]])], 3⟩) (by kernel_rfl) ?_
      refine jr_nil rfl ?_
      refine jx_seqN ?_
      refine jc_seq ?_
      refine jc_reg ?_
      refine jr_seg 0 9 [0, 2, 3, 4, 5, 6, 24] [0, 1, 2] (st1 := ⟨[(0, .av (bs a0)), (2, .av (.ptr 0 0 4 0)), (3, .av (.ptr 1 0 2 0)), (4, .av (.ptr 2 0 4 0)), (5, .av (iv 0)), (6, .av (iv x8)), (24, .av (bv ((decide (x8 > 0)) && (decide (x8 < (List.length a0 : Int))))))], [(0, .rows 4 [[bs [], bs [], bs [], bv false]]), (1, .rows 2 [[iv 0, iv 0]]), (2, .rows 4 [[bs [48], bs [], bs [], bv false]])], 3⟩) (by kernel_rfl) ?_
      refine jr_bind 9 5 (fun x10 => ⟨[(0, .av (bs a0)), (2, .av (.ptr 0 0 4 0)), (3, .av (.ptr 1 0 2 0)), (4, .av (.ptr 2 0 4 0)), (5, .av (iv 0)), (6, .av (iv x8)), (29, .av (bv x10))], [(0, .rows 4 [[bs [], bs [], bs [], bv false]]), (1, .rows 2 [[iv 0, iv 0]]), (2, .rows 4 [[bs [48], bs [], bs [], bv false]])], 3⟩) ?_ ?_
      · refine jr_split (g := 24) (c := ((decide (x8 > 0)) && (decide (x8 < (List.length a0 : Int))))) (by kernel_rfl) ?_ ?_
        · intro _
          refine jr_seg 0 2 [0, 2, 3, 4, 5, 6, 24, 25, 26] [0, 1, 2] (st1 := ⟨[(0, .av (bs a0)), (2, .av (.ptr 0 0 4 0)), (3, .av (.ptr 1 0 2 0)), (4, .av (.ptr 2 0 4 0)), (5, .av (iv 0)), (6, .av (iv x8)), (24, .lit true), (25, .av (bs a0)), (26, .av (iv x8))], [(0, .rows 4 [[bs [], bs [], bs [], bv false]]), (1, .rows 2 [[iv 0, iv 0]]), (2, .rows 4 [[bs [48], bs [], bs [], bv false]])], 3⟩) (by kernel_rfl) ?_
          refine jr_part (i := 2) (mo := idx a0 x8) rfl rfl rfl rfl (fun _ hc => aop_index (kk := .i64) (by kernel_rfl) (by kernel_rfl) (by kernel_rfl) hc) (fun _ => rfl) ?_
          intro x11 h11
          refine jr_seg 3 2 [0, 2, 3, 4, 5, 6, 29] [0, 1, 2] (st1 := ⟨[(0, .av (bs a0)), (2, .av (.ptr 0 0 4 0)), (3, .av (.ptr 1 0 2 0)), (4, .av (.ptr 2 0 4 0)), (5, .av (iv 0)), (6, .av (iv x8)), (29, .av (bv (x11 == 58)))], [(0, .rows 4 [[bs [], bs [], bs [], bv false]]), (1, .rows 2 [[iv 0, iv 0]]), (2, .rows 4 [[bs [48], bs [], bs [], bv false]])], 3⟩) (by kernel_rfl) ?_
          refine jr_nil rfl ?_
          exact jx_mid rfl (wk_ren [(0, some 0), (1, some 1), (2, some 2)] (fix_nil _) rfl (by kernel_rfl) (allp_cons (.inl ⟨0, _, _, _, rfl, rfl, rfl, .inl (by kernel_rfl)⟩) (allp_cons (.inl ⟨1, _, _, _, rfl, rfl, rfl, .inl (by kernel_rfl)⟩) (allp_cons (.inl ⟨2, _, _, _, rfl, rfl, rfl, .inl (by kernel_rfl)⟩) allp_nil))))
        · intro _
          refine jr_seg 0 5 [0, 2, 3, 4, 5, 6, 29] [0, 1, 2] (st1 := ⟨[(0, .av (bs a0)), (2, .av (.ptr 0 0 4 0)), (3, .av (.ptr 1 0 2 0)), (4, .av (.ptr 2 0 4 0)), (5, .av (iv 0)), (6, .av (iv x8)), (29, .av (bv false))], [(0, .rows 4 [[bs [], bs [], bs [], bv false]]), (1, .rows 2 [[iv 0, iv 0]]), (2, .rows 4 [[bs [48], bs [], bs [], bv false]])], 3⟩) (by kernel_rfl) ?_
          refine jr_nil rfl ?_
          exact jx_mid rfl (wk_ren [(0, some 0), (1, some 1), (2, some 2)] (fix_nil _) rfl (by kernel_rfl) (allp_cons (.inl ⟨0, _, _, _, rfl, rfl, rfl, .inl (by kernel_rfl)⟩) (allp_cons (.inl ⟨1, _, _, _, rfl, rfl, rfl, .inl (by kernel_rfl)⟩) (allp_cons (.inl ⟨2, _, _, _, rfl, rfl, rfl, .inl (by kernel_rfl)⟩) allp_nil))))
      · intro x10
        refine jr_nil rfl ?_
        refine jx_seqN ?_
        refine jc_cond (g := 29) (c := x10) (by kernel_rfl) ?_ ?_
        · intro _
          refine jc_reg ?_
          refine jr_seg 0 2 [0, 2, 3, 4, 6, 30, 31] [0, 1, 2] (st1 := ⟨[(0, .av (bs a0)), (2, .av (.ptr 0 0 4 0)), (3, .av (.ptr 1 0 2 0)), (4, .av (.ptr 2 0 4 0)), (6, .av (iv x8)), (30, .av (bs a0)), (31, .av (iv x8))], [(0, .rows 4 [[bs [], bs [], bs [], bv false]]), (1, .rows 2 [[iv 0, iv 0]]), (2, .rows 4 [[bs [48], bs [], bs [], bv false]])], 3⟩) (by kernel_rfl) ?_
          refine jr_part (i := 2) (mo := subl a0 0 x8) rfl rfl rfl rfl (fun _ hc => aop_subs (by kernel_rfl) (by kernel_rfl) (by kernel_rfl) (by kernel_rfl) hc) (fun _ => rfl) ?_
          intro x12 h12
          refine jr_callF (i := 3) rfl rfl rfl rfl (vs := [bs x12]) (by kernel_rfl) (snapL_cons rfl (snapL_nil _)) (all2_cons (fle_refl _) all2_nil) (scan_Trim_ok x12) (fun _ => rfl) (fun _ => rfl) ?_
          intro x13 h13
          refine jr_seg 4 5 [0, 2, 3, 4, 5] [0, 1, 2] (st1 := ⟨[(0, .av (bs a0)), (2, .av (.ptr 0 0 4 0)), (3, .av (.ptr 1 0 2 0)), (4, .av (.ptr 2 0 4 0)), (5, .av (iv (w64 (x8 + 1))))], [(0, .rows 4 [[bs [], bs [], bs [], bv false]]), (1, .rows 2 [[iv 0, iv 0]]), (2, .rows 4 [[bs x13, bs [], bs [], bv false]])], 3⟩) (by kernel_rfl) ?_
          refine jr_nil rfl ?_
          exact jx_mid rfl (wk_ren [(0, some 0), (1, some 1), (2, some 2)] (fix_nil _) rfl (by kernel_rfl) (allp_cons (.inl ⟨0, _, _, _, rfl, rfl, rfl, .inl (by kernel_rfl)⟩) (allp_cons (.inl ⟨1, _, _, _, rfl, rfl, rfl, .inl (by kernel_rfl)⟩) (allp_cons (.inl ⟨2, _, _, _, rfl, rfl, rfl, .inl (by kernel_rfl)⟩) allp_nil))))
        · intro _
          refine jc_skip ?_
          exact jx_mid rfl (wk_ren [(0, some 0), (1, some 1), (2, some 2)] (fix_nil _) rfl (by kernel_rfl) (allp_cons (.inl ⟨0, _, _, _, rfl, rfl, rfl, .inl (by kernel_rfl)⟩) (allp_cons (.inl ⟨1, _, _, _, rfl, rfl, rfl, .inl (by kernel_rfl)⟩) (allp_cons (.inl ⟨2, _, _, _, rfl, rfl, rfl, .inl (by kernel_rfl)⟩) allp_nil))))
    · rintro ⟨x6, x7⟩
      refine jx_seqN ?_
      refine jc_seq ?_
      refine jc_reg ?_
      refine jr_seg 0 2 [0, 2, 3, 4, 5, 7] [0, 1, 2] (st1 := ⟨[(0, .av (bs a0)), (2, .av (.ptr 0 0 4 0)), (3, .av (.ptr 1 0 2 0)), (4, .av (.ptr 2 0 4 0)), (5, .av (iv x7)), (7, .av (iv x7))], [(0, .rows 4 [[bs [], bs [], bs [], bv false]]), (1, .rows 2 [[iv 0, iv 0]]), (2, .rows 4 [[bs x6, bs [], bs [], bv false]])], 3⟩) (by kernel_rfl) ?_
      refine jr_nil rfl ?_
      refine jx_seqN ?_
      refine jc_seq ?_
      refine jc_seq ?_
      refine jc_reg ?_
      refine jr_seg 0 2 [0, 2, 3, 4, 7, 38, 39] [0, 1, 2] (st1 := ⟨[(0, .av (bs a0)), (2, .av (.ptr 0 0 4 0)), (3, .av (.ptr 1 0 2 0)), (4, .av (.ptr 2 0 4 0)), (7, .av (iv x7)), (38, .av (bs a0)), (39, .av (iv x7))], [(0, .rows 4 [[bs [], bs [], bs [], bv false]]), (1, .rows 2 [[iv 0, iv 0]]), (2, .rows 4 [[bs x6, bs [], bs [], bv false]])], 3⟩) (by kernel_rfl) ?_
      refine jr_callF (i := 2) rfl rfl rfl rfl (vs := [bs a0, iv x7]) (by kernel_rfl) (snapL_cons rfl (snapL_cons rfl (snapL_nil _))) (all2_cons (fle_refl _) (all2_cons (fle_refl _) all2_nil)) (rpm_end_ok a0 x7) (fun _ => rfl) (fun _ => rfl) ?_
      intro x14 h14
      refine jr_seg 3 1 [0, 2, 3, 4, 5, 7] [0, 1, 2] (st1 := ⟨[(0, .av (bs a0)), (2, .av (.ptr 0 0 4 0)), (3, .av (.ptr 1 0 2 0)), (4, .av (.ptr 2 0 4 0)), (5, .av (iv x14)), (7, .av (iv x7))], [(0, .rows 4 [[bs [], bs [], bs [], bv false]]), (1, .rows 2 [[iv 0, iv 0]]), (2, .rows 4 [[bs x6, bs [], bs [], bv false]])], 3⟩) (by kernel_rfl) ?_
      refine jr_nil rfl ?_
      refine jx_seqN ?_
      refine jc_seq ?_
      refine jc_reg ?_
      refine jr_seg 0 3 [0, 2, 3, 4, 5, 7, 43] [0, 1, 2] (st1 := ⟨[(0, .av (bs a0)), (2, .av (.ptr 0 0 4 0)), (3, .av (.ptr 1 0 2 0)), (4, .av (.ptr 2 0 4 0)), (5, .av (iv x14)), (7, .av (iv x7)), (43, .av (bv (x14 == x7)))], [(0, .rows 4 [[bs [], bs [], bs [], bv false]]), (1, .rows 2 [[iv 0, iv 0]]), (2, .rows 4 [[bs x6, bs [], bs [], bv false]])], 3⟩) (by kernel_rfl) ?_
      refine jr_nil rfl ?_
      refine jx_seqN ?_
      refine jc_cond (g := 43) (c := (x14 == x7)) (by kernel_rfl) ?_ ?_
      · intro _
        refine jc_seq ?_
        refine jc_reg ?_
        refine jr_seg 0 3 [2, 3, 44, 45, 46] [0, 1] (st1 := ⟨[(2, .av (.ptr 0 0 4 0)), (3, .av (.ptr 1 0 2 0)), (44, .av (.agg [bs [], bs [], bs [], bv false])), (45, .av (bs a0)), (46, .av (iv x14))], [(0, .rows 4 [[bs [], bs [], bs [], bv false]]), (1, .rows 2 [[iv 0, iv 0]])], 3⟩) (by kernel_rfl) ?_
        refine jr_callF (i := 3) rfl rfl rfl rfl (vs := [bs a0, iv x14]) (by kernel_rfl) (snapL_cons rfl (snapL_cons rfl (snapL_nil _))) (all2_cons (fle_refl _) (all2_cons (fle_refl _) all2_nil)) (rpm_wrong_ok a0 x14) (fun _ => rfl) (fun _ => rfl) ?_
        intro x15 h15
        refine jr_seg 4 2 [2, 3] [0, 1] (st1 := ⟨[(2, .av (.ptr 0 0 4 0)), (3, .av (.ptr 1 0 2 0))], [(0, .rows 4 [[bs [], bs [], bs [], bv false]]), (1, .rows 2 [[iv x15.Err, iv x15.At]])], 3⟩) (by kernel_rfl) ?_
        refine jr_nil rfl ?_
        refine jx_seqN ?_
        refine jc_ret ?_
        refine jx_seqR ?_
        exact jx_retF (.inr rfl) (v := .tup [.agg [bs [], bs [], bs [], bv false], .agg [iv x15.Err, iv x15.At]]) (by kernel_rfl) (snapc_tup (snapL_cons rfl (snapL_cons rfl (snapL_nil _)))) (fle_tup (all2_cons (fle_refl _) (all2_cons (fle_refl _) all2_nil)))
      · intro _
        refine jc_skip ?_
        refine jx_seqN ?_
        refine jc_seq ?_
        refine jc_reg ?_
        refine jr_seg 0 3 [0, 2, 3, 4, 5, 48, 49, 50] [0, 1, 2] (st1 := ⟨[(0, .av (bs a0)), (2, .av (.ptr 0 0 4 0)), (3, .av (.ptr 1 0 2 0)), (4, .av (.ptr 2 0 4 0)), (5, .av (iv x14)), (48, .av (bs a0)), (49, .av (iv x7)), (50, .av (iv x14))], [(0, .rows 4 [[bs [], bs [], bs [], bv false]]), (1, .rows 2 [[iv 0, iv 0]]), (2, .rows 4 [[bs x6, bs [], bs [], bv false]])], 3⟩) (by kernel_rfl) ?_
        refine jr_part (i := 3) (mo := subl a0 x7 x14) rfl rfl rfl rfl (fun _ hc => aop_subs (by kernel_rfl) (by kernel_rfl) (by kernel_rfl) (by kernel_rfl) hc) (fun _ => rfl) ?_
        intro x16 h16
        refine jr_seg 4 2 [0, 2, 3, 4, 5] [0, 1, 2] (st1 := ⟨[(0, .av (bs a0)), (2, .av (.ptr 0 0 4 0)), (3, .av (.ptr 1 0 2 0)), (4, .av (.ptr 2 0 4 0)), (5, .av (iv x14))], [(0, .rows 4 [[bs [], bs [], bs [], bv false]]), (1, .rows 2 [[iv 0, iv 0]]), (2, .rows 4 [[bs x6, bs x16, bs [], bv false]])], 3⟩) (by kernel_rfl) ?_
        refine jr_nil rfl ?_
        refine jx_seqN ?_
        refine jc_seq ?_
        refine jc_bind (fun y => match y with | Sum.inl (x22, x23) => ⟨[(2, .av (.ptr 0 0 4 0)), (3, .av (.ptr 1 0 2 0))], [(0, .rows 4 [[bs [], bs [], bs [], bv false]]), (1, .rows 2 [[iv x22, iv x23]])], 2⟩ | Sum.inr (x24, x25, x26) => ⟨[(0, .av (bs a0)), (2, .av (.ptr 0 0 4 0)), (3, .av (.ptr 1 0 2 0)), (4, .av (.ptr 2 0 4 0)), (5, .av (iv x26))], [(0, .rows 4 [[bs [], bs [], bs [], bv false]]), (1, .rows 2 [[iv 0, iv 0]]), (2, .rows 4 [[bs x6, bs x16, bs x24, bv x25]])], 3⟩) (fun y => match y with | Sum.inl (x22, x23) => .ret | Sum.inr (x24, x25, x26) => .normal) ?_ ?_
        · refine jc_seq ?_
          refine jc_reg ?_
          refine jr_seg 0 5 [0, 2, 3, 4, 5, 57] [0, 1, 2] (st1 := ⟨[(0, .av (bs a0)), (2, .av (.ptr 0 0 4 0)), (3, .av (.ptr 1 0 2 0)), (4, .av (.ptr 2 0 4 0)), (5, .av (iv x14)), (57, .av (bv (decide (x14 < (List.length a0 : Int)))))], [(0, .rows 4 [[bs [], bs [], bs [], bv false]]), (1, .rows 2 [[iv 0, iv 0]]), (2, .rows 4 [[bs x6, bs x16, bs [], bv false]])], 3⟩) (by kernel_rfl) ?_
          refine jr_bind 5 5 (fun x28 => ⟨[(0, .av (bs a0)), (2, .av (.ptr 0 0 4 0)), (3, .av (.ptr 1 0 2 0)), (4, .av (.ptr 2 0 4 0)), (5, .av (iv x14)), (62, .av (bv x28))], [(0, .rows 4 [[bs [], bs [], bs [], bv false]]), (1, .rows 2 [[iv 0, iv 0]]), (2, .rows 4 [[bs x6, bs x16, bs [], bv false]])], 3⟩) ?_ ?_
          · refine jr_split (g := 57) (c := (decide (x14 < (List.length a0 : Int)))) (by kernel_rfl) ?_ ?_
            · intro _
              refine jr_seg 0 2 [0, 2, 3, 4, 5, 57, 58, 59] [0, 1, 2] (st1 := ⟨[(0, .av (bs a0)), (2, .av (.ptr 0 0 4 0)), (3, .av (.ptr 1 0 2 0)), (4, .av (.ptr 2 0 4 0)), (5, .av (iv x14)), (57, .lit true), (58, .av (bs a0)), (59, .av (iv x14))], [(0, .rows 4 [[bs [], bs [], bs [], bv false]]), (1, .rows 2 [[iv 0, iv 0]]), (2, .rows 4 [[bs x6, bs x16, bs [], bv false]])], 3⟩) (by kernel_rfl) ?_
              refine jr_part (i := 2) (mo := idx a0 x14) rfl rfl rfl rfl (fun _ hc => aop_index (kk := .i64) (by kernel_rfl) (by kernel_rfl) (by kernel_rfl) hc) (fun _ => rfl) ?_
              intro x29 h29
              refine jr_seg 3 2 [0, 2, 3, 4, 5, 62] [0, 1, 2] (st1 := ⟨[(0, .av (bs a0)), (2, .av (.ptr 0 0 4 0)), (3, .av (.ptr 1 0 2 0)), (4, .av (.ptr 2 0 4 0)), (5, .av (iv x14)), (62, .av (bv (x29 == 45)))], [(0, .rows 4 [[bs [], bs [], bs [], bv false]]), (1, .rows 2 [[iv 0, iv 0]]), (2, .rows 4 [[bs x6, bs x16, bs [], bv false]])], 3⟩) (by kernel_rfl) ?_
              refine jr_nil rfl ?_
              exact jx_mid rfl (wk_ren [(0, some 0), (1, some 1), (2, some 2)] (fix_nil _) rfl (by kernel_rfl) (allp_cons (.inl ⟨0, _, _, _, rfl, rfl, rfl, .inl (by kernel_rfl)⟩) (allp_cons (.inl ⟨1, _, _, _, rfl, rfl, rfl, .inl (by kernel_rfl)⟩) (allp_cons (.inl ⟨2, _, _, _, rfl, rfl, rfl, .inl (by kernel_rfl)⟩) allp_nil))))
            · intro _
              refine jr_seg 0 5 [0, 2, 3, 4, 5, 62] [0, 1, 2] (st1 := ⟨[(0, .av (bs a0)), (2, .av (.ptr 0 0 4 0)), (3, .av (.ptr 1 0 2 0)), (4, .av (.ptr 2 0 4 0)), (5, .av (iv x14)), (62, .av (bv false))], [(0, .rows 4 [[bs [], bs [], bs [], bv false]]), (1, .rows 2 [[iv 0, iv 0]]), (2, .rows 4 [[bs x6, bs x16, bs [], bv false]])], 3⟩) (by kernel_rfl) ?_
              refine jr_nil rfl ?_
              exact jx_mid rfl (wk_ren [(0, some 0), (1, some 1), (2, some 2)] (fix_nil _) rfl (by kernel_rfl) (allp_cons (.inl ⟨0, _, _, _, rfl, rfl, rfl, .inl (by kernel_rfl)⟩) (allp_cons (.inl ⟨1, _, _, _, rfl, rfl, rfl, .inl (by kernel_rfl)⟩) (allp_cons (.inl ⟨2, _, _, _, rfl, rfl, rfl, .inl (by kernel_rfl)⟩) allp_nil))))
          · intro x28
            refine jr_nil rfl ?_
            refine jx_seqN ?_
            refine jc_cond (g := 62) (c := x28) (by kernel_rfl) ?_ ?_
            · intro _
              refine jc_seq ?_
              refine jc_reg ?_
              refine jr_seg 0 3 [0, 2, 3, 4, 7] [0, 1, 2] (st1 := ⟨[(0, .av (bs a0)), (2, .av (.ptr 0 0 4 0)), (3, .av (.ptr 1 0 2 0)), (4, .av (.ptr 2 0 4 0)), (7, .av (iv (w64 (x14 + 1))))], [(0, .rows 4 [[bs [], bs [], bs [], bv false]]), (1, .rows 2 [[iv 0, iv 0]]), (2, .rows 4 [[bs x6, bs x16, bs [], bv false]])], 3⟩) (by kernel_rfl) ?_
              refine jr_nil rfl ?_
              refine jx_seqN ?_
              refine jc_seq ?_
              refine jc_seq ?_
              refine jc_reg ?_
              refine jr_seg 0 2 [0, 2, 3, 4, 7, 65, 66] [0, 1, 2] (st1 := ⟨[(0, .av (bs a0)), (2, .av (.ptr 0 0 4 0)), (3, .av (.ptr 1 0 2 0)), (4, .av (.ptr 2 0 4 0)), (7, .av (iv (w64 (x14 + 1)))), (65, .av (bs a0)), (66, .av (iv (w64 (x14 + 1))))], [(0, .rows 4 [[bs [], bs [], bs [], bv false]]), (1, .rows 2 [[iv 0, iv 0]]), (2, .rows 4 [[bs x6, bs x16, bs [], bv false]])], 3⟩) (by kernel_rfl) ?_
              refine jr_callF (i := 2) rfl rfl rfl rfl (vs := [bs a0, iv (w64 (x14 + 1))]) (by kernel_rfl) (snapL_cons rfl (snapL_cons rfl (snapL_nil _))) (all2_cons (fle_refl _) (all2_cons (fle_refl _) all2_nil)) (rpm_end_ok a0 (w64 (x14 + 1))) (fun _ => rfl) (fun _ => rfl) ?_
              intro x30 h30
              refine jr_seg 3 1 [0, 2, 3, 4, 5, 7] [0, 1, 2] (st1 := ⟨[(0, .av (bs a0)), (2, .av (.ptr 0 0 4 0)), (3, .av (.ptr 1 0 2 0)), (4, .av (.ptr 2 0 4 0)), (5, .av (iv x30)), (7, .av (iv (w64 (x14 + 1))))], [(0, .rows 4 [[bs [], bs [], bs [], bv false]]), (1, .rows 2 [[iv 0, iv 0]]), (2, .rows 4 [[bs x6, bs x16, bs [], bv false]])], 3⟩) (by kernel_rfl) ?_
              refine jr_nil rfl ?_
              refine jx_seqN ?_
              refine jc_seq ?_
              refine jc_reg ?_
              refine jr_seg 0 3 [0, 2, 3, 4, 5, 7, 70] [0, 1, 2] (st1 := ⟨[(0, .av (bs a0)), (2, .av (.ptr 0 0 4 0)), (3, .av (.ptr 1 0 2 0)), (4, .av (.ptr 2 0 4 0)), (5, .av (iv x30)), (7, .av (iv (w64 (x14 + 1)))), (70, .av (bv (x30 == (w64 (x14 + 1)))))], [(0, .rows 4 [[bs [], bs [], bs [], bv false]]), (1, .rows 2 [[iv 0, iv 0]]), (2, .rows 4 [[bs x6, bs x16, bs [], bv false]])], 3⟩) (by kernel_rfl) ?_
              refine jr_nil rfl ?_
              refine jx_seqN ?_
              refine jc_cond (g := 70) (c := (x30 == (w64 (x14 + 1)))) (by kernel_rfl) ?_ ?_
              · intro _
                refine jc_seq ?_
                refine jc_reg ?_
                refine jr_seg 0 3 [2, 3, 71, 72, 73] [0, 1] (st1 := ⟨[(2, .av (.ptr 0 0 4 0)), (3, .av (.ptr 1 0 2 0)), (71, .av (.agg [bs [], bs [], bs [], bv false])), (72, .av (bs a0)), (73, .av (iv x30))], [(0, .rows 4 [[bs [], bs [], bs [], bv false]]), (1, .rows 2 [[iv 0, iv 0]])], 3⟩) (by kernel_rfl) ?_
                refine jr_callF (i := 3) rfl rfl rfl rfl (vs := [bs a0, iv x30]) (by kernel_rfl) (snapL_cons rfl (snapL_cons rfl (snapL_nil _))) (all2_cons (fle_refl _) (all2_cons (fle_refl _) all2_nil)) (rpm_wrong_ok a0 x30) (fun _ => rfl) (fun _ => rfl) ?_
                intro x31 h31
                refine jr_seg 4 2 [2, 3] [0, 1] (st1 := ⟨[(2, .av (.ptr 0 0 4 0)), (3, .av (.ptr 1 0 2 0))], [(0, .rows 4 [[bs [], bs [], bs [], bv false]]), (1, .rows 2 [[iv x31.Err, iv x31.At]])], 3⟩) (by kernel_rfl) ?_
                refine jr_nil rfl ?_
                refine jx_seqN ?_
                refine jc_ret ?_
                refine jx_seqR ?_
                exact jx_mid rfl (wk_ren [(0, some 0), (1, some 1)] (fix_nil _) rfl (by kernel_rfl) (allp_cons (.inl ⟨0, _, _, _, rfl, rfl, rfl, .inl (by kernel_rfl)⟩) (allp_cons (.inl ⟨1, _, _, _, rfl, rfl, rfl, .inl (by kernel_rfl)⟩) allp_nil)))
              · intro _
                refine jc_skip ?_
                refine jx_seqN ?_
                refine jc_reg ?_
                refine jr_seg 0 3 [0, 2, 3, 4, 5, 75, 76, 77] [0, 1, 2] (st1 := ⟨[(0, .av (bs a0)), (2, .av (.ptr 0 0 4 0)), (3, .av (.ptr 1 0 2 0)), (4, .av (.ptr 2 0 4 0)), (5, .av (iv x30)), (75, .av (bs a0)), (76, .av (iv (w64 (x14 + 1)))), (77, .av (iv x30))], [(0, .rows 4 [[bs [], bs [], bs [], bv false]]), (1, .rows 2 [[iv 0, iv 0]]), (2, .rows 4 [[bs x6, bs x16, bs [], bv false]])], 3⟩) (by kernel_rfl) ?_
                refine jr_part (i := 3) (mo := subl a0 (w64 (x14 + 1)) x30) rfl rfl rfl rfl (fun _ hc => aop_subs (by kernel_rfl) (by kernel_rfl) (by kernel_rfl) (by kernel_rfl) hc) (fun _ => rfl) ?_
                intro x32 h32
                refine jr_seg 4 4 [0, 2, 3, 4, 5] [0, 1, 2] (st1 := ⟨[(0, .av (bs a0)), (2, .av (.ptr 0 0 4 0)), (3, .av (.ptr 1 0 2 0)), (4, .av (.ptr 2 0 4 0)), (5, .av (iv x30))], [(0, .rows 4 [[bs [], bs [], bs [], bv false]]), (1, .rows 2 [[iv 0, iv 0]]), (2, .rows 4 [[bs x6, bs x16, bs x32, bv true]])], 3⟩) (by kernel_rfl) ?_
                refine jr_nil rfl ?_
                exact jx_mid rfl (wk_ren [(0, some 0), (1, some 1), (2, some 2)] (fix_nil _) rfl (by kernel_rfl) (allp_cons (.inl ⟨0, _, _, _, rfl, rfl, rfl, .inl (by kernel_rfl)⟩) (allp_cons (.inl ⟨1, _, _, _, rfl, rfl, rfl, .inl (by kernel_rfl)⟩) (allp_cons (.inl ⟨2, _, _, _, rfl, rfl, rfl, .inl (by kernel_rfl)⟩) allp_nil))))
            · intro _
              refine jc_skip ?_
              exact jx_mid rfl (wk_ren [(0, some 0), (1, some 1), (2, some 2)] (fix_nil _) rfl (by kernel_rfl) (allp_cons (.inl ⟨0, _, _, _, rfl, rfl, rfl, .inl (by kernel_rfl)⟩) (allp_cons (.inl ⟨1, _, _, _, rfl, rfl, rfl, .inl (by kernel_rfl)⟩) (allp_cons (.inl ⟨2, _, _, _, rfl, rfl, rfl, .inl (by kernel_rfl)⟩) allp_nil))))
        · rintro (⟨x22, x23⟩ | ⟨x24, x25, x26⟩)
          · refine jx_seqR ?_
            exact jx_retF (.inr rfl) (v := .tup [.agg [bs [], bs [], bs [], bv false], .agg [iv x22, iv x23]]) (by kernel_rfl) (snapc_tup (snapL_cons rfl (snapL_cons rfl (snapL_nil _)))) (fle_tup (all2_cons (fle_refl _) (all2_cons (fle_refl _) all2_nil)))
          · refine jx_seqN ?_
            refine jc_seq ?_
            refine jc_seq ?_
            refine jc_reg ?_
            refine jr_seg 0 4 [0, 2, 3, 4, 5, 84] [0, 1, 2] (st1 := ⟨[(0, .av (bs a0)), (2, .av (.ptr 0 0 4 0)), (3, .av (.ptr 1 0 2 0)), (4, .av (.ptr 2 0 4 0)), (5, .av (iv x26)), (84, .av (bv (decide (x26 < (List.length a0 : Int)))))], [(0, .rows 4 [[bs [], bs [], bs [], bv false]]), (1, .rows 2 [[iv 0, iv 0]]), (2, .rows 4 [[bs x6, bs x16, bs x24, bv x25]])], 3⟩) (by kernel_rfl) ?_
            refine jr_nil rfl ?_
            refine jx_seqN ?_
            refine jc_cond (g := 84) (c := (decide (x26 < (List.length a0 : Int)))) (by kernel_rfl) ?_ ?_
            · intro _
              refine jc_seq ?_
              refine jc_reg ?_
              refine jr_seg 0 3 [2, 3, 85, 86, 87] [0, 1] (st1 := ⟨[(2, .av (.ptr 0 0 4 0)), (3, .av (.ptr 1 0 2 0)), (85, .av (.agg [bs [], bs [], bs [], bv false])), (86, .av (bs a0)), (87, .av (iv x26))], [(0, .rows 4 [[bs [], bs [], bs [], bv false]]), (1, .rows 2 [[iv 0, iv 0]])], 3⟩) (by kernel_rfl) ?_
              refine jr_callF (i := 3) rfl rfl rfl rfl (vs := [bs a0, iv x26]) (by kernel_rfl) (snapL_cons rfl (snapL_cons rfl (snapL_nil _))) (all2_cons (fle_refl _) (all2_cons (fle_refl _) all2_nil)) (rpm_wrong_ok a0 x26) (fun _ => rfl) (fun _ => rfl) ?_
              intro x33 h33
              refine jr_seg 4 2 [2, 3] [0, 1] (st1 := ⟨[(2, .av (.ptr 0 0 4 0)), (3, .av (.ptr 1 0 2 0))], [(0, .rows 4 [[bs [], bs [], bs [], bv false]]), (1, .rows 2 [[iv x33.Err, iv x33.At]])], 3⟩) (by kernel_rfl) ?_
              refine jr_nil rfl ?_
              refine jx_seqN ?_
              refine jc_ret ?_
              refine jx_seqR ?_
              exact jx_retF (.inr rfl) (v := .tup [.agg [bs [], bs [], bs [], bv false], .agg [iv x33.Err, iv x33.At]]) (by kernel_rfl) (snapc_tup (snapL_cons rfl (snapL_cons rfl (snapL_nil _)))) (fle_tup (all2_cons (fle_refl _) (all2_cons (fle_refl _) all2_nil)))
            · intro _
              refine jc_skip ?_
              refine jx_seqN ?_
              refine jc_seq ?_
              refine jc_reg ?_
              refine jr_seg 0 4 [2, 3] [0, 1] (st1 := ⟨[(2, .av (.ptr 0 0 4 0)), (3, .av (.ptr 1 0 2 0))], [(0, .rows 4 [[bs x6, bs x16, bs x24, bv x25]]), (1, .rows 2 [[iv 0, iv 0]])], 3⟩) (by kernel_rfl) ?_
              refine jr_nil rfl ?_
              refine jx_seqN ?_
              refine jc_ret ?_
              exact jx_retF (.inr rfl) (v := .tup [.agg [bs x6, bs x16, bs x24, bv x25], .agg [iv 0, iv 0]]) (by kernel_rfl) (snapc_tup (snapL_cons rfl (snapL_cons rfl (snapL_nil _)))) (fle_tup (all2_cons (fle_refl _) (all2_cons (fle_refl _) all2_nil))))
end Go.Vm

set_option maxRecDepth 100000
set_option maxHeartbeats 0
set_option linter.unusedVariables false
set_option linter.unusedSimpArgs false
namespace Go.Vm
open Go
abbrev ref05_Byte_r1 : List LO := [⟨some 2, Op.assign (Operand.const (Value.bool false)), 4, none⟩]
abbrev ref05_Byte_b2 : LC := .reg false ref05_Byte_r1
abbrev ref05_Byte_r3 : List LO := [⟨some 3, Op.move (Operand.tmp 0), 5, none⟩,
  ⟨some 4, Op.call { callee := Callee.value (Operand.func 27), args := #[Operand.tmp 3, Operand.const (Value.int IntKind.i64 5)], argTypes := #[5, 3] }, 4, none⟩,
  ⟨some 5, Op.move (Operand.tmp 4), 4, none⟩,
  ⟨some 6, Op.move (Operand.tmp 0), 5, (some (5, false))⟩,
  ⟨some 7, Op.binOp BinOp.eql 5 (Operand.tmp 6) (Operand.const (Value.int IntKind.u8 46)) 5, 4, (some (5, false))⟩,
  ⟨some 8, Op.pick (Operand.tmp 5) (Operand.const (Value.bool true)) (Operand.tmp 7), 4, none⟩,
  ⟨some 9, Op.move (Operand.tmp 8), 4, none⟩,
  ⟨some 10, Op.move (Operand.tmp 0), 5, (some (9, false))⟩,
  ⟨some 11, Op.binOp BinOp.eql 5 (Operand.tmp 10) (Operand.const (Value.int IntKind.u8 95)) 5, 4, (some (9, false))⟩,
  ⟨some 12, Op.pick (Operand.tmp 9) (Operand.const (Value.bool true)) (Operand.tmp 11), 4, none⟩,
  ⟨some 13, Op.move (Operand.tmp 12), 4, none⟩,
  ⟨some 14, Op.move (Operand.tmp 0), 5, (some (13, false))⟩,
  ⟨some 15, Op.binOp BinOp.eql 5 (Operand.tmp 14) (Operand.const (Value.int IntKind.u8 43)) 5, 4, (some (13, false))⟩,
  ⟨some 16, Op.pick (Operand.tmp 13) (Operand.const (Value.bool true)) (Operand.tmp 15), 4, none⟩,
  ⟨some 17, Op.move (Operand.tmp 16), 4, none⟩,
  ⟨some 18, Op.move (Operand.tmp 0), 5, (some (17, false))⟩,
  ⟨some 19, Op.binOp BinOp.eql 5 (Operand.tmp 18) (Operand.const (Value.int IntKind.u8 126)) 5, 4, (some (17, false))⟩,
  ⟨some 20, Op.pick (Operand.tmp 17) (Operand.const (Value.bool true)) (Operand.tmp 19), 4, none⟩,
  ⟨some 21, Op.move (Operand.tmp 20), 4, none⟩,
  ⟨some 22, Op.move (Operand.tmp 0), 5, (some (21, false))⟩,
  ⟨some 23, Op.binOp BinOp.eql 5 (Operand.tmp 22) (Operand.const (Value.int IntKind.u8 94)) 5, 4, (some (21, false))⟩,
  ⟨some 24, Op.pick (Operand.tmp 21) (Operand.const (Value.bool true)) (Operand.tmp 23), 4, none⟩,
  ⟨some 2, Op.assign (Operand.tmp 24), 4, none⟩]
abbrev ref05_Byte_b4 : LC := .reg false ref05_Byte_r3
abbrev ref05_Byte_b5 : LC := .seq ref05_Byte_b4 .ret
abbrev ref05_Byte_b6 : LC := .seq ref05_Byte_b2 ref05_Byte_b5
theorem ref05_Byte_k : FnOk E 119 25 [.tmp 2] ref05_Byte_b6 := ⟨⟨Go.Proofs.Tryd.f119, by kernel_rfl, by kernel_rfl, by kernel_rfl, by kernel_rfl, by kernel_rfl⟩, rfl⟩
noncomputable def ref05_Byte (a0 : Int) : Option (Bool) := Option.bind (ref01_Is a0 5) (fun x1 => some (((((x1 || (a0 == 46)) || (a0 == 95)) || (a0 == 43)) || (a0 == 126)) || (a0 == 94)))
theorem ref05_Byte_ok (a0 : Int) : Ct E 119 [.s (.int .u8 a0)] (ref05_Byte a0) (fun r : Bool => bv r) := ct_intro (N := 25) (L := ref05_Byte_b6) ref05_Byte_k rfl (Nat.le_of_ble_eq_true rfl) (by kernel_rfl) (by
  unfold ref05_Byte
  refine jc_seq ?_
  refine jc_reg ?_
  refine jr_seg 0 1 [0] [] (st1 := ⟨[(0, .av (.s (.int .u8 a0)))], [], 0⟩) (by kernel_rfl) ?_
  refine jr_nil rfl ?_
  refine jx_seqN ?_
  refine jc_seq ?_
  refine jc_reg ?_
  refine jr_seg 0 1 [0, 3] [] (st1 := ⟨[(0, .av (.s (.int .u8 a0))), (3, .av (.s (.int .u8 a0)))], [], 0⟩) (by kernel_rfl) ?_
  refine jr_callF (i := 1) rfl rfl rfl rfl (vs := [.s (.int .u8 a0), iv 5]) (by kernel_rfl) (snapL_cons rfl (snapL_cons rfl (snapL_nil _))) (all2_cons (fle_refl _) (all2_cons (fle_refl _) all2_nil)) (ref01_Is_ok a0 5) (fun _ => rfl) (fun _ => rfl) ?_
  intro x1 h1
  refine jr_seg 2 21 [2] [] (st1 := ⟨[(2, .av (bv (((((x1 || (a0 == 46)) || (a0 == 95)) || (a0 == 43)) || (a0 == 126)) || (a0 == 94))))], [], 0⟩) (by kernel_rfl) ?_
  refine jr_nil rfl ?_
  refine jx_seqN ?_
  refine jc_ret ?_
  exact jx_retF (.inr rfl) (v := bv (((((x1 || (a0 == 46)) || (a0 == 95)) || (a0 == 43)) || (a0 == 126)) || (a0 == 94))) (by kernel_rfl) rfl (fle_refl _))
end Go.Vm

set_option maxRecDepth 100000
set_option maxHeartbeats 0
set_option linter.unusedVariables false
set_option linter.unusedSimpArgs false
namespace Go.Vm
open Go
abbrev ref05_run_r1 : List LO := [⟨some 4, Op.assign (Operand.const (Value.int IntKind.i64 0)), 3, none⟩]
abbrev ref05_run_b2 : LC := .reg false ref05_run_r1
abbrev ref05_run_r3 : List LO := [⟨some 5, Op.move (Operand.tmp 1), 3, none⟩,
  ⟨some 6, Op.move (Operand.tmp 0), 9, none⟩,
  ⟨some 7, Op.call { callee := Callee.builtin Builtin.len, args := #[Operand.tmp 6], argTypes := #[9] }, 3, none⟩,
  ⟨some 8, Op.binOp BinOp.lss 3 (Operand.tmp 5) (Operand.tmp 7) 3, 4, none⟩,
  ⟨some 9, Op.move (Operand.tmp 8), 4, none⟩,
  ⟨some 10, Op.move (Operand.tmp 0), 9, (some (9, true))⟩,
  ⟨some 11, Op.move (Operand.tmp 1), 3, (some (9, true))⟩,
  ⟨some 12, Op.index 9 (Operand.tmp 10) (Operand.tmp 11), 5, (some (9, true))⟩,
  ⟨some 13, Op.call { callee := Callee.value (Operand.func 119), args := #[Operand.tmp 12], argTypes := #[5] }, 4, (some (9, true))⟩,
  ⟨some 14, Op.pick (Operand.tmp 9) (Operand.tmp 13) (Operand.const (Value.bool false)), 4, none⟩]
abbrev ref05_run_b4 : LC := .reg false ref05_run_r3
abbrev ref05_run_b5 : LC := .cond (Operand.tmp 14) .skip (.exit 0)
abbrev ref05_run_b6 : LC := .seq ref05_run_b4 ref05_run_b5
abbrev ref05_run_r7 : List LO := [⟨some 15, Op.move (Operand.tmp 1), 3, none⟩,
  ⟨some 16, Op.binOp BinOp.add 3 (Operand.tmp 15) (Operand.const (Value.int IntKind.i64 1)) 3, 3, none⟩,
  ⟨some 1, Op.assign (Operand.tmp 16), 3, none⟩]
abbrev ref05_run_b8 : LC := .reg false ref05_run_r7
abbrev ref05_run_b9 : LC := .block 1 ref05_run_b8
abbrev ref05_run_b10 : LC := .seq ref05_run_b6 ref05_run_b9
abbrev ref05_run_b11 : LC := .loop ref05_run_b10
abbrev ref05_run_b12 : LC := .block 0 ref05_run_b11
abbrev ref05_run_r13 : List LO := [⟨some 17, Op.move (Operand.tmp 1), 3, none⟩,
  ⟨some 4, Op.assign (Operand.tmp 17), 3, none⟩]
abbrev ref05_run_b14 : LC := .reg false ref05_run_r13
abbrev ref05_run_b15 : LC := .seq ref05_run_b14 .ret
abbrev ref05_run_b16 : LC := .seq ref05_run_b12 ref05_run_b15
abbrev ref05_run_b17 : LC := .seq ref05_run_b2 ref05_run_b16
theorem ref05_run_k : FnOk E 78 18 [.tmp 4] ref05_run_b17 := ⟨⟨Go.Proofs.Tryd.f78, by kernel_rfl, by kernel_rfl, by kernel_rfl, by kernel_rfl, by kernel_rfl⟩, rfl⟩
noncomputable def ref05_run_l1 (a0 : Str) : Int → Option (Step (Int) (Int)) := fun x4 => Option.bind (if (decide (x4 < (List.length a0 : Int))) = true then Option.bind (idx a0 x4) (fun x13 => Option.bind (ref05_Byte x13) (fun x14 => some x14)) else some false : Option (Bool)) (fun x12 => (if x12 = true then some (Step.next (w64 (x4 + 1))) else some (Step.done x4)))
noncomputable def ref05_run (a0 : Str) (a1 : Int) : Option (Int) := Option.bind (loopC (ref05_run_l1 a0) a1) (fun x9 => some x9)
theorem ref05_run_ok (a0 : Str) (a1 : Int) : Ct E 78 [bs a0, iv a1] (ref05_run a0 a1) (fun r : Int => iv r) := ct_intro (N := 18) (L := ref05_run_b17) ref05_run_k rfl (Nat.le_of_ble_eq_true rfl) (by kernel_rfl) (by
  unfold ref05_run
  refine jc_seq ?_
  refine jc_reg ?_
  refine jr_seg 0 1 [0, 1] [] (st1 := ⟨[(0, .av (bs a0)), (1, .av (iv a1))], [], 0⟩) (by kernel_rfl) ?_
  refine jr_nil rfl ?_
  refine jx_seqN ?_
  refine jc_seq ?_
  refine jc_block ?_
  refine jc_bind (fun x9 => ⟨[(1, .av (iv x9))], [], 0⟩) (fun x9 => (.exit 0)) (jc_loop (fun x4 => ⟨[(0, .av (bs a0)), (1, .av (iv x4))], [], 0⟩) (wk_ren [] (fix_nil _) rfl (by kernel_rfl) allp_nil) ?_) ?_
  · intro x4
    unfold ref05_run_l1
    refine jc_seq ?_
    refine jc_seq ?_
    refine jc_reg ?_
    refine jr_seg 0 5 [0, 1, 9] [] (st1 := ⟨[(0, .av (bs a0)), (1, .av (iv x4)), (9, .av (bv (decide (x4 < (List.length a0 : Int)))))], [], 0⟩) (by kernel_rfl) ?_
    refine jr_bind 5 5 (fun x12 => ⟨[(0, .av (bs a0)), (1, .av (iv x4)), (14, .av (bv x12))], [], 0⟩) ?_ ?_
    · refine jr_split (g := 9) (c := (decide (x4 < (List.length a0 : Int)))) (by kernel_rfl) ?_ ?_
      · intro _
        refine jr_seg 0 2 [0, 1, 9, 10, 11] [] (st1 := ⟨[(0, .av (bs a0)), (1, .av (iv x4)), (9, .lit true), (10, .av (bs a0)), (11, .av (iv x4))], [], 0⟩) (by kernel_rfl) ?_
        refine jr_part (i := 2) (mo := idx a0 x4) rfl rfl rfl rfl (fun _ hc => aop_index (kk := .i64) (by kernel_rfl) (by kernel_rfl) (by kernel_rfl) hc) (fun _ => rfl) ?_
        intro x13 h13
        refine jr_callF (i := 3) rfl rfl rfl rfl (vs := [.s (.int .u8 x13)]) (by kernel_rfl) (snapL_cons rfl (snapL_nil _)) (all2_cons (fle_refl _) all2_nil) (ref05_Byte_ok x13) (fun _ => rfl) (fun _ => rfl) ?_
        intro x14 h14
        refine jr_seg 4 1 [0, 1, 14] [] (st1 := ⟨[(0, .av (bs a0)), (1, .av (iv x4)), (14, .av (bv x14))], [], 0⟩) (by kernel_rfl) ?_
        refine jr_nil rfl ?_
        exact jx_mid rfl (wk_ren [] (fix_nil _) rfl (by kernel_rfl) allp_nil)
      · intro _
        refine jr_seg 0 5 [0, 1, 14] [] (st1 := ⟨[(0, .av (bs a0)), (1, .av (iv x4)), (14, .av (bv false))], [], 0⟩) (by kernel_rfl) ?_
        refine jr_nil rfl ?_
        exact jx_mid rfl (wk_ren [] (fix_nil _) rfl (by kernel_rfl) allp_nil)
    · intro x12
      refine jr_nil rfl ?_
      refine jx_seqN ?_
      refine jc_cond (g := 14) (c := x12) (by kernel_rfl) ?_ ?_
      · intro _
        refine jc_skip ?_
        refine jx_seqN ?_
        refine jc_block ?_
        refine jc_reg ?_
        refine jr_seg 0 3 [0, 1] [] (st1 := ⟨[(0, .av (bs a0)), (1, .av (iv (w64 (x4 + 1))))], [], 0⟩) (by kernel_rfl) ?_
        refine jr_nil rfl ?_
        refine jx_blkN ?_
        exact jx_next (wk_ren [] (fix_nil _) rfl (by kernel_rfl) allp_nil)
      · intro _
        refine jc_exit ?_
        refine jx_seqE ?_
        exact jx_done rfl nofun (wk_ren [] (fix_nil _) rfl (by kernel_rfl) allp_nil)
  · intro x9
    refine jx_blkE ?_
    refine jx_seqN ?_
    refine jc_seq ?_
    refine jc_reg ?_
    refine jr_seg 0 2 [4] [] (st1 := ⟨[(4, .av (iv x9))], [], 0⟩) (by kernel_rfl) ?_
    refine jr_nil rfl ?_
    refine jx_seqN ?_
    refine jc_ret ?_
    exact jx_retF (.inr rfl) (v := iv x9) (by kernel_rfl) rfl (fle_refl _))
end Go.Vm

set_option maxRecDepth 100000
set_option maxHeartbeats 0
set_option linter.unusedVariables false
set_option linter.unusedSimpArgs false
namespace Go.Vm
open Go
abbrev ref05_fault_r1 : List LO := [⟨some 4, Op.alloc 44, 0, none⟩]
abbrev ref05_fault_b2 : LC := .reg false ref05_fault_r1
abbrev ref05_fault_r3 : List LO := [⟨some 5, Op.move (Operand.tmp 1), 3, none⟩,
  ⟨some 6, Op.move (Operand.tmp 0), 9, none⟩,
  ⟨some 7, Op.call { callee := Callee.builtin Builtin.len, args := #[Operand.tmp 6], argTypes := #[9] }, 3, none⟩,
  ⟨some 8, Op.binOp BinOp.geq 3 (Operand.tmp 5) (Operand.tmp 7) 3, 4, none⟩]
abbrev ref05_fault_b4 : LC := .reg false ref05_fault_r3
abbrev ref05_fault_r5 : List LO := [⟨some 9, Op.move (Operand.tmp 1), 3, none⟩,
  ⟨some 10, Op.build 44 #[(0, Operand.const (Value.int IntKind.i64 11)), (1, Operand.tmp 9)], 44, none⟩,
  ⟨none, Op.store 44 (Operand.tmp 4) (Operand.tmp 10), 0, none⟩]
abbrev ref05_fault_b6 : LC := .reg false ref05_fault_r5
abbrev ref05_fault_b7 : LC := .seq ref05_fault_b6 .ret
abbrev ref05_fault_b8 : LC := .cond (Operand.tmp 8) ref05_fault_b7 .skip
abbrev ref05_fault_b9 : LC := .seq ref05_fault_b4 ref05_fault_b8
abbrev ref05_fault_r10 : List LO := [⟨some 11, Op.move (Operand.tmp 1), 3, none⟩,
  ⟨some 12, Op.build 44 #[(0, Operand.const (Value.int IntKind.i64 10)), (1, Operand.tmp 11)], 44, none⟩,
  ⟨none, Op.store 44 (Operand.tmp 4) (Operand.tmp 12), 0, none⟩]
abbrev ref05_fault_b11 : LC := .reg false ref05_fault_r10
abbrev ref05_fault_b12 : LC := .seq ref05_fault_b11 .ret
abbrev ref05_fault_b13 : LC := .seq ref05_fault_b9 ref05_fault_b12
abbrev ref05_fault_b14 : LC := .seq ref05_fault_b2 ref05_fault_b13
theorem ref05_fault_k : FnOk E 79 13 [.cell 4 44] ref05_fault_b14 := ⟨⟨Go.Proofs.Tryd.f79, by kernel_rfl, by kernel_rfl, by kernel_rfl, by kernel_rfl, by kernel_rfl⟩, rfl⟩
noncomputable def ref05_fault (a0 : Str) (a1 : Int) : Option (S_api_Fault) := (if (decide (a1 ≥ (List.length a0 : Int))) = true then some (S_api_Fault.mk 11 a1) else some (S_api_Fault.mk 10 a1))
theorem ref05_fault_ok (a0 : Str) (a1 : Int) : Ct E 79 [bs a0, iv a1] (ref05_fault a0 a1) (fun r : S_api_Fault => .agg [iv r.Err, iv r.At]) := ct_intro (N := 13) (L := ref05_fault_b14) ref05_fault_k rfl (Nat.le_of_ble_eq_true rfl) (by kernel_rfl) (by
  unfold ref05_fault
  refine jc_seq ?_
  refine jc_reg ?_
  refine jr_seg 0 1 [0, 1, 4] [0] (st1 := ⟨[(0, .av (bs a0)), (1, .av (iv a1)), (4, .av (.ptr 0 0 2 0))], [(0, .rows 2 [[iv 0, iv 0]])], 1⟩) (by kernel_rfl) ?_
  refine jr_nil rfl ?_
  refine jx_seqN ?_
  refine jc_seq ?_
  refine jc_seq ?_
  refine jc_reg ?_
  refine jr_seg 0 4 [1, 4, 8] [0] (st1 := ⟨[(1, .av (iv a1)), (4, .av (.ptr 0 0 2 0)), (8, .av (bv (decide (a1 ≥ (List.length a0 : Int)))))], [(0, .rows 2 [[iv 0, iv 0]])], 1⟩) (by kernel_rfl) ?_
  refine jr_nil rfl ?_
  refine jx_seqN ?_
  refine jc_cond (g := 8) (c := (decide (a1 ≥ (List.length a0 : Int)))) (by kernel_rfl) ?_ ?_
  · intro _
    refine jc_seq ?_
    refine jc_reg ?_
    refine jr_seg 0 3 [4] [0] (st1 := ⟨[(4, .av (.ptr 0 0 2 0))], [(0, .rows 2 [[iv 11, iv a1]])], 1⟩) (by kernel_rfl) ?_
    refine jr_nil rfl ?_
    refine jx_seqN ?_
    refine jc_ret ?_
    refine jx_seqR ?_
    exact jx_retF (.inr rfl) (v := .agg [iv 11, iv a1]) (by kernel_rfl) rfl (fle_refl _)
  · intro _
    refine jc_skip ?_
    refine jx_seqN ?_
    refine jc_seq ?_
    refine jc_reg ?_
    refine jr_seg 0 3 [4] [0] (st1 := ⟨[(4, .av (.ptr 0 0 2 0))], [(0, .rows 2 [[iv 10, iv a1]])], 1⟩) (by kernel_rfl) ?_
    refine jr_nil rfl ?_
    refine jx_seqN ?_
    refine jc_ret ?_
    exact jx_retF (.inr rfl) (v := .agg [iv 10, iv a1]) (by kernel_rfl) rfl (fle_refl _))
end Go.Vm

set_option maxRecDepth 100000
set_option maxHeartbeats 0
set_option linter.unusedVariables false
set_option linter.unusedSimpArgs false
namespace Go.Vm
open Go
abbrev ref05_Parse_r1 : List LO := [⟨some 2, Op.alloc 51, 0, none⟩,
  ⟨some 3, Op.alloc 44, 0, none⟩]
abbrev ref05_Parse_b2 : LC := .reg false ref05_Parse_r1
abbrev ref05_Parse_r3 : List LO := [⟨some 9, Op.move (Operand.tmp 0), 9, none⟩,
  ⟨some 10, Op.call { callee := Callee.builtin Builtin.len, args := #[Operand.tmp 9], argTypes := #[9] }, 3, none⟩,
  ⟨some 11, Op.binOp BinOp.gtr 3 (Operand.tmp 10) (Operand.const (Value.int IntKind.i64 64)) 3, 4, none⟩]
abbrev ref05_Parse_b4 : LC := .reg false ref05_Parse_r3
abbrev ref05_Parse_r5 : List LO := [⟨some 12, Op.build 51 #[], 51, none⟩,
  ⟨some 13, Op.build 44 #[(0, Operand.const (Value.int IntKind.i64 12)), (1, Operand.const (Value.int IntKind.i64 64))], 44, none⟩,
  ⟨none, Op.store 51 (Operand.tmp 2) (Operand.tmp 12), 0, none⟩,
  ⟨none, Op.store 44 (Operand.tmp 3) (Operand.tmp 13), 0, none⟩]
abbrev ref05_Parse_b6 : LC := .reg false ref05_Parse_r5
abbrev ref05_Parse_b7 : LC := .seq ref05_Parse_b6 .ret
abbrev ref05_Parse_b8 : LC := .cond (Operand.tmp 11) ref05_Parse_b7 .skip
abbrev ref05_Parse_b9 : LC := .seq ref05_Parse_b4 ref05_Parse_b8
abbrev ref05_Parse_r10 : List LO := [⟨some 14, Op.build 51 #[(0, Operand.const (Value.string { data := #[48] }))], 51, none⟩,
  ⟨some 4, Op.alloc 51, 0, none⟩,
  ⟨none, Op.store 51 (Operand.tmp 4) (Operand.tmp 14), 0, none⟩]
abbrev ref05_Parse_b11 : LC := .reg false ref05_Parse_r10
abbrev ref05_Parse_r12 : List LO := [⟨some 5, Op.assign (Operand.const (Value.int IntKind.i64 0)), 3, none⟩]
abbrev ref05_Parse_b13 : LC := .reg false ref05_Parse_r12
abbrev ref05_Parse_r14 : List LO := [⟨some 15, Op.move (Operand.tmp 0), 9, none⟩,
  ⟨some 16, Op.call { callee := Callee.value (Operand.func 31), args := #[Operand.tmp 15, Operand.const (Value.int IntKind.i64 0), Operand.const (Value.int IntKind.i64 1)], argTypes := #[9, 3, 3] }, 3, none⟩,
  ⟨some 6, Op.assign (Operand.tmp 16), 3, none⟩]
abbrev ref05_Parse_b15 : LC := .reg false ref05_Parse_r14
abbrev ref05_Parse_r16 : List LO := [⟨some 17, Op.move (Operand.tmp 6), 3, none⟩,
  ⟨some 18, Op.binOp BinOp.gtr 3 (Operand.tmp 17) (Operand.const (Value.int IntKind.i64 0)) 3, 4, none⟩,
  ⟨some 19, Op.move (Operand.tmp 18), 4, none⟩,
  ⟨some 20, Op.move (Operand.tmp 6), 3, (some (19, true))⟩,
  ⟨some 21, Op.move (Operand.tmp 0), 9, (some (19, true))⟩,
  ⟨some 22, Op.call { callee := Callee.builtin Builtin.len, args := #[Operand.tmp 21], argTypes := #[9] }, 3, (some (19, true))⟩,
  ⟨some 23, Op.binOp BinOp.lss 3 (Operand.tmp 20) (Operand.tmp 22) 3, 4, (some (19, true))⟩,
  ⟨some 24, Op.pick (Operand.tmp 19) (Operand.tmp 23) (Operand.const (Value.bool false)), 4, none⟩,
  ⟨some 25, Op.move (Operand.tmp 24), 4, none⟩,
  ⟨some 26, Op.move (Operand.tmp 0), 9, (some (25, true))⟩,
  ⟨some 27, Op.move (Operand.tmp 6), 3, (some (25, true))⟩,
  ⟨some 28, Op.index 9 (Operand.tmp 26) (Operand.tmp 27), 5, (some (25, true))⟩,
  ⟨some 29, Op.binOp BinOp.eql 5 (Operand.tmp 28) (Operand.const (Value.int IntKind.u8 58)) 5, 4, (some (25, true))⟩,
  ⟨some 30, Op.pick (Operand.tmp 25) (Operand.tmp 29) (Operand.const (Value.bool false)), 4, none⟩]
abbrev ref05_Parse_b17 : LC := .reg false ref05_Parse_r16
abbrev ref05_Parse_r18 : List LO := [⟨some 31, Op.move (Operand.tmp 0), 9, none⟩,
  ⟨some 32, Op.move (Operand.tmp 6), 3, none⟩,
  ⟨some 33, Op.slice 9 (Operand.tmp 31) none (some (Operand.tmp 32)) none, 9, none⟩,
  ⟨some 34, Op.call { callee := Callee.value (Operand.func 16), args := #[Operand.tmp 33], argTypes := #[9] }, 9, none⟩,
  ⟨some 35, Op.fieldAddr 51 (Operand.tmp 4) 0, 0, none⟩,
  ⟨none, Op.store 9 (Operand.tmp 35) (Operand.tmp 34), 0, none⟩]
abbrev ref05_Parse_b19 : LC := .reg false ref05_Parse_r18
abbrev ref05_Parse_r20 : List LO := [⟨some 36, Op.move (Operand.tmp 6), 3, none⟩,
  ⟨some 37, Op.binOp BinOp.add 3 (Operand.tmp 36) (Operand.const (Value.int IntKind.i64 1)) 3, 3, none⟩,
  ⟨some 5, Op.assign (Operand.tmp 37), 3, none⟩]
abbrev ref05_Parse_b21 : LC := .reg false ref05_Parse_r20
abbrev ref05_Parse_b22 : LC := .seq ref05_Parse_b19 ref05_Parse_b21
abbrev ref05_Parse_b23 : LC := .cond (Operand.tmp 30) ref05_Parse_b22 .skip
abbrev ref05_Parse_b24 : LC := .seq ref05_Parse_b17 ref05_Parse_b23
abbrev ref05_Parse_r25 : List LO := [⟨some 38, Op.move (Operand.tmp 0), 9, none⟩,
  ⟨some 39, Op.move (Operand.tmp 5), 3, none⟩,
  ⟨some 40, Op.call { callee := Callee.value (Operand.func 78), args := #[Operand.tmp 38, Operand.tmp 39], argTypes := #[9, 3] }, 3, none⟩,
  ⟨some 7, Op.assign (Operand.tmp 40), 3, none⟩]
abbrev ref05_Parse_b26 : LC := .reg false ref05_Parse_r25
abbrev ref05_Parse_r27 : List LO := [⟨some 41, Op.move (Operand.tmp 7), 3, none⟩,
  ⟨some 42, Op.move (Operand.tmp 5), 3, none⟩,
  ⟨some 43, Op.binOp BinOp.eql 3 (Operand.tmp 41) (Operand.tmp 42) 3, 4, none⟩]
abbrev ref05_Parse_b28 : LC := .reg false ref05_Parse_r27
abbrev ref05_Parse_r29 : List LO := [⟨some 44, Op.build 51 #[], 51, none⟩,
  ⟨some 45, Op.move (Operand.tmp 0), 9, none⟩,
  ⟨some 46, Op.move (Operand.tmp 5), 3, none⟩,
  ⟨some 47, Op.call { callee := Callee.value (Operand.func 79), args := #[Operand.tmp 45, Operand.tmp 46], argTypes := #[9, 3] }, 44, none⟩,
  ⟨none, Op.store 51 (Operand.tmp 2) (Operand.tmp 44), 0, none⟩,
  ⟨none, Op.store 44 (Operand.tmp 3) (Operand.tmp 47), 0, none⟩]
abbrev ref05_Parse_b30 : LC := .reg false ref05_Parse_r29
abbrev ref05_Parse_b31 : LC := .seq ref05_Parse_b30 .ret
abbrev ref05_Parse_b32 : LC := .cond (Operand.tmp 43) ref05_Parse_b31 .skip
abbrev ref05_Parse_b33 : LC := .seq ref05_Parse_b28 ref05_Parse_b32
abbrev ref05_Parse_r34 : List LO := [⟨some 48, Op.move (Operand.tmp 0), 9, none⟩,
  ⟨some 49, Op.move (Operand.tmp 5), 3, none⟩,
  ⟨some 50, Op.move (Operand.tmp 7), 3, none⟩,
  ⟨some 51, Op.slice 9 (Operand.tmp 48) (some (Operand.tmp 49)) (some (Operand.tmp 50)) none, 9, none⟩,
  ⟨some 52, Op.fieldAddr 51 (Operand.tmp 4) 1, 0, none⟩,
  ⟨none, Op.store 9 (Operand.tmp 52) (Operand.tmp 51), 0, none⟩]
abbrev ref05_Parse_b35 : LC := .reg false ref05_Parse_r34
abbrev ref05_Parse_r36 : List LO := [⟨some 53, Op.move (Operand.tmp 7), 3, none⟩,
  ⟨some 54, Op.move (Operand.tmp 0), 9, none⟩,
  ⟨some 55, Op.call { callee := Callee.builtin Builtin.len, args := #[Operand.tmp 54], argTypes := #[9] }, 3, none⟩,
  ⟨some 56, Op.binOp BinOp.lss 3 (Operand.tmp 53) (Operand.tmp 55) 3, 4, none⟩,
  ⟨some 57, Op.move (Operand.tmp 56), 4, none⟩,
  ⟨some 58, Op.move (Operand.tmp 0), 9, (some (57, true))⟩,
  ⟨some 59, Op.move (Operand.tmp 7), 3, (some (57, true))⟩,
  ⟨some 60, Op.index 9 (Operand.tmp 58) (Operand.tmp 59), 5, (some (57, true))⟩,
  ⟨some 61, Op.binOp BinOp.eql 5 (Operand.tmp 60) (Operand.const (Value.int IntKind.u8 45)) 5, 4, (some (57, true))⟩,
  ⟨some 62, Op.pick (Operand.tmp 57) (Operand.tmp 61) (Operand.const (Value.bool false)), 4, none⟩]
abbrev ref05_Parse_b37 : LC := .reg false ref05_Parse_r36
abbrev ref05_Parse_r38 : List LO := [⟨some 63, Op.move (Operand.tmp 0), 9, none⟩,
  ⟨some 64, Op.move (Operand.tmp 7), 3, none⟩,
  ⟨some 65, Op.binOp BinOp.add 3 (Operand.tmp 64) (Operand.const (Value.int IntKind.i64 1)) 3, 3, none⟩,
  ⟨some 66, Op.call { callee := Callee.value (Operand.func 78), args := #[Operand.tmp 63, Operand.tmp 65], argTypes := #[9, 3] }, 3, none⟩,
  ⟨some 8, Op.assign (Operand.tmp 66), 3, none⟩]
abbrev ref05_Parse_b39 : LC := .reg false ref05_Parse_r38
abbrev ref05_Parse_r40 : List LO := [⟨some 67, Op.move (Operand.tmp 8), 3, none⟩,
  ⟨some 68, Op.move (Operand.tmp 7), 3, none⟩,
  ⟨some 69, Op.binOp BinOp.add 3 (Operand.tmp 68) (Operand.const (Value.int IntKind.i64 1)) 3, 3, none⟩,
  ⟨some 70, Op.binOp BinOp.eql 3 (Operand.tmp 67) (Operand.tmp 69) 3, 4, none⟩]
abbrev ref05_Parse_b41 : LC := .reg false ref05_Parse_r40
abbrev ref05_Parse_r42 : List LO := [⟨some 71, Op.build 51 #[], 51, none⟩,
  ⟨some 72, Op.move (Operand.tmp 0), 9, none⟩,
  ⟨some 73, Op.move (Operand.tmp 8), 3, none⟩,
  ⟨some 74, Op.call { callee := Callee.value (Operand.func 79), args := #[Operand.tmp 72, Operand.tmp 73], argTypes := #[9, 3] }, 44, none⟩,
  ⟨none, Op.store 51 (Operand.tmp 2) (Operand.tmp 71), 0, none⟩,
  ⟨none, Op.store 44 (Operand.tmp 3) (Operand.tmp 74), 0, none⟩]
abbrev ref05_Parse_b43 : LC := .reg false ref05_Parse_r42
abbrev ref05_Parse_b44 : LC := .seq ref05_Parse_b43 .ret
abbrev ref05_Parse_b45 : LC := .cond (Operand.tmp 70) ref05_Parse_b44 .skip
abbrev ref05_Parse_b46 : LC := .seq ref05_Parse_b41 ref05_Parse_b45
abbrev ref05_Parse_r47 : List LO := [⟨some 75, Op.fieldAddr 51 (Operand.tmp 4) 3, 0, none⟩,
  ⟨none, Op.store 4 (Operand.tmp 75) (Operand.const (Value.bool true)), 0, none⟩]
abbrev ref05_Parse_b48 : LC := .reg false ref05_Parse_r47
abbrev ref05_Parse_r49 : List LO := [⟨some 76, Op.move (Operand.tmp 0), 9, none⟩,
  ⟨some 77, Op.move (Operand.tmp 7), 3, none⟩,
  ⟨some 78, Op.binOp BinOp.add 3 (Operand.tmp 77) (Operand.const (Value.int IntKind.i64 1)) 3, 3, none⟩,
  ⟨some 79, Op.move (Operand.tmp 8), 3, none⟩,
  ⟨some 80, Op.slice 9 (Operand.tmp 76) (some (Operand.tmp 78)) (some (Operand.tmp 79)) none, 9, none⟩,
  ⟨some 81, Op.fieldAddr 51 (Operand.tmp 4) 2, 0, none⟩,
  ⟨none, Op.store 9 (Operand.tmp 81) (Operand.tmp 80), 0, none⟩]
abbrev ref05_Parse_b50 : LC := .reg false ref05_Parse_r49
abbrev ref05_Parse_r51 : List LO := [⟨some 82, Op.move (Operand.tmp 8), 3, none⟩,
  ⟨some 7, Op.assign (Operand.tmp 82), 3, none⟩]
abbrev ref05_Parse_b52 : LC := .reg false ref05_Parse_r51
abbrev ref05_Parse_b53 : LC := .seq ref05_Parse_b50 ref05_Parse_b52
abbrev ref05_Parse_b54 : LC := .seq ref05_Parse_b48 ref05_Parse_b53
abbrev ref05_Parse_b55 : LC := .seq ref05_Parse_b46 ref05_Parse_b54
abbrev ref05_Parse_b56 : LC := .seq ref05_Parse_b39 ref05_Parse_b55
abbrev ref05_Parse_b57 : LC := .cond (Operand.tmp 62) ref05_Parse_b56 .skip
abbrev ref05_Parse_b58 : LC := .seq ref05_Parse_b37 ref05_Parse_b57
abbrev ref05_Parse_r59 : List LO := [⟨some 83, Op.move (Operand.tmp 7), 3, none⟩,
  ⟨some 84, Op.move (Operand.tmp 0), 9, none⟩,
  ⟨some 85, Op.call { callee := Callee.builtin Builtin.len, args := #[Operand.tmp 84], argTypes := #[9] }, 3, none⟩,
  ⟨some 86, Op.binOp BinOp.lss 3 (Operand.tmp 83) (Operand.tmp 85) 3, 4, none⟩]
abbrev ref05_Parse_b60 : LC := .reg false ref05_Parse_r59
abbrev ref05_Parse_r61 : List LO := [⟨some 87, Op.build 51 #[], 51, none⟩,
  ⟨some 88, Op.move (Operand.tmp 0), 9, none⟩,
  ⟨some 89, Op.move (Operand.tmp 7), 3, none⟩,
  ⟨some 90, Op.call { callee := Callee.value (Operand.func 79), args := #[Operand.tmp 88, Operand.tmp 89], argTypes := #[9, 3] }, 44, none⟩,
  ⟨none, Op.store 51 (Operand.tmp 2) (Operand.tmp 87), 0, none⟩,
  ⟨none, Op.store 44 (Operand.tmp 3) (Operand.tmp 90), 0, none⟩]
abbrev ref05_Parse_b62 : LC := .reg false ref05_Parse_r61
abbrev ref05_Parse_b63 : LC := .seq ref05_Parse_b62 .ret
abbrev ref05_Parse_b64 : LC := .cond (Operand.tmp 86) ref05_Parse_b63 .skip
abbrev ref05_Parse_b65 : LC := .seq ref05_Parse_b60 ref05_Parse_b64
abbrev ref05_Parse_r66 : List LO := [⟨some 91, Op.load 51 (Operand.tmp 4), 51, none⟩,
  ⟨some 92, Op.build 44 #[], 44, none⟩,
  ⟨none, Op.store 51 (Operand.tmp 2) (Operand.tmp 91), 0, none⟩,
  ⟨none, Op.store 44 (Operand.tmp 3) (Operand.tmp 92), 0, none⟩]
abbrev ref05_Parse_b67 : LC := .reg false ref05_Parse_r66
abbrev ref05_Parse_b68 : LC := .seq ref05_Parse_b67 .ret
abbrev ref05_Parse_b69 : LC := .seq ref05_Parse_b65 ref05_Parse_b68
abbrev ref05_Parse_b70 : LC := .seq ref05_Parse_b58 ref05_Parse_b69
abbrev ref05_Parse_b71 : LC := .seq ref05_Parse_b35 ref05_Parse_b70
abbrev ref05_Parse_b72 : LC := .seq ref05_Parse_b33 ref05_Parse_b71
abbrev ref05_Parse_b73 : LC := .seq ref05_Parse_b26 ref05_Parse_b72
abbrev ref05_Parse_b74 : LC := .seq ref05_Parse_b24 ref05_Parse_b73
abbrev ref05_Parse_b75 : LC := .seq ref05_Parse_b15 ref05_Parse_b74
abbrev ref05_Parse_b76 : LC := .seq ref05_Parse_b13 ref05_Parse_b75
abbrev ref05_Parse_b77 : LC := .seq ref05_Parse_b11 ref05_Parse_b76
abbrev ref05_Parse_b78 : LC := .seq ref05_Parse_b9 ref05_Parse_b77
abbrev ref05_Parse_b79 : LC := .seq ref05_Parse_b2 ref05_Parse_b78
theorem ref05_Parse_k : FnOk E 38 93 [.cell 2 51, .cell 3 44] ref05_Parse_b79 := ⟨⟨Go.Proofs.Tryd.f38, by kernel_rfl, by kernel_rfl, by kernel_rfl, by kernel_rfl, by kernel_rfl⟩, rfl⟩
noncomputable def ref05_Parse (a0 : Str) : Option (S_api_Evr × S_api_Fault) := (if (decide ((List.length a0 : Int) > 64)) = true then some ((S_api_Evr.mk [] [] [] false), (S_api_Fault.mk 12 64)) else Option.bind (ref01_Run a0 0 1) (fun x1 => Option.bind (Option.bind (if ((decide (x1 > 0)) && (decide (x1 < (List.length a0 : Int)))) = true then Option.bind (idx a0 x1) (fun x10 => some (x10 == 58)) else some false : Option (Bool)) (fun x9 => (if x9 = true then Option.bind (subl a0 0 x1) (fun x11 => Option.bind (ref01_Trim x11) (fun x12 => some (x12, (w64 (x1 + 1))))) else some ([48], 0))) : Option (Str × Int)) (fun (x6, x7) => Option.bind (ref05_run a0 x7) (fun x13 => (if (x13 == x7) = true then Option.bind (ref05_fault a0 x7) (fun x14 => some ((S_api_Evr.mk [] [] [] false), x14)) else Option.bind (subl a0 x7 x13) (fun x15 => Option.bind (Option.bind (if (decide (x13 < (List.length a0 : Int))) = true then Option.bind (idx a0 x13) (fun x28 => some (x28 == 45)) else some false : Option (Bool)) (fun x27 => (if x27 = true then Option.bind (ref05_run a0 (w64 (x13 + 1))) (fun x29 => (if (x29 == (w64 (x13 + 1))) = true then Option.bind (ref05_fault a0 x29) (fun x30 => some (Sum.inl (x30.Err, x30.At))) else Option.bind (subl a0 (w64 (x13 + 1)) x29) (fun x31 => some (Sum.inr (x31, true, x29))))) else some (Sum.inr ([], false, x13)))) : Option ((Int × Int) ⊕ (Str × Bool × Int))) (fun y => match y with | Sum.inl (x21, x22) => some ((S_api_Evr.mk [] [] [] false), (S_api_Fault.mk x21 x22)) | Sum.inr (x23, x24, x25) => (if (decide (x25 < (List.length a0 : Int))) = true then Option.bind (ref05_fault a0 x25) (fun x32 => some ((S_api_Evr.mk [] [] [] false), x32)) else some ((S_api_Evr.mk x6 x15 x23 x24), (S_api_Fault.mk 0 0))))))))))
theorem ref05_Parse_ok (a0 : Str) : Ct E 38 [bs a0] (ref05_Parse a0) (fun r : S_api_Evr × S_api_Fault => .tup [.agg [bs r.1.Epoch, bs r.1.Ver, bs r.1.Rel, bv r.1.HasRel], .agg [iv r.2.Err, iv r.2.At]]) := ct_intro (N := 93) (L := ref05_Parse_b79) ref05_Parse_k rfl (Nat.le_of_ble_eq_true rfl) (by kernel_rfl) (by
  unfold ref05_Parse
  refine jc_seq ?_
  refine jc_reg ?_
  refine jr_seg 0 2 [0, 2, 3] [0, 1] (st1 := ⟨[(0, .av (bs a0)), (2, .av (.ptr 0 0 4 0)), (3, .av (.ptr 1 0 2 0))], [(0, .rows 4 [[bs [], bs [], bs [], bv false]]), (1, .rows 2 [[iv 0, iv 0]])], 2⟩) (by kernel_rfl) ?_
  refine jr_nil rfl ?_
  refine jx_seqN ?_
  refine jc_seq ?_
  refine jc_seq ?_
  refine jc_reg ?_
  refine jr_seg 0 3 [0, 2, 3, 11] [0, 1] (st1 := ⟨[(0, .av (bs a0)), (2, .av (.ptr 0 0 4 0)), (3, .av (.ptr 1 0 2 0)), (11, .av (bv (decide ((List.length a0 : Int) > 64))))], [(0, .rows 4 [[bs [], bs [], bs [], bv false]]), (1, .rows 2 [[iv 0, iv 0]])], 2⟩) (by kernel_rfl) ?_
  refine jr_nil rfl ?_
  refine jx_seqN ?_
  refine jc_cond (g := 11) (c := (decide ((List.length a0 : Int) > 64))) (by kernel_rfl) ?_ ?_
  · intro _
    refine jc_seq ?_
    refine jc_reg ?_
    refine jr_seg 0 4 [2, 3] [0, 1] (st1 := ⟨[(2, .av (.ptr 0 0 4 0)), (3, .av (.ptr 1 0 2 0))], [(0, .rows 4 [[bs [], bs [], bs [], bv false]]), (1, .rows 2 [[iv 12, iv 64]])], 2⟩) (by kernel_rfl) ?_
    refine jr_nil rfl ?_
    refine jx_seqN ?_
    refine jc_ret ?_
    refine jx_seqR ?_
    exact jx_retF (.inr rfl) (v := .tup [.agg [bs [], bs [], bs [], bv false], .agg [iv 12, iv 64]]) (by kernel_rfl) (snapc_tup (snapL_cons rfl (snapL_cons rfl (snapL_nil _)))) (fle_tup (all2_cons (fle_refl _) (all2_cons (fle_refl _) all2_nil)))
  · intro _
    refine jc_skip ?_
    refine jx_seqN ?_
    refine jc_seq ?_
    refine jc_reg ?_
    refine jr_seg 0 3 [0, 2, 3, 4] [0, 1, 2] (st1 := ⟨[(0, .av (bs a0)), (2, .av (.ptr 0 0 4 0)), (3, .av (.ptr 1 0 2 0)), (4, .av (.ptr 2 0 4 0))], [(0, .rows 4 [[bs [], bs [], bs [], bv false]]), (1, .rows 2 [[iv 0, iv 0]]), (2, .rows 4 [[bs [48], bs [], bs [], bv false]])], 3⟩) (by kernel_rfl) ?_
    refine jr_nil rfl ?_
    refine jx_seqN ?_
    refine jc_seq ?_
    refine jc_reg ?_
    refine jr_seg 0 1 [0, 2, 3, 4, 5] [0, 1, 2] (st1 := ⟨[(0, .av (bs a0)), (2, .av (.ptr 0 0 4 0)), (3, .av (.ptr 1 0 2 0)), (4, .av (.ptr 2 0 4 0)), (5, .av (iv 0))], [(0, .rows 4 [[bs [], bs [], bs [], bv false]]), (1, .rows 2 [[iv 0, iv 0]]), (2, .rows 4 [[bs [48], bs [], bs [], bv false]])], 3⟩) (by kernel_rfl) ?_
    refine jr_nil rfl ?_
    refine jx_seqN ?_
    refine jc_seq ?_
    refine jc_reg ?_
    refine jr_seg 0 1 [0, 2, 3, 4, 5, 15] [0, 1, 2] (st1 := ⟨[(0, .av (bs a0)), (2, .av (.ptr 0 0 4 0)), (3, .av (.ptr 1 0 2 0)), (4, .av (.ptr 2 0 4 0)), (5, .av (iv 0)), (15, .av (bs a0))], [(0, .rows 4 [[bs [], bs [], bs [], bv false]]), (1, .rows 2 [[iv 0, iv 0]]), (2, .rows 4 [[bs [48], bs [], bs [], bv false]])], 3⟩) (by kernel_rfl) ?_
    refine jr_callF (i := 1) rfl rfl rfl rfl (vs := [bs a0, iv 0, iv 1]) (by kernel_rfl) (snapL_cons rfl (snapL_cons rfl (snapL_cons rfl (snapL_nil _)))) (all2_cons (fle_refl _) (all2_cons (fle_refl _) (all2_cons (fle_refl _) all2_nil))) (ref01_Run_ok a0 0 1) (fun _ => rfl) (fun _ => rfl) ?_
    intro x1 h1
    refine jr_seg 2 1 [0, 2, 3, 4, 5, 6] [0, 1, 2] (st1 := ⟨[(0, .av (bs a0)), (2, .av (.ptr 0 0 4 0)), (3, .av (.ptr 1 0 2 0)), (4, .av (.ptr 2 0 4 0)), (5, .av (iv 0)), (6, .av (iv x1))], [(0, .rows 4 [[bs [], bs [], bs [], bv false]]), (1, .rows 2 [[iv 0, iv 0]]), (2, .rows 4 [[bs [48], bs [], bs [], bv false]])], 3⟩) (by kernel_rfl) ?_
    refine jr_nil rfl ?_
    refine jx_seqN ?_
    refine jc_seq ?_
    refine jc_bind (fun (x6, x7) => ⟨[(0, .av (bs a0)), (2, .av (.ptr 0 0 4 0)), (3, .av (.ptr 1 0 2 0)), (4, .av (.ptr 2 0 4 0)), (5, .av (iv x7))], [(0, .rows 4 [[bs [], bs [], bs [], bv false]]), (1, .rows 2 [[iv 0, iv 0]]), (2, .rows 4 [[bs x6, bs [], bs [], bv false]])], 3⟩) (fun (x6, x7) => .normal) ?_ ?_
    · refine jc_seq ?_
      refine jc_reg ?_
      refine jr_seg 0 9 [0, 2, 3, 4, 5, 6, 25] [0, 1, 2] (st1 := ⟨[(0, .av (bs a0)), (2, .av (.ptr 0 0 4 0)), (3, .av (.ptr 1 0 2 0)), (4, .av (.ptr 2 0 4 0)), (5, .av (iv 0)), (6, .av (iv x1)), (25, .av (bv ((decide (x1 > 0)) && (decide (x1 < (List.length a0 : Int))))))], [(0, .rows 4 [[bs [], bs [], bs [], bv false]]), (1, .rows 2 [[iv 0, iv 0]]), (2, .rows 4 [[bs [48], bs [], bs [], bv false]])], 3⟩) (by kernel_rfl) ?_
      refine jr_bind 9 5 (fun x9 => ⟨[(0, .av (bs a0)), (2, .av (.ptr 0 0 4 0)), (3, .av (.ptr 1 0 2 0)), (4, .av (.ptr 2 0 4 0)), (5, .av (iv 0)), (6, .av (iv x1)), (30, .av (bv x9))], [(0, .rows 4 [[bs [], bs [], bs [], bv false]]), (1, .rows 2 [[iv 0, iv 0]]), (2, .rows 4 [[bs [48], bs [], bs [], bv false]])], 3⟩) ?_ ?_
      · refine jr_split (g := 25) (c := ((decide (x1 > 0)) && (decide (x1 < (List.length a0 : Int))))) (by kernel_rfl) ?_ ?_
        · intro _
          refine jr_seg 0 2 [0, 2, 3, 4, 5, 6, 25, 26, 27] [0, 1, 2] (st1 := ⟨[(0, .av (bs a0)), (2, .av (.ptr 0 0 4 0)), (3, .av (.ptr 1 0 2 0)), (4, .av (.ptr 2 0 4 0)), (5, .av (iv 0)), (6, .av (iv x1)), (25, .lit true), (26, .av (bs a0)), (27, .av (iv x1))], [(0, .rows 4 [[bs [], bs [], bs [], bv false]]), (1, .rows 2 [[iv 0, iv 0]]), (2, .rows 4 [[bs [48], bs [], bs [], bv false]])], 3⟩) (by kernel_rfl) ?_
          refine jr_part (i := 2) (mo := idx a0 x1) rfl rfl rfl rfl (fun _ hc => aop_index (kk := .i64) (by kernel_rfl) (by kernel_rfl) (by kernel_rfl) hc) (fun _ => rfl) ?_
          intro x10 h10
          refine jr_seg 3 2 [0, 2, 3, 4, 5, 6, 30] [0, 1, 2] (st1 := ⟨[(0, .av (bs a0)), (2, .av (.ptr 0 0 4 0)), (3, .av (.ptr 1 0 2 0)), (4, .av (.ptr 2 0 4 0)), (5, .av (iv 0)), (6, .av (iv x1)), (30, .av (bv (x10 == 58)))], [(0, .rows 4 [[bs [], bs [], bs [], bv false]]), (1, .rows 2 [[iv 0, iv 0]]), (2, .rows 4 [[bs [48], bs [], bs [], bv false]])], 3⟩) (by kernel_rfl) ?_
          refine jr_nil rfl ?_
          exact jx_mid rfl (wk_ren [(0, some 0), (1, some 1), (2, some 2)] (fix_nil _) rfl (by kernel_rfl) (allp_cons (.inl ⟨0, _, _, _, rfl, rfl, rfl, .inl (by kernel_rfl)⟩) (allp_cons (.inl ⟨1, _, _, _, rfl, rfl, rfl, .inl (by kernel_rfl)⟩) (allp_cons (.inl ⟨2, _, _, _, rfl, rfl, rfl, .inl (by kernel_rfl)⟩) allp_nil))))
        · intro _
          refine jr_seg 0 5 [0, 2, 3, 4, 5, 6, 30] [0, 1, 2] (st1 := ⟨[(0, .av (bs a0)), (2, .av (.ptr 0 0 4 0)), (3, .av (.ptr 1 0 2 0)), (4, .av (.ptr 2 0 4 0)), (5, .av (iv 0)), (6, .av (iv x1)), (30, .av (bv false))], [(0, .rows 4 [[bs [], bs [], bs [], bv false]]), (1, .rows 2 [[iv 0, iv 0]]), (2, .rows 4 [[bs [48], bs [], bs [], bv false]])], 3⟩) (by kernel_rfl) ?_
          refine jr_nil rfl ?_
          exact jx_mid rfl (wk_ren [(0, some 0), (1, some 1), (2, some 2)] (fix_nil _) rfl (by kernel_rfl) (allp_cons (.inl ⟨0, _, _, _, rfl, rfl, rfl, .inl (by kernel_rfl)⟩) (allp_cons (.inl ⟨1, _, _, _, rfl, rfl, rfl, .inl (by kernel_rfl)⟩) (allp_cons (.inl ⟨2, _, _, _, rfl, rfl, rfl, .inl (by kernel_rfl)⟩) allp_nil))))
      · intro x9
        refine jr_nil rfl ?_
        refine jx_seqN ?_
        refine jc_cond (g := 30) (c := x9) (by kernel_rfl) ?_ ?_
        · intro _
          refine jc_seq ?_
          refine jc_reg ?_
          refine jr_seg 0 2 [0, 2, 3, 4, 6, 31, 32] [0, 1, 2] (st1 := ⟨[(0, .av (bs a0)), (2, .av (.ptr 0 0 4 0)), (3, .av (.ptr 1 0 2 0)), (4, .av (.ptr 2 0 4 0)), (6, .av (iv x1)), (31, .av (bs a0)), (32, .av (iv x1))], [(0, .rows 4 [[bs [], bs [], bs [], bv false]]), (1, .rows 2 [[iv 0, iv 0]]), (2, .rows 4 [[bs [48], bs [], bs [], bv false]])], 3⟩) (by kernel_rfl) ?_
          refine jr_part (i := 2) (mo := subl a0 0 x1) rfl rfl rfl rfl (fun _ hc => aop_subs (by kernel_rfl) (by kernel_rfl) (by kernel_rfl) (by kernel_rfl) hc) (fun _ => rfl) ?_
          intro x11 h11
          refine jr_callF (i := 3) rfl rfl rfl rfl (vs := [bs x11]) (by kernel_rfl) (snapL_cons rfl (snapL_nil _)) (all2_cons (fle_refl _) all2_nil) (ref01_Trim_ok x11) (fun _ => rfl) (fun _ => rfl) ?_
          intro x12 h12
          refine jr_seg 4 2 [0, 2, 3, 4, 6] [0, 1, 2] (st1 := ⟨[(0, .av (bs a0)), (2, .av (.ptr 0 0 4 0)), (3, .av (.ptr 1 0 2 0)), (4, .av (.ptr 2 0 4 0)), (6, .av (iv x1))], [(0, .rows 4 [[bs [], bs [], bs [], bv false]]), (1, .rows 2 [[iv 0, iv 0]]), (2, .rows 4 [[bs x12, bs [], bs [], bv false]])], 3⟩) (by kernel_rfl) ?_
          refine jr_nil rfl ?_
          refine jx_seqN ?_
          refine jc_reg ?_
          refine jr_seg 0 3 [0, 2, 3, 4, 5] [0, 1, 2] (st1 := ⟨[(0, .av (bs a0)), (2, .av (.ptr 0 0 4 0)), (3, .av (.ptr 1 0 2 0)), (4, .av (.ptr 2 0 4 0)), (5, .av (iv (w64 (x1 + 1))))], [(0, .rows 4 [[bs [], bs [], bs [], bv false]]), (1, .rows 2 [[iv 0, iv 0]]), (2, .rows 4 [[bs x12, bs [], bs [], bv false]])], 3⟩) (by kernel_rfl) ?_
          refine jr_nil rfl ?_
          exact jx_mid rfl (wk_ren [(0, some 0), (1, some 1), (2, some 2)] (fix_nil _) rfl (by kernel_rfl) (allp_cons (.inl ⟨0, _, _, _, rfl, rfl, rfl, .inl (by kernel_rfl)⟩) (allp_cons (.inl ⟨1, _, _, _, rfl, rfl, rfl, .inl (by kernel_rfl)⟩) (allp_cons (.inl ⟨2, _, _, _, rfl, rfl, rfl, .inl (by kernel_rfl)⟩) allp_nil))))
        · intro _
          refine jc_skip ?_
          exact jx_mid rfl (wk_ren [(0, some 0), (1, some 1), (2, some 2)] (fix_nil _) rfl (by kernel_rfl) (allp_cons (.inl ⟨0, _, _, _, rfl, rfl, rfl, .inl (by kernel_rfl)⟩) (allp_cons (.inl ⟨1, _, _, _, rfl, rfl, rfl, .inl (by kernel_rfl)⟩) (allp_cons (.inl ⟨2, _, _, _, rfl, rfl, rfl, .inl (by kernel_rfl)⟩) allp_nil))))
    · rintro ⟨x6, x7⟩
      refine jx_seqN ?_
      refine jc_seq ?_
      refine jc_reg ?_
      refine jr_seg 0 2 [0, 2, 3, 4, 5, 38, 39] [0, 1, 2] (st1 := ⟨[(0, .av (bs a0)), (2, .av (.ptr 0 0 4 0)), (3, .av (.ptr 1 0 2 0)), (4, .av (.ptr 2 0 4 0)), (5, .av (iv x7)), (38, .av (bs a0)), (39, .av (iv x7))], [(0, .rows 4 [[bs [], bs [], bs [], bv false]]), (1, .rows 2 [[iv 0, iv 0]]), (2, .rows 4 [[bs x6, bs [], bs [], bv false]])], 3⟩) (by kernel_rfl) ?_
      refine jr_callF (i := 2) rfl rfl rfl rfl (vs := [bs a0, iv x7]) (by kernel_rfl) (snapL_cons rfl (snapL_cons rfl (snapL_nil _))) (all2_cons (fle_refl _) (all2_cons (fle_refl _) all2_nil)) (ref05_run_ok a0 x7) (fun _ => rfl) (fun _ => rfl) ?_
      intro x13 h13
      refine jr_seg 3 1 [0, 2, 3, 4, 5, 7] [0, 1, 2] (st1 := ⟨[(0, .av (bs a0)), (2, .av (.ptr 0 0 4 0)), (3, .av (.ptr 1 0 2 0)), (4, .av (.ptr 2 0 4 0)), (5, .av (iv x7)), (7, .av (iv x13))], [(0, .rows 4 [[bs [], bs [], bs [], bv false]]), (1, .rows 2 [[iv 0, iv 0]]), (2, .rows 4 [[bs x6, bs [], bs [], bv false]])], 3⟩) (by kernel_rfl) ?_
      refine jr_nil rfl ?_
      refine jx_seqN ?_
      refine jc_seq ?_
      refine jc_seq ?_
      refine jc_reg ?_
      refine jr_seg 0 3 [0, 2, 3, 4, 5, 7, 43] [0, 1, 2] (st1 := ⟨[(0, .av (bs a0)), (2, .av (.ptr 0 0 4 0)), (3, .av (.ptr 1 0 2 0)), (4, .av (.ptr 2 0 4 0)), (5, .av (iv x7)), (7, .av (iv x13)), (43, .av (bv (x13 == x7)))], [(0, .rows 4 [[bs [], bs [], bs [], bv false]]), (1, .rows 2 [[iv 0, iv 0]]), (2, .rows 4 [[bs x6, bs [], bs [], bv false]])], 3⟩) (by kernel_rfl) ?_
      refine jr_nil rfl ?_
      refine jx_seqN ?_
      refine jc_cond (g := 43) (c := (x13 == x7)) (by kernel_rfl) ?_ ?_
      · intro _
        refine jc_seq ?_
        refine jc_reg ?_
        refine jr_seg 0 3 [2, 3, 44, 45, 46] [0, 1] (st1 := ⟨[(2, .av (.ptr 0 0 4 0)), (3, .av (.ptr 1 0 2 0)), (44, .av (.agg [bs [], bs [], bs [], bv false])), (45, .av (bs a0)), (46, .av (iv x7))], [(0, .rows 4 [[bs [], bs [], bs [], bv false]]), (1, .rows 2 [[iv 0, iv 0]])], 3⟩) (by kernel_rfl) ?_
        refine jr_callF (i := 3) rfl rfl rfl rfl (vs := [bs a0, iv x7]) (by kernel_rfl) (snapL_cons rfl (snapL_cons rfl (snapL_nil _))) (all2_cons (fle_refl _) (all2_cons (fle_refl _) all2_nil)) (ref05_fault_ok a0 x7) (fun _ => rfl) (fun _ => rfl) ?_
        intro x14 h14
        refine jr_seg 4 2 [2, 3] [0, 1] (st1 := ⟨[(2, .av (.ptr 0 0 4 0)), (3, .av (.ptr 1 0 2 0))], [(0, .rows 4 [[bs [], bs [], bs [], bv false]]), (1, .rows 2 [[iv x14.Err, iv x14.At]])], 3⟩) (by kernel_rfl) ?_
        refine jr_nil rfl ?_
        refine jx_seqN ?_
        refine jc_ret ?_
        refine jx_seqR ?_
        exact jx_retF (.inr rfl) (v := .tup [.agg [bs [], bs [], bs [], bv false], .agg [iv x14.Err, iv x14.At]]) (by kernel_rfl) (snapc_tup (snapL_cons rfl (snapL_cons rfl (snapL_nil _)))) (fle_tup (all2_cons (fle_refl _) (all2_cons (fle_refl _) all2_nil)))
      · intro _
        refine jc_skip ?_
        refine jx_seqN ?_
        refine jc_seq ?_
        refine jc_reg ?_
        refine jr_seg 0 3 [0, 2, 3, 4, 7, 48, 49, 50] [0, 1, 2] (st1 := ⟨[(0, .av (bs a0)), (2, .av (.ptr 0 0 4 0)), (3, .av (.ptr 1 0 2 0)), (4, .av (.ptr 2 0 4 0)), (7, .av (iv x13)), (48, .av (bs a0)), (49, .av (iv x7)), (50, .av (iv x13))], [(0, .rows 4 [[bs [], bs [], bs [], bv false]]), (1, .rows 2 [[iv 0, iv 0]]), (2, .rows 4 [[bs x6, bs [], bs [], bv false]])], 3⟩) (by kernel_rfl) ?_
        refine jr_part (i := 3) (mo := subl a0 x7 x13) rfl rfl rfl rfl (fun _ hc => aop_subs (by kernel_rfl) (by kernel_rfl) (by kernel_rfl) (by kernel_rfl) hc) (fun _ => rfl) ?_
        intro x15 h15
        refine jr_seg 4 2 [0, 2, 3, 4, 7] [0, 1, 2] (st1 := ⟨[(0, .av (bs a0)), (2, .av (.ptr 0 0 4 0)), (3, .av (.ptr 1 0 2 0)), (4, .av (.ptr 2 0 4 0)), (7, .av (iv x13))], [(0, .rows 4 [[bs [], bs [], bs [], bv false]]), (1, .rows 2 [[iv 0, iv 0]]), (2, .rows 4 [[bs x6, bs x15, bs [], bv false]])], 3⟩) (by kernel_rfl) ?_
        refine jr_nil rfl ?_
        refine jx_seqN ?_
        refine jc_seq ?_
        refine jc_bind (fun y => match y with | Sum.inl (x21, x22) => ⟨[(2, .av (.ptr 0 0 4 0)), (3, .av (.ptr 1 0 2 0))], [(0, .rows 4 [[bs [], bs [], bs [], bv false]]), (1, .rows 2 [[iv x21, iv x22]])], 2⟩ | Sum.inr (x23, x24, x25) => ⟨[(0, .av (bs a0)), (2, .av (.ptr 0 0 4 0)), (3, .av (.ptr 1 0 2 0)), (4, .av (.ptr 2 0 4 0)), (7, .av (iv x25))], [(0, .rows 4 [[bs [], bs [], bs [], bv false]]), (1, .rows 2 [[iv 0, iv 0]]), (2, .rows 4 [[bs x6, bs x15, bs x23, bv x24]])], 3⟩) (fun y => match y with | Sum.inl (x21, x22) => .ret | Sum.inr (x23, x24, x25) => .normal) ?_ ?_
        · refine jc_seq ?_
          refine jc_reg ?_
          refine jr_seg 0 5 [0, 2, 3, 4, 7, 57] [0, 1, 2] (st1 := ⟨[(0, .av (bs a0)), (2, .av (.ptr 0 0 4 0)), (3, .av (.ptr 1 0 2 0)), (4, .av (.ptr 2 0 4 0)), (7, .av (iv x13)), (57, .av (bv (decide (x13 < (List.length a0 : Int)))))], [(0, .rows 4 [[bs [], bs [], bs [], bv false]]), (1, .rows 2 [[iv 0, iv 0]]), (2, .rows 4 [[bs x6, bs x15, bs [], bv false]])], 3⟩) (by kernel_rfl) ?_
          refine jr_bind 5 5 (fun x27 => ⟨[(0, .av (bs a0)), (2, .av (.ptr 0 0 4 0)), (3, .av (.ptr 1 0 2 0)), (4, .av (.ptr 2 0 4 0)), (7, .av (iv x13)), (62, .av (bv x27))], [(0, .rows 4 [[bs [], bs [], bs [], bv false]]), (1, .rows 2 [[iv 0, iv 0]]), (2, .rows 4 [[bs x6, bs x15, bs [], bv false]])], 3⟩) ?_ ?_
          · refine jr_split (g := 57) (c := (decide (x13 < (List.length a0 : Int)))) (by kernel_rfl) ?_ ?_
            · intro _
              refine jr_seg 0 2 [0, 2, 3, 4, 7, 57, 58, 59] [0, 1, 2] (st1 := ⟨[(0, .av (bs a0)), (2, .av (.ptr 0 0 4 0)), (3, .av (.ptr 1 0 2 0)), (4, .av (.ptr 2 0 4 0)), (7, .av (iv x13)), (57, .lit true), (58, .av (bs a0)), (59, .av (iv x13))], [(0, .rows 4 [[bs [], bs [], bs [], bv false]]), (1, .rows 2 [[iv 0, iv 0]]), (2, .rows 4 [[bs x6, bs x15, bs [], bv false]])], 3⟩) (by kernel_rfl) ?_
              refine jr_part (i := 2) (mo := idx a0 x13) rfl rfl rfl rfl (fun _ hc => aop_index (kk := .i64) (by kernel_rfl) (by kernel_rfl) (by kernel_rfl) hc) (fun _ => rfl) ?_
              intro x28 h28
              refine jr_seg 3 2 [0, 2, 3, 4, 7, 62] [0, 1, 2] (st1 := ⟨[(0, .av (bs a0)), (2, .av (.ptr 0 0 4 0)), (3, .av (.ptr 1 0 2 0)), (4, .av (.ptr 2 0 4 0)), (7, .av (iv x13)), (62, .av (bv (x28 == 45)))], [(0, .rows 4 [[bs [], bs [], bs [], bv false]]), (1, .rows 2 [[iv 0, iv 0]]), (2, .rows 4 [[bs x6, bs x15, bs [], bv false]])], 3⟩) (by kernel_rfl) ?_
              refine jr_nil rfl ?_
              exact jx_mid rfl (wk_ren [(0, some 0), (1, some 1), (2, some 2)] (fix_nil _) rfl (by kernel_rfl) (allp_cons (.inl ⟨0, _, _, _, rfl, rfl, rfl, .inl (by kernel_rfl)⟩) (allp_cons (.inl ⟨1, _, _, _, rfl, rfl, rfl, .inl (by kernel_rfl)⟩) (allp_cons (.inl ⟨2, _, _, _, rfl, rfl, rfl, .inl (by kernel_rfl)⟩) allp_nil))))
            · intro _
              refine jr_seg 0 5 [0, 2, 3, 4, 7, 62] [0, 1, 2] (st1 := ⟨[(0, .av (bs a0)), (2, .av (.ptr 0 0 4 0)), (3, .av (.ptr 1 0 2 0)), (4, .av (.ptr 2 0 4 0)), (7, .av (iv x13)), (62, .av (bv false))], [(0, .rows 4 [[bs [], bs [], bs [], bv false]]), (1, .rows 2 [[iv 0, iv 0]]), (2, .rows 4 [[bs x6, bs x15, bs [], bv false]])], 3⟩) (by kernel_rfl) ?_
              refine jr_nil rfl ?_
              exact jx_mid rfl (wk_ren [(0, some 0), (1, some 1), (2, some 2)] (fix_nil _) rfl (by kernel_rfl) (allp_cons (.inl ⟨0, _, _, _, rfl, rfl, rfl, .inl (by kernel_rfl)⟩) (allp_cons (.inl ⟨1, _, _, _, rfl, rfl, rfl, .inl (by kernel_rfl)⟩) (allp_cons (.inl ⟨2, _, _, _, rfl, rfl, rfl, .inl (by kernel_rfl)⟩) allp_nil))))
          · intro x27
            refine jr_nil rfl ?_
            refine jx_seqN ?_
            refine jc_cond (g := 62) (c := x27) (by kernel_rfl) ?_ ?_
            · intro _
              refine jc_seq ?_
              refine jc_reg ?_
              refine jr_seg 0 3 [0, 2, 3, 4, 7, 63, 65] [0, 1, 2] (st1 := ⟨[(0, .av (bs a0)), (2, .av (.ptr 0 0 4 0)), (3, .av (.ptr 1 0 2 0)), (4, .av (.ptr 2 0 4 0)), (7, .av (iv x13)), (63, .av (bs a0)), (65, .av (iv (w64 (x13 + 1))))], [(0, .rows 4 [[bs [], bs [], bs [], bv false]]), (1, .rows 2 [[iv 0, iv 0]]), (2, .rows 4 [[bs x6, bs x15, bs [], bv false]])], 3⟩) (by kernel_rfl) ?_
              refine jr_callF (i := 3) rfl rfl rfl rfl (vs := [bs a0, iv (w64 (x13 + 1))]) (by kernel_rfl) (snapL_cons rfl (snapL_cons rfl (snapL_nil _))) (all2_cons (fle_refl _) (all2_cons (fle_refl _) all2_nil)) (ref05_run_ok a0 (w64 (x13 + 1))) (fun _ => rfl) (fun _ => rfl) ?_
              intro x29 h29
              refine jr_seg 4 1 [0, 2, 3, 4, 7, 8] [0, 1, 2] (st1 := ⟨[(0, .av (bs a0)), (2, .av (.ptr 0 0 4 0)), (3, .av (.ptr 1 0 2 0)), (4, .av (.ptr 2 0 4 0)), (7, .av (iv x13)), (8, .av (iv x29))], [(0, .rows 4 [[bs [], bs [], bs [], bv false]]), (1, .rows 2 [[iv 0, iv 0]]), (2, .rows 4 [[bs x6, bs x15, bs [], bv false]])], 3⟩) (by kernel_rfl) ?_
              refine jr_nil rfl ?_
              refine jx_seqN ?_
              refine jc_seq ?_
              refine jc_seq ?_
              refine jc_reg ?_
              refine jr_seg 0 4 [0, 2, 3, 4, 7, 8, 70] [0, 1, 2] (st1 := ⟨[(0, .av (bs a0)), (2, .av (.ptr 0 0 4 0)), (3, .av (.ptr 1 0 2 0)), (4, .av (.ptr 2 0 4 0)), (7, .av (iv x13)), (8, .av (iv x29)), (70, .av (bv (x29 == (w64 (x13 + 1)))))], [(0, .rows 4 [[bs [], bs [], bs [], bv false]]), (1, .rows 2 [[iv 0, iv 0]]), (2, .rows 4 [[bs x6, bs x15, bs [], bv false]])], 3⟩) (by kernel_rfl) ?_
              refine jr_nil rfl ?_
              refine jx_seqN ?_
              refine jc_cond (g := 70) (c := (x29 == (w64 (x13 + 1)))) (by kernel_rfl) ?_ ?_
              · intro _
                refine jc_seq ?_
                refine jc_reg ?_
                refine jr_seg 0 3 [2, 3, 71, 72, 73] [0, 1] (st1 := ⟨[(2, .av (.ptr 0 0 4 0)), (3, .av (.ptr 1 0 2 0)), (71, .av (.agg [bs [], bs [], bs [], bv false])), (72, .av (bs a0)), (73, .av (iv x29))], [(0, .rows 4 [[bs [], bs [], bs [], bv false]]), (1, .rows 2 [[iv 0, iv 0]])], 3⟩) (by kernel_rfl) ?_
                refine jr_callF (i := 3) rfl rfl rfl rfl (vs := [bs a0, iv x29]) (by kernel_rfl) (snapL_cons rfl (snapL_cons rfl (snapL_nil _))) (all2_cons (fle_refl _) (all2_cons (fle_refl _) all2_nil)) (ref05_fault_ok a0 x29) (fun _ => rfl) (fun _ => rfl) ?_
                intro x30 h30
                refine jr_seg 4 2 [2, 3] [0, 1] (st1 := ⟨[(2, .av (.ptr 0 0 4 0)), (3, .av (.ptr 1 0 2 0))], [(0, .rows 4 [[bs [], bs [], bs [], bv false]]), (1, .rows 2 [[iv x30.Err, iv x30.At]])], 3⟩) (by kernel_rfl) ?_
                refine jr_nil rfl ?_
                refine jx_seqN ?_
                refine jc_ret ?_
                refine jx_seqR ?_
                exact jx_mid rfl (wk_ren [(0, some 0), (1, some 1)] (fix_nil _) rfl (by kernel_rfl) (allp_cons (.inl ⟨0, _, _, _, rfl, rfl, rfl, .inl (by kernel_rfl)⟩) (allp_cons (.inl ⟨1, _, _, _, rfl, rfl, rfl, .inl (by kernel_rfl)⟩) allp_nil)))
              · intro _
                refine jc_skip ?_
                refine jx_seqN ?_
                refine jc_seq ?_
                refine jc_reg ?_
                refine jr_seg 0 2 [0, 2, 3, 4, 7, 8] [0, 1, 2] (st1 := ⟨[(0, .av (bs a0)), (2, .av (.ptr 0 0 4 0)), (3, .av (.ptr 1 0 2 0)), (4, .av (.ptr 2 0 4 0)), (7, .av (iv x13)), (8, .av (iv x29))], [(0, .rows 4 [[bs [], bs [], bs [], bv false]]), (1, .rows 2 [[iv 0, iv 0]]), (2, .rows 4 [[bs x6, bs x15, bs [], bv true]])], 3⟩) (by kernel_rfl) ?_
                refine jr_nil rfl ?_
                refine jx_seqN ?_
                refine jc_seq ?_
                refine jc_reg ?_
                refine jr_seg 0 4 [0, 2, 3, 4, 8, 76, 78, 79] [0, 1, 2] (st1 := ⟨[(0, .av (bs a0)), (2, .av (.ptr 0 0 4 0)), (3, .av (.ptr 1 0 2 0)), (4, .av (.ptr 2 0 4 0)), (8, .av (iv x29)), (76, .av (bs a0)), (78, .av (iv (w64 (x13 + 1)))), (79, .av (iv x29))], [(0, .rows 4 [[bs [], bs [], bs [], bv false]]), (1, .rows 2 [[iv 0, iv 0]]), (2, .rows 4 [[bs x6, bs x15, bs [], bv true]])], 3⟩) (by kernel_rfl) ?_
                refine jr_part (i := 4) (mo := subl a0 (w64 (x13 + 1)) x29) rfl rfl rfl rfl (fun _ hc => aop_subs (by kernel_rfl) (by kernel_rfl) (by kernel_rfl) (by kernel_rfl) hc) (fun _ => rfl) ?_
                intro x31 h31
                refine jr_seg 5 2 [0, 2, 3, 4, 8] [0, 1, 2] (st1 := ⟨[(0, .av (bs a0)), (2, .av (.ptr 0 0 4 0)), (3, .av (.ptr 1 0 2 0)), (4, .av (.ptr 2 0 4 0)), (8, .av (iv x29))], [(0, .rows 4 [[bs [], bs [], bs [], bv false]]), (1, .rows 2 [[iv 0, iv 0]]), (2, .rows 4 [[bs x6, bs x15, bs x31, bv true]])], 3⟩) (by kernel_rfl) ?_
                refine jr_nil rfl ?_
                refine jx_seqN ?_
                refine jc_reg ?_
                refine jr_seg 0 2 [0, 2, 3, 4, 7] [0, 1, 2] (st1 := ⟨[(0, .av (bs a0)), (2, .av (.ptr 0 0 4 0)), (3, .av (.ptr 1 0 2 0)), (4, .av (.ptr 2 0 4 0)), (7, .av (iv x29))], [(0, .rows 4 [[bs [], bs [], bs [], bv false]]), (1, .rows 2 [[iv 0, iv 0]]), (2, .rows 4 [[bs x6, bs x15, bs x31, bv true]])], 3⟩) (by kernel_rfl) ?_
                refine jr_nil rfl ?_
                exact jx_mid rfl (wk_ren [(0, some 0), (1, some 1), (2, some 2)] (fix_nil _) rfl (by kernel_rfl) (allp_cons (.inl ⟨0, _, _, _, rfl, rfl, rfl, .inl (by kernel_rfl)⟩) (allp_cons (.inl ⟨1, _, _, _, rfl, rfl, rfl, .inl (by kernel_rfl)⟩) (allp_cons (.inl ⟨2, _, _, _, rfl, rfl, rfl, .inl (by kernel_rfl)⟩) allp_nil))))
            · intro _
              refine jc_skip ?_
              exact jx_mid rfl (wk_ren [(0, some 0), (1, some 1), (2, some 2)] (fix_nil _) rfl (by kernel_rfl) (allp_cons (.inl ⟨0, _, _, _, rfl, rfl, rfl, .inl (by kernel_rfl)⟩) (allp_cons (.inl ⟨1, _, _, _, rfl, rfl, rfl, .inl (by kernel_rfl)⟩) (allp_cons (.inl ⟨2, _, _, _, rfl, rfl, rfl, .inl (by kernel_rfl)⟩) allp_nil))))
        · rintro (⟨x21, x22⟩ | ⟨x23, x24, x25⟩)
          · refine jx_seqR ?_
            exact jx_retF (.inr rfl) (v := .tup [.agg [bs [], bs [], bs [], bv false], .agg [iv x21, iv x22]]) (by kernel_rfl) (snapc_tup (snapL_cons rfl (snapL_cons rfl (snapL_nil _)))) (fle_tup (all2_cons (fle_refl _) (all2_cons (fle_refl _) all2_nil)))
          · refine jx_seqN ?_
            refine jc_seq ?_
            refine jc_seq ?_
            refine jc_reg ?_
            refine jr_seg 0 4 [0, 2, 3, 4, 7, 86] [0, 1, 2] (st1 := ⟨[(0, .av (bs a0)), (2, .av (.ptr 0 0 4 0)), (3, .av (.ptr 1 0 2 0)), (4, .av (.ptr 2 0 4 0)), (7, .av (iv x25)), (86, .av (bv (decide (x25 < (List.length a0 : Int)))))], [(0, .rows 4 [[bs [], bs [], bs [], bv false]]), (1, .rows 2 [[iv 0, iv 0]]), (2, .rows 4 [[bs x6, bs x15, bs x23, bv x24]])], 3⟩) (by kernel_rfl) ?_
            refine jr_nil rfl ?_
            refine jx_seqN ?_
            refine jc_cond (g := 86) (c := (decide (x25 < (List.length a0 : Int)))) (by kernel_rfl) ?_ ?_
            · intro _
              refine jc_seq ?_
              refine jc_reg ?_
              refine jr_seg 0 3 [2, 3, 87, 88, 89] [0, 1] (st1 := ⟨[(2, .av (.ptr 0 0 4 0)), (3, .av (.ptr 1 0 2 0)), (87, .av (.agg [bs [], bs [], bs [], bv false])), (88, .av (bs a0)), (89, .av (iv x25))], [(0, .rows 4 [[bs [], bs [], bs [], bv false]]), (1, .rows 2 [[iv 0, iv 0]])], 3⟩) (by kernel_rfl) ?_
              refine jr_callF (i := 3) rfl rfl rfl rfl (vs := [bs a0, iv x25]) (by kernel_rfl) (snapL_cons rfl (snapL_cons rfl (snapL_nil _))) (all2_cons (fle_refl _) (all2_cons (fle_refl _) all2_nil)) (ref05_fault_ok a0 x25) (fun _ => rfl) (fun _ => rfl) ?_
              intro x32 h32
              refine jr_seg 4 2 [2, 3] [0, 1] (st1 := ⟨[(2, .av (.ptr 0 0 4 0)), (3, .av (.ptr 1 0 2 0))], [(0, .rows 4 [[bs [], bs [], bs [], bv false]]), (1, .rows 2 [[iv x32.Err, iv x32.At]])], 3⟩) (by kernel_rfl) ?_
              refine jr_nil rfl ?_
              refine jx_seqN ?_
              refine jc_ret ?_
              refine jx_seqR ?_
              exact jx_retF (.inr rfl) (v := .tup [.agg [bs [], bs [], bs [], bv false], .agg [iv x32.Err, iv x32.At]]) (by kernel_rfl) (snapc_tup (snapL_cons rfl (snapL_cons rfl (snapL_nil _)))) (fle_tup (all2_cons (fle_refl _) (all2_cons (fle_refl _) all2_nil)))
            · intro _
              refine jc_skip ?_
              refine jx_seqN ?_
              refine jc_seq ?_
              refine jc_reg ?_
              refine jr_seg 0 4 [2, 3] [0, 1] (st1 := ⟨[(2, .av (.ptr 0 0 4 0)), (3, .av (.ptr 1 0 2 0))], [(0, .rows 4 [[bs x6, bs x15, bs x23, bv x24]]), (1, .rows 2 [[iv 0, iv 0]])], 3⟩) (by kernel_rfl) ?_
              refine jr_nil rfl ?_
              refine jx_seqN ?_
              refine jc_ret ?_
              exact jx_retF (.inr rfl) (v := .tup [.agg [bs x6, bs x15, bs x23, bv x24], .agg [iv 0, iv 0]]) (by kernel_rfl) (snapc_tup (snapL_cons rfl (snapL_cons rfl (snapL_nil _)))) (fle_tup (all2_cons (fle_refl _) (all2_cons (fle_refl _) all2_nil))))
end Go.Vm

set_option maxRecDepth 100000
set_option maxHeartbeats 0
set_option linter.unusedVariables false
set_option linter.unusedSimpArgs false
namespace Go.Vm
open Go
abbrev rpm_segments_1_it_r1 : List LO := [⟨some 3, Op.assign (Operand.const (Value.int IntKind.i64 0)), 3, none⟩]
abbrev rpm_segments_1_it_b2 : LC := .reg false rpm_segments_1_it_r1
abbrev rpm_segments_1_it_r3 : List LO := [⟨some 6, Op.move (Operand.tmp 3), 3, none⟩,
  ⟨some 7, Op.load 9 (Operand.tmp 1), 9, none⟩,
  ⟨some 8, Op.call { callee := Callee.builtin Builtin.len, args := #[Operand.tmp 7], argTypes := #[9] }, 3, none⟩,
  ⟨some 9, Op.binOp BinOp.lss 3 (Operand.tmp 6) (Operand.tmp 8) 3, 4, none⟩]
abbrev rpm_segments_1_it_b4 : LC := .reg false rpm_segments_1_it_r3
abbrev rpm_segments_1_it_b5 : LC := .cond (Operand.tmp 9) .skip (.exit 0)
abbrev rpm_segments_1_it_b6 : LC := .seq rpm_segments_1_it_b4 rpm_segments_1_it_b5
abbrev rpm_segments_1_it_r7 : List LO := [⟨some 10, Op.load 9 (Operand.tmp 1), 9, none⟩,
  ⟨some 11, Op.move (Operand.tmp 3), 3, none⟩,
  ⟨some 12, Op.move (Operand.tmp 3), 3, none⟩,
  ⟨some 13, Op.binOp BinOp.add 3 (Operand.tmp 12) (Operand.const (Value.int IntKind.i64 1)) 3, 3, none⟩,
  ⟨some 14, Op.slice 9 (Operand.tmp 10) (some (Operand.tmp 11)) (some (Operand.tmp 13)) none, 9, none⟩,
  ⟨some 15, Op.build 100 #[(1, Operand.tmp 14)], 100, none⟩,
  ⟨some 4, Op.alloc 100, 0, none⟩,
  ⟨none, Op.store 100 (Operand.tmp 4) (Operand.tmp 15), 0, none⟩]
abbrev rpm_segments_1_it_b8 : LC := .reg false rpm_segments_1_it_r7
abbrev rpm_segments_1_it_r9 : List LO := [⟨some 16, Op.load 9 (Operand.tmp 1), 9, none⟩,
  ⟨some 17, Op.move (Operand.tmp 3), 3, none⟩,
  ⟨some 18, Op.index 9 (Operand.tmp 16) (Operand.tmp 17), 5, none⟩,
  ⟨some 5, Op.assign (Operand.tmp 18), 5, none⟩]
abbrev rpm_segments_1_it_b10 : LC := .reg false rpm_segments_1_it_r9
abbrev rpm_segments_1_it_r11 : List LO := [⟨some 22, Op.move (Operand.tmp 5), 5, none⟩,
  ⟨some 23, Op.binOp BinOp.eql 5 (Operand.tmp 22) (Operand.const (Value.int IntKind.u8 126)) 5, 4, none⟩,
  ⟨some 21, Op.assign (Operand.tmp 23), 4, none⟩]
abbrev rpm_segments_1_it_b12 : LC := .reg false rpm_segments_1_it_r11
abbrev rpm_segments_1_it_r13 : List LO := [⟨some 24, Op.fieldAddr 100 (Operand.tmp 4) 0, 0, none⟩,
  ⟨none, Op.store 3 (Operand.tmp 24) (Operand.const (Value.int IntKind.i64 0)), 0, none⟩]
abbrev rpm_segments_1_it_b14 : LC := .reg false rpm_segments_1_it_r13
abbrev rpm_segments_1_it_r15 : List LO := [⟨some 26, Op.move (Operand.tmp 5), 5, none⟩,
  ⟨some 27, Op.binOp BinOp.eql 5 (Operand.tmp 26) (Operand.const (Value.int IntKind.u8 94)) 5, 4, none⟩,
  ⟨some 25, Op.assign (Operand.tmp 27), 4, none⟩]
abbrev rpm_segments_1_it_b16 : LC := .reg false rpm_segments_1_it_r15
abbrev rpm_segments_1_it_r17 : List LO := [⟨some 28, Op.fieldAddr 100 (Operand.tmp 4) 0, 0, none⟩,
  ⟨none, Op.store 3 (Operand.tmp 28) (Operand.const (Value.int IntKind.i64 2)), 0, none⟩]
abbrev rpm_segments_1_it_b18 : LC := .reg false rpm_segments_1_it_r17
abbrev rpm_segments_1_it_r19 : List LO := [⟨some 30, Op.move (Operand.tmp 5), 5, none⟩,
  ⟨some 31, Op.call { callee := Callee.value (Operand.func 26), args := #[Operand.tmp 30, Operand.const (Value.int IntKind.i64 1)], argTypes := #[5, 3] }, 4, none⟩,
  ⟨some 29, Op.assign (Operand.tmp 31), 4, none⟩]
abbrev rpm_segments_1_it_b20 : LC := .reg false rpm_segments_1_it_r19
abbrev rpm_segments_1_it_r21 : List LO := [⟨some 32, Op.load 9 (Operand.tmp 1), 9, none⟩,
  ⟨some 33, Op.move (Operand.tmp 3), 3, none⟩,
  ⟨some 34, Op.load 9 (Operand.tmp 1), 9, none⟩,
  ⟨some 35, Op.move (Operand.tmp 3), 3, none⟩,
  ⟨some 36, Op.call { callee := Callee.value (Operand.func 30), args := #[Operand.tmp 34, Operand.tmp 35, Operand.const (Value.int IntKind.i64 1)], argTypes := #[9, 3, 3] }, 3, none⟩,
  ⟨some 37, Op.slice 9 (Operand.tmp 32) (some (Operand.tmp 33)) (some (Operand.tmp 36)) none, 9, none⟩,
  ⟨some 38, Op.build 100 #[(0, Operand.const (Value.int IntKind.i64 4)), (1, Operand.tmp 37)], 100, none⟩,
  ⟨none, Op.store 100 (Operand.tmp 4) (Operand.tmp 38), 0, none⟩]
abbrev rpm_segments_1_it_b22 : LC := .reg true rpm_segments_1_it_r21
abbrev rpm_segments_1_it_r23 : List LO := [⟨some 40, Op.move (Operand.tmp 5), 5, none⟩,
  ⟨some 41, Op.call { callee := Callee.value (Operand.func 26), args := #[Operand.tmp 40, Operand.const (Value.int IntKind.i64 4)], argTypes := #[5, 3] }, 4, none⟩,
  ⟨some 39, Op.assign (Operand.tmp 41), 4, none⟩]
abbrev rpm_segments_1_it_b24 : LC := .reg false rpm_segments_1_it_r23
abbrev rpm_segments_1_it_r25 : List LO := [⟨some 42, Op.load 9 (Operand.tmp 1), 9, none⟩,
  ⟨some 43, Op.move (Operand.tmp 3), 3, none⟩,
  ⟨some 44, Op.load 9 (Operand.tmp 1), 9, none⟩,
  ⟨some 45, Op.move (Operand.tmp 3), 3, none⟩,
  ⟨some 46, Op.call { callee := Callee.value (Operand.func 30), args := #[Operand.tmp 44, Operand.tmp 45, Operand.const (Value.int IntKind.i64 4)], argTypes := #[9, 3, 3] }, 3, none⟩,
  ⟨some 47, Op.slice 9 (Operand.tmp 42) (some (Operand.tmp 43)) (some (Operand.tmp 46)) none, 9, none⟩,
  ⟨some 48, Op.build 100 #[(0, Operand.const (Value.int IntKind.i64 3)), (1, Operand.tmp 47)], 100, none⟩,
  ⟨none, Op.store 100 (Operand.tmp 4) (Operand.tmp 48), 0, none⟩]
abbrev rpm_segments_1_it_b26 : LC := .reg true rpm_segments_1_it_r25
abbrev rpm_segments_1_it_r27 : List LO := [⟨some 19, Op.move (Operand.tmp 3), 3, none⟩,
  ⟨some 20, Op.binOp BinOp.add 3 (Operand.tmp 19) (Operand.const (Value.int IntKind.i64 1)) 3, 3, none⟩,
  ⟨some 3, Op.assign (Operand.tmp 20), 3, none⟩]
abbrev rpm_segments_1_it_b28 : LC := .reg false rpm_segments_1_it_r27
abbrev rpm_segments_1_it_b29 : LC := .seq rpm_segments_1_it_b28 (.exit 1)
abbrev rpm_segments_1_it_b30 : LC := .cond (Operand.tmp 39) rpm_segments_1_it_b26 rpm_segments_1_it_b29
abbrev rpm_segments_1_it_b31 : LC := .seq rpm_segments_1_it_b24 rpm_segments_1_it_b30
abbrev rpm_segments_1_it_b32 : LC := .cond (Operand.tmp 29) rpm_segments_1_it_b22 rpm_segments_1_it_b31
abbrev rpm_segments_1_it_b33 : LC := .seq rpm_segments_1_it_b20 rpm_segments_1_it_b32
abbrev rpm_segments_1_it_b34 : LC := .cond (Operand.tmp 25) rpm_segments_1_it_b18 rpm_segments_1_it_b33
abbrev rpm_segments_1_it_b35 : LC := .seq rpm_segments_1_it_b16 rpm_segments_1_it_b34
abbrev rpm_segments_1_it_b36 : LC := .cond (Operand.tmp 21) rpm_segments_1_it_b14 rpm_segments_1_it_b35
abbrev rpm_segments_1_it_b37 : LC := .seq rpm_segments_1_it_b12 rpm_segments_1_it_b36
abbrev rpm_segments_1_it_b38 : LC := .block 2 rpm_segments_1_it_b37
abbrev rpm_segments_1_it_b39 : LC := .seq rpm_segments_1_it_b10 rpm_segments_1_it_b38
abbrev rpm_segments_1_it_r40 : List LO := [⟨some 49, Op.move (Operand.tmp 3), 3, none⟩,
  ⟨some 50, Op.fieldAddr 100 (Operand.tmp 4) 1, 0, none⟩,
  ⟨some 51, Op.load 9 (Operand.tmp 50), 9, none⟩,
  ⟨some 52, Op.call { callee := Callee.builtin Builtin.len, args := #[Operand.tmp 51], argTypes := #[9] }, 3, none⟩,
  ⟨some 53, Op.binOp BinOp.add 3 (Operand.tmp 49) (Operand.tmp 52) 3, 3, none⟩,
  ⟨some 3, Op.assign (Operand.tmp 53), 3, none⟩]
abbrev rpm_segments_1_it_b41 : LC := .reg false rpm_segments_1_it_r40
abbrev rpm_segments_1_it_r42 : List LO := [⟨some 54, Op.move (Operand.tmp 0), 135, none⟩,
  ⟨some 55, Op.load 100 (Operand.tmp 4), 100, none⟩,
  ⟨some 56, Op.call { callee := Callee.value (Operand.tmp 54), args := #[Operand.tmp 55], argTypes := #[100] }, 4, none⟩,
  ⟨some 57, Op.unOp UnOp.not 4 (Operand.tmp 56), 4, none⟩]
abbrev rpm_segments_1_it_b43 : LC := .reg false rpm_segments_1_it_r42
abbrev rpm_segments_1_it_b44 : LC := .cond (Operand.tmp 57) .ret .skip
abbrev rpm_segments_1_it_b45 : LC := .seq rpm_segments_1_it_b43 rpm_segments_1_it_b44
abbrev rpm_segments_1_it_b46 : LC := .seq rpm_segments_1_it_b41 rpm_segments_1_it_b45
abbrev rpm_segments_1_it_b47 : LC := .seq rpm_segments_1_it_b39 rpm_segments_1_it_b46
abbrev rpm_segments_1_it_b48 : LC := .seq rpm_segments_1_it_b8 rpm_segments_1_it_b47
abbrev rpm_segments_1_it_b49 : LC := .block 1 rpm_segments_1_it_b48
abbrev rpm_segments_1_it_b50 : LC := .seq rpm_segments_1_it_b6 rpm_segments_1_it_b49
abbrev rpm_segments_1_it_b51 : LC := .loop rpm_segments_1_it_b50
abbrev rpm_segments_1_it_b52 : LC := .block 0 rpm_segments_1_it_b51
abbrev rpm_segments_1_it_b53 : LC := .seq rpm_segments_1_it_b2 rpm_segments_1_it_b52
abbrev rpm_segments_1_it_r54 : List LO := [⟨some 58, Op.move (Operand.tmp 0), 135, none⟩,
  ⟨some 59, Op.build 100 #[(0, Operand.const (Value.int IntKind.i64 1))], 100, none⟩,
  ⟨some 60, Op.call { callee := Callee.value (Operand.tmp 58), args := #[Operand.tmp 59], argTypes := #[100] }, 4, none⟩]
abbrev rpm_segments_1_it_b55 : LC := .reg false rpm_segments_1_it_r54
abbrev rpm_segments_1_it_b56 : LC := .seq rpm_segments_1_it_b53 rpm_segments_1_it_b55
theorem rpm_segments_1_it_k : FnOk E 120 61 [] rpm_segments_1_it_b56 := ⟨⟨Go.Proofs.Tryd.f120, by kernel_rfl, by kernel_rfl, by kernel_rfl, by kernel_rfl, by kernel_rfl⟩, rfl⟩
end Go.Vm

set_option maxRecDepth 100000
set_option maxHeartbeats 0
set_option linter.unusedVariables false
set_option linter.unusedSimpArgs false
namespace Go.Vm
open Go
abbrev rpm_segments_r1 : List LO := [⟨some 1, Op.box 9 (Operand.tmp 0), 0, none⟩,
  ⟨some 2, Op.assign (Operand.const Value.nilFunc), 97, none⟩]
abbrev rpm_segments_b2 : LC := .reg false rpm_segments_r1
abbrev rpm_segments_r3 : List LO := [⟨some 3, Op.makeFunc (Fn.func 120) #[] #[Operand.tmp 1], 96, none⟩,
  ⟨some 2, Op.assign (Operand.tmp 3), 97, none⟩]
abbrev rpm_segments_b4 : LC := .reg false rpm_segments_r3
abbrev rpm_segments_b5 : LC := .seq rpm_segments_b4 .ret
abbrev rpm_segments_b6 : LC := .seq rpm_segments_b2 rpm_segments_b5
theorem rpm_segments_k : FnOk E 80 4 [.tmp 2] rpm_segments_b6 := ⟨⟨Go.Proofs.Tryd.f80, by kernel_rfl, by kernel_rfl, by kernel_rfl, by kernel_rfl, by kernel_rfl⟩, rfl⟩
noncomputable def rpm_segments (a0 : Str) : Option (Str) := some a0
theorem rpm_segments_ok (a0 : Str) : Ct E 80 [bs a0] (rpm_segments a0) (fun r : Str => .fn 120 [.fptr [bs r] 0]) := ct_intro (N := 4) (L := rpm_segments_b6) rpm_segments_k rfl (Nat.le_of_ble_eq_true rfl) (by kernel_rfl) (by
  unfold rpm_segments
  refine jc_seq ?_
  refine jc_reg ?_
  refine jr_seg 0 2 [1] [0] (st1 := ⟨[(1, .av (.ptr 0 0 1 0))], [(0, .rows 1 [[bs a0]])], 1⟩) (by kernel_rfl) ?_
  refine jr_nil rfl ?_
  refine jx_seqN ?_
  refine jc_seq ?_
  refine jc_reg ?_
  refine jr_seg 0 2 [2] [0] (st1 := ⟨[(2, .av (.fn 120 [.ptr 0 0 1 0]))], [(0, .rows 1 [[bs a0]])], 1⟩) (by kernel_rfl) ?_
  refine jr_nil rfl ?_
  refine jx_seqN ?_
  refine jc_ret ?_
  exact jx_retF (.inr rfl) (v := .fn 120 [.ptr 0 0 1 0]) (u := .fn 120 [.fptr [bs a0] 0]) (q := true) (by kernel_rfl) (by kernel_rfl) (fle_refl _))
end Go.Vm

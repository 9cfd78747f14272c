/- The law RpmReads, a part of its proof: what the functions that it reaches compute. -/
import Derived.Test.YtfkifahbmemepaaDoorG0RpmReads
set_option maxRecDepth 100000
set_option maxHeartbeats 0
set_option linter.unusedVariables false
set_option linter.unusedSimpArgs false
namespace Go.Vm
open Go
abbrev rpm_Segments_r1 : List LO := [⟨some 4, Op.assign (Operand.const (Value.int IntKind.i64 0)), 3, none⟩]
abbrev rpm_Segments_b2 : LC := .reg false rpm_Segments_r1
abbrev rpm_Segments_r3 : List LO := [⟨some 5, Op.alloc 95, 0, none⟩]
abbrev rpm_Segments_b4 : LC := .reg false rpm_Segments_r3
abbrev rpm_Segments_r5 : List LO := [⟨some 10, Op.move (Operand.tmp 0), 9, none⟩,
  ⟨some 11, Op.call { callee := Callee.value (Operand.func 80), args := #[Operand.tmp 10], argTypes := #[9] }, 97, none⟩]
abbrev rpm_Segments_b6 : LC := .reg false rpm_Segments_r5
abbrev rpm_Segments_r7 : List LO := [⟨some 6, Op.alloc 100, 0, none⟩,
  ⟨none, Op.store 100 (Operand.tmp 6) (Operand.tmp 12), 0, none⟩]
abbrev rpm_Segments_b8 : LC := .reg false rpm_Segments_r7
abbrev rpm_Segments_r9 : List LO := [⟨some 13, Op.load 95 (Operand.tmp 5), 95, none⟩,
  ⟨some 14, Op.load 100 (Operand.tmp 6), 100, none⟩,
  ⟨some 15, Op.buildSlice 95 1 #[(0, Operand.tmp 14)], 95, none⟩,
  ⟨some 16, Op.call { callee := Callee.builtin Builtin.append, args := #[Operand.tmp 13, Operand.tmp 15], argTypes := #[95, 95] }, 95, none⟩,
  ⟨none, Op.store 95 (Operand.tmp 5) (Operand.tmp 16), 0, none⟩]
abbrev rpm_Segments_b10 : LC := .reg false rpm_Segments_r9
abbrev rpm_Segments_b11 : LC := .block 1 rpm_Segments_b10
noncomputable def rpm_Segments_y12_a0 : Code := codeSub (bodyOf Go.Proofs.Tryd.f39) [1, 0, 1, 0, 1, 0, 0]
theorem rpm_Segments_y12_aw : lower E rpm_Segments_y12_a0 = some rpm_Segments_b8 := by kernel_rfl
noncomputable def rpm_Segments_y12_b0 : Code := codeSub (bodyOf Go.Proofs.Tryd.f39) [1, 0, 1, 0, 1, 0, 1]
theorem rpm_Segments_y12_bw : lower E rpm_Segments_y12_b0 = some rpm_Segments_b11 := by kernel_rfl
noncomputable abbrev rpm_Segments_b13 : LC := .rng (Operand.tmp 11) [12] rpm_Segments_y12_a0 rpm_Segments_y12_b0
noncomputable abbrev rpm_Segments_b14 : LC := .block 0 rpm_Segments_b13
noncomputable abbrev rpm_Segments_b15 : LC := .seq rpm_Segments_b6 rpm_Segments_b14
abbrev rpm_Segments_r16 : List LO := [⟨some 7, Op.alloc 3, 0, none⟩,
  ⟨none, Op.store 3 (Operand.tmp 7) (Operand.const (Value.int IntKind.i64 0)), 0, none⟩]
abbrev rpm_Segments_b17 : LC := .reg false rpm_Segments_r16
abbrev rpm_Segments_r18 : List LO := [⟨some 17, Op.move (Operand.tmp 1), 9, none⟩,
  ⟨some 18, Op.call { callee := Callee.value (Operand.func 80), args := #[Operand.tmp 17], argTypes := #[9] }, 97, none⟩]
abbrev rpm_Segments_b19 : LC := .reg false rpm_Segments_r18
abbrev rpm_Segments_r20 : List LO := [⟨some 8, Op.alloc 100, 0, none⟩,
  ⟨none, Op.store 100 (Operand.tmp 8) (Operand.tmp 19), 0, none⟩]
abbrev rpm_Segments_b21 : LC := .reg false rpm_Segments_r20
abbrev rpm_Segments_r22 : List LO := [⟨some 20, Op.load 95 (Operand.tmp 5), 95, none⟩,
  ⟨some 21, Op.call { callee := Callee.builtin Builtin.len, args := #[Operand.tmp 20], argTypes := #[95] }, 3, none⟩,
  ⟨some 22, Op.binOp BinOp.eql 3 (Operand.tmp 21) (Operand.const (Value.int IntKind.i64 0)) 3, 4, none⟩]
abbrev rpm_Segments_b23 : LC := .reg false rpm_Segments_r22
abbrev rpm_Segments_b24 : LC := .cond (Operand.tmp 22) (.exit 2) .skip
abbrev rpm_Segments_b25 : LC := .seq rpm_Segments_b23 rpm_Segments_b24
abbrev rpm_Segments_r26 : List LO := [⟨some 23, Op.load 95 (Operand.tmp 5), 95, none⟩,
  ⟨some 24, Op.indexAddr 95 (Operand.tmp 23) (Operand.const (Value.int IntKind.i64 0)), 0, none⟩,
  ⟨some 25, Op.load 100 (Operand.tmp 24), 100, none⟩,
  ⟨some 9, Op.alloc 100, 0, none⟩,
  ⟨none, Op.store 100 (Operand.tmp 9) (Operand.tmp 25), 0, none⟩]
abbrev rpm_Segments_b27 : LC := .reg false rpm_Segments_r26
abbrev rpm_Segments_r28 : List LO := [⟨some 26, Op.load 95 (Operand.tmp 5), 95, none⟩,
  ⟨some 27, Op.slice 95 (Operand.tmp 26) (some (Operand.const (Value.int IntKind.i64 1))) none none, 95, none⟩,
  ⟨none, Op.store 95 (Operand.tmp 5) (Operand.tmp 27), 0, none⟩]
abbrev rpm_Segments_b29 : LC := .reg false rpm_Segments_r28
abbrev rpm_Segments_r30 : List LO := [⟨some 28, Op.fieldAddr 100 (Operand.tmp 9) 0, 0, none⟩,
  ⟨some 29, Op.load 3 (Operand.tmp 28), 3, none⟩,
  ⟨some 30, Op.fieldAddr 100 (Operand.tmp 8) 0, 0, none⟩,
  ⟨some 31, Op.load 3 (Operand.tmp 30), 3, none⟩,
  ⟨some 32, Op.call { callee := Callee.value (Operand.func 65), args := #[Operand.tmp 29, Operand.tmp 31], argTypes := #[3, 3] }, 3, none⟩,
  ⟨none, Op.store 3 (Operand.tmp 7) (Operand.tmp 32), 0, none⟩]
abbrev rpm_Segments_b31 : LC := .reg false rpm_Segments_r30
abbrev rpm_Segments_r32 : List LO := [⟨some 33, Op.load 3 (Operand.tmp 7), 3, none⟩,
  ⟨some 34, Op.binOp BinOp.eql 3 (Operand.tmp 33) (Operand.const (Value.int IntKind.i64 0)) 3, 4, none⟩,
  ⟨some 35, Op.move (Operand.tmp 34), 4, none⟩,
  ⟨some 36, Op.fieldAddr 100 (Operand.tmp 9) 0, 0, (some (35, true))⟩,
  ⟨some 37, Op.load 3 (Operand.tmp 36), 3, (some (35, true))⟩,
  ⟨some 38, Op.binOp BinOp.eql 3 (Operand.tmp 37) (Operand.const (Value.int IntKind.i64 4)) 3, 4, (some (35, true))⟩,
  ⟨some 39, Op.pick (Operand.tmp 35) (Operand.tmp 38) (Operand.const (Value.bool false)), 4, none⟩]
abbrev rpm_Segments_b33 : LC := .reg false rpm_Segments_r32
abbrev rpm_Segments_r34 : List LO := [⟨some 40, Op.fieldAddr 100 (Operand.tmp 9) 1, 0, none⟩,
  ⟨some 41, Op.load 9 (Operand.tmp 40), 9, none⟩,
  ⟨some 42, Op.fieldAddr 100 (Operand.tmp 8) 1, 0, none⟩,
  ⟨some 43, Op.load 9 (Operand.tmp 42), 9, none⟩,
  ⟨some 44, Op.call { callee := Callee.value (Operand.func 17), args := #[Operand.tmp 41, Operand.tmp 43], argTypes := #[9, 9] }, 3, none⟩,
  ⟨none, Op.store 3 (Operand.tmp 7) (Operand.tmp 44), 0, none⟩]
abbrev rpm_Segments_b35 : LC := .reg false rpm_Segments_r34
abbrev rpm_Segments_b36 : LC := .cond (Operand.tmp 39) rpm_Segments_b35 .skip
abbrev rpm_Segments_b37 : LC := .seq rpm_Segments_b33 rpm_Segments_b36
abbrev rpm_Segments_r38 : List LO := [⟨some 45, Op.load 3 (Operand.tmp 7), 3, none⟩,
  ⟨some 46, Op.binOp BinOp.eql 3 (Operand.tmp 45) (Operand.const (Value.int IntKind.i64 0)) 3, 4, none⟩,
  ⟨some 47, Op.move (Operand.tmp 46), 4, none⟩,
  ⟨some 48, Op.fieldAddr 100 (Operand.tmp 9) 0, 0, (some (47, true))⟩,
  ⟨some 49, Op.load 3 (Operand.tmp 48), 3, (some (47, true))⟩,
  ⟨some 50, Op.binOp BinOp.eql 3 (Operand.tmp 49) (Operand.const (Value.int IntKind.i64 3)) 3, 4, (some (47, true))⟩,
  ⟨some 51, Op.pick (Operand.tmp 47) (Operand.tmp 50) (Operand.const (Value.bool false)), 4, none⟩]
abbrev rpm_Segments_b39 : LC := .reg false rpm_Segments_r38
abbrev rpm_Segments_r40 : List LO := [⟨some 52, Op.fieldAddr 100 (Operand.tmp 9) 1, 0, none⟩,
  ⟨some 53, Op.load 9 (Operand.tmp 52), 9, none⟩,
  ⟨some 54, Op.fieldAddr 100 (Operand.tmp 8) 1, 0, none⟩,
  ⟨some 55, Op.load 9 (Operand.tmp 54), 9, none⟩,
  ⟨some 56, Op.call { callee := Callee.value (Operand.func 66), args := #[Operand.tmp 53, Operand.tmp 55], argTypes := #[9, 9] }, 3, none⟩,
  ⟨none, Op.store 3 (Operand.tmp 7) (Operand.tmp 56), 0, none⟩]
abbrev rpm_Segments_b41 : LC := .reg false rpm_Segments_r40
abbrev rpm_Segments_b42 : LC := .cond (Operand.tmp 51) rpm_Segments_b41 .skip
abbrev rpm_Segments_b43 : LC := .seq rpm_Segments_b39 rpm_Segments_b42
abbrev rpm_Segments_r44 : List LO := [⟨some 57, Op.load 3 (Operand.tmp 7), 3, none⟩,
  ⟨some 58, Op.binOp BinOp.neq 3 (Operand.tmp 57) (Operand.const (Value.int IntKind.i64 0)) 3, 4, none⟩]
abbrev rpm_Segments_b45 : LC := .reg false rpm_Segments_r44
abbrev rpm_Segments_b46 : LC := .cond (Operand.tmp 58) (.exit 2) .skip
abbrev rpm_Segments_b47 : LC := .seq rpm_Segments_b45 rpm_Segments_b46
abbrev rpm_Segments_b48 : LC := .seq rpm_Segments_b43 rpm_Segments_b47
abbrev rpm_Segments_b49 : LC := .seq rpm_Segments_b37 rpm_Segments_b48
abbrev rpm_Segments_b50 : LC := .seq rpm_Segments_b31 rpm_Segments_b49
abbrev rpm_Segments_b51 : LC := .seq rpm_Segments_b29 rpm_Segments_b50
abbrev rpm_Segments_b52 : LC := .seq rpm_Segments_b27 rpm_Segments_b51
abbrev rpm_Segments_b53 : LC := .seq rpm_Segments_b25 rpm_Segments_b52
abbrev rpm_Segments_b54 : LC := .block 3 rpm_Segments_b53
noncomputable def rpm_Segments_y55_a0 : Code := codeSub (bodyOf Go.Proofs.Tryd.f39) [1, 0, 1, 1, 1, 1, 0, 1, 0, 0]
theorem rpm_Segments_y55_aw : lower E rpm_Segments_y55_a0 = some rpm_Segments_b21 := by kernel_rfl
noncomputable def rpm_Segments_y55_b0 : Code := codeSub (bodyOf Go.Proofs.Tryd.f39) [1, 0, 1, 1, 1, 1, 0, 1, 0, 1]
theorem rpm_Segments_y55_bw : lower E rpm_Segments_y55_b0 = some rpm_Segments_b54 := by kernel_rfl
noncomputable abbrev rpm_Segments_b56 : LC := .rng (Operand.tmp 18) [19] rpm_Segments_y55_a0 rpm_Segments_y55_b0
noncomputable abbrev rpm_Segments_b57 : LC := .block 2 rpm_Segments_b56
noncomputable abbrev rpm_Segments_b58 : LC := .seq rpm_Segments_b19 rpm_Segments_b57
abbrev rpm_Segments_r59 : List LO := [⟨some 59, Op.load 3 (Operand.tmp 7), 3, none⟩,
  ⟨some 4, Op.assign (Operand.tmp 59), 3, none⟩]
abbrev rpm_Segments_b60 : LC := .reg false rpm_Segments_r59
abbrev rpm_Segments_b61 : LC := .seq rpm_Segments_b60 .ret
noncomputable abbrev rpm_Segments_b62 : LC := .seq rpm_Segments_b58 rpm_Segments_b61
noncomputable abbrev rpm_Segments_b63 : LC := .seq .label rpm_Segments_b62
noncomputable abbrev rpm_Segments_b64 : LC := .seq rpm_Segments_b17 rpm_Segments_b63
noncomputable abbrev rpm_Segments_b65 : LC := .seq rpm_Segments_b15 rpm_Segments_b64
noncomputable abbrev rpm_Segments_b66 : LC := .seq rpm_Segments_b4 rpm_Segments_b65
noncomputable abbrev rpm_Segments_b67 : LC := .scope rpm_Segments_b66
noncomputable abbrev rpm_Segments_b68 : LC := .seq rpm_Segments_b2 rpm_Segments_b67
theorem rpm_Segments_k : FnOk E 39 60 [.tmp 4] rpm_Segments_b68 := ⟨⟨Go.Proofs.Tryd.f39, by kernel_rfl, by kernel_rfl, by kernel_rfl, by kernel_rfl, by kernel_rfl⟩, rfl⟩
noncomputable abbrev rpm_Segments_lp1 (a1 : Str) (x1 : Str) (q : LoopState) (p : Option Code) : AObj := .loop { state := q, pending := p, tmps := tl 60 [(1, .av (bs a1)), (5, .av (.ptr 0 0 1 0)), (11, .av (.fn 120 [.fptr [bs x1] 0]))] none, params := [12], assign := rpm_Segments_y12_a0, body := rpm_Segments_y12_b0 }
noncomputable def rpm_Segments_l1 (x1 : Str) : (Int × List S_rpm_segment) → Option (Step (Int × List S_rpm_segment) (List S_rpm_segment)) := fun (x14, x15) => (if (decide (x14 < (List.length x1 : Int))) = true then Option.bind (subl x1 x14 (w64 (x14 + 1))) (fun x31 => Option.bind (Option.bind (idx x1 x14) (fun x41 => (if (x41 == 126) = true then some (Sum.inl (0, x31)) else (if (x41 == 94) = true then some (Sum.inl (2, x31)) else Option.bind (scan_Is x41 1) (fun x42 => (if x42 = true then Option.bind (scan_Run x1 x14 1) (fun x43 => Option.bind (subl x1 x14 x43) (fun x44 => some (Sum.inl (4, x44)))) else Option.bind (scan_Is x41 4) (fun x45 => (if x45 = true then Option.bind (scan_Run x1 x14 4) (fun x46 => Option.bind (subl x1 x14 x46) (fun x47 => some (Sum.inl (3, x47)))) else some (Sum.inr ())))))))) : Option ((Int × Str) ⊕ (Unit))) (fun y => match y with | Sum.inl (x39, x40) => Option.bind (Option.bind (app 24 x15 [(S_rpm_segment.mk x39 x40)]) (fun x50 => some x50) : Option (List S_rpm_segment)) (fun x49 => some (Step.next ((w64 (x14 + (List.length x40 : Int))), x49))) | Sum.inr _ => some (Step.next ((w64 (x14 + 1)), x15)))) else some (Step.done x15))
noncomputable abbrev rpm_Segments_lp10 (x119 : Str) (q : LoopState) (p : Option Code) : AObj := .loop { state := q, pending := p, tmps := tl 60 [(5, .av (.ptr 0 0 1 0)), (7, .av (.ptr 4 0 1 0)), (18, .av (.fn 120 [.fptr [bs x119] 0]))] none, params := [19], assign := rpm_Segments_y55_a0, body := rpm_Segments_y55_b0 }
noncomputable def rpm_Segments_l2 (x119 : Str) : (Int × List S_rpm_segment × Int) → Option (Step (Int × List S_rpm_segment × Int) ((List S_rpm_segment × Int) ⊕ (List S_rpm_segment × Int))) := fun (x141, x142, x143) => (if (decide (x141 < (List.length x119 : Int))) = true then Option.bind (subl x119 x141 (w64 (x141 + 1))) (fun x172 => Option.bind (Option.bind (idx x119 x141) (fun x182 => (if (x182 == 126) = true then some (Sum.inl (0, x172)) else (if (x182 == 94) = true then some (Sum.inl (2, x172)) else Option.bind (scan_Is x182 1) (fun x183 => (if x183 = true then Option.bind (scan_Run x119 x141 1) (fun x184 => Option.bind (subl x119 x141 x184) (fun x185 => some (Sum.inl (4, x185)))) else Option.bind (scan_Is x182 4) (fun x186 => (if x186 = true then Option.bind (scan_Run x119 x141 4) (fun x187 => Option.bind (subl x119 x141 x187) (fun x188 => some (Sum.inl (3, x188)))) else some (Sum.inr ())))))))) : Option ((Int × Str) ⊕ (Unit))) (fun y => match y with | Sum.inl (x180, x181) => Option.bind ((if ((List.length x142 : Int) == 0) = true then some (Sum.inl (x142, x143)) else Option.bind (ixl x142 0) (fun x200 => Option.bind (subl x142 1 (List.length x142 : Int)) (fun x201 => Option.bind (cmp_Compare_int x200.kind x180) (fun x202 => Option.bind ((if ((x202 == 0) && (x200.kind == 4)) = true then Option.bind (scan_Cmp x200.text x181) (fun x205 => some x205) else some x202) : Option (Int)) (fun x204 => Option.bind ((if ((x204 == 0) && (x200.kind == 3)) = true then Option.bind (strings_Compare x200.text x181) (fun x208 => some x208) else some x204) : Option (Int)) (fun x207 => (if (x207 != 0) = true then some (Sum.inl (x201, x207)) else some (Sum.inr (x201, x207))))))))) : Option ((List S_rpm_segment × Int) ⊕ (List S_rpm_segment × Int))) (fun y => match y with | Sum.inl (x196, x197) => some (Step.done (Sum.inl (x196, x197))) | Sum.inr (x198, x199) => some (Step.next ((w64 (x141 + (List.length x181 : Int))), x198, x199))) | Sum.inr _ => some (Step.next ((w64 (x141 + 1)), x142, x143)))) else some (Step.done (Sum.inr (x142, x143))))
noncomputable def rpm_Segments (a0 : Str) (a1 : Str) : Option (Int) := Option.bind (rpm_segments a0) (fun x1 => Option.bind (loopC (rpm_Segments_l1 x1) (0, [])) (fun x30 => Option.bind (Option.bind (app 24 x30 [(S_rpm_segment.mk 1 [])]) (fun x53 => some x53) : Option (List S_rpm_segment)) (fun x52 => Option.bind (Option.bind (rpm_segments a1) (fun x119 => Option.bind (loopC (rpm_Segments_l2 x119) (0, x52, 0)) (fun y => match y with | Sum.inl (x168, x169) => some x169 | Sum.inr (x170, x171) => Option.bind ((if ((List.length x170 : Int) == 0) = true then some (Sum.inl (x170, x171)) else Option.bind (ixl x170 0) (fun x220 => Option.bind (subl x170 1 (List.length x170 : Int)) (fun x221 => Option.bind (cmp_Compare_int x220.kind 1) (fun x222 => Option.bind ((if ((x222 == 0) && (x220.kind == 4)) = true then Option.bind (scan_Cmp x220.text []) (fun x225 => some x225) else some x222) : Option (Int)) (fun x224 => Option.bind ((if ((x224 == 0) && (x220.kind == 3)) = true then Option.bind (strings_Compare x220.text []) (fun x228 => some x228) else some x224) : Option (Int)) (fun x227 => (if (x227 != 0) = true then some (Sum.inl (x221, x227)) else some (Sum.inr (x221, x227))))))))) : Option ((List S_rpm_segment × Int) ⊕ (List S_rpm_segment × Int))) (fun y => match y with | Sum.inl (x216, x217) => some x217 | Sum.inr (x218, x219) => some x219))) : Option (Int)) (fun x118 => some x118))))
theorem rpm_Segments_ok (a0 : Str) (a1 : Str) : Ct E 39 [bs a0, bs a1] (rpm_Segments a0 a1) (fun r : Int => iv r) := ct_intro (N := 60) (L := rpm_Segments_b68) rpm_Segments_k rfl (Nat.le_of_ble_eq_true rfl) (by kernel_rfl) (by
  unfold rpm_Segments
  refine jc_seq ?_
  refine jc_reg ?_
  refine jr_seg 0 1 [0, 1] [] (st1 := ⟨[(0, .av (bs a0)), (1, .av (bs a1))], [], 0⟩) (by kernel_rfl) ?_
  refine jr_nil rfl ?_
  refine jx_seqN ?_
  refine jc_scope ?_
  refine jc_seq ?_
  refine jc_reg ?_
  refine jr_seg 0 1 [0, 1, 5] [0] (st1 := ⟨[(0, .av (bs a0)), (1, .av (bs a1)), (5, .av (.ptr 0 0 1 0))], [(0, .rows 1 [[nilS]])], 1⟩) (by kernel_rfl) ?_
  refine jr_nil rfl ?_
  refine jx_seqN ?_
  refine jc_seq ?_
  refine jc_seq ?_
  refine jc_reg ?_
  refine jr_seg 0 1 [1, 5, 10] [0] (st1 := ⟨[(1, .av (bs a1)), (5, .av (.ptr 0 0 1 0)), (10, .av (bs a0))], [(0, .rows 1 [[nilS]])], 1⟩) (by kernel_rfl) ?_
  refine jr_callF (i := 1) rfl rfl rfl rfl (vs := [bs a0]) (by kernel_rfl) (snapL_cons rfl (snapL_nil _)) (all2_cons (fle_refl _) all2_nil) (rpm_segments_ok a0) (fun _ => rfl) (fun _ => rfl) ?_
  intro x1 h1
  refine jr_nil rfl ?_
  refine jx_seqN ?_
  refine jc_block ?_
  refine jc_keep [1, 5, 11] [0] (st1 := ⟨[(1, .av (bs a1)), (5, .av (.ptr 0 0 1 0)), (11, .av (.fn 120 [.fptr [bs x1] 0]))], [(0, .rows 1 [[nilS]])], 1⟩) (by kernel_rfl) ?_
  refine jc_rng (g := 120) (caps := [.fptr [bs x1] 0]) (by kernel_rfl) rpm_segments_1_it_k (Nat.le_of_ble_eq_true rfl) ?_
  intro F1 hc1
  refine jc_seq ?_
  refine jc_seq ?_
  refine jc_reg ?_
  refine jr_seg 0 1 [0, 1, 3] [0, 1] (st1 := ⟨[(0, .av (.yld 1)), (1, .av (.fptr [bs x1] 0)), (3, .av (iv 0))], [(0, .rows 1 [[nilS]]), (1, rpm_Segments_lp1 a1 x1 .ready none)], 2⟩) (by kernel_rfl) ?_
  refine jr_nil rfl ?_
  refine jx_seqN ?_
  refine jc_block ?_
  refine jc_bind (fun x30 => ⟨[(0, .av (.yld 1))], [(0, .rows 1 [[.osl 2 0 (List.length x30) 2]]), (1, rpm_Segments_lp1 a1 x1 .ready none), (2, .rows 2 (List.map c_S_rpm_segment x30))], 3⟩) (fun x30 => (.exit 0)) (jc_loop (fun (x14, x15) => ⟨[(0, .av (.yld 1)), (1, .av (.fptr [bs x1] 0)), (3, .av (iv x14))], [(0, .rows 1 [[.osl 2 0 (List.length x15) 2]]), (1, rpm_Segments_lp1 a1 x1 .ready none), (2, .rows 2 (List.map c_S_rpm_segment x15))], 3⟩) (wk_ren [(0, some 0), (1, some 1), (2, none)] (fix_of hc1.2.2 (k := 2) rfl) rfl (by kernel_rfl) (allp_cons (.inl ⟨0, _, _, _, rfl, rfl, rfl, .inl (by kernel_rfl)⟩) (allp_cons (.inr (.inr ⟨1, _, _, rfl, rfl, rfl, by kernel_rfl⟩)) (allp_cons (.inr (.inl ⟨rfl, _, rfl⟩)) allp_nil)))) ?_) ?_
  · rintro ⟨x14, x15⟩
    unfold rpm_Segments_l1
    refine jc_seq ?_
    refine jc_seq ?_
    refine jc_reg ?_
    refine jr_seg 0 4 [0, 1, 3, 9] [0, 1, 2] (st1 := ⟨[(0, .av (.yld 1)), (1, .av (.fptr [bs x1] 0)), (3, .av (iv x14)), (9, .av (bv (decide (x14 < (List.length x1 : Int)))))], [(0, .rows 1 [[.osl 2 0 (List.length x15) 2]]), (1, rpm_Segments_lp1 a1 x1 .ready none), (2, .rows 2 (List.map c_S_rpm_segment x15))], 3⟩) (by kernel_rfl) ?_
    refine jr_nil rfl ?_
    refine jx_seqN ?_
    refine jc_cond (g := 9) (c := (decide (x14 < (List.length x1 : Int)))) (by kernel_rfl) ?_ ?_
    · intro _
      refine jc_skip ?_
      refine jx_seqN ?_
      refine jc_block ?_
      refine jc_seq ?_
      refine jc_reg ?_
      refine jr_seg 0 4 [0, 1, 3, 10, 11, 13] [0, 1, 2] (st1 := ⟨[(0, .av (.yld 1)), (1, .av (.fptr [bs x1] 0)), (3, .av (iv x14)), (10, .av (bs x1)), (11, .av (iv x14)), (13, .av (iv (w64 (x14 + 1))))], [(0, .rows 1 [[.osl 2 0 (List.length x15) 2]]), (1, rpm_Segments_lp1 a1 x1 .ready none), (2, .rows 2 (List.map c_S_rpm_segment x15))], 3⟩) (by kernel_rfl) ?_
      refine jr_part (i := 4) (mo := subl x1 x14 (w64 (x14 + 1))) rfl rfl rfl rfl (fun _ hc => aop_subs (by kernel_rfl) (by kernel_rfl) (by kernel_rfl) (by kernel_rfl) hc) (fun _ => rfl) ?_
      intro x31 h31
      refine jr_seg 5 3 [0, 1, 3, 4] [0, 1, 2, 3] (st1 := ⟨[(0, .av (.yld 1)), (1, .av (.fptr [bs x1] 0)), (3, .av (iv x14)), (4, .av (.ptr 3 0 2 0))], [(0, .rows 1 [[.osl 2 0 (List.length x15) 2]]), (1, rpm_Segments_lp1 a1 x1 .ready none), (2, .rows 2 (List.map c_S_rpm_segment x15)), (3, .rows 2 [[iv 0, bs x31]])], 4⟩) (by kernel_rfl) ?_
      refine jr_nil rfl ?_
      refine jx_seqN ?_
      refine jc_seq ?_
      refine jc_bind (fun y => match y with | Sum.inl (x39, x40) => ⟨[(0, .av (.yld 1)), (1, .av (.fptr [bs x1] 0)), (3, .av (iv x14)), (4, .av (.ptr 2 0 2 0))], [(0, .rows 1 [[.osl 3 0 (List.length x15) 2]]), (1, rpm_Segments_lp1 a1 x1 .ready none), (2, .rows 2 [[iv x39, bs x40]]), (3, .rows 2 (List.map c_S_rpm_segment x15))], 4⟩ | Sum.inr _ => ⟨[(0, .av (.yld 1)), (1, .av (.fptr [bs x1] 0)), (3, .av (iv (w64 (x14 + 1))))], [(0, .rows 1 [[.osl 2 0 (List.length x15) 2]]), (1, rpm_Segments_lp1 a1 x1 .ready none), (2, .rows 2 (List.map c_S_rpm_segment x15))], 3⟩) (fun y => match y with | Sum.inl (x39, x40) => .normal | Sum.inr _ => (.exit 1)) ?_ ?_
      · refine jc_seq ?_
        refine jc_reg ?_
        refine jr_seg 0 2 [0, 1, 3, 4, 16, 17] [0, 1, 2, 3] (st1 := ⟨[(0, .av (.yld 1)), (1, .av (.fptr [bs x1] 0)), (3, .av (iv x14)), (4, .av (.ptr 3 0 2 0)), (16, .av (bs x1)), (17, .av (iv x14))], [(0, .rows 1 [[.osl 2 0 (List.length x15) 2]]), (1, rpm_Segments_lp1 a1 x1 .ready none), (2, .rows 2 (List.map c_S_rpm_segment x15)), (3, .rows 2 [[iv 0, bs x31]])], 4⟩) (by kernel_rfl) ?_
        refine jr_part (i := 2) (mo := idx x1 x14) rfl rfl rfl rfl (fun _ hc => aop_index (kk := .i64) (by kernel_rfl) (by kernel_rfl) (by kernel_rfl) hc) (fun _ => rfl) ?_
        intro x41 h41
        refine jr_seg 3 1 [0, 1, 3, 4, 5] [0, 1, 2, 3] (st1 := ⟨[(0, .av (.yld 1)), (1, .av (.fptr [bs x1] 0)), (3, .av (iv x14)), (4, .av (.ptr 3 0 2 0)), (5, .av (.s (.int .u8 x41)))], [(0, .rows 1 [[.osl 2 0 (List.length x15) 2]]), (1, rpm_Segments_lp1 a1 x1 .ready none), (2, .rows 2 (List.map c_S_rpm_segment x15)), (3, .rows 2 [[iv 0, bs x31]])], 4⟩) (by kernel_rfl) ?_
        refine jr_nil rfl ?_
        refine jx_seqN ?_
        refine jc_block ?_
        refine jc_seq ?_
        refine jc_reg ?_
        refine jr_seg 0 3 [0, 1, 3, 4, 5, 21] [0, 1, 2, 3] (st1 := ⟨[(0, .av (.yld 1)), (1, .av (.fptr [bs x1] 0)), (3, .av (iv x14)), (4, .av (.ptr 3 0 2 0)), (5, .av (.s (.int .u8 x41))), (21, .av (bv (x41 == 126)))], [(0, .rows 1 [[.osl 2 0 (List.length x15) 2]]), (1, rpm_Segments_lp1 a1 x1 .ready none), (2, .rows 2 (List.map c_S_rpm_segment x15)), (3, .rows 2 [[iv 0, bs x31]])], 4⟩) (by kernel_rfl) ?_
        refine jr_nil rfl ?_
        refine jx_seqN ?_
        refine jc_cond (g := 21) (c := (x41 == 126)) (by kernel_rfl) ?_ ?_
        · intro _
          refine jc_reg ?_
          refine jr_seg 0 2 [0, 1, 3, 4] [0, 1, 2, 3] (st1 := ⟨[(0, .av (.yld 1)), (1, .av (.fptr [bs x1] 0)), (3, .av (iv x14)), (4, .av (.ptr 3 0 2 0))], [(0, .rows 1 [[.osl 2 0 (List.length x15) 2]]), (1, rpm_Segments_lp1 a1 x1 .ready none), (2, .rows 2 (List.map c_S_rpm_segment x15)), (3, .rows 2 [[iv 0, bs x31]])], 4⟩) (by kernel_rfl) ?_
          refine jr_nil rfl ?_
          refine jx_blkN ?_
          exact jx_mid rfl (wk_ren [(0, some 0), (1, some 1), (2, some 3), (3, some 2)] (fix_of hc1.2.2 (k := 2) rfl) rfl (by kernel_rfl) (allp_cons (.inl ⟨0, _, _, _, rfl, rfl, rfl, .inl (by kernel_rfl)⟩) (allp_cons (.inr (.inr ⟨1, _, _, rfl, rfl, rfl, by kernel_rfl⟩)) (allp_cons (.inl ⟨3, _, _, _, rfl, rfl, rfl, .inl (by kernel_rfl)⟩) (allp_cons (.inl ⟨2, _, _, _, rfl, rfl, rfl, .inr ⟨rfl, noid_map ni_S_rpm_segment _⟩⟩) allp_nil)))))
        · intro _
          refine jc_seq ?_
          refine jc_reg ?_
          refine jr_seg 0 3 [0, 1, 3, 4, 5, 25] [0, 1, 2, 3] (st1 := ⟨[(0, .av (.yld 1)), (1, .av (.fptr [bs x1] 0)), (3, .av (iv x14)), (4, .av (.ptr 3 0 2 0)), (5, .av (.s (.int .u8 x41))), (25, .av (bv (x41 == 94)))], [(0, .rows 1 [[.osl 2 0 (List.length x15) 2]]), (1, rpm_Segments_lp1 a1 x1 .ready none), (2, .rows 2 (List.map c_S_rpm_segment x15)), (3, .rows 2 [[iv 0, bs x31]])], 4⟩) (by kernel_rfl) ?_
          refine jr_nil rfl ?_
          refine jx_seqN ?_
          refine jc_cond (g := 25) (c := (x41 == 94)) (by kernel_rfl) ?_ ?_
          · intro _
            refine jc_reg ?_
            refine jr_seg 0 2 [0, 1, 3, 4] [0, 1, 2, 3] (st1 := ⟨[(0, .av (.yld 1)), (1, .av (.fptr [bs x1] 0)), (3, .av (iv x14)), (4, .av (.ptr 3 0 2 0))], [(0, .rows 1 [[.osl 2 0 (List.length x15) 2]]), (1, rpm_Segments_lp1 a1 x1 .ready none), (2, .rows 2 (List.map c_S_rpm_segment x15)), (3, .rows 2 [[iv 2, bs x31]])], 4⟩) (by kernel_rfl) ?_
            refine jr_nil rfl ?_
            refine jx_blkN ?_
            exact jx_mid rfl (wk_ren [(0, some 0), (1, some 1), (2, some 3), (3, some 2)] (fix_of hc1.2.2 (k := 2) rfl) rfl (by kernel_rfl) (allp_cons (.inl ⟨0, _, _, _, rfl, rfl, rfl, .inl (by kernel_rfl)⟩) (allp_cons (.inr (.inr ⟨1, _, _, rfl, rfl, rfl, by kernel_rfl⟩)) (allp_cons (.inl ⟨3, _, _, _, rfl, rfl, rfl, .inl (by kernel_rfl)⟩) (allp_cons (.inl ⟨2, _, _, _, rfl, rfl, rfl, .inr ⟨rfl, noid_map ni_S_rpm_segment _⟩⟩) allp_nil)))))
          · intro _
            refine jc_seq ?_
            refine jc_reg ?_
            refine jr_seg 0 1 [0, 1, 3, 4, 5, 30] [0, 1, 2, 3] (st1 := ⟨[(0, .av (.yld 1)), (1, .av (.fptr [bs x1] 0)), (3, .av (iv x14)), (4, .av (.ptr 3 0 2 0)), (5, .av (.s (.int .u8 x41))), (30, .av (.s (.int .u8 x41)))], [(0, .rows 1 [[.osl 2 0 (List.length x15) 2]]), (1, rpm_Segments_lp1 a1 x1 .ready none), (2, .rows 2 (List.map c_S_rpm_segment x15)), (3, .rows 2 [[iv 0, bs x31]])], 4⟩) (by kernel_rfl) ?_
            refine jr_callF (i := 1) rfl rfl rfl rfl (vs := [.s (.int .u8 x41), iv 1]) (by kernel_rfl) (snapL_cons rfl (snapL_cons rfl (snapL_nil _))) (all2_cons (fle_refl _) (all2_cons (fle_refl _) all2_nil)) (scan_Is_ok x41 1) (fun _ => rfl) (fun _ => rfl) ?_
            intro x42 h42
            refine jr_seg 2 1 [0, 1, 3, 4, 5, 29] [0, 1, 2, 3] (st1 := ⟨[(0, .av (.yld 1)), (1, .av (.fptr [bs x1] 0)), (3, .av (iv x14)), (4, .av (.ptr 3 0 2 0)), (5, .av (.s (.int .u8 x41))), (29, .av (bv x42))], [(0, .rows 1 [[.osl 2 0 (List.length x15) 2]]), (1, rpm_Segments_lp1 a1 x1 .ready none), (2, .rows 2 (List.map c_S_rpm_segment x15)), (3, .rows 2 [[iv 0, bs x31]])], 4⟩) (by kernel_rfl) ?_
            refine jr_nil rfl ?_
            refine jx_seqN ?_
            refine jc_cond (g := 29) (c := x42) (by kernel_rfl) ?_ ?_
            · intro _
              refine jc_reg ?_
              refine jr_seg 0 4 [0, 1, 3, 4, 32, 33, 34, 35] [0, 1, 2, 3] (st1 := ⟨[(0, .av (.yld 1)), (1, .av (.fptr [bs x1] 0)), (3, .av (iv x14)), (4, .av (.ptr 3 0 2 0)), (32, .av (bs x1)), (33, .av (iv x14)), (34, .av (bs x1)), (35, .av (iv x14))], [(0, .rows 1 [[.osl 2 0 (List.length x15) 2]]), (1, rpm_Segments_lp1 a1 x1 .ready none), (2, .rows 2 (List.map c_S_rpm_segment x15)), (3, .rows 2 [[iv 0, bs x31]])], 4⟩) (by kernel_rfl) ?_
              refine jr_callF (i := 4) rfl rfl rfl rfl (vs := [bs x1, iv x14, iv 1]) (by kernel_rfl) (snapL_cons rfl (snapL_cons rfl (snapL_cons rfl (snapL_nil _)))) (all2_cons (fle_refl _) (all2_cons (fle_refl _) (all2_cons (fle_refl _) all2_nil))) (scan_Run_ok x1 x14 1) (fun _ => rfl) (fun _ => rfl) ?_
              intro x43 h43
              refine jr_part (i := 5) (mo := subl x1 x14 x43) rfl rfl rfl rfl (fun _ hc => aop_subs (by kernel_rfl) (by kernel_rfl) (by kernel_rfl) (by kernel_rfl) hc) (fun _ => rfl) ?_
              intro x44 h44
              refine jr_seg 6 2 [0, 1, 3, 4] [0, 1, 2, 3] (st1 := ⟨[(0, .av (.yld 1)), (1, .av (.fptr [bs x1] 0)), (3, .av (iv x14)), (4, .av (.ptr 3 0 2 0))], [(0, .rows 1 [[.osl 2 0 (List.length x15) 2]]), (1, rpm_Segments_lp1 a1 x1 .ready none), (2, .rows 2 (List.map c_S_rpm_segment x15)), (3, .rows 2 [[iv 4, bs x44]])], 4⟩) (by kernel_rfl) ?_
              refine jr_nil rfl ?_
              refine jx_blkN ?_
              exact jx_mid rfl (wk_ren [(0, some 0), (1, some 1), (2, some 3), (3, some 2)] (fix_of hc1.2.2 (k := 2) rfl) rfl (by kernel_rfl) (allp_cons (.inl ⟨0, _, _, _, rfl, rfl, rfl, .inl (by kernel_rfl)⟩) (allp_cons (.inr (.inr ⟨1, _, _, rfl, rfl, rfl, by kernel_rfl⟩)) (allp_cons (.inl ⟨3, _, _, _, rfl, rfl, rfl, .inl (by kernel_rfl)⟩) (allp_cons (.inl ⟨2, _, _, _, rfl, rfl, rfl, .inr ⟨rfl, noid_map ni_S_rpm_segment _⟩⟩) allp_nil)))))
            · intro _
              refine jc_seq ?_
              refine jc_reg ?_
              refine jr_seg 0 1 [0, 1, 3, 4, 40] [0, 1, 2, 3] (st1 := ⟨[(0, .av (.yld 1)), (1, .av (.fptr [bs x1] 0)), (3, .av (iv x14)), (4, .av (.ptr 3 0 2 0)), (40, .av (.s (.int .u8 x41)))], [(0, .rows 1 [[.osl 2 0 (List.length x15) 2]]), (1, rpm_Segments_lp1 a1 x1 .ready none), (2, .rows 2 (List.map c_S_rpm_segment x15)), (3, .rows 2 [[iv 0, bs x31]])], 4⟩) (by kernel_rfl) ?_
              refine jr_callF (i := 1) rfl rfl rfl rfl (vs := [.s (.int .u8 x41), iv 4]) (by kernel_rfl) (snapL_cons rfl (snapL_cons rfl (snapL_nil _))) (all2_cons (fle_refl _) (all2_cons (fle_refl _) all2_nil)) (scan_Is_ok x41 4) (fun _ => rfl) (fun _ => rfl) ?_
              intro x45 h45
              refine jr_seg 2 1 [0, 1, 3, 4, 39] [0, 1, 2, 3] (st1 := ⟨[(0, .av (.yld 1)), (1, .av (.fptr [bs x1] 0)), (3, .av (iv x14)), (4, .av (.ptr 3 0 2 0)), (39, .av (bv x45))], [(0, .rows 1 [[.osl 2 0 (List.length x15) 2]]), (1, rpm_Segments_lp1 a1 x1 .ready none), (2, .rows 2 (List.map c_S_rpm_segment x15)), (3, .rows 2 [[iv 0, bs x31]])], 4⟩) (by kernel_rfl) ?_
              refine jr_nil rfl ?_
              refine jx_seqN ?_
              refine jc_cond (g := 39) (c := x45) (by kernel_rfl) ?_ ?_
              · intro _
                refine jc_reg ?_
                refine jr_seg 0 4 [0, 1, 3, 4, 42, 43, 44, 45] [0, 1, 2, 3] (st1 := ⟨[(0, .av (.yld 1)), (1, .av (.fptr [bs x1] 0)), (3, .av (iv x14)), (4, .av (.ptr 3 0 2 0)), (42, .av (bs x1)), (43, .av (iv x14)), (44, .av (bs x1)), (45, .av (iv x14))], [(0, .rows 1 [[.osl 2 0 (List.length x15) 2]]), (1, rpm_Segments_lp1 a1 x1 .ready none), (2, .rows 2 (List.map c_S_rpm_segment x15)), (3, .rows 2 [[iv 0, bs x31]])], 4⟩) (by kernel_rfl) ?_
                refine jr_callF (i := 4) rfl rfl rfl rfl (vs := [bs x1, iv x14, iv 4]) (by kernel_rfl) (snapL_cons rfl (snapL_cons rfl (snapL_cons rfl (snapL_nil _)))) (all2_cons (fle_refl _) (all2_cons (fle_refl _) (all2_cons (fle_refl _) all2_nil))) (scan_Run_ok x1 x14 4) (fun _ => rfl) (fun _ => rfl) ?_
                intro x46 h46
                refine jr_part (i := 5) (mo := subl x1 x14 x46) rfl rfl rfl rfl (fun _ hc => aop_subs (by kernel_rfl) (by kernel_rfl) (by kernel_rfl) (by kernel_rfl) hc) (fun _ => rfl) ?_
                intro x47 h47
                refine jr_seg 6 2 [0, 1, 3, 4] [0, 1, 2, 3] (st1 := ⟨[(0, .av (.yld 1)), (1, .av (.fptr [bs x1] 0)), (3, .av (iv x14)), (4, .av (.ptr 3 0 2 0))], [(0, .rows 1 [[.osl 2 0 (List.length x15) 2]]), (1, rpm_Segments_lp1 a1 x1 .ready none), (2, .rows 2 (List.map c_S_rpm_segment x15)), (3, .rows 2 [[iv 3, bs x47]])], 4⟩) (by kernel_rfl) ?_
                refine jr_nil rfl ?_
                refine jx_blkN ?_
                exact jx_mid rfl (wk_ren [(0, some 0), (1, some 1), (2, some 3), (3, some 2)] (fix_of hc1.2.2 (k := 2) rfl) rfl (by kernel_rfl) (allp_cons (.inl ⟨0, _, _, _, rfl, rfl, rfl, .inl (by kernel_rfl)⟩) (allp_cons (.inr (.inr ⟨1, _, _, rfl, rfl, rfl, by kernel_rfl⟩)) (allp_cons (.inl ⟨3, _, _, _, rfl, rfl, rfl, .inl (by kernel_rfl)⟩) (allp_cons (.inl ⟨2, _, _, _, rfl, rfl, rfl, .inr ⟨rfl, noid_map ni_S_rpm_segment _⟩⟩) allp_nil)))))
              · intro _
                refine jc_seq ?_
                refine jc_reg ?_
                refine jr_seg 0 3 [0, 1, 3] [0, 1, 2] (st1 := ⟨[(0, .av (.yld 1)), (1, .av (.fptr [bs x1] 0)), (3, .av (iv (w64 (x14 + 1))))], [(0, .rows 1 [[.osl 2 0 (List.length x15) 2]]), (1, rpm_Segments_lp1 a1 x1 .ready none), (2, .rows 2 (List.map c_S_rpm_segment x15))], 4⟩) (by kernel_rfl) ?_
                refine jr_nil rfl ?_
                refine jx_seqN ?_
                refine jc_exit ?_
                refine jx_blkX rfl ?_
                exact jx_mid rfl (wk_ren [(0, some 0), (1, some 1), (2, some 2)] (fix_of hc1.2.2 (k := 2) rfl) rfl (by kernel_rfl) (allp_cons (.inl ⟨0, _, _, _, rfl, rfl, rfl, .inl (by kernel_rfl)⟩) (allp_cons (.inr (.inr ⟨1, _, _, rfl, rfl, rfl, by kernel_rfl⟩)) (allp_cons (.inl ⟨2, _, _, _, rfl, rfl, rfl, .inr ⟨rfl, noid_map ni_S_rpm_segment _⟩⟩) allp_nil))))
      · rintro (⟨x39, x40⟩ | _)
        · refine jx_seqN ?_
          refine jc_seq ?_
          refine jc_reg ?_
          refine jr_seg 0 6 [0, 1, 3, 4] [0, 1, 2, 3] (st1 := ⟨[(0, .av (.yld 1)), (1, .av (.fptr [bs x1] 0)), (3, .av (iv (w64 (x14 + (List.length x40 : Int))))), (4, .av (.ptr 2 0 2 0))], [(0, .rows 1 [[.osl 3 0 (List.length x15) 2]]), (1, rpm_Segments_lp1 a1 x1 .ready none), (2, .rows 2 [[iv x39, bs x40]]), (3, .rows 2 (List.map c_S_rpm_segment x15))], 4⟩) (by kernel_rfl) ?_
          refine jr_nil rfl ?_
          refine jx_seqN ?_
          refine jc_seq ?_
          refine jc_reg ?_
          refine jr_seg 0 2 [0, 1, 3, 54, 55] [0, 1, 3] (st1 := ⟨[(0, .av (.yld 1)), (1, .av (.fptr [bs x1] 0)), (3, .av (iv (w64 (x14 + (List.length x40 : Int))))), (54, .av (.yld 1)), (55, .av (.agg [iv x39, bs x40]))], [(0, .rows 1 [[.osl 3 0 (List.length x15) 2]]), (1, rpm_Segments_lp1 a1 x1 .ready none), (3, .rows 2 (List.map c_S_rpm_segment x15))], 4⟩) (by kernel_rfl) ?_
          refine jr_yield (i := 2) (l := 1) (Nc := 60) (Kc := [(1, .av (bs a1)), (5, .av (.ptr 0 0 1 0)), (11, .av (.fn 120 [.fptr [bs x1] 0]))]) (ps := [12]) (vs := [.agg [iv x39, bs x40]]) (fun x49 => ⟨[], [(0, .rows 1 [[.osl 4 0 (List.length x49) 2]]), (1, rpm_Segments_lp1 a1 x1 .busy none), (4, .rows 2 (List.map c_S_rpm_segment x49))], 5⟩) (fun x49 => .normal) [0, 1, 3, 56] [0, 1, 4] (after := (fun x49 => ⟨[(0, .av (.yld 1)), (1, .av (.fptr [bs x1] 0)), (3, .av (iv (w64 (x14 + (List.length x40 : Int))))), (56, .av (bv true))], [(0, .rows 1 [[.osl 4 0 (List.length x49) 2]]), (1, rpm_Segments_lp1 a1 x1 .ready none), (4, .rows 2 (List.map c_S_rpm_segment x49))], 5⟩)) rfl rfl rpm_Segments_y12_aw rpm_Segments_y12_bw (by kernel_rfl) (by kernel_rfl) (yctx_of hc1 rfl) rfl (by kernel_rfl) rfl ?_ (by intro x49 <;> exact ⟨none, by kernel_rfl⟩) (by intro x49 <;> kernel_rfl) ?_
          · intro F4 hy4
            refine jc_reg ?_
            refine jr_seg 0 2 [5, 6] [0, 1, 3, 4] (st1 := ⟨[(5, .av (.ptr 0 0 1 0)), (6, .av (.ptr 4 0 2 0))], [(0, .rows 1 [[.osl 3 0 (List.length x15) 2]]), (1, rpm_Segments_lp1 a1 x1 .ready none), (3, .rows 2 (List.map c_S_rpm_segment x15)), (4, .rows 2 [[iv x39, bs x40]])], 5⟩) (by kernel_rfl) ?_
            refine jr_nil rfl ?_
            refine jx_asg hy4 rfl ?_
            refine jc_block ?_
            refine jc_reg ?_
            refine jr_seg 0 3 [5, 13, 15] [0, 1, 3, 5] (st1 := ⟨[(5, .av (.ptr 0 0 1 0)), (13, .av (.osl 3 0 (List.length x15) 2)), (15, .av (.osl 5 0 (List.length [(S_rpm_segment.mk x39 x40)]) 2))], [(0, .rows 1 [[.osl 3 0 (List.length x15) 2]]), (1, rpm_Segments_lp1 a1 x1 .busy none), (3, .rows 2 (List.map c_S_rpm_segment x15)), (5, .rows 2 (List.map c_S_rpm_segment [(S_rpm_segment.mk x39 x40)]))], 6⟩) (by kernel_rfl) ?_
            refine jr_part (i := 3) (mo := app 24 x15 [(S_rpm_segment.mk x39 x40)]) rfl rfl rfl rfl (fun _ hc => aop_app (u := .osl 3 0 (List.length x15) 2) (w := .osl 5 0 (List.length [(S_rpm_segment.mk x39 x40)]) 2) (e := 100) (td := .slice 100) (by kernel_rfl) (by kernel_rfl) (by kernel_rfl) (by kernel_rfl) (.inl ⟨_, rfl⟩) (appendOf_own (c := c_S_rpm_segment) (sz := 2) (b := 24) (id := 3) (by kernel_rfl) (by kernel_rfl) (rows_own (by kernel_rfl)) (List.cons_ne_nil _ _) hc)) (fun _ => rfl) ?_
            intro x50 h50
            refine jr_seg 4 1 [] [0, 1, 6] (st1 := ⟨[], [(0, .rows 1 [[.osl 6 0 (List.length x50) 2]]), (1, rpm_Segments_lp1 a1 x1 .busy none), (6, .rows 2 (List.map c_S_rpm_segment x50))], 7⟩) (by kernel_rfl) ?_
            refine jr_nil rfl ?_
            refine jx_blkN ?_
            exact jx_mid rfl (wk_ren [(0, some 0), (1, some 1), (2, some 2), (3, some 3), (4, some 6)] (fix_of hy4.2 (k := 4) rfl) rfl (by kernel_rfl) (allp_cons (.inl ⟨0, _, _, _, rfl, rfl, rfl, .inl (by kernel_rfl)⟩) (allp_cons (.inr (.inr ⟨1, _, _, rfl, rfl, rfl, by kernel_rfl⟩)) (allp_cons (.inl ⟨6, _, _, _, rfl, rfl, rfl, .inr ⟨rfl, noid_map ni_S_rpm_segment _⟩⟩) allp_nil))))
          · intro x49
            refine jr_seg 3 1 [0, 1, 3, 57] [0, 1, 4] (st1 := ⟨[(0, .av (.yld 1)), (1, .av (.fptr [bs x1] 0)), (3, .av (iv (w64 (x14 + (List.length x40 : Int))))), (57, .av (bv false))], [(0, .rows 1 [[.osl 4 0 (List.length x49) 2]]), (1, rpm_Segments_lp1 a1 x1 .ready none), (4, .rows 2 (List.map c_S_rpm_segment x49))], 5⟩) (by kernel_rfl) ?_
            refine jr_nil rfl ?_
            refine jx_seqN ?_
            refine jc_condK (c := false) (by kernel_rfl) ?_
            refine jc_skip ?_
            refine jx_blkN ?_
            exact jx_next (wk_ren [(0, some 0), (1, some 1), (2, some 4)] (fix_of hc1.2.2 (k := 2) rfl) rfl (by kernel_rfl) (allp_cons (.inl ⟨0, _, _, _, rfl, rfl, rfl, .inl (by kernel_rfl)⟩) (allp_cons (.inr (.inr ⟨1, _, _, rfl, rfl, rfl, by kernel_rfl⟩)) (allp_cons (.inl ⟨4, _, _, _, rfl, rfl, rfl, .inr ⟨rfl, noid_map ni_S_rpm_segment _⟩⟩) allp_nil))))
        · refine jx_seqE ?_
          refine jx_blkE ?_
          exact jx_next (wk_ren [(0, some 0), (1, some 1), (2, some 2)] (fix_of hc1.2.2 (k := 2) rfl) rfl (by kernel_rfl) (allp_cons (.inl ⟨0, _, _, _, rfl, rfl, rfl, .inl (by kernel_rfl)⟩) (allp_cons (.inr (.inr ⟨1, _, _, rfl, rfl, rfl, by kernel_rfl⟩)) (allp_cons (.inl ⟨2, _, _, _, rfl, rfl, rfl, .inr ⟨rfl, noid_map ni_S_rpm_segment _⟩⟩) allp_nil))))
    · intro _
      refine jc_exit ?_
      refine jx_seqE ?_
      exact jx_done rfl nofun (wk_ren [(0, some 0), (1, some 1), (2, some 2)] (fix_of hc1.2.2 (k := 2) rfl) rfl (by kernel_rfl) (allp_cons (.inl ⟨0, _, _, _, rfl, rfl, rfl, .inl (by kernel_rfl)⟩) (allp_cons (.inr (.inr ⟨1, _, _, rfl, rfl, rfl, by kernel_rfl⟩)) (allp_cons (.inl ⟨2, _, _, _, rfl, rfl, rfl, .inr ⟨rfl, noid_map ni_S_rpm_segment _⟩⟩) allp_nil))))
  · intro x30
    refine jx_blkE ?_
    refine jx_seqN ?_
    refine jc_reg ?_
    refine jr_seg 0 2 [58, 59] [0, 1, 2] (st1 := ⟨[(58, .av (.yld 1)), (59, .av (.agg [iv 1, bs []]))], [(0, .rows 1 [[.osl 2 0 (List.length x30) 2]]), (1, rpm_Segments_lp1 a1 x1 .ready none), (2, .rows 2 (List.map c_S_rpm_segment x30))], 3⟩) (by kernel_rfl) ?_
    refine jr_yield (i := 2) (l := 1) (Nc := 60) (Kc := [(1, .av (bs a1)), (5, .av (.ptr 0 0 1 0)), (11, .av (.fn 120 [.fptr [bs x1] 0]))]) (ps := [12]) (vs := [.agg [iv 1, bs []]]) (fun x52 => ⟨[], [(0, .rows 1 [[.osl 3 0 (List.length x52) 2]]), (1, rpm_Segments_lp1 a1 x1 .busy none), (3, .rows 2 (List.map c_S_rpm_segment x52))], 4⟩) (fun x52 => .normal) [60] [0, 1, 3] (after := (fun x52 => ⟨[(60, .av (bv true))], [(0, .rows 1 [[.osl 3 0 (List.length x52) 2]]), (1, rpm_Segments_lp1 a1 x1 .ready none), (3, .rows 2 (List.map c_S_rpm_segment x52))], 4⟩)) rfl rfl rpm_Segments_y12_aw rpm_Segments_y12_bw (by kernel_rfl) (by kernel_rfl) (yctx_of hc1 rfl) rfl (by kernel_rfl) rfl ?_ (by intro x52 <;> exact ⟨none, by kernel_rfl⟩) (by intro x52 <;> kernel_rfl) ?_
    · intro F5 hy5
      refine jc_reg ?_
      refine jr_seg 0 2 [5, 6] [0, 1, 2, 3] (st1 := ⟨[(5, .av (.ptr 0 0 1 0)), (6, .av (.ptr 3 0 2 0))], [(0, .rows 1 [[.osl 2 0 (List.length x30) 2]]), (1, rpm_Segments_lp1 a1 x1 .ready none), (2, .rows 2 (List.map c_S_rpm_segment x30)), (3, .rows 2 [[iv 1, bs []]])], 4⟩) (by kernel_rfl) ?_
      refine jr_nil rfl ?_
      refine jx_asg hy5 rfl ?_
      refine jc_block ?_
      refine jc_reg ?_
      refine jr_seg 0 3 [5, 13, 15] [0, 1, 2, 4] (st1 := ⟨[(5, .av (.ptr 0 0 1 0)), (13, .av (.osl 2 0 (List.length x30) 2)), (15, .av (.osl 4 0 (List.length ([(S_rpm_segment.mk 1 [])])) 2))], [(0, .rows 1 [[.osl 2 0 (List.length x30) 2]]), (1, rpm_Segments_lp1 a1 x1 .busy none), (2, .rows 2 (List.map c_S_rpm_segment x30)), (4, .rows 2 (List.map c_S_rpm_segment ([(S_rpm_segment.mk 1 [])])))], 5⟩) (by kernel_rfl) ?_
      refine jr_part (i := 3) (mo := app 24 x30 [(S_rpm_segment.mk 1 [])]) rfl rfl rfl rfl (fun _ hc => aop_app (u := .osl 2 0 (List.length x30) 2) (w := .osl 4 0 (List.length ([(S_rpm_segment.mk 1 [])])) 2) (e := 100) (td := .slice 100) (by kernel_rfl) (by kernel_rfl) (by kernel_rfl) (by kernel_rfl) (.inl ⟨_, rfl⟩) (appendOf_own (c := c_S_rpm_segment) (sz := 2) (b := 24) (id := 2) (by kernel_rfl) (by kernel_rfl) (rows_own (by kernel_rfl)) (List.cons_ne_nil _ _) hc)) (fun _ => rfl) ?_
      intro x53 h53
      refine jr_seg 4 1 [] [0, 1, 5] (st1 := ⟨[], [(0, .rows 1 [[.osl 5 0 (List.length x53) 2]]), (1, rpm_Segments_lp1 a1 x1 .busy none), (5, .rows 2 (List.map c_S_rpm_segment x53))], 6⟩) (by kernel_rfl) ?_
      refine jr_nil rfl ?_
      refine jx_blkN ?_
      exact jx_mid rfl (wk_ren [(0, some 0), (1, some 1), (2, some 2), (3, some 5)] (fix_of hy5.2 (k := 3) rfl) rfl (by kernel_rfl) (allp_cons (.inl ⟨0, _, _, _, rfl, rfl, rfl, .inl (by kernel_rfl)⟩) (allp_cons (.inr (.inr ⟨1, _, _, rfl, rfl, rfl, by kernel_rfl⟩)) (allp_cons (.inl ⟨5, _, _, _, rfl, rfl, rfl, .inr ⟨rfl, noid_map ni_S_rpm_segment _⟩⟩) allp_nil))))
    · intro x52
      refine jr_nil rfl ?_
      refine jx_rng hc1 (.inl rfl) rfl nofun rfl ?_
      refine jx_blkN ?_
      refine jx_seqN ?_
      refine jc_seq ?_
      refine jc_reg ?_
      refine jr_seg 0 2 [1, 5, 7] [0, 3, 4] (st1 := ⟨[(1, .av (bs a1)), (5, .av (.ptr 0 0 1 0)), (7, .av (.ptr 4 0 1 0))], [(0, .rows 1 [[.osl 3 0 (List.length x52) 2]]), (3, .rows 2 (List.map c_S_rpm_segment x52)), (4, .rows 1 [[iv 0]])], 5⟩) (by kernel_rfl) ?_
      refine jr_nil rfl ?_
      refine jx_seqN ?_
      refine jc_seq ?_
      refine jc_label ?_
      refine jx_seqN ?_
      refine jc_seq ?_
      refine jc_bind (fun x118 => ⟨[(7, .av (.ptr 0 0 1 0))], [(0, .rows 1 [[iv x118]])], 1⟩) (fun x118 => .normal) ?_ ?_
      · refine jc_seq ?_
        refine jc_reg ?_
        refine jr_seg 0 1 [5, 7, 17] [0, 3, 4] (st1 := ⟨[(5, .av (.ptr 0 0 1 0)), (7, .av (.ptr 4 0 1 0)), (17, .av (bs a1))], [(0, .rows 1 [[.osl 3 0 (List.length x52) 2]]), (3, .rows 2 (List.map c_S_rpm_segment x52)), (4, .rows 1 [[iv 0]])], 5⟩) (by kernel_rfl) ?_
        refine jr_callF (i := 1) rfl rfl rfl rfl (vs := [bs a1]) (by kernel_rfl) (snapL_cons rfl (snapL_nil _)) (all2_cons (fle_refl _) all2_nil) (rpm_segments_ok a1) (fun _ => rfl) (fun _ => rfl) ?_
        intro x119 h119
        refine jr_nil rfl ?_
        refine jx_seqN ?_
        refine jc_block ?_
        refine jc_keep [5, 7, 18] [0, 3, 4] (st1 := ⟨[(5, .av (.ptr 0 0 1 0)), (7, .av (.ptr 4 0 1 0)), (18, .av (.fn 120 [.fptr [bs x119] 0]))], [(0, .rows 1 [[.osl 3 0 (List.length x52) 2]]), (3, .rows 2 (List.map c_S_rpm_segment x52)), (4, .rows 1 [[iv 0]])], 5⟩) (by kernel_rfl) ?_
        refine jc_rng (g := 120) (caps := [.fptr [bs x119] 0]) (by kernel_rfl) rpm_segments_1_it_k (Nat.le_of_ble_eq_true rfl) ?_
        intro F10 hc10
        refine jc_seq ?_
        refine jc_seq ?_
        refine jc_reg ?_
        refine jr_seg 0 1 [0, 1, 3] [0, 3, 4, 5] (st1 := ⟨[(0, .av (.yld 5)), (1, .av (.fptr [bs x119] 0)), (3, .av (iv 0))], [(0, .rows 1 [[.osl 3 0 (List.length x52) 2]]), (3, .rows 2 (List.map c_S_rpm_segment x52)), (4, .rows 1 [[iv 0]]), (5, rpm_Segments_lp10 x119 .ready none)], 6⟩) (by kernel_rfl) ?_
        refine jr_nil rfl ?_
        refine jx_seqN ?_
        refine jc_block ?_
        refine jc_bind (fun y => match y with | Sum.inl (x168, x169) => ⟨[], [(0, .rows 1 [[.osl 6 0 (List.length x168) 2]]), (4, .rows 1 [[iv x169]]), (5, rpm_Segments_lp10 x119 .done (some (.exit 2))), (6, .rows 2 (List.map c_S_rpm_segment x168))], 7⟩ | Sum.inr (x170, x171) => ⟨[(0, .av (.yld 5))], [(0, .rows 1 [[.osl 6 0 (List.length x170) 2]]), (4, .rows 1 [[iv x171]]), (5, rpm_Segments_lp10 x119 .ready none), (6, .rows 2 (List.map c_S_rpm_segment x170))], 7⟩) (fun y => match y with | Sum.inl (x168, x169) => .ret | Sum.inr (x170, x171) => (.exit 0)) (jc_loop (fun (x141, x142, x143) => ⟨[(0, .av (.yld 5)), (1, .av (.fptr [bs x119] 0)), (3, .av (iv x141))], [(0, .rows 1 [[.osl 6 0 (List.length x142) 2]]), (4, .rows 1 [[iv x143]]), (5, rpm_Segments_lp10 x119 .ready none), (6, .rows 2 (List.map c_S_rpm_segment x142))], 7⟩) (wk_ren [(0, some 0), (1, some 1), (2, some 2), (3, some 3), (4, some 4), (5, some 5), (6, some 3)] (fix_of hc10.2.2 (k := 6) rfl) rfl (by kernel_rfl) (allp_cons (.inl ⟨0, _, _, _, rfl, rfl, rfl, .inl (by kernel_rfl)⟩) (allp_cons (.inl ⟨4, _, _, _, rfl, rfl, rfl, .inl (by kernel_rfl)⟩) (allp_cons (.inr (.inr ⟨5, _, _, rfl, rfl, rfl, by kernel_rfl⟩)) (allp_cons (.inl ⟨3, _, _, _, rfl, rfl, rfl, .inr ⟨rfl, noid_map ni_S_rpm_segment _⟩⟩) allp_nil))))) ?_) ?_
        · rintro ⟨x141, x142, x143⟩
          unfold rpm_Segments_l2
          refine jc_seq ?_
          refine jc_seq ?_
          refine jc_reg ?_
          refine jr_seg 0 4 [0, 1, 3, 9] [0, 4, 5, 6] (st1 := ⟨[(0, .av (.yld 5)), (1, .av (.fptr [bs x119] 0)), (3, .av (iv x141)), (9, .av (bv (decide (x141 < (List.length x119 : Int)))))], [(0, .rows 1 [[.osl 6 0 (List.length x142) 2]]), (4, .rows 1 [[iv x143]]), (5, rpm_Segments_lp10 x119 .ready none), (6, .rows 2 (List.map c_S_rpm_segment x142))], 7⟩) (by kernel_rfl) ?_
          refine jr_nil rfl ?_
          refine jx_seqN ?_
          refine jc_cond (g := 9) (c := (decide (x141 < (List.length x119 : Int)))) (by kernel_rfl) ?_ ?_
          · intro _
            refine jc_skip ?_
            refine jx_seqN ?_
            refine jc_block ?_
            refine jc_seq ?_
            refine jc_reg ?_
            refine jr_seg 0 4 [0, 1, 3, 10, 11, 13] [0, 4, 5, 6] (st1 := ⟨[(0, .av (.yld 5)), (1, .av (.fptr [bs x119] 0)), (3, .av (iv x141)), (10, .av (bs x119)), (11, .av (iv x141)), (13, .av (iv (w64 (x141 + 1))))], [(0, .rows 1 [[.osl 6 0 (List.length x142) 2]]), (4, .rows 1 [[iv x143]]), (5, rpm_Segments_lp10 x119 .ready none), (6, .rows 2 (List.map c_S_rpm_segment x142))], 7⟩) (by kernel_rfl) ?_
            refine jr_part (i := 4) (mo := subl x119 x141 (w64 (x141 + 1))) rfl rfl rfl rfl (fun _ hc => aop_subs (by kernel_rfl) (by kernel_rfl) (by kernel_rfl) (by kernel_rfl) hc) (fun _ => rfl) ?_
            intro x172 h172
            refine jr_seg 5 3 [0, 1, 3, 4] [0, 4, 5, 6, 7] (st1 := ⟨[(0, .av (.yld 5)), (1, .av (.fptr [bs x119] 0)), (3, .av (iv x141)), (4, .av (.ptr 7 0 2 0))], [(0, .rows 1 [[.osl 6 0 (List.length x142) 2]]), (4, .rows 1 [[iv x143]]), (5, rpm_Segments_lp10 x119 .ready none), (6, .rows 2 (List.map c_S_rpm_segment x142)), (7, .rows 2 [[iv 0, bs x172]])], 8⟩) (by kernel_rfl) ?_
            refine jr_nil rfl ?_
            refine jx_seqN ?_
            refine jc_seq ?_
            refine jc_bind (fun y => match y with | Sum.inl (x180, x181) => ⟨[(0, .av (.yld 5)), (1, .av (.fptr [bs x119] 0)), (3, .av (iv x141)), (4, .av (.ptr 6 0 2 0))], [(0, .rows 1 [[.osl 7 0 (List.length x142) 2]]), (4, .rows 1 [[iv x143]]), (5, rpm_Segments_lp10 x119 .ready none), (6, .rows 2 [[iv x180, bs x181]]), (7, .rows 2 (List.map c_S_rpm_segment x142))], 8⟩ | Sum.inr _ => ⟨[(0, .av (.yld 5)), (1, .av (.fptr [bs x119] 0)), (3, .av (iv (w64 (x141 + 1))))], [(0, .rows 1 [[.osl 6 0 (List.length x142) 2]]), (4, .rows 1 [[iv x143]]), (5, rpm_Segments_lp10 x119 .ready none), (6, .rows 2 (List.map c_S_rpm_segment x142))], 7⟩) (fun y => match y with | Sum.inl (x180, x181) => .normal | Sum.inr _ => (.exit 1)) ?_ ?_
            · refine jc_seq ?_
              refine jc_reg ?_
              refine jr_seg 0 2 [0, 1, 3, 4, 16, 17] [0, 4, 5, 6, 7] (st1 := ⟨[(0, .av (.yld 5)), (1, .av (.fptr [bs x119] 0)), (3, .av (iv x141)), (4, .av (.ptr 7 0 2 0)), (16, .av (bs x119)), (17, .av (iv x141))], [(0, .rows 1 [[.osl 6 0 (List.length x142) 2]]), (4, .rows 1 [[iv x143]]), (5, rpm_Segments_lp10 x119 .ready none), (6, .rows 2 (List.map c_S_rpm_segment x142)), (7, .rows 2 [[iv 0, bs x172]])], 8⟩) (by kernel_rfl) ?_
              refine jr_part (i := 2) (mo := idx x119 x141) rfl rfl rfl rfl (fun _ hc => aop_index (kk := .i64) (by kernel_rfl) (by kernel_rfl) (by kernel_rfl) hc) (fun _ => rfl) ?_
              intro x182 h182
              refine jr_seg 3 1 [0, 1, 3, 4, 5] [0, 4, 5, 6, 7] (st1 := ⟨[(0, .av (.yld 5)), (1, .av (.fptr [bs x119] 0)), (3, .av (iv x141)), (4, .av (.ptr 7 0 2 0)), (5, .av (.s (.int .u8 x182)))], [(0, .rows 1 [[.osl 6 0 (List.length x142) 2]]), (4, .rows 1 [[iv x143]]), (5, rpm_Segments_lp10 x119 .ready none), (6, .rows 2 (List.map c_S_rpm_segment x142)), (7, .rows 2 [[iv 0, bs x172]])], 8⟩) (by kernel_rfl) ?_
              refine jr_nil rfl ?_
              refine jx_seqN ?_
              refine jc_block ?_
              refine jc_seq ?_
              refine jc_reg ?_
              refine jr_seg 0 3 [0, 1, 3, 4, 5, 21] [0, 4, 5, 6, 7] (st1 := ⟨[(0, .av (.yld 5)), (1, .av (.fptr [bs x119] 0)), (3, .av (iv x141)), (4, .av (.ptr 7 0 2 0)), (5, .av (.s (.int .u8 x182))), (21, .av (bv (x182 == 126)))], [(0, .rows 1 [[.osl 6 0 (List.length x142) 2]]), (4, .rows 1 [[iv x143]]), (5, rpm_Segments_lp10 x119 .ready none), (6, .rows 2 (List.map c_S_rpm_segment x142)), (7, .rows 2 [[iv 0, bs x172]])], 8⟩) (by kernel_rfl) ?_
              refine jr_nil rfl ?_
              refine jx_seqN ?_
              refine jc_cond (g := 21) (c := (x182 == 126)) (by kernel_rfl) ?_ ?_
              · intro _
                refine jc_reg ?_
                refine jr_seg 0 2 [0, 1, 3, 4] [0, 4, 5, 6, 7] (st1 := ⟨[(0, .av (.yld 5)), (1, .av (.fptr [bs x119] 0)), (3, .av (iv x141)), (4, .av (.ptr 7 0 2 0))], [(0, .rows 1 [[.osl 6 0 (List.length x142) 2]]), (4, .rows 1 [[iv x143]]), (5, rpm_Segments_lp10 x119 .ready none), (6, .rows 2 (List.map c_S_rpm_segment x142)), (7, .rows 2 [[iv 0, bs x172]])], 8⟩) (by kernel_rfl) ?_
                refine jr_nil rfl ?_
                refine jx_blkN ?_
                exact jx_mid rfl (wk_ren [(0, some 0), (1, some 1), (2, some 2), (3, some 3), (4, some 4), (5, some 5), (6, some 7), (7, some 6)] (fix_of hc10.2.2 (k := 6) rfl) rfl (by kernel_rfl) (allp_cons (.inl ⟨0, _, _, _, rfl, rfl, rfl, .inl (by kernel_rfl)⟩) (allp_cons (.inl ⟨4, _, _, _, rfl, rfl, rfl, .inl (by kernel_rfl)⟩) (allp_cons (.inr (.inr ⟨5, _, _, rfl, rfl, rfl, by kernel_rfl⟩)) (allp_cons (.inl ⟨7, _, _, _, rfl, rfl, rfl, .inl (by kernel_rfl)⟩) (allp_cons (.inl ⟨6, _, _, _, rfl, rfl, rfl, .inr ⟨rfl, noid_map ni_S_rpm_segment _⟩⟩) allp_nil))))))
              · intro _
                refine jc_seq ?_
                refine jc_reg ?_
                refine jr_seg 0 3 [0, 1, 3, 4, 5, 25] [0, 4, 5, 6, 7] (st1 := ⟨[(0, .av (.yld 5)), (1, .av (.fptr [bs x119] 0)), (3, .av (iv x141)), (4, .av (.ptr 7 0 2 0)), (5, .av (.s (.int .u8 x182))), (25, .av (bv (x182 == 94)))], [(0, .rows 1 [[.osl 6 0 (List.length x142) 2]]), (4, .rows 1 [[iv x143]]), (5, rpm_Segments_lp10 x119 .ready none), (6, .rows 2 (List.map c_S_rpm_segment x142)), (7, .rows 2 [[iv 0, bs x172]])], 8⟩) (by kernel_rfl) ?_
                refine jr_nil rfl ?_
                refine jx_seqN ?_
                refine jc_cond (g := 25) (c := (x182 == 94)) (by kernel_rfl) ?_ ?_
                · intro _
                  refine jc_reg ?_
                  refine jr_seg 0 2 [0, 1, 3, 4] [0, 4, 5, 6, 7] (st1 := ⟨[(0, .av (.yld 5)), (1, .av (.fptr [bs x119] 0)), (3, .av (iv x141)), (4, .av (.ptr 7 0 2 0))], [(0, .rows 1 [[.osl 6 0 (List.length x142) 2]]), (4, .rows 1 [[iv x143]]), (5, rpm_Segments_lp10 x119 .ready none), (6, .rows 2 (List.map c_S_rpm_segment x142)), (7, .rows 2 [[iv 2, bs x172]])], 8⟩) (by kernel_rfl) ?_
                  refine jr_nil rfl ?_
                  refine jx_blkN ?_
                  exact jx_mid rfl (wk_ren [(0, some 0), (1, some 1), (2, some 2), (3, some 3), (4, some 4), (5, some 5), (6, some 7), (7, some 6)] (fix_of hc10.2.2 (k := 6) rfl) rfl (by kernel_rfl) (allp_cons (.inl ⟨0, _, _, _, rfl, rfl, rfl, .inl (by kernel_rfl)⟩) (allp_cons (.inl ⟨4, _, _, _, rfl, rfl, rfl, .inl (by kernel_rfl)⟩) (allp_cons (.inr (.inr ⟨5, _, _, rfl, rfl, rfl, by kernel_rfl⟩)) (allp_cons (.inl ⟨7, _, _, _, rfl, rfl, rfl, .inl (by kernel_rfl)⟩) (allp_cons (.inl ⟨6, _, _, _, rfl, rfl, rfl, .inr ⟨rfl, noid_map ni_S_rpm_segment _⟩⟩) allp_nil))))))
                · intro _
                  refine jc_seq ?_
                  refine jc_reg ?_
                  refine jr_seg 0 1 [0, 1, 3, 4, 5, 30] [0, 4, 5, 6, 7] (st1 := ⟨[(0, .av (.yld 5)), (1, .av (.fptr [bs x119] 0)), (3, .av (iv x141)), (4, .av (.ptr 7 0 2 0)), (5, .av (.s (.int .u8 x182))), (30, .av (.s (.int .u8 x182)))], [(0, .rows 1 [[.osl 6 0 (List.length x142) 2]]), (4, .rows 1 [[iv x143]]), (5, rpm_Segments_lp10 x119 .ready none), (6, .rows 2 (List.map c_S_rpm_segment x142)), (7, .rows 2 [[iv 0, bs x172]])], 8⟩) (by kernel_rfl) ?_
                  refine jr_callF (i := 1) rfl rfl rfl rfl (vs := [.s (.int .u8 x182), iv 1]) (by kernel_rfl) (snapL_cons rfl (snapL_cons rfl (snapL_nil _))) (all2_cons (fle_refl _) (all2_cons (fle_refl _) all2_nil)) (scan_Is_ok x182 1) (fun _ => rfl) (fun _ => rfl) ?_
                  intro x183 h183
                  refine jr_seg 2 1 [0, 1, 3, 4, 5, 29] [0, 4, 5, 6, 7] (st1 := ⟨[(0, .av (.yld 5)), (1, .av (.fptr [bs x119] 0)), (3, .av (iv x141)), (4, .av (.ptr 7 0 2 0)), (5, .av (.s (.int .u8 x182))), (29, .av (bv x183))], [(0, .rows 1 [[.osl 6 0 (List.length x142) 2]]), (4, .rows 1 [[iv x143]]), (5, rpm_Segments_lp10 x119 .ready none), (6, .rows 2 (List.map c_S_rpm_segment x142)), (7, .rows 2 [[iv 0, bs x172]])], 8⟩) (by kernel_rfl) ?_
                  refine jr_nil rfl ?_
                  refine jx_seqN ?_
                  refine jc_cond (g := 29) (c := x183) (by kernel_rfl) ?_ ?_
                  · intro _
                    refine jc_reg ?_
                    refine jr_seg 0 4 [0, 1, 3, 4, 32, 33, 34, 35] [0, 4, 5, 6, 7] (st1 := ⟨[(0, .av (.yld 5)), (1, .av (.fptr [bs x119] 0)), (3, .av (iv x141)), (4, .av (.ptr 7 0 2 0)), (32, .av (bs x119)), (33, .av (iv x141)), (34, .av (bs x119)), (35, .av (iv x141))], [(0, .rows 1 [[.osl 6 0 (List.length x142) 2]]), (4, .rows 1 [[iv x143]]), (5, rpm_Segments_lp10 x119 .ready none), (6, .rows 2 (List.map c_S_rpm_segment x142)), (7, .rows 2 [[iv 0, bs x172]])], 8⟩) (by kernel_rfl) ?_
                    refine jr_callF (i := 4) rfl rfl rfl rfl (vs := [bs x119, iv x141, iv 1]) (by kernel_rfl) (snapL_cons rfl (snapL_cons rfl (snapL_cons rfl (snapL_nil _)))) (all2_cons (fle_refl _) (all2_cons (fle_refl _) (all2_cons (fle_refl _) all2_nil))) (scan_Run_ok x119 x141 1) (fun _ => rfl) (fun _ => rfl) ?_
                    intro x184 h184
                    refine jr_part (i := 5) (mo := subl x119 x141 x184) rfl rfl rfl rfl (fun _ hc => aop_subs (by kernel_rfl) (by kernel_rfl) (by kernel_rfl) (by kernel_rfl) hc) (fun _ => rfl) ?_
                    intro x185 h185
                    refine jr_seg 6 2 [0, 1, 3, 4] [0, 4, 5, 6, 7] (st1 := ⟨[(0, .av (.yld 5)), (1, .av (.fptr [bs x119] 0)), (3, .av (iv x141)), (4, .av (.ptr 7 0 2 0))], [(0, .rows 1 [[.osl 6 0 (List.length x142) 2]]), (4, .rows 1 [[iv x143]]), (5, rpm_Segments_lp10 x119 .ready none), (6, .rows 2 (List.map c_S_rpm_segment x142)), (7, .rows 2 [[iv 4, bs x185]])], 8⟩) (by kernel_rfl) ?_
                    refine jr_nil rfl ?_
                    refine jx_blkN ?_
                    exact jx_mid rfl (wk_ren [(0, some 0), (1, some 1), (2, some 2), (3, some 3), (4, some 4), (5, some 5), (6, some 7), (7, some 6)] (fix_of hc10.2.2 (k := 6) rfl) rfl (by kernel_rfl) (allp_cons (.inl ⟨0, _, _, _, rfl, rfl, rfl, .inl (by kernel_rfl)⟩) (allp_cons (.inl ⟨4, _, _, _, rfl, rfl, rfl, .inl (by kernel_rfl)⟩) (allp_cons (.inr (.inr ⟨5, _, _, rfl, rfl, rfl, by kernel_rfl⟩)) (allp_cons (.inl ⟨7, _, _, _, rfl, rfl, rfl, .inl (by kernel_rfl)⟩) (allp_cons (.inl ⟨6, _, _, _, rfl, rfl, rfl, .inr ⟨rfl, noid_map ni_S_rpm_segment _⟩⟩) allp_nil))))))
                  · intro _
                    refine jc_seq ?_
                    refine jc_reg ?_
                    refine jr_seg 0 1 [0, 1, 3, 4, 40] [0, 4, 5, 6, 7] (st1 := ⟨[(0, .av (.yld 5)), (1, .av (.fptr [bs x119] 0)), (3, .av (iv x141)), (4, .av (.ptr 7 0 2 0)), (40, .av (.s (.int .u8 x182)))], [(0, .rows 1 [[.osl 6 0 (List.length x142) 2]]), (4, .rows 1 [[iv x143]]), (5, rpm_Segments_lp10 x119 .ready none), (6, .rows 2 (List.map c_S_rpm_segment x142)), (7, .rows 2 [[iv 0, bs x172]])], 8⟩) (by kernel_rfl) ?_
                    refine jr_callF (i := 1) rfl rfl rfl rfl (vs := [.s (.int .u8 x182), iv 4]) (by kernel_rfl) (snapL_cons rfl (snapL_cons rfl (snapL_nil _))) (all2_cons (fle_refl _) (all2_cons (fle_refl _) all2_nil)) (scan_Is_ok x182 4) (fun _ => rfl) (fun _ => rfl) ?_
                    intro x186 h186
                    refine jr_seg 2 1 [0, 1, 3, 4, 39] [0, 4, 5, 6, 7] (st1 := ⟨[(0, .av (.yld 5)), (1, .av (.fptr [bs x119] 0)), (3, .av (iv x141)), (4, .av (.ptr 7 0 2 0)), (39, .av (bv x186))], [(0, .rows 1 [[.osl 6 0 (List.length x142) 2]]), (4, .rows 1 [[iv x143]]), (5, rpm_Segments_lp10 x119 .ready none), (6, .rows 2 (List.map c_S_rpm_segment x142)), (7, .rows 2 [[iv 0, bs x172]])], 8⟩) (by kernel_rfl) ?_
                    refine jr_nil rfl ?_
                    refine jx_seqN ?_
                    refine jc_cond (g := 39) (c := x186) (by kernel_rfl) ?_ ?_
                    · intro _
                      refine jc_reg ?_
                      refine jr_seg 0 4 [0, 1, 3, 4, 42, 43, 44, 45] [0, 4, 5, 6, 7] (st1 := ⟨[(0, .av (.yld 5)), (1, .av (.fptr [bs x119] 0)), (3, .av (iv x141)), (4, .av (.ptr 7 0 2 0)), (42, .av (bs x119)), (43, .av (iv x141)), (44, .av (bs x119)), (45, .av (iv x141))], [(0, .rows 1 [[.osl 6 0 (List.length x142) 2]]), (4, .rows 1 [[iv x143]]), (5, rpm_Segments_lp10 x119 .ready none), (6, .rows 2 (List.map c_S_rpm_segment x142)), (7, .rows 2 [[iv 0, bs x172]])], 8⟩) (by kernel_rfl) ?_
                      refine jr_callF (i := 4) rfl rfl rfl rfl (vs := [bs x119, iv x141, iv 4]) (by kernel_rfl) (snapL_cons rfl (snapL_cons rfl (snapL_cons rfl (snapL_nil _)))) (all2_cons (fle_refl _) (all2_cons (fle_refl _) (all2_cons (fle_refl _) all2_nil))) (scan_Run_ok x119 x141 4) (fun _ => rfl) (fun _ => rfl) ?_
                      intro x187 h187
                      refine jr_part (i := 5) (mo := subl x119 x141 x187) rfl rfl rfl rfl (fun _ hc => aop_subs (by kernel_rfl) (by kernel_rfl) (by kernel_rfl) (by kernel_rfl) hc) (fun _ => rfl) ?_
                      intro x188 h188
                      refine jr_seg 6 2 [0, 1, 3, 4] [0, 4, 5, 6, 7] (st1 := ⟨[(0, .av (.yld 5)), (1, .av (.fptr [bs x119] 0)), (3, .av (iv x141)), (4, .av (.ptr 7 0 2 0))], [(0, .rows 1 [[.osl 6 0 (List.length x142) 2]]), (4, .rows 1 [[iv x143]]), (5, rpm_Segments_lp10 x119 .ready none), (6, .rows 2 (List.map c_S_rpm_segment x142)), (7, .rows 2 [[iv 3, bs x188]])], 8⟩) (by kernel_rfl) ?_
                      refine jr_nil rfl ?_
                      refine jx_blkN ?_
                      exact jx_mid rfl (wk_ren [(0, some 0), (1, some 1), (2, some 2), (3, some 3), (4, some 4), (5, some 5), (6, some 7), (7, some 6)] (fix_of hc10.2.2 (k := 6) rfl) rfl (by kernel_rfl) (allp_cons (.inl ⟨0, _, _, _, rfl, rfl, rfl, .inl (by kernel_rfl)⟩) (allp_cons (.inl ⟨4, _, _, _, rfl, rfl, rfl, .inl (by kernel_rfl)⟩) (allp_cons (.inr (.inr ⟨5, _, _, rfl, rfl, rfl, by kernel_rfl⟩)) (allp_cons (.inl ⟨7, _, _, _, rfl, rfl, rfl, .inl (by kernel_rfl)⟩) (allp_cons (.inl ⟨6, _, _, _, rfl, rfl, rfl, .inr ⟨rfl, noid_map ni_S_rpm_segment _⟩⟩) allp_nil))))))
                    · intro _
                      refine jc_seq ?_
                      refine jc_reg ?_
                      refine jr_seg 0 3 [0, 1, 3] [0, 4, 5, 6] (st1 := ⟨[(0, .av (.yld 5)), (1, .av (.fptr [bs x119] 0)), (3, .av (iv (w64 (x141 + 1))))], [(0, .rows 1 [[.osl 6 0 (List.length x142) 2]]), (4, .rows 1 [[iv x143]]), (5, rpm_Segments_lp10 x119 .ready none), (6, .rows 2 (List.map c_S_rpm_segment x142))], 8⟩) (by kernel_rfl) ?_
                      refine jr_nil rfl ?_
                      refine jx_seqN ?_
                      refine jc_exit ?_
                      refine jx_blkX rfl ?_
                      exact jx_mid rfl (wk_ren [(0, some 0), (1, some 1), (2, some 2), (3, some 3), (4, some 4), (5, some 5), (6, some 6)] (fix_of hc10.2.2 (k := 6) rfl) rfl (by kernel_rfl) (allp_cons (.inl ⟨0, _, _, _, rfl, rfl, rfl, .inl (by kernel_rfl)⟩) (allp_cons (.inl ⟨4, _, _, _, rfl, rfl, rfl, .inl (by kernel_rfl)⟩) (allp_cons (.inr (.inr ⟨5, _, _, rfl, rfl, rfl, by kernel_rfl⟩)) (allp_cons (.inl ⟨6, _, _, _, rfl, rfl, rfl, .inr ⟨rfl, noid_map ni_S_rpm_segment _⟩⟩) allp_nil)))))
            · rintro (⟨x180, x181⟩ | _)
              · refine jx_seqN ?_
                refine jc_seq ?_
                refine jc_reg ?_
                refine jr_seg 0 6 [0, 1, 3, 4] [0, 4, 5, 6, 7] (st1 := ⟨[(0, .av (.yld 5)), (1, .av (.fptr [bs x119] 0)), (3, .av (iv (w64 (x141 + (List.length x181 : Int))))), (4, .av (.ptr 6 0 2 0))], [(0, .rows 1 [[.osl 7 0 (List.length x142) 2]]), (4, .rows 1 [[iv x143]]), (5, rpm_Segments_lp10 x119 .ready none), (6, .rows 2 [[iv x180, bs x181]]), (7, .rows 2 (List.map c_S_rpm_segment x142))], 8⟩) (by kernel_rfl) ?_
                refine jr_nil rfl ?_
                refine jx_seqN ?_
                refine jc_seq ?_
                refine jc_reg ?_
                refine jr_seg 0 2 [0, 1, 3, 54, 55] [0, 4, 5, 7] (st1 := ⟨[(0, .av (.yld 5)), (1, .av (.fptr [bs x119] 0)), (3, .av (iv (w64 (x141 + (List.length x181 : Int))))), (54, .av (.yld 5)), (55, .av (.agg [iv x180, bs x181]))], [(0, .rows 1 [[.osl 7 0 (List.length x142) 2]]), (4, .rows 1 [[iv x143]]), (5, rpm_Segments_lp10 x119 .ready none), (7, .rows 2 (List.map c_S_rpm_segment x142))], 8⟩) (by kernel_rfl) ?_
                refine jr_yield (i := 2) (l := 5) (Nc := 60) (Kc := [(5, .av (.ptr 0 0 1 0)), (7, .av (.ptr 4 0 1 0)), (18, .av (.fn 120 [.fptr [bs x119] 0]))]) (ps := [19]) (vs := [.agg [iv x180, bs x181]]) (fun y => match y with | Sum.inl (x196, x197) => ⟨[], [(0, .rows 1 [[.osl 8 0 (List.length x196) 2]]), (4, .rows 1 [[iv x197]]), (5, rpm_Segments_lp10 x119 .busy none), (8, .rows 2 (List.map c_S_rpm_segment x196))], 9⟩ | Sum.inr (x198, x199) => ⟨[], [(0, .rows 1 [[.osl 8 0 (List.length x198) 2]]), (4, .rows 1 [[iv x199]]), (5, rpm_Segments_lp10 x119 .busy none), (8, .rows 2 (List.map c_S_rpm_segment x198))], 9⟩) (fun y => match y with | Sum.inl (x196, x197) => (.exit 2) | Sum.inr (x198, x199) => .normal) [0, 1, 3, 56] [0, 4, 5, 8] (after := (fun y => match y with | Sum.inl (x196, x197) => ⟨[(0, .av (.yld 5)), (1, .av (.fptr [bs x119] 0)), (3, .av (iv (w64 (x141 + (List.length x181 : Int))))), (56, .av (bv false))], [(0, .rows 1 [[.osl 8 0 (List.length x196) 2]]), (4, .rows 1 [[iv x197]]), (5, rpm_Segments_lp10 x119 .done (some (.exit 2))), (8, .rows 2 (List.map c_S_rpm_segment x196))], 9⟩ | Sum.inr (x198, x199) => ⟨[(0, .av (.yld 5)), (1, .av (.fptr [bs x119] 0)), (3, .av (iv (w64 (x141 + (List.length x181 : Int))))), (56, .av (bv true))], [(0, .rows 1 [[.osl 8 0 (List.length x198) 2]]), (4, .rows 1 [[iv x199]]), (5, rpm_Segments_lp10 x119 .ready none), (8, .rows 2 (List.map c_S_rpm_segment x198))], 9⟩)) rfl rfl rpm_Segments_y55_aw rpm_Segments_y55_bw (by kernel_rfl) (by kernel_rfl) (yctx_of hc10 rfl) rfl (by kernel_rfl) rfl ?_ (by rintro (⟨x196, x197⟩ | ⟨x198, x199⟩) <;> exact ⟨none, by kernel_rfl⟩) (by rintro (⟨x196, x197⟩ | ⟨x198, x199⟩) <;> kernel_rfl) ?_
                · intro F13 hy13
                  refine jc_reg ?_
                  refine jr_seg 0 2 [5, 7, 8] [0, 4, 5, 7, 8] (st1 := ⟨[(5, .av (.ptr 0 0 1 0)), (7, .av (.ptr 4 0 1 0)), (8, .av (.ptr 8 0 2 0))], [(0, .rows 1 [[.osl 7 0 (List.length x142) 2]]), (4, .rows 1 [[iv x143]]), (5, rpm_Segments_lp10 x119 .ready none), (7, .rows 2 (List.map c_S_rpm_segment x142)), (8, .rows 2 [[iv x180, bs x181]])], 9⟩) (by kernel_rfl) ?_
                  refine jr_nil rfl ?_
                  refine jx_asg hy13 rfl ?_
                  refine jc_block ?_
                  refine jc_seq ?_
                  refine jc_seq ?_
                  refine jc_reg ?_
                  refine jr_seg 0 3 [5, 7, 8, 22] [0, 4, 5, 7, 8] (st1 := ⟨[(5, .av (.ptr 0 0 1 0)), (7, .av (.ptr 4 0 1 0)), (8, .av (.ptr 8 0 2 0)), (22, .av (bv ((List.length x142 : Int) == 0)))], [(0, .rows 1 [[.osl 7 0 (List.length x142) 2]]), (4, .rows 1 [[iv x143]]), (5, rpm_Segments_lp10 x119 .busy none), (7, .rows 2 (List.map c_S_rpm_segment x142)), (8, .rows 2 [[iv x180, bs x181]])], 9⟩) (by kernel_rfl) ?_
                  refine jr_nil rfl ?_
                  refine jx_seqN ?_
                  refine jc_cond (g := 22) (c := ((List.length x142 : Int) == 0)) (by kernel_rfl) ?_ ?_
                  · intro _
                    refine jc_exit ?_
                    refine jx_seqE ?_
                    refine jx_blkX rfl ?_
                    exact jx_mid rfl (wk_ren [(0, some 0), (1, some 1), (2, some 2), (3, some 3), (4, some 4), (5, some 5), (6, some 6), (7, some 7), (8, some 7)] (fix_of hy13.2 (k := 8) rfl) rfl (by kernel_rfl) (allp_cons (.inl ⟨0, _, _, _, rfl, rfl, rfl, .inl (by kernel_rfl)⟩) (allp_cons (.inl ⟨4, _, _, _, rfl, rfl, rfl, .inl (by kernel_rfl)⟩) (allp_cons (.inr (.inr ⟨5, _, _, rfl, rfl, rfl, by kernel_rfl⟩)) (allp_cons (.inl ⟨7, _, _, _, rfl, rfl, rfl, .inr ⟨rfl, noid_map ni_S_rpm_segment _⟩⟩) allp_nil)))))
                  · intro _
                    refine jc_skip ?_
                    refine jx_seqN ?_
                    refine jc_seq ?_
                    refine jc_reg ?_
                    refine jr_seg 0 1 [5, 7, 8, 23] [0, 4, 5, 7, 8] (st1 := ⟨[(5, .av (.ptr 0 0 1 0)), (7, .av (.ptr 4 0 1 0)), (8, .av (.ptr 8 0 2 0)), (23, .av (.osl 7 0 (List.length x142) 2))], [(0, .rows 1 [[.osl 7 0 (List.length x142) 2]]), (4, .rows 1 [[iv x143]]), (5, rpm_Segments_lp10 x119 .busy none), (7, .rows 2 (List.map c_S_rpm_segment x142)), (8, .rows 2 [[iv x180, bs x181]])], 9⟩) (by kernel_rfl) ?_
                    refine jr_part (i := 1) (mo := ixl x142 0) rfl rfl rfl rfl (fun _ hc => aop_ixo0 (sz := 2) (e := 100) (kk := .i64) (id := 7) (by kernel_rfl) (by kernel_rfl) (by kernel_rfl) (by kernel_rfl) hc) (fun _ => rfl) ?_
                    intro x200 h200
                    refine jr_one (i := 2) (v := .agg [iv x200.kind, bs x200.text]) rfl rfl rfl rfl (aop_ldo (l := x142) (c := c_S_rpm_segment) (id := 7) (k := (Int.toNat 0)) (sz := 2) (off := 0) (a := x200) (by kernel_rfl) (by kernel_rfl) (ixl_lt h200).2.2 (by kernel_rfl)) rfl ?_
                    refine jr_seg 3 2 [5, 7, 8, 9] [0, 4, 5, 7, 8, 9] (st1 := ⟨[(5, .av (.ptr 0 0 1 0)), (7, .av (.ptr 4 0 1 0)), (8, .av (.ptr 8 0 2 0)), (9, .av (.ptr 9 0 2 0))], [(0, .rows 1 [[.osl 7 0 (List.length x142) 2]]), (4, .rows 1 [[iv x143]]), (5, rpm_Segments_lp10 x119 .busy none), (7, .rows 2 (List.map c_S_rpm_segment x142)), (8, .rows 2 [[iv x180, bs x181]]), (9, .rows 2 [[iv x200.kind, bs x200.text]])], 10⟩) (by kernel_rfl) ?_
                    refine jr_nil rfl ?_
                    refine jx_seqN ?_
                    refine jc_seq ?_
                    refine jc_reg ?_
                    refine jr_seg 0 1 [5, 7, 8, 9, 26] [0, 4, 5, 7, 8, 9] (st1 := ⟨[(5, .av (.ptr 0 0 1 0)), (7, .av (.ptr 4 0 1 0)), (8, .av (.ptr 8 0 2 0)), (9, .av (.ptr 9 0 2 0)), (26, .av (.osl 7 0 (List.length x142) 2))], [(0, .rows 1 [[.osl 7 0 (List.length x142) 2]]), (4, .rows 1 [[iv x143]]), (5, rpm_Segments_lp10 x119 .busy none), (7, .rows 2 (List.map c_S_rpm_segment x142)), (8, .rows 2 [[iv x180, bs x181]]), (9, .rows 2 [[iv x200.kind, bs x200.text]])], 10⟩) (by kernel_rfl) ?_
                    refine jr_part (i := 1) (mo := subl x142 1 (List.length x142 : Int)) rfl rfl rfl rfl (fun _ hc => aop_subo (l := x142) (e := 100) (id := 7) (off := 0) (sz := 2) (by kernel_rfl) (by kernel_rfl) (by kernel_rfl) (by kernel_rfl) (by kernel_rfl) hc) (fun _ => rfl) ?_
                    intro x201 h201
                    refine jr_root (d := 27) (j := 7) (k := 0 + Int.toNat 1) (len := List.length x201) (sz := 2) (rows := List.map c_S_rpm_segment x142) (rows' := List.map c_S_rpm_segment x201) (by kernel_rfl) (by kernel_rfl) (subl_kle h201) (subl_rows0 h201) ?_
                    refine jr_seg 2 1 [7, 8, 9] [0, 4, 5, 8, 9, 10] (st1 := ⟨[(7, .av (.ptr 4 0 1 0)), (8, .av (.ptr 8 0 2 0)), (9, .av (.ptr 9 0 2 0))], [(0, .rows 1 [[.osl 10 0 (List.length x201) 2]]), (4, .rows 1 [[iv x143]]), (5, rpm_Segments_lp10 x119 .busy none), (8, .rows 2 [[iv x180, bs x181]]), (9, .rows 2 [[iv x200.kind, bs x200.text]]), (10, .rows 2 (List.map c_S_rpm_segment x201))], 11⟩) (by kernel_rfl) ?_
                    refine jr_nil rfl ?_
                    refine jx_seqN ?_
                    refine jc_seq ?_
                    refine jc_reg ?_
                    refine jr_seg 0 4 [7, 8, 9, 29, 31] [0, 4, 5, 8, 9, 10] (st1 := ⟨[(7, .av (.ptr 4 0 1 0)), (8, .av (.ptr 8 0 2 0)), (9, .av (.ptr 9 0 2 0)), (29, .av (iv x200.kind)), (31, .av (iv x180))], [(0, .rows 1 [[.osl 10 0 (List.length x201) 2]]), (4, .rows 1 [[iv x143]]), (5, rpm_Segments_lp10 x119 .busy none), (8, .rows 2 [[iv x180, bs x181]]), (9, .rows 2 [[iv x200.kind, bs x200.text]]), (10, .rows 2 (List.map c_S_rpm_segment x201))], 11⟩) (by kernel_rfl) ?_
                    refine jr_callF (i := 4) rfl rfl rfl rfl (vs := [iv x200.kind, iv x180]) (by kernel_rfl) (snapL_cons rfl (snapL_cons rfl (snapL_nil _))) (all2_cons (fle_refl _) (all2_cons (fle_refl _) all2_nil)) (cmp_Compare_int_ok x200.kind x180) (fun _ => rfl) (fun _ => rfl) ?_
                    intro x202 h202
                    refine jr_seg 5 1 [7, 8, 9] [0, 4, 5, 8, 9, 10] (st1 := ⟨[(7, .av (.ptr 4 0 1 0)), (8, .av (.ptr 8 0 2 0)), (9, .av (.ptr 9 0 2 0))], [(0, .rows 1 [[.osl 10 0 (List.length x201) 2]]), (4, .rows 1 [[iv x202]]), (5, rpm_Segments_lp10 x119 .busy none), (8, .rows 2 [[iv x180, bs x181]]), (9, .rows 2 [[iv x200.kind, bs x200.text]]), (10, .rows 2 (List.map c_S_rpm_segment x201))], 11⟩) (by kernel_rfl) ?_
                    refine jr_nil rfl ?_
                    refine jx_seqN ?_
                    refine jc_seq ?_
                    refine jc_bind (fun x204 => ⟨[(7, .av (.ptr 4 0 1 0)), (8, .av (.ptr 8 0 2 0)), (9, .av (.ptr 9 0 2 0))], [(0, .rows 1 [[.osl 10 0 (List.length x201) 2]]), (4, .rows 1 [[iv x204]]), (5, rpm_Segments_lp10 x119 .busy none), (8, .rows 2 [[iv x180, bs x181]]), (9, .rows 2 [[iv x200.kind, bs x200.text]]), (10, .rows 2 (List.map c_S_rpm_segment x201))], 11⟩) (fun x204 => .normal) ?_ ?_
                    · refine jc_seq ?_
                      refine jc_reg ?_
                      refine jr_seg 0 7 [7, 8, 9, 39] [0, 4, 5, 8, 9, 10] (st1 := ⟨[(7, .av (.ptr 4 0 1 0)), (8, .av (.ptr 8 0 2 0)), (9, .av (.ptr 9 0 2 0)), (39, .av (bv ((x202 == 0) && (x200.kind == 4))))], [(0, .rows 1 [[.osl 10 0 (List.length x201) 2]]), (4, .rows 1 [[iv x202]]), (5, rpm_Segments_lp10 x119 .busy none), (8, .rows 2 [[iv x180, bs x181]]), (9, .rows 2 [[iv x200.kind, bs x200.text]]), (10, .rows 2 (List.map c_S_rpm_segment x201))], 11⟩) (by kernel_rfl) ?_
                      refine jr_nil rfl ?_
                      refine jx_seqN ?_
                      refine jc_cond (g := 39) (c := ((x202 == 0) && (x200.kind == 4))) (by kernel_rfl) ?_ ?_
                      · intro _
                        refine jc_reg ?_
                        refine jr_seg 0 4 [7, 8, 9, 41, 43] [0, 4, 5, 8, 9, 10] (st1 := ⟨[(7, .av (.ptr 4 0 1 0)), (8, .av (.ptr 8 0 2 0)), (9, .av (.ptr 9 0 2 0)), (41, .av (bs x200.text)), (43, .av (bs x181))], [(0, .rows 1 [[.osl 10 0 (List.length x201) 2]]), (4, .rows 1 [[iv x202]]), (5, rpm_Segments_lp10 x119 .busy none), (8, .rows 2 [[iv x180, bs x181]]), (9, .rows 2 [[iv x200.kind, bs x200.text]]), (10, .rows 2 (List.map c_S_rpm_segment x201))], 11⟩) (by kernel_rfl) ?_
                        refine jr_callF (i := 4) rfl rfl rfl rfl (vs := [bs x200.text, bs x181]) (by kernel_rfl) (snapL_cons rfl (snapL_cons rfl (snapL_nil _))) (all2_cons (fle_refl _) (all2_cons (fle_refl _) all2_nil)) (scan_Cmp_ok x200.text x181) (fun _ => rfl) (fun _ => rfl) ?_
                        intro x205 h205
                        refine jr_seg 5 1 [7, 8, 9] [0, 4, 5, 8, 9, 10] (st1 := ⟨[(7, .av (.ptr 4 0 1 0)), (8, .av (.ptr 8 0 2 0)), (9, .av (.ptr 9 0 2 0))], [(0, .rows 1 [[.osl 10 0 (List.length x201) 2]]), (4, .rows 1 [[iv x205]]), (5, rpm_Segments_lp10 x119 .busy none), (8, .rows 2 [[iv x180, bs x181]]), (9, .rows 2 [[iv x200.kind, bs x200.text]]), (10, .rows 2 (List.map c_S_rpm_segment x201))], 11⟩) (by kernel_rfl) ?_
                        refine jr_nil rfl ?_
                        exact jx_mid rfl (wk_ren [(0, some 0), (1, some 1), (2, some 2), (3, some 3), (4, some 4), (5, some 5), (6, some 6), (7, some 7), (8, some 8), (9, some 9), (10, some 10)] (fix_of hy13.2 (k := 8) rfl) rfl (by kernel_rfl) (allp_cons (.inl ⟨0, _, _, _, rfl, rfl, rfl, .inl (by kernel_rfl)⟩) (allp_cons (.inl ⟨4, _, _, _, rfl, rfl, rfl, .inl (by kernel_rfl)⟩) (allp_cons (.inr (.inr ⟨5, _, _, rfl, rfl, rfl, by kernel_rfl⟩)) (allp_cons (.inl ⟨8, _, _, _, rfl, rfl, rfl, .inl (by kernel_rfl)⟩) (allp_cons (.inl ⟨9, _, _, _, rfl, rfl, rfl, .inl (by kernel_rfl)⟩) (allp_cons (.inl ⟨10, _, _, _, rfl, rfl, rfl, .inr ⟨rfl, noid_map ni_S_rpm_segment _⟩⟩) allp_nil)))))))
                      · intro _
                        refine jc_skip ?_
                        exact jx_mid rfl (wk_ren [(0, some 0), (1, some 1), (2, some 2), (3, some 3), (4, some 4), (5, some 5), (6, some 6), (7, some 7), (8, some 8), (9, some 9), (10, some 10)] (fix_of hy13.2 (k := 8) rfl) rfl (by kernel_rfl) (allp_cons (.inl ⟨0, _, _, _, rfl, rfl, rfl, .inl (by kernel_rfl)⟩) (allp_cons (.inl ⟨4, _, _, _, rfl, rfl, rfl, .inl (by kernel_rfl)⟩) (allp_cons (.inr (.inr ⟨5, _, _, rfl, rfl, rfl, by kernel_rfl⟩)) (allp_cons (.inl ⟨8, _, _, _, rfl, rfl, rfl, .inl (by kernel_rfl)⟩) (allp_cons (.inl ⟨9, _, _, _, rfl, rfl, rfl, .inl (by kernel_rfl)⟩) (allp_cons (.inl ⟨10, _, _, _, rfl, rfl, rfl, .inr ⟨rfl, noid_map ni_S_rpm_segment _⟩⟩) allp_nil)))))))
                    · intro x204
                      refine jx_seqN ?_
                      refine jc_seq ?_
                      refine jc_bind (fun x207 => ⟨[(7, .av (.ptr 4 0 1 0))], [(0, .rows 1 [[.osl 8 0 (List.length x201) 2]]), (4, .rows 1 [[iv x207]]), (5, rpm_Segments_lp10 x119 .busy none), (8, .rows 2 (List.map c_S_rpm_segment x201))], 9⟩) (fun x207 => .normal) ?_ ?_
                      · refine jc_seq ?_
                        refine jc_reg ?_
                        refine jr_seg 0 7 [7, 8, 9, 51] [0, 4, 5, 8, 9, 10] (st1 := ⟨[(7, .av (.ptr 4 0 1 0)), (8, .av (.ptr 8 0 2 0)), (9, .av (.ptr 9 0 2 0)), (51, .av (bv ((x204 == 0) && (x200.kind == 3))))], [(0, .rows 1 [[.osl 10 0 (List.length x201) 2]]), (4, .rows 1 [[iv x204]]), (5, rpm_Segments_lp10 x119 .busy none), (8, .rows 2 [[iv x180, bs x181]]), (9, .rows 2 [[iv x200.kind, bs x200.text]]), (10, .rows 2 (List.map c_S_rpm_segment x201))], 11⟩) (by kernel_rfl) ?_
                        refine jr_nil rfl ?_
                        refine jx_seqN ?_
                        refine jc_cond (g := 51) (c := ((x204 == 0) && (x200.kind == 3))) (by kernel_rfl) ?_ ?_
                        · intro _
                          refine jc_reg ?_
                          refine jr_seg 0 4 [7, 53, 55] [0, 4, 5, 10] (st1 := ⟨[(7, .av (.ptr 4 0 1 0)), (53, .av (bs x200.text)), (55, .av (bs x181))], [(0, .rows 1 [[.osl 10 0 (List.length x201) 2]]), (4, .rows 1 [[iv x204]]), (5, rpm_Segments_lp10 x119 .busy none), (10, .rows 2 (List.map c_S_rpm_segment x201))], 11⟩) (by kernel_rfl) ?_
                          refine jr_callF (i := 4) rfl rfl rfl rfl (vs := [bs x200.text, bs x181]) (by kernel_rfl) (snapL_cons rfl (snapL_cons rfl (snapL_nil _))) (all2_cons (fle_refl _) (all2_cons (fle_refl _) all2_nil)) (strings_Compare_ok x200.text x181) (fun _ => rfl) (fun _ => rfl) ?_
                          intro x208 h208
                          refine jr_seg 5 1 [7] [0, 4, 5, 10] (st1 := ⟨[(7, .av (.ptr 4 0 1 0))], [(0, .rows 1 [[.osl 10 0 (List.length x201) 2]]), (4, .rows 1 [[iv x208]]), (5, rpm_Segments_lp10 x119 .busy none), (10, .rows 2 (List.map c_S_rpm_segment x201))], 11⟩) (by kernel_rfl) ?_
                          refine jr_nil rfl ?_
                          exact jx_mid rfl (wk_ren [(0, some 0), (1, some 1), (2, some 2), (3, some 3), (4, some 4), (5, some 5), (6, some 6), (7, some 7), (8, some 10)] (fix_of hy13.2 (k := 8) rfl) rfl (by kernel_rfl) (allp_cons (.inl ⟨0, _, _, _, rfl, rfl, rfl, .inl (by kernel_rfl)⟩) (allp_cons (.inl ⟨4, _, _, _, rfl, rfl, rfl, .inl (by kernel_rfl)⟩) (allp_cons (.inr (.inr ⟨5, _, _, rfl, rfl, rfl, by kernel_rfl⟩)) (allp_cons (.inl ⟨10, _, _, _, rfl, rfl, rfl, .inr ⟨rfl, noid_map ni_S_rpm_segment _⟩⟩) allp_nil)))))
                        · intro _
                          refine jc_skip ?_
                          exact jx_mid rfl (wk_ren [(0, some 0), (1, some 1), (2, some 2), (3, some 3), (4, some 4), (5, some 5), (6, some 6), (7, some 7), (8, some 10)] (fix_of hy13.2 (k := 8) rfl) rfl (by kernel_rfl) (allp_cons (.inl ⟨0, _, _, _, rfl, rfl, rfl, .inl (by kernel_rfl)⟩) (allp_cons (.inl ⟨4, _, _, _, rfl, rfl, rfl, .inl (by kernel_rfl)⟩) (allp_cons (.inr (.inr ⟨5, _, _, rfl, rfl, rfl, by kernel_rfl⟩)) (allp_cons (.inl ⟨10, _, _, _, rfl, rfl, rfl, .inr ⟨rfl, noid_map ni_S_rpm_segment _⟩⟩) allp_nil)))))
                      · intro x207
                        refine jx_seqN ?_
                        refine jc_seq ?_
                        refine jc_reg ?_
                        refine jr_seg 0 2 [58] [0, 4, 5, 8] (st1 := ⟨[(58, .av (bv (x207 != 0)))], [(0, .rows 1 [[.osl 8 0 (List.length x201) 2]]), (4, .rows 1 [[iv x207]]), (5, rpm_Segments_lp10 x119 .busy none), (8, .rows 2 (List.map c_S_rpm_segment x201))], 9⟩) (by kernel_rfl) ?_
                        refine jr_nil rfl ?_
                        refine jx_seqN ?_
                        refine jc_cond (g := 58) (c := (x207 != 0)) (by kernel_rfl) ?_ ?_
                        · intro _
                          refine jc_exit ?_
                          refine jx_blkX rfl ?_
                          exact jx_mid rfl (wk_ren [(0, some 0), (1, some 1), (2, some 2), (3, some 3), (4, some 4), (5, some 5), (6, some 6), (7, some 7), (8, some 8)] (fix_of hy13.2 (k := 8) rfl) rfl (by kernel_rfl) (allp_cons (.inl ⟨0, _, _, _, rfl, rfl, rfl, .inl (by kernel_rfl)⟩) (allp_cons (.inl ⟨4, _, _, _, rfl, rfl, rfl, .inl (by kernel_rfl)⟩) (allp_cons (.inr (.inr ⟨5, _, _, rfl, rfl, rfl, by kernel_rfl⟩)) (allp_cons (.inl ⟨8, _, _, _, rfl, rfl, rfl, .inr ⟨rfl, noid_map ni_S_rpm_segment _⟩⟩) allp_nil)))))
                        · intro _
                          refine jc_skip ?_
                          refine jx_blkN ?_
                          exact jx_mid rfl (wk_ren [(0, some 0), (1, some 1), (2, some 2), (3, some 3), (4, some 4), (5, some 5), (6, some 6), (7, some 7), (8, some 8)] (fix_of hy13.2 (k := 8) rfl) rfl (by kernel_rfl) (allp_cons (.inl ⟨0, _, _, _, rfl, rfl, rfl, .inl (by kernel_rfl)⟩) (allp_cons (.inl ⟨4, _, _, _, rfl, rfl, rfl, .inl (by kernel_rfl)⟩) (allp_cons (.inr (.inr ⟨5, _, _, rfl, rfl, rfl, by kernel_rfl⟩)) (allp_cons (.inl ⟨8, _, _, _, rfl, rfl, rfl, .inr ⟨rfl, noid_map ni_S_rpm_segment _⟩⟩) allp_nil)))))
                · rintro (⟨x196, x197⟩ | ⟨x198, x199⟩)
                  · refine jr_seg 3 1 [0, 1, 3, 57] [0, 4, 5, 8] (st1 := ⟨[(0, .av (.yld 5)), (1, .av (.fptr [bs x119] 0)), (3, .av (iv (w64 (x141 + (List.length x181 : Int))))), (57, .av (bv true))], [(0, .rows 1 [[.osl 8 0 (List.length x196) 2]]), (4, .rows 1 [[iv x197]]), (5, rpm_Segments_lp10 x119 .done (some (.exit 2))), (8, .rows 2 (List.map c_S_rpm_segment x196))], 9⟩) (by kernel_rfl) ?_
                    refine jr_nil rfl ?_
                    refine jx_seqN ?_
                    refine jc_condK (c := true) (by kernel_rfl) ?_
                    refine jc_ret ?_
                    refine jx_blkR ?_
                    exact jx_done rfl nofun (wk_ren [(0, some 0), (1, some 1), (2, some 2), (3, some 3), (4, some 4), (5, some 5), (6, some 8)] (fix_of hc10.2.2 (k := 6) rfl) rfl (by kernel_rfl) (allp_cons (.inl ⟨0, _, _, _, rfl, rfl, rfl, .inl (by kernel_rfl)⟩) (allp_cons (.inl ⟨4, _, _, _, rfl, rfl, rfl, .inl (by kernel_rfl)⟩) (allp_cons (.inr (.inr ⟨5, _, _, rfl, rfl, rfl, by kernel_rfl⟩)) (allp_cons (.inl ⟨8, _, _, _, rfl, rfl, rfl, .inr ⟨rfl, noid_map ni_S_rpm_segment _⟩⟩) allp_nil)))))
                  · refine jr_seg 3 1 [0, 1, 3, 57] [0, 4, 5, 8] (st1 := ⟨[(0, .av (.yld 5)), (1, .av (.fptr [bs x119] 0)), (3, .av (iv (w64 (x141 + (List.length x181 : Int))))), (57, .av (bv false))], [(0, .rows 1 [[.osl 8 0 (List.length x198) 2]]), (4, .rows 1 [[iv x199]]), (5, rpm_Segments_lp10 x119 .ready none), (8, .rows 2 (List.map c_S_rpm_segment x198))], 9⟩) (by kernel_rfl) ?_
                    refine jr_nil rfl ?_
                    refine jx_seqN ?_
                    refine jc_condK (c := false) (by kernel_rfl) ?_
                    refine jc_skip ?_
                    refine jx_blkN ?_
                    exact jx_next (wk_ren [(0, some 0), (1, some 1), (2, some 2), (3, some 3), (4, some 4), (5, some 5), (6, some 8)] (fix_of hc10.2.2 (k := 6) rfl) rfl (by kernel_rfl) (allp_cons (.inl ⟨0, _, _, _, rfl, rfl, rfl, .inl (by kernel_rfl)⟩) (allp_cons (.inl ⟨4, _, _, _, rfl, rfl, rfl, .inl (by kernel_rfl)⟩) (allp_cons (.inr (.inr ⟨5, _, _, rfl, rfl, rfl, by kernel_rfl⟩)) (allp_cons (.inl ⟨8, _, _, _, rfl, rfl, rfl, .inr ⟨rfl, noid_map ni_S_rpm_segment _⟩⟩) allp_nil)))))
              · refine jx_seqE ?_
                refine jx_blkE ?_
                exact jx_next (wk_ren [(0, some 0), (1, some 1), (2, some 2), (3, some 3), (4, some 4), (5, some 5), (6, some 6)] (fix_of hc10.2.2 (k := 6) rfl) rfl (by kernel_rfl) (allp_cons (.inl ⟨0, _, _, _, rfl, rfl, rfl, .inl (by kernel_rfl)⟩) (allp_cons (.inl ⟨4, _, _, _, rfl, rfl, rfl, .inl (by kernel_rfl)⟩) (allp_cons (.inr (.inr ⟨5, _, _, rfl, rfl, rfl, by kernel_rfl⟩)) (allp_cons (.inl ⟨6, _, _, _, rfl, rfl, rfl, .inr ⟨rfl, noid_map ni_S_rpm_segment _⟩⟩) allp_nil)))))
          · intro _
            refine jc_exit ?_
            refine jx_seqE ?_
            exact jx_done rfl nofun (wk_ren [(0, some 0), (1, some 1), (2, some 2), (3, some 3), (4, some 4), (5, some 5), (6, some 6)] (fix_of hc10.2.2 (k := 6) rfl) rfl (by kernel_rfl) (allp_cons (.inl ⟨0, _, _, _, rfl, rfl, rfl, .inl (by kernel_rfl)⟩) (allp_cons (.inl ⟨4, _, _, _, rfl, rfl, rfl, .inl (by kernel_rfl)⟩) (allp_cons (.inr (.inr ⟨5, _, _, rfl, rfl, rfl, by kernel_rfl⟩)) (allp_cons (.inl ⟨6, _, _, _, rfl, rfl, rfl, .inr ⟨rfl, noid_map ni_S_rpm_segment _⟩⟩) allp_nil)))))
        · rintro (⟨x168, x169⟩ | ⟨x170, x171⟩)
          · refine jx_blkR ?_
            refine jx_seqR ?_
            refine jx_rng hc10 (.inr rfl) rfl nofun rfl ?_
            refine jx_blkE ?_
            exact jx_mid rfl (wk_ren [(0, some 4)] (fix_nil _) rfl (by kernel_rfl) (allp_cons (.inl ⟨4, _, _, _, rfl, rfl, rfl, .inl (by kernel_rfl)⟩) allp_nil))
          · refine jx_blkE ?_
            refine jx_seqN ?_
            refine jc_reg ?_
            refine jr_seg 0 2 [58, 59] [0, 4, 5, 6] (st1 := ⟨[(58, .av (.yld 5)), (59, .av (.agg [iv 1, bs []]))], [(0, .rows 1 [[.osl 6 0 (List.length x170) 2]]), (4, .rows 1 [[iv x171]]), (5, rpm_Segments_lp10 x119 .ready none), (6, .rows 2 (List.map c_S_rpm_segment x170))], 7⟩) (by kernel_rfl) ?_
            refine jr_yield (i := 2) (l := 5) (Nc := 60) (Kc := [(5, .av (.ptr 0 0 1 0)), (7, .av (.ptr 4 0 1 0)), (18, .av (.fn 120 [.fptr [bs x119] 0]))]) (ps := [19]) (vs := [.agg [iv 1, bs []]]) (fun y => match y with | Sum.inl (x216, x217) => ⟨[], [(0, .rows 1 [[.osl 7 0 (List.length x216) 2]]), (4, .rows 1 [[iv x217]]), (5, rpm_Segments_lp10 x119 .busy none), (7, .rows 2 (List.map c_S_rpm_segment x216))], 8⟩ | Sum.inr (x218, x219) => ⟨[], [(0, .rows 1 [[.osl 7 0 (List.length x218) 2]]), (4, .rows 1 [[iv x219]]), (5, rpm_Segments_lp10 x119 .busy none), (7, .rows 2 (List.map c_S_rpm_segment x218))], 8⟩) (fun y => match y with | Sum.inl (x216, x217) => (.exit 2) | Sum.inr (x218, x219) => .normal) [60] [0, 4, 5, 7] (after := (fun y => match y with | Sum.inl (x216, x217) => ⟨[(60, .av (bv false))], [(0, .rows 1 [[.osl 7 0 (List.length x216) 2]]), (4, .rows 1 [[iv x217]]), (5, rpm_Segments_lp10 x119 .done (some (.exit 2))), (7, .rows 2 (List.map c_S_rpm_segment x216))], 8⟩ | Sum.inr (x218, x219) => ⟨[(60, .av (bv true))], [(0, .rows 1 [[.osl 7 0 (List.length x218) 2]]), (4, .rows 1 [[iv x219]]), (5, rpm_Segments_lp10 x119 .ready none), (7, .rows 2 (List.map c_S_rpm_segment x218))], 8⟩)) rfl rfl rpm_Segments_y55_aw rpm_Segments_y55_bw (by kernel_rfl) (by kernel_rfl) (yctx_of hc10 rfl) rfl (by kernel_rfl) rfl ?_ (by rintro (⟨x216, x217⟩ | ⟨x218, x219⟩) <;> exact ⟨none, by kernel_rfl⟩) (by rintro (⟨x216, x217⟩ | ⟨x218, x219⟩) <;> kernel_rfl) ?_
            · intro F14 hy14
              refine jc_reg ?_
              refine jr_seg 0 2 [5, 7, 8] [0, 4, 5, 6, 7] (st1 := ⟨[(5, .av (.ptr 0 0 1 0)), (7, .av (.ptr 4 0 1 0)), (8, .av (.ptr 7 0 2 0))], [(0, .rows 1 [[.osl 6 0 (List.length x170) 2]]), (4, .rows 1 [[iv x171]]), (5, rpm_Segments_lp10 x119 .ready none), (6, .rows 2 (List.map c_S_rpm_segment x170)), (7, .rows 2 [[iv 1, bs []]])], 8⟩) (by kernel_rfl) ?_
              refine jr_nil rfl ?_
              refine jx_asg hy14 rfl ?_
              refine jc_block ?_
              refine jc_seq ?_
              refine jc_seq ?_
              refine jc_reg ?_
              refine jr_seg 0 3 [5, 7, 8, 22] [0, 4, 5, 6, 7] (st1 := ⟨[(5, .av (.ptr 0 0 1 0)), (7, .av (.ptr 4 0 1 0)), (8, .av (.ptr 7 0 2 0)), (22, .av (bv ((List.length x170 : Int) == 0)))], [(0, .rows 1 [[.osl 6 0 (List.length x170) 2]]), (4, .rows 1 [[iv x171]]), (5, rpm_Segments_lp10 x119 .busy none), (6, .rows 2 (List.map c_S_rpm_segment x170)), (7, .rows 2 [[iv 1, bs []]])], 8⟩) (by kernel_rfl) ?_
              refine jr_nil rfl ?_
              refine jx_seqN ?_
              refine jc_cond (g := 22) (c := ((List.length x170 : Int) == 0)) (by kernel_rfl) ?_ ?_
              · intro _
                refine jc_exit ?_
                refine jx_seqE ?_
                refine jx_blkX rfl ?_
                exact jx_mid rfl (wk_ren [(0, some 0), (1, some 1), (2, some 2), (3, some 3), (4, some 4), (5, some 5), (6, some 6), (7, some 6)] (fix_of hy14.2 (k := 7) rfl) rfl (by kernel_rfl) (allp_cons (.inl ⟨0, _, _, _, rfl, rfl, rfl, .inl (by kernel_rfl)⟩) (allp_cons (.inl ⟨4, _, _, _, rfl, rfl, rfl, .inl (by kernel_rfl)⟩) (allp_cons (.inr (.inr ⟨5, _, _, rfl, rfl, rfl, by kernel_rfl⟩)) (allp_cons (.inl ⟨6, _, _, _, rfl, rfl, rfl, .inr ⟨rfl, noid_map ni_S_rpm_segment _⟩⟩) allp_nil)))))
              · intro _
                refine jc_skip ?_
                refine jx_seqN ?_
                refine jc_seq ?_
                refine jc_reg ?_
                refine jr_seg 0 1 [5, 7, 8, 23] [0, 4, 5, 6, 7] (st1 := ⟨[(5, .av (.ptr 0 0 1 0)), (7, .av (.ptr 4 0 1 0)), (8, .av (.ptr 7 0 2 0)), (23, .av (.osl 6 0 (List.length x170) 2))], [(0, .rows 1 [[.osl 6 0 (List.length x170) 2]]), (4, .rows 1 [[iv x171]]), (5, rpm_Segments_lp10 x119 .busy none), (6, .rows 2 (List.map c_S_rpm_segment x170)), (7, .rows 2 [[iv 1, bs []]])], 8⟩) (by kernel_rfl) ?_
                refine jr_part (i := 1) (mo := ixl x170 0) rfl rfl rfl rfl (fun _ hc => aop_ixo0 (sz := 2) (e := 100) (kk := .i64) (id := 6) (by kernel_rfl) (by kernel_rfl) (by kernel_rfl) (by kernel_rfl) hc) (fun _ => rfl) ?_
                intro x220 h220
                refine jr_one (i := 2) (v := .agg [iv x220.kind, bs x220.text]) rfl rfl rfl rfl (aop_ldo (l := x170) (c := c_S_rpm_segment) (id := 6) (k := (Int.toNat 0)) (sz := 2) (off := 0) (a := x220) (by kernel_rfl) (by kernel_rfl) (ixl_lt h220).2.2 (by kernel_rfl)) rfl ?_
                refine jr_seg 3 2 [5, 7, 8, 9] [0, 4, 5, 6, 7, 8] (st1 := ⟨[(5, .av (.ptr 0 0 1 0)), (7, .av (.ptr 4 0 1 0)), (8, .av (.ptr 7 0 2 0)), (9, .av (.ptr 8 0 2 0))], [(0, .rows 1 [[.osl 6 0 (List.length x170) 2]]), (4, .rows 1 [[iv x171]]), (5, rpm_Segments_lp10 x119 .busy none), (6, .rows 2 (List.map c_S_rpm_segment x170)), (7, .rows 2 [[iv 1, bs []]]), (8, .rows 2 [[iv x220.kind, bs x220.text]])], 9⟩) (by kernel_rfl) ?_
                refine jr_nil rfl ?_
                refine jx_seqN ?_
                refine jc_seq ?_
                refine jc_reg ?_
                refine jr_seg 0 1 [5, 7, 8, 9, 26] [0, 4, 5, 6, 7, 8] (st1 := ⟨[(5, .av (.ptr 0 0 1 0)), (7, .av (.ptr 4 0 1 0)), (8, .av (.ptr 7 0 2 0)), (9, .av (.ptr 8 0 2 0)), (26, .av (.osl 6 0 (List.length x170) 2))], [(0, .rows 1 [[.osl 6 0 (List.length x170) 2]]), (4, .rows 1 [[iv x171]]), (5, rpm_Segments_lp10 x119 .busy none), (6, .rows 2 (List.map c_S_rpm_segment x170)), (7, .rows 2 [[iv 1, bs []]]), (8, .rows 2 [[iv x220.kind, bs x220.text]])], 9⟩) (by kernel_rfl) ?_
                refine jr_part (i := 1) (mo := subl x170 1 (List.length x170 : Int)) rfl rfl rfl rfl (fun _ hc => aop_subo (l := x170) (e := 100) (id := 6) (off := 0) (sz := 2) (by kernel_rfl) (by kernel_rfl) (by kernel_rfl) (by kernel_rfl) (by kernel_rfl) hc) (fun _ => rfl) ?_
                intro x221 h221
                refine jr_root (d := 27) (j := 6) (k := 0 + Int.toNat 1) (len := List.length x221) (sz := 2) (rows := List.map c_S_rpm_segment x170) (rows' := List.map c_S_rpm_segment x221) (by kernel_rfl) (by kernel_rfl) (subl_kle h221) (subl_rows0 h221) ?_
                refine jr_seg 2 1 [7, 8, 9] [0, 4, 5, 7, 8, 9] (st1 := ⟨[(7, .av (.ptr 4 0 1 0)), (8, .av (.ptr 7 0 2 0)), (9, .av (.ptr 8 0 2 0))], [(0, .rows 1 [[.osl 9 0 (List.length x221) 2]]), (4, .rows 1 [[iv x171]]), (5, rpm_Segments_lp10 x119 .busy none), (7, .rows 2 [[iv 1, bs []]]), (8, .rows 2 [[iv x220.kind, bs x220.text]]), (9, .rows 2 (List.map c_S_rpm_segment x221))], 10⟩) (by kernel_rfl) ?_
                refine jr_nil rfl ?_
                refine jx_seqN ?_
                refine jc_seq ?_
                refine jc_reg ?_
                refine jr_seg 0 4 [7, 8, 9, 29, 31] [0, 4, 5, 7, 8, 9] (st1 := ⟨[(7, .av (.ptr 4 0 1 0)), (8, .av (.ptr 7 0 2 0)), (9, .av (.ptr 8 0 2 0)), (29, .av (iv x220.kind)), (31, .av (iv 1))], [(0, .rows 1 [[.osl 9 0 (List.length x221) 2]]), (4, .rows 1 [[iv x171]]), (5, rpm_Segments_lp10 x119 .busy none), (7, .rows 2 [[iv 1, bs []]]), (8, .rows 2 [[iv x220.kind, bs x220.text]]), (9, .rows 2 (List.map c_S_rpm_segment x221))], 10⟩) (by kernel_rfl) ?_
                refine jr_callF (i := 4) rfl rfl rfl rfl (vs := [iv x220.kind, iv 1]) (by kernel_rfl) (snapL_cons rfl (snapL_cons rfl (snapL_nil _))) (all2_cons (fle_refl _) (all2_cons (fle_refl _) all2_nil)) (cmp_Compare_int_ok x220.kind 1) (fun _ => rfl) (fun _ => rfl) ?_
                intro x222 h222
                refine jr_seg 5 1 [7, 8, 9] [0, 4, 5, 7, 8, 9] (st1 := ⟨[(7, .av (.ptr 4 0 1 0)), (8, .av (.ptr 7 0 2 0)), (9, .av (.ptr 8 0 2 0))], [(0, .rows 1 [[.osl 9 0 (List.length x221) 2]]), (4, .rows 1 [[iv x222]]), (5, rpm_Segments_lp10 x119 .busy none), (7, .rows 2 [[iv 1, bs []]]), (8, .rows 2 [[iv x220.kind, bs x220.text]]), (9, .rows 2 (List.map c_S_rpm_segment x221))], 10⟩) (by kernel_rfl) ?_
                refine jr_nil rfl ?_
                refine jx_seqN ?_
                refine jc_seq ?_
                refine jc_bind (fun x224 => ⟨[(7, .av (.ptr 4 0 1 0)), (8, .av (.ptr 7 0 2 0)), (9, .av (.ptr 8 0 2 0))], [(0, .rows 1 [[.osl 9 0 (List.length x221) 2]]), (4, .rows 1 [[iv x224]]), (5, rpm_Segments_lp10 x119 .busy none), (7, .rows 2 [[iv 1, bs []]]), (8, .rows 2 [[iv x220.kind, bs x220.text]]), (9, .rows 2 (List.map c_S_rpm_segment x221))], 10⟩) (fun x224 => .normal) ?_ ?_
                · refine jc_seq ?_
                  refine jc_reg ?_
                  refine jr_seg 0 7 [7, 8, 9, 39] [0, 4, 5, 7, 8, 9] (st1 := ⟨[(7, .av (.ptr 4 0 1 0)), (8, .av (.ptr 7 0 2 0)), (9, .av (.ptr 8 0 2 0)), (39, .av (bv ((x222 == 0) && (x220.kind == 4))))], [(0, .rows 1 [[.osl 9 0 (List.length x221) 2]]), (4, .rows 1 [[iv x222]]), (5, rpm_Segments_lp10 x119 .busy none), (7, .rows 2 [[iv 1, bs []]]), (8, .rows 2 [[iv x220.kind, bs x220.text]]), (9, .rows 2 (List.map c_S_rpm_segment x221))], 10⟩) (by kernel_rfl) ?_
                  refine jr_nil rfl ?_
                  refine jx_seqN ?_
                  refine jc_cond (g := 39) (c := ((x222 == 0) && (x220.kind == 4))) (by kernel_rfl) ?_ ?_
                  · intro _
                    refine jc_reg ?_
                    refine jr_seg 0 4 [7, 8, 9, 41, 43] [0, 4, 5, 7, 8, 9] (st1 := ⟨[(7, .av (.ptr 4 0 1 0)), (8, .av (.ptr 7 0 2 0)), (9, .av (.ptr 8 0 2 0)), (41, .av (bs x220.text)), (43, .av (bs []))], [(0, .rows 1 [[.osl 9 0 (List.length x221) 2]]), (4, .rows 1 [[iv x222]]), (5, rpm_Segments_lp10 x119 .busy none), (7, .rows 2 [[iv 1, bs []]]), (8, .rows 2 [[iv x220.kind, bs x220.text]]), (9, .rows 2 (List.map c_S_rpm_segment x221))], 10⟩) (by kernel_rfl) ?_
                    refine jr_callF (i := 4) rfl rfl rfl rfl (vs := [bs x220.text, bs []]) (by kernel_rfl) (snapL_cons rfl (snapL_cons rfl (snapL_nil _))) (all2_cons (fle_refl _) (all2_cons (fle_refl _) all2_nil)) (scan_Cmp_ok x220.text []) (fun _ => rfl) (fun _ => rfl) ?_
                    intro x225 h225
                    refine jr_seg 5 1 [7, 8, 9] [0, 4, 5, 7, 8, 9] (st1 := ⟨[(7, .av (.ptr 4 0 1 0)), (8, .av (.ptr 7 0 2 0)), (9, .av (.ptr 8 0 2 0))], [(0, .rows 1 [[.osl 9 0 (List.length x221) 2]]), (4, .rows 1 [[iv x225]]), (5, rpm_Segments_lp10 x119 .busy none), (7, .rows 2 [[iv 1, bs []]]), (8, .rows 2 [[iv x220.kind, bs x220.text]]), (9, .rows 2 (List.map c_S_rpm_segment x221))], 10⟩) (by kernel_rfl) ?_
                    refine jr_nil rfl ?_
                    exact jx_mid rfl (wk_ren [(0, some 0), (1, some 1), (2, some 2), (3, some 3), (4, some 4), (5, some 5), (6, some 6), (7, some 7), (8, some 8), (9, some 9)] (fix_of hy14.2 (k := 7) rfl) rfl (by kernel_rfl) (allp_cons (.inl ⟨0, _, _, _, rfl, rfl, rfl, .inl (by kernel_rfl)⟩) (allp_cons (.inl ⟨4, _, _, _, rfl, rfl, rfl, .inl (by kernel_rfl)⟩) (allp_cons (.inr (.inr ⟨5, _, _, rfl, rfl, rfl, by kernel_rfl⟩)) (allp_cons (.inl ⟨7, _, _, _, rfl, rfl, rfl, .inl (by kernel_rfl)⟩) (allp_cons (.inl ⟨8, _, _, _, rfl, rfl, rfl, .inl (by kernel_rfl)⟩) (allp_cons (.inl ⟨9, _, _, _, rfl, rfl, rfl, .inr ⟨rfl, noid_map ni_S_rpm_segment _⟩⟩) allp_nil)))))))
                  · intro _
                    refine jc_skip ?_
                    exact jx_mid rfl (wk_ren [(0, some 0), (1, some 1), (2, some 2), (3, some 3), (4, some 4), (5, some 5), (6, some 6), (7, some 7), (8, some 8), (9, some 9)] (fix_of hy14.2 (k := 7) rfl) rfl (by kernel_rfl) (allp_cons (.inl ⟨0, _, _, _, rfl, rfl, rfl, .inl (by kernel_rfl)⟩) (allp_cons (.inl ⟨4, _, _, _, rfl, rfl, rfl, .inl (by kernel_rfl)⟩) (allp_cons (.inr (.inr ⟨5, _, _, rfl, rfl, rfl, by kernel_rfl⟩)) (allp_cons (.inl ⟨7, _, _, _, rfl, rfl, rfl, .inl (by kernel_rfl)⟩) (allp_cons (.inl ⟨8, _, _, _, rfl, rfl, rfl, .inl (by kernel_rfl)⟩) (allp_cons (.inl ⟨9, _, _, _, rfl, rfl, rfl, .inr ⟨rfl, noid_map ni_S_rpm_segment _⟩⟩) allp_nil)))))))
                · intro x224
                  refine jx_seqN ?_
                  refine jc_seq ?_
                  refine jc_bind (fun x227 => ⟨[(7, .av (.ptr 4 0 1 0))], [(0, .rows 1 [[.osl 7 0 (List.length x221) 2]]), (4, .rows 1 [[iv x227]]), (5, rpm_Segments_lp10 x119 .busy none), (7, .rows 2 (List.map c_S_rpm_segment x221))], 8⟩) (fun x227 => .normal) ?_ ?_
                  · refine jc_seq ?_
                    refine jc_reg ?_
                    refine jr_seg 0 7 [7, 8, 9, 51] [0, 4, 5, 7, 8, 9] (st1 := ⟨[(7, .av (.ptr 4 0 1 0)), (8, .av (.ptr 7 0 2 0)), (9, .av (.ptr 8 0 2 0)), (51, .av (bv ((x224 == 0) && (x220.kind == 3))))], [(0, .rows 1 [[.osl 9 0 (List.length x221) 2]]), (4, .rows 1 [[iv x224]]), (5, rpm_Segments_lp10 x119 .busy none), (7, .rows 2 [[iv 1, bs []]]), (8, .rows 2 [[iv x220.kind, bs x220.text]]), (9, .rows 2 (List.map c_S_rpm_segment x221))], 10⟩) (by kernel_rfl) ?_
                    refine jr_nil rfl ?_
                    refine jx_seqN ?_
                    refine jc_cond (g := 51) (c := ((x224 == 0) && (x220.kind == 3))) (by kernel_rfl) ?_ ?_
                    · intro _
                      refine jc_reg ?_
                      refine jr_seg 0 4 [7, 53, 55] [0, 4, 5, 9] (st1 := ⟨[(7, .av (.ptr 4 0 1 0)), (53, .av (bs x220.text)), (55, .av (bs []))], [(0, .rows 1 [[.osl 9 0 (List.length x221) 2]]), (4, .rows 1 [[iv x224]]), (5, rpm_Segments_lp10 x119 .busy none), (9, .rows 2 (List.map c_S_rpm_segment x221))], 10⟩) (by kernel_rfl) ?_
                      refine jr_callF (i := 4) rfl rfl rfl rfl (vs := [bs x220.text, bs []]) (by kernel_rfl) (snapL_cons rfl (snapL_cons rfl (snapL_nil _))) (all2_cons (fle_refl _) (all2_cons (fle_refl _) all2_nil)) (strings_Compare_ok x220.text []) (fun _ => rfl) (fun _ => rfl) ?_
                      intro x228 h228
                      refine jr_seg 5 1 [7] [0, 4, 5, 9] (st1 := ⟨[(7, .av (.ptr 4 0 1 0))], [(0, .rows 1 [[.osl 9 0 (List.length x221) 2]]), (4, .rows 1 [[iv x228]]), (5, rpm_Segments_lp10 x119 .busy none), (9, .rows 2 (List.map c_S_rpm_segment x221))], 10⟩) (by kernel_rfl) ?_
                      refine jr_nil rfl ?_
                      exact jx_mid rfl (wk_ren [(0, some 0), (1, some 1), (2, some 2), (3, some 3), (4, some 4), (5, some 5), (6, some 6), (7, some 9)] (fix_of hy14.2 (k := 7) rfl) rfl (by kernel_rfl) (allp_cons (.inl ⟨0, _, _, _, rfl, rfl, rfl, .inl (by kernel_rfl)⟩) (allp_cons (.inl ⟨4, _, _, _, rfl, rfl, rfl, .inl (by kernel_rfl)⟩) (allp_cons (.inr (.inr ⟨5, _, _, rfl, rfl, rfl, by kernel_rfl⟩)) (allp_cons (.inl ⟨9, _, _, _, rfl, rfl, rfl, .inr ⟨rfl, noid_map ni_S_rpm_segment _⟩⟩) allp_nil)))))
                    · intro _
                      refine jc_skip ?_
                      exact jx_mid rfl (wk_ren [(0, some 0), (1, some 1), (2, some 2), (3, some 3), (4, some 4), (5, some 5), (6, some 6), (7, some 9)] (fix_of hy14.2 (k := 7) rfl) rfl (by kernel_rfl) (allp_cons (.inl ⟨0, _, _, _, rfl, rfl, rfl, .inl (by kernel_rfl)⟩) (allp_cons (.inl ⟨4, _, _, _, rfl, rfl, rfl, .inl (by kernel_rfl)⟩) (allp_cons (.inr (.inr ⟨5, _, _, rfl, rfl, rfl, by kernel_rfl⟩)) (allp_cons (.inl ⟨9, _, _, _, rfl, rfl, rfl, .inr ⟨rfl, noid_map ni_S_rpm_segment _⟩⟩) allp_nil)))))
                  · intro x227
                    refine jx_seqN ?_
                    refine jc_seq ?_
                    refine jc_reg ?_
                    refine jr_seg 0 2 [58] [0, 4, 5, 7] (st1 := ⟨[(58, .av (bv (x227 != 0)))], [(0, .rows 1 [[.osl 7 0 (List.length x221) 2]]), (4, .rows 1 [[iv x227]]), (5, rpm_Segments_lp10 x119 .busy none), (7, .rows 2 (List.map c_S_rpm_segment x221))], 8⟩) (by kernel_rfl) ?_
                    refine jr_nil rfl ?_
                    refine jx_seqN ?_
                    refine jc_cond (g := 58) (c := (x227 != 0)) (by kernel_rfl) ?_ ?_
                    · intro _
                      refine jc_exit ?_
                      refine jx_blkX rfl ?_
                      exact jx_mid rfl (wk_ren [(0, some 0), (1, some 1), (2, some 2), (3, some 3), (4, some 4), (5, some 5), (6, some 6), (7, some 7)] (fix_of hy14.2 (k := 7) rfl) rfl (by kernel_rfl) (allp_cons (.inl ⟨0, _, _, _, rfl, rfl, rfl, .inl (by kernel_rfl)⟩) (allp_cons (.inl ⟨4, _, _, _, rfl, rfl, rfl, .inl (by kernel_rfl)⟩) (allp_cons (.inr (.inr ⟨5, _, _, rfl, rfl, rfl, by kernel_rfl⟩)) (allp_cons (.inl ⟨7, _, _, _, rfl, rfl, rfl, .inr ⟨rfl, noid_map ni_S_rpm_segment _⟩⟩) allp_nil)))))
                    · intro _
                      refine jc_skip ?_
                      refine jx_blkN ?_
                      exact jx_mid rfl (wk_ren [(0, some 0), (1, some 1), (2, some 2), (3, some 3), (4, some 4), (5, some 5), (6, some 6), (7, some 7)] (fix_of hy14.2 (k := 7) rfl) rfl (by kernel_rfl) (allp_cons (.inl ⟨0, _, _, _, rfl, rfl, rfl, .inl (by kernel_rfl)⟩) (allp_cons (.inl ⟨4, _, _, _, rfl, rfl, rfl, .inl (by kernel_rfl)⟩) (allp_cons (.inr (.inr ⟨5, _, _, rfl, rfl, rfl, by kernel_rfl⟩)) (allp_cons (.inl ⟨7, _, _, _, rfl, rfl, rfl, .inr ⟨rfl, noid_map ni_S_rpm_segment _⟩⟩) allp_nil)))))
            · rintro (⟨x216, x217⟩ | ⟨x218, x219⟩)
              · refine jr_nil rfl ?_
                refine jx_rng hc10 (.inl rfl) rfl nofun rfl ?_
                refine jx_blkE ?_
                exact jx_mid rfl (wk_ren [(0, some 4)] (fix_nil _) rfl (by kernel_rfl) (allp_cons (.inl ⟨4, _, _, _, rfl, rfl, rfl, .inl (by kernel_rfl)⟩) allp_nil))
              · refine jr_nil rfl ?_
                refine jx_rng hc10 (.inl rfl) rfl nofun rfl ?_
                refine jx_blkN ?_
                exact jx_mid rfl (wk_ren [(0, some 4)] (fix_nil _) rfl (by kernel_rfl) (allp_cons (.inl ⟨4, _, _, _, rfl, rfl, rfl, .inl (by kernel_rfl)⟩) allp_nil))
      · intro x118
        refine jx_seqN ?_
        refine jc_seq ?_
        refine jc_reg ?_
        refine jr_seg 0 2 [4] [] (st1 := ⟨[(4, .av (iv x118))], [], 1⟩) (by kernel_rfl) ?_
        refine jr_nil rfl ?_
        refine jx_seqN ?_
        refine jc_ret ?_
        refine jx_scopeR ?_
        exact jx_retF (.inr rfl) (v := iv x118) (by kernel_rfl) rfl (fle_refl _))
end Go.Vm

set_option maxRecDepth 100000
set_option maxHeartbeats 0
set_option linter.unusedVariables false
set_option linter.unusedSimpArgs false
namespace Go.Vm
open Go
abbrev ref05_skip_r1 : List LO := [⟨some 4, Op.assign (Operand.const (Value.int IntKind.i64 0)), 3, none⟩]
abbrev ref05_skip_b2 : LC := .reg false ref05_skip_r1
abbrev ref05_skip_r3 : List LO := [⟨some 5, Op.move (Operand.tmp 1), 3, none⟩,
  ⟨some 6, Op.move (Operand.tmp 0), 9, none⟩,
  ⟨some 7, Op.call { callee := Callee.builtin Builtin.len, args := #[Operand.tmp 6], argTypes := #[9] }, 3, none⟩,
  ⟨some 8, Op.binOp BinOp.lss 3 (Operand.tmp 5) (Operand.tmp 7) 3, 4, none⟩,
  ⟨some 9, Op.move (Operand.tmp 8), 4, none⟩,
  ⟨some 10, Op.move (Operand.tmp 0), 9, (some (9, true))⟩,
  ⟨some 11, Op.move (Operand.tmp 1), 3, (some (9, true))⟩,
  ⟨some 12, Op.index 9 (Operand.tmp 10) (Operand.tmp 11), 5, (some (9, true))⟩,
  ⟨some 13, Op.call { callee := Callee.value (Operand.func 27), args := #[Operand.tmp 12, Operand.const (Value.int IntKind.i64 5)], argTypes := #[5, 3] }, 4, (some (9, true))⟩,
  ⟨some 14, Op.unOp UnOp.not 4 (Operand.tmp 13), 4, (some (9, true))⟩,
  ⟨some 15, Op.pick (Operand.tmp 9) (Operand.tmp 14) (Operand.const (Value.bool false)), 4, none⟩,
  ⟨some 16, Op.move (Operand.tmp 15), 4, none⟩,
  ⟨some 17, Op.move (Operand.tmp 0), 9, (some (16, true))⟩,
  ⟨some 18, Op.move (Operand.tmp 1), 3, (some (16, true))⟩,
  ⟨some 19, Op.index 9 (Operand.tmp 17) (Operand.tmp 18), 5, (some (16, true))⟩,
  ⟨some 20, Op.binOp BinOp.neq 5 (Operand.tmp 19) (Operand.const (Value.int IntKind.u8 126)) 5, 4, (some (16, true))⟩,
  ⟨some 21, Op.pick (Operand.tmp 16) (Operand.tmp 20) (Operand.const (Value.bool false)), 4, none⟩,
  ⟨some 22, Op.move (Operand.tmp 21), 4, none⟩,
  ⟨some 23, Op.move (Operand.tmp 0), 9, (some (22, true))⟩,
  ⟨some 24, Op.move (Operand.tmp 1), 3, (some (22, true))⟩,
  ⟨some 25, Op.index 9 (Operand.tmp 23) (Operand.tmp 24), 5, (some (22, true))⟩,
  ⟨some 26, Op.binOp BinOp.neq 5 (Operand.tmp 25) (Operand.const (Value.int IntKind.u8 94)) 5, 4, (some (22, true))⟩,
  ⟨some 27, Op.pick (Operand.tmp 22) (Operand.tmp 26) (Operand.const (Value.bool false)), 4, none⟩]
abbrev ref05_skip_b4 : LC := .reg false ref05_skip_r3
abbrev ref05_skip_b5 : LC := .cond (Operand.tmp 27) .skip (.exit 0)
abbrev ref05_skip_b6 : LC := .seq ref05_skip_b4 ref05_skip_b5
abbrev ref05_skip_r7 : List LO := [⟨some 28, Op.move (Operand.tmp 1), 3, none⟩,
  ⟨some 29, Op.binOp BinOp.add 3 (Operand.tmp 28) (Operand.const (Value.int IntKind.i64 1)) 3, 3, none⟩,
  ⟨some 1, Op.assign (Operand.tmp 29), 3, none⟩]
abbrev ref05_skip_b8 : LC := .reg false ref05_skip_r7
abbrev ref05_skip_b9 : LC := .block 1 ref05_skip_b8
abbrev ref05_skip_b10 : LC := .seq ref05_skip_b6 ref05_skip_b9
abbrev ref05_skip_b11 : LC := .loop ref05_skip_b10
abbrev ref05_skip_b12 : LC := .block 0 ref05_skip_b11
abbrev ref05_skip_r13 : List LO := [⟨some 30, Op.move (Operand.tmp 1), 3, none⟩,
  ⟨some 4, Op.assign (Operand.tmp 30), 3, none⟩]
abbrev ref05_skip_b14 : LC := .reg false ref05_skip_r13
abbrev ref05_skip_b15 : LC := .seq ref05_skip_b14 .ret
abbrev ref05_skip_b16 : LC := .seq ref05_skip_b12 ref05_skip_b15
abbrev ref05_skip_b17 : LC := .seq ref05_skip_b2 ref05_skip_b16
theorem ref05_skip_k : FnOk E 81 31 [.tmp 4] ref05_skip_b17 := ⟨⟨Go.Proofs.Tryd.f81, by kernel_rfl, by kernel_rfl, by kernel_rfl, by kernel_rfl, by kernel_rfl⟩, rfl⟩
noncomputable def ref05_skip_l1 (a0 : Str) : Int → Option (Step (Int) (Int)) := fun x8 => Option.bind (if (decide (x8 < (List.length a0 : Int))) = true then Option.bind (idx a0 x8) (fun x21 => Option.bind (ref01_Is x21 5) (fun x22 => some (!x22))) else some false : Option (Bool)) (fun x20 => Option.bind (if x20 = true then Option.bind (idx a0 x8) (fun x25 => some (x25 != 126)) else some false : Option (Bool)) (fun x24 => Option.bind (if x24 = true then Option.bind (idx a0 x8) (fun x28 => some (x28 != 94)) else some false : Option (Bool)) (fun x27 => (if x27 = true then some (Step.next (w64 (x8 + 1))) else some (Step.done x8)))))
noncomputable def ref05_skip (a0 : Str) (a1 : Int) : Option (Int) := Option.bind (loopC (ref05_skip_l1 a0) a1) (fun x17 => some x17)
theorem ref05_skip_ok (a0 : Str) (a1 : Int) : Ct E 81 [bs a0, iv a1] (ref05_skip a0 a1) (fun r : Int => iv r) := ct_intro (N := 31) (L := ref05_skip_b17) ref05_skip_k rfl (Nat.le_of_ble_eq_true rfl) (by kernel_rfl) (by
  unfold ref05_skip
  refine jc_seq ?_
  refine jc_reg ?_
  refine jr_seg 0 1 [0, 1] [] (st1 := ⟨[(0, .av (bs a0)), (1, .av (iv a1))], [], 0⟩) (by kernel_rfl) ?_
  refine jr_nil rfl ?_
  refine jx_seqN ?_
  refine jc_seq ?_
  refine jc_block ?_
  refine jc_bind (fun x17 => ⟨[(1, .av (iv x17))], [], 0⟩) (fun x17 => (.exit 0)) (jc_loop (fun x8 => ⟨[(0, .av (bs a0)), (1, .av (iv x8))], [], 0⟩) (wk_ren [] (fix_nil _) rfl (by kernel_rfl) allp_nil) ?_) ?_
  · intro x8
    unfold ref05_skip_l1
    refine jc_seq ?_
    refine jc_seq ?_
    refine jc_reg ?_
    refine jr_seg 0 5 [0, 1, 9] [] (st1 := ⟨[(0, .av (bs a0)), (1, .av (iv x8)), (9, .av (bv (decide (x8 < (List.length a0 : Int)))))], [], 0⟩) (by kernel_rfl) ?_
    refine jr_bind 5 6 (fun x20 => ⟨[(0, .av (bs a0)), (1, .av (iv x8)), (15, .av (bv x20))], [], 0⟩) ?_ ?_
    · refine jr_split (g := 9) (c := (decide (x8 < (List.length a0 : Int)))) (by kernel_rfl) ?_ ?_
      · intro _
        refine jr_seg 0 2 [0, 1, 9, 10, 11] [] (st1 := ⟨[(0, .av (bs a0)), (1, .av (iv x8)), (9, .lit true), (10, .av (bs a0)), (11, .av (iv x8))], [], 0⟩) (by kernel_rfl) ?_
        refine jr_part (i := 2) (mo := idx a0 x8) rfl rfl rfl rfl (fun _ hc => aop_index (kk := .i64) (by kernel_rfl) (by kernel_rfl) (by kernel_rfl) hc) (fun _ => rfl) ?_
        intro x21 h21
        refine jr_callF (i := 3) rfl rfl rfl rfl (vs := [.s (.int .u8 x21), iv 5]) (by kernel_rfl) (snapL_cons rfl (snapL_cons rfl (snapL_nil _))) (all2_cons (fle_refl _) (all2_cons (fle_refl _) all2_nil)) (ref01_Is_ok x21 5) (fun _ => rfl) (fun _ => rfl) ?_
        intro x22 h22
        refine jr_seg 4 2 [0, 1, 15] [] (st1 := ⟨[(0, .av (bs a0)), (1, .av (iv x8)), (15, .av (bv (!x22)))], [], 0⟩) (by kernel_rfl) ?_
        refine jr_nil rfl ?_
        exact jx_mid rfl (wk_ren [] (fix_nil _) rfl (by kernel_rfl) allp_nil)
      · intro _
        refine jr_seg 0 6 [0, 1, 15] [] (st1 := ⟨[(0, .av (bs a0)), (1, .av (iv x8)), (15, .av (bv false))], [], 0⟩) (by kernel_rfl) ?_
        refine jr_nil rfl ?_
        exact jx_mid rfl (wk_ren [] (fix_nil _) rfl (by kernel_rfl) allp_nil)
    · intro x20
      refine jr_seg 11 1 [0, 1, 16] [] (st1 := ⟨[(0, .av (bs a0)), (1, .av (iv x8)), (16, .av (bv x20))], [], 0⟩) (by kernel_rfl) ?_
      refine jr_bind 12 5 (fun x24 => ⟨[(0, .av (bs a0)), (1, .av (iv x8)), (21, .av (bv x24))], [], 0⟩) ?_ ?_
      · refine jr_split (g := 16) (c := x20) (by kernel_rfl) ?_ ?_
        · intro _
          refine jr_seg 0 2 [0, 1, 16, 17, 18] [] (st1 := ⟨[(0, .av (bs a0)), (1, .av (iv x8)), (16, .lit true), (17, .av (bs a0)), (18, .av (iv x8))], [], 0⟩) (by kernel_rfl) ?_
          refine jr_part (i := 2) (mo := idx a0 x8) rfl rfl rfl rfl (fun _ hc => aop_index (kk := .i64) (by kernel_rfl) (by kernel_rfl) (by kernel_rfl) hc) (fun _ => rfl) ?_
          intro x25 h25
          refine jr_seg 3 2 [0, 1, 21] [] (st1 := ⟨[(0, .av (bs a0)), (1, .av (iv x8)), (21, .av (bv (x25 != 126)))], [], 0⟩) (by kernel_rfl) ?_
          refine jr_nil rfl ?_
          exact jx_mid rfl (wk_ren [] (fix_nil _) rfl (by kernel_rfl) allp_nil)
        · intro _
          refine jr_seg 0 5 [0, 1, 21] [] (st1 := ⟨[(0, .av (bs a0)), (1, .av (iv x8)), (21, .av (bv false))], [], 0⟩) (by kernel_rfl) ?_
          refine jr_nil rfl ?_
          exact jx_mid rfl (wk_ren [] (fix_nil _) rfl (by kernel_rfl) allp_nil)
      · intro x24
        refine jr_seg 17 1 [0, 1, 22] [] (st1 := ⟨[(0, .av (bs a0)), (1, .av (iv x8)), (22, .av (bv x24))], [], 0⟩) (by kernel_rfl) ?_
        refine jr_bind 18 5 (fun x27 => ⟨[(0, .av (bs a0)), (1, .av (iv x8)), (27, .av (bv x27))], [], 0⟩) ?_ ?_
        · refine jr_split (g := 22) (c := x24) (by kernel_rfl) ?_ ?_
          · intro _
            refine jr_seg 0 2 [0, 1, 22, 23, 24] [] (st1 := ⟨[(0, .av (bs a0)), (1, .av (iv x8)), (22, .lit true), (23, .av (bs a0)), (24, .av (iv x8))], [], 0⟩) (by kernel_rfl) ?_
            refine jr_part (i := 2) (mo := idx a0 x8) rfl rfl rfl rfl (fun _ hc => aop_index (kk := .i64) (by kernel_rfl) (by kernel_rfl) (by kernel_rfl) hc) (fun _ => rfl) ?_
            intro x28 h28
            refine jr_seg 3 2 [0, 1, 27] [] (st1 := ⟨[(0, .av (bs a0)), (1, .av (iv x8)), (27, .av (bv (x28 != 94)))], [], 0⟩) (by kernel_rfl) ?_
            refine jr_nil rfl ?_
            exact jx_mid rfl (wk_ren [] (fix_nil _) rfl (by kernel_rfl) allp_nil)
          · intro _
            refine jr_seg 0 5 [0, 1, 27] [] (st1 := ⟨[(0, .av (bs a0)), (1, .av (iv x8)), (27, .av (bv false))], [], 0⟩) (by kernel_rfl) ?_
            refine jr_nil rfl ?_
            exact jx_mid rfl (wk_ren [] (fix_nil _) rfl (by kernel_rfl) allp_nil)
        · intro x27
          refine jr_nil rfl ?_
          refine jx_seqN ?_
          refine jc_cond (g := 27) (c := x27) (by kernel_rfl) ?_ ?_
          · intro _
            refine jc_skip ?_
            refine jx_seqN ?_
            refine jc_block ?_
            refine jc_reg ?_
            refine jr_seg 0 3 [0, 1] [] (st1 := ⟨[(0, .av (bs a0)), (1, .av (iv (w64 (x8 + 1))))], [], 0⟩) (by kernel_rfl) ?_
            refine jr_nil rfl ?_
            refine jx_blkN ?_
            exact jx_next (wk_ren [] (fix_nil _) rfl (by kernel_rfl) allp_nil)
          · intro _
            refine jc_exit ?_
            refine jx_seqE ?_
            exact jx_done rfl nofun (wk_ren [] (fix_nil _) rfl (by kernel_rfl) allp_nil)
  · intro x17
    refine jx_blkE ?_
    refine jx_seqN ?_
    refine jc_seq ?_
    refine jc_reg ?_
    refine jr_seg 0 2 [4] [] (st1 := ⟨[(4, .av (iv x17))], [], 0⟩) (by kernel_rfl) ?_
    refine jr_nil rfl ?_
    refine jx_seqN ?_
    refine jc_ret ?_
    exact jx_retF (.inr rfl) (v := iv x17) (by kernel_rfl) rfl (fle_refl _))
end Go.Vm

set_option maxRecDepth 100000
set_option maxHeartbeats 0
set_option linter.unusedVariables false
set_option linter.unusedSimpArgs false
namespace Go.Vm
open Go
abbrev ref05_is_r1 : List LO := [⟨some 6, Op.assign (Operand.const (Value.bool false)), 4, none⟩]
abbrev ref05_is_b2 : LC := .reg false ref05_is_r1
abbrev ref05_is_r3 : List LO := [⟨some 7, Op.move (Operand.tmp 1), 3, none⟩,
  ⟨some 8, Op.move (Operand.tmp 0), 9, none⟩,
  ⟨some 9, Op.call { callee := Callee.builtin Builtin.len, args := #[Operand.tmp 8], argTypes := #[9] }, 3, none⟩,
  ⟨some 10, Op.binOp BinOp.lss 3 (Operand.tmp 7) (Operand.tmp 9) 3, 4, none⟩,
  ⟨some 11, Op.move (Operand.tmp 10), 4, none⟩,
  ⟨some 12, Op.move (Operand.tmp 0), 9, (some (11, true))⟩,
  ⟨some 13, Op.move (Operand.tmp 1), 3, (some (11, true))⟩,
  ⟨some 14, Op.index 9 (Operand.tmp 12) (Operand.tmp 13), 5, (some (11, true))⟩,
  ⟨some 15, Op.move (Operand.tmp 2), 5, (some (11, true))⟩,
  ⟨some 16, Op.binOp BinOp.eql 5 (Operand.tmp 14) (Operand.tmp 15) 5, 4, (some (11, true))⟩,
  ⟨some 17, Op.pick (Operand.tmp 11) (Operand.tmp 16) (Operand.const (Value.bool false)), 4, none⟩,
  ⟨some 6, Op.assign (Operand.tmp 17), 4, none⟩]
abbrev ref05_is_b4 : LC := .reg false ref05_is_r3
abbrev ref05_is_b5 : LC := .seq ref05_is_b4 .ret
abbrev ref05_is_b6 : LC := .seq ref05_is_b2 ref05_is_b5
theorem ref05_is_k : FnOk E 82 18 [.tmp 6] ref05_is_b6 := ⟨⟨Go.Proofs.Tryd.f82, by kernel_rfl, by kernel_rfl, by kernel_rfl, by kernel_rfl, by kernel_rfl⟩, rfl⟩
noncomputable def ref05_is (a0 : Str) (a1 : Int) (a2 : Int) : Option (Bool) := Option.bind (if (decide (a1 < (List.length a0 : Int))) = true then Option.bind (idx a0 a1) (fun x3 => some (x3 == a2)) else some false : Option (Bool)) (fun x2 => some x2)
theorem ref05_is_ok (a0 : Str) (a1 : Int) (a2 : Int) : Ct E 82 [bs a0, iv a1, .s (.int .u8 a2)] (ref05_is a0 a1 a2) (fun r : Bool => bv r) := ct_intro (N := 18) (L := ref05_is_b6) ref05_is_k rfl (Nat.le_of_ble_eq_true rfl) (by kernel_rfl) (by
  unfold ref05_is
  refine jc_seq ?_
  refine jc_reg ?_
  refine jr_seg 0 1 [0, 1, 2] [] (st1 := ⟨[(0, .av (bs a0)), (1, .av (iv a1)), (2, .av (.s (.int .u8 a2)))], [], 0⟩) (by kernel_rfl) ?_
  refine jr_nil rfl ?_
  refine jx_seqN ?_
  refine jc_seq ?_
  refine jc_reg ?_
  refine jr_seg 0 5 [0, 1, 2, 11] [] (st1 := ⟨[(0, .av (bs a0)), (1, .av (iv a1)), (2, .av (.s (.int .u8 a2))), (11, .av (bv (decide (a1 < (List.length a0 : Int)))))], [], 0⟩) (by kernel_rfl) ?_
  refine jr_bind 5 6 (fun x2 => ⟨[(17, .av (bv x2))], [], 0⟩) ?_ ?_
  · refine jr_split (g := 11) (c := (decide (a1 < (List.length a0 : Int)))) (by kernel_rfl) ?_ ?_
    · intro _
      refine jr_seg 0 2 [2, 11, 12, 13] [] (st1 := ⟨[(2, .av (.s (.int .u8 a2))), (11, .lit true), (12, .av (bs a0)), (13, .av (iv a1))], [], 0⟩) (by kernel_rfl) ?_
      refine jr_part (i := 2) (mo := idx a0 a1) rfl rfl rfl rfl (fun _ hc => aop_index (kk := .i64) (by kernel_rfl) (by kernel_rfl) (by kernel_rfl) hc) (fun _ => rfl) ?_
      intro x3 h3
      refine jr_seg 3 3 [17] [] (st1 := ⟨[(17, .av (bv (x3 == a2)))], [], 0⟩) (by kernel_rfl) ?_
      refine jr_nil rfl ?_
      exact jx_mid rfl (wk_ren [] (fix_nil _) rfl (by kernel_rfl) allp_nil)
    · intro _
      refine jr_seg 0 6 [17] [] (st1 := ⟨[(17, .av (bv false))], [], 0⟩) (by kernel_rfl) ?_
      refine jr_nil rfl ?_
      exact jx_mid rfl (wk_ren [] (fix_nil _) rfl (by kernel_rfl) allp_nil)
  · intro x2
    refine jr_seg 11 1 [6] [] (st1 := ⟨[(6, .av (bv x2))], [], 0⟩) (by kernel_rfl) ?_
    refine jr_nil rfl ?_
    refine jx_seqN ?_
    refine jc_ret ?_
    exact jx_retF (.inr rfl) (v := bv x2) (by kernel_rfl) rfl (fle_refl _))
end Go.Vm

set_option maxRecDepth 100000
set_option maxHeartbeats 0
set_option linter.unusedVariables false
set_option linter.unusedSimpArgs false
namespace Go.Vm
open Go
abbrev ref05_Segments_r1 : List LO := [⟨some 4, Op.assign (Operand.const (Value.int IntKind.i64 0)), 3, none⟩]
abbrev ref05_Segments_b2 : LC := .reg false ref05_Segments_r1
abbrev ref05_Segments_r3 : List LO := [⟨some 5, Op.assign (Operand.const (Value.int IntKind.i64 0)), 3, none⟩]
abbrev ref05_Segments_b4 : LC := .reg false ref05_Segments_r3
abbrev ref05_Segments_r5 : List LO := [⟨some 6, Op.assign (Operand.const (Value.int IntKind.i64 0)), 3, none⟩]
abbrev ref05_Segments_b6 : LC := .reg false ref05_Segments_r5
abbrev ref05_Segments_r7 : List LO := [⟨some 13, Op.move (Operand.tmp 5), 3, none⟩,
  ⟨some 14, Op.move (Operand.tmp 0), 9, none⟩,
  ⟨some 15, Op.call { callee := Callee.builtin Builtin.len, args := #[Operand.tmp 14], argTypes := #[9] }, 3, none⟩,
  ⟨some 16, Op.binOp BinOp.lss 3 (Operand.tmp 13) (Operand.tmp 15) 3, 4, none⟩,
  ⟨some 17, Op.move (Operand.tmp 16), 4, none⟩,
  ⟨some 18, Op.move (Operand.tmp 6), 3, (some (17, false))⟩,
  ⟨some 19, Op.move (Operand.tmp 1), 9, (some (17, false))⟩,
  ⟨some 20, Op.call { callee := Callee.builtin Builtin.len, args := #[Operand.tmp 19], argTypes := #[9] }, 3, (some (17, false))⟩,
  ⟨some 21, Op.binOp BinOp.lss 3 (Operand.tmp 18) (Operand.tmp 20) 3, 4, (some (17, false))⟩,
  ⟨some 22, Op.pick (Operand.tmp 17) (Operand.const (Value.bool true)) (Operand.tmp 21), 4, none⟩]
abbrev ref05_Segments_b8 : LC := .reg false ref05_Segments_r7
abbrev ref05_Segments_b9 : LC := .cond (Operand.tmp 22) .skip (.exit 0)
abbrev ref05_Segments_b10 : LC := .seq ref05_Segments_b8 ref05_Segments_b9
abbrev ref05_Segments_r11 : List LO := [⟨some 23, Op.move (Operand.tmp 0), 9, none⟩,
  ⟨some 24, Op.move (Operand.tmp 5), 3, none⟩,
  ⟨some 25, Op.call { callee := Callee.value (Operand.func 81), args := #[Operand.tmp 23, Operand.tmp 24], argTypes := #[9, 3] }, 3, none⟩,
  ⟨some 5, Op.assign (Operand.tmp 25), 3, none⟩]
abbrev ref05_Segments_b12 : LC := .reg false ref05_Segments_r11
abbrev ref05_Segments_r13 : List LO := [⟨some 26, Op.move (Operand.tmp 1), 9, none⟩,
  ⟨some 27, Op.move (Operand.tmp 6), 3, none⟩,
  ⟨some 28, Op.call { callee := Callee.value (Operand.func 81), args := #[Operand.tmp 26, Operand.tmp 27], argTypes := #[9, 3] }, 3, none⟩,
  ⟨some 6, Op.assign (Operand.tmp 28), 3, none⟩]
abbrev ref05_Segments_b14 : LC := .reg false ref05_Segments_r13
abbrev ref05_Segments_r15 : List LO := [⟨some 29, Op.move (Operand.tmp 0), 9, none⟩,
  ⟨some 30, Op.move (Operand.tmp 5), 3, none⟩,
  ⟨some 31, Op.call { callee := Callee.value (Operand.func 82), args := #[Operand.tmp 29, Operand.tmp 30, Operand.const (Value.int IntKind.u8 126)], argTypes := #[9, 3, 5] }, 4, none⟩,
  ⟨some 7, Op.assign (Operand.tmp 31), 4, none⟩]
abbrev ref05_Segments_b16 : LC := .reg false ref05_Segments_r15
abbrev ref05_Segments_r17 : List LO := [⟨some 32, Op.move (Operand.tmp 1), 9, none⟩,
  ⟨some 33, Op.move (Operand.tmp 6), 3, none⟩,
  ⟨some 34, Op.call { callee := Callee.value (Operand.func 82), args := #[Operand.tmp 32, Operand.tmp 33, Operand.const (Value.int IntKind.u8 126)], argTypes := #[9, 3, 5] }, 4, none⟩,
  ⟨some 8, Op.assign (Operand.tmp 34), 4, none⟩]
abbrev ref05_Segments_b18 : LC := .reg false ref05_Segments_r17
abbrev ref05_Segments_r19 : List LO := [⟨some 36, Op.move (Operand.tmp 7), 4, none⟩,
  ⟨some 37, Op.move (Operand.tmp 36), 4, none⟩,
  ⟨some 38, Op.move (Operand.tmp 8), 4, (some (37, true))⟩,
  ⟨some 39, Op.pick (Operand.tmp 37) (Operand.tmp 38) (Operand.const (Value.bool false)), 4, none⟩,
  ⟨some 35, Op.assign (Operand.tmp 39), 4, none⟩]
abbrev ref05_Segments_b20 : LC := .reg false ref05_Segments_r19
abbrev ref05_Segments_r21 : List LO := [⟨some 40, Op.move (Operand.tmp 5), 3, none⟩,
  ⟨some 41, Op.binOp BinOp.add 3 (Operand.tmp 40) (Operand.const (Value.int IntKind.i64 1)) 3, 3, none⟩,
  ⟨some 5, Op.assign (Operand.tmp 41), 3, none⟩]
abbrev ref05_Segments_b22 : LC := .reg false ref05_Segments_r21
abbrev ref05_Segments_r23 : List LO := [⟨some 42, Op.move (Operand.tmp 6), 3, none⟩,
  ⟨some 43, Op.binOp BinOp.add 3 (Operand.tmp 42) (Operand.const (Value.int IntKind.i64 1)) 3, 3, none⟩,
  ⟨some 6, Op.assign (Operand.tmp 43), 3, none⟩]
abbrev ref05_Segments_b24 : LC := .reg false ref05_Segments_r23
abbrev ref05_Segments_b25 : LC := .seq ref05_Segments_b24 (.exit 1)
abbrev ref05_Segments_b26 : LC := .seq ref05_Segments_b22 ref05_Segments_b25
abbrev ref05_Segments_r27 : List LO := [⟨some 45, Op.move (Operand.tmp 7), 4, none⟩,
  ⟨some 44, Op.assign (Operand.tmp 45), 4, none⟩]
abbrev ref05_Segments_b28 : LC := .reg false ref05_Segments_r27
abbrev ref05_Segments_r29 : List LO := [⟨some 4, Op.assign (Operand.const (Value.int IntKind.i64 (-1))), 3, none⟩]
abbrev ref05_Segments_b30 : LC := .reg false ref05_Segments_r29
abbrev ref05_Segments_b31 : LC := .seq ref05_Segments_b30 .ret
abbrev ref05_Segments_r32 : List LO := [⟨some 47, Op.move (Operand.tmp 8), 4, none⟩,
  ⟨some 46, Op.assign (Operand.tmp 47), 4, none⟩]
abbrev ref05_Segments_b33 : LC := .reg false ref05_Segments_r32
abbrev ref05_Segments_r34 : List LO := [⟨some 4, Op.assign (Operand.const (Value.int IntKind.i64 1)), 3, none⟩]
abbrev ref05_Segments_b35 : LC := .reg false ref05_Segments_r34
abbrev ref05_Segments_b36 : LC := .seq ref05_Segments_b35 .ret
abbrev ref05_Segments_b37 : LC := .cond (Operand.tmp 46) ref05_Segments_b36 .skip
abbrev ref05_Segments_b38 : LC := .seq ref05_Segments_b33 ref05_Segments_b37
abbrev ref05_Segments_b39 : LC := .cond (Operand.tmp 44) ref05_Segments_b31 ref05_Segments_b38
abbrev ref05_Segments_b40 : LC := .seq ref05_Segments_b28 ref05_Segments_b39
abbrev ref05_Segments_b41 : LC := .cond (Operand.tmp 35) ref05_Segments_b26 ref05_Segments_b40
abbrev ref05_Segments_b42 : LC := .seq ref05_Segments_b20 ref05_Segments_b41
abbrev ref05_Segments_b43 : LC := .block 2 ref05_Segments_b42
abbrev ref05_Segments_r44 : List LO := [⟨some 48, Op.move (Operand.tmp 0), 9, none⟩,
  ⟨some 49, Op.move (Operand.tmp 5), 3, none⟩,
  ⟨some 50, Op.call { callee := Callee.value (Operand.func 82), args := #[Operand.tmp 48, Operand.tmp 49, Operand.const (Value.int IntKind.u8 94)], argTypes := #[9, 3, 5] }, 4, none⟩,
  ⟨some 7, Op.assign (Operand.tmp 50), 4, none⟩]
abbrev ref05_Segments_b45 : LC := .reg false ref05_Segments_r44
abbrev ref05_Segments_r46 : List LO := [⟨some 51, Op.move (Operand.tmp 1), 9, none⟩,
  ⟨some 52, Op.move (Operand.tmp 6), 3, none⟩,
  ⟨some 53, Op.call { callee := Callee.value (Operand.func 82), args := #[Operand.tmp 51, Operand.tmp 52, Operand.const (Value.int IntKind.u8 94)], argTypes := #[9, 3, 5] }, 4, none⟩,
  ⟨some 8, Op.assign (Operand.tmp 53), 4, none⟩]
abbrev ref05_Segments_b47 : LC := .reg false ref05_Segments_r46
abbrev ref05_Segments_r48 : List LO := [⟨some 55, Op.move (Operand.tmp 7), 4, none⟩,
  ⟨some 56, Op.move (Operand.tmp 55), 4, none⟩,
  ⟨some 57, Op.move (Operand.tmp 8), 4, (some (56, true))⟩,
  ⟨some 58, Op.pick (Operand.tmp 56) (Operand.tmp 57) (Operand.const (Value.bool false)), 4, none⟩,
  ⟨some 54, Op.assign (Operand.tmp 58), 4, none⟩]
abbrev ref05_Segments_b49 : LC := .reg false ref05_Segments_r48
abbrev ref05_Segments_r50 : List LO := [⟨some 59, Op.move (Operand.tmp 5), 3, none⟩,
  ⟨some 60, Op.binOp BinOp.add 3 (Operand.tmp 59) (Operand.const (Value.int IntKind.i64 1)) 3, 3, none⟩,
  ⟨some 5, Op.assign (Operand.tmp 60), 3, none⟩]
abbrev ref05_Segments_b51 : LC := .reg false ref05_Segments_r50
abbrev ref05_Segments_r52 : List LO := [⟨some 61, Op.move (Operand.tmp 6), 3, none⟩,
  ⟨some 62, Op.binOp BinOp.add 3 (Operand.tmp 61) (Operand.const (Value.int IntKind.i64 1)) 3, 3, none⟩,
  ⟨some 6, Op.assign (Operand.tmp 62), 3, none⟩]
abbrev ref05_Segments_b53 : LC := .reg false ref05_Segments_r52
abbrev ref05_Segments_b54 : LC := .seq ref05_Segments_b53 (.exit 1)
abbrev ref05_Segments_b55 : LC := .seq ref05_Segments_b51 ref05_Segments_b54
abbrev ref05_Segments_r56 : List LO := [⟨some 64, Op.move (Operand.tmp 7), 4, none⟩,
  ⟨some 65, Op.move (Operand.tmp 64), 4, none⟩,
  ⟨some 66, Op.move (Operand.tmp 6), 3, (some (65, true))⟩,
  ⟨some 67, Op.move (Operand.tmp 1), 9, (some (65, true))⟩,
  ⟨some 68, Op.call { callee := Callee.builtin Builtin.len, args := #[Operand.tmp 67], argTypes := #[9] }, 3, (some (65, true))⟩,
  ⟨some 69, Op.binOp BinOp.eql 3 (Operand.tmp 66) (Operand.tmp 68) 3, 4, (some (65, true))⟩,
  ⟨some 70, Op.pick (Operand.tmp 65) (Operand.tmp 69) (Operand.const (Value.bool false)), 4, none⟩,
  ⟨some 63, Op.assign (Operand.tmp 70), 4, none⟩]
abbrev ref05_Segments_b57 : LC := .reg false ref05_Segments_r56
abbrev ref05_Segments_r58 : List LO := [⟨some 4, Op.assign (Operand.const (Value.int IntKind.i64 1)), 3, none⟩]
abbrev ref05_Segments_b59 : LC := .reg false ref05_Segments_r58
abbrev ref05_Segments_b60 : LC := .seq ref05_Segments_b59 .ret
abbrev ref05_Segments_r61 : List LO := [⟨some 72, Op.move (Operand.tmp 7), 4, none⟩,
  ⟨some 71, Op.assign (Operand.tmp 72), 4, none⟩]
abbrev ref05_Segments_b62 : LC := .reg false ref05_Segments_r61
abbrev ref05_Segments_r63 : List LO := [⟨some 4, Op.assign (Operand.const (Value.int IntKind.i64 (-1))), 3, none⟩]
abbrev ref05_Segments_b64 : LC := .reg false ref05_Segments_r63
abbrev ref05_Segments_b65 : LC := .seq ref05_Segments_b64 .ret
abbrev ref05_Segments_r66 : List LO := [⟨some 74, Op.move (Operand.tmp 8), 4, none⟩,
  ⟨some 75, Op.move (Operand.tmp 74), 4, none⟩,
  ⟨some 76, Op.move (Operand.tmp 5), 3, (some (75, true))⟩,
  ⟨some 77, Op.move (Operand.tmp 0), 9, (some (75, true))⟩,
  ⟨some 78, Op.call { callee := Callee.builtin Builtin.len, args := #[Operand.tmp 77], argTypes := #[9] }, 3, (some (75, true))⟩,
  ⟨some 79, Op.binOp BinOp.eql 3 (Operand.tmp 76) (Operand.tmp 78) 3, 4, (some (75, true))⟩,
  ⟨some 80, Op.pick (Operand.tmp 75) (Operand.tmp 79) (Operand.const (Value.bool false)), 4, none⟩,
  ⟨some 73, Op.assign (Operand.tmp 80), 4, none⟩]
abbrev ref05_Segments_b67 : LC := .reg false ref05_Segments_r66
abbrev ref05_Segments_r68 : List LO := [⟨some 4, Op.assign (Operand.const (Value.int IntKind.i64 (-1))), 3, none⟩]
abbrev ref05_Segments_b69 : LC := .reg false ref05_Segments_r68
abbrev ref05_Segments_b70 : LC := .seq ref05_Segments_b69 .ret
abbrev ref05_Segments_r71 : List LO := [⟨some 82, Op.move (Operand.tmp 8), 4, none⟩,
  ⟨some 81, Op.assign (Operand.tmp 82), 4, none⟩]
abbrev ref05_Segments_b72 : LC := .reg false ref05_Segments_r71
abbrev ref05_Segments_r73 : List LO := [⟨some 4, Op.assign (Operand.const (Value.int IntKind.i64 1)), 3, none⟩]
abbrev ref05_Segments_b74 : LC := .reg false ref05_Segments_r73
abbrev ref05_Segments_b75 : LC := .seq ref05_Segments_b74 .ret
abbrev ref05_Segments_b76 : LC := .cond (Operand.tmp 81) ref05_Segments_b75 .skip
abbrev ref05_Segments_b77 : LC := .seq ref05_Segments_b72 ref05_Segments_b76
abbrev ref05_Segments_b78 : LC := .cond (Operand.tmp 73) ref05_Segments_b70 ref05_Segments_b77
abbrev ref05_Segments_b79 : LC := .seq ref05_Segments_b67 ref05_Segments_b78
abbrev ref05_Segments_b80 : LC := .cond (Operand.tmp 71) ref05_Segments_b65 ref05_Segments_b79
abbrev ref05_Segments_b81 : LC := .seq ref05_Segments_b62 ref05_Segments_b80
abbrev ref05_Segments_b82 : LC := .cond (Operand.tmp 63) ref05_Segments_b60 ref05_Segments_b81
abbrev ref05_Segments_b83 : LC := .seq ref05_Segments_b57 ref05_Segments_b82
abbrev ref05_Segments_b84 : LC := .cond (Operand.tmp 54) ref05_Segments_b55 ref05_Segments_b83
abbrev ref05_Segments_b85 : LC := .seq ref05_Segments_b49 ref05_Segments_b84
abbrev ref05_Segments_b86 : LC := .block 3 ref05_Segments_b85
abbrev ref05_Segments_r87 : List LO := [⟨some 83, Op.move (Operand.tmp 5), 3, none⟩,
  ⟨some 84, Op.move (Operand.tmp 0), 9, none⟩,
  ⟨some 85, Op.call { callee := Callee.builtin Builtin.len, args := #[Operand.tmp 84], argTypes := #[9] }, 3, none⟩,
  ⟨some 86, Op.binOp BinOp.eql 3 (Operand.tmp 83) (Operand.tmp 85) 3, 4, none⟩,
  ⟨some 87, Op.move (Operand.tmp 86), 4, none⟩,
  ⟨some 88, Op.move (Operand.tmp 6), 3, (some (87, false))⟩,
  ⟨some 89, Op.move (Operand.tmp 1), 9, (some (87, false))⟩,
  ⟨some 90, Op.call { callee := Callee.builtin Builtin.len, args := #[Operand.tmp 89], argTypes := #[9] }, 3, (some (87, false))⟩,
  ⟨some 91, Op.binOp BinOp.eql 3 (Operand.tmp 88) (Operand.tmp 90) 3, 4, (some (87, false))⟩,
  ⟨some 92, Op.pick (Operand.tmp 87) (Operand.const (Value.bool true)) (Operand.tmp 91), 4, none⟩]
abbrev ref05_Segments_b88 : LC := .reg false ref05_Segments_r87
abbrev ref05_Segments_b89 : LC := .cond (Operand.tmp 92) (.exit 0) .skip
abbrev ref05_Segments_b90 : LC := .seq ref05_Segments_b88 ref05_Segments_b89
abbrev ref05_Segments_r91 : List LO := [⟨some 9, Op.assign (Operand.const (Value.int IntKind.i64 4)), 3, none⟩]
abbrev ref05_Segments_b92 : LC := .reg false ref05_Segments_r91
abbrev ref05_Segments_r93 : List LO := [⟨some 93, Op.move (Operand.tmp 0), 9, none⟩,
  ⟨some 94, Op.move (Operand.tmp 5), 3, none⟩,
  ⟨some 95, Op.index 9 (Operand.tmp 93) (Operand.tmp 94), 5, none⟩,
  ⟨some 96, Op.call { callee := Callee.value (Operand.func 27), args := #[Operand.tmp 95, Operand.const (Value.int IntKind.i64 1)], argTypes := #[5, 3] }, 4, none⟩]
abbrev ref05_Segments_b94 : LC := .reg false ref05_Segments_r93
abbrev ref05_Segments_r95 : List LO := [⟨some 9, Op.assign (Operand.const (Value.int IntKind.i64 1)), 3, none⟩]
abbrev ref05_Segments_b96 : LC := .reg false ref05_Segments_r95
abbrev ref05_Segments_b97 : LC := .cond (Operand.tmp 96) ref05_Segments_b96 .skip
abbrev ref05_Segments_b98 : LC := .seq ref05_Segments_b94 ref05_Segments_b97
abbrev ref05_Segments_r99 : List LO := [⟨some 97, Op.move (Operand.tmp 0), 9, none⟩,
  ⟨some 98, Op.move (Operand.tmp 5), 3, none⟩,
  ⟨some 99, Op.move (Operand.tmp 9), 3, none⟩,
  ⟨some 100, Op.call { callee := Callee.value (Operand.func 31), args := #[Operand.tmp 97, Operand.tmp 98, Operand.tmp 99], argTypes := #[9, 3, 3] }, 3, none⟩,
  ⟨some 10, Op.assign (Operand.tmp 100), 3, none⟩]
abbrev ref05_Segments_b100 : LC := .reg false ref05_Segments_r99
abbrev ref05_Segments_r101 : List LO := [⟨some 101, Op.move (Operand.tmp 1), 9, none⟩,
  ⟨some 102, Op.move (Operand.tmp 6), 3, none⟩,
  ⟨some 103, Op.move (Operand.tmp 9), 3, none⟩,
  ⟨some 104, Op.call { callee := Callee.value (Operand.func 31), args := #[Operand.tmp 101, Operand.tmp 102, Operand.tmp 103], argTypes := #[9, 3, 3] }, 3, none⟩,
  ⟨some 11, Op.assign (Operand.tmp 104), 3, none⟩]
abbrev ref05_Segments_b102 : LC := .reg false ref05_Segments_r101
abbrev ref05_Segments_r103 : List LO := [⟨some 105, Op.move (Operand.tmp 11), 3, none⟩,
  ⟨some 106, Op.move (Operand.tmp 6), 3, none⟩,
  ⟨some 107, Op.binOp BinOp.eql 3 (Operand.tmp 105) (Operand.tmp 106) 3, 4, none⟩]
abbrev ref05_Segments_b104 : LC := .reg false ref05_Segments_r103
abbrev ref05_Segments_r105 : List LO := [⟨some 108, Op.move (Operand.tmp 9), 3, none⟩,
  ⟨some 109, Op.binOp BinOp.eql 3 (Operand.tmp 108) (Operand.const (Value.int IntKind.i64 1)) 3, 4, none⟩]
abbrev ref05_Segments_b106 : LC := .reg false ref05_Segments_r105
abbrev ref05_Segments_r107 : List LO := [⟨some 4, Op.assign (Operand.const (Value.int IntKind.i64 1)), 3, none⟩]
abbrev ref05_Segments_b108 : LC := .reg false ref05_Segments_r107
abbrev ref05_Segments_b109 : LC := .seq ref05_Segments_b108 .ret
abbrev ref05_Segments_b110 : LC := .cond (Operand.tmp 109) ref05_Segments_b109 .skip
abbrev ref05_Segments_b111 : LC := .seq ref05_Segments_b106 ref05_Segments_b110
abbrev ref05_Segments_r112 : List LO := [⟨some 4, Op.assign (Operand.const (Value.int IntKind.i64 (-1))), 3, none⟩]
abbrev ref05_Segments_b113 : LC := .reg false ref05_Segments_r112
abbrev ref05_Segments_b114 : LC := .seq ref05_Segments_b113 .ret
abbrev ref05_Segments_b115 : LC := .seq ref05_Segments_b111 ref05_Segments_b114
abbrev ref05_Segments_b116 : LC := .cond (Operand.tmp 107) ref05_Segments_b115 .skip
abbrev ref05_Segments_b117 : LC := .seq ref05_Segments_b104 ref05_Segments_b116
abbrev ref05_Segments_r118 : List LO := [⟨some 110, Op.move (Operand.tmp 0), 9, none⟩,
  ⟨some 111, Op.move (Operand.tmp 5), 3, none⟩,
  ⟨some 112, Op.move (Operand.tmp 10), 3, none⟩,
  ⟨some 113, Op.slice 9 (Operand.tmp 110) (some (Operand.tmp 111)) (some (Operand.tmp 112)) none, 9, none⟩,
  ⟨some 114, Op.move (Operand.tmp 1), 9, none⟩,
  ⟨some 115, Op.move (Operand.tmp 6), 3, none⟩,
  ⟨some 116, Op.move (Operand.tmp 11), 3, none⟩,
  ⟨some 117, Op.slice 9 (Operand.tmp 114) (some (Operand.tmp 115)) (some (Operand.tmp 116)) none, 9, none⟩,
  ⟨some 118, Op.call { callee := Callee.value (Operand.func 67), args := #[Operand.tmp 113, Operand.tmp 117], argTypes := #[9, 9] }, 3, none⟩,
  ⟨some 12, Op.assign (Operand.tmp 118), 3, none⟩]
abbrev ref05_Segments_b119 : LC := .reg true ref05_Segments_r118
abbrev ref05_Segments_r120 : List LO := [⟨some 119, Op.move (Operand.tmp 9), 3, none⟩,
  ⟨some 120, Op.binOp BinOp.eql 3 (Operand.tmp 119) (Operand.const (Value.int IntKind.i64 1)) 3, 4, none⟩]
abbrev ref05_Segments_b121 : LC := .reg false ref05_Segments_r120
abbrev ref05_Segments_r122 : List LO := [⟨some 121, Op.move (Operand.tmp 0), 9, none⟩,
  ⟨some 122, Op.move (Operand.tmp 5), 3, none⟩,
  ⟨some 123, Op.move (Operand.tmp 10), 3, none⟩,
  ⟨some 124, Op.slice 9 (Operand.tmp 121) (some (Operand.tmp 122)) (some (Operand.tmp 123)) none, 9, none⟩,
  ⟨some 125, Op.move (Operand.tmp 1), 9, none⟩,
  ⟨some 126, Op.move (Operand.tmp 6), 3, none⟩,
  ⟨some 127, Op.move (Operand.tmp 11), 3, none⟩,
  ⟨some 128, Op.slice 9 (Operand.tmp 125) (some (Operand.tmp 126)) (some (Operand.tmp 127)) none, 9, none⟩,
  ⟨some 129, Op.call { callee := Callee.value (Operand.func 18), args := #[Operand.tmp 124, Operand.tmp 128], argTypes := #[9, 9] }, 3, none⟩,
  ⟨some 12, Op.assign (Operand.tmp 129), 3, none⟩]
abbrev ref05_Segments_b123 : LC := .reg true ref05_Segments_r122
abbrev ref05_Segments_b124 : LC := .cond (Operand.tmp 120) ref05_Segments_b123 .skip
abbrev ref05_Segments_b125 : LC := .seq ref05_Segments_b121 ref05_Segments_b124
abbrev ref05_Segments_r126 : List LO := [⟨some 130, Op.move (Operand.tmp 12), 3, none⟩,
  ⟨some 131, Op.binOp BinOp.neq 3 (Operand.tmp 130) (Operand.const (Value.int IntKind.i64 0)) 3, 4, none⟩]
abbrev ref05_Segments_b127 : LC := .reg false ref05_Segments_r126
abbrev ref05_Segments_r128 : List LO := [⟨some 132, Op.move (Operand.tmp 12), 3, none⟩,
  ⟨some 4, Op.assign (Operand.tmp 132), 3, none⟩]
abbrev ref05_Segments_b129 : LC := .reg false ref05_Segments_r128
abbrev ref05_Segments_b130 : LC := .seq ref05_Segments_b129 .ret
abbrev ref05_Segments_b131 : LC := .cond (Operand.tmp 131) ref05_Segments_b130 .skip
abbrev ref05_Segments_b132 : LC := .seq ref05_Segments_b127 ref05_Segments_b131
abbrev ref05_Segments_r133 : List LO := [⟨some 133, Op.move (Operand.tmp 10), 3, none⟩,
  ⟨some 5, Op.assign (Operand.tmp 133), 3, none⟩]
abbrev ref05_Segments_b134 : LC := .reg false ref05_Segments_r133
abbrev ref05_Segments_r135 : List LO := [⟨some 134, Op.move (Operand.tmp 11), 3, none⟩,
  ⟨some 6, Op.assign (Operand.tmp 134), 3, none⟩]
abbrev ref05_Segments_b136 : LC := .reg false ref05_Segments_r135
abbrev ref05_Segments_b137 : LC := .seq ref05_Segments_b134 ref05_Segments_b136
abbrev ref05_Segments_b138 : LC := .seq ref05_Segments_b132 ref05_Segments_b137
abbrev ref05_Segments_b139 : LC := .seq ref05_Segments_b125 ref05_Segments_b138
abbrev ref05_Segments_b140 : LC := .seq ref05_Segments_b119 ref05_Segments_b139
abbrev ref05_Segments_b141 : LC := .seq ref05_Segments_b117 ref05_Segments_b140
abbrev ref05_Segments_b142 : LC := .seq ref05_Segments_b102 ref05_Segments_b141
abbrev ref05_Segments_b143 : LC := .seq ref05_Segments_b100 ref05_Segments_b142
abbrev ref05_Segments_b144 : LC := .seq ref05_Segments_b98 ref05_Segments_b143
abbrev ref05_Segments_b145 : LC := .seq ref05_Segments_b92 ref05_Segments_b144
abbrev ref05_Segments_b146 : LC := .seq ref05_Segments_b90 ref05_Segments_b145
abbrev ref05_Segments_b147 : LC := .seq ref05_Segments_b86 ref05_Segments_b146
abbrev ref05_Segments_b148 : LC := .seq ref05_Segments_b47 ref05_Segments_b147
abbrev ref05_Segments_b149 : LC := .seq ref05_Segments_b45 ref05_Segments_b148
abbrev ref05_Segments_b150 : LC := .seq ref05_Segments_b43 ref05_Segments_b149
abbrev ref05_Segments_b151 : LC := .seq ref05_Segments_b18 ref05_Segments_b150
abbrev ref05_Segments_b152 : LC := .seq ref05_Segments_b16 ref05_Segments_b151
abbrev ref05_Segments_b153 : LC := .seq ref05_Segments_b14 ref05_Segments_b152
abbrev ref05_Segments_b154 : LC := .seq ref05_Segments_b12 ref05_Segments_b153
abbrev ref05_Segments_b155 : LC := .block 1 ref05_Segments_b154
abbrev ref05_Segments_b156 : LC := .seq ref05_Segments_b10 ref05_Segments_b155
abbrev ref05_Segments_b157 : LC := .loop ref05_Segments_b156
abbrev ref05_Segments_b158 : LC := .block 0 ref05_Segments_b157
abbrev ref05_Segments_r159 : List LO := [⟨some 136, Op.move (Operand.tmp 5), 3, none⟩,
  ⟨some 137, Op.move (Operand.tmp 0), 9, none⟩,
  ⟨some 138, Op.call { callee := Callee.builtin Builtin.len, args := #[Operand.tmp 137], argTypes := #[9] }, 3, none⟩,
  ⟨some 139, Op.binOp BinOp.lss 3 (Operand.tmp 136) (Operand.tmp 138) 3, 4, none⟩,
  ⟨some 135, Op.assign (Operand.tmp 139), 4, none⟩]
abbrev ref05_Segments_b160 : LC := .reg false ref05_Segments_r159
abbrev ref05_Segments_r161 : List LO := [⟨some 4, Op.assign (Operand.const (Value.int IntKind.i64 1)), 3, none⟩]
abbrev ref05_Segments_b162 : LC := .reg false ref05_Segments_r161
abbrev ref05_Segments_b163 : LC := .seq ref05_Segments_b162 .ret
abbrev ref05_Segments_r164 : List LO := [⟨some 141, Op.move (Operand.tmp 6), 3, none⟩,
  ⟨some 142, Op.move (Operand.tmp 1), 9, none⟩,
  ⟨some 143, Op.call { callee := Callee.builtin Builtin.len, args := #[Operand.tmp 142], argTypes := #[9] }, 3, none⟩,
  ⟨some 144, Op.binOp BinOp.lss 3 (Operand.tmp 141) (Operand.tmp 143) 3, 4, none⟩,
  ⟨some 140, Op.assign (Operand.tmp 144), 4, none⟩]
abbrev ref05_Segments_b165 : LC := .reg false ref05_Segments_r164
abbrev ref05_Segments_r166 : List LO := [⟨some 4, Op.assign (Operand.const (Value.int IntKind.i64 (-1))), 3, none⟩]
abbrev ref05_Segments_b167 : LC := .reg false ref05_Segments_r166
abbrev ref05_Segments_b168 : LC := .seq ref05_Segments_b167 .ret
abbrev ref05_Segments_b169 : LC := .cond (Operand.tmp 140) ref05_Segments_b168 .skip
abbrev ref05_Segments_b170 : LC := .seq ref05_Segments_b165 ref05_Segments_b169
abbrev ref05_Segments_b171 : LC := .cond (Operand.tmp 135) ref05_Segments_b163 ref05_Segments_b170
abbrev ref05_Segments_b172 : LC := .seq ref05_Segments_b160 ref05_Segments_b171
abbrev ref05_Segments_b173 : LC := .block 4 ref05_Segments_b172
abbrev ref05_Segments_r174 : List LO := [⟨some 4, Op.assign (Operand.const (Value.int IntKind.i64 0)), 3, none⟩]
abbrev ref05_Segments_b175 : LC := .reg false ref05_Segments_r174
abbrev ref05_Segments_b176 : LC := .seq ref05_Segments_b175 .ret
abbrev ref05_Segments_b177 : LC := .seq ref05_Segments_b173 ref05_Segments_b176
abbrev ref05_Segments_b178 : LC := .seq ref05_Segments_b158 ref05_Segments_b177
abbrev ref05_Segments_b179 : LC := .seq ref05_Segments_b6 ref05_Segments_b178
abbrev ref05_Segments_b180 : LC := .seq ref05_Segments_b4 ref05_Segments_b179
abbrev ref05_Segments_b181 : LC := .seq ref05_Segments_b2 ref05_Segments_b180
theorem ref05_Segments_k : FnOk E 40 145 [.tmp 4] ref05_Segments_b181 := ⟨⟨Go.Proofs.Tryd.f40, by kernel_rfl, by kernel_rfl, by kernel_rfl, by kernel_rfl, by kernel_rfl⟩, rfl⟩
noncomputable def ref05_Segments_l1 (a0 : Str) (a1 : Str) : (Int × Int) → Option (Step (Int × Int) ((Int) ⊕ (Int × Int))) := fun (x19, x20) => (if ((decide (x19 < (List.length a0 : Int))) || (decide (x20 < (List.length a1 : Int)))) = true then Option.bind (ref05_skip a0 x19) (fun x44 => Option.bind (ref05_skip a1 x20) (fun x45 => Option.bind (ref05_is a0 x44 126) (fun x46 => Option.bind (ref05_is a1 x45 126) (fun x47 => (if (x46 && x47) = true then some (Step.next ((w64 (x44 + 1)), (w64 (x45 + 1)))) else (if x46 = true then some (Step.done (Sum.inl (-1))) else (if x47 = true then some (Step.done (Sum.inl 1)) else Option.bind (ref05_is a0 x44 94) (fun x48 => Option.bind (ref05_is a1 x45 94) (fun x49 => (if (x48 && x49) = true then some (Step.next ((w64 (x44 + 1)), (w64 (x45 + 1)))) else (if (x48 && (x45 == (List.length a1 : Int))) = true then some (Step.done (Sum.inl 1)) else (if x48 = true then some (Step.done (Sum.inl (-1))) else (if (x49 && (x44 == (List.length a0 : Int))) = true then some (Step.done (Sum.inl (-1))) else (if x49 = true then some (Step.done (Sum.inl 1)) else (if ((x44 == (List.length a0 : Int)) || (x45 == (List.length a1 : Int))) = true then some (Step.done (Sum.inr (x44, x45))) else Option.bind (Option.bind (idx a0 x44) (fun x53 => Option.bind (ref01_Is x53 1) (fun x54 => (if x54 = true then some 1 else some 4))) : Option (Int)) (fun x52 => Option.bind (ref01_Run a0 x44 x52) (fun x55 => Option.bind (ref01_Run a1 x45 x52) (fun x56 => (if (x56 == x45) = true then (if (x52 == 1) = true then some (Step.done (Sum.inl 1)) else some (Step.done (Sum.inl (-1)))) else Option.bind (subl a0 x44 x55) (fun x57 => Option.bind (subl a1 x45 x56) (fun x58 => Option.bind (ref01_Texts x57 x58) (fun x59 => Option.bind ((if (x52 == 1) = true then Option.bind (subl a0 x44 x55) (fun x64 => Option.bind (subl a1 x45 x56) (fun x65 => Option.bind (ref01_Cmp x64 x65) (fun x66 => some x66))) else some x59) : Option (Int)) (fun x63 => (if (x63 != 0) = true then some (Step.done (Sum.inl x63)) else some (Step.next (x55, x56)))))))))))))))))))))))))) else some (Step.done (Sum.inr (x19, x20))))
noncomputable def ref05_Segments (a0 : Str) (a1 : Str) : Option (Int) := Option.bind (loopC (ref05_Segments_l1 a0 a1) (0, 0)) (fun y => match y with | Sum.inl x41 => some x41 | Sum.inr (x42, x43) => (if (decide (x42 < (List.length a0 : Int))) = true then some 1 else (if (decide (x43 < (List.length a1 : Int))) = true then some (-1) else some 0)))
theorem ref05_Segments_ok (a0 : Str) (a1 : Str) : Ct E 40 [bs a0, bs a1] (ref05_Segments a0 a1) (fun r : Int => iv r) := ct_intro (N := 145) (L := ref05_Segments_b181) ref05_Segments_k rfl (Nat.le_of_ble_eq_true rfl) (by kernel_rfl) (by
  unfold ref05_Segments
  refine jc_seq ?_
  refine jc_reg ?_
  refine jr_seg 0 1 [0, 1] [] (st1 := ⟨[(0, .av (bs a0)), (1, .av (bs a1))], [], 0⟩) (by kernel_rfl) ?_
  refine jr_nil rfl ?_
  refine jx_seqN ?_
  refine jc_seq ?_
  refine jc_reg ?_
  refine jr_seg 0 1 [0, 1, 5] [] (st1 := ⟨[(0, .av (bs a0)), (1, .av (bs a1)), (5, .av (iv 0))], [], 0⟩) (by kernel_rfl) ?_
  refine jr_nil rfl ?_
  refine jx_seqN ?_
  refine jc_seq ?_
  refine jc_reg ?_
  refine jr_seg 0 1 [0, 1, 5, 6] [] (st1 := ⟨[(0, .av (bs a0)), (1, .av (bs a1)), (5, .av (iv 0)), (6, .av (iv 0))], [], 0⟩) (by kernel_rfl) ?_
  refine jr_nil rfl ?_
  refine jx_seqN ?_
  refine jc_seq ?_
  refine jc_block ?_
  refine jc_bind (fun y => match y with | Sum.inl x41 => ⟨[(4, .av (iv x41))], [], 0⟩ | Sum.inr (x42, x43) => ⟨[(0, .av (bs a0)), (1, .av (bs a1)), (5, .av (iv x42)), (6, .av (iv x43))], [], 0⟩) (fun y => match y with | Sum.inl x41 => .ret | Sum.inr (x42, x43) => (.exit 0)) (jc_loop (fun (x19, x20) => ⟨[(0, .av (bs a0)), (1, .av (bs a1)), (5, .av (iv x19)), (6, .av (iv x20))], [], 0⟩) (wk_ren [] (fix_nil _) rfl (by kernel_rfl) allp_nil) ?_) ?_
  · rintro ⟨x19, x20⟩
    unfold ref05_Segments_l1
    refine jc_seq ?_
    refine jc_seq ?_
    refine jc_reg ?_
    refine jr_seg 0 10 [0, 1, 5, 6, 22] [] (st1 := ⟨[(0, .av (bs a0)), (1, .av (bs a1)), (5, .av (iv x19)), (6, .av (iv x20)), (22, .av (bv ((decide (x19 < (List.length a0 : Int))) || (decide (x20 < (List.length a1 : Int))))))], [], 0⟩) (by kernel_rfl) ?_
    refine jr_nil rfl ?_
    refine jx_seqN ?_
    refine jc_cond (g := 22) (c := ((decide (x19 < (List.length a0 : Int))) || (decide (x20 < (List.length a1 : Int))))) (by kernel_rfl) ?_ ?_
    · intro _
      refine jc_skip ?_
      refine jx_seqN ?_
      refine jc_block ?_
      refine jc_seq ?_
      refine jc_reg ?_
      refine jr_seg 0 2 [0, 1, 6, 23, 24] [] (st1 := ⟨[(0, .av (bs a0)), (1, .av (bs a1)), (6, .av (iv x20)), (23, .av (bs a0)), (24, .av (iv x19))], [], 0⟩) (by kernel_rfl) ?_
      refine jr_callF (i := 2) rfl rfl rfl rfl (vs := [bs a0, iv x19]) (by kernel_rfl) (snapL_cons rfl (snapL_cons rfl (snapL_nil _))) (all2_cons (fle_refl _) (all2_cons (fle_refl _) all2_nil)) (ref05_skip_ok a0 x19) (fun _ => rfl) (fun _ => rfl) ?_
      intro x44 h44
      refine jr_seg 3 1 [0, 1, 5, 6] [] (st1 := ⟨[(0, .av (bs a0)), (1, .av (bs a1)), (5, .av (iv x44)), (6, .av (iv x20))], [], 0⟩) (by kernel_rfl) ?_
      refine jr_nil rfl ?_
      refine jx_seqN ?_
      refine jc_seq ?_
      refine jc_reg ?_
      refine jr_seg 0 2 [0, 1, 5, 26, 27] [] (st1 := ⟨[(0, .av (bs a0)), (1, .av (bs a1)), (5, .av (iv x44)), (26, .av (bs a1)), (27, .av (iv x20))], [], 0⟩) (by kernel_rfl) ?_
      refine jr_callF (i := 2) rfl rfl rfl rfl (vs := [bs a1, iv x20]) (by kernel_rfl) (snapL_cons rfl (snapL_cons rfl (snapL_nil _))) (all2_cons (fle_refl _) (all2_cons (fle_refl _) all2_nil)) (ref05_skip_ok a1 x20) (fun _ => rfl) (fun _ => rfl) ?_
      intro x45 h45
      refine jr_seg 3 1 [0, 1, 5, 6] [] (st1 := ⟨[(0, .av (bs a0)), (1, .av (bs a1)), (5, .av (iv x44)), (6, .av (iv x45))], [], 0⟩) (by kernel_rfl) ?_
      refine jr_nil rfl ?_
      refine jx_seqN ?_
      refine jc_seq ?_
      refine jc_reg ?_
      refine jr_seg 0 2 [0, 1, 5, 6, 29, 30] [] (st1 := ⟨[(0, .av (bs a0)), (1, .av (bs a1)), (5, .av (iv x44)), (6, .av (iv x45)), (29, .av (bs a0)), (30, .av (iv x44))], [], 0⟩) (by kernel_rfl) ?_
      refine jr_callF (i := 2) rfl rfl rfl rfl (vs := [bs a0, iv x44, .s (.int .u8 126)]) (by kernel_rfl) (snapL_cons rfl (snapL_cons rfl (snapL_cons rfl (snapL_nil _)))) (all2_cons (fle_refl _) (all2_cons (fle_refl _) (all2_cons (fle_refl _) all2_nil))) (ref05_is_ok a0 x44 126) (fun _ => rfl) (fun _ => rfl) ?_
      intro x46 h46
      refine jr_seg 3 1 [0, 1, 5, 6, 7] [] (st1 := ⟨[(0, .av (bs a0)), (1, .av (bs a1)), (5, .av (iv x44)), (6, .av (iv x45)), (7, .av (bv x46))], [], 0⟩) (by kernel_rfl) ?_
      refine jr_nil rfl ?_
      refine jx_seqN ?_
      refine jc_seq ?_
      refine jc_reg ?_
      refine jr_seg 0 2 [0, 1, 5, 6, 7, 32, 33] [] (st1 := ⟨[(0, .av (bs a0)), (1, .av (bs a1)), (5, .av (iv x44)), (6, .av (iv x45)), (7, .av (bv x46)), (32, .av (bs a1)), (33, .av (iv x45))], [], 0⟩) (by kernel_rfl) ?_
      refine jr_callF (i := 2) rfl rfl rfl rfl (vs := [bs a1, iv x45, .s (.int .u8 126)]) (by kernel_rfl) (snapL_cons rfl (snapL_cons rfl (snapL_cons rfl (snapL_nil _)))) (all2_cons (fle_refl _) (all2_cons (fle_refl _) (all2_cons (fle_refl _) all2_nil))) (ref05_is_ok a1 x45 126) (fun _ => rfl) (fun _ => rfl) ?_
      intro x47 h47
      refine jr_seg 3 1 [0, 1, 5, 6, 7, 8] [] (st1 := ⟨[(0, .av (bs a0)), (1, .av (bs a1)), (5, .av (iv x44)), (6, .av (iv x45)), (7, .av (bv x46)), (8, .av (bv x47))], [], 0⟩) (by kernel_rfl) ?_
      refine jr_nil rfl ?_
      refine jx_seqN ?_
      refine jc_seq ?_
      refine jc_block ?_
      refine jc_seq ?_
      refine jc_reg ?_
      refine jr_seg 0 5 [0, 1, 5, 6, 7, 8, 35] [] (st1 := ⟨[(0, .av (bs a0)), (1, .av (bs a1)), (5, .av (iv x44)), (6, .av (iv x45)), (7, .av (bv x46)), (8, .av (bv x47)), (35, .av (bv (x46 && x47)))], [], 0⟩) (by kernel_rfl) ?_
      refine jr_nil rfl ?_
      refine jx_seqN ?_
      refine jc_cond (g := 35) (c := (x46 && x47)) (by kernel_rfl) ?_ ?_
      · intro _
        refine jc_seq ?_
        refine jc_reg ?_
        refine jr_seg 0 3 [0, 1, 5, 6] [] (st1 := ⟨[(0, .av (bs a0)), (1, .av (bs a1)), (5, .av (iv (w64 (x44 + 1)))), (6, .av (iv x45))], [], 0⟩) (by kernel_rfl) ?_
        refine jr_nil rfl ?_
        refine jx_seqN ?_
        refine jc_seq ?_
        refine jc_reg ?_
        refine jr_seg 0 3 [0, 1, 5, 6] [] (st1 := ⟨[(0, .av (bs a0)), (1, .av (bs a1)), (5, .av (iv (w64 (x44 + 1)))), (6, .av (iv (w64 (x45 + 1))))], [], 0⟩) (by kernel_rfl) ?_
        refine jr_nil rfl ?_
        refine jx_seqN ?_
        refine jc_exit ?_
        refine jx_blkX rfl ?_
        refine jx_seqE ?_
        refine jx_blkE ?_
        exact jx_next (wk_ren [] (fix_nil _) rfl (by kernel_rfl) allp_nil)
      · intro _
        refine jc_seq ?_
        refine jc_reg ?_
        refine jr_seg 0 2 [0, 1, 5, 6, 8, 44] [] (st1 := ⟨[(0, .av (bs a0)), (1, .av (bs a1)), (5, .av (iv x44)), (6, .av (iv x45)), (8, .av (bv x47)), (44, .av (bv x46))], [], 0⟩) (by kernel_rfl) ?_
        refine jr_nil rfl ?_
        refine jx_seqN ?_
        refine jc_cond (g := 44) (c := x46) (by kernel_rfl) ?_ ?_
        · intro _
          refine jc_seq ?_
          refine jc_reg ?_
          refine jr_seg 0 1 [4] [] (st1 := ⟨[(4, .av (iv (-1)))], [], 0⟩) (by kernel_rfl) ?_
          refine jr_nil rfl ?_
          refine jx_seqN ?_
          refine jc_ret ?_
          refine jx_blkR ?_
          refine jx_seqR ?_
          refine jx_blkR ?_
          exact jx_done rfl nofun (wk_ren [] (fix_nil _) rfl (by kernel_rfl) allp_nil)
        · intro _
          refine jc_seq ?_
          refine jc_reg ?_
          refine jr_seg 0 2 [0, 1, 5, 6, 46] [] (st1 := ⟨[(0, .av (bs a0)), (1, .av (bs a1)), (5, .av (iv x44)), (6, .av (iv x45)), (46, .av (bv x47))], [], 0⟩) (by kernel_rfl) ?_
          refine jr_nil rfl ?_
          refine jx_seqN ?_
          refine jc_cond (g := 46) (c := x47) (by kernel_rfl) ?_ ?_
          · intro _
            refine jc_seq ?_
            refine jc_reg ?_
            refine jr_seg 0 1 [4] [] (st1 := ⟨[(4, .av (iv 1))], [], 0⟩) (by kernel_rfl) ?_
            refine jr_nil rfl ?_
            refine jx_seqN ?_
            refine jc_ret ?_
            refine jx_blkR ?_
            refine jx_seqR ?_
            refine jx_blkR ?_
            exact jx_done rfl nofun (wk_ren [] (fix_nil _) rfl (by kernel_rfl) allp_nil)
          · intro _
            refine jc_skip ?_
            refine jx_blkN ?_
            refine jx_seqN ?_
            refine jc_seq ?_
            refine jc_reg ?_
            refine jr_seg 0 2 [0, 1, 5, 6, 48, 49] [] (st1 := ⟨[(0, .av (bs a0)), (1, .av (bs a1)), (5, .av (iv x44)), (6, .av (iv x45)), (48, .av (bs a0)), (49, .av (iv x44))], [], 0⟩) (by kernel_rfl) ?_
            refine jr_callF (i := 2) rfl rfl rfl rfl (vs := [bs a0, iv x44, .s (.int .u8 94)]) (by kernel_rfl) (snapL_cons rfl (snapL_cons rfl (snapL_cons rfl (snapL_nil _)))) (all2_cons (fle_refl _) (all2_cons (fle_refl _) (all2_cons (fle_refl _) all2_nil))) (ref05_is_ok a0 x44 94) (fun _ => rfl) (fun _ => rfl) ?_
            intro x48 h48
            refine jr_seg 3 1 [0, 1, 5, 6, 7] [] (st1 := ⟨[(0, .av (bs a0)), (1, .av (bs a1)), (5, .av (iv x44)), (6, .av (iv x45)), (7, .av (bv x48))], [], 0⟩) (by kernel_rfl) ?_
            refine jr_nil rfl ?_
            refine jx_seqN ?_
            refine jc_seq ?_
            refine jc_reg ?_
            refine jr_seg 0 2 [0, 1, 5, 6, 7, 51, 52] [] (st1 := ⟨[(0, .av (bs a0)), (1, .av (bs a1)), (5, .av (iv x44)), (6, .av (iv x45)), (7, .av (bv x48)), (51, .av (bs a1)), (52, .av (iv x45))], [], 0⟩) (by kernel_rfl) ?_
            refine jr_callF (i := 2) rfl rfl rfl rfl (vs := [bs a1, iv x45, .s (.int .u8 94)]) (by kernel_rfl) (snapL_cons rfl (snapL_cons rfl (snapL_cons rfl (snapL_nil _)))) (all2_cons (fle_refl _) (all2_cons (fle_refl _) (all2_cons (fle_refl _) all2_nil))) (ref05_is_ok a1 x45 94) (fun _ => rfl) (fun _ => rfl) ?_
            intro x49 h49
            refine jr_seg 3 1 [0, 1, 5, 6, 7, 8] [] (st1 := ⟨[(0, .av (bs a0)), (1, .av (bs a1)), (5, .av (iv x44)), (6, .av (iv x45)), (7, .av (bv x48)), (8, .av (bv x49))], [], 0⟩) (by kernel_rfl) ?_
            refine jr_nil rfl ?_
            refine jx_seqN ?_
            refine jc_seq ?_
            refine jc_block ?_
            refine jc_seq ?_
            refine jc_reg ?_
            refine jr_seg 0 5 [0, 1, 5, 6, 7, 8, 54] [] (st1 := ⟨[(0, .av (bs a0)), (1, .av (bs a1)), (5, .av (iv x44)), (6, .av (iv x45)), (7, .av (bv x48)), (8, .av (bv x49)), (54, .av (bv (x48 && x49)))], [], 0⟩) (by kernel_rfl) ?_
            refine jr_nil rfl ?_
            refine jx_seqN ?_
            refine jc_cond (g := 54) (c := (x48 && x49)) (by kernel_rfl) ?_ ?_
            · intro _
              refine jc_seq ?_
              refine jc_reg ?_
              refine jr_seg 0 3 [0, 1, 5, 6] [] (st1 := ⟨[(0, .av (bs a0)), (1, .av (bs a1)), (5, .av (iv (w64 (x44 + 1)))), (6, .av (iv x45))], [], 0⟩) (by kernel_rfl) ?_
              refine jr_nil rfl ?_
              refine jx_seqN ?_
              refine jc_seq ?_
              refine jc_reg ?_
              refine jr_seg 0 3 [0, 1, 5, 6] [] (st1 := ⟨[(0, .av (bs a0)), (1, .av (bs a1)), (5, .av (iv (w64 (x44 + 1)))), (6, .av (iv (w64 (x45 + 1))))], [], 0⟩) (by kernel_rfl) ?_
              refine jr_nil rfl ?_
              refine jx_seqN ?_
              refine jc_exit ?_
              refine jx_blkX rfl ?_
              refine jx_seqE ?_
              refine jx_blkE ?_
              exact jx_next (wk_ren [] (fix_nil _) rfl (by kernel_rfl) allp_nil)
            · intro _
              refine jc_seq ?_
              refine jc_reg ?_
              refine jr_seg 0 8 [0, 1, 5, 6, 7, 8, 63] [] (st1 := ⟨[(0, .av (bs a0)), (1, .av (bs a1)), (5, .av (iv x44)), (6, .av (iv x45)), (7, .av (bv x48)), (8, .av (bv x49)), (63, .av (bv (x48 && (x45 == (List.length a1 : Int)))))], [], 0⟩) (by kernel_rfl) ?_
              refine jr_nil rfl ?_
              refine jx_seqN ?_
              refine jc_cond (g := 63) (c := (x48 && (x45 == (List.length a1 : Int)))) (by kernel_rfl) ?_ ?_
              · intro _
                refine jc_seq ?_
                refine jc_reg ?_
                refine jr_seg 0 1 [4] [] (st1 := ⟨[(4, .av (iv 1))], [], 0⟩) (by kernel_rfl) ?_
                refine jr_nil rfl ?_
                refine jx_seqN ?_
                refine jc_ret ?_
                refine jx_blkR ?_
                refine jx_seqR ?_
                refine jx_blkR ?_
                exact jx_done rfl nofun (wk_ren [] (fix_nil _) rfl (by kernel_rfl) allp_nil)
              · intro _
                refine jc_seq ?_
                refine jc_reg ?_
                refine jr_seg 0 2 [0, 1, 5, 6, 8, 71] [] (st1 := ⟨[(0, .av (bs a0)), (1, .av (bs a1)), (5, .av (iv x44)), (6, .av (iv x45)), (8, .av (bv x49)), (71, .av (bv x48))], [], 0⟩) (by kernel_rfl) ?_
                refine jr_nil rfl ?_
                refine jx_seqN ?_
                refine jc_cond (g := 71) (c := x48) (by kernel_rfl) ?_ ?_
                · intro _
                  refine jc_seq ?_
                  refine jc_reg ?_
                  refine jr_seg 0 1 [4] [] (st1 := ⟨[(4, .av (iv (-1)))], [], 0⟩) (by kernel_rfl) ?_
                  refine jr_nil rfl ?_
                  refine jx_seqN ?_
                  refine jc_ret ?_
                  refine jx_blkR ?_
                  refine jx_seqR ?_
                  refine jx_blkR ?_
                  exact jx_done rfl nofun (wk_ren [] (fix_nil _) rfl (by kernel_rfl) allp_nil)
                · intro _
                  refine jc_seq ?_
                  refine jc_reg ?_
                  refine jr_seg 0 8 [0, 1, 5, 6, 8, 73] [] (st1 := ⟨[(0, .av (bs a0)), (1, .av (bs a1)), (5, .av (iv x44)), (6, .av (iv x45)), (8, .av (bv x49)), (73, .av (bv (x49 && (x44 == (List.length a0 : Int)))))], [], 0⟩) (by kernel_rfl) ?_
                  refine jr_nil rfl ?_
                  refine jx_seqN ?_
                  refine jc_cond (g := 73) (c := (x49 && (x44 == (List.length a0 : Int)))) (by kernel_rfl) ?_ ?_
                  · intro _
                    refine jc_seq ?_
                    refine jc_reg ?_
                    refine jr_seg 0 1 [4] [] (st1 := ⟨[(4, .av (iv (-1)))], [], 0⟩) (by kernel_rfl) ?_
                    refine jr_nil rfl ?_
                    refine jx_seqN ?_
                    refine jc_ret ?_
                    refine jx_blkR ?_
                    refine jx_seqR ?_
                    refine jx_blkR ?_
                    exact jx_done rfl nofun (wk_ren [] (fix_nil _) rfl (by kernel_rfl) allp_nil)
                  · intro _
                    refine jc_seq ?_
                    refine jc_reg ?_
                    refine jr_seg 0 2 [0, 1, 5, 6, 81] [] (st1 := ⟨[(0, .av (bs a0)), (1, .av (bs a1)), (5, .av (iv x44)), (6, .av (iv x45)), (81, .av (bv x49))], [], 0⟩) (by kernel_rfl) ?_
                    refine jr_nil rfl ?_
                    refine jx_seqN ?_
                    refine jc_cond (g := 81) (c := x49) (by kernel_rfl) ?_ ?_
                    · intro _
                      refine jc_seq ?_
                      refine jc_reg ?_
                      refine jr_seg 0 1 [4] [] (st1 := ⟨[(4, .av (iv 1))], [], 0⟩) (by kernel_rfl) ?_
                      refine jr_nil rfl ?_
                      refine jx_seqN ?_
                      refine jc_ret ?_
                      refine jx_blkR ?_
                      refine jx_seqR ?_
                      refine jx_blkR ?_
                      exact jx_done rfl nofun (wk_ren [] (fix_nil _) rfl (by kernel_rfl) allp_nil)
                    · intro _
                      refine jc_skip ?_
                      refine jx_blkN ?_
                      refine jx_seqN ?_
                      refine jc_seq ?_
                      refine jc_seq ?_
                      refine jc_reg ?_
                      refine jr_seg 0 10 [0, 1, 5, 6, 92] [] (st1 := ⟨[(0, .av (bs a0)), (1, .av (bs a1)), (5, .av (iv x44)), (6, .av (iv x45)), (92, .av (bv ((x44 == (List.length a0 : Int)) || (x45 == (List.length a1 : Int)))))], [], 0⟩) (by kernel_rfl) ?_
                      refine jr_nil rfl ?_
                      refine jx_seqN ?_
                      refine jc_cond (g := 92) (c := ((x44 == (List.length a0 : Int)) || (x45 == (List.length a1 : Int)))) (by kernel_rfl) ?_ ?_
                      · intro _
                        refine jc_exit ?_
                        refine jx_seqE ?_
                        refine jx_blkX rfl ?_
                        exact jx_done rfl nofun (wk_ren [] (fix_nil _) rfl (by kernel_rfl) allp_nil)
                      · intro _
                        refine jc_skip ?_
                        refine jx_seqN ?_
                        refine jc_seq ?_
                        refine jc_reg ?_
                        refine jr_seg 0 1 [0, 1, 5, 6, 9] [] (st1 := ⟨[(0, .av (bs a0)), (1, .av (bs a1)), (5, .av (iv x44)), (6, .av (iv x45)), (9, .av (iv 4))], [], 0⟩) (by kernel_rfl) ?_
                        refine jr_nil rfl ?_
                        refine jx_seqN ?_
                        refine jc_seq ?_
                        refine jc_bind (fun x52 => ⟨[(0, .av (bs a0)), (1, .av (bs a1)), (5, .av (iv x44)), (6, .av (iv x45)), (9, .av (iv x52))], [], 0⟩) (fun x52 => .normal) ?_ ?_
                        · refine jc_seq ?_
                          refine jc_reg ?_
                          refine jr_seg 0 2 [0, 1, 5, 6, 9, 93, 94] [] (st1 := ⟨[(0, .av (bs a0)), (1, .av (bs a1)), (5, .av (iv x44)), (6, .av (iv x45)), (9, .av (iv 4)), (93, .av (bs a0)), (94, .av (iv x44))], [], 0⟩) (by kernel_rfl) ?_
                          refine jr_part (i := 2) (mo := idx a0 x44) rfl rfl rfl rfl (fun _ hc => aop_index (kk := .i64) (by kernel_rfl) (by kernel_rfl) (by kernel_rfl) hc) (fun _ => rfl) ?_
                          intro x53 h53
                          refine jr_callF (i := 3) rfl rfl rfl rfl (vs := [.s (.int .u8 x53), iv 1]) (by kernel_rfl) (snapL_cons rfl (snapL_cons rfl (snapL_nil _))) (all2_cons (fle_refl _) (all2_cons (fle_refl _) all2_nil)) (ref01_Is_ok x53 1) (fun _ => rfl) (fun _ => rfl) ?_
                          intro x54 h54
                          refine jr_nil rfl ?_
                          refine jx_seqN ?_
                          refine jc_cond (g := 96) (c := x54) (by kernel_rfl) ?_ ?_
                          · intro _
                            refine jc_reg ?_
                            refine jr_seg 0 1 [0, 1, 5, 6, 9] [] (st1 := ⟨[(0, .av (bs a0)), (1, .av (bs a1)), (5, .av (iv x44)), (6, .av (iv x45)), (9, .av (iv 1))], [], 0⟩) (by kernel_rfl) ?_
                            refine jr_nil rfl ?_
                            exact jx_mid rfl (wk_ren [] (fix_nil _) rfl (by kernel_rfl) allp_nil)
                          · intro _
                            refine jc_skip ?_
                            exact jx_mid rfl (wk_ren [] (fix_nil _) rfl (by kernel_rfl) allp_nil)
                        · intro x52
                          refine jx_seqN ?_
                          refine jc_seq ?_
                          refine jc_reg ?_
                          refine jr_seg 0 3 [0, 1, 5, 6, 9, 97, 98, 99] [] (st1 := ⟨[(0, .av (bs a0)), (1, .av (bs a1)), (5, .av (iv x44)), (6, .av (iv x45)), (9, .av (iv x52)), (97, .av (bs a0)), (98, .av (iv x44)), (99, .av (iv x52))], [], 0⟩) (by kernel_rfl) ?_
                          refine jr_callF (i := 3) rfl rfl rfl rfl (vs := [bs a0, iv x44, iv x52]) (by kernel_rfl) (snapL_cons rfl (snapL_cons rfl (snapL_cons rfl (snapL_nil _)))) (all2_cons (fle_refl _) (all2_cons (fle_refl _) (all2_cons (fle_refl _) all2_nil))) (ref01_Run_ok a0 x44 x52) (fun _ => rfl) (fun _ => rfl) ?_
                          intro x55 h55
                          refine jr_seg 4 1 [0, 1, 5, 6, 9, 10] [] (st1 := ⟨[(0, .av (bs a0)), (1, .av (bs a1)), (5, .av (iv x44)), (6, .av (iv x45)), (9, .av (iv x52)), (10, .av (iv x55))], [], 0⟩) (by kernel_rfl) ?_
                          refine jr_nil rfl ?_
                          refine jx_seqN ?_
                          refine jc_seq ?_
                          refine jc_reg ?_
                          refine jr_seg 0 3 [0, 1, 5, 6, 9, 10, 101, 102, 103] [] (st1 := ⟨[(0, .av (bs a0)), (1, .av (bs a1)), (5, .av (iv x44)), (6, .av (iv x45)), (9, .av (iv x52)), (10, .av (iv x55)), (101, .av (bs a1)), (102, .av (iv x45)), (103, .av (iv x52))], [], 0⟩) (by kernel_rfl) ?_
                          refine jr_callF (i := 3) rfl rfl rfl rfl (vs := [bs a1, iv x45, iv x52]) (by kernel_rfl) (snapL_cons rfl (snapL_cons rfl (snapL_cons rfl (snapL_nil _)))) (all2_cons (fle_refl _) (all2_cons (fle_refl _) (all2_cons (fle_refl _) all2_nil))) (ref01_Run_ok a1 x45 x52) (fun _ => rfl) (fun _ => rfl) ?_
                          intro x56 h56
                          refine jr_seg 4 1 [0, 1, 5, 6, 9, 10, 11] [] (st1 := ⟨[(0, .av (bs a0)), (1, .av (bs a1)), (5, .av (iv x44)), (6, .av (iv x45)), (9, .av (iv x52)), (10, .av (iv x55)), (11, .av (iv x56))], [], 0⟩) (by kernel_rfl) ?_
                          refine jr_nil rfl ?_
                          refine jx_seqN ?_
                          refine jc_seq ?_
                          refine jc_seq ?_
                          refine jc_reg ?_
                          refine jr_seg 0 3 [0, 1, 5, 6, 9, 10, 11, 107] [] (st1 := ⟨[(0, .av (bs a0)), (1, .av (bs a1)), (5, .av (iv x44)), (6, .av (iv x45)), (9, .av (iv x52)), (10, .av (iv x55)), (11, .av (iv x56)), (107, .av (bv (x56 == x45)))], [], 0⟩) (by kernel_rfl) ?_
                          refine jr_nil rfl ?_
                          refine jx_seqN ?_
                          refine jc_cond (g := 107) (c := (x56 == x45)) (by kernel_rfl) ?_ ?_
                          · intro _
                            refine jc_seq ?_
                            refine jc_seq ?_
                            refine jc_reg ?_
                            refine jr_seg 0 2 [109] [] (st1 := ⟨[(109, .av (bv (x52 == 1)))], [], 0⟩) (by kernel_rfl) ?_
                            refine jr_nil rfl ?_
                            refine jx_seqN ?_
                            refine jc_cond (g := 109) (c := (x52 == 1)) (by kernel_rfl) ?_ ?_
                            · intro _
                              refine jc_seq ?_
                              refine jc_reg ?_
                              refine jr_seg 0 1 [4] [] (st1 := ⟨[(4, .av (iv 1))], [], 0⟩) (by kernel_rfl) ?_
                              refine jr_nil rfl ?_
                              refine jx_seqN ?_
                              refine jc_ret ?_
                              refine jx_seqR ?_
                              refine jx_seqR ?_
                              refine jx_blkR ?_
                              exact jx_done rfl nofun (wk_ren [] (fix_nil _) rfl (by kernel_rfl) allp_nil)
                            · intro _
                              refine jc_skip ?_
                              refine jx_seqN ?_
                              refine jc_seq ?_
                              refine jc_reg ?_
                              refine jr_seg 0 1 [4] [] (st1 := ⟨[(4, .av (iv (-1)))], [], 0⟩) (by kernel_rfl) ?_
                              refine jr_nil rfl ?_
                              refine jx_seqN ?_
                              refine jc_ret ?_
                              refine jx_seqR ?_
                              refine jx_blkR ?_
                              exact jx_done rfl nofun (wk_ren [] (fix_nil _) rfl (by kernel_rfl) allp_nil)
                          · intro _
                            refine jc_skip ?_
                            refine jx_seqN ?_
                            refine jc_seq ?_
                            refine jc_reg ?_
                            refine jr_seg 0 3 [0, 1, 5, 6, 9, 10, 11, 110, 111, 112] [] (st1 := ⟨[(0, .av (bs a0)), (1, .av (bs a1)), (5, .av (iv x44)), (6, .av (iv x45)), (9, .av (iv x52)), (10, .av (iv x55)), (11, .av (iv x56)), (110, .av (bs a0)), (111, .av (iv x44)), (112, .av (iv x55))], [], 0⟩) (by kernel_rfl) ?_
                            refine jr_part (i := 3) (mo := subl a0 x44 x55) rfl rfl rfl rfl (fun _ hc => aop_subs (by kernel_rfl) (by kernel_rfl) (by kernel_rfl) (by kernel_rfl) hc) (fun _ => rfl) ?_
                            intro x57 h57
                            refine jr_seg 4 3 [0, 1, 5, 6, 9, 10, 11, 113, 114, 115, 116] [] (st1 := ⟨[(0, .av (bs a0)), (1, .av (bs a1)), (5, .av (iv x44)), (6, .av (iv x45)), (9, .av (iv x52)), (10, .av (iv x55)), (11, .av (iv x56)), (113, .av (bs x57)), (114, .av (bs a1)), (115, .av (iv x45)), (116, .av (iv x56))], [], 0⟩) (by kernel_rfl) ?_
                            refine jr_part (i := 7) (mo := subl a1 x45 x56) rfl rfl rfl rfl (fun _ hc => aop_subs (by kernel_rfl) (by kernel_rfl) (by kernel_rfl) (by kernel_rfl) hc) (fun _ => rfl) ?_
                            intro x58 h58
                            refine jr_callF (i := 8) rfl rfl rfl rfl (vs := [bs x57, bs x58]) (by kernel_rfl) (snapL_cons rfl (snapL_cons rfl (snapL_nil _))) (all2_cons (fle_refl _) (all2_cons (fle_refl _) all2_nil)) (ref01_Texts_ok x57 x58) (fun _ => rfl) (fun _ => rfl) ?_
                            intro x59 h59
                            refine jr_seg 9 1 [0, 1, 5, 6, 9, 10, 11, 12] [] (st1 := ⟨[(0, .av (bs a0)), (1, .av (bs a1)), (5, .av (iv x44)), (6, .av (iv x45)), (9, .av (iv x52)), (10, .av (iv x55)), (11, .av (iv x56)), (12, .av (iv x59))], [], 0⟩) (by kernel_rfl) ?_
                            refine jr_nil rfl ?_
                            refine jx_seqN ?_
                            refine jc_seq ?_
                            refine jc_bind (fun x63 => ⟨[(0, .av (bs a0)), (1, .av (bs a1)), (10, .av (iv x55)), (11, .av (iv x56)), (12, .av (iv x63))], [], 0⟩) (fun x63 => .normal) ?_ ?_
                            · refine jc_seq ?_
                              refine jc_reg ?_
                              refine jr_seg 0 2 [0, 1, 5, 6, 10, 11, 12, 120] [] (st1 := ⟨[(0, .av (bs a0)), (1, .av (bs a1)), (5, .av (iv x44)), (6, .av (iv x45)), (10, .av (iv x55)), (11, .av (iv x56)), (12, .av (iv x59)), (120, .av (bv (x52 == 1)))], [], 0⟩) (by kernel_rfl) ?_
                              refine jr_nil rfl ?_
                              refine jx_seqN ?_
                              refine jc_cond (g := 120) (c := (x52 == 1)) (by kernel_rfl) ?_ ?_
                              · intro _
                                refine jc_reg ?_
                                refine jr_seg 0 3 [0, 1, 6, 10, 11, 121, 122, 123] [] (st1 := ⟨[(0, .av (bs a0)), (1, .av (bs a1)), (6, .av (iv x45)), (10, .av (iv x55)), (11, .av (iv x56)), (121, .av (bs a0)), (122, .av (iv x44)), (123, .av (iv x55))], [], 0⟩) (by kernel_rfl) ?_
                                refine jr_part (i := 3) (mo := subl a0 x44 x55) rfl rfl rfl rfl (fun _ hc => aop_subs (by kernel_rfl) (by kernel_rfl) (by kernel_rfl) (by kernel_rfl) hc) (fun _ => rfl) ?_
                                intro x64 h64
                                refine jr_seg 4 3 [0, 1, 10, 11, 124, 125, 126, 127] [] (st1 := ⟨[(0, .av (bs a0)), (1, .av (bs a1)), (10, .av (iv x55)), (11, .av (iv x56)), (124, .av (bs x64)), (125, .av (bs a1)), (126, .av (iv x45)), (127, .av (iv x56))], [], 0⟩) (by kernel_rfl) ?_
                                refine jr_part (i := 7) (mo := subl a1 x45 x56) rfl rfl rfl rfl (fun _ hc => aop_subs (by kernel_rfl) (by kernel_rfl) (by kernel_rfl) (by kernel_rfl) hc) (fun _ => rfl) ?_
                                intro x65 h65
                                refine jr_callF (i := 8) rfl rfl rfl rfl (vs := [bs x64, bs x65]) (by kernel_rfl) (snapL_cons rfl (snapL_cons rfl (snapL_nil _))) (all2_cons (fle_refl _) (all2_cons (fle_refl _) all2_nil)) (ref01_Cmp_ok x64 x65) (fun _ => rfl) (fun _ => rfl) ?_
                                intro x66 h66
                                refine jr_seg 9 1 [0, 1, 10, 11, 12] [] (st1 := ⟨[(0, .av (bs a0)), (1, .av (bs a1)), (10, .av (iv x55)), (11, .av (iv x56)), (12, .av (iv x66))], [], 0⟩) (by kernel_rfl) ?_
                                refine jr_nil rfl ?_
                                exact jx_mid rfl (wk_ren [] (fix_nil _) rfl (by kernel_rfl) allp_nil)
                              · intro _
                                refine jc_skip ?_
                                exact jx_mid rfl (wk_ren [] (fix_nil _) rfl (by kernel_rfl) allp_nil)
                            · intro x63
                              refine jx_seqN ?_
                              refine jc_seq ?_
                              refine jc_seq ?_
                              refine jc_reg ?_
                              refine jr_seg 0 2 [0, 1, 10, 11, 12, 131] [] (st1 := ⟨[(0, .av (bs a0)), (1, .av (bs a1)), (10, .av (iv x55)), (11, .av (iv x56)), (12, .av (iv x63)), (131, .av (bv (x63 != 0)))], [], 0⟩) (by kernel_rfl) ?_
                              refine jr_nil rfl ?_
                              refine jx_seqN ?_
                              refine jc_cond (g := 131) (c := (x63 != 0)) (by kernel_rfl) ?_ ?_
                              · intro _
                                refine jc_seq ?_
                                refine jc_reg ?_
                                refine jr_seg 0 2 [4] [] (st1 := ⟨[(4, .av (iv x63))], [], 0⟩) (by kernel_rfl) ?_
                                refine jr_nil rfl ?_
                                refine jx_seqN ?_
                                refine jc_ret ?_
                                refine jx_seqR ?_
                                refine jx_blkR ?_
                                exact jx_done rfl nofun (wk_ren [] (fix_nil _) rfl (by kernel_rfl) allp_nil)
                              · intro _
                                refine jc_skip ?_
                                refine jx_seqN ?_
                                refine jc_seq ?_
                                refine jc_reg ?_
                                refine jr_seg 0 2 [0, 1, 5, 11] [] (st1 := ⟨[(0, .av (bs a0)), (1, .av (bs a1)), (5, .av (iv x55)), (11, .av (iv x56))], [], 0⟩) (by kernel_rfl) ?_
                                refine jr_nil rfl ?_
                                refine jx_seqN ?_
                                refine jc_reg ?_
                                refine jr_seg 0 2 [0, 1, 5, 6] [] (st1 := ⟨[(0, .av (bs a0)), (1, .av (bs a1)), (5, .av (iv x55)), (6, .av (iv x56))], [], 0⟩) (by kernel_rfl) ?_
                                refine jr_nil rfl ?_
                                refine jx_blkN ?_
                                exact jx_next (wk_ren [] (fix_nil _) rfl (by kernel_rfl) allp_nil)
    · intro _
      refine jc_exit ?_
      refine jx_seqE ?_
      exact jx_done rfl nofun (wk_ren [] (fix_nil _) rfl (by kernel_rfl) allp_nil)
  · rintro (x41 | ⟨x42, x43⟩)
    · refine jx_blkR ?_
      refine jx_seqR ?_
      exact jx_retF (.inr rfl) (v := iv x41) (by kernel_rfl) rfl (fle_refl _)
    · refine jx_blkE ?_
      refine jx_seqN ?_
      refine jc_seq ?_
      refine jc_block ?_
      refine jc_seq ?_
      refine jc_reg ?_
      refine jr_seg 0 5 [1, 6, 135] [] (st1 := ⟨[(1, .av (bs a1)), (6, .av (iv x43)), (135, .av (bv (decide (x42 < (List.length a0 : Int)))))], [], 0⟩) (by kernel_rfl) ?_
      refine jr_nil rfl ?_
      refine jx_seqN ?_
      refine jc_cond (g := 135) (c := (decide (x42 < (List.length a0 : Int)))) (by kernel_rfl) ?_ ?_
      · intro _
        refine jc_seq ?_
        refine jc_reg ?_
        refine jr_seg 0 1 [4] [] (st1 := ⟨[(4, .av (iv 1))], [], 0⟩) (by kernel_rfl) ?_
        refine jr_nil rfl ?_
        refine jx_seqN ?_
        refine jc_ret ?_
        refine jx_blkR ?_
        refine jx_seqR ?_
        exact jx_retF (.inr rfl) (v := iv 1) (by kernel_rfl) rfl (fle_refl _)
      · intro _
        refine jc_seq ?_
        refine jc_reg ?_
        refine jr_seg 0 5 [140] [] (st1 := ⟨[(140, .av (bv (decide (x43 < (List.length a1 : Int)))))], [], 0⟩) (by kernel_rfl) ?_
        refine jr_nil rfl ?_
        refine jx_seqN ?_
        refine jc_cond (g := 140) (c := (decide (x43 < (List.length a1 : Int)))) (by kernel_rfl) ?_ ?_
        · intro _
          refine jc_seq ?_
          refine jc_reg ?_
          refine jr_seg 0 1 [4] [] (st1 := ⟨[(4, .av (iv (-1)))], [], 0⟩) (by kernel_rfl) ?_
          refine jr_nil rfl ?_
          refine jx_seqN ?_
          refine jc_ret ?_
          refine jx_blkR ?_
          refine jx_seqR ?_
          exact jx_retF (.inr rfl) (v := iv (-1)) (by kernel_rfl) rfl (fle_refl _)
        · intro _
          refine jc_skip ?_
          refine jx_blkN ?_
          refine jx_seqN ?_
          refine jc_seq ?_
          refine jc_reg ?_
          refine jr_seg 0 1 [4] [] (st1 := ⟨[(4, .av (iv 0))], [], 0⟩) (by kernel_rfl) ?_
          refine jr_nil rfl ?_
          refine jx_seqN ?_
          refine jc_ret ?_
          exact jx_retF (.inr rfl) (v := iv 0) (by kernel_rfl) rfl (fle_refl _))
end Go.Vm

set_option maxRecDepth 100000
set_option maxHeartbeats 0
set_option linter.unusedVariables false
set_option linter.unusedSimpArgs false
namespace Go.Vm
open Go
abbrev rpm_text_r1 : List LO := [⟨some 1, Op.box 51 (Operand.tmp 0), 0, none⟩,
  ⟨some 2, Op.assign (Operand.const (Value.string { data := #[] })), 9, none⟩]
abbrev rpm_text_b2 : LC := .reg false rpm_text_r1
abbrev rpm_text_r3 : List LO := [⟨some 4, Op.fieldAddr 51 (Operand.tmp 1) 1, 0, none⟩,
  ⟨some 5, Op.load 9 (Operand.tmp 4), 9, none⟩,
  ⟨some 3, Op.assign (Operand.tmp 5), 9, none⟩]
abbrev rpm_text_b4 : LC := .reg false rpm_text_r3
abbrev rpm_text_r5 : List LO := [⟨some 6, Op.fieldAddr 51 (Operand.tmp 1) 0, 0, none⟩,
  ⟨some 7, Op.load 9 (Operand.tmp 6), 9, none⟩,
  ⟨some 8, Op.binOp BinOp.neq 9 (Operand.tmp 7) (Operand.const (Value.string { data := #[48] })) 9, 4, none⟩]
abbrev rpm_text_b6 : LC := .reg false rpm_text_r5
abbrev rpm_text_r7 : List LO := [⟨some 9, Op.fieldAddr 51 (Operand.tmp 1) 0, 0, none⟩,
  ⟨some 10, Op.load 9 (Operand.tmp 9), 9, none⟩,
  ⟨some 11, Op.binOp BinOp.add 9 (Operand.tmp 10) (Operand.const (Value.string { data := #[58] })) 9, 9, none⟩,
  ⟨some 12, Op.move (Operand.tmp 3), 9, none⟩,
  ⟨some 13, Op.binOp BinOp.add 9 (Operand.tmp 11) (Operand.tmp 12) 9, 9, none⟩,
  ⟨some 3, Op.assign (Operand.tmp 13), 9, none⟩]
abbrev rpm_text_b8 : LC := .reg false rpm_text_r7
abbrev rpm_text_b9 : LC := .cond (Operand.tmp 8) rpm_text_b8 .skip
abbrev rpm_text_b10 : LC := .seq rpm_text_b6 rpm_text_b9
abbrev rpm_text_r11 : List LO := [⟨some 14, Op.fieldAddr 51 (Operand.tmp 1) 3, 0, none⟩,
  ⟨some 15, Op.load 4 (Operand.tmp 14), 4, none⟩]
abbrev rpm_text_b12 : LC := .reg false rpm_text_r11
abbrev rpm_text_r13 : List LO := [⟨some 16, Op.move (Operand.tmp 3), 9, none⟩,
  ⟨some 17, Op.fieldAddr 51 (Operand.tmp 1) 2, 0, none⟩,
  ⟨some 18, Op.load 9 (Operand.tmp 17), 9, none⟩,
  ⟨some 19, Op.binOp BinOp.add 9 (Operand.const (Value.string { data := #[45] })) (Operand.tmp 18) 9, 9, none⟩,
  ⟨some 20, Op.binOp BinOp.add 9 (Operand.tmp 16) (Operand.tmp 19) 9, 9, none⟩,
  ⟨some 3, Op.assign (Operand.tmp 20), 9, none⟩]
abbrev rpm_text_b14 : LC := .reg false rpm_text_r13
abbrev rpm_text_b15 : LC := .cond (Operand.tmp 15) rpm_text_b14 .skip
abbrev rpm_text_b16 : LC := .seq rpm_text_b12 rpm_text_b15
abbrev rpm_text_r17 : List LO := [⟨some 21, Op.move (Operand.tmp 3), 9, none⟩,
  ⟨some 2, Op.assign (Operand.tmp 21), 9, none⟩]
abbrev rpm_text_b18 : LC := .reg false rpm_text_r17
abbrev rpm_text_b19 : LC := .seq rpm_text_b18 .ret
abbrev rpm_text_b20 : LC := .seq rpm_text_b16 rpm_text_b19
abbrev rpm_text_b21 : LC := .seq rpm_text_b10 rpm_text_b20
abbrev rpm_text_b22 : LC := .seq rpm_text_b4 rpm_text_b21
abbrev rpm_text_b23 : LC := .seq rpm_text_b2 rpm_text_b22
theorem rpm_text_k : FnOk E 86 22 [.tmp 2] rpm_text_b23 := ⟨⟨Go.Proofs.Tryd.f86, by kernel_rfl, by kernel_rfl, by kernel_rfl, by kernel_rfl, by kernel_rfl⟩, rfl⟩
noncomputable def rpm_text (a0 : S_api_Evr) : Option (Str) := Option.bind ((if (!(a0.Epoch == [48])) = true then Option.bind (cat a0.Epoch [58]) (fun x4 => Option.bind (cat x4 a0.Ver) (fun x5 => some x5)) else some a0.Ver) : Option (Str)) (fun x3 => Option.bind ((if a0.HasRel = true then Option.bind (cat [45] a0.Rel) (fun x9 => Option.bind (cat x3 x9) (fun x10 => some x10)) else some x3) : Option (Str)) (fun x8 => some x8))
theorem rpm_text_ok (a0 : S_api_Evr) : Ct E 86 [.agg [bs a0.Epoch, bs a0.Ver, bs a0.Rel, bv a0.HasRel]] (rpm_text a0) (fun r : Str => bs r) := ct_intro (N := 22) (L := rpm_text_b23) rpm_text_k rfl (Nat.le_of_ble_eq_true rfl) (by kernel_rfl) (by
  unfold rpm_text
  refine jc_seq ?_
  refine jc_reg ?_
  refine jr_seg 0 2 [1] [0] (st1 := ⟨[(1, .av (.ptr 0 0 4 0))], [(0, .rows 4 [[bs a0.Epoch, bs a0.Ver, bs a0.Rel, bv a0.HasRel]])], 1⟩) (by kernel_rfl) ?_
  refine jr_nil rfl ?_
  refine jx_seqN ?_
  refine jc_seq ?_
  refine jc_reg ?_
  refine jr_seg 0 3 [1, 3] [0] (st1 := ⟨[(1, .av (.ptr 0 0 4 0)), (3, .av (bs a0.Ver))], [(0, .rows 4 [[bs a0.Epoch, bs a0.Ver, bs a0.Rel, bv a0.HasRel]])], 1⟩) (by kernel_rfl) ?_
  refine jr_nil rfl ?_
  refine jx_seqN ?_
  refine jc_seq ?_
  refine jc_bind (fun x3 => ⟨[(1, .av (.ptr 0 0 4 0)), (3, .av (bs x3))], [(0, .rows 4 [[bs a0.Epoch, bs a0.Ver, bs a0.Rel, bv a0.HasRel]])], 1⟩) (fun x3 => .normal) ?_ ?_
  · refine jc_seq ?_
    refine jc_reg ?_
    refine jr_seg 0 3 [1, 3, 8] [0] (st1 := ⟨[(1, .av (.ptr 0 0 4 0)), (3, .av (bs a0.Ver)), (8, .av (bv (!(a0.Epoch == [48]))))], [(0, .rows 4 [[bs a0.Epoch, bs a0.Ver, bs a0.Rel, bv a0.HasRel]])], 1⟩) (by kernel_rfl) ?_
    refine jr_nil rfl ?_
    refine jx_seqN ?_
    refine jc_cond (g := 8) (c := (!(a0.Epoch == [48]))) (by kernel_rfl) ?_ ?_
    · intro _
      refine jc_reg ?_
      refine jr_seg 0 2 [1, 3, 10] [0] (st1 := ⟨[(1, .av (.ptr 0 0 4 0)), (3, .av (bs a0.Ver)), (10, .av (bs a0.Epoch))], [(0, .rows 4 [[bs a0.Epoch, bs a0.Ver, bs a0.Rel, bv a0.HasRel]])], 1⟩) (by kernel_rfl) ?_
      refine jr_part (i := 2) (mo := cat a0.Epoch [58]) rfl rfl rfl rfl (fun _ hc => aop_cat (by kernel_rfl) (by kernel_rfl) hc) (fun _ => rfl) ?_
      intro x4 h4
      refine jr_seg 3 1 [1, 11, 12] [0] (st1 := ⟨[(1, .av (.ptr 0 0 4 0)), (11, .av (bs x4)), (12, .av (bs a0.Ver))], [(0, .rows 4 [[bs a0.Epoch, bs a0.Ver, bs a0.Rel, bv a0.HasRel]])], 1⟩) (by kernel_rfl) ?_
      refine jr_part (i := 4) (mo := cat x4 a0.Ver) rfl rfl rfl rfl (fun _ hc => aop_cat (by kernel_rfl) (by kernel_rfl) hc) (fun _ => rfl) ?_
      intro x5 h5
      refine jr_seg 5 1 [1, 3] [0] (st1 := ⟨[(1, .av (.ptr 0 0 4 0)), (3, .av (bs x5))], [(0, .rows 4 [[bs a0.Epoch, bs a0.Ver, bs a0.Rel, bv a0.HasRel]])], 1⟩) (by kernel_rfl) ?_
      refine jr_nil rfl ?_
      exact jx_mid rfl (wk_ren [(0, some 0)] (fix_nil _) rfl (by kernel_rfl) (allp_cons (.inl ⟨0, _, _, _, rfl, rfl, rfl, .inl (by kernel_rfl)⟩) allp_nil))
    · intro _
      refine jc_skip ?_
      exact jx_mid rfl (wk_ren [(0, some 0)] (fix_nil _) rfl (by kernel_rfl) (allp_cons (.inl ⟨0, _, _, _, rfl, rfl, rfl, .inl (by kernel_rfl)⟩) allp_nil))
  · intro x3
    refine jx_seqN ?_
    refine jc_seq ?_
    refine jc_bind (fun x8 => ⟨[(3, .av (bs x8))], [], 0⟩) (fun x8 => .normal) ?_ ?_
    · refine jc_seq ?_
      refine jc_reg ?_
      refine jr_seg 0 2 [1, 3, 15] [0] (st1 := ⟨[(1, .av (.ptr 0 0 4 0)), (3, .av (bs x3)), (15, .av (bv a0.HasRel))], [(0, .rows 4 [[bs a0.Epoch, bs a0.Ver, bs a0.Rel, bv a0.HasRel]])], 1⟩) (by kernel_rfl) ?_
      refine jr_nil rfl ?_
      refine jx_seqN ?_
      refine jc_cond (g := 15) (c := a0.HasRel) (by kernel_rfl) ?_ ?_
      · intro _
        refine jc_reg ?_
        refine jr_seg 0 3 [16, 18] [] (st1 := ⟨[(16, .av (bs x3)), (18, .av (bs a0.Rel))], [], 1⟩) (by kernel_rfl) ?_
        refine jr_part (i := 3) (mo := cat [45] a0.Rel) rfl rfl rfl rfl (fun _ hc => aop_cat (by kernel_rfl) (by kernel_rfl) hc) (fun _ => rfl) ?_
        intro x9 h9
        refine jr_part (i := 4) (mo := cat x3 x9) rfl rfl rfl rfl (fun _ hc => aop_cat (by kernel_rfl) (by kernel_rfl) hc) (fun _ => rfl) ?_
        intro x10 h10
        refine jr_seg 5 1 [3] [] (st1 := ⟨[(3, .av (bs x10))], [], 1⟩) (by kernel_rfl) ?_
        refine jr_nil rfl ?_
        exact jx_mid rfl (wk_ren [] (fix_nil _) rfl (by kernel_rfl) allp_nil)
      · intro _
        refine jc_skip ?_
        exact jx_mid rfl (wk_ren [] (fix_nil _) rfl (by kernel_rfl) allp_nil)
    · intro x8
      refine jx_seqN ?_
      refine jc_seq ?_
      refine jc_reg ?_
      refine jr_seg 0 2 [2] [] (st1 := ⟨[(2, .av (bs x8))], [], 0⟩) (by kernel_rfl) ?_
      refine jr_nil rfl ?_
      refine jx_seqN ?_
      refine jc_ret ?_
      exact jx_retF (.inr rfl) (v := bs x8) (by kernel_rfl) rfl (fle_refl _))
end Go.Vm

set_option maxRecDepth 100000
set_option maxHeartbeats 0
set_option linter.unusedVariables false
set_option linter.unusedSimpArgs false
namespace Go.Vm
open Go
abbrev rpm_Fit_r1 : List LO := [⟨some 1, Op.box 51 (Operand.tmp 0), 0, none⟩,
  ⟨some 2, Op.assign (Operand.const (Value.bool false)), 4, none⟩]
abbrev rpm_Fit_b2 : LC := .reg false rpm_Fit_r1
abbrev rpm_Fit_r3 : List LO := [⟨some 6, Op.load 51 (Operand.tmp 1), 51, none⟩,
  ⟨some 7, Op.call { callee := Callee.value (Operand.func 86), args := #[Operand.tmp 6], argTypes := #[51] }, 9, none⟩,
  ⟨some 8, Op.call { callee := Callee.value (Operand.func 37), args := #[Operand.tmp 7], argTypes := #[9] }, 52, none⟩,
  ⟨some 5, Op.move (Operand.tmp 8), 52, none⟩,
  ⟨some 9, Op.extract (Operand.tmp 5) 0, 51, none⟩,
  ⟨some 10, Op.extract (Operand.tmp 5) 1, 44, none⟩,
  ⟨some 3, Op.alloc 51, 0, none⟩,
  ⟨some 4, Op.alloc 44, 0, none⟩,
  ⟨none, Op.store 51 (Operand.tmp 3) (Operand.tmp 9), 0, none⟩,
  ⟨none, Op.store 44 (Operand.tmp 4) (Operand.tmp 10), 0, none⟩]
abbrev rpm_Fit_b4 : LC := .reg false rpm_Fit_r3
abbrev rpm_Fit_r5 : List LO := [⟨some 11, Op.fieldAddr 44 (Operand.tmp 4) 0, 0, none⟩,
  ⟨some 12, Op.load 42 (Operand.tmp 11), 42, none⟩,
  ⟨some 13, Op.binOp BinOp.eql 42 (Operand.tmp 12) (Operand.const (Value.int IntKind.i64 0)) 42, 4, none⟩,
  ⟨some 14, Op.move (Operand.tmp 13), 4, none⟩,
  ⟨some 15, Op.load 51 (Operand.tmp 3), 51, (some (14, true))⟩,
  ⟨some 16, Op.load 51 (Operand.tmp 1), 51, (some (14, true))⟩,
  ⟨some 17, Op.binOp BinOp.eql 51 (Operand.tmp 15) (Operand.tmp 16) 51, 4, (some (14, true))⟩,
  ⟨some 18, Op.pick (Operand.tmp 14) (Operand.tmp 17) (Operand.const (Value.bool false)), 4, none⟩,
  ⟨some 2, Op.assign (Operand.tmp 18), 4, none⟩]
abbrev rpm_Fit_b6 : LC := .reg false rpm_Fit_r5
abbrev rpm_Fit_b7 : LC := .seq rpm_Fit_b6 .ret
abbrev rpm_Fit_b8 : LC := .seq rpm_Fit_b4 rpm_Fit_b7
abbrev rpm_Fit_b9 : LC := .seq rpm_Fit_b2 rpm_Fit_b8
theorem rpm_Fit_k : FnOk E 45 19 [.tmp 2] rpm_Fit_b9 := ⟨⟨Go.Proofs.Tryd.f45, by kernel_rfl, by kernel_rfl, by kernel_rfl, by kernel_rfl, by kernel_rfl⟩, rfl⟩
noncomputable def rpm_Fit (a0 : S_api_Evr) : Option (Bool) := Option.bind (rpm_text a0) (fun x1 => Option.bind (rpm_Parse x1) (fun x2 => some ((x2.2.Err == 0) && ((x2.1.Epoch == a0.Epoch) && ((x2.1.Ver == a0.Ver) && ((x2.1.Rel == a0.Rel) && (x2.1.HasRel == a0.HasRel)))))))
theorem rpm_Fit_ok (a0 : S_api_Evr) : Ct E 45 [.agg [bs a0.Epoch, bs a0.Ver, bs a0.Rel, bv a0.HasRel]] (rpm_Fit a0) (fun r : Bool => bv r) := ct_intro (N := 19) (L := rpm_Fit_b9) rpm_Fit_k rfl (Nat.le_of_ble_eq_true rfl) (by kernel_rfl) (by
  unfold rpm_Fit
  refine jc_seq ?_
  refine jc_reg ?_
  refine jr_seg 0 2 [1] [0] (st1 := ⟨[(1, .av (.ptr 0 0 4 0))], [(0, .rows 4 [[bs a0.Epoch, bs a0.Ver, bs a0.Rel, bv a0.HasRel]])], 1⟩) (by kernel_rfl) ?_
  refine jr_nil rfl ?_
  refine jx_seqN ?_
  refine jc_seq ?_
  refine jc_reg ?_
  refine jr_seg 0 1 [1, 6] [0] (st1 := ⟨[(1, .av (.ptr 0 0 4 0)), (6, .av (.agg [bs a0.Epoch, bs a0.Ver, bs a0.Rel, bv a0.HasRel]))], [(0, .rows 4 [[bs a0.Epoch, bs a0.Ver, bs a0.Rel, bv a0.HasRel]])], 1⟩) (by kernel_rfl) ?_
  refine jr_callF (i := 1) rfl rfl rfl rfl (vs := [.agg [bs a0.Epoch, bs a0.Ver, bs a0.Rel, bv a0.HasRel]]) (by kernel_rfl) (snapL_cons rfl (snapL_nil _)) (all2_cons (fle_refl _) all2_nil) (rpm_text_ok a0) (fun _ => rfl) (fun _ => rfl) ?_
  intro x1 h1
  refine jr_callF (i := 2) rfl rfl rfl rfl (vs := [bs x1]) (by kernel_rfl) (snapL_cons rfl (snapL_nil _)) (all2_cons (fle_refl _) all2_nil) (rpm_Parse_ok x1) (fun _ => rfl) (fun _ => rfl) ?_
  intro x2 h2
  refine jr_seg 3 7 [1, 3, 4] [0, 1, 2] (st1 := ⟨[(1, .av (.ptr 0 0 4 0)), (3, .av (.ptr 1 0 4 0)), (4, .av (.ptr 2 0 2 0))], [(0, .rows 4 [[bs a0.Epoch, bs a0.Ver, bs a0.Rel, bv a0.HasRel]]), (1, .rows 4 [[bs x2.1.Epoch, bs x2.1.Ver, bs x2.1.Rel, bv x2.1.HasRel]]), (2, .rows 2 [[iv x2.2.Err, iv x2.2.At]])], 3⟩) (by kernel_rfl) ?_
  refine jr_nil rfl ?_
  refine jx_seqN ?_
  refine jc_seq ?_
  refine jc_reg ?_
  refine jr_seg 0 9 [2] [] (st1 := ⟨[(2, .av (bv ((x2.2.Err == 0) && ((x2.1.Epoch == a0.Epoch) && ((x2.1.Ver == a0.Ver) && ((x2.1.Rel == a0.Rel) && (x2.1.HasRel == a0.HasRel)))))))], [], 3⟩) (by kernel_rfl) ?_
  refine jr_nil rfl ?_
  refine jx_seqN ?_
  refine jc_ret ?_
  exact jx_retF (.inr rfl) (v := bv ((x2.2.Err == 0) && ((x2.1.Epoch == a0.Epoch) && ((x2.1.Ver == a0.Ver) && ((x2.1.Rel == a0.Rel) && (x2.1.HasRel == a0.HasRel)))))) (by kernel_rfl) rfl (fle_refl _))
end Go.Vm

set_option maxRecDepth 100000
set_option maxHeartbeats 0
set_option linter.unusedVariables false
set_option linter.unusedSimpArgs false
namespace Go.Vm
open Go
abbrev rpm_truth_r1 : List LO := [⟨some 2, Op.assign (Operand.const (Value.int IntKind.i64 0)), 3, none⟩]
abbrev rpm_truth_b2 : LC := .reg false rpm_truth_r1
abbrev rpm_truth_r3 : List LO := [⟨some 3, Op.move (Operand.tmp 0), 4, none⟩]
abbrev rpm_truth_b4 : LC := .reg false rpm_truth_r3
abbrev rpm_truth_r5 : List LO := [⟨some 2, Op.assign (Operand.const (Value.int IntKind.i64 1)), 3, none⟩]
abbrev rpm_truth_b6 : LC := .reg false rpm_truth_r5
abbrev rpm_truth_b7 : LC := .seq rpm_truth_b6 .ret
abbrev rpm_truth_b8 : LC := .cond (Operand.tmp 3) rpm_truth_b7 .skip
abbrev rpm_truth_b9 : LC := .seq rpm_truth_b4 rpm_truth_b8
abbrev rpm_truth_r10 : List LO := [⟨some 2, Op.assign (Operand.const (Value.int IntKind.i64 0)), 3, none⟩]
abbrev rpm_truth_b11 : LC := .reg false rpm_truth_r10
abbrev rpm_truth_b12 : LC := .seq rpm_truth_b11 .ret
abbrev rpm_truth_b13 : LC := .seq rpm_truth_b9 rpm_truth_b12
abbrev rpm_truth_b14 : LC := .seq rpm_truth_b2 rpm_truth_b13
theorem rpm_truth_k : FnOk E 83 4 [.tmp 2] rpm_truth_b14 := ⟨⟨Go.Proofs.Tryd.f83, by kernel_rfl, by kernel_rfl, by kernel_rfl, by kernel_rfl, by kernel_rfl⟩, rfl⟩
noncomputable def rpm_truth (a0 : Bool) : Option (Int) := (if a0 = true then some 1 else some 0)
theorem rpm_truth_ok (a0 : Bool) : Ct E 83 [bv a0] (rpm_truth a0) (fun r : Int => iv r) := ct_intro (N := 4) (L := rpm_truth_b14) rpm_truth_k rfl (Nat.le_of_ble_eq_true rfl) (by kernel_rfl) (by
  unfold rpm_truth
  refine jc_seq ?_
  refine jc_reg ?_
  refine jr_seg 0 1 [0] [] (st1 := ⟨[(0, .av (bv a0))], [], 0⟩) (by kernel_rfl) ?_
  refine jr_nil rfl ?_
  refine jx_seqN ?_
  refine jc_seq ?_
  refine jc_seq ?_
  refine jc_reg ?_
  refine jr_seg 0 1 [3] [] (st1 := ⟨[(3, .av (bv a0))], [], 0⟩) (by kernel_rfl) ?_
  refine jr_nil rfl ?_
  refine jx_seqN ?_
  refine jc_cond (g := 3) (c := a0) (by kernel_rfl) ?_ ?_
  · intro _
    refine jc_seq ?_
    refine jc_reg ?_
    refine jr_seg 0 1 [2] [] (st1 := ⟨[(2, .av (iv 1))], [], 0⟩) (by kernel_rfl) ?_
    refine jr_nil rfl ?_
    refine jx_seqN ?_
    refine jc_ret ?_
    refine jx_seqR ?_
    exact jx_retF (.inr rfl) (v := iv 1) (by kernel_rfl) rfl (fle_refl _)
  · intro _
    refine jc_skip ?_
    refine jx_seqN ?_
    refine jc_seq ?_
    refine jc_reg ?_
    refine jr_seg 0 1 [2] [] (st1 := ⟨[(2, .av (iv 0))], [], 0⟩) (by kernel_rfl) ?_
    refine jr_nil rfl ?_
    refine jx_seqN ?_
    refine jc_ret ?_
    exact jx_retF (.inr rfl) (v := iv 0) (by kernel_rfl) rfl (fle_refl _))
end Go.Vm

set_option maxRecDepth 100000
set_option maxHeartbeats 0
set_option linter.unusedVariables false
set_option linter.unusedSimpArgs false
namespace Go.Vm
open Go
abbrev rpm_Order_r1 : List LO := [⟨some 2, Op.box 51 (Operand.tmp 0), 0, none⟩,
  ⟨some 3, Op.box 51 (Operand.tmp 1), 0, none⟩,
  ⟨some 4, Op.assign (Operand.const (Value.int IntKind.i64 0)), 3, none⟩]
abbrev rpm_Order_b2 : LC := .reg false rpm_Order_r1
abbrev rpm_Order_r3 : List LO := [⟨some 5, Op.load 51 (Operand.tmp 2), 51, none⟩,
  ⟨some 6, Op.call { callee := Callee.value (Operand.func 45), args := #[Operand.tmp 5], argTypes := #[51] }, 4, none⟩,
  ⟨some 7, Op.unOp UnOp.not 4 (Operand.tmp 6), 4, none⟩,
  ⟨some 8, Op.move (Operand.tmp 7), 4, none⟩,
  ⟨some 9, Op.load 51 (Operand.tmp 3), 51, (some (8, false))⟩,
  ⟨some 10, Op.call { callee := Callee.value (Operand.func 45), args := #[Operand.tmp 9], argTypes := #[51] }, 4, (some (8, false))⟩,
  ⟨some 11, Op.unOp UnOp.not 4 (Operand.tmp 10), 4, (some (8, false))⟩,
  ⟨some 12, Op.pick (Operand.tmp 8) (Operand.const (Value.bool true)) (Operand.tmp 11), 4, none⟩]
abbrev rpm_Order_b4 : LC := .reg false rpm_Order_r3
abbrev rpm_Order_r5 : List LO := [⟨some 4, Op.assign (Operand.const (Value.int IntKind.i64 0)), 3, none⟩]
abbrev rpm_Order_b6 : LC := .reg false rpm_Order_r5
abbrev rpm_Order_b7 : LC := .seq rpm_Order_b6 .ret
abbrev rpm_Order_b8 : LC := .cond (Operand.tmp 12) rpm_Order_b7 .skip
abbrev rpm_Order_b9 : LC := .seq rpm_Order_b4 rpm_Order_b8
abbrev rpm_Order_r10 : List LO := [⟨some 13, Op.fieldAddr 51 (Operand.tmp 2) 0, 0, none⟩,
  ⟨some 14, Op.load 9 (Operand.tmp 13), 9, none⟩,
  ⟨some 15, Op.fieldAddr 51 (Operand.tmp 3) 0, 0, none⟩,
  ⟨some 16, Op.load 9 (Operand.tmp 15), 9, none⟩,
  ⟨some 17, Op.call { callee := Callee.value (Operand.func 17), args := #[Operand.tmp 14, Operand.tmp 16], argTypes := #[9, 9] }, 3, none⟩,
  ⟨some 18, Op.fieldAddr 51 (Operand.tmp 2) 1, 0, none⟩,
  ⟨some 19, Op.load 9 (Operand.tmp 18), 9, none⟩,
  ⟨some 20, Op.fieldAddr 51 (Operand.tmp 3) 1, 0, none⟩,
  ⟨some 21, Op.load 9 (Operand.tmp 20), 9, none⟩,
  ⟨some 22, Op.call { callee := Callee.value (Operand.func 39), args := #[Operand.tmp 19, Operand.tmp 21], argTypes := #[9, 9] }, 3, none⟩,
  ⟨some 23, Op.fieldAddr 51 (Operand.tmp 2) 3, 0, none⟩,
  ⟨some 24, Op.load 4 (Operand.tmp 23), 4, none⟩,
  ⟨some 25, Op.call { callee := Callee.value (Operand.func 83), args := #[Operand.tmp 24], argTypes := #[4] }, 3, none⟩,
  ⟨some 26, Op.fieldAddr 51 (Operand.tmp 3) 3, 0, none⟩,
  ⟨some 27, Op.load 4 (Operand.tmp 26), 4, none⟩,
  ⟨some 28, Op.call { callee := Callee.value (Operand.func 83), args := #[Operand.tmp 27], argTypes := #[4] }, 3, none⟩,
  ⟨some 29, Op.binOp BinOp.sub 3 (Operand.tmp 25) (Operand.tmp 28) 3, 3, none⟩,
  ⟨some 30, Op.fieldAddr 51 (Operand.tmp 2) 2, 0, none⟩,
  ⟨some 31, Op.load 9 (Operand.tmp 30), 9, none⟩,
  ⟨some 32, Op.fieldAddr 51 (Operand.tmp 3) 2, 0, none⟩,
  ⟨some 33, Op.load 9 (Operand.tmp 32), 9, none⟩,
  ⟨some 34, Op.call { callee := Callee.value (Operand.func 39), args := #[Operand.tmp 31, Operand.tmp 33], argTypes := #[9, 9] }, 3, none⟩,
  ⟨some 35, Op.buildSlice 129 4 #[(0, Operand.tmp 17), (1, Operand.tmp 22), (2, Operand.tmp 29), (3, Operand.tmp 34)], 129, none⟩,
  ⟨some 36, Op.call { callee := Callee.value (Operand.func 64), args := #[Operand.tmp 35], argTypes := #[129] }, 3, none⟩,
  ⟨some 4, Op.assign (Operand.tmp 36), 3, none⟩]
abbrev rpm_Order_b11 : LC := .reg true rpm_Order_r10
abbrev rpm_Order_b12 : LC := .seq rpm_Order_b11 .ret
abbrev rpm_Order_b13 : LC := .seq rpm_Order_b9 rpm_Order_b12
abbrev rpm_Order_b14 : LC := .seq rpm_Order_b2 rpm_Order_b13
theorem rpm_Order_k : FnOk E 48 37 [.tmp 4] rpm_Order_b14 := ⟨⟨Go.Proofs.Tryd.f48, by kernel_rfl, by kernel_rfl, by kernel_rfl, by kernel_rfl, by kernel_rfl⟩, rfl⟩
noncomputable def rpm_Order (a0 : S_api_Evr) (a1 : S_api_Evr) : Option (Int) := Option.bind (rpm_Fit a0) (fun x1 => Option.bind (if (!x1) = true then some true else Option.bind (rpm_Fit a1) (fun x4 => some (!x4)) : Option (Bool)) (fun x3 => (if x3 = true then some 0 else Option.bind (scan_Cmp a0.Epoch a1.Epoch) (fun x5 => Option.bind (rpm_Segments a0.Ver a1.Ver) (fun x6 => Option.bind (rpm_truth a0.HasRel) (fun x7 => Option.bind (rpm_truth a1.HasRel) (fun x8 => Option.bind (rpm_Segments a0.Rel a1.Rel) (fun x9 => Option.bind (cmp_Or_int [x5, x6, (w64 (x7 - x8)), x9]) (fun x10 => some x10)))))))))
theorem rpm_Order_ok (a0 : S_api_Evr) (a1 : S_api_Evr) : Ct E 48 [.agg [bs a0.Epoch, bs a0.Ver, bs a0.Rel, bv a0.HasRel], .agg [bs a1.Epoch, bs a1.Ver, bs a1.Rel, bv a1.HasRel]] (rpm_Order a0 a1) (fun r : Int => iv r) := ct_intro (N := 37) (L := rpm_Order_b14) rpm_Order_k rfl (Nat.le_of_ble_eq_true rfl) (by kernel_rfl) (by
  unfold rpm_Order
  refine jc_seq ?_
  refine jc_reg ?_
  refine jr_seg 0 3 [2, 3] [0, 1] (st1 := ⟨[(2, .av (.ptr 0 0 4 0)), (3, .av (.ptr 1 0 4 0))], [(0, .rows 4 [[bs a0.Epoch, bs a0.Ver, bs a0.Rel, bv a0.HasRel]]), (1, .rows 4 [[bs a1.Epoch, bs a1.Ver, bs a1.Rel, bv a1.HasRel]])], 2⟩) (by kernel_rfl) ?_
  refine jr_nil rfl ?_
  refine jx_seqN ?_
  refine jc_seq ?_
  refine jc_seq ?_
  refine jc_reg ?_
  refine jr_seg 0 1 [2, 3, 5] [0, 1] (st1 := ⟨[(2, .av (.ptr 0 0 4 0)), (3, .av (.ptr 1 0 4 0)), (5, .av (.agg [bs a0.Epoch, bs a0.Ver, bs a0.Rel, bv a0.HasRel]))], [(0, .rows 4 [[bs a0.Epoch, bs a0.Ver, bs a0.Rel, bv a0.HasRel]]), (1, .rows 4 [[bs a1.Epoch, bs a1.Ver, bs a1.Rel, bv a1.HasRel]])], 2⟩) (by kernel_rfl) ?_
  refine jr_callF (i := 1) rfl rfl rfl rfl (vs := [.agg [bs a0.Epoch, bs a0.Ver, bs a0.Rel, bv a0.HasRel]]) (by kernel_rfl) (snapL_cons rfl (snapL_nil _)) (all2_cons (fle_refl _) all2_nil) (rpm_Fit_ok a0) (fun _ => rfl) (fun _ => rfl) ?_
  intro x1 h1
  refine jr_seg 2 2 [2, 3, 8] [0, 1] (st1 := ⟨[(2, .av (.ptr 0 0 4 0)), (3, .av (.ptr 1 0 4 0)), (8, .av (bv (!x1)))], [(0, .rows 4 [[bs a0.Epoch, bs a0.Ver, bs a0.Rel, bv a0.HasRel]]), (1, .rows 4 [[bs a1.Epoch, bs a1.Ver, bs a1.Rel, bv a1.HasRel]])], 2⟩) (by kernel_rfl) ?_
  refine jr_bind 4 4 (fun x3 => ⟨[(2, .av (.ptr 0 0 4 0)), (3, .av (.ptr 1 0 4 0)), (12, .av (bv x3))], [(0, .rows 4 [[bs a0.Epoch, bs a0.Ver, bs a0.Rel, bv a0.HasRel]]), (1, .rows 4 [[bs a1.Epoch, bs a1.Ver, bs a1.Rel, bv a1.HasRel]])], 2⟩) ?_ ?_
  · refine jr_split (g := 8) (c := (!x1)) (by kernel_rfl) ?_ ?_
    · intro _
      refine jr_seg 0 4 [2, 3, 12] [0, 1] (st1 := ⟨[(2, .av (.ptr 0 0 4 0)), (3, .av (.ptr 1 0 4 0)), (12, .av (bv true))], [(0, .rows 4 [[bs a0.Epoch, bs a0.Ver, bs a0.Rel, bv a0.HasRel]]), (1, .rows 4 [[bs a1.Epoch, bs a1.Ver, bs a1.Rel, bv a1.HasRel]])], 2⟩) (by kernel_rfl) ?_
      refine jr_nil rfl ?_
      exact jx_mid rfl (wk_ren [(0, some 0), (1, some 1)] (fix_nil _) rfl (by kernel_rfl) (allp_cons (.inl ⟨0, _, _, _, rfl, rfl, rfl, .inl (by kernel_rfl)⟩) (allp_cons (.inl ⟨1, _, _, _, rfl, rfl, rfl, .inl (by kernel_rfl)⟩) allp_nil)))
    · intro _
      refine jr_seg 0 1 [2, 3, 8, 9] [0, 1] (st1 := ⟨[(2, .av (.ptr 0 0 4 0)), (3, .av (.ptr 1 0 4 0)), (8, .lit false), (9, .av (.agg [bs a1.Epoch, bs a1.Ver, bs a1.Rel, bv a1.HasRel]))], [(0, .rows 4 [[bs a0.Epoch, bs a0.Ver, bs a0.Rel, bv a0.HasRel]]), (1, .rows 4 [[bs a1.Epoch, bs a1.Ver, bs a1.Rel, bv a1.HasRel]])], 2⟩) (by kernel_rfl) ?_
      refine jr_callF (i := 1) rfl rfl rfl rfl (vs := [.agg [bs a1.Epoch, bs a1.Ver, bs a1.Rel, bv a1.HasRel]]) (by kernel_rfl) (snapL_cons rfl (snapL_nil _)) (all2_cons (fle_refl _) all2_nil) (rpm_Fit_ok a1) (fun _ => rfl) (fun _ => rfl) ?_
      intro x4 h4
      refine jr_seg 2 2 [2, 3, 12] [0, 1] (st1 := ⟨[(2, .av (.ptr 0 0 4 0)), (3, .av (.ptr 1 0 4 0)), (12, .av (bv (!x4)))], [(0, .rows 4 [[bs a0.Epoch, bs a0.Ver, bs a0.Rel, bv a0.HasRel]]), (1, .rows 4 [[bs a1.Epoch, bs a1.Ver, bs a1.Rel, bv a1.HasRel]])], 2⟩) (by kernel_rfl) ?_
      refine jr_nil rfl ?_
      exact jx_mid rfl (wk_ren [(0, some 0), (1, some 1)] (fix_nil _) rfl (by kernel_rfl) (allp_cons (.inl ⟨0, _, _, _, rfl, rfl, rfl, .inl (by kernel_rfl)⟩) (allp_cons (.inl ⟨1, _, _, _, rfl, rfl, rfl, .inl (by kernel_rfl)⟩) allp_nil)))
  · intro x3
    refine jr_nil rfl ?_
    refine jx_seqN ?_
    refine jc_cond (g := 12) (c := x3) (by kernel_rfl) ?_ ?_
    · intro _
      refine jc_seq ?_
      refine jc_reg ?_
      refine jr_seg 0 1 [4] [] (st1 := ⟨[(4, .av (iv 0))], [], 2⟩) (by kernel_rfl) ?_
      refine jr_nil rfl ?_
      refine jx_seqN ?_
      refine jc_ret ?_
      refine jx_seqR ?_
      exact jx_retF (.inr rfl) (v := iv 0) (by kernel_rfl) rfl (fle_refl _)
    · intro _
      refine jc_skip ?_
      refine jx_seqN ?_
      refine jc_seq ?_
      refine jc_reg ?_
      refine jr_seg 0 4 [2, 3, 14, 16] [0, 1] (st1 := ⟨[(2, .av (.ptr 0 0 4 0)), (3, .av (.ptr 1 0 4 0)), (14, .av (bs a0.Epoch)), (16, .av (bs a1.Epoch))], [(0, .rows 4 [[bs a0.Epoch, bs a0.Ver, bs a0.Rel, bv a0.HasRel]]), (1, .rows 4 [[bs a1.Epoch, bs a1.Ver, bs a1.Rel, bv a1.HasRel]])], 2⟩) (by kernel_rfl) ?_
      refine jr_callF (i := 4) rfl rfl rfl rfl (vs := [bs a0.Epoch, bs a1.Epoch]) (by kernel_rfl) (snapL_cons rfl (snapL_cons rfl (snapL_nil _))) (all2_cons (fle_refl _) (all2_cons (fle_refl _) all2_nil)) (scan_Cmp_ok a0.Epoch a1.Epoch) (fun _ => rfl) (fun _ => rfl) ?_
      intro x5 h5
      refine jr_seg 5 4 [2, 3, 17, 19, 21] [0, 1] (st1 := ⟨[(2, .av (.ptr 0 0 4 0)), (3, .av (.ptr 1 0 4 0)), (17, .av (iv x5)), (19, .av (bs a0.Ver)), (21, .av (bs a1.Ver))], [(0, .rows 4 [[bs a0.Epoch, bs a0.Ver, bs a0.Rel, bv a0.HasRel]]), (1, .rows 4 [[bs a1.Epoch, bs a1.Ver, bs a1.Rel, bv a1.HasRel]])], 2⟩) (by kernel_rfl) ?_
      refine jr_callF (i := 9) rfl rfl rfl rfl (vs := [bs a0.Ver, bs a1.Ver]) (by kernel_rfl) (snapL_cons rfl (snapL_cons rfl (snapL_nil _))) (all2_cons (fle_refl _) (all2_cons (fle_refl _) all2_nil)) (rpm_Segments_ok a0.Ver a1.Ver) (fun _ => rfl) (fun _ => rfl) ?_
      intro x6 h6
      refine jr_seg 10 2 [2, 3, 17, 22, 24] [0, 1] (st1 := ⟨[(2, .av (.ptr 0 0 4 0)), (3, .av (.ptr 1 0 4 0)), (17, .av (iv x5)), (22, .av (iv x6)), (24, .av (bv a0.HasRel))], [(0, .rows 4 [[bs a0.Epoch, bs a0.Ver, bs a0.Rel, bv a0.HasRel]]), (1, .rows 4 [[bs a1.Epoch, bs a1.Ver, bs a1.Rel, bv a1.HasRel]])], 2⟩) (by kernel_rfl) ?_
      refine jr_callF (i := 12) rfl rfl rfl rfl (vs := [bv a0.HasRel]) (by kernel_rfl) (snapL_cons rfl (snapL_nil _)) (all2_cons (fle_refl _) all2_nil) (rpm_truth_ok a0.HasRel) (fun _ => rfl) (fun _ => rfl) ?_
      intro x7 h7
      refine jr_seg 13 2 [2, 3, 17, 22, 25, 27] [0, 1] (st1 := ⟨[(2, .av (.ptr 0 0 4 0)), (3, .av (.ptr 1 0 4 0)), (17, .av (iv x5)), (22, .av (iv x6)), (25, .av (iv x7)), (27, .av (bv a1.HasRel))], [(0, .rows 4 [[bs a0.Epoch, bs a0.Ver, bs a0.Rel, bv a0.HasRel]]), (1, .rows 4 [[bs a1.Epoch, bs a1.Ver, bs a1.Rel, bv a1.HasRel]])], 2⟩) (by kernel_rfl) ?_
      refine jr_callF (i := 15) rfl rfl rfl rfl (vs := [bv a1.HasRel]) (by kernel_rfl) (snapL_cons rfl (snapL_nil _)) (all2_cons (fle_refl _) all2_nil) (rpm_truth_ok a1.HasRel) (fun _ => rfl) (fun _ => rfl) ?_
      intro x8 h8
      refine jr_seg 16 5 [17, 22, 29, 31, 33] [] (st1 := ⟨[(17, .av (iv x5)), (22, .av (iv x6)), (29, .av (iv (w64 (x7 - x8)))), (31, .av (bs a0.Rel)), (33, .av (bs a1.Rel))], [], 2⟩) (by kernel_rfl) ?_
      refine jr_callF (i := 21) rfl rfl rfl rfl (vs := [bs a0.Rel, bs a1.Rel]) (by kernel_rfl) (snapL_cons rfl (snapL_cons rfl (snapL_nil _))) (all2_cons (fle_refl _) (all2_cons (fle_refl _) all2_nil)) (rpm_Segments_ok a0.Rel a1.Rel) (fun _ => rfl) (fun _ => rfl) ?_
      intro x9 h9
      refine jr_seg 22 1 [35] [] (st1 := ⟨[(35, .av (.fsl 1 (List.map cI [x5, x6, (w64 (x7 - x8)), x9])))], [], 2⟩) (by kernel_rfl) ?_
      refine jr_callF (i := 23) rfl rfl rfl rfl (vs := [.fsl 1 (List.map cI [x5, x6, (w64 (x7 - x8)), x9])]) (by kernel_rfl) (snapL_cons rfl (snapL_nil _)) (all2_cons (fle_refl _) all2_nil) (cmp_Or_int_ok [x5, x6, (w64 (x7 - x8)), x9]) (fun _ => rfl) (fun _ => rfl) ?_
      intro x10 h10
      refine jr_seg 24 1 [4] [] (st1 := ⟨[(4, .av (iv x10))], [], 2⟩) (by kernel_rfl) ?_
      refine jr_nil rfl ?_
      refine jx_seqN ?_
      refine jc_ret ?_
      exact jx_retF (.inr rfl) (v := iv x10) (by kernel_rfl) rfl (fle_refl _))
end Go.Vm

set_option maxRecDepth 100000
set_option maxHeartbeats 0
set_option linter.unusedVariables false
set_option linter.unusedSimpArgs false
namespace Go.Vm
open Go
abbrev rpm_Compare_r1 : List LO := [⟨some 4, Op.assign (Operand.const (Value.int IntKind.i64 0)), 3, none⟩]
abbrev rpm_Compare_b2 : LC := .reg false rpm_Compare_r1
abbrev rpm_Compare_r3 : List LO := [⟨some 10, Op.move (Operand.tmp 0), 9, none⟩,
  ⟨some 11, Op.call { callee := Callee.value (Operand.func 37), args := #[Operand.tmp 10], argTypes := #[9] }, 52, none⟩,
  ⟨some 9, Op.move (Operand.tmp 11), 52, none⟩,
  ⟨some 12, Op.extract (Operand.tmp 9) 0, 51, none⟩,
  ⟨some 13, Op.extract (Operand.tmp 9) 1, 44, none⟩,
  ⟨some 5, Op.alloc 51, 0, none⟩,
  ⟨some 6, Op.alloc 44, 0, none⟩,
  ⟨none, Op.store 51 (Operand.tmp 5) (Operand.tmp 12), 0, none⟩,
  ⟨none, Op.store 44 (Operand.tmp 6) (Operand.tmp 13), 0, none⟩]
abbrev rpm_Compare_b4 : LC := .reg false rpm_Compare_r3
abbrev rpm_Compare_r5 : List LO := [⟨some 15, Op.move (Operand.tmp 1), 9, none⟩,
  ⟨some 16, Op.call { callee := Callee.value (Operand.func 37), args := #[Operand.tmp 15], argTypes := #[9] }, 52, none⟩,
  ⟨some 14, Op.move (Operand.tmp 16), 52, none⟩,
  ⟨some 17, Op.extract (Operand.tmp 14) 0, 51, none⟩,
  ⟨some 18, Op.extract (Operand.tmp 14) 1, 44, none⟩,
  ⟨some 7, Op.alloc 51, 0, none⟩,
  ⟨some 8, Op.alloc 44, 0, none⟩,
  ⟨none, Op.store 51 (Operand.tmp 7) (Operand.tmp 17), 0, none⟩,
  ⟨none, Op.store 44 (Operand.tmp 8) (Operand.tmp 18), 0, none⟩]
abbrev rpm_Compare_b6 : LC := .reg false rpm_Compare_r5
abbrev rpm_Compare_r7 : List LO := [⟨some 19, Op.fieldAddr 44 (Operand.tmp 6) 0, 0, none⟩,
  ⟨some 20, Op.load 42 (Operand.tmp 19), 42, none⟩,
  ⟨some 21, Op.binOp BinOp.neq 42 (Operand.tmp 20) (Operand.const (Value.int IntKind.i64 0)) 42, 4, none⟩,
  ⟨some 22, Op.move (Operand.tmp 21), 4, none⟩,
  ⟨some 23, Op.fieldAddr 44 (Operand.tmp 8) 0, 0, (some (22, false))⟩,
  ⟨some 24, Op.load 42 (Operand.tmp 23), 42, (some (22, false))⟩,
  ⟨some 25, Op.binOp BinOp.neq 42 (Operand.tmp 24) (Operand.const (Value.int IntKind.i64 0)) 42, 4, (some (22, false))⟩,
  ⟨some 26, Op.pick (Operand.tmp 22) (Operand.const (Value.bool true)) (Operand.tmp 25), 4, none⟩]
abbrev rpm_Compare_b8 : LC := .reg false rpm_Compare_r7
abbrev rpm_Compare_r9 : List LO := [⟨some 27, Op.fieldAddr 44 (Operand.tmp 6) 0, 0, none⟩,
  ⟨some 28, Op.load 42 (Operand.tmp 27), 42, none⟩,
  ⟨some 29, Op.binOp BinOp.eql 42 (Operand.tmp 28) (Operand.const (Value.int IntKind.i64 0)) 42, 4, none⟩,
  ⟨some 30, Op.call { callee := Callee.value (Operand.func 83), args := #[Operand.tmp 29], argTypes := #[4] }, 3, none⟩,
  ⟨some 31, Op.fieldAddr 44 (Operand.tmp 8) 0, 0, none⟩,
  ⟨some 32, Op.load 42 (Operand.tmp 31), 42, none⟩,
  ⟨some 33, Op.binOp BinOp.eql 42 (Operand.tmp 32) (Operand.const (Value.int IntKind.i64 0)) 42, 4, none⟩,
  ⟨some 34, Op.call { callee := Callee.value (Operand.func 83), args := #[Operand.tmp 33], argTypes := #[4] }, 3, none⟩,
  ⟨some 35, Op.binOp BinOp.sub 3 (Operand.tmp 30) (Operand.tmp 34) 3, 3, none⟩,
  ⟨some 4, Op.assign (Operand.tmp 35), 3, none⟩]
abbrev rpm_Compare_b10 : LC := .reg true rpm_Compare_r9
abbrev rpm_Compare_b11 : LC := .seq rpm_Compare_b10 .ret
abbrev rpm_Compare_b12 : LC := .cond (Operand.tmp 26) rpm_Compare_b11 .skip
abbrev rpm_Compare_b13 : LC := .seq rpm_Compare_b8 rpm_Compare_b12
abbrev rpm_Compare_r14 : List LO := [⟨some 36, Op.load 51 (Operand.tmp 5), 51, none⟩,
  ⟨some 37, Op.load 51 (Operand.tmp 7), 51, none⟩,
  ⟨some 38, Op.call { callee := Callee.value (Operand.func 48), args := #[Operand.tmp 36, Operand.tmp 37], argTypes := #[51, 51] }, 3, none⟩,
  ⟨some 4, Op.assign (Operand.tmp 38), 3, none⟩]
abbrev rpm_Compare_b15 : LC := .reg false rpm_Compare_r14
abbrev rpm_Compare_b16 : LC := .seq rpm_Compare_b15 .ret
abbrev rpm_Compare_b17 : LC := .seq rpm_Compare_b13 rpm_Compare_b16
abbrev rpm_Compare_b18 : LC := .seq rpm_Compare_b6 rpm_Compare_b17
abbrev rpm_Compare_b19 : LC := .seq rpm_Compare_b4 rpm_Compare_b18
abbrev rpm_Compare_b20 : LC := .seq rpm_Compare_b2 rpm_Compare_b19
theorem rpm_Compare_k : FnOk E 41 39 [.tmp 4] rpm_Compare_b20 := ⟨⟨Go.Proofs.Tryd.f41, by kernel_rfl, by kernel_rfl, by kernel_rfl, by kernel_rfl, by kernel_rfl⟩, rfl⟩
noncomputable def rpm_Compare (a0 : Str) (a1 : Str) : Option (Int) := Option.bind (rpm_Parse a0) (fun x1 => Option.bind (rpm_Parse a1) (fun x2 => (if ((x1.2.Err != 0) || (x2.2.Err != 0)) = true then Option.bind (rpm_truth (x1.2.Err == 0)) (fun x3 => Option.bind (rpm_truth (x2.2.Err == 0)) (fun x4 => some (w64 (x3 - x4)))) else Option.bind (rpm_Order (S_api_Evr.mk x1.1.Epoch x1.1.Ver x1.1.Rel x1.1.HasRel) (S_api_Evr.mk x2.1.Epoch x2.1.Ver x2.1.Rel x2.1.HasRel)) (fun x5 => some x5))))
theorem rpm_Compare_ok (a0 : Str) (a1 : Str) : Ct E 41 [bs a0, bs a1] (rpm_Compare a0 a1) (fun r : Int => iv r) := ct_intro (N := 39) (L := rpm_Compare_b20) rpm_Compare_k rfl (Nat.le_of_ble_eq_true rfl) (by kernel_rfl) (by
  unfold rpm_Compare
  refine jc_seq ?_
  refine jc_reg ?_
  refine jr_seg 0 1 [0, 1] [] (st1 := ⟨[(0, .av (bs a0)), (1, .av (bs a1))], [], 0⟩) (by kernel_rfl) ?_
  refine jr_nil rfl ?_
  refine jx_seqN ?_
  refine jc_seq ?_
  refine jc_reg ?_
  refine jr_seg 0 1 [1, 10] [] (st1 := ⟨[(1, .av (bs a1)), (10, .av (bs a0))], [], 0⟩) (by kernel_rfl) ?_
  refine jr_callF (i := 1) rfl rfl rfl rfl (vs := [bs a0]) (by kernel_rfl) (snapL_cons rfl (snapL_nil _)) (all2_cons (fle_refl _) all2_nil) (rpm_Parse_ok a0) (fun _ => rfl) (fun _ => rfl) ?_
  intro x1 h1
  refine jr_seg 2 7 [1, 5, 6] [0, 1] (st1 := ⟨[(1, .av (bs a1)), (5, .av (.ptr 0 0 4 0)), (6, .av (.ptr 1 0 2 0))], [(0, .rows 4 [[bs x1.1.Epoch, bs x1.1.Ver, bs x1.1.Rel, bv x1.1.HasRel]]), (1, .rows 2 [[iv x1.2.Err, iv x1.2.At]])], 2⟩) (by kernel_rfl) ?_
  refine jr_nil rfl ?_
  refine jx_seqN ?_
  refine jc_seq ?_
  refine jc_reg ?_
  refine jr_seg 0 1 [5, 6, 15] [0, 1] (st1 := ⟨[(5, .av (.ptr 0 0 4 0)), (6, .av (.ptr 1 0 2 0)), (15, .av (bs a1))], [(0, .rows 4 [[bs x1.1.Epoch, bs x1.1.Ver, bs x1.1.Rel, bv x1.1.HasRel]]), (1, .rows 2 [[iv x1.2.Err, iv x1.2.At]])], 2⟩) (by kernel_rfl) ?_
  refine jr_callF (i := 1) rfl rfl rfl rfl (vs := [bs a1]) (by kernel_rfl) (snapL_cons rfl (snapL_nil _)) (all2_cons (fle_refl _) all2_nil) (rpm_Parse_ok a1) (fun _ => rfl) (fun _ => rfl) ?_
  intro x2 h2
  refine jr_seg 2 7 [5, 6, 7, 8] [0, 1, 2, 3] (st1 := ⟨[(5, .av (.ptr 0 0 4 0)), (6, .av (.ptr 1 0 2 0)), (7, .av (.ptr 2 0 4 0)), (8, .av (.ptr 3 0 2 0))], [(0, .rows 4 [[bs x1.1.Epoch, bs x1.1.Ver, bs x1.1.Rel, bv x1.1.HasRel]]), (1, .rows 2 [[iv x1.2.Err, iv x1.2.At]]), (2, .rows 4 [[bs x2.1.Epoch, bs x2.1.Ver, bs x2.1.Rel, bv x2.1.HasRel]]), (3, .rows 2 [[iv x2.2.Err, iv x2.2.At]])], 4⟩) (by kernel_rfl) ?_
  refine jr_nil rfl ?_
  refine jx_seqN ?_
  refine jc_seq ?_
  refine jc_seq ?_
  refine jc_reg ?_
  refine jr_seg 0 8 [5, 6, 7, 8, 26] [0, 1, 2, 3] (st1 := ⟨[(5, .av (.ptr 0 0 4 0)), (6, .av (.ptr 1 0 2 0)), (7, .av (.ptr 2 0 4 0)), (8, .av (.ptr 3 0 2 0)), (26, .av (bv ((x1.2.Err != 0) || (x2.2.Err != 0))))], [(0, .rows 4 [[bs x1.1.Epoch, bs x1.1.Ver, bs x1.1.Rel, bv x1.1.HasRel]]), (1, .rows 2 [[iv x1.2.Err, iv x1.2.At]]), (2, .rows 4 [[bs x2.1.Epoch, bs x2.1.Ver, bs x2.1.Rel, bv x2.1.HasRel]]), (3, .rows 2 [[iv x2.2.Err, iv x2.2.At]])], 4⟩) (by kernel_rfl) ?_
  refine jr_nil rfl ?_
  refine jx_seqN ?_
  refine jc_cond (g := 26) (c := ((x1.2.Err != 0) || (x2.2.Err != 0))) (by kernel_rfl) ?_ ?_
  · intro _
    refine jc_seq ?_
    refine jc_reg ?_
    refine jr_seg 0 3 [8, 29] [3] (st1 := ⟨[(8, .av (.ptr 3 0 2 0)), (29, .av (bv (x1.2.Err == 0)))], [(3, .rows 2 [[iv x2.2.Err, iv x2.2.At]])], 4⟩) (by kernel_rfl) ?_
    refine jr_callF (i := 3) rfl rfl rfl rfl (vs := [bv (x1.2.Err == 0)]) (by kernel_rfl) (snapL_cons rfl (snapL_nil _)) (all2_cons (fle_refl _) all2_nil) (rpm_truth_ok (x1.2.Err == 0)) (fun _ => rfl) (fun _ => rfl) ?_
    intro x3 h3
    refine jr_seg 4 3 [30, 33] [] (st1 := ⟨[(30, .av (iv x3)), (33, .av (bv (x2.2.Err == 0)))], [], 4⟩) (by kernel_rfl) ?_
    refine jr_callF (i := 7) rfl rfl rfl rfl (vs := [bv (x2.2.Err == 0)]) (by kernel_rfl) (snapL_cons rfl (snapL_nil _)) (all2_cons (fle_refl _) all2_nil) (rpm_truth_ok (x2.2.Err == 0)) (fun _ => rfl) (fun _ => rfl) ?_
    intro x4 h4
    refine jr_seg 8 2 [4] [] (st1 := ⟨[(4, .av (iv (w64 (x3 - x4))))], [], 4⟩) (by kernel_rfl) ?_
    refine jr_nil rfl ?_
    refine jx_seqN ?_
    refine jc_ret ?_
    refine jx_seqR ?_
    exact jx_retF (.inr rfl) (v := iv (w64 (x3 - x4))) (by kernel_rfl) rfl (fle_refl _)
  · intro _
    refine jc_skip ?_
    refine jx_seqN ?_
    refine jc_seq ?_
    refine jc_reg ?_
    refine jr_seg 0 2 [36, 37] [] (st1 := ⟨[(36, .av (.agg [bs x1.1.Epoch, bs x1.1.Ver, bs x1.1.Rel, bv x1.1.HasRel])), (37, .av (.agg [bs x2.1.Epoch, bs x2.1.Ver, bs x2.1.Rel, bv x2.1.HasRel]))], [], 4⟩) (by kernel_rfl) ?_
    refine jr_callF (i := 2) rfl rfl rfl rfl (vs := [.agg [bs x1.1.Epoch, bs x1.1.Ver, bs x1.1.Rel, bv x1.1.HasRel], .agg [bs x2.1.Epoch, bs x2.1.Ver, bs x2.1.Rel, bv x2.1.HasRel]]) (by kernel_rfl) (snapL_cons rfl (snapL_cons rfl (snapL_nil _))) (all2_cons (fle_refl _) (all2_cons (fle_refl _) all2_nil)) (rpm_Order_ok (S_api_Evr.mk x1.1.Epoch x1.1.Ver x1.1.Rel x1.1.HasRel) (S_api_Evr.mk x2.1.Epoch x2.1.Ver x2.1.Rel x2.1.HasRel)) (fun _ => rfl) (fun _ => rfl) ?_
    intro x5 h5
    refine jr_seg 3 1 [4] [] (st1 := ⟨[(4, .av (iv x5))], [], 4⟩) (by kernel_rfl) ?_
    refine jr_nil rfl ?_
    refine jx_seqN ?_
    refine jc_ret ?_
    exact jx_retF (.inr rfl) (v := iv x5) (by kernel_rfl) rfl (fle_refl _))
end Go.Vm

set_option maxRecDepth 100000
set_option maxHeartbeats 0
set_option linter.unusedVariables false
set_option linter.unusedSimpArgs false
namespace Go.Vm
open Go
abbrev ref05_segments_r1 : List LO := [⟨some 2, Op.assign (Operand.const (Value.bool false)), 4, none⟩]
abbrev ref05_segments_b2 : LC := .reg false ref05_segments_r1
abbrev ref05_segments_r3 : List LO := [⟨some 3, Op.move (Operand.tmp 0), 9, none⟩,
  ⟨some 4, Op.binOp BinOp.neq 9 (Operand.tmp 3) (Operand.const (Value.string { data := #[] })) 9, 4, none⟩,
  ⟨some 5, Op.move (Operand.tmp 4), 4, none⟩,
  ⟨some 6, Op.move (Operand.tmp 0), 9, (some (5, true))⟩,
  ⟨some 7, Op.call { callee := Callee.value (Operand.func 78), args := #[Operand.tmp 6, Operand.const (Value.int IntKind.i64 0)], argTypes := #[9, 3] }, 3, (some (5, true))⟩,
  ⟨some 8, Op.move (Operand.tmp 0), 9, (some (5, true))⟩,
  ⟨some 9, Op.call { callee := Callee.builtin Builtin.len, args := #[Operand.tmp 8], argTypes := #[9] }, 3, (some (5, true))⟩,
  ⟨some 10, Op.binOp BinOp.eql 3 (Operand.tmp 7) (Operand.tmp 9) 3, 4, (some (5, true))⟩,
  ⟨some 11, Op.pick (Operand.tmp 5) (Operand.tmp 10) (Operand.const (Value.bool false)), 4, none⟩,
  ⟨some 2, Op.assign (Operand.tmp 11), 4, none⟩]
abbrev ref05_segments_b4 : LC := .reg false ref05_segments_r3
abbrev ref05_segments_b5 : LC := .seq ref05_segments_b4 .ret
abbrev ref05_segments_b6 : LC := .seq ref05_segments_b2 ref05_segments_b5
theorem ref05_segments_k : FnOk E 84 12 [.tmp 2] ref05_segments_b6 := ⟨⟨Go.Proofs.Tryd.f84, by kernel_rfl, by kernel_rfl, by kernel_rfl, by kernel_rfl, by kernel_rfl⟩, rfl⟩
noncomputable def ref05_segments (a0 : Str) : Option (Bool) := Option.bind (if (!(a0 == [])) = true then Option.bind (ref05_run a0 0) (fun x3 => some (x3 == (List.length a0 : Int))) else some false : Option (Bool)) (fun x2 => some x2)
theorem ref05_segments_ok (a0 : Str) : Ct E 84 [bs a0] (ref05_segments a0) (fun r : Bool => bv r) := ct_intro (N := 12) (L := ref05_segments_b6) ref05_segments_k rfl (Nat.le_of_ble_eq_true rfl) (by kernel_rfl) (by
  unfold ref05_segments
  refine jc_seq ?_
  refine jc_reg ?_
  refine jr_seg 0 1 [0] [] (st1 := ⟨[(0, .av (bs a0))], [], 0⟩) (by kernel_rfl) ?_
  refine jr_nil rfl ?_
  refine jx_seqN ?_
  refine jc_seq ?_
  refine jc_reg ?_
  refine jr_seg 0 3 [0, 5] [] (st1 := ⟨[(0, .av (bs a0)), (5, .av (bv (!(a0 == []))))], [], 0⟩) (by kernel_rfl) ?_
  refine jr_bind 3 6 (fun x2 => ⟨[(11, .av (bv x2))], [], 0⟩) ?_ ?_
  · refine jr_split (g := 5) (c := (!(a0 == []))) (by kernel_rfl) ?_ ?_
    · intro _
      refine jr_seg 0 1 [0, 5, 6] [] (st1 := ⟨[(0, .av (bs a0)), (5, .lit true), (6, .av (bs a0))], [], 0⟩) (by kernel_rfl) ?_
      refine jr_callF (i := 1) rfl rfl rfl rfl (vs := [bs a0, iv 0]) (by kernel_rfl) (snapL_cons rfl (snapL_cons rfl (snapL_nil _))) (all2_cons (fle_refl _) (all2_cons (fle_refl _) all2_nil)) (ref05_run_ok a0 0) (fun _ => rfl) (fun _ => rfl) ?_
      intro x3 h3
      refine jr_seg 2 4 [11] [] (st1 := ⟨[(11, .av (bv (x3 == (List.length a0 : Int))))], [], 0⟩) (by kernel_rfl) ?_
      refine jr_nil rfl ?_
      exact jx_mid rfl (wk_ren [] (fix_nil _) rfl (by kernel_rfl) allp_nil)
    · intro _
      refine jr_seg 0 6 [11] [] (st1 := ⟨[(11, .av (bv false))], [], 0⟩) (by kernel_rfl) ?_
      refine jr_nil rfl ?_
      exact jx_mid rfl (wk_ren [] (fix_nil _) rfl (by kernel_rfl) allp_nil)
  · intro x2
    refine jr_seg 9 1 [2] [] (st1 := ⟨[(2, .av (bv x2))], [], 0⟩) (by kernel_rfl) ?_
    refine jr_nil rfl ?_
    refine jx_seqN ?_
    refine jc_ret ?_
    exact jx_retF (.inr rfl) (v := bv x2) (by kernel_rfl) rfl (fle_refl _))
end Go.Vm

set_option maxRecDepth 100000
set_option maxHeartbeats 0
set_option linter.unusedVariables false
set_option linter.unusedSimpArgs false
namespace Go.Vm
open Go
abbrev ref05_raw_r1 : List LO := [⟨some 1, Op.box 51 (Operand.tmp 0), 0, none⟩,
  ⟨some 2, Op.assign (Operand.const (Value.string { data := #[] })), 9, none⟩]
abbrev ref05_raw_b2 : LC := .reg false ref05_raw_r1
abbrev ref05_raw_r3 : List LO := [⟨some 4, Op.fieldAddr 51 (Operand.tmp 1) 1, 0, none⟩,
  ⟨some 5, Op.load 9 (Operand.tmp 4), 9, none⟩,
  ⟨some 3, Op.assign (Operand.tmp 5), 9, none⟩]
abbrev ref05_raw_b4 : LC := .reg false ref05_raw_r3
abbrev ref05_raw_r5 : List LO := [⟨some 6, Op.fieldAddr 51 (Operand.tmp 1) 0, 0, none⟩,
  ⟨some 7, Op.load 9 (Operand.tmp 6), 9, none⟩,
  ⟨some 8, Op.binOp BinOp.neq 9 (Operand.tmp 7) (Operand.const (Value.string { data := #[48] })) 9, 4, none⟩]
abbrev ref05_raw_b6 : LC := .reg false ref05_raw_r5
abbrev ref05_raw_r7 : List LO := [⟨some 9, Op.fieldAddr 51 (Operand.tmp 1) 0, 0, none⟩,
  ⟨some 10, Op.load 9 (Operand.tmp 9), 9, none⟩,
  ⟨some 11, Op.binOp BinOp.add 9 (Operand.tmp 10) (Operand.const (Value.string { data := #[58] })) 9, 9, none⟩,
  ⟨some 12, Op.move (Operand.tmp 3), 9, none⟩,
  ⟨some 13, Op.binOp BinOp.add 9 (Operand.tmp 11) (Operand.tmp 12) 9, 9, none⟩,
  ⟨some 3, Op.assign (Operand.tmp 13), 9, none⟩]
abbrev ref05_raw_b8 : LC := .reg false ref05_raw_r7
abbrev ref05_raw_b9 : LC := .cond (Operand.tmp 8) ref05_raw_b8 .skip
abbrev ref05_raw_b10 : LC := .seq ref05_raw_b6 ref05_raw_b9
abbrev ref05_raw_r11 : List LO := [⟨some 14, Op.fieldAddr 51 (Operand.tmp 1) 3, 0, none⟩,
  ⟨some 15, Op.load 4 (Operand.tmp 14), 4, none⟩]
abbrev ref05_raw_b12 : LC := .reg false ref05_raw_r11
abbrev ref05_raw_r13 : List LO := [⟨some 16, Op.move (Operand.tmp 3), 9, none⟩,
  ⟨some 17, Op.binOp BinOp.add 9 (Operand.tmp 16) (Operand.const (Value.string { data := #[45] })) 9, 9, none⟩,
  ⟨some 18, Op.fieldAddr 51 (Operand.tmp 1) 2, 0, none⟩,
  ⟨some 19, Op.load 9 (Operand.tmp 18), 9, none⟩,
  ⟨some 20, Op.binOp BinOp.add 9 (Operand.tmp 17) (Operand.tmp 19) 9, 9, none⟩,
  ⟨some 3, Op.assign (Operand.tmp 20), 9, none⟩]
abbrev ref05_raw_b14 : LC := .reg false ref05_raw_r13
abbrev ref05_raw_b15 : LC := .cond (Operand.tmp 15) ref05_raw_b14 .skip
abbrev ref05_raw_b16 : LC := .seq ref05_raw_b12 ref05_raw_b15
abbrev ref05_raw_r17 : List LO := [⟨some 21, Op.move (Operand.tmp 3), 9, none⟩,
  ⟨some 2, Op.assign (Operand.tmp 21), 9, none⟩]
abbrev ref05_raw_b18 : LC := .reg false ref05_raw_r17
abbrev ref05_raw_b19 : LC := .seq ref05_raw_b18 .ret
abbrev ref05_raw_b20 : LC := .seq ref05_raw_b16 ref05_raw_b19
abbrev ref05_raw_b21 : LC := .seq ref05_raw_b10 ref05_raw_b20
abbrev ref05_raw_b22 : LC := .seq ref05_raw_b4 ref05_raw_b21
abbrev ref05_raw_b23 : LC := .seq ref05_raw_b2 ref05_raw_b22
theorem ref05_raw_k : FnOk E 85 22 [.tmp 2] ref05_raw_b23 := ⟨⟨Go.Proofs.Tryd.f85, by kernel_rfl, by kernel_rfl, by kernel_rfl, by kernel_rfl, by kernel_rfl⟩, rfl⟩
noncomputable def ref05_raw (a0 : S_api_Evr) : Option (Str) := Option.bind ((if (!(a0.Epoch == [48])) = true then Option.bind (cat a0.Epoch [58]) (fun x4 => Option.bind (cat x4 a0.Ver) (fun x5 => some x5)) else some a0.Ver) : Option (Str)) (fun x3 => Option.bind ((if a0.HasRel = true then Option.bind (cat x3 [45]) (fun x9 => Option.bind (cat x9 a0.Rel) (fun x10 => some x10)) else some x3) : Option (Str)) (fun x8 => some x8))
theorem ref05_raw_ok (a0 : S_api_Evr) : Ct E 85 [.agg [bs a0.Epoch, bs a0.Ver, bs a0.Rel, bv a0.HasRel]] (ref05_raw a0) (fun r : Str => bs r) := ct_intro (N := 22) (L := ref05_raw_b23) ref05_raw_k rfl (Nat.le_of_ble_eq_true rfl) (by kernel_rfl) (by
  unfold ref05_raw
  refine jc_seq ?_
  refine jc_reg ?_
  refine jr_seg 0 2 [1] [0] (st1 := ⟨[(1, .av (.ptr 0 0 4 0))], [(0, .rows 4 [[bs a0.Epoch, bs a0.Ver, bs a0.Rel, bv a0.HasRel]])], 1⟩) (by kernel_rfl) ?_
  refine jr_nil rfl ?_
  refine jx_seqN ?_
  refine jc_seq ?_
  refine jc_reg ?_
  refine jr_seg 0 3 [1, 3] [0] (st1 := ⟨[(1, .av (.ptr 0 0 4 0)), (3, .av (bs a0.Ver))], [(0, .rows 4 [[bs a0.Epoch, bs a0.Ver, bs a0.Rel, bv a0.HasRel]])], 1⟩) (by kernel_rfl) ?_
  refine jr_nil rfl ?_
  refine jx_seqN ?_
  refine jc_seq ?_
  refine jc_bind (fun x3 => ⟨[(1, .av (.ptr 0 0 4 0)), (3, .av (bs x3))], [(0, .rows 4 [[bs a0.Epoch, bs a0.Ver, bs a0.Rel, bv a0.HasRel]])], 1⟩) (fun x3 => .normal) ?_ ?_
  · refine jc_seq ?_
    refine jc_reg ?_
    refine jr_seg 0 3 [1, 3, 8] [0] (st1 := ⟨[(1, .av (.ptr 0 0 4 0)), (3, .av (bs a0.Ver)), (8, .av (bv (!(a0.Epoch == [48]))))], [(0, .rows 4 [[bs a0.Epoch, bs a0.Ver, bs a0.Rel, bv a0.HasRel]])], 1⟩) (by kernel_rfl) ?_
    refine jr_nil rfl ?_
    refine jx_seqN ?_
    refine jc_cond (g := 8) (c := (!(a0.Epoch == [48]))) (by kernel_rfl) ?_ ?_
    · intro _
      refine jc_reg ?_
      refine jr_seg 0 2 [1, 3, 10] [0] (st1 := ⟨[(1, .av (.ptr 0 0 4 0)), (3, .av (bs a0.Ver)), (10, .av (bs a0.Epoch))], [(0, .rows 4 [[bs a0.Epoch, bs a0.Ver, bs a0.Rel, bv a0.HasRel]])], 1⟩) (by kernel_rfl) ?_
      refine jr_part (i := 2) (mo := cat a0.Epoch [58]) rfl rfl rfl rfl (fun _ hc => aop_cat (by kernel_rfl) (by kernel_rfl) hc) (fun _ => rfl) ?_
      intro x4 h4
      refine jr_seg 3 1 [1, 11, 12] [0] (st1 := ⟨[(1, .av (.ptr 0 0 4 0)), (11, .av (bs x4)), (12, .av (bs a0.Ver))], [(0, .rows 4 [[bs a0.Epoch, bs a0.Ver, bs a0.Rel, bv a0.HasRel]])], 1⟩) (by kernel_rfl) ?_
      refine jr_part (i := 4) (mo := cat x4 a0.Ver) rfl rfl rfl rfl (fun _ hc => aop_cat (by kernel_rfl) (by kernel_rfl) hc) (fun _ => rfl) ?_
      intro x5 h5
      refine jr_seg 5 1 [1, 3] [0] (st1 := ⟨[(1, .av (.ptr 0 0 4 0)), (3, .av (bs x5))], [(0, .rows 4 [[bs a0.Epoch, bs a0.Ver, bs a0.Rel, bv a0.HasRel]])], 1⟩) (by kernel_rfl) ?_
      refine jr_nil rfl ?_
      exact jx_mid rfl (wk_ren [(0, some 0)] (fix_nil _) rfl (by kernel_rfl) (allp_cons (.inl ⟨0, _, _, _, rfl, rfl, rfl, .inl (by kernel_rfl)⟩) allp_nil))
    · intro _
      refine jc_skip ?_
      exact jx_mid rfl (wk_ren [(0, some 0)] (fix_nil _) rfl (by kernel_rfl) (allp_cons (.inl ⟨0, _, _, _, rfl, rfl, rfl, .inl (by kernel_rfl)⟩) allp_nil))
  · intro x3
    refine jx_seqN ?_
    refine jc_seq ?_
    refine jc_bind (fun x8 => ⟨[(3, .av (bs x8))], [], 0⟩) (fun x8 => .normal) ?_ ?_
    · refine jc_seq ?_
      refine jc_reg ?_
      refine jr_seg 0 2 [1, 3, 15] [0] (st1 := ⟨[(1, .av (.ptr 0 0 4 0)), (3, .av (bs x3)), (15, .av (bv a0.HasRel))], [(0, .rows 4 [[bs a0.Epoch, bs a0.Ver, bs a0.Rel, bv a0.HasRel]])], 1⟩) (by kernel_rfl) ?_
      refine jr_nil rfl ?_
      refine jx_seqN ?_
      refine jc_cond (g := 15) (c := a0.HasRel) (by kernel_rfl) ?_ ?_
      · intro _
        refine jc_reg ?_
        refine jr_seg 0 1 [1, 16] [0] (st1 := ⟨[(1, .av (.ptr 0 0 4 0)), (16, .av (bs x3))], [(0, .rows 4 [[bs a0.Epoch, bs a0.Ver, bs a0.Rel, bv a0.HasRel]])], 1⟩) (by kernel_rfl) ?_
        refine jr_part (i := 1) (mo := cat x3 [45]) rfl rfl rfl rfl (fun _ hc => aop_cat (by kernel_rfl) (by kernel_rfl) hc) (fun _ => rfl) ?_
        intro x9 h9
        refine jr_seg 2 2 [17, 19] [] (st1 := ⟨[(17, .av (bs x9)), (19, .av (bs a0.Rel))], [], 1⟩) (by kernel_rfl) ?_
        refine jr_part (i := 4) (mo := cat x9 a0.Rel) rfl rfl rfl rfl (fun _ hc => aop_cat (by kernel_rfl) (by kernel_rfl) hc) (fun _ => rfl) ?_
        intro x10 h10
        refine jr_seg 5 1 [3] [] (st1 := ⟨[(3, .av (bs x10))], [], 1⟩) (by kernel_rfl) ?_
        refine jr_nil rfl ?_
        exact jx_mid rfl (wk_ren [] (fix_nil _) rfl (by kernel_rfl) allp_nil)
      · intro _
        refine jc_skip ?_
        exact jx_mid rfl (wk_ren [] (fix_nil _) rfl (by kernel_rfl) allp_nil)
    · intro x8
      refine jx_seqN ?_
      refine jc_seq ?_
      refine jc_reg ?_
      refine jr_seg 0 2 [2] [] (st1 := ⟨[(2, .av (bs x8))], [], 0⟩) (by kernel_rfl) ?_
      refine jr_nil rfl ?_
      refine jx_seqN ?_
      refine jc_ret ?_
      exact jx_retF (.inr rfl) (v := bs x8) (by kernel_rfl) rfl (fle_refl _))
end Go.Vm

set_option maxRecDepth 100000
set_option maxHeartbeats 0
set_option linter.unusedVariables false
set_option linter.unusedSimpArgs false
namespace Go.Vm
open Go
abbrev ref05_Fit_r1 : List LO := [⟨some 1, Op.box 51 (Operand.tmp 0), 0, none⟩,
  ⟨some 2, Op.assign (Operand.const (Value.bool false)), 4, none⟩]
abbrev ref05_Fit_b2 : LC := .reg false ref05_Fit_r1
abbrev ref05_Fit_r3 : List LO := [⟨some 3, Op.fieldAddr 51 (Operand.tmp 1) 0, 0, none⟩,
  ⟨some 4, Op.load 9 (Operand.tmp 3), 9, none⟩,
  ⟨some 5, Op.binOp BinOp.eql 9 (Operand.tmp 4) (Operand.const (Value.string { data := #[] })) 9, 4, none⟩,
  ⟨some 6, Op.move (Operand.tmp 5), 4, none⟩,
  ⟨some 7, Op.fieldAddr 51 (Operand.tmp 1) 0, 0, (some (6, false))⟩,
  ⟨some 8, Op.load 9 (Operand.tmp 7), 9, (some (6, false))⟩,
  ⟨some 9, Op.call { callee := Callee.value (Operand.func 31), args := #[Operand.tmp 8, Operand.const (Value.int IntKind.i64 0), Operand.const (Value.int IntKind.i64 1)], argTypes := #[9, 3, 3] }, 3, (some (6, false))⟩,
  ⟨some 10, Op.fieldAddr 51 (Operand.tmp 1) 0, 0, (some (6, false))⟩,
  ⟨some 11, Op.load 9 (Operand.tmp 10), 9, (some (6, false))⟩,
  ⟨some 12, Op.call { callee := Callee.builtin Builtin.len, args := #[Operand.tmp 11], argTypes := #[9] }, 3, (some (6, false))⟩,
  ⟨some 13, Op.binOp BinOp.neq 3 (Operand.tmp 9) (Operand.tmp 12) 3, 4, (some (6, false))⟩,
  ⟨some 14, Op.pick (Operand.tmp 6) (Operand.const (Value.bool true)) (Operand.tmp 13), 4, none⟩,
  ⟨some 15, Op.move (Operand.tmp 14), 4, none⟩,
  ⟨some 16, Op.fieldAddr 51 (Operand.tmp 1) 0, 0, (some (15, false))⟩,
  ⟨some 17, Op.load 9 (Operand.tmp 16), 9, (some (15, false))⟩,
  ⟨some 18, Op.call { callee := Callee.value (Operand.func 16), args := #[Operand.tmp 17], argTypes := #[9] }, 9, (some (15, false))⟩,
  ⟨some 19, Op.fieldAddr 51 (Operand.tmp 1) 0, 0, (some (15, false))⟩,
  ⟨some 20, Op.load 9 (Operand.tmp 19), 9, (some (15, false))⟩,
  ⟨some 21, Op.binOp BinOp.neq 9 (Operand.tmp 18) (Operand.tmp 20) 9, 4, (some (15, false))⟩,
  ⟨some 22, Op.pick (Operand.tmp 15) (Operand.const (Value.bool true)) (Operand.tmp 21), 4, none⟩,
  ⟨some 23, Op.move (Operand.tmp 22), 4, none⟩,
  ⟨some 24, Op.fieldAddr 51 (Operand.tmp 1) 1, 0, (some (23, false))⟩,
  ⟨some 25, Op.load 9 (Operand.tmp 24), 9, (some (23, false))⟩,
  ⟨some 26, Op.call { callee := Callee.value (Operand.func 84), args := #[Operand.tmp 25], argTypes := #[9] }, 4, (some (23, false))⟩,
  ⟨some 27, Op.unOp UnOp.not 4 (Operand.tmp 26), 4, (some (23, false))⟩,
  ⟨some 28, Op.pick (Operand.tmp 23) (Operand.const (Value.bool true)) (Operand.tmp 27), 4, none⟩,
  ⟨some 29, Op.move (Operand.tmp 28), 4, none⟩,
  ⟨some 30, Op.load 51 (Operand.tmp 1), 51, (some (29, false))⟩,
  ⟨some 31, Op.call { callee := Callee.value (Operand.func 85), args := #[Operand.tmp 30], argTypes := #[51] }, 9, (some (29, false))⟩,
  ⟨some 32, Op.call { callee := Callee.builtin Builtin.len, args := #[Operand.tmp 31], argTypes := #[9] }, 3, (some (29, false))⟩,
  ⟨some 33, Op.binOp BinOp.gtr 3 (Operand.tmp 32) (Operand.const (Value.int IntKind.i64 64)) 3, 4, (some (29, false))⟩,
  ⟨some 34, Op.pick (Operand.tmp 29) (Operand.const (Value.bool true)) (Operand.tmp 33), 4, none⟩]
abbrev ref05_Fit_b4 : LC := .reg true ref05_Fit_r3
abbrev ref05_Fit_r5 : List LO := [⟨some 2, Op.assign (Operand.const (Value.bool false)), 4, none⟩]
abbrev ref05_Fit_b6 : LC := .reg false ref05_Fit_r5
abbrev ref05_Fit_b7 : LC := .seq ref05_Fit_b6 .ret
abbrev ref05_Fit_b8 : LC := .cond (Operand.tmp 34) ref05_Fit_b7 .skip
abbrev ref05_Fit_b9 : LC := .seq ref05_Fit_b4 ref05_Fit_b8
abbrev ref05_Fit_r10 : List LO := [⟨some 35, Op.fieldAddr 51 (Operand.tmp 1) 3, 0, none⟩,
  ⟨some 36, Op.load 4 (Operand.tmp 35), 4, none⟩]
abbrev ref05_Fit_b11 : LC := .reg false ref05_Fit_r10
abbrev ref05_Fit_r12 : List LO := [⟨some 37, Op.fieldAddr 51 (Operand.tmp 1) 2, 0, none⟩,
  ⟨some 38, Op.load 9 (Operand.tmp 37), 9, none⟩,
  ⟨some 39, Op.call { callee := Callee.value (Operand.func 84), args := #[Operand.tmp 38], argTypes := #[9] }, 4, none⟩,
  ⟨some 2, Op.assign (Operand.tmp 39), 4, none⟩]
abbrev ref05_Fit_b13 : LC := .reg false ref05_Fit_r12
abbrev ref05_Fit_b14 : LC := .seq ref05_Fit_b13 .ret
abbrev ref05_Fit_b15 : LC := .cond (Operand.tmp 36) ref05_Fit_b14 .skip
abbrev ref05_Fit_b16 : LC := .seq ref05_Fit_b11 ref05_Fit_b15
abbrev ref05_Fit_r17 : List LO := [⟨some 40, Op.fieldAddr 51 (Operand.tmp 1) 2, 0, none⟩,
  ⟨some 41, Op.load 9 (Operand.tmp 40), 9, none⟩,
  ⟨some 42, Op.binOp BinOp.eql 9 (Operand.tmp 41) (Operand.const (Value.string { data := #[] })) 9, 4, none⟩,
  ⟨some 2, Op.assign (Operand.tmp 42), 4, none⟩]
abbrev ref05_Fit_b18 : LC := .reg false ref05_Fit_r17
abbrev ref05_Fit_b19 : LC := .seq ref05_Fit_b18 .ret
abbrev ref05_Fit_b20 : LC := .seq ref05_Fit_b16 ref05_Fit_b19
abbrev ref05_Fit_b21 : LC := .seq ref05_Fit_b9 ref05_Fit_b20
abbrev ref05_Fit_b22 : LC := .seq ref05_Fit_b2 ref05_Fit_b21
theorem ref05_Fit_k : FnOk E 44 43 [.tmp 2] ref05_Fit_b22 := ⟨⟨Go.Proofs.Tryd.f44, by kernel_rfl, by kernel_rfl, by kernel_rfl, by kernel_rfl, by kernel_rfl⟩, rfl⟩
noncomputable def ref05_Fit (a0 : S_api_Evr) : Option (Bool) := Option.bind (if (a0.Epoch == []) = true then some true else Option.bind (ref01_Run a0.Epoch 0 1) (fun x3 => some (x3 != (List.length a0.Epoch : Int))) : Option (Bool)) (fun x2 => Option.bind (if x2 = true then some true else Option.bind (ref01_Trim a0.Epoch) (fun x6 => some (!(x6 == a0.Epoch))) : Option (Bool)) (fun x5 => Option.bind (if x5 = true then some true else Option.bind (ref05_segments a0.Ver) (fun x9 => some (!x9)) : Option (Bool)) (fun x8 => Option.bind (if x8 = true then some true else Option.bind (ref05_raw a0) (fun x12 => some (decide ((List.length x12 : Int) > 64))) : Option (Bool)) (fun x11 => (if x11 = true then some false else (if a0.HasRel = true then Option.bind (ref05_segments a0.Rel) (fun x13 => some x13) else some (a0.Rel == [])))))))
theorem ref05_Fit_ok (a0 : S_api_Evr) : Ct E 44 [.agg [bs a0.Epoch, bs a0.Ver, bs a0.Rel, bv a0.HasRel]] (ref05_Fit a0) (fun r : Bool => bv r) := ct_intro (N := 43) (L := ref05_Fit_b22) ref05_Fit_k rfl (Nat.le_of_ble_eq_true rfl) (by kernel_rfl) (by
  unfold ref05_Fit
  refine jc_seq ?_
  refine jc_reg ?_
  refine jr_seg 0 2 [1] [0] (st1 := ⟨[(1, .av (.ptr 0 0 4 0))], [(0, .rows 4 [[bs a0.Epoch, bs a0.Ver, bs a0.Rel, bv a0.HasRel]])], 1⟩) (by kernel_rfl) ?_
  refine jr_nil rfl ?_
  refine jx_seqN ?_
  refine jc_seq ?_
  refine jc_seq ?_
  refine jc_reg ?_
  refine jr_seg 0 4 [1, 6] [0] (st1 := ⟨[(1, .av (.ptr 0 0 4 0)), (6, .av (bv (a0.Epoch == [])))], [(0, .rows 4 [[bs a0.Epoch, bs a0.Ver, bs a0.Rel, bv a0.HasRel]])], 1⟩) (by kernel_rfl) ?_
  refine jr_bind 4 8 (fun x2 => ⟨[(1, .av (.ptr 0 0 4 0)), (14, .av (bv x2))], [(0, .rows 4 [[bs a0.Epoch, bs a0.Ver, bs a0.Rel, bv a0.HasRel]])], 1⟩) ?_ ?_
  · refine jr_split (g := 6) (c := (a0.Epoch == [])) (by kernel_rfl) ?_ ?_
    · intro _
      refine jr_seg 0 8 [1, 14] [0] (st1 := ⟨[(1, .av (.ptr 0 0 4 0)), (14, .av (bv true))], [(0, .rows 4 [[bs a0.Epoch, bs a0.Ver, bs a0.Rel, bv a0.HasRel]])], 1⟩) (by kernel_rfl) ?_
      refine jr_nil rfl ?_
      exact jx_mid rfl (wk_ren [(0, some 0)] (fix_nil _) rfl (by kernel_rfl) (allp_cons (.inl ⟨0, _, _, _, rfl, rfl, rfl, .inl (by kernel_rfl)⟩) allp_nil))
    · intro _
      refine jr_seg 0 2 [1, 6, 8] [0] (st1 := ⟨[(1, .av (.ptr 0 0 4 0)), (6, .lit false), (8, .av (bs a0.Epoch))], [(0, .rows 4 [[bs a0.Epoch, bs a0.Ver, bs a0.Rel, bv a0.HasRel]])], 1⟩) (by kernel_rfl) ?_
      refine jr_callF (i := 2) rfl rfl rfl rfl (vs := [bs a0.Epoch, iv 0, iv 1]) (by kernel_rfl) (snapL_cons rfl (snapL_cons rfl (snapL_cons rfl (snapL_nil _)))) (all2_cons (fle_refl _) (all2_cons (fle_refl _) (all2_cons (fle_refl _) all2_nil))) (ref01_Run_ok a0.Epoch 0 1) (fun _ => rfl) (fun _ => rfl) ?_
      intro x3 h3
      refine jr_seg 3 5 [1, 14] [0] (st1 := ⟨[(1, .av (.ptr 0 0 4 0)), (14, .av (bv (x3 != (List.length a0.Epoch : Int))))], [(0, .rows 4 [[bs a0.Epoch, bs a0.Ver, bs a0.Rel, bv a0.HasRel]])], 1⟩) (by kernel_rfl) ?_
      refine jr_nil rfl ?_
      exact jx_mid rfl (wk_ren [(0, some 0)] (fix_nil _) rfl (by kernel_rfl) (allp_cons (.inl ⟨0, _, _, _, rfl, rfl, rfl, .inl (by kernel_rfl)⟩) allp_nil))
  · intro x2
    refine jr_seg 12 1 [1, 15] [0] (st1 := ⟨[(1, .av (.ptr 0 0 4 0)), (15, .av (bv x2))], [(0, .rows 4 [[bs a0.Epoch, bs a0.Ver, bs a0.Rel, bv a0.HasRel]])], 1⟩) (by kernel_rfl) ?_
    refine jr_bind 13 7 (fun x5 => ⟨[(1, .av (.ptr 0 0 4 0)), (22, .av (bv x5))], [(0, .rows 4 [[bs a0.Epoch, bs a0.Ver, bs a0.Rel, bv a0.HasRel]])], 1⟩) ?_ ?_
    · refine jr_split (g := 15) (c := x2) (by kernel_rfl) ?_ ?_
      · intro _
        refine jr_seg 0 7 [1, 22] [0] (st1 := ⟨[(1, .av (.ptr 0 0 4 0)), (22, .av (bv true))], [(0, .rows 4 [[bs a0.Epoch, bs a0.Ver, bs a0.Rel, bv a0.HasRel]])], 1⟩) (by kernel_rfl) ?_
        refine jr_nil rfl ?_
        exact jx_mid rfl (wk_ren [(0, some 0)] (fix_nil _) rfl (by kernel_rfl) (allp_cons (.inl ⟨0, _, _, _, rfl, rfl, rfl, .inl (by kernel_rfl)⟩) allp_nil))
      · intro _
        refine jr_seg 0 2 [1, 15, 17] [0] (st1 := ⟨[(1, .av (.ptr 0 0 4 0)), (15, .lit false), (17, .av (bs a0.Epoch))], [(0, .rows 4 [[bs a0.Epoch, bs a0.Ver, bs a0.Rel, bv a0.HasRel]])], 1⟩) (by kernel_rfl) ?_
        refine jr_callF (i := 2) rfl rfl rfl rfl (vs := [bs a0.Epoch]) (by kernel_rfl) (snapL_cons rfl (snapL_nil _)) (all2_cons (fle_refl _) all2_nil) (ref01_Trim_ok a0.Epoch) (fun _ => rfl) (fun _ => rfl) ?_
        intro x6 h6
        refine jr_seg 3 4 [1, 22] [0] (st1 := ⟨[(1, .av (.ptr 0 0 4 0)), (22, .av (bv (!(x6 == a0.Epoch))))], [(0, .rows 4 [[bs a0.Epoch, bs a0.Ver, bs a0.Rel, bv a0.HasRel]])], 1⟩) (by kernel_rfl) ?_
        refine jr_nil rfl ?_
        exact jx_mid rfl (wk_ren [(0, some 0)] (fix_nil _) rfl (by kernel_rfl) (allp_cons (.inl ⟨0, _, _, _, rfl, rfl, rfl, .inl (by kernel_rfl)⟩) allp_nil))
    · intro x5
      refine jr_seg 20 1 [1, 23] [0] (st1 := ⟨[(1, .av (.ptr 0 0 4 0)), (23, .av (bv x5))], [(0, .rows 4 [[bs a0.Epoch, bs a0.Ver, bs a0.Rel, bv a0.HasRel]])], 1⟩) (by kernel_rfl) ?_
      refine jr_bind 21 5 (fun x8 => ⟨[(1, .av (.ptr 0 0 4 0)), (28, .av (bv x8))], [(0, .rows 4 [[bs a0.Epoch, bs a0.Ver, bs a0.Rel, bv a0.HasRel]])], 1⟩) ?_ ?_
      · refine jr_split (g := 23) (c := x5) (by kernel_rfl) ?_ ?_
        · intro _
          refine jr_seg 0 5 [1, 28] [0] (st1 := ⟨[(1, .av (.ptr 0 0 4 0)), (28, .av (bv true))], [(0, .rows 4 [[bs a0.Epoch, bs a0.Ver, bs a0.Rel, bv a0.HasRel]])], 1⟩) (by kernel_rfl) ?_
          refine jr_nil rfl ?_
          exact jx_mid rfl (wk_ren [(0, some 0)] (fix_nil _) rfl (by kernel_rfl) (allp_cons (.inl ⟨0, _, _, _, rfl, rfl, rfl, .inl (by kernel_rfl)⟩) allp_nil))
        · intro _
          refine jr_seg 0 2 [1, 23, 25] [0] (st1 := ⟨[(1, .av (.ptr 0 0 4 0)), (23, .lit false), (25, .av (bs a0.Ver))], [(0, .rows 4 [[bs a0.Epoch, bs a0.Ver, bs a0.Rel, bv a0.HasRel]])], 1⟩) (by kernel_rfl) ?_
          refine jr_callF (i := 2) rfl rfl rfl rfl (vs := [bs a0.Ver]) (by kernel_rfl) (snapL_cons rfl (snapL_nil _)) (all2_cons (fle_refl _) all2_nil) (ref05_segments_ok a0.Ver) (fun _ => rfl) (fun _ => rfl) ?_
          intro x9 h9
          refine jr_seg 3 2 [1, 28] [0] (st1 := ⟨[(1, .av (.ptr 0 0 4 0)), (28, .av (bv (!x9)))], [(0, .rows 4 [[bs a0.Epoch, bs a0.Ver, bs a0.Rel, bv a0.HasRel]])], 1⟩) (by kernel_rfl) ?_
          refine jr_nil rfl ?_
          exact jx_mid rfl (wk_ren [(0, some 0)] (fix_nil _) rfl (by kernel_rfl) (allp_cons (.inl ⟨0, _, _, _, rfl, rfl, rfl, .inl (by kernel_rfl)⟩) allp_nil))
      · intro x8
        refine jr_seg 26 1 [1, 29] [0] (st1 := ⟨[(1, .av (.ptr 0 0 4 0)), (29, .av (bv x8))], [(0, .rows 4 [[bs a0.Epoch, bs a0.Ver, bs a0.Rel, bv a0.HasRel]])], 1⟩) (by kernel_rfl) ?_
        refine jr_bind 27 5 (fun x11 => ⟨[(1, .av (.ptr 0 0 4 0)), (34, .av (bv x11))], [(0, .rows 4 [[bs a0.Epoch, bs a0.Ver, bs a0.Rel, bv a0.HasRel]])], 1⟩) ?_ ?_
        · refine jr_split (g := 29) (c := x8) (by kernel_rfl) ?_ ?_
          · intro _
            refine jr_seg 0 5 [1, 34] [0] (st1 := ⟨[(1, .av (.ptr 0 0 4 0)), (34, .av (bv true))], [(0, .rows 4 [[bs a0.Epoch, bs a0.Ver, bs a0.Rel, bv a0.HasRel]])], 1⟩) (by kernel_rfl) ?_
            refine jr_nil rfl ?_
            exact jx_mid rfl (wk_ren [(0, some 0)] (fix_nil _) rfl (by kernel_rfl) (allp_cons (.inl ⟨0, _, _, _, rfl, rfl, rfl, .inl (by kernel_rfl)⟩) allp_nil))
          · intro _
            refine jr_seg 0 1 [1, 29, 30] [0] (st1 := ⟨[(1, .av (.ptr 0 0 4 0)), (29, .lit false), (30, .av (.agg [bs a0.Epoch, bs a0.Ver, bs a0.Rel, bv a0.HasRel]))], [(0, .rows 4 [[bs a0.Epoch, bs a0.Ver, bs a0.Rel, bv a0.HasRel]])], 1⟩) (by kernel_rfl) ?_
            refine jr_callF (i := 1) rfl rfl rfl rfl (vs := [.agg [bs a0.Epoch, bs a0.Ver, bs a0.Rel, bv a0.HasRel]]) (by kernel_rfl) (snapL_cons rfl (snapL_nil _)) (all2_cons (fle_refl _) all2_nil) (ref05_raw_ok a0) (fun _ => rfl) (fun _ => rfl) ?_
            intro x12 h12
            refine jr_seg 2 3 [1, 34] [0] (st1 := ⟨[(1, .av (.ptr 0 0 4 0)), (34, .av (bv (decide ((List.length x12 : Int) > 64))))], [(0, .rows 4 [[bs a0.Epoch, bs a0.Ver, bs a0.Rel, bv a0.HasRel]])], 1⟩) (by kernel_rfl) ?_
            refine jr_nil rfl ?_
            exact jx_mid rfl (wk_ren [(0, some 0)] (fix_nil _) rfl (by kernel_rfl) (allp_cons (.inl ⟨0, _, _, _, rfl, rfl, rfl, .inl (by kernel_rfl)⟩) allp_nil))
        · intro x11
          refine jr_nil rfl ?_
          refine jx_seqN ?_
          refine jc_cond (g := 34) (c := x11) (by kernel_rfl) ?_ ?_
          · intro _
            refine jc_seq ?_
            refine jc_reg ?_
            refine jr_seg 0 1 [2] [] (st1 := ⟨[(2, .av (bv false))], [], 1⟩) (by kernel_rfl) ?_
            refine jr_nil rfl ?_
            refine jx_seqN ?_
            refine jc_ret ?_
            refine jx_seqR ?_
            exact jx_retF (.inr rfl) (v := bv false) (by kernel_rfl) rfl (fle_refl _)
          · intro _
            refine jc_skip ?_
            refine jx_seqN ?_
            refine jc_seq ?_
            refine jc_seq ?_
            refine jc_reg ?_
            refine jr_seg 0 2 [1, 36] [0] (st1 := ⟨[(1, .av (.ptr 0 0 4 0)), (36, .av (bv a0.HasRel))], [(0, .rows 4 [[bs a0.Epoch, bs a0.Ver, bs a0.Rel, bv a0.HasRel]])], 1⟩) (by kernel_rfl) ?_
            refine jr_nil rfl ?_
            refine jx_seqN ?_
            refine jc_cond (g := 36) (c := a0.HasRel) (by kernel_rfl) ?_ ?_
            · intro _
              refine jc_seq ?_
              refine jc_reg ?_
              refine jr_seg 0 2 [38] [] (st1 := ⟨[(38, .av (bs a0.Rel))], [], 1⟩) (by kernel_rfl) ?_
              refine jr_callF (i := 2) rfl rfl rfl rfl (vs := [bs a0.Rel]) (by kernel_rfl) (snapL_cons rfl (snapL_nil _)) (all2_cons (fle_refl _) all2_nil) (ref05_segments_ok a0.Rel) (fun _ => rfl) (fun _ => rfl) ?_
              intro x13 h13
              refine jr_seg 3 1 [2] [] (st1 := ⟨[(2, .av (bv x13))], [], 1⟩) (by kernel_rfl) ?_
              refine jr_nil rfl ?_
              refine jx_seqN ?_
              refine jc_ret ?_
              refine jx_seqR ?_
              exact jx_retF (.inr rfl) (v := bv x13) (by kernel_rfl) rfl (fle_refl _)
            · intro _
              refine jc_skip ?_
              refine jx_seqN ?_
              refine jc_seq ?_
              refine jc_reg ?_
              refine jr_seg 0 4 [2] [] (st1 := ⟨[(2, .av (bv (a0.Rel == [])))], [], 1⟩) (by kernel_rfl) ?_
              refine jr_nil rfl ?_
              refine jx_seqN ?_
              refine jc_ret ?_
              exact jx_retF (.inr rfl) (v := bv (a0.Rel == [])) (by kernel_rfl) rfl (fle_refl _))
end Go.Vm

set_option maxRecDepth 100000
set_option maxHeartbeats 0
set_option linter.unusedVariables false
set_option linter.unusedSimpArgs false
namespace Go.Vm
open Go
abbrev ref05_Order_r1 : List LO := [⟨some 2, Op.box 51 (Operand.tmp 0), 0, none⟩,
  ⟨some 3, Op.box 51 (Operand.tmp 1), 0, none⟩,
  ⟨some 4, Op.assign (Operand.const (Value.int IntKind.i64 0)), 3, none⟩]
abbrev ref05_Order_b2 : LC := .reg false ref05_Order_r1
abbrev ref05_Order_r3 : List LO := [⟨some 6, Op.load 51 (Operand.tmp 2), 51, none⟩,
  ⟨some 7, Op.call { callee := Callee.value (Operand.func 44), args := #[Operand.tmp 6], argTypes := #[51] }, 4, none⟩,
  ⟨some 8, Op.unOp UnOp.not 4 (Operand.tmp 7), 4, none⟩,
  ⟨some 9, Op.move (Operand.tmp 8), 4, none⟩,
  ⟨some 10, Op.load 51 (Operand.tmp 3), 51, (some (9, false))⟩,
  ⟨some 11, Op.call { callee := Callee.value (Operand.func 44), args := #[Operand.tmp 10], argTypes := #[51] }, 4, (some (9, false))⟩,
  ⟨some 12, Op.unOp UnOp.not 4 (Operand.tmp 11), 4, (some (9, false))⟩,
  ⟨some 13, Op.pick (Operand.tmp 9) (Operand.const (Value.bool true)) (Operand.tmp 12), 4, none⟩]
abbrev ref05_Order_b4 : LC := .reg false ref05_Order_r3
abbrev ref05_Order_r5 : List LO := [⟨some 4, Op.assign (Operand.const (Value.int IntKind.i64 0)), 3, none⟩]
abbrev ref05_Order_b6 : LC := .reg false ref05_Order_r5
abbrev ref05_Order_b7 : LC := .seq ref05_Order_b6 .ret
abbrev ref05_Order_b8 : LC := .cond (Operand.tmp 13) ref05_Order_b7 .skip
abbrev ref05_Order_b9 : LC := .seq ref05_Order_b4 ref05_Order_b8
abbrev ref05_Order_r10 : List LO := [⟨some 14, Op.fieldAddr 51 (Operand.tmp 2) 0, 0, none⟩,
  ⟨some 15, Op.load 9 (Operand.tmp 14), 9, none⟩,
  ⟨some 16, Op.fieldAddr 51 (Operand.tmp 3) 0, 0, none⟩,
  ⟨some 17, Op.load 9 (Operand.tmp 16), 9, none⟩,
  ⟨some 18, Op.call { callee := Callee.value (Operand.func 18), args := #[Operand.tmp 15, Operand.tmp 17], argTypes := #[9, 9] }, 3, none⟩,
  ⟨some 5, Op.assign (Operand.tmp 18), 3, none⟩]
abbrev ref05_Order_b11 : LC := .reg false ref05_Order_r10
abbrev ref05_Order_r12 : List LO := [⟨some 19, Op.move (Operand.tmp 5), 3, none⟩,
  ⟨some 20, Op.binOp BinOp.eql 3 (Operand.tmp 19) (Operand.const (Value.int IntKind.i64 0)) 3, 4, none⟩]
abbrev ref05_Order_b13 : LC := .reg false ref05_Order_r12
abbrev ref05_Order_r14 : List LO := [⟨some 21, Op.fieldAddr 51 (Operand.tmp 2) 1, 0, none⟩,
  ⟨some 22, Op.load 9 (Operand.tmp 21), 9, none⟩,
  ⟨some 23, Op.fieldAddr 51 (Operand.tmp 3) 1, 0, none⟩,
  ⟨some 24, Op.load 9 (Operand.tmp 23), 9, none⟩,
  ⟨some 25, Op.call { callee := Callee.value (Operand.func 40), args := #[Operand.tmp 22, Operand.tmp 24], argTypes := #[9, 9] }, 3, none⟩,
  ⟨some 5, Op.assign (Operand.tmp 25), 3, none⟩]
abbrev ref05_Order_b15 : LC := .reg false ref05_Order_r14
abbrev ref05_Order_b16 : LC := .cond (Operand.tmp 20) ref05_Order_b15 .skip
abbrev ref05_Order_b17 : LC := .seq ref05_Order_b13 ref05_Order_b16
abbrev ref05_Order_r18 : List LO := [⟨some 27, Op.move (Operand.tmp 5), 3, none⟩,
  ⟨some 28, Op.binOp BinOp.neq 3 (Operand.tmp 27) (Operand.const (Value.int IntKind.i64 0)) 3, 4, none⟩,
  ⟨some 26, Op.assign (Operand.tmp 28), 4, none⟩]
abbrev ref05_Order_b19 : LC := .reg false ref05_Order_r18
abbrev ref05_Order_r20 : List LO := [⟨some 29, Op.move (Operand.tmp 5), 3, none⟩,
  ⟨some 4, Op.assign (Operand.tmp 29), 3, none⟩]
abbrev ref05_Order_b21 : LC := .reg false ref05_Order_r20
abbrev ref05_Order_b22 : LC := .seq ref05_Order_b21 .ret
abbrev ref05_Order_r23 : List LO := [⟨some 31, Op.fieldAddr 51 (Operand.tmp 2) 3, 0, none⟩,
  ⟨some 32, Op.load 4 (Operand.tmp 31), 4, none⟩,
  ⟨some 33, Op.move (Operand.tmp 32), 4, none⟩,
  ⟨some 34, Op.fieldAddr 51 (Operand.tmp 3) 3, 0, (some (33, true))⟩,
  ⟨some 35, Op.load 4 (Operand.tmp 34), 4, (some (33, true))⟩,
  ⟨some 36, Op.unOp UnOp.not 4 (Operand.tmp 35), 4, (some (33, true))⟩,
  ⟨some 37, Op.pick (Operand.tmp 33) (Operand.tmp 36) (Operand.const (Value.bool false)), 4, none⟩,
  ⟨some 30, Op.assign (Operand.tmp 37), 4, none⟩]
abbrev ref05_Order_b24 : LC := .reg false ref05_Order_r23
abbrev ref05_Order_r25 : List LO := [⟨some 4, Op.assign (Operand.const (Value.int IntKind.i64 1)), 3, none⟩]
abbrev ref05_Order_b26 : LC := .reg false ref05_Order_r25
abbrev ref05_Order_b27 : LC := .seq ref05_Order_b26 .ret
abbrev ref05_Order_r28 : List LO := [⟨some 39, Op.fieldAddr 51 (Operand.tmp 2) 3, 0, none⟩,
  ⟨some 40, Op.load 4 (Operand.tmp 39), 4, none⟩,
  ⟨some 41, Op.unOp UnOp.not 4 (Operand.tmp 40), 4, none⟩,
  ⟨some 42, Op.move (Operand.tmp 41), 4, none⟩,
  ⟨some 43, Op.fieldAddr 51 (Operand.tmp 3) 3, 0, (some (42, true))⟩,
  ⟨some 44, Op.load 4 (Operand.tmp 43), 4, (some (42, true))⟩,
  ⟨some 45, Op.pick (Operand.tmp 42) (Operand.tmp 44) (Operand.const (Value.bool false)), 4, none⟩,
  ⟨some 38, Op.assign (Operand.tmp 45), 4, none⟩]
abbrev ref05_Order_b29 : LC := .reg false ref05_Order_r28
abbrev ref05_Order_r30 : List LO := [⟨some 4, Op.assign (Operand.const (Value.int IntKind.i64 (-1))), 3, none⟩]
abbrev ref05_Order_b31 : LC := .reg false ref05_Order_r30
abbrev ref05_Order_b32 : LC := .seq ref05_Order_b31 .ret
abbrev ref05_Order_b33 : LC := .cond (Operand.tmp 38) ref05_Order_b32 .skip
abbrev ref05_Order_b34 : LC := .seq ref05_Order_b29 ref05_Order_b33
abbrev ref05_Order_b35 : LC := .cond (Operand.tmp 30) ref05_Order_b27 ref05_Order_b34
abbrev ref05_Order_b36 : LC := .seq ref05_Order_b24 ref05_Order_b35
abbrev ref05_Order_b37 : LC := .cond (Operand.tmp 26) ref05_Order_b22 ref05_Order_b36
abbrev ref05_Order_b38 : LC := .seq ref05_Order_b19 ref05_Order_b37
abbrev ref05_Order_b39 : LC := .block 0 ref05_Order_b38
abbrev ref05_Order_r40 : List LO := [⟨some 46, Op.fieldAddr 51 (Operand.tmp 2) 2, 0, none⟩,
  ⟨some 47, Op.load 9 (Operand.tmp 46), 9, none⟩,
  ⟨some 48, Op.fieldAddr 51 (Operand.tmp 3) 2, 0, none⟩,
  ⟨some 49, Op.load 9 (Operand.tmp 48), 9, none⟩,
  ⟨some 50, Op.call { callee := Callee.value (Operand.func 40), args := #[Operand.tmp 47, Operand.tmp 49], argTypes := #[9, 9] }, 3, none⟩,
  ⟨some 4, Op.assign (Operand.tmp 50), 3, none⟩]
abbrev ref05_Order_b41 : LC := .reg false ref05_Order_r40
abbrev ref05_Order_b42 : LC := .seq ref05_Order_b41 .ret
abbrev ref05_Order_b43 : LC := .seq ref05_Order_b39 ref05_Order_b42
abbrev ref05_Order_b44 : LC := .seq ref05_Order_b17 ref05_Order_b43
abbrev ref05_Order_b45 : LC := .seq ref05_Order_b11 ref05_Order_b44
abbrev ref05_Order_b46 : LC := .seq ref05_Order_b9 ref05_Order_b45
abbrev ref05_Order_b47 : LC := .seq ref05_Order_b2 ref05_Order_b46
theorem ref05_Order_k : FnOk E 49 51 [.tmp 4] ref05_Order_b47 := ⟨⟨Go.Proofs.Tryd.f49, by kernel_rfl, by kernel_rfl, by kernel_rfl, by kernel_rfl, by kernel_rfl⟩, rfl⟩
noncomputable def ref05_Order (a0 : S_api_Evr) (a1 : S_api_Evr) : Option (Int) := Option.bind (ref05_Fit a0) (fun x1 => Option.bind (if (!x1) = true then some true else Option.bind (ref05_Fit a1) (fun x4 => some (!x4)) : Option (Bool)) (fun x3 => (if x3 = true then some 0 else Option.bind (ref01_Cmp a0.Epoch a1.Epoch) (fun x5 => Option.bind ((if (x5 == 0) = true then Option.bind (ref05_Segments a0.Ver a1.Ver) (fun x8 => some x8) else some x5) : Option (Int)) (fun x7 => (if (x7 != 0) = true then some x7 else (if (a0.HasRel && (!a1.HasRel)) = true then some 1 else (if ((!a0.HasRel) && a1.HasRel) = true then some (-1) else Option.bind (ref05_Segments a0.Rel a1.Rel) (fun x9 => some x9)))))))))
theorem ref05_Order_ok (a0 : S_api_Evr) (a1 : S_api_Evr) : Ct E 49 [.agg [bs a0.Epoch, bs a0.Ver, bs a0.Rel, bv a0.HasRel], .agg [bs a1.Epoch, bs a1.Ver, bs a1.Rel, bv a1.HasRel]] (ref05_Order a0 a1) (fun r : Int => iv r) := ct_intro (N := 51) (L := ref05_Order_b47) ref05_Order_k rfl (Nat.le_of_ble_eq_true rfl) (by kernel_rfl) (by
  unfold ref05_Order
  refine jc_seq ?_
  refine jc_reg ?_
  refine jr_seg 0 3 [2, 3] [0, 1] (st1 := ⟨[(2, .av (.ptr 0 0 4 0)), (3, .av (.ptr 1 0 4 0))], [(0, .rows 4 [[bs a0.Epoch, bs a0.Ver, bs a0.Rel, bv a0.HasRel]]), (1, .rows 4 [[bs a1.Epoch, bs a1.Ver, bs a1.Rel, bv a1.HasRel]])], 2⟩) (by kernel_rfl) ?_
  refine jr_nil rfl ?_
  refine jx_seqN ?_
  refine jc_seq ?_
  refine jc_seq ?_
  refine jc_reg ?_
  refine jr_seg 0 1 [2, 3, 6] [0, 1] (st1 := ⟨[(2, .av (.ptr 0 0 4 0)), (3, .av (.ptr 1 0 4 0)), (6, .av (.agg [bs a0.Epoch, bs a0.Ver, bs a0.Rel, bv a0.HasRel]))], [(0, .rows 4 [[bs a0.Epoch, bs a0.Ver, bs a0.Rel, bv a0.HasRel]]), (1, .rows 4 [[bs a1.Epoch, bs a1.Ver, bs a1.Rel, bv a1.HasRel]])], 2⟩) (by kernel_rfl) ?_
  refine jr_callF (i := 1) rfl rfl rfl rfl (vs := [.agg [bs a0.Epoch, bs a0.Ver, bs a0.Rel, bv a0.HasRel]]) (by kernel_rfl) (snapL_cons rfl (snapL_nil _)) (all2_cons (fle_refl _) all2_nil) (ref05_Fit_ok a0) (fun _ => rfl) (fun _ => rfl) ?_
  intro x1 h1
  refine jr_seg 2 2 [2, 3, 9] [0, 1] (st1 := ⟨[(2, .av (.ptr 0 0 4 0)), (3, .av (.ptr 1 0 4 0)), (9, .av (bv (!x1)))], [(0, .rows 4 [[bs a0.Epoch, bs a0.Ver, bs a0.Rel, bv a0.HasRel]]), (1, .rows 4 [[bs a1.Epoch, bs a1.Ver, bs a1.Rel, bv a1.HasRel]])], 2⟩) (by kernel_rfl) ?_
  refine jr_bind 4 4 (fun x3 => ⟨[(2, .av (.ptr 0 0 4 0)), (3, .av (.ptr 1 0 4 0)), (13, .av (bv x3))], [(0, .rows 4 [[bs a0.Epoch, bs a0.Ver, bs a0.Rel, bv a0.HasRel]]), (1, .rows 4 [[bs a1.Epoch, bs a1.Ver, bs a1.Rel, bv a1.HasRel]])], 2⟩) ?_ ?_
  · refine jr_split (g := 9) (c := (!x1)) (by kernel_rfl) ?_ ?_
    · intro _
      refine jr_seg 0 4 [2, 3, 13] [0, 1] (st1 := ⟨[(2, .av (.ptr 0 0 4 0)), (3, .av (.ptr 1 0 4 0)), (13, .av (bv true))], [(0, .rows 4 [[bs a0.Epoch, bs a0.Ver, bs a0.Rel, bv a0.HasRel]]), (1, .rows 4 [[bs a1.Epoch, bs a1.Ver, bs a1.Rel, bv a1.HasRel]])], 2⟩) (by kernel_rfl) ?_
      refine jr_nil rfl ?_
      exact jx_mid rfl (wk_ren [(0, some 0), (1, some 1)] (fix_nil _) rfl (by kernel_rfl) (allp_cons (.inl ⟨0, _, _, _, rfl, rfl, rfl, .inl (by kernel_rfl)⟩) (allp_cons (.inl ⟨1, _, _, _, rfl, rfl, rfl, .inl (by kernel_rfl)⟩) allp_nil)))
    · intro _
      refine jr_seg 0 1 [2, 3, 9, 10] [0, 1] (st1 := ⟨[(2, .av (.ptr 0 0 4 0)), (3, .av (.ptr 1 0 4 0)), (9, .lit false), (10, .av (.agg [bs a1.Epoch, bs a1.Ver, bs a1.Rel, bv a1.HasRel]))], [(0, .rows 4 [[bs a0.Epoch, bs a0.Ver, bs a0.Rel, bv a0.HasRel]]), (1, .rows 4 [[bs a1.Epoch, bs a1.Ver, bs a1.Rel, bv a1.HasRel]])], 2⟩) (by kernel_rfl) ?_
      refine jr_callF (i := 1) rfl rfl rfl rfl (vs := [.agg [bs a1.Epoch, bs a1.Ver, bs a1.Rel, bv a1.HasRel]]) (by kernel_rfl) (snapL_cons rfl (snapL_nil _)) (all2_cons (fle_refl _) all2_nil) (ref05_Fit_ok a1) (fun _ => rfl) (fun _ => rfl) ?_
      intro x4 h4
      refine jr_seg 2 2 [2, 3, 13] [0, 1] (st1 := ⟨[(2, .av (.ptr 0 0 4 0)), (3, .av (.ptr 1 0 4 0)), (13, .av (bv (!x4)))], [(0, .rows 4 [[bs a0.Epoch, bs a0.Ver, bs a0.Rel, bv a0.HasRel]]), (1, .rows 4 [[bs a1.Epoch, bs a1.Ver, bs a1.Rel, bv a1.HasRel]])], 2⟩) (by kernel_rfl) ?_
      refine jr_nil rfl ?_
      exact jx_mid rfl (wk_ren [(0, some 0), (1, some 1)] (fix_nil _) rfl (by kernel_rfl) (allp_cons (.inl ⟨0, _, _, _, rfl, rfl, rfl, .inl (by kernel_rfl)⟩) (allp_cons (.inl ⟨1, _, _, _, rfl, rfl, rfl, .inl (by kernel_rfl)⟩) allp_nil)))
  · intro x3
    refine jr_nil rfl ?_
    refine jx_seqN ?_
    refine jc_cond (g := 13) (c := x3) (by kernel_rfl) ?_ ?_
    · intro _
      refine jc_seq ?_
      refine jc_reg ?_
      refine jr_seg 0 1 [4] [] (st1 := ⟨[(4, .av (iv 0))], [], 2⟩) (by kernel_rfl) ?_
      refine jr_nil rfl ?_
      refine jx_seqN ?_
      refine jc_ret ?_
      refine jx_seqR ?_
      exact jx_retF (.inr rfl) (v := iv 0) (by kernel_rfl) rfl (fle_refl _)
    · intro _
      refine jc_skip ?_
      refine jx_seqN ?_
      refine jc_seq ?_
      refine jc_reg ?_
      refine jr_seg 0 4 [2, 3, 15, 17] [0, 1] (st1 := ⟨[(2, .av (.ptr 0 0 4 0)), (3, .av (.ptr 1 0 4 0)), (15, .av (bs a0.Epoch)), (17, .av (bs a1.Epoch))], [(0, .rows 4 [[bs a0.Epoch, bs a0.Ver, bs a0.Rel, bv a0.HasRel]]), (1, .rows 4 [[bs a1.Epoch, bs a1.Ver, bs a1.Rel, bv a1.HasRel]])], 2⟩) (by kernel_rfl) ?_
      refine jr_callF (i := 4) rfl rfl rfl rfl (vs := [bs a0.Epoch, bs a1.Epoch]) (by kernel_rfl) (snapL_cons rfl (snapL_cons rfl (snapL_nil _))) (all2_cons (fle_refl _) (all2_cons (fle_refl _) all2_nil)) (ref01_Cmp_ok a0.Epoch a1.Epoch) (fun _ => rfl) (fun _ => rfl) ?_
      intro x5 h5
      refine jr_seg 5 1 [2, 3, 5] [0, 1] (st1 := ⟨[(2, .av (.ptr 0 0 4 0)), (3, .av (.ptr 1 0 4 0)), (5, .av (iv x5))], [(0, .rows 4 [[bs a0.Epoch, bs a0.Ver, bs a0.Rel, bv a0.HasRel]]), (1, .rows 4 [[bs a1.Epoch, bs a1.Ver, bs a1.Rel, bv a1.HasRel]])], 2⟩) (by kernel_rfl) ?_
      refine jr_nil rfl ?_
      refine jx_seqN ?_
      refine jc_seq ?_
      refine jc_bind (fun x7 => ⟨[(2, .av (.ptr 0 0 4 0)), (3, .av (.ptr 1 0 4 0)), (5, .av (iv x7))], [(0, .rows 4 [[bs a0.Epoch, bs a0.Ver, bs a0.Rel, bv a0.HasRel]]), (1, .rows 4 [[bs a1.Epoch, bs a1.Ver, bs a1.Rel, bv a1.HasRel]])], 2⟩) (fun x7 => .normal) ?_ ?_
      · refine jc_seq ?_
        refine jc_reg ?_
        refine jr_seg 0 2 [2, 3, 5, 20] [0, 1] (st1 := ⟨[(2, .av (.ptr 0 0 4 0)), (3, .av (.ptr 1 0 4 0)), (5, .av (iv x5)), (20, .av (bv (x5 == 0)))], [(0, .rows 4 [[bs a0.Epoch, bs a0.Ver, bs a0.Rel, bv a0.HasRel]]), (1, .rows 4 [[bs a1.Epoch, bs a1.Ver, bs a1.Rel, bv a1.HasRel]])], 2⟩) (by kernel_rfl) ?_
        refine jr_nil rfl ?_
        refine jx_seqN ?_
        refine jc_cond (g := 20) (c := (x5 == 0)) (by kernel_rfl) ?_ ?_
        · intro _
          refine jc_reg ?_
          refine jr_seg 0 4 [2, 3, 22, 24] [0, 1] (st1 := ⟨[(2, .av (.ptr 0 0 4 0)), (3, .av (.ptr 1 0 4 0)), (22, .av (bs a0.Ver)), (24, .av (bs a1.Ver))], [(0, .rows 4 [[bs a0.Epoch, bs a0.Ver, bs a0.Rel, bv a0.HasRel]]), (1, .rows 4 [[bs a1.Epoch, bs a1.Ver, bs a1.Rel, bv a1.HasRel]])], 2⟩) (by kernel_rfl) ?_
          refine jr_callF (i := 4) rfl rfl rfl rfl (vs := [bs a0.Ver, bs a1.Ver]) (by kernel_rfl) (snapL_cons rfl (snapL_cons rfl (snapL_nil _))) (all2_cons (fle_refl _) (all2_cons (fle_refl _) all2_nil)) (ref05_Segments_ok a0.Ver a1.Ver) (fun _ => rfl) (fun _ => rfl) ?_
          intro x8 h8
          refine jr_seg 5 1 [2, 3, 5] [0, 1] (st1 := ⟨[(2, .av (.ptr 0 0 4 0)), (3, .av (.ptr 1 0 4 0)), (5, .av (iv x8))], [(0, .rows 4 [[bs a0.Epoch, bs a0.Ver, bs a0.Rel, bv a0.HasRel]]), (1, .rows 4 [[bs a1.Epoch, bs a1.Ver, bs a1.Rel, bv a1.HasRel]])], 2⟩) (by kernel_rfl) ?_
          refine jr_nil rfl ?_
          exact jx_mid rfl (wk_ren [(0, some 0), (1, some 1)] (fix_nil _) rfl (by kernel_rfl) (allp_cons (.inl ⟨0, _, _, _, rfl, rfl, rfl, .inl (by kernel_rfl)⟩) (allp_cons (.inl ⟨1, _, _, _, rfl, rfl, rfl, .inl (by kernel_rfl)⟩) allp_nil)))
        · intro _
          refine jc_skip ?_
          exact jx_mid rfl (wk_ren [(0, some 0), (1, some 1)] (fix_nil _) rfl (by kernel_rfl) (allp_cons (.inl ⟨0, _, _, _, rfl, rfl, rfl, .inl (by kernel_rfl)⟩) (allp_cons (.inl ⟨1, _, _, _, rfl, rfl, rfl, .inl (by kernel_rfl)⟩) allp_nil)))
      · intro x7
        refine jx_seqN ?_
        refine jc_seq ?_
        refine jc_block ?_
        refine jc_seq ?_
        refine jc_reg ?_
        refine jr_seg 0 3 [2, 3, 5, 26] [0, 1] (st1 := ⟨[(2, .av (.ptr 0 0 4 0)), (3, .av (.ptr 1 0 4 0)), (5, .av (iv x7)), (26, .av (bv (x7 != 0)))], [(0, .rows 4 [[bs a0.Epoch, bs a0.Ver, bs a0.Rel, bv a0.HasRel]]), (1, .rows 4 [[bs a1.Epoch, bs a1.Ver, bs a1.Rel, bv a1.HasRel]])], 2⟩) (by kernel_rfl) ?_
        refine jr_nil rfl ?_
        refine jx_seqN ?_
        refine jc_cond (g := 26) (c := (x7 != 0)) (by kernel_rfl) ?_ ?_
        · intro _
          refine jc_seq ?_
          refine jc_reg ?_
          refine jr_seg 0 2 [4] [] (st1 := ⟨[(4, .av (iv x7))], [], 2⟩) (by kernel_rfl) ?_
          refine jr_nil rfl ?_
          refine jx_seqN ?_
          refine jc_ret ?_
          refine jx_blkR ?_
          refine jx_seqR ?_
          exact jx_retF (.inr rfl) (v := iv x7) (by kernel_rfl) rfl (fle_refl _)
        · intro _
          refine jc_seq ?_
          refine jc_reg ?_
          refine jr_seg 0 8 [2, 3, 30] [0, 1] (st1 := ⟨[(2, .av (.ptr 0 0 4 0)), (3, .av (.ptr 1 0 4 0)), (30, .av (bv (a0.HasRel && (!a1.HasRel))))], [(0, .rows 4 [[bs a0.Epoch, bs a0.Ver, bs a0.Rel, bv a0.HasRel]]), (1, .rows 4 [[bs a1.Epoch, bs a1.Ver, bs a1.Rel, bv a1.HasRel]])], 2⟩) (by kernel_rfl) ?_
          refine jr_nil rfl ?_
          refine jx_seqN ?_
          refine jc_cond (g := 30) (c := (a0.HasRel && (!a1.HasRel))) (by kernel_rfl) ?_ ?_
          · intro _
            refine jc_seq ?_
            refine jc_reg ?_
            refine jr_seg 0 1 [4] [] (st1 := ⟨[(4, .av (iv 1))], [], 2⟩) (by kernel_rfl) ?_
            refine jr_nil rfl ?_
            refine jx_seqN ?_
            refine jc_ret ?_
            refine jx_blkR ?_
            refine jx_seqR ?_
            exact jx_retF (.inr rfl) (v := iv 1) (by kernel_rfl) rfl (fle_refl _)
          · intro _
            refine jc_seq ?_
            refine jc_reg ?_
            refine jr_seg 0 8 [2, 3, 38] [0, 1] (st1 := ⟨[(2, .av (.ptr 0 0 4 0)), (3, .av (.ptr 1 0 4 0)), (38, .av (bv ((!a0.HasRel) && a1.HasRel)))], [(0, .rows 4 [[bs a0.Epoch, bs a0.Ver, bs a0.Rel, bv a0.HasRel]]), (1, .rows 4 [[bs a1.Epoch, bs a1.Ver, bs a1.Rel, bv a1.HasRel]])], 2⟩) (by kernel_rfl) ?_
            refine jr_nil rfl ?_
            refine jx_seqN ?_
            refine jc_cond (g := 38) (c := ((!a0.HasRel) && a1.HasRel)) (by kernel_rfl) ?_ ?_
            · intro _
              refine jc_seq ?_
              refine jc_reg ?_
              refine jr_seg 0 1 [4] [] (st1 := ⟨[(4, .av (iv (-1)))], [], 2⟩) (by kernel_rfl) ?_
              refine jr_nil rfl ?_
              refine jx_seqN ?_
              refine jc_ret ?_
              refine jx_blkR ?_
              refine jx_seqR ?_
              exact jx_retF (.inr rfl) (v := iv (-1)) (by kernel_rfl) rfl (fle_refl _)
            · intro _
              refine jc_skip ?_
              refine jx_blkN ?_
              refine jx_seqN ?_
              refine jc_seq ?_
              refine jc_reg ?_
              refine jr_seg 0 4 [47, 49] [] (st1 := ⟨[(47, .av (bs a0.Rel)), (49, .av (bs a1.Rel))], [], 2⟩) (by kernel_rfl) ?_
              refine jr_callF (i := 4) rfl rfl rfl rfl (vs := [bs a0.Rel, bs a1.Rel]) (by kernel_rfl) (snapL_cons rfl (snapL_cons rfl (snapL_nil _))) (all2_cons (fle_refl _) (all2_cons (fle_refl _) all2_nil)) (ref05_Segments_ok a0.Rel a1.Rel) (fun _ => rfl) (fun _ => rfl) ?_
              intro x9 h9
              refine jr_seg 5 1 [4] [] (st1 := ⟨[(4, .av (iv x9))], [], 2⟩) (by kernel_rfl) ?_
              refine jr_nil rfl ?_
              refine jx_seqN ?_
              refine jc_ret ?_
              exact jx_retF (.inr rfl) (v := iv x9) (by kernel_rfl) rfl (fle_refl _))
end Go.Vm

/- The law ScanBack, a part of its proof: what the functions that it reaches compute. -/
import Derived.Test.YtfkifahbmemepaaDoorDScanBack
import Derived.Test.YtfkifahbmemepaaDoorG0ScanBack
import Derived.Test.YtfkifahbmemepaaDoorW01ScanBack
set_option maxRecDepth 100000
set_option maxHeartbeats 0
set_option linter.unusedVariables false
set_option linter.unusedSimpArgs false
namespace Go.Vm
open Go
/-! ### dovetail/scan.Lines -/
abbrev scan_Lines_r1 : List LO := [⟨some 1, Op.box 9 (Operand.tmp 0), 0, none⟩,
  ⟨some 2, Op.assign (Operand.const (Value.slice none 0 0)), 27, none⟩]
abbrev scan_Lines_b2 : LC := .reg false scan_Lines_r1
abbrev scan_Lines_r3 : List LO := [⟨some 3, Op.alloc 27, 0, none⟩]
abbrev scan_Lines_b4 : LC := .reg false scan_Lines_r3
abbrev scan_Lines_r5 : List LO := [⟨some 5, Op.load 9 (Operand.tmp 1), 9, none⟩,
  ⟨some 6, Op.call { callee := Callee.value (Operand.func 68), args := #[Operand.tmp 5, Operand.const (Value.int IntKind.u8 10)], argTypes := #[9, 5] }, 78, none⟩]
abbrev scan_Lines_b6 : LC := .reg false scan_Lines_r5
abbrev scan_Lines_r7 : List LO := [⟨some 4, Op.alloc 30, 0, none⟩,
  ⟨none, Op.store 30 (Operand.tmp 4) (Operand.tmp 7), 0, none⟩]
abbrev scan_Lines_b8 : LC := .reg false scan_Lines_r7
abbrev scan_Lines_r9 : List LO := [⟨some 8, Op.fieldAddr 30 (Operand.tmp 4) 1, 0, none⟩,
  ⟨some 9, Op.load 3 (Operand.tmp 8), 3, none⟩,
  ⟨some 10, Op.load 9 (Operand.tmp 1), 9, none⟩,
  ⟨some 11, Op.call { callee := Callee.builtin Builtin.len, args := #[Operand.tmp 10], argTypes := #[9] }, 3, none⟩,
  ⟨some 12, Op.binOp BinOp.eql 3 (Operand.tmp 9) (Operand.tmp 11) 3, 4, none⟩]
abbrev scan_Lines_b10 : LC := .reg false scan_Lines_r9
abbrev scan_Lines_b11 : LC := .cond (Operand.tmp 12) (.exit 0) .skip
abbrev scan_Lines_b12 : LC := .seq scan_Lines_b10 scan_Lines_b11
abbrev scan_Lines_r13 : List LO := [⟨some 13, Op.fieldAddr 30 (Operand.tmp 4) 0, 0, none⟩,
  ⟨some 14, Op.load 9 (Operand.tmp 13), 9, none⟩,
  ⟨some 15, Op.call { callee := Callee.value (Operand.func 69), args := #[Operand.tmp 14, Operand.const (Value.string { data := #[13] })], argTypes := #[9, 9] }, 9, none⟩,
  ⟨some 16, Op.fieldAddr 30 (Operand.tmp 4) 0, 0, none⟩,
  ⟨none, Op.store 9 (Operand.tmp 16) (Operand.tmp 15), 0, none⟩]
abbrev scan_Lines_b14 : LC := .reg false scan_Lines_r13
abbrev scan_Lines_r15 : List LO := [⟨some 17, Op.load 27 (Operand.tmp 3), 27, none⟩,
  ⟨some 18, Op.load 30 (Operand.tmp 4), 30, none⟩,
  ⟨some 19, Op.buildSlice 27 1 #[(0, Operand.tmp 18)], 27, none⟩,
  ⟨some 20, Op.call { callee := Callee.builtin Builtin.append, args := #[Operand.tmp 17, Operand.tmp 19], argTypes := #[27, 27] }, 27, none⟩,
  ⟨none, Op.store 27 (Operand.tmp 3) (Operand.tmp 20), 0, none⟩]
abbrev scan_Lines_b16 : LC := .reg false scan_Lines_r15
abbrev scan_Lines_b17 : LC := .seq scan_Lines_b14 scan_Lines_b16
abbrev scan_Lines_b18 : LC := .seq scan_Lines_b12 scan_Lines_b17
abbrev scan_Lines_b19 : LC := .block 1 scan_Lines_b18
noncomputable def scan_Lines_y20_a0 : Code := codeSub (bodyOf Go.Proofs.Tryd.f24) [1, 1, 0, 1, 0, 0]
theorem scan_Lines_y20_aw : lower E scan_Lines_y20_a0 = some scan_Lines_b8 := by kernel_rfl
noncomputable def scan_Lines_y20_b0 : Code := codeSub (bodyOf Go.Proofs.Tryd.f24) [1, 1, 0, 1, 0, 1]
theorem scan_Lines_y20_bw : lower E scan_Lines_y20_b0 = some scan_Lines_b19 := by kernel_rfl
noncomputable abbrev scan_Lines_b21 : LC := .rng (Operand.tmp 6) [7] scan_Lines_y20_a0 scan_Lines_y20_b0
noncomputable abbrev scan_Lines_b22 : LC := .block 0 scan_Lines_b21
noncomputable abbrev scan_Lines_b23 : LC := .seq scan_Lines_b6 scan_Lines_b22
abbrev scan_Lines_r24 : List LO := [⟨some 21, Op.load 27 (Operand.tmp 3), 27, none⟩,
  ⟨some 2, Op.assign (Operand.tmp 21), 27, none⟩]
abbrev scan_Lines_b25 : LC := .reg false scan_Lines_r24
abbrev scan_Lines_b26 : LC := .seq scan_Lines_b25 .ret
noncomputable abbrev scan_Lines_b27 : LC := .seq scan_Lines_b23 scan_Lines_b26
noncomputable abbrev scan_Lines_b28 : LC := .seq scan_Lines_b4 scan_Lines_b27
noncomputable abbrev scan_Lines_b29 : LC := .seq scan_Lines_b2 scan_Lines_b28
theorem scan_Lines_k : FnOk E 24 22 [.tmp 2] scan_Lines_b29 := ⟨⟨Go.Proofs.Tryd.f24, by kernel_rfl, by kernel_rfl, by kernel_rfl, by kernel_rfl, by kernel_rfl⟩, rfl⟩
noncomputable abbrev scan_Lines_lp6 (x31 : Str × Int) (q : LoopState) (p : Option Code) : AObj := .loop { state := q, pending := p, tmps := tl 22 [(1, .av (.ptr 0 0 1 0)), (3, .av (.ptr 1 0 1 0)), (6, .av (.fn 110 [.fptr [bs x31.1] 0, .fptr [.s (.int .u8 x31.2)] 0]))] none, params := [7], assign := scan_Lines_y20_a0, body := scan_Lines_y20_b0 }
noncomputable def scan_Lines_l1 (a0 : Str) (x31 : Str × Int) : (Int × Int × List S_api_Piece) → Option (Step (Int × Int × List S_api_Piece) ((List S_api_Piece) ⊕ (List S_api_Piece))) := fun (x42, x43, x44) => Option.bind (subl x31.1 x42 (List.length x31.1 : Int)) (fun x60 => Option.bind (strings_IndexByte x60 x31.2) (fun x61 => (if (decide (x61 < 0)) = true then Option.bind (subl x31.1 x42 (List.length x31.1 : Int)) (fun x62 => Option.bind ((if (x42 == (List.length a0 : Int)) = true then some (Sum.inl ()) else Option.bind (strings_TrimSuffix x62 [13]) (fun x66 => Option.bind (app 32 x44 [(S_api_Piece.mk x66 x42 x43)]) (fun x67 => some (Sum.inr x67)))) : Option ((Unit) ⊕ (List S_api_Piece))) (fun y => match y with | Sum.inl _ => some (Step.done (Sum.inl x44)) | Sum.inr x65 => some (Step.done (Sum.inr x65)))) else Option.bind (subl x31.1 x42 (w64 (x42 + x61))) (fun x68 => Option.bind ((if (x42 == (List.length a0 : Int)) = true then some (Sum.inl ()) else Option.bind (strings_TrimSuffix x68 [13]) (fun x72 => Option.bind (app 32 x44 [(S_api_Piece.mk x72 x42 x43)]) (fun x73 => some (Sum.inr x73)))) : Option ((Unit) ⊕ (List S_api_Piece))) (fun y => match y with | Sum.inl _ => some (Step.done (Sum.inl x44)) | Sum.inr x71 => some (Step.next ((w64 (x42 + (w64 (x61 + 1)))), (w64 (x43 + 1)), x71)))))))
noncomputable def scan_Lines (a0 : Str) : Option ((List S_api_Piece)) := Option.bind (Option.bind (scan_pieces a0 10) (fun x31 => Option.bind (loopC (scan_Lines_l1 a0 x31) (0, 1, [])) (fun y => match y with | Sum.inl x58 => some x58 | Sum.inr x59 => some x59)) : Option (List S_api_Piece)) (fun x30 => some x30)
theorem scan_Lines_ok (a0 : Str) : Ct E 24 [bs a0] (scan_Lines a0) (fun r : (List S_api_Piece) => .fsl 3 (List.map c_S_api_Piece r)) := ct_intro (N := 22) (L := scan_Lines_b29) scan_Lines_k rfl (Nat.le_of_ble_eq_true rfl) (by kernel_rfl) (by
  unfold scan_Lines
  refine jc_seq ?_
  refine jc_reg ?_
  refine jr_seg 0 2 [1] [0] (st1 := ⟨[(1, .av (.ptr 0 0 1 0))], [(0, .rows 1 [[bs a0]])], 1⟩) (by kernel_rfl) ?_
  refine jr_nil rfl ?_
  refine jx_seqN ?_
  refine jc_seq ?_
  refine jc_reg ?_
  refine jr_seg 0 1 [1, 3] [0, 1] (st1 := ⟨[(1, .av (.ptr 0 0 1 0)), (3, .av (.ptr 1 0 1 0))], [(0, .rows 1 [[bs a0]]), (1, .rows 1 [[nilS]])], 2⟩) (by kernel_rfl) ?_
  refine jr_nil rfl ?_
  refine jx_seqN ?_
  refine jc_seq ?_
  refine jc_bind (fun x30 => ⟨[(3, .av (.ptr 0 0 1 0))], [(0, .rows 1 [[.osl 1 0 (List.length x30) 3]]), (1, .rows 3 (List.map c_S_api_Piece x30))], 2⟩) (fun x30 => .normal) ?_ ?_
  · refine jc_seq ?_
    refine jc_reg ?_
    refine jr_seg 0 1 [1, 3, 5] [0, 1] (st1 := ⟨[(1, .av (.ptr 0 0 1 0)), (3, .av (.ptr 1 0 1 0)), (5, .av (bs a0))], [(0, .rows 1 [[bs a0]]), (1, .rows 1 [[nilS]])], 2⟩) (by kernel_rfl) ?_
    refine jr_callF (i := 1) rfl rfl rfl rfl (vs := [bs a0, .s (.int .u8 10)]) (by kernel_rfl) (snapL_cons rfl (snapL_cons rfl (snapL_nil _))) (all2_cons (fle_refl _) (all2_cons (fle_refl _) all2_nil)) (scan_pieces_ok a0 10) (fun _ => rfl) (fun _ => rfl) ?_
    intro x31 h31
    refine jr_nil rfl ?_
    refine jx_seqN ?_
    refine jc_block ?_
    refine jc_keep [1, 3, 6] [0, 1] (st1 := ⟨[(1, .av (.ptr 0 0 1 0)), (3, .av (.ptr 1 0 1 0)), (6, .av (.fn 110 [.fptr [bs x31.1] 0, .fptr [.s (.int .u8 x31.2)] 0]))], [(0, .rows 1 [[bs a0]]), (1, .rows 1 [[nilS]])], 2⟩) (by kernel_rfl) ?_
    refine jc_rng (g := 110) (caps := [.fptr [bs x31.1] 0, .fptr [.s (.int .u8 x31.2)] 0]) (by kernel_rfl) scan_pieces_1_it_k (Nat.le_of_ble_eq_true rfl) ?_
    intro F6 hc6
    refine jc_seq ?_
    refine jc_reg ?_
    refine jr_seg 0 1 [0, 1, 2, 4] [0, 1, 2] (st1 := ⟨[(0, .av (.yld 2)), (1, .av (.fptr [bs x31.1] 0)), (2, .av (.fptr [.s (.int .u8 x31.2)] 0)), (4, .av (iv 0))], [(0, .rows 1 [[bs a0]]), (1, .rows 1 [[nilS]]), (2, scan_Lines_lp6 x31 .ready none)], 3⟩) (by kernel_rfl) ?_
    refine jr_nil rfl ?_
    refine jx_seqN ?_
    refine jc_seq ?_
    refine jc_reg ?_
    refine jr_seg 0 1 [0, 1, 2, 4, 5] [0, 1, 2] (st1 := ⟨[(0, .av (.yld 2)), (1, .av (.fptr [bs x31.1] 0)), (2, .av (.fptr [.s (.int .u8 x31.2)] 0)), (4, .av (iv 0)), (5, .av (iv 1))], [(0, .rows 1 [[bs a0]]), (1, .rows 1 [[nilS]]), (2, scan_Lines_lp6 x31 .ready none)], 3⟩) (by kernel_rfl) ?_
    refine jr_nil rfl ?_
    refine jx_seqN ?_
    refine jc_block ?_
    refine jc_bind (fun y => match y with | Sum.inl x58 => ⟨[], [(0, .rows 1 [[bs a0]]), (1, .rows 1 [[.osl 3 0 (List.length x58) 3]]), (2, scan_Lines_lp6 x31 .done (some (.exit 0))), (3, .rows 3 (List.map c_S_api_Piece x58))], 4⟩ | Sum.inr x59 => ⟨[], [(0, .rows 1 [[bs a0]]), (1, .rows 1 [[.osl 3 0 (List.length x59) 3]]), (2, scan_Lines_lp6 x31 .ready none), (3, .rows 3 (List.map c_S_api_Piece x59))], 4⟩) (fun y => match y with | Sum.inl x58 => .ret | Sum.inr x59 => .ret) (jc_loop (fun (x42, x43, x44) => ⟨[(0, .av (.yld 2)), (1, .av (.fptr [bs x31.1] 0)), (2, .av (.fptr [.s (.int .u8 x31.2)] 0)), (4, .av (iv x42)), (5, .av (iv x43))], [(0, .rows 1 [[bs a0]]), (1, .rows 1 [[.osl 3 0 (List.length x44) 3]]), (2, scan_Lines_lp6 x31 .ready none), (3, .rows 3 (List.map c_S_api_Piece x44))], 4⟩) (wk_ren [(0, some 0), (1, some 1), (2, some 2), (3, none)] (fix_of hc6.2.2 (k := 3) rfl) rfl (by kernel_rfl) (allp_cons (.inl ⟨0, _, _, _, rfl, rfl, rfl, .inl (by kernel_rfl)⟩) (allp_cons (.inl ⟨1, _, _, _, rfl, rfl, rfl, .inl (by kernel_rfl)⟩) (allp_cons (.inr (.inr ⟨2, _, _, rfl, rfl, rfl, by kernel_rfl⟩)) (allp_cons (.inr (.inl ⟨rfl, _, rfl⟩)) allp_nil))))) ?_) ?_
    · rintro ⟨x42, x43, x44⟩
      unfold scan_Lines_l1
      refine jc_seq ?_
      refine jc_block ?_
      refine jc_seq ?_
      refine jc_reg ?_
      refine jr_seg 0 2 [0, 1, 2, 4, 5, 9, 10] [0, 1, 2, 3] (st1 := ⟨[(0, .av (.yld 2)), (1, .av (.fptr [bs x31.1] 0)), (2, .av (.fptr [.s (.int .u8 x31.2)] 0)), (4, .av (iv x42)), (5, .av (iv x43)), (9, .av (bs x31.1)), (10, .av (iv x42))], [(0, .rows 1 [[bs a0]]), (1, .rows 1 [[.osl 3 0 (List.length x44) 3]]), (2, scan_Lines_lp6 x31 .ready none), (3, .rows 3 (List.map c_S_api_Piece x44))], 4⟩) (by kernel_rfl) ?_
      refine jr_part (i := 2) (mo := subl x31.1 x42 (List.length x31.1 : Int)) rfl rfl rfl rfl (fun _ hc => aop_subs (by kernel_rfl) (by kernel_rfl) (by kernel_rfl) (by kernel_rfl) hc) (fun _ => rfl) ?_
      intro x60 h60
      refine jr_seg 3 1 [0, 1, 2, 4, 5, 11, 12] [0, 1, 2, 3] (st1 := ⟨[(0, .av (.yld 2)), (1, .av (.fptr [bs x31.1] 0)), (2, .av (.fptr [.s (.int .u8 x31.2)] 0)), (4, .av (iv x42)), (5, .av (iv x43)), (11, .av (bs x60)), (12, .av (.s (.int .u8 x31.2)))], [(0, .rows 1 [[bs a0]]), (1, .rows 1 [[.osl 3 0 (List.length x44) 3]]), (2, scan_Lines_lp6 x31 .ready none), (3, .rows 3 (List.map c_S_api_Piece x44))], 4⟩) (by kernel_rfl) ?_
      refine jr_callPF (i := 4) rfl rfl (vs := [bs x60, .s (.int .u8 x31.2)]) (by kernel_rfl) rfl (strings_IndexByte_ok x60 x31.2) (fun _ => rfl) ?_
      intro x61 h61
      refine jr_seg 5 1 [0, 1, 2, 4, 5, 6] [0, 1, 2, 3] (st1 := ⟨[(0, .av (.yld 2)), (1, .av (.fptr [bs x31.1] 0)), (2, .av (.fptr [.s (.int .u8 x31.2)] 0)), (4, .av (iv x42)), (5, .av (iv x43)), (6, .av (iv x61))], [(0, .rows 1 [[bs a0]]), (1, .rows 1 [[.osl 3 0 (List.length x44) 3]]), (2, scan_Lines_lp6 x31 .ready none), (3, .rows 3 (List.map c_S_api_Piece x44))], 4⟩) (by kernel_rfl) ?_
      refine jr_nil rfl ?_
      refine jx_seqN ?_
      refine jc_seq ?_
      refine jc_seq ?_
      refine jc_reg ?_
      refine jr_seg 0 2 [0, 1, 2, 4, 5, 6, 15] [0, 1, 2, 3] (st1 := ⟨[(0, .av (.yld 2)), (1, .av (.fptr [bs x31.1] 0)), (2, .av (.fptr [.s (.int .u8 x31.2)] 0)), (4, .av (iv x42)), (5, .av (iv x43)), (6, .av (iv x61)), (15, .av (bv (decide (x61 < 0))))], [(0, .rows 1 [[bs a0]]), (1, .rows 1 [[.osl 3 0 (List.length x44) 3]]), (2, scan_Lines_lp6 x31 .ready none), (3, .rows 3 (List.map c_S_api_Piece x44))], 4⟩) (by kernel_rfl) ?_
      refine jr_nil rfl ?_
      refine jx_seqN ?_
      refine jc_cond (g := 15) (c := (decide (x61 < 0))) (by kernel_rfl) ?_ ?_
      · intro _
        refine jc_seq ?_
        refine jc_reg ?_
        refine jr_seg 0 3 [4, 5, 16, 17, 18] [0, 1, 2, 3] (st1 := ⟨[(4, .av (iv x42)), (5, .av (iv x43)), (16, .av (.yld 2)), (17, .av (bs x31.1)), (18, .av (iv x42))], [(0, .rows 1 [[bs a0]]), (1, .rows 1 [[.osl 3 0 (List.length x44) 3]]), (2, scan_Lines_lp6 x31 .ready none), (3, .rows 3 (List.map c_S_api_Piece x44))], 4⟩) (by kernel_rfl) ?_
        refine jr_part (i := 3) (mo := subl x31.1 x42 (List.length x31.1 : Int)) rfl rfl rfl rfl (fun _ hc => aop_subs (by kernel_rfl) (by kernel_rfl) (by kernel_rfl) (by kernel_rfl) hc) (fun _ => rfl) ?_
        intro x62 h62
        refine jr_seg 4 3 [16, 22] [0, 1, 2, 3] (st1 := ⟨[(16, .av (.yld 2)), (22, .av (.agg [bs x62, iv x42, iv x43]))], [(0, .rows 1 [[bs a0]]), (1, .rows 1 [[.osl 3 0 (List.length x44) 3]]), (2, scan_Lines_lp6 x31 .ready none), (3, .rows 3 (List.map c_S_api_Piece x44))], 4⟩) (by kernel_rfl) ?_
        refine jr_yield (i := 7) (l := 2) (Nc := 22) (Kc := [(1, .av (.ptr 0 0 1 0)), (3, .av (.ptr 1 0 1 0)), (6, .av (.fn 110 [.fptr [bs x31.1] 0, .fptr [.s (.int .u8 x31.2)] 0]))]) (ps := [7]) (vs := [.agg [bs x62, iv x42, iv x43]]) (fun y => match y with | Sum.inl _ => ⟨[], [(0, .rows 1 [[bs a0]]), (1, .rows 1 [[.osl 3 0 (List.length x44) 3]]), (2, scan_Lines_lp6 x31 .busy none), (3, .rows 3 (List.map c_S_api_Piece x44))], 4⟩ | Sum.inr x65 => ⟨[], [(0, .rows 1 [[bs a0]]), (1, .rows 1 [[.osl 4 0 (List.length x65) 3]]), (2, scan_Lines_lp6 x31 .busy none), (4, .rows 3 (List.map c_S_api_Piece x65))], 5⟩) (fun y => match y with | Sum.inl _ => (.exit 0) | Sum.inr x65 => .normal) [23] [0, 1, 2, 3, 4] (after := (fun y => match y with | Sum.inl _ => ⟨[(23, .av (bv false))], [(0, .rows 1 [[bs a0]]), (1, .rows 1 [[.osl 3 0 (List.length x44) 3]]), (2, scan_Lines_lp6 x31 .done (some (.exit 0))), (3, .rows 3 (List.map c_S_api_Piece x44))], 4⟩ | Sum.inr x65 => ⟨[(23, .av (bv true))], [(0, .rows 1 [[bs a0]]), (1, .rows 1 [[.osl 4 0 (List.length x65) 3]]), (2, scan_Lines_lp6 x31 .ready none), (4, .rows 3 (List.map c_S_api_Piece x65))], 5⟩)) rfl rfl scan_Lines_y20_aw scan_Lines_y20_bw (by kernel_rfl) (by kernel_rfl) (yctx_of hc6 rfl) rfl (by kernel_rfl) rfl ?_ (by rintro (_ | x65) <;> exact ⟨none, by kernel_rfl⟩) (by rintro (_ | x65) <;> kernel_rfl) ?_
        · intro F11 hy11
          refine jc_reg ?_
          refine jr_seg 0 2 [1, 3, 4] [0, 1, 2, 3, 4] (st1 := ⟨[(1, .av (.ptr 0 0 1 0)), (3, .av (.ptr 1 0 1 0)), (4, .av (.ptr 4 0 3 0))], [(0, .rows 1 [[bs a0]]), (1, .rows 1 [[.osl 3 0 (List.length x44) 3]]), (2, scan_Lines_lp6 x31 .ready none), (3, .rows 3 (List.map c_S_api_Piece x44)), (4, .rows 3 [[bs x62, iv x42, iv x43]])], 5⟩) (by kernel_rfl) ?_
          refine jr_nil rfl ?_
          refine jx_asg hy11 rfl ?_
          refine jc_block ?_
          refine jc_seq ?_
          refine jc_seq ?_
          refine jc_reg ?_
          refine jr_seg 0 5 [3, 4, 12] [0, 1, 2, 3, 4] (st1 := ⟨[(3, .av (.ptr 1 0 1 0)), (4, .av (.ptr 4 0 3 0)), (12, .av (bv (x42 == (List.length a0 : Int))))], [(0, .rows 1 [[bs a0]]), (1, .rows 1 [[.osl 3 0 (List.length x44) 3]]), (2, scan_Lines_lp6 x31 .busy none), (3, .rows 3 (List.map c_S_api_Piece x44)), (4, .rows 3 [[bs x62, iv x42, iv x43]])], 5⟩) (by kernel_rfl) ?_
          refine jr_nil rfl ?_
          refine jx_seqN ?_
          refine jc_cond (g := 12) (c := (x42 == (List.length a0 : Int))) (by kernel_rfl) ?_ ?_
          · intro _
            refine jc_exit ?_
            refine jx_seqE ?_
            refine jx_blkX rfl ?_
            exact jx_mid rfl (wk_ren [(0, some 0), (1, some 1), (2, some 2), (3, some 3)] (fix_of hy11.2 (k := 4) rfl) rfl (by kernel_rfl) (allp_cons (.inl ⟨0, _, _, _, rfl, rfl, rfl, .inl (by kernel_rfl)⟩) (allp_cons (.inl ⟨1, _, _, _, rfl, rfl, rfl, .inl (by kernel_rfl)⟩) (allp_cons (.inr (.inr ⟨2, _, _, rfl, rfl, rfl, by kernel_rfl⟩)) (allp_cons (.inl ⟨3, _, _, _, rfl, rfl, rfl, .inr ⟨rfl, noid_map ni_S_api_Piece _⟩⟩) allp_nil)))))
          · intro _
            refine jc_skip ?_
            refine jx_seqN ?_
            refine jc_seq ?_
            refine jc_reg ?_
            refine jr_seg 0 2 [3, 4, 14] [0, 1, 2, 3, 4] (st1 := ⟨[(3, .av (.ptr 1 0 1 0)), (4, .av (.ptr 4 0 3 0)), (14, .av (bs x62))], [(0, .rows 1 [[bs a0]]), (1, .rows 1 [[.osl 3 0 (List.length x44) 3]]), (2, scan_Lines_lp6 x31 .busy none), (3, .rows 3 (List.map c_S_api_Piece x44)), (4, .rows 3 [[bs x62, iv x42, iv x43]])], 5⟩) (by kernel_rfl) ?_
            refine jr_callF (i := 2) rfl rfl rfl rfl (vs := [bs x62, bs [13]]) (by kernel_rfl) (snapL_cons rfl (snapL_cons rfl (snapL_nil _))) (all2_cons (fle_refl _) (all2_cons (fle_refl _) all2_nil)) (strings_TrimSuffix_ok x62 [13]) (fun _ => rfl) (fun _ => rfl) ?_
            intro x66 h66
            refine jr_seg 3 2 [3, 4] [0, 1, 2, 3, 4] (st1 := ⟨[(3, .av (.ptr 1 0 1 0)), (4, .av (.ptr 4 0 3 0))], [(0, .rows 1 [[bs a0]]), (1, .rows 1 [[.osl 3 0 (List.length x44) 3]]), (2, scan_Lines_lp6 x31 .busy none), (3, .rows 3 (List.map c_S_api_Piece x44)), (4, .rows 3 [[bs x66, iv x42, iv x43]])], 5⟩) (by kernel_rfl) ?_
            refine jr_nil rfl ?_
            refine jx_seqN ?_
            refine jc_reg ?_
            refine jr_seg 0 3 [3, 17, 19] [0, 1, 2, 3, 5] (st1 := ⟨[(3, .av (.ptr 1 0 1 0)), (17, .av (.osl 3 0 (List.length x44) 3)), (19, .av (.osl 5 0 (List.length [(S_api_Piece.mk x66 x42 x43)]) 3))], [(0, .rows 1 [[bs a0]]), (1, .rows 1 [[.osl 3 0 (List.length x44) 3]]), (2, scan_Lines_lp6 x31 .busy none), (3, .rows 3 (List.map c_S_api_Piece x44)), (5, .rows 3 (List.map c_S_api_Piece [(S_api_Piece.mk x66 x42 x43)]))], 6⟩) (by kernel_rfl) ?_
            refine jr_part (i := 3) (mo := app 32 x44 [(S_api_Piece.mk x66 x42 x43)]) rfl rfl rfl rfl (fun _ hc => aop_app (u := .osl 3 0 (List.length x44) 3) (w := .osl 5 0 (List.length [(S_api_Piece.mk x66 x42 x43)]) 3) (e := 30) (td := .slice 30) (by kernel_rfl) (by kernel_rfl) (by kernel_rfl) (by kernel_rfl) (.inl ⟨_, rfl⟩) (appendOf_own (c := c_S_api_Piece) (sz := 3) (b := 32) (id := 3) (by kernel_rfl) (by kernel_rfl) (rows_own (by kernel_rfl)) (List.cons_ne_nil _ _) hc)) (fun _ => rfl) ?_
            intro x67 h67
            refine jr_seg 4 1 [] [0, 1, 2, 6] (st1 := ⟨[], [(0, .rows 1 [[bs a0]]), (1, .rows 1 [[.osl 6 0 (List.length x67) 3]]), (2, scan_Lines_lp6 x31 .busy none), (6, .rows 3 (List.map c_S_api_Piece x67))], 7⟩) (by kernel_rfl) ?_
            refine jr_nil rfl ?_
            refine jx_blkN ?_
            exact jx_mid rfl (wk_ren [(0, some 0), (1, some 1), (2, some 2), (3, some 3), (4, some 6)] (fix_of hy11.2 (k := 4) rfl) rfl (by kernel_rfl) (allp_cons (.inl ⟨0, _, _, _, rfl, rfl, rfl, .inl (by kernel_rfl)⟩) (allp_cons (.inl ⟨1, _, _, _, rfl, rfl, rfl, .inl (by kernel_rfl)⟩) (allp_cons (.inr (.inr ⟨2, _, _, rfl, rfl, rfl, by kernel_rfl⟩)) (allp_cons (.inl ⟨6, _, _, _, rfl, rfl, rfl, .inr ⟨rfl, noid_map ni_S_api_Piece _⟩⟩) allp_nil)))))
        · rintro (_ | x65)
          · refine jr_nil rfl ?_
            refine jx_seqN ?_
            refine jc_ret ?_
            refine jx_seqR ?_
            refine jx_blkR ?_
            refine jx_seqR ?_
            exact jx_done rfl nofun (wk_ren [(0, some 0), (1, some 1), (2, some 2), (3, some 3)] (fix_of hc6.2.2 (k := 3) rfl) rfl (by kernel_rfl) (allp_cons (.inl ⟨0, _, _, _, rfl, rfl, rfl, .inl (by kernel_rfl)⟩) (allp_cons (.inl ⟨1, _, _, _, rfl, rfl, rfl, .inl (by kernel_rfl)⟩) (allp_cons (.inr (.inr ⟨2, _, _, rfl, rfl, rfl, by kernel_rfl⟩)) (allp_cons (.inl ⟨3, _, _, _, rfl, rfl, rfl, .inr ⟨rfl, noid_map ni_S_api_Piece _⟩⟩) allp_nil)))))
          · refine jr_nil rfl ?_
            refine jx_seqN ?_
            refine jc_ret ?_
            refine jx_seqR ?_
            refine jx_blkR ?_
            refine jx_seqR ?_
            exact jx_done rfl nofun (wk_ren [(0, some 0), (1, some 1), (2, some 2), (3, some 4)] (fix_of hc6.2.2 (k := 3) rfl) rfl (by kernel_rfl) (allp_cons (.inl ⟨0, _, _, _, rfl, rfl, rfl, .inl (by kernel_rfl)⟩) (allp_cons (.inl ⟨1, _, _, _, rfl, rfl, rfl, .inl (by kernel_rfl)⟩) (allp_cons (.inr (.inr ⟨2, _, _, rfl, rfl, rfl, by kernel_rfl⟩)) (allp_cons (.inl ⟨4, _, _, _, rfl, rfl, rfl, .inr ⟨rfl, noid_map ni_S_api_Piece _⟩⟩) allp_nil)))))
      · intro _
        refine jc_skip ?_
        refine jx_seqN ?_
        refine jc_seq ?_
        refine jc_seq ?_
        refine jc_reg ?_
        refine jr_seg 0 6 [0, 1, 2, 4, 5, 6, 24, 25, 26, 29] [0, 1, 2, 3] (st1 := ⟨[(0, .av (.yld 2)), (1, .av (.fptr [bs x31.1] 0)), (2, .av (.fptr [.s (.int .u8 x31.2)] 0)), (4, .av (iv x42)), (5, .av (iv x43)), (6, .av (iv x61)), (24, .av (.yld 2)), (25, .av (bs x31.1)), (26, .av (iv x42)), (29, .av (iv (w64 (x42 + x61))))], [(0, .rows 1 [[bs a0]]), (1, .rows 1 [[.osl 3 0 (List.length x44) 3]]), (2, scan_Lines_lp6 x31 .ready none), (3, .rows 3 (List.map c_S_api_Piece x44))], 4⟩) (by kernel_rfl) ?_
        refine jr_part (i := 6) (mo := subl x31.1 x42 (w64 (x42 + x61))) rfl rfl rfl rfl (fun _ hc => aop_subs (by kernel_rfl) (by kernel_rfl) (by kernel_rfl) (by kernel_rfl) hc) (fun _ => rfl) ?_
        intro x68 h68
        refine jr_seg 7 3 [0, 1, 2, 4, 5, 6, 24, 33] [0, 1, 2, 3] (st1 := ⟨[(0, .av (.yld 2)), (1, .av (.fptr [bs x31.1] 0)), (2, .av (.fptr [.s (.int .u8 x31.2)] 0)), (4, .av (iv x42)), (5, .av (iv x43)), (6, .av (iv x61)), (24, .av (.yld 2)), (33, .av (.agg [bs x68, iv x42, iv x43]))], [(0, .rows 1 [[bs a0]]), (1, .rows 1 [[.osl 3 0 (List.length x44) 3]]), (2, scan_Lines_lp6 x31 .ready none), (3, .rows 3 (List.map c_S_api_Piece x44))], 4⟩) (by kernel_rfl) ?_
        refine jr_yield (i := 10) (l := 2) (Nc := 22) (Kc := [(1, .av (.ptr 0 0 1 0)), (3, .av (.ptr 1 0 1 0)), (6, .av (.fn 110 [.fptr [bs x31.1] 0, .fptr [.s (.int .u8 x31.2)] 0]))]) (ps := [7]) (vs := [.agg [bs x68, iv x42, iv x43]]) (fun y => match y with | Sum.inl _ => ⟨[], [(0, .rows 1 [[bs a0]]), (1, .rows 1 [[.osl 3 0 (List.length x44) 3]]), (2, scan_Lines_lp6 x31 .busy none), (3, .rows 3 (List.map c_S_api_Piece x44))], 4⟩ | Sum.inr x71 => ⟨[], [(0, .rows 1 [[bs a0]]), (1, .rows 1 [[.osl 4 0 (List.length x71) 3]]), (2, scan_Lines_lp6 x31 .busy none), (4, .rows 3 (List.map c_S_api_Piece x71))], 5⟩) (fun y => match y with | Sum.inl _ => (.exit 0) | Sum.inr x71 => .normal) [0, 1, 2, 4, 5, 6, 34] [0, 1, 2, 3, 4] (after := (fun y => match y with | Sum.inl _ => ⟨[(0, .av (.yld 2)), (1, .av (.fptr [bs x31.1] 0)), (2, .av (.fptr [.s (.int .u8 x31.2)] 0)), (4, .av (iv x42)), (5, .av (iv x43)), (6, .av (iv x61)), (34, .av (bv false))], [(0, .rows 1 [[bs a0]]), (1, .rows 1 [[.osl 3 0 (List.length x44) 3]]), (2, scan_Lines_lp6 x31 .done (some (.exit 0))), (3, .rows 3 (List.map c_S_api_Piece x44))], 4⟩ | Sum.inr x71 => ⟨[(0, .av (.yld 2)), (1, .av (.fptr [bs x31.1] 0)), (2, .av (.fptr [.s (.int .u8 x31.2)] 0)), (4, .av (iv x42)), (5, .av (iv x43)), (6, .av (iv x61)), (34, .av (bv true))], [(0, .rows 1 [[bs a0]]), (1, .rows 1 [[.osl 4 0 (List.length x71) 3]]), (2, scan_Lines_lp6 x31 .ready none), (4, .rows 3 (List.map c_S_api_Piece x71))], 5⟩)) rfl rfl scan_Lines_y20_aw scan_Lines_y20_bw (by kernel_rfl) (by kernel_rfl) (yctx_of hc6 rfl) rfl (by kernel_rfl) rfl ?_ (by rintro (_ | x71) <;> exact ⟨none, by kernel_rfl⟩) (by rintro (_ | x71) <;> kernel_rfl) ?_
        · intro F12 hy12
          refine jc_reg ?_
          refine jr_seg 0 2 [1, 3, 4] [0, 1, 2, 3, 4] (st1 := ⟨[(1, .av (.ptr 0 0 1 0)), (3, .av (.ptr 1 0 1 0)), (4, .av (.ptr 4 0 3 0))], [(0, .rows 1 [[bs a0]]), (1, .rows 1 [[.osl 3 0 (List.length x44) 3]]), (2, scan_Lines_lp6 x31 .ready none), (3, .rows 3 (List.map c_S_api_Piece x44)), (4, .rows 3 [[bs x68, iv x42, iv x43]])], 5⟩) (by kernel_rfl) ?_
          refine jr_nil rfl ?_
          refine jx_asg hy12 rfl ?_
          refine jc_block ?_
          refine jc_seq ?_
          refine jc_seq ?_
          refine jc_reg ?_
          refine jr_seg 0 5 [3, 4, 12] [0, 1, 2, 3, 4] (st1 := ⟨[(3, .av (.ptr 1 0 1 0)), (4, .av (.ptr 4 0 3 0)), (12, .av (bv (x42 == (List.length a0 : Int))))], [(0, .rows 1 [[bs a0]]), (1, .rows 1 [[.osl 3 0 (List.length x44) 3]]), (2, scan_Lines_lp6 x31 .busy none), (3, .rows 3 (List.map c_S_api_Piece x44)), (4, .rows 3 [[bs x68, iv x42, iv x43]])], 5⟩) (by kernel_rfl) ?_
          refine jr_nil rfl ?_
          refine jx_seqN ?_
          refine jc_cond (g := 12) (c := (x42 == (List.length a0 : Int))) (by kernel_rfl) ?_ ?_
          · intro _
            refine jc_exit ?_
            refine jx_seqE ?_
            refine jx_blkX rfl ?_
            exact jx_mid rfl (wk_ren [(0, some 0), (1, some 1), (2, some 2), (3, some 3)] (fix_of hy12.2 (k := 4) rfl) rfl (by kernel_rfl) (allp_cons (.inl ⟨0, _, _, _, rfl, rfl, rfl, .inl (by kernel_rfl)⟩) (allp_cons (.inl ⟨1, _, _, _, rfl, rfl, rfl, .inl (by kernel_rfl)⟩) (allp_cons (.inr (.inr ⟨2, _, _, rfl, rfl, rfl, by kernel_rfl⟩)) (allp_cons (.inl ⟨3, _, _, _, rfl, rfl, rfl, .inr ⟨rfl, noid_map ni_S_api_Piece _⟩⟩) allp_nil)))))
          · intro _
            refine jc_skip ?_
            refine jx_seqN ?_
            refine jc_seq ?_
            refine jc_reg ?_
            refine jr_seg 0 2 [3, 4, 14] [0, 1, 2, 3, 4] (st1 := ⟨[(3, .av (.ptr 1 0 1 0)), (4, .av (.ptr 4 0 3 0)), (14, .av (bs x68))], [(0, .rows 1 [[bs a0]]), (1, .rows 1 [[.osl 3 0 (List.length x44) 3]]), (2, scan_Lines_lp6 x31 .busy none), (3, .rows 3 (List.map c_S_api_Piece x44)), (4, .rows 3 [[bs x68, iv x42, iv x43]])], 5⟩) (by kernel_rfl) ?_
            refine jr_callF (i := 2) rfl rfl rfl rfl (vs := [bs x68, bs [13]]) (by kernel_rfl) (snapL_cons rfl (snapL_cons rfl (snapL_nil _))) (all2_cons (fle_refl _) (all2_cons (fle_refl _) all2_nil)) (strings_TrimSuffix_ok x68 [13]) (fun _ => rfl) (fun _ => rfl) ?_
            intro x72 h72
            refine jr_seg 3 2 [3, 4] [0, 1, 2, 3, 4] (st1 := ⟨[(3, .av (.ptr 1 0 1 0)), (4, .av (.ptr 4 0 3 0))], [(0, .rows 1 [[bs a0]]), (1, .rows 1 [[.osl 3 0 (List.length x44) 3]]), (2, scan_Lines_lp6 x31 .busy none), (3, .rows 3 (List.map c_S_api_Piece x44)), (4, .rows 3 [[bs x72, iv x42, iv x43]])], 5⟩) (by kernel_rfl) ?_
            refine jr_nil rfl ?_
            refine jx_seqN ?_
            refine jc_reg ?_
            refine jr_seg 0 3 [3, 17, 19] [0, 1, 2, 3, 5] (st1 := ⟨[(3, .av (.ptr 1 0 1 0)), (17, .av (.osl 3 0 (List.length x44) 3)), (19, .av (.osl 5 0 (List.length [(S_api_Piece.mk x72 x42 x43)]) 3))], [(0, .rows 1 [[bs a0]]), (1, .rows 1 [[.osl 3 0 (List.length x44) 3]]), (2, scan_Lines_lp6 x31 .busy none), (3, .rows 3 (List.map c_S_api_Piece x44)), (5, .rows 3 (List.map c_S_api_Piece [(S_api_Piece.mk x72 x42 x43)]))], 6⟩) (by kernel_rfl) ?_
            refine jr_part (i := 3) (mo := app 32 x44 [(S_api_Piece.mk x72 x42 x43)]) rfl rfl rfl rfl (fun _ hc => aop_app (u := .osl 3 0 (List.length x44) 3) (w := .osl 5 0 (List.length [(S_api_Piece.mk x72 x42 x43)]) 3) (e := 30) (td := .slice 30) (by kernel_rfl) (by kernel_rfl) (by kernel_rfl) (by kernel_rfl) (.inl ⟨_, rfl⟩) (appendOf_own (c := c_S_api_Piece) (sz := 3) (b := 32) (id := 3) (by kernel_rfl) (by kernel_rfl) (rows_own (by kernel_rfl)) (List.cons_ne_nil _ _) hc)) (fun _ => rfl) ?_
            intro x73 h73
            refine jr_seg 4 1 [] [0, 1, 2, 6] (st1 := ⟨[], [(0, .rows 1 [[bs a0]]), (1, .rows 1 [[.osl 6 0 (List.length x73) 3]]), (2, scan_Lines_lp6 x31 .busy none), (6, .rows 3 (List.map c_S_api_Piece x73))], 7⟩) (by kernel_rfl) ?_
            refine jr_nil rfl ?_
            refine jx_blkN ?_
            exact jx_mid rfl (wk_ren [(0, some 0), (1, some 1), (2, some 2), (3, some 3), (4, some 6)] (fix_of hy12.2 (k := 4) rfl) rfl (by kernel_rfl) (allp_cons (.inl ⟨0, _, _, _, rfl, rfl, rfl, .inl (by kernel_rfl)⟩) (allp_cons (.inl ⟨1, _, _, _, rfl, rfl, rfl, .inl (by kernel_rfl)⟩) (allp_cons (.inr (.inr ⟨2, _, _, rfl, rfl, rfl, by kernel_rfl⟩)) (allp_cons (.inl ⟨6, _, _, _, rfl, rfl, rfl, .inr ⟨rfl, noid_map ni_S_api_Piece _⟩⟩) allp_nil)))))
        · rintro (_ | x71)
          · refine jr_seg 11 1 [0, 1, 2, 4, 5, 6, 35] [0, 1, 2, 3] (st1 := ⟨[(0, .av (.yld 2)), (1, .av (.fptr [bs x31.1] 0)), (2, .av (.fptr [.s (.int .u8 x31.2)] 0)), (4, .av (iv x42)), (5, .av (iv x43)), (6, .av (iv x61)), (35, .av (bv true))], [(0, .rows 1 [[bs a0]]), (1, .rows 1 [[.osl 3 0 (List.length x44) 3]]), (2, scan_Lines_lp6 x31 .done (some (.exit 0))), (3, .rows 3 (List.map c_S_api_Piece x44))], 4⟩) (by kernel_rfl) ?_
            refine jr_nil rfl ?_
            refine jx_seqN ?_
            refine jc_condK (c := true) (by kernel_rfl) ?_
            refine jc_ret ?_
            refine jx_seqR ?_
            refine jx_blkR ?_
            refine jx_seqR ?_
            exact jx_done rfl nofun (wk_ren [(0, some 0), (1, some 1), (2, some 2), (3, some 3)] (fix_of hc6.2.2 (k := 3) rfl) rfl (by kernel_rfl) (allp_cons (.inl ⟨0, _, _, _, rfl, rfl, rfl, .inl (by kernel_rfl)⟩) (allp_cons (.inl ⟨1, _, _, _, rfl, rfl, rfl, .inl (by kernel_rfl)⟩) (allp_cons (.inr (.inr ⟨2, _, _, rfl, rfl, rfl, by kernel_rfl⟩)) (allp_cons (.inl ⟨3, _, _, _, rfl, rfl, rfl, .inr ⟨rfl, noid_map ni_S_api_Piece _⟩⟩) allp_nil)))))
          · refine jr_seg 11 1 [0, 1, 2, 4, 5, 6, 35] [0, 1, 2, 4] (st1 := ⟨[(0, .av (.yld 2)), (1, .av (.fptr [bs x31.1] 0)), (2, .av (.fptr [.s (.int .u8 x31.2)] 0)), (4, .av (iv x42)), (5, .av (iv x43)), (6, .av (iv x61)), (35, .av (bv false))], [(0, .rows 1 [[bs a0]]), (1, .rows 1 [[.osl 4 0 (List.length x71) 3]]), (2, scan_Lines_lp6 x31 .ready none), (4, .rows 3 (List.map c_S_api_Piece x71))], 5⟩) (by kernel_rfl) ?_
            refine jr_nil rfl ?_
            refine jx_seqN ?_
            refine jc_condK (c := false) (by kernel_rfl) ?_
            refine jc_skip ?_
            refine jx_seqN ?_
            refine jc_reg ?_
            refine jr_seg 0 5 [0, 1, 2, 4, 5] [0, 1, 2, 4] (st1 := ⟨[(0, .av (.yld 2)), (1, .av (.fptr [bs x31.1] 0)), (2, .av (.fptr [.s (.int .u8 x31.2)] 0)), (4, .av (iv (w64 (x42 + (w64 (x61 + 1)))))), (5, .av (iv x43))], [(0, .rows 1 [[bs a0]]), (1, .rows 1 [[.osl 4 0 (List.length x71) 3]]), (2, scan_Lines_lp6 x31 .ready none), (4, .rows 3 (List.map c_S_api_Piece x71))], 5⟩) (by kernel_rfl) ?_
            refine jr_nil rfl ?_
            refine jx_blkN ?_
            refine jx_seqN ?_
            refine jc_reg ?_
            refine jr_seg 0 3 [0, 1, 2, 4, 5] [0, 1, 2, 4] (st1 := ⟨[(0, .av (.yld 2)), (1, .av (.fptr [bs x31.1] 0)), (2, .av (.fptr [.s (.int .u8 x31.2)] 0)), (4, .av (iv (w64 (x42 + (w64 (x61 + 1)))))), (5, .av (iv (w64 (x43 + 1))))], [(0, .rows 1 [[bs a0]]), (1, .rows 1 [[.osl 4 0 (List.length x71) 3]]), (2, scan_Lines_lp6 x31 .ready none), (4, .rows 3 (List.map c_S_api_Piece x71))], 5⟩) (by kernel_rfl) ?_
            refine jr_nil rfl ?_
            exact jx_next (wk_ren [(0, some 0), (1, some 1), (2, some 2), (3, some 4)] (fix_of hc6.2.2 (k := 3) rfl) rfl (by kernel_rfl) (allp_cons (.inl ⟨0, _, _, _, rfl, rfl, rfl, .inl (by kernel_rfl)⟩) (allp_cons (.inl ⟨1, _, _, _, rfl, rfl, rfl, .inl (by kernel_rfl)⟩) (allp_cons (.inr (.inr ⟨2, _, _, rfl, rfl, rfl, by kernel_rfl⟩)) (allp_cons (.inl ⟨4, _, _, _, rfl, rfl, rfl, .inr ⟨rfl, noid_map ni_S_api_Piece _⟩⟩) allp_nil)))))
    · rintro (x58 | x59)
      · refine jx_blkR ?_
        refine jx_rng hc6 (.inr rfl) rfl nofun rfl ?_
        refine jx_blkE ?_
        exact jx_mid rfl (wk_ren [(0, some 1), (1, some 3)] (fix_nil _) rfl (by kernel_rfl) (allp_cons (.inl ⟨1, _, _, _, rfl, rfl, rfl, .inl (by kernel_rfl)⟩) (allp_cons (.inl ⟨3, _, _, _, rfl, rfl, rfl, .inr ⟨rfl, noid_map ni_S_api_Piece _⟩⟩) allp_nil)))
      · refine jx_blkR ?_
        refine jx_rng hc6 (.inr rfl) rfl nofun rfl ?_
        refine jx_blkN ?_
        exact jx_mid rfl (wk_ren [(0, some 1), (1, some 3)] (fix_nil _) rfl (by kernel_rfl) (allp_cons (.inl ⟨1, _, _, _, rfl, rfl, rfl, .inl (by kernel_rfl)⟩) (allp_cons (.inl ⟨3, _, _, _, rfl, rfl, rfl, .inr ⟨rfl, noid_map ni_S_api_Piece _⟩⟩) allp_nil)))
  · intro x30
    refine jx_seqN ?_
    refine jc_seq ?_
    refine jc_reg ?_
    refine jr_seg 0 2 [2] [1] (st1 := ⟨[(2, .av (.osl 1 0 (List.length x30) 3))], [(1, .rows 3 (List.map c_S_api_Piece x30))], 2⟩) (by kernel_rfl) ?_
    refine jr_nil rfl ?_
    refine jx_seqN ?_
    refine jc_ret ?_
    exact jx_retF (.inr rfl) (v := .osl 1 0 (List.length x30) 3) (by kernel_rfl) (snapc_own fz_S_api_Piece (by kernel_rfl)) (fle_refl _))
end Go.Vm

set_option maxRecDepth 100000
set_option maxHeartbeats 0
set_option linter.unusedVariables false
set_option linter.unusedSimpArgs false
namespace Go.Vm
open Go
/-! ### dovetail/dovetailref01.Starts -/
abbrev ref01_Starts_r1 : List LO := [⟨some 6, Op.assign (Operand.const (Value.bool false)), 4, none⟩]
abbrev ref01_Starts_b2 : LC := .reg false ref01_Starts_r1
abbrev ref01_Starts_r3 : List LO := [⟨some 7, Op.move (Operand.tmp 1), 3, none⟩,
  ⟨some 8, Op.binOp BinOp.geq 3 (Operand.tmp 7) (Operand.const (Value.int IntKind.i64 0)) 3, 4, none⟩,
  ⟨some 9, Op.move (Operand.tmp 8), 4, none⟩,
  ⟨some 10, Op.move (Operand.tmp 1), 3, (some (9, true))⟩,
  ⟨some 11, Op.move (Operand.tmp 0), 9, (some (9, true))⟩,
  ⟨some 12, Op.call { callee := Callee.builtin Builtin.len, args := #[Operand.tmp 11], argTypes := #[9] }, 3, (some (9, true))⟩,
  ⟨some 13, Op.binOp BinOp.leq 3 (Operand.tmp 10) (Operand.tmp 12) 3, 4, (some (9, true))⟩,
  ⟨some 14, Op.pick (Operand.tmp 9) (Operand.tmp 13) (Operand.const (Value.bool false)), 4, none⟩,
  ⟨some 15, Op.move (Operand.tmp 14), 4, none⟩,
  ⟨some 16, Op.move (Operand.tmp 0), 9, (some (15, true))⟩,
  ⟨some 17, Op.call { callee := Callee.builtin Builtin.len, args := #[Operand.tmp 16], argTypes := #[9] }, 3, (some (15, true))⟩,
  ⟨some 18, Op.move (Operand.tmp 1), 3, (some (15, true))⟩,
  ⟨some 19, Op.binOp BinOp.sub 3 (Operand.tmp 17) (Operand.tmp 18) 3, 3, (some (15, true))⟩,
  ⟨some 20, Op.move (Operand.tmp 2), 9, (some (15, true))⟩,
  ⟨some 21, Op.call { callee := Callee.builtin Builtin.len, args := #[Operand.tmp 20], argTypes := #[9] }, 3, (some (15, true))⟩,
  ⟨some 22, Op.binOp BinOp.geq 3 (Operand.tmp 19) (Operand.tmp 21) 3, 4, (some (15, true))⟩,
  ⟨some 23, Op.pick (Operand.tmp 15) (Operand.tmp 22) (Operand.const (Value.bool false)), 4, none⟩,
  ⟨some 24, Op.move (Operand.tmp 23), 4, none⟩,
  ⟨some 25, Op.move (Operand.tmp 0), 9, (some (24, true))⟩,
  ⟨some 26, Op.move (Operand.tmp 1), 3, (some (24, true))⟩,
  ⟨some 27, Op.move (Operand.tmp 1), 3, (some (24, true))⟩,
  ⟨some 28, Op.move (Operand.tmp 2), 9, (some (24, true))⟩,
  ⟨some 29, Op.call { callee := Callee.builtin Builtin.len, args := #[Operand.tmp 28], argTypes := #[9] }, 3, (some (24, true))⟩,
  ⟨some 30, Op.binOp BinOp.add 3 (Operand.tmp 27) (Operand.tmp 29) 3, 3, (some (24, true))⟩,
  ⟨some 31, Op.slice 9 (Operand.tmp 25) (some (Operand.tmp 26)) (some (Operand.tmp 30)) none, 9, (some (24, true))⟩,
  ⟨some 32, Op.move (Operand.tmp 2), 9, (some (24, true))⟩,
  ⟨some 33, Op.binOp BinOp.eql 9 (Operand.tmp 31) (Operand.tmp 32) 9, 4, (some (24, true))⟩,
  ⟨some 34, Op.pick (Operand.tmp 24) (Operand.tmp 33) (Operand.const (Value.bool false)), 4, none⟩,
  ⟨some 6, Op.assign (Operand.tmp 34), 4, none⟩]
abbrev ref01_Starts_b4 : LC := .reg false ref01_Starts_r3
abbrev ref01_Starts_b5 : LC := .seq ref01_Starts_b4 .ret
abbrev ref01_Starts_b6 : LC := .seq ref01_Starts_b2 ref01_Starts_b5
theorem ref01_Starts_k : FnOk E 25 35 [.tmp 6] ref01_Starts_b6 := ⟨⟨Go.Proofs.Tryd.f25, by kernel_rfl, by kernel_rfl, by kernel_rfl, by kernel_rfl, by kernel_rfl⟩, rfl⟩
noncomputable def ref01_Starts (a0 : Str) (a1 : Int) (a2 : Str) : Option (Bool) := Option.bind (if (((decide (a1 ≥ 0)) && (decide (a1 ≤ (List.length a0 : Int)))) && (decide ((w64 ((List.length a0 : Int) - a1)) ≥ (List.length a2 : Int)))) = true then Option.bind (subl a0 a1 (w64 (a1 + (List.length a2 : Int)))) (fun x3 => some (x3 == a2)) else some false : Option (Bool)) (fun x2 => some x2)
theorem ref01_Starts_ok (a0 : Str) (a1 : Int) (a2 : Str) : Ct E 25 [bs a0, iv a1, bs a2] (ref01_Starts a0 a1 a2) (fun r : Bool => bv r) := ct_intro (N := 35) (L := ref01_Starts_b6) ref01_Starts_k rfl (Nat.le_of_ble_eq_true rfl) (by kernel_rfl) (by
  unfold ref01_Starts
  refine jc_seq ?_
  refine jc_reg ?_
  refine jr_seg 0 1 [0, 1, 2] [] (st1 := ⟨[(0, .av (bs a0)), (1, .av (iv a1)), (2, .av (bs a2))], [], 0⟩) (by kernel_rfl) ?_
  refine jr_nil rfl ?_
  refine jx_seqN ?_
  refine jc_seq ?_
  refine jc_reg ?_
  refine jr_seg 0 18 [0, 1, 2, 24] [] (st1 := ⟨[(0, .av (bs a0)), (1, .av (iv a1)), (2, .av (bs a2)), (24, .av (bv (((decide (a1 ≥ 0)) && (decide (a1 ≤ (List.length a0 : Int)))) && (decide ((w64 ((List.length a0 : Int) - a1)) ≥ (List.length a2 : Int))))))], [], 0⟩) (by kernel_rfl) ?_
  refine jr_bind 18 10 (fun x2 => ⟨[(34, .av (bv x2))], [], 0⟩) ?_ ?_
  · refine jr_split (g := 24) (c := (((decide (a1 ≥ 0)) && (decide (a1 ≤ (List.length a0 : Int)))) && (decide ((w64 ((List.length a0 : Int) - a1)) ≥ (List.length a2 : Int))))) (by kernel_rfl) ?_ ?_
    · intro _
      refine jr_seg 0 6 [2, 24, 25, 26, 30] [] (st1 := ⟨[(2, .av (bs a2)), (24, .lit true), (25, .av (bs a0)), (26, .av (iv a1)), (30, .av (iv (w64 (a1 + (List.length a2 : Int)))))], [], 0⟩) (by kernel_rfl) ?_
      refine jr_part (i := 6) (mo := subl a0 a1 (w64 (a1 + (List.length a2 : Int)))) rfl rfl rfl rfl (fun _ hc => aop_subs (by kernel_rfl) (by kernel_rfl) (by kernel_rfl) (by kernel_rfl) hc) (fun _ => rfl) ?_
      intro x3 h3
      refine jr_seg 7 3 [34] [] (st1 := ⟨[(34, .av (bv (x3 == a2)))], [], 0⟩) (by kernel_rfl) ?_
      refine jr_nil rfl ?_
      exact jx_mid rfl (wk_ren [] (fix_nil _) rfl (by kernel_rfl) allp_nil)
    · intro _
      refine jr_seg 0 10 [34] [] (st1 := ⟨[(34, .av (bv false))], [], 0⟩) (by kernel_rfl) ?_
      refine jr_nil rfl ?_
      exact jx_mid rfl (wk_ren [] (fix_nil _) rfl (by kernel_rfl) allp_nil)
  · intro x2
    refine jr_seg 28 1 [6] [] (st1 := ⟨[(6, .av (bv x2))], [], 0⟩) (by kernel_rfl) ?_
    refine jr_nil rfl ?_
    refine jx_seqN ?_
    refine jc_ret ?_
    exact jx_retF (.inr rfl) (v := bv x2) (by kernel_rfl) rfl (fle_refl _))
end Go.Vm

set_option maxRecDepth 100000
set_option maxHeartbeats 0
set_option linter.unusedVariables false
set_option linter.unusedSimpArgs false
namespace Go.Vm
open Go
/-! ### dovetail/dovetaillaw01.ScanBack -/
abbrev law01_ScanBack_r1 : List LO := [⟨some 4, Op.assign (Operand.const (Value.bool false)), 4, none⟩]
abbrev law01_ScanBack_b2 : LC := .reg false law01_ScanBack_r1
abbrev law01_ScanBack_r3 : List LO := [⟨some 5, Op.assign (Operand.const (Value.string { data := #[] })), 9, none⟩]
abbrev law01_ScanBack_b4 : LC := .reg false law01_ScanBack_r3
abbrev law01_ScanBack_r5 : List LO := [⟨some 11, Op.move (Operand.tmp 0), 9, none⟩,
  ⟨some 12, Op.move (Operand.tmp 1), 5, none⟩,
  ⟨some 13, Op.call { callee := Callee.value (Operand.func 23), args := #[Operand.tmp 11, Operand.tmp 12], argTypes := #[9, 5] }, 27, none⟩,
  ⟨some 14, Op.call { callee := Callee.builtin Builtin.len, args := #[Operand.tmp 13], argTypes := #[27] }, 3, none⟩,
  ⟨some 15, Op.move (Operand.const (Value.int IntKind.i64 0)), 3, none⟩]
abbrev law01_ScanBack_b6 : LC := .reg false law01_ScanBack_r5
abbrev law01_ScanBack_r7 : List LO := [⟨some 16, Op.binOp BinOp.lss 3 (Operand.tmp 15) (Operand.tmp 14) 3, 0, none⟩]
abbrev law01_ScanBack_b8 : LC := .reg false law01_ScanBack_r7
abbrev law01_ScanBack_b9 : LC := .cond (Operand.tmp 16) .skip (.exit 0)
abbrev law01_ScanBack_r10 : List LO := [⟨some 17, Op.move (Operand.tmp 15), 3, none⟩,
  ⟨some 18, Op.indexAddr 27 (Operand.tmp 13) (Operand.tmp 15), 0, none⟩,
  ⟨some 19, Op.load 30 (Operand.tmp 18), 30, none⟩,
  ⟨some 7, Op.alloc 30, 0, none⟩,
  ⟨some 6, Op.assign (Operand.tmp 17), 3, none⟩,
  ⟨none, Op.store 30 (Operand.tmp 7) (Operand.tmp 19), 0, none⟩]
abbrev law01_ScanBack_b11 : LC := .reg false law01_ScanBack_r10
abbrev law01_ScanBack_r12 : List LO := [⟨some 20, Op.move (Operand.tmp 6), 3, none⟩,
  ⟨some 21, Op.binOp BinOp.gtr 3 (Operand.tmp 20) (Operand.const (Value.int IntKind.i64 0)) 3, 4, none⟩]
abbrev law01_ScanBack_b13 : LC := .reg false law01_ScanBack_r12
abbrev law01_ScanBack_r14 : List LO := [⟨some 22, Op.move (Operand.tmp 5), 9, none⟩,
  ⟨some 23, Op.move (Operand.tmp 1), 5, none⟩,
  ⟨some 24, Op.buildSlice 31 1 #[(0, Operand.tmp 23)], 31, none⟩,
  ⟨some 25, Op.convert 31 9 (Operand.tmp 24), 9, none⟩,
  ⟨some 26, Op.binOp BinOp.add 9 (Operand.tmp 22) (Operand.tmp 25) 9, 9, none⟩,
  ⟨some 5, Op.assign (Operand.tmp 26), 9, none⟩]
abbrev law01_ScanBack_b15 : LC := .reg false law01_ScanBack_r14
abbrev law01_ScanBack_b16 : LC := .cond (Operand.tmp 21) law01_ScanBack_b15 .skip
abbrev law01_ScanBack_b17 : LC := .seq law01_ScanBack_b13 law01_ScanBack_b16
abbrev law01_ScanBack_r18 : List LO := [⟨some 27, Op.fieldAddr 30 (Operand.tmp 7) 1, 0, none⟩,
  ⟨some 28, Op.load 3 (Operand.tmp 27), 3, none⟩,
  ⟨some 29, Op.move (Operand.tmp 5), 9, none⟩,
  ⟨some 30, Op.call { callee := Callee.builtin Builtin.len, args := #[Operand.tmp 29], argTypes := #[9] }, 3, none⟩,
  ⟨some 31, Op.binOp BinOp.neq 3 (Operand.tmp 28) (Operand.tmp 30) 3, 4, none⟩]
abbrev law01_ScanBack_b19 : LC := .reg false law01_ScanBack_r18
abbrev law01_ScanBack_r20 : List LO := [⟨some 4, Op.assign (Operand.const (Value.bool false)), 4, none⟩]
abbrev law01_ScanBack_b21 : LC := .reg false law01_ScanBack_r20
abbrev law01_ScanBack_b22 : LC := .seq law01_ScanBack_b21 .ret
abbrev law01_ScanBack_b23 : LC := .cond (Operand.tmp 31) law01_ScanBack_b22 .skip
abbrev law01_ScanBack_b24 : LC := .seq law01_ScanBack_b19 law01_ScanBack_b23
abbrev law01_ScanBack_r25 : List LO := [⟨some 32, Op.move (Operand.tmp 5), 9, none⟩,
  ⟨some 33, Op.fieldAddr 30 (Operand.tmp 7) 0, 0, none⟩,
  ⟨some 34, Op.load 9 (Operand.tmp 33), 9, none⟩,
  ⟨some 35, Op.binOp BinOp.add 9 (Operand.tmp 32) (Operand.tmp 34) 9, 9, none⟩,
  ⟨some 5, Op.assign (Operand.tmp 35), 9, none⟩]
abbrev law01_ScanBack_b26 : LC := .reg false law01_ScanBack_r25
abbrev law01_ScanBack_b27 : LC := .seq law01_ScanBack_b24 law01_ScanBack_b26
abbrev law01_ScanBack_b28 : LC := .seq law01_ScanBack_b17 law01_ScanBack_b27
abbrev law01_ScanBack_b29 : LC := .seq law01_ScanBack_b11 law01_ScanBack_b28
abbrev law01_ScanBack_b30 : LC := .block 1 law01_ScanBack_b29
abbrev law01_ScanBack_r31 : List LO := [⟨some 36, Op.binOp BinOp.add 3 (Operand.tmp 15) (Operand.const (Value.int IntKind.i64 1)) 3, 3, none⟩,
  ⟨some 15, Op.move (Operand.tmp 36), 3, none⟩]
abbrev law01_ScanBack_b32 : LC := .reg false law01_ScanBack_r31
abbrev law01_ScanBack_b33 : LC := .seq law01_ScanBack_b30 law01_ScanBack_b32
abbrev law01_ScanBack_b34 : LC := .seq law01_ScanBack_b9 law01_ScanBack_b33
abbrev law01_ScanBack_b35 : LC := .seq law01_ScanBack_b8 law01_ScanBack_b34
abbrev law01_ScanBack_b36 : LC := .loop law01_ScanBack_b35
abbrev law01_ScanBack_b37 : LC := .block 0 law01_ScanBack_b36
abbrev law01_ScanBack_b38 : LC := .seq law01_ScanBack_b6 law01_ScanBack_b37
abbrev law01_ScanBack_r39 : List LO := [⟨some 37, Op.move (Operand.tmp 5), 9, none⟩,
  ⟨some 38, Op.move (Operand.tmp 0), 9, none⟩,
  ⟨some 39, Op.binOp BinOp.neq 9 (Operand.tmp 37) (Operand.tmp 38) 9, 4, none⟩]
abbrev law01_ScanBack_b40 : LC := .reg false law01_ScanBack_r39
abbrev law01_ScanBack_r41 : List LO := [⟨some 4, Op.assign (Operand.const (Value.bool false)), 4, none⟩]
abbrev law01_ScanBack_b42 : LC := .reg false law01_ScanBack_r41
abbrev law01_ScanBack_b43 : LC := .seq law01_ScanBack_b42 .ret
abbrev law01_ScanBack_b44 : LC := .cond (Operand.tmp 39) law01_ScanBack_b43 .skip
abbrev law01_ScanBack_b45 : LC := .seq law01_ScanBack_b40 law01_ScanBack_b44
abbrev law01_ScanBack_r46 : List LO := [⟨some 8, Op.assign (Operand.const (Value.int IntKind.i64 0)), 3, none⟩]
abbrev law01_ScanBack_b47 : LC := .reg false law01_ScanBack_r46
abbrev law01_ScanBack_r48 : List LO := [⟨some 40, Op.move (Operand.tmp 0), 9, none⟩,
  ⟨some 41, Op.call { callee := Callee.value (Operand.func 24), args := #[Operand.tmp 40], argTypes := #[9] }, 27, none⟩,
  ⟨some 42, Op.call { callee := Callee.builtin Builtin.len, args := #[Operand.tmp 41], argTypes := #[27] }, 3, none⟩,
  ⟨some 43, Op.move (Operand.const (Value.int IntKind.i64 0)), 3, none⟩]
abbrev law01_ScanBack_b49 : LC := .reg false law01_ScanBack_r48
abbrev law01_ScanBack_r50 : List LO := [⟨some 44, Op.binOp BinOp.lss 3 (Operand.tmp 43) (Operand.tmp 42) 3, 0, none⟩]
abbrev law01_ScanBack_b51 : LC := .reg false law01_ScanBack_r50
abbrev law01_ScanBack_b52 : LC := .cond (Operand.tmp 44) .skip (.exit 2)
abbrev law01_ScanBack_r53 : List LO := [⟨some 45, Op.move (Operand.tmp 43), 3, none⟩,
  ⟨some 46, Op.indexAddr 27 (Operand.tmp 41) (Operand.tmp 43), 0, none⟩,
  ⟨some 47, Op.load 30 (Operand.tmp 46), 30, none⟩,
  ⟨some 10, Op.alloc 30, 0, none⟩,
  ⟨some 9, Op.assign (Operand.tmp 45), 3, none⟩,
  ⟨none, Op.store 30 (Operand.tmp 10) (Operand.tmp 47), 0, none⟩]
abbrev law01_ScanBack_b54 : LC := .reg false law01_ScanBack_r53
abbrev law01_ScanBack_r55 : List LO := [⟨some 48, Op.fieldAddr 30 (Operand.tmp 10) 2, 0, none⟩,
  ⟨some 49, Op.load 3 (Operand.tmp 48), 3, none⟩,
  ⟨some 50, Op.move (Operand.tmp 9), 3, none⟩,
  ⟨some 51, Op.binOp BinOp.add 3 (Operand.tmp 50) (Operand.const (Value.int IntKind.i64 1)) 3, 3, none⟩,
  ⟨some 52, Op.binOp BinOp.neq 3 (Operand.tmp 49) (Operand.tmp 51) 3, 4, none⟩,
  ⟨some 53, Op.move (Operand.tmp 52), 4, none⟩,
  ⟨some 54, Op.fieldAddr 30 (Operand.tmp 10) 1, 0, (some (53, false))⟩,
  ⟨some 55, Op.load 3 (Operand.tmp 54), 3, (some (53, false))⟩,
  ⟨some 56, Op.move (Operand.tmp 8), 3, (some (53, false))⟩,
  ⟨some 57, Op.binOp BinOp.neq 3 (Operand.tmp 55) (Operand.tmp 56) 3, 4, (some (53, false))⟩,
  ⟨some 58, Op.pick (Operand.tmp 53) (Operand.const (Value.bool true)) (Operand.tmp 57), 4, none⟩,
  ⟨some 59, Op.move (Operand.tmp 58), 4, none⟩,
  ⟨some 60, Op.move (Operand.tmp 0), 9, (some (59, false))⟩,
  ⟨some 61, Op.fieldAddr 30 (Operand.tmp 10) 1, 0, (some (59, false))⟩,
  ⟨some 62, Op.load 3 (Operand.tmp 61), 3, (some (59, false))⟩,
  ⟨some 63, Op.fieldAddr 30 (Operand.tmp 10) 0, 0, (some (59, false))⟩,
  ⟨some 64, Op.load 9 (Operand.tmp 63), 9, (some (59, false))⟩,
  ⟨some 65, Op.call { callee := Callee.value (Operand.func 25), args := #[Operand.tmp 60, Operand.tmp 62, Operand.tmp 64], argTypes := #[9, 3, 9] }, 4, (some (59, false))⟩,
  ⟨some 66, Op.unOp UnOp.not 4 (Operand.tmp 65), 4, (some (59, false))⟩,
  ⟨some 67, Op.pick (Operand.tmp 59) (Operand.const (Value.bool true)) (Operand.tmp 66), 4, none⟩]
abbrev law01_ScanBack_b56 : LC := .reg false law01_ScanBack_r55
abbrev law01_ScanBack_r57 : List LO := [⟨some 4, Op.assign (Operand.const (Value.bool false)), 4, none⟩]
abbrev law01_ScanBack_b58 : LC := .reg false law01_ScanBack_r57
abbrev law01_ScanBack_b59 : LC := .seq law01_ScanBack_b58 .ret
abbrev law01_ScanBack_b60 : LC := .cond (Operand.tmp 67) law01_ScanBack_b59 .skip
abbrev law01_ScanBack_b61 : LC := .seq law01_ScanBack_b56 law01_ScanBack_b60
abbrev law01_ScanBack_r62 : List LO := [⟨some 68, Op.fieldAddr 30 (Operand.tmp 10) 1, 0, none⟩,
  ⟨some 69, Op.load 3 (Operand.tmp 68), 3, none⟩,
  ⟨some 8, Op.assign (Operand.tmp 69), 3, none⟩]
abbrev law01_ScanBack_b63 : LC := .reg false law01_ScanBack_r62
abbrev law01_ScanBack_r64 : List LO := [⟨some 70, Op.move (Operand.tmp 8), 3, none⟩,
  ⟨some 71, Op.move (Operand.tmp 0), 9, none⟩,
  ⟨some 72, Op.call { callee := Callee.builtin Builtin.len, args := #[Operand.tmp 71], argTypes := #[9] }, 3, none⟩,
  ⟨some 73, Op.binOp BinOp.lss 3 (Operand.tmp 70) (Operand.tmp 72) 3, 4, none⟩,
  ⟨some 74, Op.move (Operand.tmp 73), 4, none⟩,
  ⟨some 75, Op.move (Operand.tmp 0), 9, (some (74, true))⟩,
  ⟨some 76, Op.move (Operand.tmp 8), 3, (some (74, true))⟩,
  ⟨some 77, Op.index 9 (Operand.tmp 75) (Operand.tmp 76), 5, (some (74, true))⟩,
  ⟨some 78, Op.binOp BinOp.neq 5 (Operand.tmp 77) (Operand.const (Value.int IntKind.u8 10)) 5, 4, (some (74, true))⟩,
  ⟨some 79, Op.pick (Operand.tmp 74) (Operand.tmp 78) (Operand.const (Value.bool false)), 4, none⟩]
abbrev law01_ScanBack_b65 : LC := .reg false law01_ScanBack_r64
abbrev law01_ScanBack_b66 : LC := .cond (Operand.tmp 79) .skip (.exit 4)
abbrev law01_ScanBack_b67 : LC := .seq law01_ScanBack_b65 law01_ScanBack_b66
abbrev law01_ScanBack_r68 : List LO := [⟨some 80, Op.move (Operand.tmp 8), 3, none⟩,
  ⟨some 81, Op.binOp BinOp.add 3 (Operand.tmp 80) (Operand.const (Value.int IntKind.i64 1)) 3, 3, none⟩,
  ⟨some 8, Op.assign (Operand.tmp 81), 3, none⟩]
abbrev law01_ScanBack_b69 : LC := .reg false law01_ScanBack_r68
abbrev law01_ScanBack_b70 : LC := .block 5 law01_ScanBack_b69
abbrev law01_ScanBack_b71 : LC := .seq law01_ScanBack_b67 law01_ScanBack_b70
abbrev law01_ScanBack_b72 : LC := .loop law01_ScanBack_b71
abbrev law01_ScanBack_b73 : LC := .block 4 law01_ScanBack_b72
abbrev law01_ScanBack_r74 : List LO := [⟨some 82, Op.move (Operand.tmp 8), 3, none⟩,
  ⟨some 83, Op.binOp BinOp.add 3 (Operand.tmp 82) (Operand.const (Value.int IntKind.i64 1)) 3, 3, none⟩,
  ⟨some 8, Op.assign (Operand.tmp 83), 3, none⟩]
abbrev law01_ScanBack_b75 : LC := .reg false law01_ScanBack_r74
abbrev law01_ScanBack_b76 : LC := .seq law01_ScanBack_b73 law01_ScanBack_b75
abbrev law01_ScanBack_b77 : LC := .seq law01_ScanBack_b63 law01_ScanBack_b76
abbrev law01_ScanBack_b78 : LC := .seq law01_ScanBack_b61 law01_ScanBack_b77
abbrev law01_ScanBack_b79 : LC := .seq law01_ScanBack_b54 law01_ScanBack_b78
abbrev law01_ScanBack_b80 : LC := .block 3 law01_ScanBack_b79
abbrev law01_ScanBack_r81 : List LO := [⟨some 84, Op.binOp BinOp.add 3 (Operand.tmp 43) (Operand.const (Value.int IntKind.i64 1)) 3, 3, none⟩,
  ⟨some 43, Op.move (Operand.tmp 84), 3, none⟩]
abbrev law01_ScanBack_b82 : LC := .reg false law01_ScanBack_r81
abbrev law01_ScanBack_b83 : LC := .seq law01_ScanBack_b80 law01_ScanBack_b82
abbrev law01_ScanBack_b84 : LC := .seq law01_ScanBack_b52 law01_ScanBack_b83
abbrev law01_ScanBack_b85 : LC := .seq law01_ScanBack_b51 law01_ScanBack_b84
abbrev law01_ScanBack_b86 : LC := .loop law01_ScanBack_b85
abbrev law01_ScanBack_b87 : LC := .block 2 law01_ScanBack_b86
abbrev law01_ScanBack_b88 : LC := .seq law01_ScanBack_b49 law01_ScanBack_b87
abbrev law01_ScanBack_r89 : List LO := [⟨some 85, Op.move (Operand.tmp 8), 3, none⟩,
  ⟨some 86, Op.move (Operand.tmp 0), 9, none⟩,
  ⟨some 87, Op.call { callee := Callee.builtin Builtin.len, args := #[Operand.tmp 86], argTypes := #[9] }, 3, none⟩,
  ⟨some 88, Op.binOp BinOp.geq 3 (Operand.tmp 85) (Operand.tmp 87) 3, 4, none⟩,
  ⟨some 89, Op.move (Operand.tmp 88), 4, none⟩,
  ⟨some 90, Op.call { callee := Callee.value (Operand.func 21), args := #[], argTypes := #[] }, 4, (some (89, true))⟩,
  ⟨some 91, Op.pick (Operand.tmp 89) (Operand.tmp 90) (Operand.const (Value.bool false)), 4, none⟩,
  ⟨some 4, Op.assign (Operand.tmp 91), 4, none⟩]
abbrev law01_ScanBack_b90 : LC := .reg false law01_ScanBack_r89
abbrev law01_ScanBack_b91 : LC := .seq law01_ScanBack_b90 .ret
abbrev law01_ScanBack_b92 : LC := .seq law01_ScanBack_b88 law01_ScanBack_b91
abbrev law01_ScanBack_b93 : LC := .seq law01_ScanBack_b47 law01_ScanBack_b92
abbrev law01_ScanBack_b94 : LC := .seq law01_ScanBack_b45 law01_ScanBack_b93
abbrev law01_ScanBack_b95 : LC := .seq law01_ScanBack_b38 law01_ScanBack_b94
abbrev law01_ScanBack_b96 : LC := .seq law01_ScanBack_b4 law01_ScanBack_b95
abbrev law01_ScanBack_b97 : LC := .seq law01_ScanBack_b2 law01_ScanBack_b96
theorem law01_ScanBack_k : FnOk E 5 92 [.tmp 4] law01_ScanBack_b97 := ⟨⟨Go.Proofs.Tryd.f5, by kernel_rfl, by kernel_rfl, by kernel_rfl, by kernel_rfl, by kernel_rfl⟩, rfl⟩
noncomputable def law01_ScanBack_l1 (a1 : Int) (x1 : (List S_api_Piece)) : (Str × Int) → Option (Step (Str × Int) ((Unit) ⊕ (Str))) := fun (x4, x5) => (if (decide (x5 < (List.length x1 : Int))) = true then Option.bind (ixl x1 x5) (fun x13 => Option.bind ((if (decide (x5 > 0)) = true then Option.bind (cat x4 (ofb [a1])) (fun x16 => some x16) else some x4) : Option (Str)) (fun x15 => (if (x13.At != (List.length x15 : Int)) = true then some (Step.done (Sum.inl ())) else Option.bind (cat x15 x13.Text) (fun x17 => some (Step.next (x17, (w64 (x5 + 1)))))))) else some (Step.done (Sum.inr x4)))
noncomputable def law01_ScanBack_l2 (a0 : Str) : Int → Option (Step (Int) (Int)) := fun x50 => Option.bind (if (decide (x50 < (List.length a0 : Int))) = true then Option.bind (idx a0 x50) (fun x57 => some (x57 != 10)) else some false : Option (Bool)) (fun x56 => (if x56 = true then some (Step.next (w64 (x50 + 1))) else some (Step.done x50)))
noncomputable def law01_ScanBack_l3 (a0 : Str) (x18 : (List S_api_Piece)) : (Int × Int) → Option (Step (Int × Int) ((Unit) ⊕ (Int))) := fun (x29, x30) => (if (decide (x30 < (List.length x18 : Int))) = true then Option.bind (ixl x18 x30) (fun x44 => Option.bind (if ((x44.Line != (w64 (x30 + 1))) || (x44.At != x29)) = true then some true else Option.bind (ref01_Starts a0 x44.At x44.Text) (fun x47 => some (!x47)) : Option (Bool)) (fun x46 => (if x46 = true then some (Step.done (Sum.inl ())) else Option.bind (loopC (law01_ScanBack_l2 a0) x44.At) (fun x54 => some (Step.next ((w64 (x54 + 1)), (w64 (x30 + 1)))))))) else some (Step.done (Sum.inr x29)))
noncomputable def law01_ScanBack (a0 : Str) (a1 : Int) : Option (Bool) := Option.bind (scan_Split a0 a1) (fun x1 => Option.bind (loopC (law01_ScanBack_l1 a1 x1) ([], 0)) (fun y => match y with | Sum.inl _ => some false | Sum.inr x12 => (if (!(x12 == a0)) = true then some false else Option.bind (scan_Lines a0) (fun x18 => Option.bind (loopC (law01_ScanBack_l3 a0 x18) (0, 0)) (fun y => match y with | Sum.inl _ => some false | Sum.inr x43 => Option.bind (if (decide (x43 ≥ (List.length a0 : Int))) = true then Option.bind (law01_awake) (fun x60 => some x60) else some false : Option (Bool)) (fun x59 => some x59))))))
theorem law01_ScanBack_ok (a0 : Str) (a1 : Int) : Ct E 5 [bs a0, .s (.int .u8 a1)] (law01_ScanBack a0 a1) (fun r : Bool => bv r) := ct_intro (N := 92) (L := law01_ScanBack_b97) law01_ScanBack_k rfl (Nat.le_of_ble_eq_true rfl) (by kernel_rfl) (by
  unfold law01_ScanBack
  refine jc_seq ?_
  refine jc_reg ?_
  refine jr_seg 0 1 [0, 1] [] (st1 := ⟨[(0, .av (bs a0)), (1, .av (.s (.int .u8 a1)))], [], 0⟩) (by kernel_rfl) ?_
  refine jr_nil rfl ?_
  refine jx_seqN ?_
  refine jc_seq ?_
  refine jc_reg ?_
  refine jr_seg 0 1 [0, 1, 5] [] (st1 := ⟨[(0, .av (bs a0)), (1, .av (.s (.int .u8 a1))), (5, .av (bs []))], [], 0⟩) (by kernel_rfl) ?_
  refine jr_nil rfl ?_
  refine jx_seqN ?_
  refine jc_seq ?_
  refine jc_seq ?_
  refine jc_reg ?_
  refine jr_seg 0 2 [0, 1, 5, 11, 12] [] (st1 := ⟨[(0, .av (bs a0)), (1, .av (.s (.int .u8 a1))), (5, .av (bs [])), (11, .av (bs a0)), (12, .av (.s (.int .u8 a1)))], [], 0⟩) (by kernel_rfl) ?_
  refine jr_callF (i := 2) rfl rfl rfl rfl (vs := [bs a0, .s (.int .u8 a1)]) (by kernel_rfl) (snapL_cons rfl (snapL_cons rfl (snapL_nil _))) (all2_cons (fle_refl _) (all2_cons (fle_refl _) all2_nil)) (scan_Split_ok a0 a1) (fun _ => rfl) (fun _ => rfl) ?_
  intro x1 h1
  refine jr_seg 3 2 [0, 1, 5, 13, 14, 15] [] (st1 := ⟨[(0, .av (bs a0)), (1, .av (.s (.int .u8 a1))), (5, .av (bs [])), (13, .av (.fsl 3 (List.map c_S_api_Piece x1))), (14, .av (iv (List.length (List.map c_S_api_Piece x1) : Int))), (15, .av (iv 0))], [], 0⟩) (by kernel_rfl) ?_
  simp only [List.length_map]
  refine jr_nil rfl ?_
  refine jx_seqN ?_
  refine jc_block ?_
  refine jc_bind (fun y => match y with | Sum.inl _ => ⟨[(4, .av (bv false))], [], 0⟩ | Sum.inr x12 => ⟨[(0, .av (bs a0)), (5, .av (bs x12))], [], 0⟩) (fun y => match y with | Sum.inl _ => .ret | Sum.inr x12 => (.exit 0)) (jc_loop (fun (x4, x5) => ⟨[(0, .av (bs a0)), (1, .av (.s (.int .u8 a1))), (5, .av (bs x4)), (13, .av (.fsl 3 (List.map c_S_api_Piece x1))), (14, .av (iv (List.length x1 : Int))), (15, .av (iv x5))], [], 0⟩) (wk_ren [] (fix_nil _) rfl (by kernel_rfl) allp_nil) ?_) ?_
  · rintro ⟨x4, x5⟩
    unfold law01_ScanBack_l1
    refine jc_seq ?_
    refine jc_reg ?_
    refine jr_seg 0 1 [0, 1, 5, 13, 14, 15, 16] [] (st1 := ⟨[(0, .av (bs a0)), (1, .av (.s (.int .u8 a1))), (5, .av (bs x4)), (13, .av (.fsl 3 (List.map c_S_api_Piece x1))), (14, .av (iv (List.length x1 : Int))), (15, .av (iv x5)), (16, .av (bv (decide (x5 < (List.length x1 : Int)))))], [], 0⟩) (by kernel_rfl) ?_
    refine jr_nil rfl ?_
    refine jx_seqN ?_
    refine jc_seq ?_
    refine jc_cond (g := 16) (c := (decide (x5 < (List.length x1 : Int)))) (by kernel_rfl) ?_ ?_
    · intro _
      refine jc_skip ?_
      refine jx_seqN ?_
      refine jc_seq ?_
      refine jc_block ?_
      refine jc_seq ?_
      refine jc_reg ?_
      refine jr_seg 0 1 [0, 1, 5, 13, 14, 15, 17] [] (st1 := ⟨[(0, .av (bs a0)), (1, .av (.s (.int .u8 a1))), (5, .av (bs x4)), (13, .av (.fsl 3 (List.map c_S_api_Piece x1))), (14, .av (iv (List.length x1 : Int))), (15, .av (iv x5)), (17, .av (iv x5))], [], 0⟩) (by kernel_rfl) ?_
      refine jr_part (i := 1) (mo := ixl x1 x5) rfl rfl rfl rfl (fun _ hc => aop_ixf (c := c_S_api_Piece) (sz := 3) (e := 30) (kk := .i64) (by kernel_rfl) (by kernel_rfl) (by kernel_rfl) (by kernel_rfl) hc) (fun _ => rfl) ?_
      intro x13 h13
      refine jr_seg 2 4 [0, 1, 5, 6, 7, 13, 14, 15] [0] (st1 := ⟨[(0, .av (bs a0)), (1, .av (.s (.int .u8 a1))), (5, .av (bs x4)), (6, .av (iv x5)), (7, .av (.ptr 0 0 3 0)), (13, .av (.fsl 3 (List.map c_S_api_Piece x1))), (14, .av (iv (List.length x1 : Int))), (15, .av (iv x5))], [(0, .rows 3 [[bs x13.Text, iv x13.At, iv x13.Line]])], 1⟩) (by kernel_rfl) ?_
      refine jr_nil rfl ?_
      refine jx_seqN ?_
      refine jc_seq ?_
      refine jc_bind (fun x15 => ⟨[(0, .av (bs a0)), (1, .av (.s (.int .u8 a1))), (5, .av (bs x15)), (7, .av (.ptr 0 0 3 0)), (13, .av (.fsl 3 (List.map c_S_api_Piece x1))), (14, .av (iv (List.length x1 : Int))), (15, .av (iv x5))], [(0, .rows 3 [[bs x13.Text, iv x13.At, iv x13.Line]])], 1⟩) (fun x15 => .normal) ?_ ?_
      · refine jc_seq ?_
        refine jc_reg ?_
        refine jr_seg 0 2 [0, 1, 5, 7, 13, 14, 15, 21] [0] (st1 := ⟨[(0, .av (bs a0)), (1, .av (.s (.int .u8 a1))), (5, .av (bs x4)), (7, .av (.ptr 0 0 3 0)), (13, .av (.fsl 3 (List.map c_S_api_Piece x1))), (14, .av (iv (List.length x1 : Int))), (15, .av (iv x5)), (21, .av (bv (decide (x5 > 0))))], [(0, .rows 3 [[bs x13.Text, iv x13.At, iv x13.Line]])], 1⟩) (by kernel_rfl) ?_
        refine jr_nil rfl ?_
        refine jx_seqN ?_
        refine jc_cond (g := 21) (c := (decide (x5 > 0))) (by kernel_rfl) ?_ ?_
        · intro _
          refine jc_reg ?_
          refine jr_seg 0 3 [0, 1, 7, 13, 14, 15, 22, 24] [0, 1] (st1 := ⟨[(0, .av (bs a0)), (1, .av (.s (.int .u8 a1))), (7, .av (.ptr 0 0 3 0)), (13, .av (.fsl 3 (List.map c_S_api_Piece x1))), (14, .av (iv (List.length x1 : Int))), (15, .av (iv x5)), (22, .av (bs x4)), (24, .av (.osl 1 0 (List.length [a1]) 1))], [(0, .rows 3 [[bs x13.Text, iv x13.At, iv x13.Line]]), (1, .rows 1 (List.map cB [a1]))], 2⟩) (by kernel_rfl) ?_
          refine jr_one (i := 3) rfl rfl rfl rfl (aop_ofb_o (e := 5) (id := 1) (l := [a1]) (by kernel_rfl) (by kernel_rfl) (by kernel_rfl) (by kernel_rfl) (by kernel_rfl)) rfl ?_
          refine jr_part (i := 4) (mo := cat x4 (ofb [a1])) rfl rfl rfl rfl (fun _ hc => aop_cat (by kernel_rfl) (by kernel_rfl) hc) (fun _ => rfl) ?_
          intro x16 h16
          refine jr_seg 5 1 [0, 1, 5, 7, 13, 14, 15] [0] (st1 := ⟨[(0, .av (bs a0)), (1, .av (.s (.int .u8 a1))), (5, .av (bs x16)), (7, .av (.ptr 0 0 3 0)), (13, .av (.fsl 3 (List.map c_S_api_Piece x1))), (14, .av (iv (List.length x1 : Int))), (15, .av (iv x5))], [(0, .rows 3 [[bs x13.Text, iv x13.At, iv x13.Line]])], 3⟩) (by kernel_rfl) ?_
          refine jr_nil rfl ?_
          exact jx_mid rfl (wk_ren [(0, some 0)] (fix_nil _) rfl (by kernel_rfl) (allp_cons (.inl ⟨0, _, _, _, rfl, rfl, rfl, .inl (by kernel_rfl)⟩) allp_nil))
        · intro _
          refine jc_skip ?_
          exact jx_mid rfl (wk_ren [(0, some 0)] (fix_nil _) rfl (by kernel_rfl) (allp_cons (.inl ⟨0, _, _, _, rfl, rfl, rfl, .inl (by kernel_rfl)⟩) allp_nil))
      · intro x15
        refine jx_seqN ?_
        refine jc_seq ?_
        refine jc_seq ?_
        refine jc_reg ?_
        refine jr_seg 0 5 [0, 1, 5, 7, 13, 14, 15, 31] [0] (st1 := ⟨[(0, .av (bs a0)), (1, .av (.s (.int .u8 a1))), (5, .av (bs x15)), (7, .av (.ptr 0 0 3 0)), (13, .av (.fsl 3 (List.map c_S_api_Piece x1))), (14, .av (iv (List.length x1 : Int))), (15, .av (iv x5)), (31, .av (bv (x13.At != (List.length x15 : Int))))], [(0, .rows 3 [[bs x13.Text, iv x13.At, iv x13.Line]])], 1⟩) (by kernel_rfl) ?_
        refine jr_nil rfl ?_
        refine jx_seqN ?_
        refine jc_cond (g := 31) (c := (x13.At != (List.length x15 : Int))) (by kernel_rfl) ?_ ?_
        · intro _
          refine jc_seq ?_
          refine jc_reg ?_
          refine jr_seg 0 1 [4] [] (st1 := ⟨[(4, .av (bv false))], [], 1⟩) (by kernel_rfl) ?_
          refine jr_nil rfl ?_
          refine jx_seqN ?_
          refine jc_ret ?_
          refine jx_seqR ?_
          refine jx_blkR ?_
          refine jx_seqR ?_
          exact jx_done rfl nofun (wk_ren [] (fix_nil _) rfl (by kernel_rfl) allp_nil)
        · intro _
          refine jc_skip ?_
          refine jx_seqN ?_
          refine jc_reg ?_
          refine jr_seg 0 3 [0, 1, 13, 14, 15, 32, 34] [] (st1 := ⟨[(0, .av (bs a0)), (1, .av (.s (.int .u8 a1))), (13, .av (.fsl 3 (List.map c_S_api_Piece x1))), (14, .av (iv (List.length x1 : Int))), (15, .av (iv x5)), (32, .av (bs x15)), (34, .av (bs x13.Text))], [], 1⟩) (by kernel_rfl) ?_
          refine jr_part (i := 3) (mo := cat x15 x13.Text) rfl rfl rfl rfl (fun _ hc => aop_cat (by kernel_rfl) (by kernel_rfl) hc) (fun _ => rfl) ?_
          intro x17 h17
          refine jr_seg 4 1 [0, 1, 5, 13, 14, 15] [] (st1 := ⟨[(0, .av (bs a0)), (1, .av (.s (.int .u8 a1))), (5, .av (bs x17)), (13, .av (.fsl 3 (List.map c_S_api_Piece x1))), (14, .av (iv (List.length x1 : Int))), (15, .av (iv x5))], [], 1⟩) (by kernel_rfl) ?_
          refine jr_nil rfl ?_
          refine jx_blkN ?_
          refine jx_seqN ?_
          refine jc_reg ?_
          refine jr_seg 0 2 [0, 1, 5, 13, 14, 15] [] (st1 := ⟨[(0, .av (bs a0)), (1, .av (.s (.int .u8 a1))), (5, .av (bs x17)), (13, .av (.fsl 3 (List.map c_S_api_Piece x1))), (14, .av (iv (List.length x1 : Int))), (15, .av (iv (w64 (x5 + 1))))], [], 1⟩) (by kernel_rfl) ?_
          refine jr_nil rfl ?_
          exact jx_next (wk_ren [] (fix_nil _) rfl (by kernel_rfl) allp_nil)
    · intro _
      refine jc_exit ?_
      refine jx_seqE ?_
      exact jx_done rfl nofun (wk_ren [] (fix_nil _) rfl (by kernel_rfl) allp_nil)
  · rintro (_ | x12)
    · refine jx_blkR ?_
      refine jx_seqR ?_
      exact jx_retF (.inr rfl) (v := bv false) (by kernel_rfl) rfl (fle_refl _)
    · refine jx_blkE ?_
      refine jx_seqN ?_
      refine jc_seq ?_
      refine jc_seq ?_
      refine jc_reg ?_
      refine jr_seg 0 3 [0, 39] [] (st1 := ⟨[(0, .av (bs a0)), (39, .av (bv (!(x12 == a0))))], [], 0⟩) (by kernel_rfl) ?_
      refine jr_nil rfl ?_
      refine jx_seqN ?_
      refine jc_cond (g := 39) (c := (!(x12 == a0))) (by kernel_rfl) ?_ ?_
      · intro _
        refine jc_seq ?_
        refine jc_reg ?_
        refine jr_seg 0 1 [4] [] (st1 := ⟨[(4, .av (bv false))], [], 0⟩) (by kernel_rfl) ?_
        refine jr_nil rfl ?_
        refine jx_seqN ?_
        refine jc_ret ?_
        refine jx_seqR ?_
        exact jx_retF (.inr rfl) (v := bv false) (by kernel_rfl) rfl (fle_refl _)
      · intro _
        refine jc_skip ?_
        refine jx_seqN ?_
        refine jc_seq ?_
        refine jc_reg ?_
        refine jr_seg 0 1 [0, 8] [] (st1 := ⟨[(0, .av (bs a0)), (8, .av (iv 0))], [], 0⟩) (by kernel_rfl) ?_
        refine jr_nil rfl ?_
        refine jx_seqN ?_
        refine jc_seq ?_
        refine jc_seq ?_
        refine jc_reg ?_
        refine jr_seg 0 1 [0, 8, 40] [] (st1 := ⟨[(0, .av (bs a0)), (8, .av (iv 0)), (40, .av (bs a0))], [], 0⟩) (by kernel_rfl) ?_
        refine jr_callF (i := 1) rfl rfl rfl rfl (vs := [bs a0]) (by kernel_rfl) (snapL_cons rfl (snapL_nil _)) (all2_cons (fle_refl _) all2_nil) (scan_Lines_ok a0) (fun _ => rfl) (fun _ => rfl) ?_
        intro x18 h18
        refine jr_seg 2 2 [0, 8, 41, 42, 43] [] (st1 := ⟨[(0, .av (bs a0)), (8, .av (iv 0)), (41, .av (.fsl 3 (List.map c_S_api_Piece x18))), (42, .av (iv (List.length (List.map c_S_api_Piece x18) : Int))), (43, .av (iv 0))], [], 0⟩) (by kernel_rfl) ?_
        simp only [List.length_map]
        refine jr_nil rfl ?_
        refine jx_seqN ?_
        refine jc_block ?_
        refine jc_bind (fun y => match y with | Sum.inl _ => ⟨[(4, .av (bv false))], [], 0⟩ | Sum.inr x43 => ⟨[(0, .av (bs a0)), (8, .av (iv x43))], [], 0⟩) (fun y => match y with | Sum.inl _ => .ret | Sum.inr x43 => (.exit 2)) (jc_loop (fun (x29, x30) => ⟨[(0, .av (bs a0)), (8, .av (iv x29)), (41, .av (.fsl 3 (List.map c_S_api_Piece x18))), (42, .av (iv (List.length x18 : Int))), (43, .av (iv x30))], [], 0⟩) (wk_ren [] (fix_nil _) rfl (by kernel_rfl) allp_nil) ?_) ?_
        · rintro ⟨x29, x30⟩
          unfold law01_ScanBack_l3
          refine jc_seq ?_
          refine jc_reg ?_
          refine jr_seg 0 1 [0, 8, 41, 42, 43, 44] [] (st1 := ⟨[(0, .av (bs a0)), (8, .av (iv x29)), (41, .av (.fsl 3 (List.map c_S_api_Piece x18))), (42, .av (iv (List.length x18 : Int))), (43, .av (iv x30)), (44, .av (bv (decide (x30 < (List.length x18 : Int)))))], [], 0⟩) (by kernel_rfl) ?_
          refine jr_nil rfl ?_
          refine jx_seqN ?_
          refine jc_seq ?_
          refine jc_cond (g := 44) (c := (decide (x30 < (List.length x18 : Int)))) (by kernel_rfl) ?_ ?_
          · intro _
            refine jc_skip ?_
            refine jx_seqN ?_
            refine jc_seq ?_
            refine jc_block ?_
            refine jc_seq ?_
            refine jc_reg ?_
            refine jr_seg 0 1 [0, 8, 41, 42, 43, 45] [] (st1 := ⟨[(0, .av (bs a0)), (8, .av (iv x29)), (41, .av (.fsl 3 (List.map c_S_api_Piece x18))), (42, .av (iv (List.length x18 : Int))), (43, .av (iv x30)), (45, .av (iv x30))], [], 0⟩) (by kernel_rfl) ?_
            refine jr_part (i := 1) (mo := ixl x18 x30) rfl rfl rfl rfl (fun _ hc => aop_ixf (c := c_S_api_Piece) (sz := 3) (e := 30) (kk := .i64) (by kernel_rfl) (by kernel_rfl) (by kernel_rfl) (by kernel_rfl) hc) (fun _ => rfl) ?_
            intro x44 h44
            refine jr_seg 2 4 [0, 8, 9, 10, 41, 42, 43] [0] (st1 := ⟨[(0, .av (bs a0)), (8, .av (iv x29)), (9, .av (iv x30)), (10, .av (.ptr 0 0 3 0)), (41, .av (.fsl 3 (List.map c_S_api_Piece x18))), (42, .av (iv (List.length x18 : Int))), (43, .av (iv x30))], [(0, .rows 3 [[bs x44.Text, iv x44.At, iv x44.Line]])], 1⟩) (by kernel_rfl) ?_
            refine jr_nil rfl ?_
            refine jx_seqN ?_
            refine jc_seq ?_
            refine jc_seq ?_
            refine jc_reg ?_
            refine jr_seg 0 12 [0, 10, 41, 42, 43, 59] [0] (st1 := ⟨[(0, .av (bs a0)), (10, .av (.ptr 0 0 3 0)), (41, .av (.fsl 3 (List.map c_S_api_Piece x18))), (42, .av (iv (List.length x18 : Int))), (43, .av (iv x30)), (59, .av (bv ((x44.Line != (w64 (x30 + 1))) || (x44.At != x29))))], [(0, .rows 3 [[bs x44.Text, iv x44.At, iv x44.Line]])], 1⟩) (by kernel_rfl) ?_
            refine jr_bind 12 8 (fun x46 => ⟨[(0, .av (bs a0)), (10, .av (.ptr 0 0 3 0)), (41, .av (.fsl 3 (List.map c_S_api_Piece x18))), (42, .av (iv (List.length x18 : Int))), (43, .av (iv x30)), (67, .av (bv x46))], [(0, .rows 3 [[bs x44.Text, iv x44.At, iv x44.Line]])], 1⟩) ?_ ?_
            · refine jr_split (g := 59) (c := ((x44.Line != (w64 (x30 + 1))) || (x44.At != x29))) (by kernel_rfl) ?_ ?_
              · intro _
                refine jr_seg 0 8 [0, 10, 41, 42, 43, 67] [0] (st1 := ⟨[(0, .av (bs a0)), (10, .av (.ptr 0 0 3 0)), (41, .av (.fsl 3 (List.map c_S_api_Piece x18))), (42, .av (iv (List.length x18 : Int))), (43, .av (iv x30)), (67, .av (bv true))], [(0, .rows 3 [[bs x44.Text, iv x44.At, iv x44.Line]])], 1⟩) (by kernel_rfl) ?_
                refine jr_nil rfl ?_
                exact jx_mid rfl (wk_ren [(0, some 0)] (fix_nil _) rfl (by kernel_rfl) (allp_cons (.inl ⟨0, _, _, _, rfl, rfl, rfl, .inl (by kernel_rfl)⟩) allp_nil))
              · intro _
                refine jr_seg 0 5 [0, 10, 41, 42, 43, 59, 60, 62, 64] [0] (st1 := ⟨[(0, .av (bs a0)), (10, .av (.ptr 0 0 3 0)), (41, .av (.fsl 3 (List.map c_S_api_Piece x18))), (42, .av (iv (List.length x18 : Int))), (43, .av (iv x30)), (59, .lit false), (60, .av (bs a0)), (62, .av (iv x44.At)), (64, .av (bs x44.Text))], [(0, .rows 3 [[bs x44.Text, iv x44.At, iv x44.Line]])], 1⟩) (by kernel_rfl) ?_
                refine jr_callF (i := 5) rfl rfl rfl rfl (vs := [bs a0, iv x44.At, bs x44.Text]) (by kernel_rfl) (snapL_cons rfl (snapL_cons rfl (snapL_cons rfl (snapL_nil _)))) (all2_cons (fle_refl _) (all2_cons (fle_refl _) (all2_cons (fle_refl _) all2_nil))) (ref01_Starts_ok a0 x44.At x44.Text) (fun _ => rfl) (fun _ => rfl) ?_
                intro x47 h47
                refine jr_seg 6 2 [0, 10, 41, 42, 43, 67] [0] (st1 := ⟨[(0, .av (bs a0)), (10, .av (.ptr 0 0 3 0)), (41, .av (.fsl 3 (List.map c_S_api_Piece x18))), (42, .av (iv (List.length x18 : Int))), (43, .av (iv x30)), (67, .av (bv (!x47)))], [(0, .rows 3 [[bs x44.Text, iv x44.At, iv x44.Line]])], 1⟩) (by kernel_rfl) ?_
                refine jr_nil rfl ?_
                exact jx_mid rfl (wk_ren [(0, some 0)] (fix_nil _) rfl (by kernel_rfl) (allp_cons (.inl ⟨0, _, _, _, rfl, rfl, rfl, .inl (by kernel_rfl)⟩) allp_nil))
            · intro x46
              refine jr_nil rfl ?_
              refine jx_seqN ?_
              refine jc_cond (g := 67) (c := x46) (by kernel_rfl) ?_ ?_
              · intro _
                refine jc_seq ?_
                refine jc_reg ?_
                refine jr_seg 0 1 [4] [] (st1 := ⟨[(4, .av (bv false))], [], 1⟩) (by kernel_rfl) ?_
                refine jr_nil rfl ?_
                refine jx_seqN ?_
                refine jc_ret ?_
                refine jx_seqR ?_
                refine jx_blkR ?_
                refine jx_seqR ?_
                exact jx_done rfl nofun (wk_ren [] (fix_nil _) rfl (by kernel_rfl) allp_nil)
              · intro _
                refine jc_skip ?_
                refine jx_seqN ?_
                refine jc_seq ?_
                refine jc_reg ?_
                refine jr_seg 0 3 [0, 8, 41, 42, 43] [] (st1 := ⟨[(0, .av (bs a0)), (8, .av (iv x44.At)), (41, .av (.fsl 3 (List.map c_S_api_Piece x18))), (42, .av (iv (List.length x18 : Int))), (43, .av (iv x30))], [], 1⟩) (by kernel_rfl) ?_
                refine jr_nil rfl ?_
                refine jx_seqN ?_
                refine jc_seq ?_
                refine jc_block ?_
                refine jc_bind (fun x54 => ⟨[(0, .av (bs a0)), (8, .av (iv x54)), (41, .av (.fsl 3 (List.map c_S_api_Piece x18))), (42, .av (iv (List.length x18 : Int))), (43, .av (iv x30))], [], 0⟩) (fun x54 => (.exit 4)) (jc_loop (fun x50 => ⟨[(0, .av (bs a0)), (8, .av (iv x50)), (41, .av (.fsl 3 (List.map c_S_api_Piece x18))), (42, .av (iv (List.length x18 : Int))), (43, .av (iv x30))], [], 0⟩) (wk_ren [] (fix_nil _) rfl (by kernel_rfl) allp_nil) ?_) ?_
                · intro x50
                  unfold law01_ScanBack_l2
                  refine jc_seq ?_
                  refine jc_seq ?_
                  refine jc_reg ?_
                  refine jr_seg 0 5 [0, 8, 41, 42, 43, 74] [] (st1 := ⟨[(0, .av (bs a0)), (8, .av (iv x50)), (41, .av (.fsl 3 (List.map c_S_api_Piece x18))), (42, .av (iv (List.length x18 : Int))), (43, .av (iv x30)), (74, .av (bv (decide (x50 < (List.length a0 : Int)))))], [], 0⟩) (by kernel_rfl) ?_
                  refine jr_bind 5 5 (fun x56 => ⟨[(0, .av (bs a0)), (8, .av (iv x50)), (41, .av (.fsl 3 (List.map c_S_api_Piece x18))), (42, .av (iv (List.length x18 : Int))), (43, .av (iv x30)), (79, .av (bv x56))], [], 0⟩) ?_ ?_
                  · refine jr_split (g := 74) (c := (decide (x50 < (List.length a0 : Int)))) (by kernel_rfl) ?_ ?_
                    · intro _
                      refine jr_seg 0 2 [0, 8, 41, 42, 43, 74, 75, 76] [] (st1 := ⟨[(0, .av (bs a0)), (8, .av (iv x50)), (41, .av (.fsl 3 (List.map c_S_api_Piece x18))), (42, .av (iv (List.length x18 : Int))), (43, .av (iv x30)), (74, .lit true), (75, .av (bs a0)), (76, .av (iv x50))], [], 0⟩) (by kernel_rfl) ?_
                      refine jr_part (i := 2) (mo := idx a0 x50) rfl rfl rfl rfl (fun _ hc => aop_index (kk := .i64) (by kernel_rfl) (by kernel_rfl) (by kernel_rfl) hc) (fun _ => rfl) ?_
                      intro x57 h57
                      refine jr_seg 3 2 [0, 8, 41, 42, 43, 79] [] (st1 := ⟨[(0, .av (bs a0)), (8, .av (iv x50)), (41, .av (.fsl 3 (List.map c_S_api_Piece x18))), (42, .av (iv (List.length x18 : Int))), (43, .av (iv x30)), (79, .av (bv (x57 != 10)))], [], 0⟩) (by kernel_rfl) ?_
                      refine jr_nil rfl ?_
                      exact jx_mid rfl (wk_ren [] (fix_nil _) rfl (by kernel_rfl) allp_nil)
                    · intro _
                      refine jr_seg 0 5 [0, 8, 41, 42, 43, 79] [] (st1 := ⟨[(0, .av (bs a0)), (8, .av (iv x50)), (41, .av (.fsl 3 (List.map c_S_api_Piece x18))), (42, .av (iv (List.length x18 : Int))), (43, .av (iv x30)), (79, .av (bv false))], [], 0⟩) (by kernel_rfl) ?_
                      refine jr_nil rfl ?_
                      exact jx_mid rfl (wk_ren [] (fix_nil _) rfl (by kernel_rfl) allp_nil)
                  · intro x56
                    refine jr_nil rfl ?_
                    refine jx_seqN ?_
                    refine jc_cond (g := 79) (c := x56) (by kernel_rfl) ?_ ?_
                    · intro _
                      refine jc_skip ?_
                      refine jx_seqN ?_
                      refine jc_block ?_
                      refine jc_reg ?_
                      refine jr_seg 0 3 [0, 8, 41, 42, 43] [] (st1 := ⟨[(0, .av (bs a0)), (8, .av (iv (w64 (x50 + 1)))), (41, .av (.fsl 3 (List.map c_S_api_Piece x18))), (42, .av (iv (List.length x18 : Int))), (43, .av (iv x30))], [], 0⟩) (by kernel_rfl) ?_
                      refine jr_nil rfl ?_
                      refine jx_blkN ?_
                      exact jx_next (wk_ren [] (fix_nil _) rfl (by kernel_rfl) allp_nil)
                    · intro _
                      refine jc_exit ?_
                      refine jx_seqE ?_
                      exact jx_done rfl nofun (wk_ren [] (fix_nil _) rfl (by kernel_rfl) allp_nil)
                · intro x54
                  refine jx_blkE ?_
                  refine jx_seqN ?_
                  refine jc_reg ?_
                  refine jr_seg 0 3 [0, 8, 41, 42, 43] [] (st1 := ⟨[(0, .av (bs a0)), (8, .av (iv (w64 (x54 + 1)))), (41, .av (.fsl 3 (List.map c_S_api_Piece x18))), (42, .av (iv (List.length x18 : Int))), (43, .av (iv x30))], [], 0⟩) (by kernel_rfl) ?_
                  refine jr_nil rfl ?_
                  refine jx_blkN ?_
                  refine jx_seqN ?_
                  refine jc_reg ?_
                  refine jr_seg 0 2 [0, 8, 41, 42, 43] [] (st1 := ⟨[(0, .av (bs a0)), (8, .av (iv (w64 (x54 + 1)))), (41, .av (.fsl 3 (List.map c_S_api_Piece x18))), (42, .av (iv (List.length x18 : Int))), (43, .av (iv (w64 (x30 + 1))))], [], 0⟩) (by kernel_rfl) ?_
                  refine jr_nil rfl ?_
                  exact jx_next (wk_ren [] (fix_nil _) rfl (by kernel_rfl) allp_nil)
          · intro _
            refine jc_exit ?_
            refine jx_seqE ?_
            exact jx_done rfl nofun (wk_ren [] (fix_nil _) rfl (by kernel_rfl) allp_nil)
        · rintro (_ | x43)
          · refine jx_blkR ?_
            refine jx_seqR ?_
            exact jx_retF (.inr rfl) (v := bv false) (by kernel_rfl) rfl (fle_refl _)
          · refine jx_blkE ?_
            refine jx_seqN ?_
            refine jc_seq ?_
            refine jc_reg ?_
            refine jr_seg 0 5 [89] [] (st1 := ⟨[(89, .av (bv (decide (x43 ≥ (List.length a0 : Int)))))], [], 0⟩) (by kernel_rfl) ?_
            refine jr_bind 5 2 (fun x59 => ⟨[(91, .av (bv x59))], [], 0⟩) ?_ ?_
            · refine jr_split (g := 89) (c := (decide (x43 ≥ (List.length a0 : Int)))) (by kernel_rfl) ?_ ?_
              · intro _
                refine jr_callF (i := 0) rfl rfl rfl rfl (vs := []) (by kernel_rfl) (snapL_nil _) all2_nil (law01_awake_ok) (fun _ => rfl) (fun _ => rfl) ?_
                intro x60 h60
                refine jr_seg 1 1 [91] [] (st1 := ⟨[(91, .av (bv x60))], [], 0⟩) (by kernel_rfl) ?_
                refine jr_nil rfl ?_
                exact jx_mid rfl (wk_ren [] (fix_nil _) rfl (by kernel_rfl) allp_nil)
              · intro _
                refine jr_seg 0 2 [91] [] (st1 := ⟨[(91, .av (bv false))], [], 0⟩) (by kernel_rfl) ?_
                refine jr_nil rfl ?_
                exact jx_mid rfl (wk_ren [] (fix_nil _) rfl (by kernel_rfl) allp_nil)
            · intro x59
              refine jr_seg 7 1 [4] [] (st1 := ⟨[(4, .av (bv x59))], [], 0⟩) (by kernel_rfl) ?_
              refine jr_nil rfl ?_
              refine jx_seqN ?_
              refine jc_ret ?_
              exact jx_retF (.inr rfl) (v := bv x59) (by kernel_rfl) rfl (fle_refl _))
end Go.Vm

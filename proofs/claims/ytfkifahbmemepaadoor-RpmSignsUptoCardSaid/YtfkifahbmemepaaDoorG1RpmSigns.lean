/- The law RpmSigns, a part of its proof: what the functions that it reaches compute. -/
import Derived.Test.YtfkifahbmemepaaDoorG0RpmSigns
import Derived.Test.YtfkifahbmemepaaDoorW05RpmSigns
set_option maxRecDepth 100000
set_option maxHeartbeats 0
set_option linter.unusedVariables false
set_option linter.unusedSimpArgs false
namespace Go.Vm
open Go
abbrev law05_RpmSigns_r1 : List LO := [⟨some 4, Op.assign (Operand.const (Value.bool false)), 4, none⟩]
abbrev law05_RpmSigns_b2 : LC := .reg false law05_RpmSigns_r1
abbrev law05_RpmSigns_r3 : List LO := [⟨some 5, Op.move (Operand.tmp 0), 9, none⟩,
  ⟨some 6, Op.build 51 #[(0, Operand.const (Value.string { data := #[48] })), (1, Operand.tmp 5)], 51, none⟩,
  ⟨some 7, Op.call { callee := Callee.value (Operand.func 44), args := #[Operand.tmp 6], argTypes := #[51] }, 4, none⟩,
  ⟨some 8, Op.unOp UnOp.not 4 (Operand.tmp 7), 4, none⟩,
  ⟨some 9, Op.move (Operand.tmp 8), 4, none⟩,
  ⟨some 10, Op.move (Operand.tmp 0), 9, (some (9, false))⟩,
  ⟨some 11, Op.call { callee := Callee.builtin Builtin.len, args := #[Operand.tmp 10], argTypes := #[9] }, 3, (some (9, false))⟩,
  ⟨some 12, Op.binOp BinOp.gtr 3 (Operand.tmp 11) (Operand.const (Value.int IntKind.i64 30)) 3, 4, (some (9, false))⟩,
  ⟨some 13, Op.pick (Operand.tmp 9) (Operand.const (Value.bool true)) (Operand.tmp 12), 4, none⟩,
  ⟨some 14, Op.move (Operand.tmp 13), 4, none⟩,
  ⟨some 15, Op.move (Operand.tmp 1), 9, (some (14, false))⟩,
  ⟨some 16, Op.call { callee := Callee.builtin Builtin.len, args := #[Operand.tmp 15], argTypes := #[9] }, 3, (some (14, false))⟩,
  ⟨some 17, Op.binOp BinOp.gtr 3 (Operand.tmp 16) (Operand.const (Value.int IntKind.i64 30)) 3, 4, (some (14, false))⟩,
  ⟨some 18, Op.pick (Operand.tmp 14) (Operand.const (Value.bool true)) (Operand.tmp 17), 4, none⟩,
  ⟨some 19, Op.move (Operand.tmp 18), 4, none⟩,
  ⟨some 20, Op.move (Operand.tmp 1), 9, (some (19, false))⟩,
  ⟨some 21, Op.binOp BinOp.neq 9 (Operand.tmp 20) (Operand.const (Value.string { data := #[] })) 9, 4, (some (19, false))⟩,
  ⟨some 22, Op.move (Operand.tmp 21), 4, (some (19, false))⟩,
  ⟨some 23, Op.move (Operand.tmp 1), 9, (some (22, true))⟩,
  ⟨some 24, Op.build 51 #[(0, Operand.const (Value.string { data := #[48] })), (1, Operand.tmp 23)], 51, (some (22, true))⟩,
  ⟨some 25, Op.call { callee := Callee.value (Operand.func 44), args := #[Operand.tmp 24], argTypes := #[51] }, 4, (some (22, true))⟩,
  ⟨some 26, Op.unOp UnOp.not 4 (Operand.tmp 25), 4, (some (22, true))⟩,
  ⟨some 27, Op.pick (Operand.tmp 22) (Operand.tmp 26) (Operand.const (Value.bool false)), 4, (some (19, false))⟩,
  ⟨some 28, Op.pick (Operand.tmp 19) (Operand.const (Value.bool true)) (Operand.tmp 27), 4, none⟩]
abbrev law05_RpmSigns_b4 : LC := .reg false law05_RpmSigns_r3
abbrev law05_RpmSigns_r5 : List LO := [⟨some 29, Op.call { callee := Callee.value (Operand.func 43), args := #[], argTypes := #[] }, 4, none⟩,
  ⟨some 4, Op.assign (Operand.tmp 29), 4, none⟩]
abbrev law05_RpmSigns_b6 : LC := .reg false law05_RpmSigns_r5
abbrev law05_RpmSigns_b7 : LC := .seq law05_RpmSigns_b6 .ret
abbrev law05_RpmSigns_b8 : LC := .cond (Operand.tmp 28) law05_RpmSigns_b7 .skip
abbrev law05_RpmSigns_b9 : LC := .seq law05_RpmSigns_b4 law05_RpmSigns_b8
abbrev law05_RpmSigns_r10 : List LO := [⟨some 30, Op.move (Operand.tmp 0), 9, none⟩,
  ⟨some 31, Op.binOp BinOp.add 9 (Operand.tmp 30) (Operand.const (Value.string { data := #[126] })) 9, 9, none⟩,
  ⟨some 32, Op.move (Operand.tmp 1), 9, none⟩,
  ⟨some 33, Op.binOp BinOp.add 9 (Operand.tmp 31) (Operand.tmp 32) 9, 9, none⟩,
  ⟨some 34, Op.move (Operand.tmp 0), 9, none⟩,
  ⟨some 35, Op.call { callee := Callee.value (Operand.func 39), args := #[Operand.tmp 33, Operand.tmp 34], argTypes := #[9, 9] }, 3, none⟩,
  ⟨some 36, Op.binOp BinOp.eql 3 (Operand.tmp 35) (Operand.const (Value.int IntKind.i64 (-1))) 3, 4, none⟩,
  ⟨some 37, Op.move (Operand.tmp 36), 4, none⟩,
  ⟨some 38, Op.move (Operand.tmp 0), 9, (some (37, true))⟩,
  ⟨some 39, Op.binOp BinOp.add 9 (Operand.tmp 38) (Operand.const (Value.string { data := #[94] })) 9, 9, (some (37, true))⟩,
  ⟨some 40, Op.move (Operand.tmp 1), 9, (some (37, true))⟩,
  ⟨some 41, Op.binOp BinOp.add 9 (Operand.tmp 39) (Operand.tmp 40) 9, 9, (some (37, true))⟩,
  ⟨some 42, Op.move (Operand.tmp 0), 9, (some (37, true))⟩,
  ⟨some 43, Op.call { callee := Callee.value (Operand.func 39), args := #[Operand.tmp 41, Operand.tmp 42], argTypes := #[9, 9] }, 3, (some (37, true))⟩,
  ⟨some 44, Op.binOp BinOp.eql 3 (Operand.tmp 43) (Operand.const (Value.int IntKind.i64 1)) 3, 4, (some (37, true))⟩,
  ⟨some 45, Op.pick (Operand.tmp 37) (Operand.tmp 44) (Operand.const (Value.bool false)), 4, none⟩,
  ⟨some 46, Op.move (Operand.tmp 45), 4, none⟩,
  ⟨some 47, Op.move (Operand.tmp 0), 9, (some (46, true))⟩,
  ⟨some 48, Op.binOp BinOp.add 9 (Operand.tmp 47) (Operand.const (Value.string { data := #[94] })) 9, 9, (some (46, true))⟩,
  ⟨some 49, Op.move (Operand.tmp 1), 9, (some (46, true))⟩,
  ⟨some 50, Op.binOp BinOp.add 9 (Operand.tmp 48) (Operand.tmp 49) 9, 9, (some (46, true))⟩,
  ⟨some 51, Op.move (Operand.tmp 0), 9, (some (46, true))⟩,
  ⟨some 52, Op.binOp BinOp.add 9 (Operand.tmp 51) (Operand.const (Value.string { data := #[46, 49] })) 9, 9, (some (46, true))⟩,
  ⟨some 53, Op.call { callee := Callee.value (Operand.func 39), args := #[Operand.tmp 50, Operand.tmp 52], argTypes := #[9, 9] }, 3, (some (46, true))⟩,
  ⟨some 54, Op.binOp BinOp.eql 3 (Operand.tmp 53) (Operand.const (Value.int IntKind.i64 (-1))) 3, 4, (some (46, true))⟩,
  ⟨some 55, Op.pick (Operand.tmp 46) (Operand.tmp 54) (Operand.const (Value.bool false)), 4, none⟩,
  ⟨some 56, Op.move (Operand.tmp 55), 4, none⟩,
  ⟨some 57, Op.call { callee := Callee.value (Operand.func 43), args := #[], argTypes := #[] }, 4, (some (56, true))⟩,
  ⟨some 58, Op.pick (Operand.tmp 56) (Operand.tmp 57) (Operand.const (Value.bool false)), 4, none⟩,
  ⟨some 4, Op.assign (Operand.tmp 58), 4, none⟩]
abbrev law05_RpmSigns_b11 : LC := .reg false law05_RpmSigns_r10
abbrev law05_RpmSigns_b12 : LC := .seq law05_RpmSigns_b11 .ret
abbrev law05_RpmSigns_b13 : LC := .seq law05_RpmSigns_b9 law05_RpmSigns_b12
abbrev law05_RpmSigns_b14 : LC := .seq law05_RpmSigns_b2 law05_RpmSigns_b13
theorem law05_RpmSigns_k : FnOk E 10 59 [.tmp 4] law05_RpmSigns_b14 := ⟨⟨Go.Proofs.Tryd.f10, by kernel_rfl, by kernel_rfl, by kernel_rfl, by kernel_rfl, by kernel_rfl⟩, rfl⟩
noncomputable def law05_RpmSigns (a0 : Str) (a1 : Str) : Option (Bool) := Option.bind (ref05_Fit (S_api_Evr.mk [48] a0 [] false)) (fun x1 => Option.bind (if (((!x1) || (decide ((List.length a0 : Int) > 30))) || (decide ((List.length a1 : Int) > 30))) = true then some true else Option.bind (if (!(a1 == [])) = true then Option.bind (ref05_Fit (S_api_Evr.mk [48] a1 [] false)) (fun x7 => some (!x7)) else some false : Option (Bool)) (fun x6 => some (false || x6)) : Option (Bool)) (fun x4 => (if x4 = true then Option.bind (law05_awake) (fun x8 => some x8) else Option.bind (cat a0 [126]) (fun x9 => Option.bind (cat x9 a1) (fun x10 => Option.bind (rpm_Segments x10 a0) (fun x11 => Option.bind (if (x11 == (-1)) = true then Option.bind (cat a0 [94]) (fun x16 => Option.bind (cat x16 a1) (fun x17 => Option.bind (rpm_Segments x17 a0) (fun x18 => some (x18 == 1)))) else some false : Option (Bool)) (fun x15 => Option.bind (if x15 = true then Option.bind (cat a0 [94]) (fun x24 => Option.bind (cat x24 a1) (fun x25 => Option.bind (cat a0 [46, 49]) (fun x26 => Option.bind (rpm_Segments x25 x26) (fun x27 => some (x27 == (-1)))))) else some false : Option (Bool)) (fun x23 => Option.bind (if x23 = true then Option.bind (law05_awake) (fun x30 => some x30) else some false : Option (Bool)) (fun x29 => some x29)))))))))
theorem law05_RpmSigns_ok (a0 : Str) (a1 : Str) : Ct E 10 [bs a0, bs a1] (law05_RpmSigns a0 a1) (fun r : Bool => bv r) := ct_intro (N := 59) (L := law05_RpmSigns_b14) law05_RpmSigns_k rfl (Nat.le_of_ble_eq_true rfl) (by kernel_rfl) (by
  unfold law05_RpmSigns
  refine jc_seq ?_
  refine jc_reg ?_
  refine jr_seg 0 1 [0, 1] [] (st1 := ⟨[(0, .av (bs a0)), (1, .av (bs a1))], [], 0⟩) (by kernel_rfl) ?_
  refine jr_nil rfl ?_
  refine jx_seqN ?_
  refine jc_seq ?_
  refine jc_seq ?_
  refine jc_reg ?_
  refine jr_seg 0 2 [0, 1, 6] [] (st1 := ⟨[(0, .av (bs a0)), (1, .av (bs a1)), (6, .av (.agg [bs [48], bs a0, bs [], bv false]))], [], 0⟩) (by kernel_rfl) ?_
  refine jr_callF (i := 2) rfl rfl rfl rfl (vs := [.agg [bs [48], bs a0, bs [], bv false]]) (by kernel_rfl) (snapL_cons rfl (snapL_nil _)) (all2_cons (fle_refl _) all2_nil) (ref05_Fit_ok (S_api_Evr.mk [48] a0 [] false)) (fun _ => rfl) (fun _ => rfl) ?_
  intro x1 h1
  refine jr_seg 3 12 [0, 1, 19] [] (st1 := ⟨[(0, .av (bs a0)), (1, .av (bs a1)), (19, .av (bv (((!x1) || (decide ((List.length a0 : Int) > 30))) || (decide ((List.length a1 : Int) > 30)))))], [], 0⟩) (by kernel_rfl) ?_
  refine jr_bind 15 9 (fun x4 => ⟨[(0, .av (bs a0)), (1, .av (bs a1)), (28, .av (bv x4))], [], 0⟩) ?_ ?_
  · refine jr_split (g := 19) (c := (((!x1) || (decide ((List.length a0 : Int) > 30))) || (decide ((List.length a1 : Int) > 30)))) (by kernel_rfl) ?_ ?_
    · intro _
      refine jr_seg 0 9 [0, 1, 28] [] (st1 := ⟨[(0, .av (bs a0)), (1, .av (bs a1)), (28, .av (bv true))], [], 0⟩) (by kernel_rfl) ?_
      refine jr_nil rfl ?_
      exact jx_mid rfl (wk_ren [] (fix_nil _) rfl (by kernel_rfl) allp_nil)
    · intro _
      refine jr_seg 0 3 [0, 1, 19, 22] [] (st1 := ⟨[(0, .av (bs a0)), (1, .av (bs a1)), (19, .lit false), (22, .av (bv (!(a1 == []))))], [], 0⟩) (by kernel_rfl) ?_
      refine jr_bind 3 5 (fun x6 => ⟨[(0, .av (bs a0)), (1, .av (bs a1)), (19, .av (bv false)), (27, .av (bv x6))], [], 0⟩) ?_ ?_
      · refine jr_split (g := 22) (c := (!(a1 == []))) (by kernel_rfl) ?_ ?_
        · intro _
          refine jr_seg 0 2 [0, 1, 19, 22, 24] [] (st1 := ⟨[(0, .av (bs a0)), (1, .av (bs a1)), (19, .lit false), (22, .lit true), (24, .av (.agg [bs [48], bs a1, bs [], bv false]))], [], 0⟩) (by kernel_rfl) ?_
          refine jr_callF (i := 2) rfl rfl rfl rfl (vs := [.agg [bs [48], bs a1, bs [], bv false]]) (by kernel_rfl) (snapL_cons rfl (snapL_nil _)) (all2_cons (fle_refl _) all2_nil) (ref05_Fit_ok (S_api_Evr.mk [48] a1 [] false)) (fun _ => rfl) (fun _ => rfl) ?_
          intro x7 h7
          refine jr_seg 3 2 [0, 1, 19, 27] [] (st1 := ⟨[(0, .av (bs a0)), (1, .av (bs a1)), (19, .lit false), (27, .av (bv (!x7)))], [], 0⟩) (by kernel_rfl) ?_
          refine jr_nil rfl ?_
          exact jx_mid rfl (wk_ren [] (fix_nil _) rfl (by kernel_rfl) allp_nil)
        · intro _
          refine jr_seg 0 5 [0, 1, 19, 27] [] (st1 := ⟨[(0, .av (bs a0)), (1, .av (bs a1)), (19, .lit false), (27, .av (bv false))], [], 0⟩) (by kernel_rfl) ?_
          refine jr_nil rfl ?_
          exact jx_mid rfl (wk_ren [] (fix_nil _) rfl (by kernel_rfl) allp_nil)
      · intro x6
        refine jr_seg 8 1 [0, 1, 28] [] (st1 := ⟨[(0, .av (bs a0)), (1, .av (bs a1)), (28, .av (bv (false || x6)))], [], 0⟩) (by kernel_rfl) ?_
        refine jr_nil rfl ?_
        exact jx_mid rfl (wk_ren [] (fix_nil _) rfl (by kernel_rfl) allp_nil)
  · intro x4
    refine jr_nil rfl ?_
    refine jx_seqN ?_
    refine jc_cond (g := 28) (c := x4) (by kernel_rfl) ?_ ?_
    · intro _
      refine jc_seq ?_
      refine jc_reg ?_
      refine jr_callF (i := 0) rfl rfl rfl rfl (vs := []) (by kernel_rfl) (snapL_nil _) all2_nil (law05_awake_ok) (fun _ => rfl) (fun _ => rfl) ?_
      intro x8 h8
      refine jr_seg 1 1 [4] [] (st1 := ⟨[(4, .av (bv x8))], [], 0⟩) (by kernel_rfl) ?_
      refine jr_nil rfl ?_
      refine jx_seqN ?_
      refine jc_ret ?_
      refine jx_seqR ?_
      exact jx_retF (.inr rfl) (v := bv x8) (by kernel_rfl) rfl (fle_refl _)
    · intro _
      refine jc_skip ?_
      refine jx_seqN ?_
      refine jc_seq ?_
      refine jc_reg ?_
      refine jr_seg 0 1 [0, 1, 30] [] (st1 := ⟨[(0, .av (bs a0)), (1, .av (bs a1)), (30, .av (bs a0))], [], 0⟩) (by kernel_rfl) ?_
      refine jr_part (i := 1) (mo := cat a0 [126]) rfl rfl rfl rfl (fun _ hc => aop_cat (by kernel_rfl) (by kernel_rfl) hc) (fun _ => rfl) ?_
      intro x9 h9
      refine jr_seg 2 1 [0, 1, 31, 32] [] (st1 := ⟨[(0, .av (bs a0)), (1, .av (bs a1)), (31, .av (bs x9)), (32, .av (bs a1))], [], 0⟩) (by kernel_rfl) ?_
      refine jr_part (i := 3) (mo := cat x9 a1) rfl rfl rfl rfl (fun _ hc => aop_cat (by kernel_rfl) (by kernel_rfl) hc) (fun _ => rfl) ?_
      intro x10 h10
      refine jr_seg 4 1 [0, 1, 33, 34] [] (st1 := ⟨[(0, .av (bs a0)), (1, .av (bs a1)), (33, .av (bs x10)), (34, .av (bs a0))], [], 0⟩) (by kernel_rfl) ?_
      refine jr_callF (i := 5) rfl rfl rfl rfl (vs := [bs x10, bs a0]) (by kernel_rfl) (snapL_cons rfl (snapL_cons rfl (snapL_nil _))) (all2_cons (fle_refl _) (all2_cons (fle_refl _) all2_nil)) (rpm_Segments_ok x10 a0) (fun _ => rfl) (fun _ => rfl) ?_
      intro x11 h11
      refine jr_seg 6 2 [0, 1, 37] [] (st1 := ⟨[(0, .av (bs a0)), (1, .av (bs a1)), (37, .av (bv (x11 == (-1))))], [], 0⟩) (by kernel_rfl) ?_
      refine jr_bind 8 8 (fun x15 => ⟨[(0, .av (bs a0)), (1, .av (bs a1)), (45, .av (bv x15))], [], 0⟩) ?_ ?_
      · refine jr_split (g := 37) (c := (x11 == (-1))) (by kernel_rfl) ?_ ?_
        · intro _
          refine jr_seg 0 1 [0, 1, 37, 38] [] (st1 := ⟨[(0, .av (bs a0)), (1, .av (bs a1)), (37, .lit true), (38, .av (bs a0))], [], 0⟩) (by kernel_rfl) ?_
          refine jr_part (i := 1) (mo := cat a0 [94]) rfl rfl rfl rfl (fun _ hc => aop_cat (by kernel_rfl) (by kernel_rfl) hc) (fun _ => rfl) ?_
          intro x16 h16
          refine jr_seg 2 1 [0, 1, 37, 39, 40] [] (st1 := ⟨[(0, .av (bs a0)), (1, .av (bs a1)), (37, .lit true), (39, .av (bs x16)), (40, .av (bs a1))], [], 0⟩) (by kernel_rfl) ?_
          refine jr_part (i := 3) (mo := cat x16 a1) rfl rfl rfl rfl (fun _ hc => aop_cat (by kernel_rfl) (by kernel_rfl) hc) (fun _ => rfl) ?_
          intro x17 h17
          refine jr_seg 4 1 [0, 1, 37, 41, 42] [] (st1 := ⟨[(0, .av (bs a0)), (1, .av (bs a1)), (37, .lit true), (41, .av (bs x17)), (42, .av (bs a0))], [], 0⟩) (by kernel_rfl) ?_
          refine jr_callF (i := 5) rfl rfl rfl rfl (vs := [bs x17, bs a0]) (by kernel_rfl) (snapL_cons rfl (snapL_cons rfl (snapL_nil _))) (all2_cons (fle_refl _) (all2_cons (fle_refl _) all2_nil)) (rpm_Segments_ok x17 a0) (fun _ => rfl) (fun _ => rfl) ?_
          intro x18 h18
          refine jr_seg 6 2 [0, 1, 45] [] (st1 := ⟨[(0, .av (bs a0)), (1, .av (bs a1)), (45, .av (bv (x18 == 1)))], [], 0⟩) (by kernel_rfl) ?_
          refine jr_nil rfl ?_
          exact jx_mid rfl (wk_ren [] (fix_nil _) rfl (by kernel_rfl) allp_nil)
        · intro _
          refine jr_seg 0 8 [0, 1, 45] [] (st1 := ⟨[(0, .av (bs a0)), (1, .av (bs a1)), (45, .av (bv false))], [], 0⟩) (by kernel_rfl) ?_
          refine jr_nil rfl ?_
          exact jx_mid rfl (wk_ren [] (fix_nil _) rfl (by kernel_rfl) allp_nil)
      · intro x15
        refine jr_seg 16 1 [0, 1, 46] [] (st1 := ⟨[(0, .av (bs a0)), (1, .av (bs a1)), (46, .av (bv x15))], [], 0⟩) (by kernel_rfl) ?_
        refine jr_bind 17 9 (fun x23 => ⟨[(55, .av (bv x23))], [], 0⟩) ?_ ?_
        · refine jr_split (g := 46) (c := x15) (by kernel_rfl) ?_ ?_
          · intro _
            refine jr_seg 0 1 [0, 1, 46, 47] [] (st1 := ⟨[(0, .av (bs a0)), (1, .av (bs a1)), (46, .lit true), (47, .av (bs a0))], [], 0⟩) (by kernel_rfl) ?_
            refine jr_part (i := 1) (mo := cat a0 [94]) rfl rfl rfl rfl (fun _ hc => aop_cat (by kernel_rfl) (by kernel_rfl) hc) (fun _ => rfl) ?_
            intro x24 h24
            refine jr_seg 2 1 [0, 46, 48, 49] [] (st1 := ⟨[(0, .av (bs a0)), (46, .lit true), (48, .av (bs x24)), (49, .av (bs a1))], [], 0⟩) (by kernel_rfl) ?_
            refine jr_part (i := 3) (mo := cat x24 a1) rfl rfl rfl rfl (fun _ hc => aop_cat (by kernel_rfl) (by kernel_rfl) hc) (fun _ => rfl) ?_
            intro x25 h25
            refine jr_seg 4 1 [46, 50, 51] [] (st1 := ⟨[(46, .lit true), (50, .av (bs x25)), (51, .av (bs a0))], [], 0⟩) (by kernel_rfl) ?_
            refine jr_part (i := 5) (mo := cat a0 [46, 49]) rfl rfl rfl rfl (fun _ hc => aop_cat (by kernel_rfl) (by kernel_rfl) hc) (fun _ => rfl) ?_
            intro x26 h26
            refine jr_callF (i := 6) rfl rfl rfl rfl (vs := [bs x25, bs x26]) (by kernel_rfl) (snapL_cons rfl (snapL_cons rfl (snapL_nil _))) (all2_cons (fle_refl _) (all2_cons (fle_refl _) all2_nil)) (rpm_Segments_ok x25 x26) (fun _ => rfl) (fun _ => rfl) ?_
            intro x27 h27
            refine jr_seg 7 2 [55] [] (st1 := ⟨[(55, .av (bv (x27 == (-1))))], [], 0⟩) (by kernel_rfl) ?_
            refine jr_nil rfl ?_
            exact jx_mid rfl (wk_ren [] (fix_nil _) rfl (by kernel_rfl) allp_nil)
          · intro _
            refine jr_seg 0 9 [55] [] (st1 := ⟨[(55, .av (bv false))], [], 0⟩) (by kernel_rfl) ?_
            refine jr_nil rfl ?_
            exact jx_mid rfl (wk_ren [] (fix_nil _) rfl (by kernel_rfl) allp_nil)
        · intro x23
          refine jr_seg 26 1 [56] [] (st1 := ⟨[(56, .av (bv x23))], [], 0⟩) (by kernel_rfl) ?_
          refine jr_bind 27 2 (fun x29 => ⟨[(58, .av (bv x29))], [], 0⟩) ?_ ?_
          · refine jr_split (g := 56) (c := x23) (by kernel_rfl) ?_ ?_
            · intro _
              refine jr_callF (i := 0) rfl rfl rfl rfl (vs := []) (by kernel_rfl) (snapL_nil _) all2_nil (law05_awake_ok) (fun _ => rfl) (fun _ => rfl) ?_
              intro x30 h30
              refine jr_seg 1 1 [58] [] (st1 := ⟨[(58, .av (bv x30))], [], 0⟩) (by kernel_rfl) ?_
              refine jr_nil rfl ?_
              exact jx_mid rfl (wk_ren [] (fix_nil _) rfl (by kernel_rfl) allp_nil)
            · intro _
              refine jr_seg 0 2 [58] [] (st1 := ⟨[(58, .av (bv false))], [], 0⟩) (by kernel_rfl) ?_
              refine jr_nil rfl ?_
              exact jx_mid rfl (wk_ren [] (fix_nil _) rfl (by kernel_rfl) allp_nil)
          · intro x29
            refine jr_seg 29 1 [4] [] (st1 := ⟨[(4, .av (bv x29))], [], 0⟩) (by kernel_rfl) ?_
            refine jr_nil rfl ?_
            refine jx_seqN ?_
            refine jc_ret ?_
            exact jx_retF (.inr rfl) (v := bv x29) (by kernel_rfl) rfl (fle_refl _))
end Go.Vm

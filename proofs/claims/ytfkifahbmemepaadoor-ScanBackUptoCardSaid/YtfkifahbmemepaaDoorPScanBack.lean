/- The law ScanBack is true for every input whose bulk is at most 1048576 values and letters; each argument reads behind the call as it read before. -/
import Derived.WalkKit
import Derived.ProofKit
import Derived.OpenShut
import Derived.Below
import Derived.ChangeSame
import Derived.Deep.DeepHandedRow
import Derived.Carry
import Derived.Test.YtfkifahbmemepaaDoorDScanBack
import Derived.Shelf.Small.Strs
import Derived.Test.YtfkifahbmemepaaDoorCScanBack
import Derived.Test.YtfkifahbmemepaaDoorG0ScanBack
import Derived.Test.YtfkifahbmemepaaDoorG1ScanBack
import Derived.Test.YtfkifahbmemepaaDoorCards
import Derived.Test.YtfkifahbmemepaaDoorTie
import Derived.ChangeMaps5
/- What a row asks behind a call that has left all that was there as it was. -/
namespace Go.Vm
open Go Go.RowKit Go.WideShapes Go.ChangeShapes
theorem row_below {H : Type} {enc : TypeId × Value → H} {P : Program} {f : Func} {s : ChangeSpec} {apart fresh handsOn again : Bool} {W W' : World} {args : Array Value} {v : Value} {ds gs : List (DataW H)} {before pa pv : List MemPlace}
    (hW : DataW.Whole enc P f.params.toList s.vars apart W args.toList ds gs before) (hb : Below W.heap.size W W') (hp : before = pa ++ pv)
    (hr : ∀ (b : Nat) (sp : Nat → Bool) (hd : Bool), DataW.TrodAll enc P W' b sp hd f.resultTypes.toList (v.resultList f.resultTypes.size) (s.fn H (ds ++ gs)).results [])
    (ha : ∀ sp : Nat → Bool, (∀ p ∈ before, sp p.block = true) → DataW.TrodAll enc P W' 0 sp true f.params.toList args.toList (s.fn H (ds ++ gs)).args pa)
    (hv : ∀ sp : Nat → Bool, (∀ p ∈ before, sp p.block = true) → DataW.TrodVars enc P W' sp s.vars (s.fn H (ds ++ gs)).vars pv)
    (ho : ∀ (j : Nat) (t : TypeId) (r : Value), f.resultTypes[j]? = some t → (v.resultList f.resultTypes.size)[j]? = some r → Value.okWide P W' .any 0 t r) :
    s.post enc P f apart fresh handsOn again W args v W' := by
  have small : ∀ p ∈ before, decide (p.block < W.heap.size) = true := fun p h => decide_eq_true (hW.lt p h)
  refine ⟨ds, gs, before, [], pa, pv, hW, hr _ _ _, ha (fun b => decide (b < W.heap.size)) small, hv _ small, hb.frame _, fun _ => ⟨ho, ?_⟩⟩
  obtain ⟨_, _, _, _, _, hz, hn⟩ := hW
  refine ⟨_, _, ([] ++ pa) ++ pv, ⟨[] ++ pa, pv, trodAll_append (ha _ fun _ _ => rfl) (hr _ _ _), hv _ fun _ _ => rfl, rfl, fun b off hm => ?_, fun h => ?_⟩, ?_⟩
  · have hm' : MemPlace.cell b off ∈ before := by rw [hp]; simpa using hm
    rw [hb.frozen (of_decide_eq_true (small _ hm'))]
    exact hz b off hm'
  · have := hn h
    rw [hp] at this
    simpa using this
  · intro x hx _
    rw [hp]
    simpa using hx
end Go.Vm

set_option maxRecDepth 100000
namespace Go.Proofs
open Go.Shelf
def Tryd.renCf : Nat → Nat
  | 213 => 109
  | 265 => 129
  | n => n
def Tryd.renIf : Nat → Nat
  | 137 => 111
  | 217 => 130
  | 266 => 138
  | n => n
def Tryd.renC : Ren := ⟨Tryd.renCf, fun n => n, fun n => n⟩
def Tryd.renI : Ren := ⟨Tryd.renIf, fun n => n, fun n => n⟩
theorem Tryd.lays213 : Lays.n213 Tryd.prog Tryd.renC where
  mixed := by kernel_rfl
  f213 := by kernel_rfl
  f265 := by kernel_rfl
  t3 := by kernel_rfl
  a3 := Tryd.isAgg3
  z3 := Tryd.sizeOf3
  v3 := Tryd.zeroValue3
  t9 := by kernel_rfl
  a9 := Tryd.isAgg9
  z9 := Tryd.sizeOf9
  v9 := Tryd.zeroValue9
theorem Tryd.lays137 : Lays.n137 Tryd.prog Tryd.renI where
  mixed := by kernel_rfl
  f137 := by kernel_rfl
  f217 := by kernel_rfl
  f266 := by kernel_rfl
  t3 := by kernel_rfl
  a3 := Tryd.isAgg3
  z3 := Tryd.sizeOf3
  v3 := Tryd.zeroValue3
  t5 := by kernel_rfl
  a5 := Tryd.isAgg5
  z5 := Tryd.sizeOf5
  v5 := Tryd.zeroValue5
  t9 := by kernel_rfl
  a9 := Tryd.isAgg9
  z9 := Tryd.sizeOf9
  v9 := Tryd.zeroValue9
end Go.Proofs
namespace Go.Vm
open Go
def funcOk (fn : Func) : Bool := !(fn.name == "runtime.NumGoroutine") && (match fn.body with | some c => codeOk c | none => true)
theorem funcsOk : E.P.funcs.toList.all funcOk = true := by kernel_rfl
theorem cmp_calls (a b : ByteArray) (w : World) : Calls E.P 109 #[.string a, .string b] w fun e w' => e = .returned (.int .i64 (Lib.compareBytes a.data.toList b.data.toList)) ∧ w' = w := Go.Proofs.Any.bytealg_CompareString Go.Proofs.Tryd.lays213 a b w
theorem ixb_calls (a : ByteArray) (c : Int) (w : World) : Calls E.P 111 #[.string a, .int .u8 c] w fun e w' => e = .returned (.int .i64 (Lib.indexByte a.data.toList c.toNat.toUInt8)) ∧ w' = w := Go.Proofs.Any.strings_IndexByte Go.Proofs.Tryd.lays137 a c w
theorem post_same {K : Cx} {base : Nat} {h : AHeap} (H : HRel K base h) {v : AV} {cv : Value} (hv : VRel K v cv) : CallPost K base h K.c v (.returned cv) K.w := ⟨K, cv, rfl, rfl, Cx.Step.refl K, H, rfl, hv⟩
theorem envOk : EnvOk E := by
  have key : ∀ (f : FuncId) (fn : Func), E.P.funcs[f]? = some fn → funcOk fn = true := fun f fn hf => by
    have := List.all_eq_true.1 funcsOk fn (by
      obtain ⟨h1, h2⟩ := Array.getElem?_eq_some_iff.1 hf
      rw [← h2]
      simp)
    exact this
  refine ⟨fun f fn hf => ?_, fun f fn c hf hc => ?_, fun g p hp => ?_⟩
  · have := key f fn hf
    unfold funcOk at this
    rw [Bool.and_eq_true] at this
    simpa using this.1
  · have := key f fn hf
    unfold funcOk at this
    rw [Bool.and_eq_true, hc] at this
    exact this.2
  · simp only [E] at hp
    split at hp
    · rename_i hg
      subst hg
      cases hp
      refine ⟨⟨Go.Proofs.Tryd.f109, by kernel_rfl, by kernel_rfl⟩, fun args v hv K base h cargs H hr N => ?_⟩
      unfold cmpP at hv
      split at hv
      · rename_i a b
        cases hv
        obtain ⟨cl, rfl⟩ : ∃ l : List Value, cargs = l.toArray := ⟨cargs.toList, by simp⟩
        match cl, hr with
        | [x, y], hr =>
          simp only [VRels, VRel] at hr
          obtain ⟨rfl, rfl, _⟩ := hr
          refine callsIn_wide.2 ((cmp_calls a b K.w).mono ?_)
          rintro e w' ⟨rfl, rfl⟩
          exact post_same H (by simp [VRel])
        | [], hr => simp [VRels] at hr
        | [_], hr => simp [VRels] at hr
        | _ :: _ :: _ :: _, hr => simp [VRels] at hr
      · cases hv
    · split at hp
      · rename_i hg
        subst hg
        cases hp
        refine ⟨⟨Go.Proofs.Tryd.f111, by kernel_rfl, by kernel_rfl⟩, fun args v hv K base h cargs H hr N => ?_⟩
        unfold ixbP at hv
        split at hv
        · rename_i a c
          cases hv
          obtain ⟨cl, rfl⟩ : ∃ l : List Value, cargs = l.toArray := ⟨cargs.toList, by simp⟩
          match cl, hr with
          | [x, y], hr =>
            simp only [VRels, VRel] at hr
            obtain ⟨rfl, rfl, _⟩ := hr
            refine callsIn_wide.2 ((ixb_calls a c K.w).mono ?_)
            rintro e w' ⟨rfl, rfl⟩
            exact post_same H (by simp [VRel])
          | [], hr => simp [VRels] at hr
          | [_], hr => simp [VRels] at hr
          | _ :: _ :: _ :: _, hr => simp [VRels] at hr
        · cases hv
      · cases hp

/-- A law that is true, at its arguments as they lie. -/
theorem law_true {g : FuncId} {vs vs' : List AV} {m : Option Bool} (hc : Ct E g vs m (fun r => bv r)) (hm : m = some true) (hp : E.prim g = none) (hv : All2 (VLe Rn.nil) vs vs') (hs : snapL (snap AHeap.nil depth) vs' = some (vs', false)) (w : World) {cargs : Array Value}
    (hr : VRels { w := w, ι := fun _ => (0, 0, 0), L := fun _ => False, X := fun _ => False, c := 0 } vs' cargs.toList) :
    Calls E.P g cargs w fun e w' => e = .returned (.bool true) ∧ w'.os = w.os ∧ w'.tape = w.tape ∧ w'.output = w.output ∧ w.heap.size ≤ w'.heap.size ∧ (∀ b, b < w.heap.size → w'.heap[b]? = w.heap[b]?) := by
  obtain ⟨u, h1, h2⟩ := hc true hm vs' hv AHeap.nil 0
  have hu := h2.s_inv
  subst hu
  unfold callFn at h1
  rw [hp] at h1
  have hpf : E.pf g = true := rfl
  simp only [hpf, if_true, hs] at h1
  cases hcl : (rinf E).call g vs' AHeap.nil 0 with
  | none => rw [hcl] at h1; cases h1
  | some q =>
    obtain ⟨v, h3, n3⟩ := q
    rw [hcl] at h1
    simp only at h1
    cases hsn : snap h3 depth v with
    | none => rw [hsn] at h1; cases h1
    | some q2 =>
      obtain ⟨v', b2⟩ := q2
      rw [hsn] at h1
      simp only [Bool.false_and, Bool.false_eq_true, if_false, Option.some.injEq, Prod.mk.injEq] at h1
      obtain ⟨k, hk⟩ := rinf_call.1 hcl
      have hpc : pcall E k g vs' = some (bv true) := by
        unfold pcall
        rw [hk]
        simp only [hsn, h1.1]
      refine (pcall_sound envOk (fun r => drawOk_all r) hpc w hr).mono ?_
      rintro e w' ⟨cv, h4, h5, h6, h7, h8, h9, h10⟩
      simp only [VRel] at h10
      subst h10
      exact ⟨h4, h5, h6, h7, h8, h9⟩
end Go.Vm

/- Plain laws: loops, numbers. -/
set_option linter.unusedVariables false
set_option linter.unusedSimpArgs false
namespace Go.Vm
open Go

section
variable {σ τ : Type} {f : σ → Option (Step σ τ)}
theorem loopC_next {x y : σ} (h : f x = some (.next y)) : loopC f x = loopC f y := by rw [loopC_eq, h]; rfl
theorem loopC_done {x : σ} {t : τ} (h : f x = some (.done t)) : loopC f x = some t := by rw [loopC_eq, h]; rfl
/-- A loop that keeps what it will answer. -/
theorem loopC_fun (I : σ → Prop) (μ : σ → Nat) (g : σ → τ) (h : ∀ x, I x → f x = some (.done (g x)) ∨ ∃ y, f x = some (.next y) ∧ I y ∧ μ y < μ x ∧ g y = g x) {x : σ} (hx : I x) : loopC f x = some (g x) := by
  have key : ∀ n x, I x → μ x ≤ n → loopC f x = some (g x) := by
    intro n
    induction n with
    | zero =>
      intro x hx hn
      rcases h x hx with h1 | ⟨y, _, _, h3, _⟩
      · exact loopC_done h1
      · omega
    | succ n ih =>
      intro x hx hn
      rcases h x hx with h1 | ⟨y, h1, h2, h3, h4⟩
      · exact loopC_done h1
      · rw [loopC_next h1, ih y h2 (by omega), h4]
  exact key _ x hx (Nat.le_refl _)
/-- A loop that ends, and what holds then. -/
theorem loopC_inv (I : σ → Prop) (μ : σ → Nat) (P : τ → Prop) (h : ∀ x, I x → (∃ t, f x = some (.done t) ∧ P t) ∨ ∃ y, f x = some (.next y) ∧ I y ∧ μ y < μ x) {x : σ} (hx : I x) : ∃ t, loopC f x = some t ∧ P t := by
  have key : ∀ n x, I x → μ x ≤ n → ∃ t, loopC f x = some t ∧ P t := by
    intro n
    induction n with
    | zero =>
      intro x hx hn
      rcases h x hx with ⟨t, h1, h2⟩ | ⟨y, _, _, h3⟩
      · exact ⟨t, loopC_done h1, h2⟩
      · omega
    | succ n ih =>
      intro x hx hn
      rcases h x hx with ⟨t, h1, h2⟩ | ⟨y, h1, h2, h3⟩
      · exact ⟨t, loopC_done h1, h2⟩
      · rw [loopC_next h1]
        exact ih y h2 (by omega)
  exact key _ x hx (Nat.le_refl _)
end

theorem w64_id {x : Int} (h1 : -9223372036854775808 ≤ x) (h2 : x ≤ 9223372036854775807) : w64 x = x := i64_id h1 h2
theorem idx_nat {s : Str} {i : Nat} (h : i < s.length) : idx s (i : Int) = some (s[i].toNat : Int) := by
  unfold idx
  rw [if_pos (by omega), Int.toNat_natCast, List.getElem?_eq_getElem h]
  rfl
theorem ixl_nat {α : Type} {l : List α} {i : Nat} (h : i < l.length) : ixl l (i : Int) = some l[i] := by
  unfold ixl
  rw [if_pos (by omega), Int.toNat_natCast, List.getElem?_eq_getElem h]
theorem subl_nat {α : Type} {l : List α} {i j : Nat} (h1 : i ≤ j) (h2 : j ≤ l.length) : subl l (i : Int) (j : Int) = some ((l.drop i).take (j - i)) := by
  unfold subl
  rw [if_pos ⟨by omega, by omega, by omega⟩]
  rfl
theorem subl_drop {α : Type} {l : List α} {i : Nat} (h : i ≤ l.length) : subl l (i : Int) (l.length : Int) = some (l.drop i) := by
  rw [subl_nat h (Nat.le_refl _), List.take_of_length_le (by simp)]
theorem subl_take {α : Type} {l : List α} {j : Nat} (h : j ≤ l.length) : subl l 0 (j : Int) = some (l.take j) := by
  have := subl_nat (l := l) (i := 0) (j := j) (Nat.zero_le _) h
  simpa using this
theorem u8c_beq (a c : UInt8) : ((a.toNat : Int) == (c.toNat : Int)) = (a == c) := u8_beq
theorem u8_eq_iff (a c : UInt8) : ((a.toNat : Int) = (c.toNat : Int)) ↔ a = c := u8_inj
theorem cat_ok {a b : Str} (h : a.length + b.length ≤ 9223372036854775807) : cat a b = some (a ++ b) := by
  unfold cat; rw [if_pos h]
theorem tob_ok {s : Str} (h : s.length ≤ 9223372036854775807) : tob s = some (s.map fun c => (c.toNat : Int)) := by
  unfold tob; rw [if_pos h]
theorem app_ok {α : Type} {b : Nat} {l m : List α} (h1 : (l.length + m.length) * b ≤ 140737488355328) (h2 : l.length + m.length ≤ 9223372036854775807) : app b l m = some (l ++ m) := by
  unfold app; rw [if_pos ⟨h1, h2⟩]

/-- Where a row of bytes of a kind ends. -/
def runE (p : UInt8 → Bool) (s : Str) (i : Nat) : Nat := i + ((s.drop i).takeWhile p).length
theorem runE_le {p : UInt8 → Bool} {s : Str} {i : Nat} (h : i ≤ s.length) : runE p s i ≤ s.length := by
  unfold runE
  have := (List.takeWhile_prefix p (l := s.drop i)).length_le
  simp only [List.length_drop] at this
  omega
theorem runE_ge (p : UInt8 → Bool) (s : Str) (i : Nat) : i ≤ runE p s i := by unfold runE; omega
theorem runE_end (p : UInt8 → Bool) (s : Str) : runE p s s.length = s.length := by simp [runE]
theorem runE_yes {p : UInt8 → Bool} {s : Str} {i : Nat} (h : i < s.length) (hp : p s[i] = true) : runE p s i = runE p s (i + 1) := by
  unfold runE
  rw [List.drop_eq_getElem_cons h, List.takeWhile_cons_of_pos hp, List.length_cons]
  omega
theorem runE_no {p : UInt8 → Bool} {s : Str} {i : Nat} (h : i < s.length) (hp : p s[i] = false) : runE p s i = i := by
  unfold runE
  rw [List.drop_eq_getElem_cons h, List.takeWhile_cons_of_neg (by simp [hp])]
  simp
/-- A loop that goes on while bytes are of a kind. -/
theorem scan_loop {f : Int → Option (Step Int Int)} {p : UInt8 → Bool} {s : Str} (hend : f (s.length : Int) = some (.done (s.length : Int))) (hstep : ∀ (i : Nat) (h : i < s.length), f (i : Int) = if p s[i] = true then some (.next ((i + 1 : Nat) : Int)) else some (.done (i : Int))) {i : Nat} (hi : i ≤ s.length) :
    loopC f (i : Int) = some (runE p s i : Int) := by
  have := loopC_fun (f := f) (fun x => ∃ i : Nat, x = i ∧ i ≤ s.length) (fun x => s.length - x.toNat) (fun x => (runE p s x.toNat : Int)) (fun x hx => by
    obtain ⟨i, rfl, hi⟩ := hx
    simp only [Int.toNat_natCast]
    rcases Nat.lt_or_ge i s.length with h | h
    · cases hp : p s[i] with
      | true =>
        right
        refine ⟨((i + 1 : Nat) : Int), by rw [hstep i h, if_pos hp], ⟨i + 1, rfl, h⟩, by rw [Int.toNat_natCast]; omega, ?_⟩
        rw [Int.toNat_natCast, runE_yes h hp]
      | false => left; rw [hstep i h, hp, runE_no h hp]; rfl
    · have : i = s.length := by omega
      subst this
      left
      rw [hend, runE_end]) (x := (i : Int)) ⟨i, rfl, hi⟩
  simpa using this
end Go.Vm

/- Plain laws of chapter 1: digits. -/
set_option linter.unusedVariables false
set_option linter.unusedSimpArgs false
namespace Go.Vm
open Go

def nought (c : UInt8) : Bool := c == 48
def trimM (s : Str) : Str := if s.dropWhile nought = [] then [48] else s.dropWhile nought

theorem trimLeftByte_eq (s : Str) (hs : s.length ≤ 4611686018427387904) : strings_trimLeftByte s 48 = some (s.dropWhile nought) := by
  unfold strings_trimLeftByte
  rw [loopC_fun (fun x => x.length ≤ 4611686018427387904) (fun x => x.length) (fun x => x.dropWhile nought) (fun x hx => ?_) hs]
  · rfl
  · cases x with
    | nil => left; simp [strings_trimLeftByte_l1]
    | cons c x =>
      have h0 : idx (c :: x) 0 = some (c.toNat : Int) := idx_nat (s := c :: x) (i := 0) (by simp)
      have h1 : subl (c :: x) 1 ((c :: x).length : Int) = some x := by
        have := subl_drop (l := c :: x) (i := 1) (by simp)
        simpa using this
      have h2 : ((c.toNat : Int) == 48) = nought c := u8c_beq c 48
      cases hc : nought c with
      | true =>
        right
        refine ⟨x, ?_, by simp only [List.length_cons] at hx; omega, by simp, by rw [List.dropWhile_cons_of_pos hc]⟩
        unfold strings_trimLeftByte_l1
        rw [h0, h1]
        simp only [List.length_cons, Option.bind_some, h2, hc]
        rw [if_pos (by simp; try omega)]
        rfl
      | false =>
        left
        unfold strings_trimLeftByte_l1
        rw [h0]
        simp only [List.length_cons, Option.bind_some, h2, hc, List.dropWhile_cons]
        rw [if_pos (by simp; try omega)]
        rfl
theorem scan_Trim_eq (s : Str) (hs : s.length ≤ 4611686018427387904) : scan_Trim s = some (trimM s) := by
  unfold scan_Trim strings_TrimLeft_s1
  have h1 : (if ((s == []) && true) = true then some s else Option.bind (strings_trimLeftByte s 48) (fun x1 => some x1)) = some (s.dropWhile nought) := by
    cases s with
    | nil => simp
    | cons c s =>
      rw [if_neg (by simp), trimLeftByte_eq _ hs]
      rfl
  rw [h1]
  simp only [Option.bind_some, trimM, beq_iff_eq]
  split <;> rfl
theorem drop_runE (p : UInt8 → Bool) (s : Str) : s.drop (runE p s 0) = s.dropWhile p := by
  unfold runE
  simp only [List.drop_zero, Nat.zero_add]
  induction s with
  | nil => rfl
  | cons c s ih =>
    cases hc : p c with
    | true => rw [List.takeWhile_cons_of_pos hc, List.dropWhile_cons_of_pos hc, List.length_cons, List.drop_succ_cons, ih]
    | false => rw [List.takeWhile_cons_of_neg (by simp [hc]), List.dropWhile_cons_of_neg (by simp [hc])]; rfl
theorem ref01_Trim_eq (s : Str) (hs : s.length ≤ 4611686018427387904) : ref01_Trim s = some (trimM s) := by
  unfold ref01_Trim
  have hl : loopC (ref01_Trim_l1 s) 0 = some (runE nought s 0 : Int) := by
    refine scan_loop (p := nought) (s := s) (i := 0) ?_ ?_ (Nat.zero_le _)
    · unfold ref01_Trim_l1
      rw [if_neg (by simp)]
      rfl
    · intro i h
      unfold ref01_Trim_l1
      rw [if_pos (by simp; omega), idx_nat h]
      simp only [Option.bind_some]
      rw [show ((s[i].toNat : Int) == 48) = nought s[i] from u8c_beq _ 48, w64_id (by omega) (by omega)]
      cases nought s[i] <;> rfl
  rw [hl]
  simp only [Option.bind_some]
  have hle : runE nought s 0 ≤ s.length := runE_le (Nat.zero_le _)
  rw [subl_drop hle]
  simp only [Option.bind_some, drop_runE, trimM]
  by_cases h : s.dropWhile nought = []
  · have : runE nought s 0 = s.length := by
      have := congrArg List.length (drop_runE nought s)
      rw [h] at this
      simp only [List.length_drop, List.length_nil] at this
      omega
    rw [if_pos h, if_pos (by rw [this]; simp)]
  · have : runE nought s 0 ≠ s.length := by
      intro e
      have := congrArg List.length (drop_runE nought s)
      rw [e] at this
      simp only [List.length_drop, Nat.sub_self] at this
      exact h (List.length_eq_zero_iff.1 this.symm)
    rw [if_neg h, if_neg (by simp; omega)]
theorem trimM_len (s : Str) : (trimM s).length ≤ s.length + 1 := by
  unfold trimM
  split
  · simp
  · exact Nat.le_succ_of_le (List.dropWhile_suffix _).length_le

/-! ### Comparing -/
def cmpI (a b : Int) : Int := if a < b then -1 else if b < a then 1 else 0
theorem cmp_Compare_int_eq (a b : Int) : cmp_Compare_int a b = some (cmpI a b) := by
  have h : ∀ x : Int, cmp_isNaN_int x = some false := fun x => by simp [cmp_isNaN_int]
  unfold cmp_Compare_int cmpI
  rw [h, h]
  simp only [Option.bind_some, Bool.false_eq_true, if_false, decide_eq_true_eq, gt_iff_lt]
  split
  · rfl
  · split <;> rfl
theorem cmp_Or_int_eq (l : List Int) (hl : l.length ≤ 4611686018427387904) : cmp_Or_int l = some ((l.find? (· != 0)).getD 0) := by
  unfold cmp_Or_int
  have := loopC_fun (f := cmp_Or_int_l1 l) (fun x => ∃ i : Nat, x = i ∧ i ≤ l.length) (fun x => l.length - x.toNat) (fun x => match (l.drop x.toNat).find? (· != 0) with | some y => Sum.inl y | none => Sum.inr ()) (fun x hx => by
    obtain ⟨i, rfl, hi⟩ := hx
    simp only [Int.toNat_natCast]
    rcases Nat.lt_or_ge i l.length with h | h
    · unfold cmp_Or_int_l1
      rw [if_pos (by simp; omega), ixl_nat h, List.drop_eq_getElem_cons h]
      simp only [Option.bind_some, List.find?_cons]
      cases hc : l[i] != 0 with
      | true => left; rfl
      | false =>
        right
        refine ⟨((i + 1 : Nat) : Int), by rw [if_neg (by simp), w64_id (by omega) (by omega)]; rfl, ⟨i + 1, rfl, h⟩, by rw [Int.toNat_natCast]; omega, by rw [Int.toNat_natCast]⟩
    · have : i = l.length := by omega
      subst this
      left
      unfold cmp_Or_int_l1
      rw [if_neg (by simp)]
      simp) (x := 0) ⟨0, rfl, Nat.zero_le _⟩
  rw [this]
  simp only [Option.bind_some, Int.toNat_zero, List.drop_zero]
  cases l.find? (· != 0) <;> rfl
theorem cmpB_eq : ∀ (a b : List UInt8), Lib.compareBytes a b = if Op.bytesLess a b = true then -1 else if (a == b) = true then 0 else 1
  | [], [] => by simp [Lib.compareBytes, Op.bytesLess]
  | [], _ :: _ => by simp [Lib.compareBytes, Op.bytesLess]
  | _ :: _, [] => by simp [Lib.compareBytes, Op.bytesLess]
  | x :: a, y :: b => by
    have ih := cmpB_eq a b
    simp only [Lib.compareBytes, Op.bytesLess, List.cons_beq_cons, ih]
    by_cases h1 : x < y
    · simp [h1]
    · by_cases h2 : y < x
      · have hne : (x == y) = false := by
          rw [beq_eq_false_iff_ne]; rintro rfl; exact h1 h2
        simp [h1, h2, hne]
      · have he : x = y := by
          apply UInt8.toNat_inj.1
          rw [UInt8.lt_iff_toNat_lt] at h1 h2
          omega
        subst he
        simp
theorem ref01_Texts_eq (a b : Str) : ref01_Texts a b = some (Lib.compareBytes a b) := by
  unfold ref01_Texts
  rw [cmpB_eq]
  cases Op.bytesLess a b with
  | true => rfl
  | false =>
    simp only [Bool.false_eq_true, if_false, Bool.false_or]
    cases a == b <;> rfl
theorem strings_Compare_eq (a b : Str) : strings_Compare a b = some (Lib.compareBytes a b) := rfl
def cmpM (a b : Str) : Int := if cmpI (trimM a).length (trimM b).length ≠ 0 then cmpI (trimM a).length (trimM b).length else Lib.compareBytes (trimM a) (trimM b)
theorem find2 (x y : Int) : (([x, y].find? (· != 0)).getD 0) = if x ≠ 0 then x else y := by
  by_cases h : x = 0
  · subst h
    by_cases h2 : y = 0
    · subst h2; rfl
    · simp [h2]
  · simp [h]
theorem scan_Cmp_eq (a b : Str) (ha : a.length ≤ 4611686018427387904) (hb : b.length ≤ 4611686018427387904) : scan_Cmp a b = some (cmpM a b) := by
  unfold scan_Cmp
  rw [scan_Trim_eq a ha, scan_Trim_eq b hb]
  simp only [Option.bind_some, cmp_Compare_int_eq, strings_Compare_eq]
  rw [cmp_Or_int_eq _ (by simp), find2]
  rfl
theorem ref01_Cmp_eq (a b : Str) (ha : a.length ≤ 4611686018427387904) (hb : b.length ≤ 4611686018427387904) : ref01_Cmp a b = some (cmpM a b) := by
  unfold ref01_Cmp cmpM cmpI
  rw [ref01_Trim_eq a ha, ref01_Trim_eq b hb]
  simp only [Option.bind_some, ref01_Texts_eq, decide_eq_true_eq, gt_iff_lt]
  split
  · rfl
  · split
    · rfl
    · rfl

/-! ### Runs -/
def isB (c k : Int) : Bool :=
  if k = 1 then decide (48 ≤ c) && decide (c ≤ 57)
  else if k = 2 then decide (97 ≤ c) && decide (c ≤ 122)
  else if k = 3 then decide (65 ≤ c) && decide (c ≤ 90)
  else if k = 4 then decide (97 ≤ c) && decide (c ≤ 122) || decide (65 ≤ c) && decide (c ≤ 90)
  else if k = 5 then decide (48 ≤ c) && decide (c ≤ 57) || decide (97 ≤ c) && decide (c ≤ 122) || decide (65 ≤ c) && decide (c ≤ 90)
  else if k = 6 then c == 32 || c == 9
  else if k = 7 then c == 32 || c == 9 || c == 10 || c == 13
  else false
theorem scan_Is_eq (c k : Int) : scan_Is c k = some (isB c k) := by
  unfold scan_Is isB
  simp only [beq_iff_eq, ge_iff_le]
  repeat (split; first | rfl | skip)
  rfl
theorem ref01_Is_eq (c k : Int) : ref01_Is c k = some (isB c k) := by
  unfold ref01_Is isB
  simp only [beq_iff_eq, ge_iff_le]
  repeat (split; first | rfl | (simp only [Option.some.injEq]; rw [Bool.eq_iff_iff]; simp only [Bool.or_eq_true, Bool.and_eq_true, decide_eq_true_eq, beq_iff_eq]; omega) | skip)
  rfl
def isP (k : Int) (c : UInt8) : Bool := isB c.toNat k
def runM (s : Str) (at' k : Int) : Int := if at' < 0 ∨ s.length < at' then at' else (runE (isP k) s at'.toNat : Int)
theorem ref01_Run_eq (s : Str) (at' k : Int) (hs : s.length ≤ 4611686018427387904) : ref01_Run s at' k = some (runM s at' k) := by
  unfold ref01_Run runM
  simp only [Bool.or_eq_true, decide_eq_true_eq, gt_iff_lt]
  split
  · rfl
  · rename_i h
    obtain ⟨i, rfl⟩ : ∃ i : Nat, at' = i := ⟨at'.toNat, by omega⟩
    rw [scan_loop (p := isP k) (s := s) (i := i) ?_ ?_ (by omega)]
    · simp
    · unfold ref01_Run_l1
      rw [if_neg (by simp)]
      rfl
    · intro j hj
      unfold ref01_Run_l1
      rw [if_pos (by simp; omega), idx_nat hj]
      simp only [Option.bind_some, ref01_Is_eq]
      rw [w64_id (by omega) (by omega)]
      show _ = if isB _ k = true then _ else _
      cases isB s[j].toNat k <;> rfl
theorem scan_Run_eq (s : Str) (at' k : Int) (hs : s.length ≤ 4611686018427387904) : scan_Run s at' k = some (runM s at' k) := by
  unfold scan_Run runM
  simp only [Bool.or_eq_true, decide_eq_true_eq, gt_iff_lt]
  split
  · rfl
  · rename_i h
    obtain ⟨i, rfl⟩ : ∃ i : Nat, at' = i := ⟨at'.toNat, by omega⟩
    have := loopC_fun (f := scan_Run_l1 s i k) (fun x => ∃ j : Nat, x = j ∧ i + j ≤ s.length) (fun x => s.length - x.toNat) (fun x => if runE (isP k) s (i + x.toNat) = s.length then Sum.inr () else Sum.inl (runE (isP k) s (i + x.toNat) : Int)) (fun x hx => by
      obtain ⟨j, rfl, hj⟩ := hx
      simp only [Int.toNat_natCast]
      rcases Nat.lt_or_ge (i + j) s.length with h | h
      · have hi := idx_nat h
        have e : w64 ((i : Int) + (j : Int)) = ((i + j : Nat) : Int) := by rw [w64_id (by omega) (by omega)]; omega
        unfold scan_Run_l1
        rw [if_pos (by rw [w64_id (by omega) (by omega)]; simp; omega), e, hi]
        simp only [Option.bind_some, scan_Is_eq]
        cases hc : isB s[i + j].toNat k with
        | true =>
          right
          have e2 : w64 ((j : Int) + 1) = ((j + 1 : Nat) : Int) := by rw [w64_id (by omega) (by omega)]; omega
          refine ⟨((j + 1 : Nat) : Int), by rw [e2]; rfl, ⟨j + 1, rfl, by omega⟩, by rw [Int.toNat_natCast]; omega, ?_⟩
          rw [Int.toNat_natCast, ← Nat.add_assoc, ← runE_yes h hc]
        | false =>
          left
          rw [runE_no h hc, if_neg (show ¬ (i + j = s.length) by omega)]
          rfl
      · have : i + j = s.length := by omega
        left
        unfold scan_Run_l1
        rw [if_neg (by rw [w64_id (by omega) (by omega)]; simp; omega), this, runE_end]
        simp) (x := 0) ⟨0, rfl, by omega⟩
    rw [this]
    simp only [Option.bind_some, Int.toNat_zero, Nat.add_zero, Int.toNat_natCast]
    by_cases he : runE (isP k) s i = s.length
    · rw [if_pos he, he]
    · rw [if_neg he]

/-! ### One more -/
theorem next_l1_eq : scan_Next_l1 = ref01_Next_l1 := rfl
theorem next_loop {l : List Int} {n : Nat} (hn : l.length = n + 1) (h0 : l[0]? = some 48) (hb : l.length ≤ 4611686018427387905) : ∃ t : List Int × Int, loopC ref01_Next_l1 (l, w64 ((l.length : Int) - 1)) = some t ∧ ∃ j : Nat, t.2 = j ∧ j < t.1.length ∧ t.1.length = n + 1 := by
  refine loopC_inv (fun x : List Int × Int => ∃ j : Nat, x.2 = j ∧ j < x.1.length ∧ x.1.length = n + 1 ∧ x.1[0]? = some 48) (fun x => x.2.toNat) _ (fun x hx => ?_) ⟨n, by rw [w64_id (by omega) (by omega), hn]; simp, by show n < l.length; omega, hn, h0⟩
  obtain ⟨l, k⟩ := x
  obtain ⟨j, rfl, h1, h2, h3⟩ := hx
  simp only at h1 h2 h3
  unfold ref01_Next_l1
  simp only [ixl_nat h1, Option.bind_some]
  by_cases hc : l[j] = 57
  · right
    have hj : j ≠ 0 := by
      rintro rfl
      rw [List.getElem?_eq_getElem h1, hc] at h3
      cases h3
    refine ⟨(l.set j 48, ((j - 1 : Nat) : Int)), ?_, ⟨j - 1, rfl, ?_, ?_, ?_⟩, ?_⟩
    · rw [if_pos (by simp [hc]), w64_id (by omega) (by omega), Int.toNat_natCast]
      congr 3
      omega
    · simp only [List.length_set]; omega
    · simp only [List.length_set]; exact h2
    · rw [List.getElem?_set_ne hj]; exact h3
    · simp only [Int.toNat_natCast]; omega
  · left
    exact ⟨(l, (j : Int)), by rw [if_neg (by simp [hc])], j, rfl, h1, h2⟩
theorem next_both (s : Str) (hs : s.length ≤ 2305843009213693952) : ∃ x, scan_Next s = some x ∧ ref01_Next s = some x := by
  unfold scan_Next ref01_Next
  rw [scan_Run_eq _ _ _ (by omega), ref01_Run_eq _ _ _ (by omega)]
  simp only [Option.bind_some]
  split
  · exact ⟨_, rfl, rfl⟩
  · rw [cat_ok (by simp; omega)]
    simp only [Option.bind_some]
    rw [tob_ok (by simp; omega)]
    simp only [Option.bind_some, next_l1_eq]
    obtain ⟨⟨l, k⟩, h1, j, h2, h3, h4⟩ := next_loop (l := (([48] : Str) ++ s).map fun c : UInt8 => (c.toNat : Int)) (n := s.length) (by simp) (by simp) (by simp; omega)
    simp only at h2 h3 h4
    subst h2
    rw [h1]
    simp only [Option.bind_some, ixl_nat h3]
    rw [scan_Trim_eq _ (by simp [ofb]; omega), ref01_Trim_eq _ (by simp [ofb]; omega)]
    exact ⟨_, rfl, rfl⟩

theorem ScanDigits_true (a b : Str) (ha : a.length ≤ 1048576) (hb : b.length ≤ 1048576) : law01_ScanDigits a b = some true := by
  obtain ⟨x, h1, h2⟩ := next_both a (by omega)
  unfold law01_ScanDigits
  rw [scan_Trim_eq a (by omega), ref01_Trim_eq a (by omega), scan_Cmp_eq a b (by omega) (by omega), ref01_Cmp_eq a b (by omega) (by omega), h1, h2]
  simp [law01_awake]
end Go.Vm

/- Plain laws of chapter 1: the order of digits. -/
set_option linter.unusedVariables false
set_option linter.unusedSimpArgs false
namespace Go.Vm
open Go

def isDig (s : Str) : Prop := ∀ c ∈ s, 48 ≤ c.toNat ∧ c.toNat ≤ 57
def val : Str → Nat
  | [] => 0
  | c :: s => (c.toNat - 48) * 10 ^ s.length + val s
theorem val_lt : ∀ {s : Str}, isDig s → val s < 10 ^ s.length
  | [], _ => by simp [val]
  | c :: s, h => by
    have ih := val_lt (s := s) fun x hx => h x (List.mem_cons_of_mem _ hx)
    have hc := h c List.mem_cons_self
    simp only [val, List.length_cons, Nat.pow_succ]
    have : (c.toNat - 48) * 10 ^ s.length ≤ 9 * 10 ^ s.length := Nat.mul_le_mul_right _ (by omega)
    omega
theorem val_drop : ∀ s : Str, val (s.dropWhile nought) = val s
  | [] => rfl
  | c :: s => by
    cases hc : nought c with
    | true =>
      rw [List.dropWhile_cons_of_pos hc, val_drop s]
      have : c = 48 := by simpa [nought] using hc
      subst this
      simp [val]
    | false => rw [List.dropWhile_cons_of_neg (by simp [hc])]
theorem val_trim (s : Str) : val (trimM s) = val s := by
  unfold trimM
  split
  · rename_i h
    have := val_drop s
    rw [h] at this
    rw [← this]; rfl
  · exact val_drop s
theorem dig_trim {s : Str} (h : isDig s) : isDig (trimM s) := by
  unfold trimM
  split
  · intro c hc
    simp only [List.mem_singleton] at hc
    subst hc
    decide
  · intro c hc
    exact h c ((List.dropWhile_suffix _).subset hc)
theorem trim_canon (s : Str) : trimM s = [48] ∨ ∃ c t, trimM s = c :: t ∧ c ≠ 48 := by
  unfold trimM
  split
  · left; rfl
  · rename_i h
    right
    obtain ⟨c, t, e⟩ := List.exists_cons_of_ne_nil h
    refine ⟨c, t, e, fun hc => ?_⟩
    have : nought c = false := by
      have := List.head_dropWhile_not nought h
      simpa [e] using this
    subst hc
    exact absurd this (by decide)
theorem cmpB_val : ∀ (a b : Str), isDig a → isDig b → a.length = b.length → Lib.compareBytes a b = cmpI (val a) (val b)
  | [], [], _, _, _ => by simp [Lib.compareBytes, cmpI, val]
  | [], _ :: _, _, _, h => by simp at h
  | _ :: _, [], _, _, h => by simp at h
  | x :: a, y :: b, ha, hb, h => by
    have ha' : isDig a := fun z hz => ha z (List.mem_cons_of_mem _ hz)
    have hb' : isDig b := fun z hz => hb z (List.mem_cons_of_mem _ hz)
    have hl : a.length = b.length := by simpa using h
    have ih := cmpB_val a b ha' hb' hl
    have hx := ha x List.mem_cons_self
    have hy := hb y List.mem_cons_self
    have va := val_lt ha'
    have vb := val_lt hb'
    rw [hl] at va
    simp only [Lib.compareBytes, ih, val, hl, UInt8.lt_iff_toNat_lt]
    generalize 10 ^ b.length = p at va vb
    rcases Nat.lt_trichotomy x.toNat y.toNat with h1 | h1 | h1
    · rw [if_pos h1]
      have : (x.toNat - 48 + 1) * p ≤ (y.toNat - 48) * p := Nat.mul_le_mul_right _ (by omega)
      rw [Nat.add_mul] at this
      unfold cmpI
      rw [if_pos (by omega)]
    · rw [if_neg (by omega), if_neg (by omega), h1]
      unfold cmpI
      congr 1
      · simp
      · congr 1; simp
    · rw [if_neg (by omega), if_pos h1]
      have : (y.toNat - 48 + 1) * p ≤ (x.toNat - 48) * p := Nat.mul_le_mul_right _ (by omega)
      rw [Nat.add_mul] at this
      unfold cmpI
      rw [if_neg (by omega), if_pos (by omega)]
theorem len_lt_val {a b : Str} (ha : isDig a) (hb : isDig b) (h : (trimM a).length < (trimM b).length) : val a < val b := by
  rw [← val_trim a, ← val_trim b]
  have h1 := val_lt (dig_trim ha)
  have h2 := dig_trim hb
  have hz : 1 ≤ (trimM a).length := by rcases trim_canon a with e | ⟨_, _, e, _⟩ <;> simp [e]
  rcases trim_canon b with e | ⟨c, t, e, hc⟩
  · rw [e] at h; simp only [List.length_singleton] at h; omega
  · rw [e] at h h2 ⊢
    have h3 := h2 c List.mem_cons_self
    have hc' : c.toNat ≠ 48 := fun q => hc (by apply UInt8.toNat_inj.1; exact q)
    have h4 : 1 * 10 ^ t.length ≤ (c.toNat - 48) * 10 ^ t.length := Nat.mul_le_mul_right _ (by omega)
    have h5 : 10 ^ (trimM a).length ≤ 10 ^ t.length := Nat.pow_le_pow_right (by omega) (by simp at h; omega)
    simp only [val]
    omega
theorem cmpM_val {a b : Str} (ha : isDig a) (hb : isDig b) : cmpM a b = cmpI (val a) (val b) := by
  unfold cmpM
  rcases Nat.lt_trichotomy (trimM a).length (trimM b).length with h | h | h
  · have := len_lt_val ha hb h
    have e : cmpI ((trimM a).length : Int) ((trimM b).length : Int) = -1 := by unfold cmpI; rw [if_pos (by omega)]
    rw [e, if_pos (by decide)]
    unfold cmpI; rw [if_pos (by omega)]
  · have e : cmpI ((trimM a).length : Int) ((trimM b).length : Int) = 0 := by unfold cmpI; rw [if_neg (by omega), if_neg (by omega)]
    rw [e, if_neg (by decide), cmpB_val _ _ (dig_trim ha) (dig_trim hb) h, val_trim, val_trim]
  · have := len_lt_val hb ha h
    have e : cmpI ((trimM a).length : Int) ((trimM b).length : Int) = 1 := by unfold cmpI; rw [if_neg (by omega), if_pos (by omega)]
    rw [e, if_pos (by decide)]
    unfold cmpI; rw [if_neg (by omega), if_pos (by omega)]
theorem cmpB_zero : ∀ (a b : Str), Lib.compareBytes a b = 0 → a = b
  | [], [], _ => rfl
  | [], _ :: _, h => by simp [Lib.compareBytes] at h
  | _ :: _, [], h => by simp [Lib.compareBytes] at h
  | x :: a, y :: b, h => by
    simp only [Lib.compareBytes] at h
    by_cases h1 : x < y
    · simp [h1] at h
    · by_cases h2 : y < x
      · simp [h1, h2] at h
      · rw [if_neg h1, if_neg h2] at h
        have e : x = y := by
          apply UInt8.toNat_inj.1
          rw [UInt8.lt_iff_toNat_lt] at h1 h2
          omega
        rw [e, cmpB_zero a b h]
theorem trim_inj {a b : Str} (ha : isDig a) (hb : isDig b) : trimM a = trimM b ↔ val a = val b := by
  constructor
  · intro h; rw [← val_trim a, ← val_trim b, h]
  · intro h
    have h1 := cmpM_val ha hb
    rw [h] at h1
    have h0 : cmpI (val b : Int) (val b : Int) = 0 := by unfold cmpI; rw [if_neg (by omega), if_neg (by omega)]
    rw [h0] at h1
    unfold cmpM at h1
    by_cases h2 : cmpI ((trimM a).length : Int) ((trimM b).length : Int) ≠ 0
    · rw [if_pos h2] at h1; exact absurd h1 h2
    · rw [if_neg h2] at h1; exact cmpB_zero _ _ h1

/-! ### The digits that the law makes -/
theorem wrap_u8 {x : Int} (h1 : 0 ≤ x) (h2 : x ≤ 255) : IntKind.wrap .u8 x = x := by
  unfold IntKind.wrap
  simp [IntKind.bits, IntKind.signed]
  omega
theorem digits_ok (s : Str) (hs : s.length ≤ 4611686018427387904) : ∃ t, law01_digits s = some t ∧ isDig t ∧ t.length = s.length := by
  unfold law01_digits
  rw [tob_ok (by omega)]
  simp only [Option.bind_some]
  obtain ⟨t, h1, h2, h3⟩ := loopC_inv (f := law01_digits_l1 (s.map fun c : UInt8 => (c.toNat : Int))) (fun x => ∃ i : Nat, x.2 = i ∧ i ≤ s.length ∧ x.1.length = s.length ∧ ∀ (k : Nat) (y : Int), x.1[k]? = some y → 0 ≤ y ∧ (k < i → 48 ≤ y ∧ y ≤ 57)) (fun x => s.length - x.2.toNat) (fun t => t.length = s.length ∧ ∀ y ∈ t, 48 ≤ y ∧ y ≤ 57) (fun x hx => by
    obtain ⟨l, z⟩ := x
    obtain ⟨i, rfl, h1, h2, h3⟩ := hx
    simp only at h2 h3
    unfold law01_digits_l1
    rcases Nat.lt_or_ge i s.length with h | h
    · right
      have hi : i < l.length := by omega
      have h0 := (h3 i _ (List.getElem?_eq_getElem hi)).1
      refine ⟨(l.set i (IntKind.wrap .u8 (48 + (l[i]).tmod 10)), ((i + 1 : Nat) : Int)), ?_, ⟨i + 1, rfl, h, by simp [h2], fun k y hk => ?_⟩, by simp only [Int.toNat_natCast]; omega⟩
      · simp only [List.length_map]
        rw [if_pos (by simp; omega), ixl_nat hi, w64_id (by omega) (by omega), Int.toNat_natCast]
        rfl
      · have hm1 : 0 ≤ (l[i]).tmod 10 := Int.tmod_nonneg _ h0
        have hm2 : (l[i]).tmod 10 < 10 := Int.tmod_lt_of_pos _ (by omega)
        rw [wrap_u8 (by omega) (by omega)] at hk
        rw [List.getElem?_set] at hk
        split at hk
        · rename_i e
          subst e
          obtain rfl := Option.some.inj hk
          exact ⟨by omega, fun _ => ⟨by omega, by omega⟩⟩
        · have := h3 k y hk
          exact ⟨this.1, fun q => this.2 (by omega)⟩
    · left
      have : i = s.length := by omega
      subst this
      refine ⟨l, ?_, h2, fun y hy => ?_⟩
      · simp only [List.length_map]
        rw [if_neg (by simp)]
      · obtain ⟨k, hk, rfl⟩ := List.mem_iff_getElem.1 hy
        exact (h3 k _ (List.getElem?_eq_getElem hk)).2 (by omega)) (x := (s.map (fun c : UInt8 => (c.toNat : Int)), 0)) ⟨0, rfl, Nat.zero_le _, by simp, fun k y hk => by
      simp only [List.getElem?_map, Option.map_eq_some_iff] at hk
      obtain ⟨c, _, rfl⟩ := hk
      exact ⟨by omega, fun q => absurd q (by omega)⟩⟩
  refine ⟨ofb t, by rw [h1]; rfl, fun c hc => ?_, by simp [ofb, h2]⟩
  simp only [ofb, List.mem_map] at hc
  obtain ⟨y, hy, rfl⟩ := hc
  have := h3 y hy
  rw [UInt8.toNat_ofNat']
  omega

/-! ### The next number -/
theorem takeWhile_all {α : Type} {p : α → Bool} : ∀ {l : List α}, (∀ a ∈ l, p a = true) → l.takeWhile p = l
  | [], _ => rfl
  | a :: l, h => by rw [List.takeWhile_cons_of_pos (h a List.mem_cons_self), takeWhile_all fun b hb => h b (List.mem_cons_of_mem _ hb)]
theorem val_set : ∀ (s : Str) (j : Nat) (c : UInt8) (h : j < s.length), 48 ≤ s[j].toNat → 48 ≤ c.toNat → val (s.set j c) + (s[j].toNat - 48) * 10 ^ (s.length - 1 - j) = val s + (c.toNat - 48) * 10 ^ (s.length - 1 - j)
  | [], _, _, h, _, _ => by simp at h
  | x :: s, 0, c, _, _, _ => by simp only [List.set_cons_zero, val, List.getElem_cons_zero, List.length_cons, Nat.add_sub_cancel, Nat.sub_zero]; omega
  | x :: s, j + 1, c, h, h1, h2 => by
    have ih := val_set s j c (by simpa using h) (by simpa using h1) h2
    simp only [List.set_cons_succ, val, List.getElem_cons_succ, List.length_cons, List.length_set, Nat.add_sub_cancel]
    rw [show s.length - (j + 1) = s.length - 1 - j by omega]
    omega
theorem dig_set {s : Str} {j : Nat} {c : UInt8} (h : isDig s) (hc : 48 ≤ c.toNat ∧ c.toNat ≤ 57) : isDig (s.set j c) := fun x hx => by
  rcases List.mem_or_eq_of_mem_set hx with h' | rfl
  · exact h x h'
  · exact hc
def ints (s : Str) : List Int := s.map fun c => (c.toNat : Int)
theorem ints_set (s : Str) (j : Nat) (c : UInt8) : (ints s).set j (c.toNat : Int) = ints (s.set j c) := by simp [ints, List.map_set]
theorem ofb_ints (s : Str) : ofb (ints s) = s := by
  simp only [ofb, ints, List.map_map]
  conv => rhs; rw [← List.map_id s]
  refine List.map_congr_left fun c _ => ?_
  simp
theorem ints_get {s : Str} {j : Nat} (h : j < s.length) : ixl (ints s) (j : Int) = some (s[j].toNat : Int) := by
  rw [ixl_nat (by simpa [ints] using h)]
  simp [ints]
theorem next_val (s : Str) (hs : s.length ≤ 2305843009213693952) (hd : isDig s) : ∃ n, scan_Next s = some n ∧ isDig n ∧ val n = val s + 1 ∧ n.length ≤ s.length + 2 := by
  have hr : runM s 0 1 = s.length := by
    unfold runM
    rw [if_neg (by omega)]
    unfold runE
    rw [takeWhile_all (p := isP 1) (l := s.drop (Int.toNat 0)) fun c hc => by
      have := hd c (by simpa using hc)
      simp [isP, isB]
      omega]
    simp
  unfold scan_Next
  rw [scan_Run_eq _ _ _ (by omega), hr]
  simp only [Option.bind_some]
  rw [if_neg (by simp), cat_ok (by simp; omega)]
  simp only [Option.bind_some]
  rw [tob_ok (by simp; omega)]
  simp only [Option.bind_some, next_l1_eq]
  have h48 : isDig ([48] ++ s) := fun c hc => by
    rcases List.mem_append.1 hc with h | h
    · simp only [List.mem_singleton] at h; subst h; decide
    · exact hd c h
  have hv : val ([48] ++ s) = val s := by simp [val]
  obtain ⟨⟨l, z⟩, h1, t, j, rfl, rfl, h3, h4, h5, h6, h7⟩ := loopC_inv (f := ref01_Next_l1) (fun x => ∃ (t : Str) (j : Nat), x.1 = ints t ∧ x.2 = j ∧ j < t.length ∧ t.length = s.length + 1 ∧ t[0]? = some 48 ∧ isDig t ∧ val t + 10 ^ (s.length - j) = val s + 1) (fun x => x.2.toNat) (fun x => ∃ (t : Str) (j : Nat), x.1 = ints t ∧ x.2 = j ∧ ∃ h : j < t.length, t.length = s.length + 1 ∧ isDig t ∧ val t + 10 ^ (s.length - j) = val s + 1 ∧ t[j] ≠ 57) (fun x hx => by
    obtain ⟨l, z⟩ := x
    obtain ⟨t, j, h1, h2, h3, h4, h5, h6, h7⟩ := hx
    simp only at h1 h2
    subst h1 h2
    unfold ref01_Next_l1
    simp only [ints_get h3, Option.bind_some]
    by_cases hc : t[j] = 57
    · right
      have hj : j ≠ 0 := by
        rintro rfl
        rw [List.getElem?_eq_getElem h3, hc] at h5
        cases h5
      refine ⟨(ints (t.set j 48), ((j - 1 : Nat) : Int)), ?_, ⟨t.set j 48, j - 1, rfl, rfl, by simp; omega, by simp [h4], by rw [List.getElem?_set_ne hj]; exact h5, dig_set h6 (by decide), ?_⟩, by simp only [Int.toNat_natCast]; omega⟩
      · rw [if_pos (by simp [hc]), w64_id (by omega) (by omega), Int.toNat_natCast, ← ints_set]
        congr 3
        omega
      · have := val_set t j 48 h3 (by rw [hc]; decide) (by decide)
        rw [hc] at this
        have e1 : ((57 : UInt8).toNat - 48) = 9 := by decide
        have e2 : ((48 : UInt8).toNat - 48) = 0 := by decide
        rw [e1, e2, h4, Nat.add_sub_cancel] at this
        rw [show s.length - (j - 1) = s.length - j + 1 by omega, Nat.pow_succ]
        omega
    · left
      refine ⟨(ints t, (j : Int)), ?_, t, j, rfl, rfl, h3, h4, h6, h7, hc⟩
      rw [if_neg]
      intro e
      apply hc
      apply UInt8.toNat_inj.1
      have : (t[j].toNat : Int) = 57 := by simpa using e
      show t[j].toNat = 57
      omega) (x := (ints ([48] ++ s), w64 (((ints ([48] ++ s)).length : Int) - 1))) ⟨[48] ++ s, s.length, rfl, by rw [w64_id (by simp [ints] <;> omega) (by simp [ints] <;> omega)]; simp [ints], by simp, by simp, rfl, h48, by rw [hv]; simp⟩
  have hd2 := h5 t[j] (List.getElem_mem _)
  have hc' : t[j].toNat ≠ 57 := fun q => h7 (by apply UInt8.toNat_inj.1; exact q)
  have hw : IntKind.wrap .u8 ((t[j].toNat : Int) + 1) = ((t[j] + 1 : UInt8).toNat : Int) := by
    rw [wrap_u8 (by omega) (by omega), UInt8.toNat_add]
    simp
    omega
  have hn : (t[j] + 1 : UInt8).toNat = t[j].toNat + 1 := by
    rw [UInt8.toNat_add]
    simp
    omega
  refine ⟨trimM (t.set j (t[j] + 1)), ?_, dig_trim (dig_set h5 (by omega)), ?_, ?_⟩
  · show Option.bind (loopC ref01_Next_l1 (ints ([48] ++ s), w64 (((ints ([48] ++ s)).length : Int) - 1))) _ = _
    rw [h1]
    simp only [Option.bind_some, ints_get h3, hw, Int.toNat_natCast, ints_set, ofb_ints]
    rw [scan_Trim_eq _ (by simp; omega)]
    rfl
  · rw [val_trim]
    have := val_set t j (t[j] + 1) h3 (by omega) (by omega)
    rw [hn, show t[j].toNat + 1 - 48 = t[j].toNat - 48 + 1 by omega, Nat.add_mul, show t.length - 1 - j = s.length - j by omega] at this
    omega
  · have := trimM_len (t.set j (t[j] + 1))
    simp only [List.length_set] at this
    omega

theorem ScanOrder_true (a b c : Str) (ha : a.length ≤ 1048576) (hb : b.length ≤ 1048576) (hc : c.length ≤ 1048576) : law01_ScanOrder a b c = some true := by
  obtain ⟨a, e1, da, la⟩ := digits_ok a (by omega)
  obtain ⟨b, e2, db, lb⟩ := digits_ok b (by omega)
  obtain ⟨c, e3, dc, lc⟩ := digits_ok c (by omega)
  obtain ⟨n, e4, dn, vn, ln⟩ := next_val a (by omega) da
  have dz : isDig ([48] ++ a) := fun c hc => by
    rcases List.mem_append.1 hc with h | h
    · simp only [List.mem_singleton] at h; subst h; decide
    · exact da c h
  have hz : val ([48] ++ a) = val a := by simp [val]
  unfold law01_ScanOrder
  rw [e1, e2, e3]
  simp only [Option.bind_some]
  rw [scan_Cmp_eq a b (by omega) (by omega), scan_Cmp_eq b c (by omega) (by omega), scan_Cmp_eq a c (by omega) (by omega), scan_Cmp_eq b a (by omega) (by omega), scan_Cmp_eq a a (by omega) (by omega), scan_Trim_eq a (by omega), scan_Trim_eq b (by omega), e4, cat_ok (by simp; omega)]
  simp only [Option.bind_some]
  rw [scan_Cmp_eq a n (by omega) (by omega), scan_Cmp_eq n b (by omega) (by omega), scan_Cmp_eq _ a (by simp; omega) (by omega)]
  simp only [Option.bind_some]
  rw [cmpM_val da db, cmpM_val db dc, cmpM_val da dc, cmpM_val db da, cmpM_val da da, cmpM_val da dn, cmpM_val dn db, cmpM_val dz da, vn, hz]
  have ht : (trimM a == trimM b) = decide (val a = val b) := by
    rw [Bool.eq_iff_iff]
    simp [trim_inj da db]
  rw [ht]
  generalize val a = x
  generalize val b = y
  generalize val c = z
  have h1 : cmpI (x : Int) ((x + 1 : Nat) : Int) = -1 := by unfold cmpI; rw [if_pos (by omega)]
  have h2 : cmpI (x : Int) (x : Int) = 0 := by unfold cmpI; rw [if_neg (by omega), if_neg (by omega)]
  have h3 : (cmpI (y : Int) (x : Int) != w64 (0 - cmpI (x : Int) (y : Int))) = false := by
    unfold cmpI
    rcases Nat.lt_trichotomy x y with h | h | h
    · rw [if_neg (by omega), if_pos (by omega), if_pos (by omega)]; decide
    · rw [if_neg (by omega), if_neg (by omega), if_neg (by omega), if_neg (by omega)]; decide
    · rw [if_pos (by omega), if_neg (by omega), if_pos (by omega)]; decide
  have h4 : (decide (cmpI (x : Int) (y : Int) ≤ 0) && decide (cmpI (y : Int) (z : Int) ≤ 0) && decide (cmpI (x : Int) (z : Int) > 0)) = false := by
    unfold cmpI
    rw [Bool.and_eq_false_iff, Bool.and_eq_false_iff]
    by_cases g1 : (y : Int) < x
    · left; left; rw [if_neg (by omega), if_pos g1]; rfl
    · by_cases g2 : (z : Int) < y
      · left; right; rw [if_neg (by omega), if_pos g2]; rfl
      · right
        by_cases g3 : (x : Int) < z
        · rw [if_pos g3]; rfl
        · rw [if_neg g3, if_neg (by omega)]; rfl
  have h5 : (!((cmpI (x : Int) (y : Int) == 0) == decide (x = y))) = false := by
    unfold cmpI
    rcases Nat.lt_trichotomy x y with h | h | h
    · rw [if_pos (by omega), decide_eq_false (by omega)]; rfl
    · rw [if_neg (by omega), if_neg (by omega), decide_eq_true (by omega)]; rfl
    · rw [if_neg (by omega), if_pos (by omega), decide_eq_false (by omega)]; rfl
  have h6 : cmpI (x : Int) (y : Int) ≥ 0 ∨ cmpI ((x + 1 : Nat) : Int) (y : Int) ≤ 0 := by
    unfold cmpI
    by_cases g : (x : Int) < y
    · right
      by_cases g2 : ((x + 1 : Nat) : Int) < y
      · rw [if_pos g2]; decide
      · rw [if_neg g2, if_neg (by omega)]; decide
    · left; rw [if_neg g]; split <;> decide
  simp only [h3, h2, h4, h5, h1, Bool.false_eq_true, if_false, if_true, bne_self_eq_false, Option.bind_some, Bool.or_false, beq_self_eq_true, law01_awake]
  by_cases g : cmpI (x : Int) (y : Int) ≥ 0
  · simp [g]
  · have this : cmpI ((x : Int) + 1) (y : Int) ≤ 0 := h6.resolve_left g
    simp only [decide_eq_true_eq]
    rw [if_neg g]
    simp [this]
end Go.Vm

/- Plain laws of chapter 1: lines, and what stands between separators. -/
set_option linter.unusedVariables false
set_option linter.unusedSimpArgs false
namespace Go.Vm
open Go

theorem ixb_cases (c : UInt8) : ∀ s : Str, (Lib.indexByte s c = -1 ∧ c ∉ s) ∨ ∃ a r, s = a ++ c :: r ∧ c ∉ a ∧ Lib.indexByte s c = (a.length : Int)
  | [] => .inl ⟨rfl, by simp⟩
  | x :: s => by
    by_cases h : x = c
    · right
      subst h
      exact ⟨[], s, rfl, by simp, by simp [Lib.indexByte]⟩
    · rcases ixb_cases c s with ⟨h1, h2⟩ | ⟨a, r, h1, h2, h3⟩
      · left
        refine ⟨by simp [Lib.indexByte, h, h1], ?_⟩
        simp only [List.mem_cons, not_or]
        exact ⟨fun e => h e.symm, h2⟩
      · right
        refine ⟨x :: a, r, by rw [h1]; rfl, ?_, ?_⟩
        · simp only [List.mem_cons, not_or]
          exact ⟨fun e => h e.symm, h2⟩
        · simp only [Lib.indexByte, h3, beq_iff_eq, if_neg h, List.length_cons]
          rw [if_neg (by omega)]
          omega
/-- What stands between bytes. -/
def spl (c : UInt8) : Str → List Str
  | [] => [[]]
  | x :: s => if x = c then [] :: spl c s else (x :: (spl c s).headD []) :: (spl c s).tail
theorem spl_ne (c : UInt8) : ∀ s, spl c s ≠ []
  | [] => by simp [spl]
  | x :: s => by simp only [spl]; split <;> simp
theorem spl_none {c : UInt8} : ∀ {s : Str}, c ∉ s → spl c s = [s]
  | [], _ => rfl
  | x :: s, h => by
    simp only [List.mem_cons, not_or] at h
    simp only [spl, if_neg (fun e => h.1 (Eq.symm e)), spl_none h.2]
    rfl
theorem spl_some {c : UInt8} {r : Str} : ∀ {a : Str}, c ∉ a → spl c (a ++ c :: r) = a :: spl c r
  | [], _ => by simp [spl]
  | x :: a, h => by
    simp only [List.mem_cons, not_or] at h
    simp only [List.cons_append, spl, if_neg (fun e => h.1 (Eq.symm e)), spl_some h.2]
    rfl
def tlS (c : UInt8) : List Str → Str
  | [] => []
  | p :: ps => c :: (p ++ tlS c ps)
theorem spl_join (c : UInt8) : ∀ (s : Str) {p : Str} {ps : List Str}, spl c s = p :: ps → p ++ tlS c ps = s
  | [], p, ps, h => by simp only [spl, List.cons.injEq] at h; obtain ⟨rfl, rfl⟩ := h; rfl
  | x :: s, p, ps, h => by
    simp only [spl] at h
    obtain ⟨q, qs, e⟩ := List.exists_cons_of_ne_nil (spl_ne c s)
    have ih := spl_join c s e
    rw [e] at h
    split at h
    · rename_i hx
      simp only [List.cons.injEq] at h
      obtain ⟨rfl, rfl⟩ := h
      simp [tlS, ih, hx]
    · simp only [List.cons.injEq, List.headD_cons, List.tail_cons] at h
      obtain ⟨rfl, rfl⟩ := h
      simp [ih]
theorem spl_len (c : UInt8) : ∀ s, (spl c s).length ≤ s.length + 1
  | [] => by simp [spl]
  | x :: s => by
    have := spl_len c s
    simp only [spl]
    split <;> simp <;> omega
/-- Pieces with their places. -/
def mkP : Nat → List Str → List S_api_Piece
  | _, [] => []
  | n, p :: ps => ⟨p, n, 0⟩ :: mkP (n + p.length + 1) ps
theorem mkP_len : ∀ n ps, (mkP n ps).length = ps.length
  | _, [] => rfl
  | n, p :: ps => by simp [mkP, mkP_len]
theorem drop_parts {s a r : Str} {c : UInt8} {n : Nat} (h : s.drop n = a ++ c :: r) : n + a.length + 1 ≤ s.length ∧ s.drop (n + a.length + 1) = r ∧ (s.drop n).take a.length = a := by
  have hl := congrArg List.length h
  simp only [List.length_drop, List.length_append, List.length_cons] at hl
  refine ⟨by omega, ?_, by rw [h]; simp⟩
  rw [Nat.add_assoc, ← List.drop_drop, h, ← List.drop_drop]
  simp
def u8c (c : Int) : UInt8 := c.toNat.toUInt8
theorem scan_Split_eq (s : Str) (c : Int) (hs : s.length ≤ 4194304) : scan_Split s c = some (mkP 0 (spl (u8c c) s)) := by
  unfold scan_Split scan_pieces
  simp only [Option.bind_some]
  rw [loopC_fun (f := scan_Split_l1 (s, c)) (fun x => ∃ n : Nat, x.1 = n ∧ n ≤ s.length ∧ x.2.2.length ≤ n) (fun x => s.length + 1 - x.1.toNat) (fun x => x.2.2 ++ mkP x.1.toNat (spl (u8c c) (s.drop x.1.toNat))) (fun x hx => ?_) ⟨0, rfl, Nat.zero_le _, by simp⟩]
  · simp
  · obtain ⟨z, line, out⟩ := x
    obtain ⟨n, h1, hn, ho⟩ := hx
    simp only at h1 ho
    subst h1
    simp only [Int.toNat_natCast]
    unfold scan_Split_l1
    simp only [subl_drop hn, Option.bind_some, strings_IndexByte]
    change (if decide (Lib.indexByte (s.drop n) (u8c c) < 0) = true then _ else _) = _ ∨ _
    rcases ixb_cases (u8c c) (s.drop n) with ⟨h1, h2⟩ | ⟨a, r, h1, h2, h3⟩
    · left
      rw [h1, if_pos (by decide), app_ok (by simp; omega) (by simp; omega), spl_none h2]
      simp [mkP]
    · right
      obtain ⟨p1, p2, p3⟩ := drop_parts h1
      refine ⟨((n + a.length + 1 : Nat), w64 (line + 1), out ++ [⟨a, n, 0⟩]), ?_, ⟨n + a.length + 1, rfl, p1, by simp; omega⟩, by simp only [Int.toNat_natCast]; omega, ?_⟩
      · change (if decide (Lib.indexByte (s.drop n) (u8c c) < 0) = true then _ else Option.bind (subl s n (w64 (n + Lib.indexByte (s.drop n) (u8c c)))) fun x31 => Option.bind (Option.bind (app 32 out [(S_api_Piece.mk x31 n 0)]) (fun x34 => some x34) : Option (List S_api_Piece)) (fun x33 => some (Step.next ((w64 (n + (w64 (Lib.indexByte (s.drop n) (u8c c) + 1)))), (w64 (line + 1)), x33)))) = _
        rw [h3, if_neg (by simp), w64_id (x := (n : Int) + a.length) (by omega) (by omega), w64_id (x := (a.length : Int) + 1) (by omega) (by omega), w64_id (x := (n : Int) + ((a.length : Int) + 1)) (by omega) (by omega)]
        rw [show (n : Int) + (a.length : Int) = ((n + a.length : Nat) : Int) by omega, subl_nat (by omega) (by omega), Nat.add_sub_cancel_left, p3]
        simp only [Option.bind_some]
        rw [app_ok (by simp; omega) (by simp; omega)]
        simp only [Option.bind_some]
        congr 3
        all_goals omega
      · simp only [Int.toNat_natCast]
        rw [h1, spl_some h2, p2]
        simp [mkP]

theorem drop_cons {α : Type} {l : List α} {i : Nat} {y : α} {r : List α} (h : l.drop i = y :: r) : ∃ hi : i < l.length, ixl l (i : Int) = some y ∧ l.drop (i + 1) = r := by
  have hi : i < l.length := by
    rcases Nat.lt_or_ge i l.length with h' | h'
    · exact h'
    · rw [List.drop_eq_nil_of_le h'] at h; cases h
  rw [List.drop_eq_getElem_cons hi] at h
  obtain ⟨h1, h2⟩ := List.cons.inj h
  exact ⟨hi, by rw [ixl_nat hi, h1], h2⟩
theorem back_l1 (s : Str) (c : Int) (hc : u8c c = u8c c) (hs : s.length ≤ 4194304) : loopC (law01_ScanBack_l1 c (mkP 0 (spl (u8c c) s))) ([], 0) = some (Sum.inr s) := by
  have hl : (mkP 0 (spl (u8c c) s)).length ≤ s.length + 1 := by rw [mkP_len]; exact spl_len _ _
  refine loopC_fun (fun x : Str × Int => ∃ (i pos : Nat) (rest : List Str), x.2 = i ∧ (mkP 0 (spl (u8c c) s)).drop i = mkP pos rest ∧ i ≤ (mkP 0 (spl (u8c c) s)).length ∧ ((i = 0 ∧ x.1 = [] ∧ pos = 0 ∧ rest = spl (u8c c) s) ∨ (0 < i ∧ pos = x.1.length + 1 ∧ x.1 ++ tlS (u8c c) rest = s))) (fun x => (mkP 0 (spl (u8c c) s)).length - x.2.toNat) (fun _ => Sum.inr s) (fun x hx => ?_) ⟨0, 0, spl (u8c c) s, rfl, rfl, Nat.zero_le _, .inl ⟨rfl, rfl, rfl, rfl⟩⟩
  obtain ⟨t, z⟩ := x
  obtain ⟨i, pos, rest, h1, h2, h3, h4⟩ := hx
  simp only at h1 h4
  subst h1
  unfold law01_ScanBack_l1
  cases rest with
  | nil =>
    left
    have hi : (mkP 0 (spl (u8c c) s)).length ≤ i := List.drop_eq_nil_iff.1 h2
    rcases h4 with ⟨_, _, _, e⟩ | ⟨_, _, e⟩
    · exact absurd e.symm (spl_ne _ _)
    · simp only [tlS, List.append_nil] at e
      subst e
      simp only
      rw [if_neg (by simp; omega)]
  | cons p rest =>
    right
    obtain ⟨hi, h5, h6⟩ := drop_cons h2
    have key : ∃ u : Str, (if decide ((i : Int) > 0) = true then Option.bind (cat t (ofb [c])) (fun x16 => some x16) else some t) = some u ∧ u.length = pos ∧ (u ++ p) ++ tlS (u8c c) rest = s ∧ u.length + p.length ≤ s.length := by
      have e0 : ofb [c] = [u8c c] := rfl
      rcases h4 with ⟨rfl, rfl, rfl, e⟩ | ⟨q, rfl, e⟩
      · have := spl_join (u8c c) s e.symm
        refine ⟨[], by simp, rfl, this, ?_⟩
        have := congrArg List.length this
        simp only [List.length_append] at this
        simp; omega
      · have e' := e
        simp only [tlS] at e
        have := congrArg List.length e
        simp only [List.length_append, List.length_cons] at this
        refine ⟨t ++ [u8c c], ?_, by simp, ?_, by simp; omega⟩
        · rw [if_pos (by simp; omega), e0, cat_ok (by simp; omega)]
          rfl
        · rw [← e]; simp
    obtain ⟨u, k1, k2, k3, k4⟩ := key
    refine ⟨(u ++ p, ((i + 1 : Nat) : Int)), ?_, ⟨i + 1, pos + p.length + 1, rest, rfl, h6, hi, .inr ⟨by omega, by simp; omega, k3⟩⟩, by simp only [Int.toNat_natCast]; omega, rfl⟩
    simp only [h5, Option.bind_some]
    rw [if_pos (by simp; omega)]
    have k1' := k1
    rw [k1]
    simp only [Option.bind_some, k2]
    rw [if_neg (by simp), cat_ok (by omega), w64_id (by omega) (by omega)]
    rfl

/-! ### Lines -/
def trimR (p : Str) : Str := if p.drop (p.length - 1) = [13] ∧ 1 ≤ p.length then p.take (p.length - 1) else p
theorem trimSuffix_eq (p : Str) (hp : p.length ≤ 4611686018427387904) : strings_TrimSuffix p [13] = some (trimR p) := by
  unfold strings_TrimSuffix stringslite_TrimSuffix stringslite_HasSuffix trimR
  simp only [List.length_singleton]
  by_cases h : 1 ≤ p.length
  · rw [if_pos (by simp; omega), w64_id (by omega) (by omega), show (p.length : Int) - ((1 : Nat) : Int) = ((p.length - 1 : Nat) : Int) by omega, subl_drop (by omega), subl_take (by omega)]
    simp only [Option.bind_some, beq_iff_eq, h, and_true]
    split <;> rfl
  · rw [if_neg (by simp; omega)]
    simp [h]
def lns (len : Nat) : Nat → Nat → List Str → List S_api_Piece
  | _, _, [] => []
  | n, l, [p] => if n = len then [] else [⟨trimR p, n, l⟩]
  | n, l, p :: q :: ps => ⟨trimR p, n, l⟩ :: lns len (n + p.length + 1) (l + 1) (q :: ps)
theorem scan_Lines_eq (s : Str) (hs : s.length ≤ 4194304) : scan_Lines s = some (lns s.length 0 1 (spl 10 s)) := by
  unfold scan_Lines scan_pieces
  simp only [Option.bind_some]
  obtain ⟨t, h1, h2⟩ := loopC_inv (f := scan_Lines_l1 s (s, 10)) (fun x => ∃ n l : Nat, x.1 = n ∧ x.2.1 = l ∧ n ≤ s.length ∧ x.2.2.length ≤ n ∧ l ≤ n + 1 ∧ x.2.2 ++ lns s.length n l (spl 10 (s.drop n)) = lns s.length 0 1 (spl 10 s)) (fun x => s.length + 1 - x.1.toNat) (fun t => (match t with | Sum.inl x => x | Sum.inr x => x) = lns s.length 0 1 (spl 10 s)) (fun x hx => by
    obtain ⟨z, zl, out⟩ := x
    obtain ⟨n, l, e1, e2, hn, ho, hl, hR⟩ := hx
    simp only at e1 e2 ho hR
    subst e1 e2
    unfold scan_Lines_l1
    simp only [subl_drop hn, Option.bind_some, strings_IndexByte]
    rw [show (Int.toNat 10).toUInt8 = (10 : UInt8) from rfl]
    rcases ixb_cases 10 (s.drop n) with ⟨h1, h2⟩ | ⟨a, r, h1, h2, h3⟩
    · left
      rw [h1, if_pos (by decide)]
      rw [spl_none h2] at hR
      by_cases he : n = s.length
      · rw [if_pos (by simp [he])]
        refine ⟨_, rfl, ?_⟩
        simpa [lns, he] using hR
      · rw [if_neg (by simp; omega), trimSuffix_eq _ (by simp; omega)]
        simp only [Option.bind_some]
        rw [app_ok (by simp; omega) (by simp; omega)]
        refine ⟨_, rfl, ?_⟩
        simpa [lns, he] using hR
    · right
      obtain ⟨p1, p2, p3⟩ := drop_parts h1
      obtain ⟨q, qs, eq⟩ := List.exists_cons_of_ne_nil (spl_ne 10 r)
      refine ⟨((n + a.length + 1 : Nat), ((l + 1 : Nat) : Int), out ++ [⟨trimR a, n, l⟩]), ?_, ⟨n + a.length + 1, l + 1, rfl, rfl, p1, by simp; omega, by omega, ?_⟩, by simp only [Int.toNat_natCast]; omega⟩
      · rw [h3, if_neg (by simp), w64_id (x := (n : Int) + a.length) (by omega) (by omega), w64_id (x := (a.length : Int) + 1) (by omega) (by omega), w64_id (x := (n : Int) + ((a.length : Int) + 1)) (by omega) (by omega), w64_id (x := (l : Int) + 1) (by omega) (by omega)]
        rw [show (n : Int) + (a.length : Int) = ((n + a.length : Nat) : Int) by omega, subl_nat (by omega) (by omega), Nat.add_sub_cancel_left, p3]
        simp only [Option.bind_some]
        rw [if_neg (by simp; omega), trimSuffix_eq _ (by omega)]
        simp only [Option.bind_some]
        rw [app_ok (by simp; omega) (by simp; omega)]
        simp only [Option.bind_some]
        congr 3
        all_goals omega
      · rw [h1, spl_some h2, eq] at hR
        simp only [lns] at hR
        rw [p2, eq, ← hR]
        simp) (x := (0, 1, [])) ⟨0, 1, rfl, rfl, Nat.zero_le _, by simp, by omega, by simp⟩
  rw [h1]
  cases t with
  | inl x => exact congrArg some h2
  | inr x => exact congrArg some h2

theorem starts_ok {s : Str} {n : Nat} {q r : Str} (hs : s.length ≤ 4194304) (h : s.drop n = q ++ r) (hn : n ≤ s.length) : ref01_Starts s n q = some true := by
  have hl := congrArg List.length h
  simp only [List.length_drop, List.length_append] at hl
  unfold ref01_Starts
  rw [w64_id (by omega) (by omega), w64_id (by omega) (by omega), if_pos (by simp; omega), show (n : Int) + (q.length : Int) = ((n + q.length : Nat) : Int) by omega, subl_nat (by omega) (by omega), Nat.add_sub_cancel_left, h]
  simp
theorem trimR_app (q : Str) : ∃ r, q = trimR q ++ r := by
  unfold trimR
  split
  · exact ⟨q.drop (q.length - 1), (List.take_append_drop _ _).symm⟩
  · exact ⟨[], by simp⟩
theorem back_l2 (s : Str) (n : Nat) (hn : n ≤ s.length) (hs : s.length ≤ 4194304) : loopC (law01_ScanBack_l2 s) n = some (runE (fun c => c != 10) s n : Int) := by
  refine scan_loop ?_ ?_ hn
  · unfold law01_ScanBack_l2
    rw [if_neg (by simp)]
    rfl
  · intro i h
    unfold law01_ScanBack_l2
    rw [if_pos (by simp; omega), idx_nat h, w64_id (by omega) (by omega)]
    simp only [Option.bind_some]
    rw [show ((s[i].toNat : Int) != 10) = (s[i] != 10) from by rw [bne, bne]; exact congrArg _ (u8c_beq _ 10)]
    rfl
theorem takeWhile_ne {a r : Str} {c : UInt8} (h : c ∉ a) : (a ++ c :: r).takeWhile (fun x => x != c) = a := by
  induction a with
  | nil => simp
  | cons x a ih =>
    simp only [List.mem_cons, not_or] at h
    rw [List.cons_append, List.takeWhile_cons_of_pos (by simp; exact fun e => h.1 e.symm), ih h.2]
theorem back_l3 (s : Str) (hs : s.length ≤ 4194304) : ∃ m : Int, loopC (law01_ScanBack_l3 s (lns s.length 0 1 (spl 10 s))) (0, 0) = some (Sum.inr m) ∧ (s.length : Int) ≤ m := by
  generalize hx : lns s.length 0 1 (spl 10 s) = xs
  obtain ⟨t, h1, m, rfl, h3⟩ := loopC_inv (f := law01_ScanBack_l3 s xs) (fun x => ∃ n i : Nat, x.1 = n ∧ x.2 = i ∧ i ≤ n ∧ i ≤ xs.length ∧ ((n ≤ s.length ∧ xs.drop i = lns s.length n (i + 1) (spl 10 (s.drop n))) ∨ (n = s.length + 1 ∧ xs.drop i = []))) (fun x => xs.length - x.2.toNat) (fun t => ∃ m : Int, t = Sum.inr m ∧ (s.length : Int) ≤ m) (fun x hx => by
    obtain ⟨z, zi⟩ := x
    obtain ⟨n, i, e1, e2, hi, hi2, h⟩ := hx
    simp only at e1 e2
    subst e1 e2
    unfold law01_ScanBack_l3
    cases hd : xs.drop i with
    | nil =>
      left
      have hi : xs.length ≤ i := List.drop_eq_nil_iff.1 hd
      refine ⟨_, if_neg (by simp; omega), n, rfl, ?_⟩
      rcases h with ⟨h1, h2⟩ | ⟨h1, h2⟩
      · rw [hd] at h2
        obtain ⟨q, qs, eq⟩ := List.exists_cons_of_ne_nil (spl_ne 10 (s.drop n))
        rw [eq] at h2
        cases qs with
        | nil =>
          simp only [lns] at h2
          split at h2
          · omega
          · cases h2
        | cons q2 qs => simp only [lns] at h2; cases h2
      · omega
    | cons y ys =>
      right
      obtain ⟨hi', h5, h6⟩ := drop_cons hd
      rcases h with ⟨h1, h2⟩ | ⟨h1, h2⟩
      · rw [hd] at h2
        have hstep : ∀ (a : Str) (rr : Str) (n' : Nat), y = ⟨trimR a, n, ((i + 1 : Nat) : Int)⟩ → s.drop n = a ++ rr → runE (fun c => c != 10) s n + 1 = n' → n' ≤ s.length + 1 → i + 1 ≤ n' → ((n' ≤ s.length ∧ xs.drop (i + 1) = lns s.length n' (i + 1 + 1) (spl 10 (s.drop n'))) ∨ (n' = s.length + 1 ∧ xs.drop (i + 1) = [])) →
            ∃ y, (if decide ((i : Int) < (List.length xs : Int)) = true then Option.bind (ixl xs i) (fun x44 => Option.bind (if ((x44.Line != (w64 (i + 1))) || (x44.At != n)) = true then some true else Option.bind (ref01_Starts s x44.At x44.Text) (fun x47 => some (!x47)) : Option (Bool)) (fun x46 => (if x46 = true then some (Step.done (Sum.inl ())) else Option.bind (loopC (law01_ScanBack_l2 s) x44.At) (fun x54 => some (Step.next ((w64 (x54 + 1)), (w64 (i + 1)))))))) else some (Step.done (Sum.inr n)) : Option (Step (Int × Int) ((Unit) ⊕ (Int)))) = some (Step.next y) ∧ (∃ n i : Nat, y.1 = n ∧ y.2 = i ∧ i ≤ n ∧ i ≤ xs.length ∧ ((n ≤ s.length ∧ xs.drop i = lns s.length n (i + 1) (spl 10 (s.drop n))) ∨ (n = s.length + 1 ∧ xs.drop i = []))) ∧ xs.length - y.2.toNat < xs.length - i := by
          intro a rr n' ey ea en hn' hin hnext
          refine ⟨((n' : Int), ((i + 1 : Nat) : Int)), ?_, ⟨n', i + 1, rfl, rfl, hin, hi', hnext⟩, by simp only [Int.toNat_natCast]; omega⟩
          obtain ⟨r, er⟩ := trimR_app a
          rw [if_pos (by simp; omega), h5]
          simp only [Option.bind_some, ey]
          rw [w64_id (by omega) (by omega), if_neg (by simp), starts_ok hs (q := trimR a) (r := r ++ rr) (by rw [ea, ← List.append_assoc, ← er]) h1]
          simp only [Option.bind_some, Bool.not_true, Bool.false_eq_true, if_false]
          rw [back_l2 s n h1 hs]
          simp only [Option.bind_some]
          have := runE_le (p := fun c : UInt8 => c != 10) h1
          rw [w64_id (by omega) (by omega)]
          congr 3
          omega
        rcases ixb_cases 10 (s.drop n) with ⟨g1, g2⟩ | ⟨a, r, g1, g2, g3⟩
        · rw [spl_none g2] at h2
          simp only [lns] at h2
          split at h2
          · cases h2
          · obtain ⟨rfl, rfl⟩ := List.cons.inj h2
            have he : runE (fun c => c != 10) s n = s.length := by
              unfold runE
              rw [takeWhile_all (fun x hx => by simp; rintro rfl; exact g2 hx)]
              simp; omega
            exact hstep (s.drop n) [] (s.length + 1) rfl (by simp) (by rw [he]) (Nat.le_refl _) (by omega) (.inr ⟨rfl, h6⟩)
        · obtain ⟨p1, p2, p3⟩ := drop_parts g1
          obtain ⟨q, qs, eq⟩ := List.exists_cons_of_ne_nil (spl_ne 10 r)
          rw [g1, spl_some g2, eq] at h2
          simp only [lns] at h2
          obtain ⟨rfl, rfl⟩ := List.cons.inj h2
          have he : runE (fun c => c != 10) s n = n + a.length := by
            unfold runE
            rw [g1, takeWhile_ne g2]
          exact hstep a (10 :: r) (n + a.length + 1) rfl g1 (by rw [he]) (by omega) (by omega) (.inl ⟨p1, by rw [h6, p2, eq]⟩)
      · rw [hd] at h2; cases h2) (x := (0, 0)) ⟨0, 0, rfl, rfl, Nat.le_refl _, Nat.zero_le _, .inl ⟨Nat.zero_le _, by simp [hx]⟩⟩
  exact ⟨m, h1, h3⟩
theorem ScanBack_true (s : Str) (sep : Int) (hs : s.length ≤ 1048576) (h1 : 0 ≤ sep) (h2 : sep ≤ 255) : law01_ScanBack s sep = some true := by
  obtain ⟨m, e1, e2⟩ := back_l3 s (by omega)
  unfold law01_ScanBack
  rw [scan_Split_eq s sep (by omega)]
  simp only [Option.bind_some]
  rw [back_l1 s sep rfl (by omega), scan_Lines_eq s (by omega)]
  simp only [Option.bind_some, beq_self_eq_true, Bool.not_true, Bool.false_eq_true, if_false]
  rw [e1]
  simp only [Option.bind_some]
  rw [if_pos (by simp; omega)]
  rfl
end Go.Vm

/- The law 'dovetaillaw01.ScanBack' is true wherever what it reads is of bulk at most 1048576; each argument reads behind the call as it read before. -/
set_option maxRecDepth 100000
set_option linter.unusedVariables false
set_option linter.unusedSimpArgs false
namespace Go.Proofs.YtfkifahbmemepaaDoor.scanBack
open Go.ChangeMaps Go.ChangeShapes Go.WideShapes Go.ChangeAt Go.RowKit Go.Vm
theorem own : ownKnob Tryd.prog.godebug = none := by kernel_rfl
def litV : Lit → Value
  | .bool b => .bool b
  | .int k n => .int k n
  | .float k b => .float k b
  | .string l => .string ⟨l.toArray⟩
  | .nil => .pointer none
def dvals1 : DataW Unit → List Value
  | .lit l => [litV l]
  | _ => []
def dvals2 : DataW Unit → List Value
  | .lit l => [litV l]
  | .agg ps => ps.flatMap dvals1
  | _ => []
def dvals3 : DataW Unit → List Value
  | .agg ps => ps.flatMap dvals2
  | _ => []
def layB (l : List Value) : Obj → Obj
  | .cells _ t frozen => .cells l.toArray t frozen
  | o => o
noncomputable def laidWorld (os : Os) : World :=
  { World.holding Tryd.prog os ⟨#[], #[], []⟩ with heap := ((World.holding Tryd.prog os ⟨#[], #[], []⟩).heap.modify 1 (layB (dvals3 Rows.laid_unicode_utf8_first))).modify 2 (layB (dvals3 Rows.laid_unicode_utf8_acceptRanges)) }
theorem laid_met (os : Os) : laidMet Tryd.prog Rows.scanBackUptoRow.laid ((laidWorld os).forCall (fun _ _ => 0) ⟨#[], #[.string ⟨#[]⟩, .int .u8 0], []⟩).memory :=
  laidMet_of_run' 8 (by kernel_rfl) (by kernel_rfl)
theorem reads (os : Os) {H : Type} (enc : TypeId × Value → H) : ∃ places, DataW.whole enc Tryd.prog ((laidWorld os).forCall (fun _ _ => 0) ⟨#[], #[.string ⟨#[]⟩, .int .u8 0], []⟩).memory Tryd.f5.params.toList Rows.scanBackSpec.vars false (#[.string ⟨#[]⟩, .int .u8 0] : Array Value).toList 8 = some ([.lit (.string []), .lit (.int .u8 0)], [], places) :=
  ⟨[], by kernel_rfl⟩
theorem contract (H : Type) (enc : TypeId × Value → H) (W : World) (base : Nat) (args : Array Value) (ds gs : List (DataW H)) (before : List MemPlace)
    (hval : ∀ (j : Nat) t v, Tryd.f5.params[j]? = some t → args[j]? = some v → Value.okWide Tryd.prog W .any base t v)
    (hW : DataW.Whole enc Tryd.prog Tryd.f5.params.toList Rows.scanBackSpec.vars false W args.toList ds gs before) (hk : Rows.uptoSmall H (ds ++ gs) = true) :
    Calls Tryd.prog 5 args W fun e W' => ∃ v, e = .returned v ∧ Rows.scanBackSpec.post enc Tryd.prog Tryd.f5 false true false false W args v W' := by
  have hW' := hW
  obtain ⟨p, q, hA0, hV, rfl, hfz, hnd⟩ := hW
  have hA : DataW.TrodAll enc Tryd.prog W 0 (fun _ => true) true Tryd.f5.params.toList args.toList ds p := hA0
  rw [Tryd.params5] at hA hval
  obtain ⟨v0, vs0, d0, ds0, p0, q0, hargs, rfl, rfl, h0, r0⟩ := trodAll_cons hA
  obtain ⟨v1, vs1, d1, ds1, p1, q1, rfl, rfl, rfl, h1, r1⟩ := trodAll_cons r0
  obtain ⟨rfl, rfl, rfl⟩ := trodAll_nil r1
  obtain rfl : args = #[v0, v1] := by cases args; simp_all
  obtain ⟨rfl, rfl⟩ := trodVars_none hV
  obtain ⟨a0, rfl, rfl, rfl, w0⟩ := open_string Tryd.underlying9 (hval 0 9 v0 rfl rfl) h0
  obtain ⟨a1, rfl, rfl, rfl, w1⟩ := open_int Tryd.underlying5 (hval 1 5 v1 rfl rfl) h1
  clear hA0
  simp only [List.append_nil] at hW'
  have hbulk := of_decide_eq_true hk
  simp only [List.append_nil, Rows.uptoBulkAll, Rows.uptoBulk] at hbulk
  have b1 := w1
  simp only [Lit.wf, IntKind.min, IntKind.max, IntKind.signed, IntKind.bits, Bool.and_eq_true, decide_eq_true_eq] at b1
  have hp : law01_ScanBack (a0.data.toList) (a1) = some true := ScanBack_true (a0.data.toList) (a1) (by omega) (by simp at b1; omega) (by simp at b1; omega)
  refine (law_true (law01_ScanBack_ok (a0.data.toList) (a1)) hp rfl (vs' := [bs a0.data.toList, .s (.int .u8 a1)]) (All2.refl' _ (by intro x hx; simp only [List.mem_cons, List.mem_nil_iff, or_false] at hx; rcases hx with rfl | rfl <;> exact VLe.s_refl _)) rfl W (cargs := #[.string a0, .int .u8 a1]) (by simp [VRels, VRel])).mono fun e W' ⟨he, h1, h2, h3, h4, h5⟩ => ?_
  have hb : Below W.heap.size W W' := ⟨h1, h2, h3, h4, h5⟩
  subst he
  exact ⟨_, rfl, row_below (pa := []) (pv := []) hW' hb rfl (fun _ _ _ => trodAll_cons_mk (shut_bool Tryd.underlying4 _) trodAll_mk0) (fun _ _ => (trodAll_cons_mk (shut_string Tryd.underlying9 w0) (trodAll_cons_mk (shut_int Tryd.underlying5 w1) trodAll_mk0))) (fun _ _ => rfl) (ok_one (by kernel_rfl) rfl (okWide_bool_mk Tryd.underlying4 _))⟩
set_option maxRecDepth 100000 in
theorem liftedUpto (os : Os) (started : os.Started) (H : Type) (enc : TypeId × Value → H) (F : Stop.Interp) :
    ReturnsInHanded {} Tryd.checked os 5 .any ((Rows.OpenSpec.upto Rows.scanBackSpec).preRow enc Tryd.prog Tryd.f5 Rows.scanBackUptoRow.domain false Rows.scanBackUptoRow.laid) (((Rows.OpenSpec.upto Rows.scanBackSpec).at F).post enc Tryd.prog Tryd.f5 false true false false) := by
  obtain ⟨places, hx⟩ := reads os enc
  refine returnsInHanded_of_row (C := Tryd.checked) (s := Rows.OpenSpec.upto Rows.scanBackSpec) own started (by kernel_rfl) Tryd.func5
    (witness_row_at (enc := enc) (C := Tryd.checked) false (laidWorld os) #[.string ⟨#[]⟩, .int .u8 0] rfl (by kernel_rfl) (by kernel_rfl) (by kernel_rfl)
      (OpenSpec.preRow_of_cond 8 hx (by kernel_rfl) (fun k hk => by cases hk; kernel_rfl) (by kernel_rfl) (laid_met os))) ?_
  intro W base args ds gs before hval hW _ hcond _ hL _ _
  exact contract H enc W base args ds gs before hval hW (hcond _ rfl)
theorem saidUpto : Rows.ScanBackUptoSaid :=
  OpenClaim.holds_of_cond 5 Tryd.f5 rfl rfl rfl rfl rfl rfl rfl ⟨rfl, rfl, rfl, rfl, rfl⟩ rfl rfl rfl rfl rfl (by kernel_rfl) Tryd.func5 (by kernel_rfl)
    (of_decide_eq_true (by kernel_rfl)) (by unfold Func.isWrapper; first | (rw [if_pos (by decide +kernel)]; kernel_rfl) | (rw [if_neg (by decide +kernel)]; exact ⟨rfl, rfl⟩))
    (fun os started H enc _ F => by rw [OpenClaim.pre_eq_preRow]; exact liftedUpto os started H enc F)
theorem plain (f : FuncId) (fn : Func) (hf : Tryd.pinned.checked.prog.funcNamed "dovetail/dovetaillaw01.ScanBack" = some f) (hfn : Tryd.pinned.checked.prog.funcs[f]? = some fn) :
    false = Tryd.pinned.checked.prog.looks [] ∧ ∀ (j : Nat) t, fn.params[j]? = some t → Tryd.pinned.checked.prog.wantsStandIn t = false := by
  obtain rfl : f = 5 := Option.some.inj ((show Tryd.prog.funcNamed "dovetail/dovetaillaw01.ScanBack" = some 5 by kernel_rfl).symm.trans hf) |>.symm
  obtain rfl : fn = Tryd.f5 := (Option.some.inj (Tryd.func5.symm.trans hfn)).symm
  refine ⟨by kernel_rfl, fun j t ht => ?_⟩
  have hall : (Tryd.f5.params.toList.all fun t => !(Tryd.prog.wantsStandIn t)) = true := by kernel_rfl
  have := List.all_eq_true.1 hall t (by have := Array.mem_of_getElem? ht; simpa using this)
  have h2 : Tryd.prog.wantsStandIn t = false := by simpa using this
  exact h2
theorem cardUpto : Rows.ScanBackUptoCardSaid :=
  Claim7.holds_tied_plain_at .later [] _ _ _ _ saidUpto (fun _ h => by cases h) (by kernel_rfl) (fun _ h => by cases h) scanBackUpto_row_tie rfl ⟨rfl, rfl⟩ (by kernel_rfl) rfl plain (by kernel_rfl)
end Go.Proofs.YtfkifahbmemepaaDoor.scanBack

/- The law RpmSigns, a part of its proof: what the functions that it reaches compute. -/
import Derived.WalkKit
import Derived.ProofKit
import Derived.OpenShut
import Derived.Below
import Derived.ChangeSame
import Derived.Deep.DeepHandedRow
import Derived.Carry
import Derived.Test.YtfkifahbmemepaaDoorDx36d5087e
import Derived.Shelf.Small.Strs
import Derived.Deep.Strs
import Derived.Test.YtfkifahbmemepaaDoorCxffeeaba2
import Derived.Test.YtfkifahbmemepaaDoorG0RpmSigns
import Derived.Test.YtfkifahbmemepaaDoorW05RpmSigns
import Derived.Test.YtfkifahbmemepaaDoorG1RpmSigns
/- What a row asks behind a call that has left all that was there as it was. -/
namespace Go.Vm
open Go Go.RowKit Go.WideShapes Go.ChangeShapes
theorem row_below {H : Type} {enc : TypeId × Value → H} {P : Program} {f : Func} {s : ChangeSpec} {apart fresh handsOn again : Bool} {W W' : World} {args : Array Value} {v : Value} {ds gs : List (DataW H)} {before pa pv : List MemPlace}
    (hW : DataW.Whole enc P f.params.toList s.vars apart W args.toList ds gs before) (hb : Below W.heap.size W W') (hp : before = pa ++ pv)
    (hr : ∀ (b : Nat) (sp : Nat → Bool) (hd : Bool), DataW.TrodAll enc P W' b sp hd f.resultTypes.toList (v.resultList f.resultTypes.size) (s.fn H (ds ++ gs)).results [])
    (ha : ∀ sp : Nat → Bool, (∀ p ∈ before, sp p.block = true) → DataW.TrodAll enc P W' 0 sp true f.params.toList args.toList (s.fn H (ds ++ gs)).args pa)
    (hv : ∀ sp : Nat → Bool, (∀ p ∈ before, sp p.block = true) → DataW.TrodVars enc P W' sp s.vars (s.fn H (ds ++ gs)).vars pv)
    (ho : ∀ (j : Nat) (t : TypeId) (r : Value), f.resultTypes[j]? = some t → (v.resultList f.resultTypes.size)[j]? = some r → Value.okWide P W' .any 0 t r) :
    s.post enc P f apart fresh handsOn again W args v W' := by
  have small : ∀ p ∈ before, decide (p.block < W.heap.size) = true := fun p h => decide_eq_true (hW.lt p h)
  refine ⟨ds, gs, before, [], pa, pv, hW, hr _ _ _, ha (fun b => decide (b < W.heap.size)) small, hv _ small, hb.frame _, fun _ => ⟨ho, ?_⟩⟩
  obtain ⟨_, _, _, _, _, hz, hn⟩ := hW
  refine ⟨_, _, ([] ++ pa) ++ pv, ⟨[] ++ pa, pv, trodAll_append (ha _ fun _ _ => rfl) (hr _ _ _), hv _ fun _ _ => rfl, rfl, fun b off hm => ?_, fun h => ?_⟩, ?_⟩
  · have hm' : MemPlace.cell b off ∈ before := by rw [hp]; simpa using hm
    rw [hb.frozen (of_decide_eq_true (small _ hm'))]
    exact hz b off hm'
  · have := hn h
    rw [hp] at this
    simpa using this
  · intro x hx _
    rw [hp]
    simpa using hx
end Go.Vm

set_option maxRecDepth 100000
namespace Go.Proofs
open Go.Shelf
def Tryd.renCf : Nat → Nat
  | 213 => 109
  | 265 => 129
  | n => n
def Tryd.renIf : Nat → Nat
  | 137 => 111
  | 217 => 130
  | 266 => 138
  | n => n
def Tryd.renC : Ren := ⟨Tryd.renCf, fun n => n, fun n => n⟩
def Tryd.renI : Ren := ⟨Tryd.renIf, fun n => n, fun n => n⟩
theorem Tryd.lays213 : Lays.n213 Tryd.prog Tryd.renC where
  mixed := by kernel_rfl
  f213 := by kernel_rfl
  f265 := by kernel_rfl
  t3 := by kernel_rfl
  a3 := Tryd.isAgg3
  z3 := Tryd.sizeOf3
  v3 := Tryd.zeroValue3
  t9 := by kernel_rfl
  a9 := Tryd.isAgg9
  z9 := Tryd.sizeOf9
  v9 := Tryd.zeroValue9
theorem Tryd.lays137 : Lays.n137 Tryd.prog Tryd.renI where
  mixed := by kernel_rfl
  f137 := by kernel_rfl
  f217 := by kernel_rfl
  f266 := by kernel_rfl
  t3 := by kernel_rfl
  a3 := Tryd.isAgg3
  z3 := Tryd.sizeOf3
  v3 := Tryd.zeroValue3
  t5 := by kernel_rfl
  a5 := Tryd.isAgg5
  z5 := Tryd.sizeOf5
  v5 := Tryd.zeroValue5
  t9 := by kernel_rfl
  a9 := Tryd.isAgg9
  z9 := Tryd.sizeOf9
  v9 := Tryd.zeroValue9
end Go.Proofs
namespace Go.Vm
open Go
def funcOk (fn : Func) : Bool := !(fn.name == "runtime.NumGoroutine") && (match fn.body with | some c => codeOk c | none => true)
theorem funcsOk : E.P.funcs.toList.all funcOk = true := by kernel_rfl
theorem cmp_calls (a b : ByteArray) (w : World) : Calls E.P 109 #[.string a, .string b] w fun e w' => e = .returned (.int .i64 (Lib.compareBytes a.data.toList b.data.toList)) ∧ w' = w := Go.Proofs.Any.bytealg_CompareString Go.Proofs.Tryd.lays213 a b w
theorem ixb_calls (a : ByteArray) (c : Int) (w : World) : Calls E.P 111 #[.string a, .int .u8 c] w fun e w' => e = .returned (.int .i64 (Lib.indexByte a.data.toList c.toNat.toUInt8)) ∧ w' = w := Go.Proofs.Any.strings_IndexByte Go.Proofs.Tryd.lays137 a c w
theorem post_same {K : Cx} {base : Nat} {h : AHeap} (H : HRel K base h) {v : AV} {cv : Value} (hv : VRel K v cv) : CallPost K base h K.c v (.returned cv) K.w := ⟨K, cv, rfl, rfl, Cx.Step.refl K, H, rfl, hv⟩
theorem envOk : EnvOk E := by
  have key : ∀ (f : FuncId) (fn : Func), E.P.funcs[f]? = some fn → funcOk fn = true := fun f fn hf => by
    have := List.all_eq_true.1 funcsOk fn (by
      obtain ⟨h1, h2⟩ := Array.getElem?_eq_some_iff.1 hf
      rw [← h2]
      simp)
    exact this
  refine ⟨fun f fn hf => ?_, fun f fn c hf hc => ?_, fun g p hp => ?_⟩
  · have := key f fn hf
    unfold funcOk at this
    rw [Bool.and_eq_true] at this
    simpa using this.1
  · have := key f fn hf
    unfold funcOk at this
    rw [Bool.and_eq_true, hc] at this
    exact this.2
  · simp only [E] at hp
    split at hp
    · rename_i hg
      subst hg
      cases hp
      refine ⟨⟨Go.Proofs.Tryd.f109, by kernel_rfl, by kernel_rfl⟩, fun args v hv K base h cargs H hr N => ?_⟩
      unfold cmpP at hv
      split at hv
      · rename_i a b
        cases hv
        obtain ⟨cl, rfl⟩ : ∃ l : List Value, cargs = l.toArray := ⟨cargs.toList, by simp⟩
        match cl, hr with
        | [x, y], hr =>
          simp only [VRels, VRel] at hr
          obtain ⟨rfl, rfl, _⟩ := hr
          refine callsIn_wide.2 ((cmp_calls a b K.w).mono ?_)
          rintro e w' ⟨rfl, rfl⟩
          exact post_same H (by simp [VRel])
        | [], hr => simp [VRels] at hr
        | [_], hr => simp [VRels] at hr
        | _ :: _ :: _ :: _, hr => simp [VRels] at hr
      · cases hv
    · split at hp
      · rename_i hg
        subst hg
        cases hp
        refine ⟨⟨Go.Proofs.Tryd.f111, by kernel_rfl, by kernel_rfl⟩, fun args v hv K base h cargs H hr N => ?_⟩
        unfold ixbP at hv
        split at hv
        · rename_i a c
          cases hv
          obtain ⟨cl, rfl⟩ : ∃ l : List Value, cargs = l.toArray := ⟨cargs.toList, by simp⟩
          match cl, hr with
          | [x, y], hr =>
            simp only [VRels, VRel] at hr
            obtain ⟨rfl, rfl, _⟩ := hr
            refine callsIn_wide.2 ((ixb_calls a c K.w).mono ?_)
            rintro e w' ⟨rfl, rfl⟩
            exact post_same H (by simp [VRel])
          | [], hr => simp [VRels] at hr
          | [_], hr => simp [VRels] at hr
          | _ :: _ :: _ :: _, hr => simp [VRels] at hr
        · cases hv
      · cases hp

theorem law_true {g : FuncId} {vs vs' : List AV} {m : Option Bool} (hc : Ct E g vs m (fun r => bv r)) (hm : m = some true) (hp : E.prim g = none) (hv : All2 (VLe Rn.nil) vs vs') (hs : snapL (snap AHeap.nil depth) vs' = some (vs', false)) (w : World) {cargs : Array Value}
    (hr : VRels { w := w, ι := fun _ => (0, 0, 0), L := fun _ => False, X := fun _ => False, c := 0 } vs' cargs.toList) :
    Calls E.P g cargs w fun e w' => e = .returned (.bool true) ∧ w'.os = w.os ∧ w'.tape = w.tape ∧ w'.output = w.output ∧ w.heap.size ≤ w'.heap.size ∧ (∀ b, b < w.heap.size → w'.heap[b]? = w.heap[b]?) := by
  obtain ⟨u, h1, h2⟩ := hc true hm vs' hv AHeap.nil 0
  have hu := h2.s_inv
  subst hu
  unfold callFn at h1
  rw [hp] at h1
  have hpf : E.pf g = true := rfl
  simp only [hpf, if_true, hs] at h1
  cases hcl : (rinf E).call g vs' AHeap.nil 0 with
  | none => rw [hcl] at h1; cases h1
  | some q =>
    obtain ⟨v, h3, n3⟩ := q
    rw [hcl] at h1
    simp only at h1
    cases hsn : snap h3 depth v with
    | none => rw [hsn] at h1; cases h1
    | some q2 =>
      obtain ⟨v', b2⟩ := q2
      rw [hsn] at h1
      simp only [Bool.false_and, Bool.false_eq_true, if_false, Option.some.injEq, Prod.mk.injEq] at h1
      obtain ⟨k, hk⟩ := rinf_call.1 hcl
      have hpc : pcall E k g vs' = some (bv true) := by
        unfold pcall
        rw [hk]
        simp only [hsn, h1.1]
      refine (pcall_sound envOk (fun r => drawOk_all r) hpc w hr).mono ?_
      rintro e w' ⟨cv, h4, h5, h6, h7, h8, h9, h10⟩
      simp only [VRel] at h10
      subst h10
      exact ⟨h4, h5, h6, h7, h8, h9⟩
end Go.Vm

/- What a call reads, as Lean data: an argument's reading by shape gives a value of the evaluator. -/
set_option linter.unusedVariables false
set_option linter.unusedSimpArgs false
namespace Go.Vm
open Go

structure BulkOk {H : Type} (f : DataW H → Nat) (g : List (DataW H) → Nat) : Prop where
  nil : g [] = 0
  cons : ∀ d r, g (d :: r) = f d + g r
  pos : ∀ d, 1 ≤ f d
  str : ∀ l, f (.lit (.string l)) = l.length + 1
  slice : ∀ e s, f (.slice e s) = g e + g s + 1
  agg : ∀ p, f (.agg p) = g p + 1
theorem BulkOk.sum {H : Type} {f : DataW H → Nat} {g : List (DataW H) → Nat} (B : BulkOk f g) : ∀ l, g l = (l.map f).sum
  | [] => B.nil
  | d :: r => by rw [B.cons, B.sum r]; rfl
def Kw (W : World) : Cx := { w := W, ι := fun _ => (0, 0, 0), L := fun _ => False, X := fun _ => False, c := 0 }
section
variable {H : Type} {P : Program} {f : DataW H → Nat} {g : List (DataW H) → Nat}
structure Rd (P : Program) (f : DataW H → Nat) (t : TypeId) (n : Nat) {α : Type} (en : α → List AV) (ok : α → Prop) (μ : α → Nat) : Prop where
  read : ∀ {enc : TypeId × Value → H} {W : World} {fuel : Nat} {cs : List Value} {d : DataW H} {pl : List MemPlace}, DataW.trod enc P W 0 (fun _ => true) true fuel t cs = some (d, pl) →
    ∃ x, VRels (Kw W) (en x) cs ∧ ok x ∧ μ x ≤ f d ∧ cs.length = n ∧ (∀ v ∈ cs, v.oneCell' = true)
  self : ∀ x, ∀ c ∈ en x, VLe Rn.nil c c
theorem vless_refl : ∀ {rows : List (List AV)}, (∀ r ∈ rows, ∀ c ∈ r, VLe Rn.nil c c) → VLess Rn.nil rows rows
  | [], _ => by simp [VLess]
  | r :: rows, h => by
    simp only [VLess]
    exact ⟨r, rows, rfl, VLes_iff.2 (All2.refl' _ (h r List.mem_cons_self)), vless_refl fun s hs => h s (List.mem_cons_of_mem _ hs)⟩
theorem fsl_refl {sz : Nat} {rows : List (List AV)} (h : ∀ r ∈ rows, ∀ c ∈ r, VLe Rn.nil c c) : VLe Rn.nil (.fsl sz rows) (.fsl sz rows) := by
  simp only [VLe]
  exact .inl ⟨rows, rfl, vless_refl h⟩
theorem Rd.str (B : BulkOk f g) {t : TypeId} (ht : P.underlying t = some .string) : Rd P f t 1 (fun x : Str => [bs x]) (fun _ => True) (fun x => x.length + 1) where
  self _ c hc := by simp only [List.mem_singleton] at hc; subst hc; exact VLe.s_refl _
  read h := by
    obtain ⟨s, rfl, e, _⟩ := DataW.trod_string ht h
    obtain ⟨rfl, rfl⟩ := Prod.mk.inj e
    exact ⟨s.data.toList, by simp [VRels, VRel], trivial, by rw [B.str]; exact Nat.le_refl _, rfl, by simp; rfl⟩
theorem Rd.int (B : BulkOk f g) {t : TypeId} {k : IntKind} (ht : P.underlying t = some (.int k)) : Rd P f t 1 (fun x : Int => [.s (.int k x)]) (fun x => (Lit.int k x).wf = true) (fun _ => 1) where
  self _ c hc := by simp only [List.mem_singleton] at hc; subst hc; exact VLe.s_refl _
  read h := by
    obtain ⟨n, rfl, e, w⟩ := DataW.trod_int ht h
    obtain ⟨rfl, rfl⟩ := Prod.mk.inj e
    exact ⟨n, by simp [VRels, VRel], w, B.pos _, rfl, by simp; rfl⟩
theorem Rd.bool (B : BulkOk f g) {t : TypeId} (ht : P.underlying t = some .bool) : Rd P f t 1 (fun x : Bool => [bv x]) (fun _ => True) (fun _ => 1) where
  self _ c hc := by simp only [List.mem_singleton] at hc; subst hc; exact VLe.s_refl _
  read h := by
    obtain ⟨n, rfl, e⟩ := DataW.trod_bool ht h
    obtain ⟨rfl, rfl⟩ := Prod.mk.inj e
    exact ⟨n, by simp [VRels, VRel], trivial, B.pos _, rfl, by simp; rfl⟩
theorem VRels.len {K : Cx} : ∀ {a : List AV} {x : List Value}, VRels K a x → a.length = x.length
  | [], [], _ => rfl
  | _ :: a, _ :: x, h => by simp only [List.length_cons]; rw [VRels.len (a := a) (x := x) (by simp only [VRels] at h; exact h.2)]
  | [], _ :: _, h => by simp [VRels] at h
  | _ :: _, [], h => by simp [VRels] at h
theorem crel_rd {W : World} {b : Nat} : ∀ {a : List AV} {cs : List Value} {o : Nat}, VRels (Kw W) a cs → (∀ i, i < cs.length → W.cell? ⟨b, o + i, none⟩ = cs[i]?) → (∀ v ∈ cs, v.oneCell' = true) → CRel (Kw W) b o a
  | [], _, _, _, _, _ => by simp [CRel]
  | c :: a, [], _, h, _, _ => by simp [VRels] at h
  | c :: a, v :: cs, o, h, hc, h1 => by
    simp only [VRels] at h
    have h0 := hc 0 (by simp)
    simp only [Nat.add_zero, List.getElem?_cons_zero] at h0
    refine ⟨⟨v, ⟨?_, id, id⟩, h0, h1 v List.mem_cons_self, h.1⟩, crel_rd h.2 (fun i hi => ?_) fun u hu => h1 u (List.mem_cons_of_mem _ hu)⟩
    · unfold World.cell? at h0
      split at h0
      · rename_i e
        exact (Array.getElem?_eq_some_iff.1 e).1
      · cases h0
    · have := hc (i + 1) (by simp; omega)
      rw [Nat.add_assoc, Nat.add_comm 1 i, this]
      rfl
theorem Rd.slice (B : BulkOk f g) {t e : TypeId} {n : Nat} {α : Type} {en : α → List AV} {ok : α → Prop} {μ : α → Nat} (R : Rd P f e n en ok μ) (ht : P.underlying t = some (.slice e)) (hn : P.cellsOf e = n) (h0 : 0 < n) :
    Rd P f t 1 (fun x : List α => [.fsl n (x.map en)]) (fun x => ∀ y ∈ x, ok y) (fun x => (x.map μ).sum + 1) where
  self x c hc := by
    simp only [List.mem_singleton] at hc
    subst hc
    refine fsl_refl fun r hr => ?_
    obtain ⟨y, _, rfl⟩ := List.mem_map.1 hr
    exact R.self y
  read {enc W fuel cs d pl} h := by
    rcases Deep.open_slice ht h with ⟨rfl, e'⟩ | ⟨a, len, cap, m, k, D, Pl, rfl, _, hl, _, hm, e', hx⟩
    · obtain ⟨rfl, rfl⟩ := Prod.mk.inj e'
      exact ⟨[], by simp only [VRels, VRel, and_true, List.map_nil, List.length_nil]; exact ⟨none, 0, rfl, Nat.le_refl _, by simp⟩, by simp, by simpa using B.pos _, rfl, by simp; rfl⟩
    · obtain ⟨rfl, rfl⟩ := Prod.mk.inj e'
      have hlm : len ≤ m := by rw [hm]; simpa using hl
      subst hn
      have hspot : 0 < len → a.spot = none := fun hp => by
        obtain ⟨cs', h1, h2⟩ := hx 0 (by omega)
        obtain ⟨_, hlen, hc⟩ := World.cells?_some h1
        have := hc 0 h0
        rw [List.getElem?_eq_getElem (by omega)] at this
        simp only [Nat.zero_mul, Addr.add, if_true] at this
        unfold World.cell? at this
        split at this
        · split at this
          · cases this
          · rename_i q; simpa using q
        · cases this
      obtain ⟨ab, ao, sp⟩ := a
      have key : ∀ j i, i + j = len → ∃ xs : List α, RRel (Kw W) ab (ao + i * P.cellsOf e) (P.cellsOf e) (xs.map en) ∧ xs.length = j ∧ (∀ x ∈ xs, ok x) ∧ (xs.map μ).sum ≤ ((List.range' i j).map fun q => f (D q)).sum := by
        intro j
        induction j with
        | zero => intro i _; exact ⟨[], by simp [RRel], rfl, by simp, by simp⟩
        | succ j ih =>
          intro i hij
          obtain rfl : sp = none := hspot (by omega)
          obtain ⟨xs, r1, r2, r3, r4⟩ := ih (i + 1) (by omega)
          obtain ⟨cs', h1, h2⟩ := hx i (by omega)
          obtain ⟨x, x1, x2, x3, x4, x5⟩ := R.read h2
          obtain ⟨_, hlen, hc⟩ := World.cells?_some h1
          refine ⟨x :: xs, ?_, by simp [r2], by simpa using ⟨x2, r3⟩, ?_⟩
          · simp only [List.map_cons, RRel]
            refine ⟨by rw [x1.len, x4], crel_rd x1 (fun q hq => ?_) x5, ?_⟩
            · have := hc q (by omega)
              rw [WideShapes.add_plain, WideShapes.add_plain] at this
              exact this
            · rw [Nat.add_assoc, show i * P.cellsOf e + P.cellsOf e = (i + 1) * P.cellsOf e by rw [Nat.add_mul, Nat.one_mul]]
              exact r1
          · simp only [List.map_cons, List.sum_cons, List.range'_succ]
            omega
      obtain ⟨xs, r1, r2, r3, r4⟩ := key len 0 (by omega)
      refine ⟨xs, ?_, r3, ?_, rfl, by simp; rfl⟩
      · simp only [VRels, VRel, and_true, List.length_map, r2]
        refine ⟨some ⟨ab, ao, sp⟩, cap, rfl, hl, ?_⟩
        rcases Nat.eq_zero_or_pos len with hz | hp
        · left
          have : xs = [] := List.length_eq_zero_iff.1 (by omega)
          simp [this]
        · right
          obtain rfl : sp = none := hspot hp
          exact ⟨ab, ao, rfl, by rw [Nat.zero_mul, Nat.add_zero] at r1; exact r1⟩
      · rw [B.slice, B.sum, List.map_map, List.range_eq_range']
        have : (List.map (f ∘ D) (List.range' 0 len)).sum = ((List.range' 0 len).map fun q => f (D q)).sum := rfl
        omega
structure Rds (P : Program) (f : DataW H → Nat) (g : List (DataW H) → Nat) (fs : List Field) (o n : Nat) {α : Type} (en : α → List AV) (ok : α → Prop) (μ : α → Nat) : Prop where
  read : ∀ {enc : TypeId × Value → H} {W : World} {fuel : Nat} {cs : List Value} {xs : List (DataW H × List MemPlace)}, xs.length = fs.length → o + n ≤ cs.length →
    (∀ (i : Nat) (fd : Field), fs[i]? = some fd → DataW.trod enc P W 0 (fun _ => true) true fuel fd.type ((cs.drop fd.offset).take (P.cellsOf fd.type)) = xs[i]?) →
    ∃ x, VRels (Kw W) (en x) ((cs.drop o).take n) ∧ ok x ∧ μ x ≤ g (xs.map (·.1)) ∧ (∀ v ∈ (cs.drop o).take n, v.oneCell' = true)
  self : ∀ x, ∀ c ∈ en x, VLe Rn.nil c c
theorem Rds.nil (o : Nat) : Rds P f g [] o 0 (fun _ : Unit => []) (fun _ => True) (fun _ => 0) where
  self _ c hc := by simp at hc
  read _ _ _ := ⟨(), by simp [VRels], trivial, Nat.zero_le _, by simp⟩
theorem Rds.cons (B : BulkOk f g) {fd : Field} {fs : List Field} {o n1 n2 : Nat} {α β : Type} {e1 : α → List AV} {ok1 : α → Prop} {μ1 : α → Nat} {e2 : β → List AV} {ok2 : β → Prop} {μ2 : β → Nat} (R1 : Rd P f fd.type n1 e1 ok1 μ1) (R2 : Rds P f g fs (o + n1) n2 e2 ok2 μ2) (ho : fd.offset = o) (hn : P.cellsOf fd.type = n1) :
    Rds P f g (fd :: fs) o (n1 + n2) (fun x : α × β => e1 x.1 ++ e2 x.2) (fun x => ok1 x.1 ∧ ok2 x.2) (fun x => μ1 x.1 + μ2 x.2) where
  self x c hc := by
    rcases List.mem_append.1 hc with h | h
    · exact R1.self _ c h
    · exact R2.self _ c h
  read {enc W fuel cs xs} hl hc h := by
    cases xs with
    | nil => simp at hl
    | cons y xs =>
      have h0 := h 0 fd rfl
      simp only [List.getElem?_cons_zero, ho, hn] at h0
      obtain ⟨x1, a1, a2, a3, a4, a5⟩ := R1.read (d := y.1) (pl := y.2) h0
      obtain ⟨x2, b1, b2, b3, b5⟩ := R2.read (enc := enc) (W := W) (fuel := fuel) (cs := cs) (xs := xs) (by simpa using hl) (by omega) (fun i fd' h' => by have := h (i + 1) fd' (by simpa using h'); simpa using this)
      have e : (cs.drop o).take (n1 + n2) = (cs.drop o).take n1 ++ (cs.drop (o + n1)).take n2 := by rw [List.take_add, List.drop_drop]
      refine ⟨(x1, x2), ?_, ⟨a2, b2⟩, ?_, ?_⟩
      · rw [e]; exact a1.append b1
      · simp only [List.map_cons]; rw [B.cons]; omega
      · rw [e]
        intro v hv
        rcases List.mem_append.1 hv with hv | hv
        · exact a5 v hv
        · exact b5 v hv
theorem Rd.struct (B : BulkOk f g) {t : TypeId} {fs : Array Field} {n : Nat} {α β : Type} {en : α → List AV} {ok : α → Prop} {μ : α → Nat} (R : Rds P f g fs.toList 0 n en ok μ) (ht : P.underlying t = some (.struct fs)) (hn : P.cellsOf t = n) (mk : α → β) (hs : ∀ y, ∃ x, mk x = y) {en' : β → List AV} (he : ∀ x, en' (mk x) = en x) {ok' : β → Prop} (hk : ∀ x, ok x → ok' (mk x)) {μ' : β → Nat} (hm : ∀ x, μ' (mk x) ≤ μ x + 1) :
    Rd P f t n en' ok' μ' where
  self y c hc := by
    obtain ⟨x, rfl⟩ := hs y
    rw [he] at hc
    exact R.self x c hc
  read {enc W fuel cs d pl} h := by
    obtain ⟨xs, k, _, e, hl, hx, hf⟩ := DataW.trod_struct ht h
    obtain ⟨rfl, rfl⟩ := Prod.mk.inj e
    obtain ⟨x, h1, h2, h3, h4⟩ := R.read (enc := enc) (W := W) (fuel := k) (cs := cs) (xs := xs) (by simpa using hx) (by omega) (fun i fd h' => hf i fd (by simpa using h'))
    rw [List.drop_zero, List.take_of_length_le (by omega)] at h1 h4
    refine ⟨mk x, by rw [he]; exact h1, hk x h2, ?_, by omega, h4⟩
    rw [B.agg]
    have := hm x
    omega
theorem Rd.arg1 {t : TypeId} {α : Type} {c : α → AV} {ok : α → Prop} {μ : α → Nat} (R : Rd P f t 1 (fun x => [c x]) ok μ) {enc : TypeId × Value → H} {W : World} {v : Value} {d : DataW H} {pl : List MemPlace} (hv : v.cells = #[v]) (h : DataW.Trod enc P W 0 (fun _ => true) true t v d pl) :
    ∃ x, VRel (Kw W) (c x) v ∧ ok x ∧ μ x ≤ f d ∧ VLe Rn.nil (c x) (c x) := by
  obtain ⟨fuel, h⟩ := h
  obtain ⟨x, h1, h2, h3, _⟩ := R.read h
  rw [hv] at h1
  simp only [VRels, and_true] at h1
  exact ⟨x, h1, h2, h3, R.self x _ List.mem_cons_self⟩
theorem cells_string {P : Program} {W : World} {r : Reach} {b : Nat} {t : TypeId} {v : Value} (ht : P.underlying t = some .string) (h : Value.okWide P W r b t v) : v.cells = #[v] := by
  unfold Value.okWide Cell.okWide Cell.ok at h
  rw [ht] at h
  cases v <;> first | rfl | simp at h
theorem args_stay {enc : TypeId × Value → H} (hl : laidOutB P = true) {W W' : World} (hb : RowKit.Below W.heap.size W W') {sp : Nat → Bool} : ∀ {ts : List TypeId} {vs : List Value} {ds : List (DataW H)} {ps : List MemPlace}, (∀ t ∈ ts, P.readableRec t = true ∧ t < P.types.size) → DataW.TrodAll enc P W 0 (fun _ => true) true ts vs ds ps → (∀ x ∈ ps, x.block < W.heap.size) → (∀ x ∈ ps, sp x.block = true) →
    DataW.TrodAll enc P W' 0 sp true ts vs ds ps
  | [], [], [], _, _, h, _, _ => h
  | t :: ts, v :: vs, d :: ds, ps, hr, h, h1, h2 => by
    obtain ⟨p, q, h3, h4, rfl⟩ := h
    exact ⟨p, q, WideElems.Trod_stays hl (hr t List.mem_cons_self).1 (hr t List.mem_cons_self).2 h3 (fun x hx => hb.same (h1 x (List.mem_append_left _ hx))) (fun x hx => h2 x (List.mem_append_left _ hx)),
      args_stay hl hb (fun u hu => hr u (List.mem_cons_of_mem _ hu)) h4 (fun x hx => h1 x (List.mem_append_right _ hx)) (fun x hx => h2 x (List.mem_append_right _ hx)), rfl⟩
  | [], _ :: _, _, _, _, h, _, _ => h.elim
  | [], [], _ :: _, _, _, h, _, _ => h.elim
  | _ :: _, [], _, _, _, h, _, _ => h.elim
  | _ :: _, _ :: _, [], _, _, h, _, _ => h.elim
end
end Go.Vm

/- Plain laws: loops, numbers. -/
set_option linter.unusedVariables false
set_option linter.unusedSimpArgs false
namespace Go.Vm
open Go

section
variable {σ τ : Type} {f : σ → Option (Step σ τ)}
theorem loopC_next {x y : σ} (h : f x = some (.next y)) : loopC f x = loopC f y := by rw [loopC_eq, h]; rfl
theorem loopC_done {x : σ} {t : τ} (h : f x = some (.done t)) : loopC f x = some t := by rw [loopC_eq, h]; rfl
theorem loopC_fun (I : σ → Prop) (μ : σ → Nat) (g : σ → τ) (h : ∀ x, I x → f x = some (.done (g x)) ∨ ∃ y, f x = some (.next y) ∧ I y ∧ μ y < μ x ∧ g y = g x) {x : σ} (hx : I x) : loopC f x = some (g x) := by
  have key : ∀ n x, I x → μ x ≤ n → loopC f x = some (g x) := by
    intro n
    induction n with
    | zero =>
      intro x hx hn
      rcases h x hx with h1 | ⟨y, _, _, h3, _⟩
      · exact loopC_done h1
      · omega
    | succ n ih =>
      intro x hx hn
      rcases h x hx with h1 | ⟨y, h1, h2, h3, h4⟩
      · exact loopC_done h1
      · rw [loopC_next h1, ih y h2 (by omega), h4]
  exact key _ x hx (Nat.le_refl _)
end

theorem w64_id {x : Int} (h1 : -9223372036854775808 ≤ x) (h2 : x ≤ 9223372036854775807) : w64 x = x := i64_id h1 h2
theorem idx_nat {s : Str} {i : Nat} (h : i < s.length) : idx s (i : Int) = some (s[i].toNat : Int) := by
  unfold idx
  rw [if_pos (by omega), Int.toNat_natCast, List.getElem?_eq_getElem h]
  rfl
theorem ixl_nat {α : Type} {l : List α} {i : Nat} (h : i < l.length) : ixl l (i : Int) = some l[i] := by
  unfold ixl
  rw [if_pos (by omega), Int.toNat_natCast, List.getElem?_eq_getElem h]
theorem subl_nat {α : Type} {l : List α} {i j : Nat} (h1 : i ≤ j) (h2 : j ≤ l.length) : subl l (i : Int) (j : Int) = some ((l.drop i).take (j - i)) := by
  unfold subl
  rw [if_pos ⟨by omega, by omega, by omega⟩]
  rfl
theorem subl_drop {α : Type} {l : List α} {i : Nat} (h : i ≤ l.length) : subl l (i : Int) (l.length : Int) = some (l.drop i) := by
  rw [subl_nat h (Nat.le_refl _), List.take_of_length_le (by simp)]
theorem u8c_beq (a c : UInt8) : ((a.toNat : Int) == (c.toNat : Int)) = (a == c) := u8_beq
theorem cat_ok {a b : Str} (h : a.length + b.length ≤ 9223372036854775807) : cat a b = some (a ++ b) := by
  unfold cat; rw [if_pos h]
theorem app_ok {α : Type} {b : Nat} {l m : List α} (h1 : (l.length + m.length) * b ≤ 140737488355328) (h2 : l.length + m.length ≤ 9223372036854775807) : app b l m = some (l ++ m) := by
  unfold app; rw [if_pos ⟨h1, h2⟩]

def runE (p : UInt8 → Bool) (s : Str) (i : Nat) : Nat := i + ((s.drop i).takeWhile p).length
theorem runE_le {p : UInt8 → Bool} {s : Str} {i : Nat} (h : i ≤ s.length) : runE p s i ≤ s.length := by
  unfold runE
  have := (List.takeWhile_prefix p (l := s.drop i)).length_le
  simp only [List.length_drop] at this
  omega
theorem runE_end (p : UInt8 → Bool) (s : Str) : runE p s s.length = s.length := by simp [runE]
theorem runE_yes {p : UInt8 → Bool} {s : Str} {i : Nat} (h : i < s.length) (hp : p s[i] = true) : runE p s i = runE p s (i + 1) := by
  unfold runE
  rw [List.drop_eq_getElem_cons h, List.takeWhile_cons_of_pos hp, List.length_cons]
  omega
theorem runE_no {p : UInt8 → Bool} {s : Str} {i : Nat} (h : i < s.length) (hp : p s[i] = false) : runE p s i = i := by
  unfold runE
  rw [List.drop_eq_getElem_cons h, List.takeWhile_cons_of_neg (by simp [hp])]
  simp
theorem scan_loop {f : Int → Option (Step Int Int)} {p : UInt8 → Bool} {s : Str} (hend : f (s.length : Int) = some (.done (s.length : Int))) (hstep : ∀ (i : Nat) (h : i < s.length), f (i : Int) = if p s[i] = true then some (.next ((i + 1 : Nat) : Int)) else some (.done (i : Int))) {i : Nat} (hi : i ≤ s.length) :
    loopC f (i : Int) = some (runE p s i : Int) := by
  have := loopC_fun (f := f) (fun x => ∃ i : Nat, x = i ∧ i ≤ s.length) (fun x => s.length - x.toNat) (fun x => (runE p s x.toNat : Int)) (fun x hx => by
    obtain ⟨i, rfl, hi⟩ := hx
    simp only [Int.toNat_natCast]
    rcases Nat.lt_or_ge i s.length with h | h
    · cases hp : p s[i] with
      | true =>
        right
        refine ⟨((i + 1 : Nat) : Int), by rw [hstep i h, if_pos hp], ⟨i + 1, rfl, h⟩, by rw [Int.toNat_natCast]; omega, ?_⟩
        rw [Int.toNat_natCast, runE_yes h hp]
      | false => left; rw [hstep i h, hp, runE_no h hp]; rfl
    · have : i = s.length := by omega
      subst this
      left
      rw [hend, runE_end]) (x := (i : Int)) ⟨i, rfl, hi⟩
  simpa using this
end Go.Vm

/- Plain laws of chapter 1: digits. -/
set_option linter.unusedVariables false
set_option linter.unusedSimpArgs false
namespace Go.Vm
open Go

def nought (c : UInt8) : Bool := c == 48
def trimM (s : Str) : Str := if s.dropWhile nought = [] then [48] else s.dropWhile nought

theorem trimLeftByte_eq (s : Str) (hs : s.length ≤ 4611686018427387904) : strings_trimLeftByte s 48 = some (s.dropWhile nought) := by
  unfold strings_trimLeftByte
  rw [loopC_fun (fun x => x.length ≤ 4611686018427387904) (fun x => x.length) (fun x => x.dropWhile nought) (fun x hx => ?_) hs]
  · rfl
  · cases x with
    | nil => left; simp [strings_trimLeftByte_l1]
    | cons c x =>
      have h0 : idx (c :: x) 0 = some (c.toNat : Int) := idx_nat (s := c :: x) (i := 0) (by simp)
      have h1 : subl (c :: x) 1 ((c :: x).length : Int) = some x := by
        have := subl_drop (l := c :: x) (i := 1) (by simp)
        simpa using this
      have h2 : ((c.toNat : Int) == 48) = nought c := u8c_beq c 48
      cases hc : nought c with
      | true =>
        right
        refine ⟨x, ?_, by simp only [List.length_cons] at hx; omega, by simp, by rw [List.dropWhile_cons_of_pos hc]⟩
        unfold strings_trimLeftByte_l1
        rw [h0, h1]
        simp only [List.length_cons, Option.bind_some, h2, hc]
        rw [if_pos (by simp; try omega)]
        rfl
      | false =>
        left
        unfold strings_trimLeftByte_l1
        rw [h0]
        simp only [List.length_cons, Option.bind_some, h2, hc, List.dropWhile_cons]
        rw [if_pos (by simp; try omega)]
        rfl
theorem scan_Trim_eq (s : Str) (hs : s.length ≤ 4611686018427387904) : scan_Trim s = some (trimM s) := by
  unfold scan_Trim strings_TrimLeft_s1
  have h1 : (if ((s == []) && true) = true then some s else Option.bind (strings_trimLeftByte s 48) (fun x1 => some x1)) = some (s.dropWhile nought) := by
    cases s with
    | nil => simp
    | cons c s =>
      rw [if_neg (by simp), trimLeftByte_eq _ hs]
      rfl
  rw [h1]
  simp only [Option.bind_some, trimM, beq_iff_eq]
  split <;> rfl
theorem drop_runE (p : UInt8 → Bool) (s : Str) : s.drop (runE p s 0) = s.dropWhile p := by
  unfold runE
  simp only [List.drop_zero, Nat.zero_add]
  induction s with
  | nil => rfl
  | cons c s ih =>
    cases hc : p c with
    | true => rw [List.takeWhile_cons_of_pos hc, List.dropWhile_cons_of_pos hc, List.length_cons, List.drop_succ_cons, ih]
    | false => rw [List.takeWhile_cons_of_neg (by simp [hc]), List.dropWhile_cons_of_neg (by simp [hc])]; rfl
theorem ref01_Trim_eq (s : Str) (hs : s.length ≤ 4611686018427387904) : ref01_Trim s = some (trimM s) := by
  unfold ref01_Trim
  have hl : loopC (ref01_Trim_l1 s) 0 = some (runE nought s 0 : Int) := by
    refine scan_loop (p := nought) (s := s) (i := 0) ?_ ?_ (Nat.zero_le _)
    · unfold ref01_Trim_l1
      rw [if_neg (by simp)]
      rfl
    · intro i h
      unfold ref01_Trim_l1
      rw [if_pos (by simp; omega), idx_nat h]
      simp only [Option.bind_some]
      rw [show ((s[i].toNat : Int) == 48) = nought s[i] from u8c_beq _ 48, w64_id (by omega) (by omega)]
      cases nought s[i] <;> rfl
  rw [hl]
  simp only [Option.bind_some]
  have hle : runE nought s 0 ≤ s.length := runE_le (Nat.zero_le _)
  rw [subl_drop hle]
  simp only [Option.bind_some, drop_runE, trimM]
  by_cases h : s.dropWhile nought = []
  · have : runE nought s 0 = s.length := by
      have := congrArg List.length (drop_runE nought s)
      rw [h] at this
      simp only [List.length_drop, List.length_nil] at this
      omega
    rw [if_pos h, if_pos (by rw [this]; simp)]
  · have : runE nought s 0 ≠ s.length := by
      intro e
      have := congrArg List.length (drop_runE nought s)
      rw [e] at this
      simp only [List.length_drop, Nat.sub_self] at this
      exact h (List.length_eq_zero_iff.1 this.symm)
    rw [if_neg h, if_neg (by simp; omega)]
def cmpI (a b : Int) : Int := if a < b then -1 else if b < a then 1 else 0
theorem cmp_Compare_int_eq (a b : Int) : cmp_Compare_int a b = some (cmpI a b) := by
  have h : ∀ x : Int, cmp_isNaN_int x = some false := fun x => by simp [cmp_isNaN_int]
  unfold cmp_Compare_int cmpI
  rw [h, h]
  simp only [Option.bind_some, Bool.false_eq_true, if_false, decide_eq_true_eq, gt_iff_lt]
  split
  · rfl
  · split <;> rfl
theorem cmp_Or_int_eq (l : List Int) (hl : l.length ≤ 4611686018427387904) : cmp_Or_int l = some ((l.find? (· != 0)).getD 0) := by
  unfold cmp_Or_int
  have := loopC_fun (f := cmp_Or_int_l1 l) (fun x => ∃ i : Nat, x = i ∧ i ≤ l.length) (fun x => l.length - x.toNat) (fun x => match (l.drop x.toNat).find? (· != 0) with | some y => Sum.inl y | none => Sum.inr ()) (fun x hx => by
    obtain ⟨i, rfl, hi⟩ := hx
    simp only [Int.toNat_natCast]
    rcases Nat.lt_or_ge i l.length with h | h
    · unfold cmp_Or_int_l1
      rw [if_pos (by simp; omega), ixl_nat h, List.drop_eq_getElem_cons h]
      simp only [Option.bind_some, List.find?_cons]
      cases hc : l[i] != 0 with
      | true => left; rfl
      | false =>
        right
        refine ⟨((i + 1 : Nat) : Int), by rw [if_neg (by simp), w64_id (by omega) (by omega)]; rfl, ⟨i + 1, rfl, h⟩, by rw [Int.toNat_natCast]; omega, by rw [Int.toNat_natCast]⟩
    · have : i = l.length := by omega
      subst this
      left
      unfold cmp_Or_int_l1
      rw [if_neg (by simp)]
      simp) (x := 0) ⟨0, rfl, Nat.zero_le _⟩
  rw [this]
  simp only [Option.bind_some, Int.toNat_zero, List.drop_zero]
  cases l.find? (· != 0) <;> rfl
theorem strings_Compare_eq (a b : Str) : strings_Compare a b = some (Lib.compareBytes a b) := rfl
def cmpM (a b : Str) : Int := if cmpI (trimM a).length (trimM b).length ≠ 0 then cmpI (trimM a).length (trimM b).length else Lib.compareBytes (trimM a) (trimM b)
theorem find2 (x y : Int) : (([x, y].find? (· != 0)).getD 0) = if x ≠ 0 then x else y := by
  by_cases h : x = 0
  · subst h
    by_cases h2 : y = 0
    · subst h2; rfl
    · simp [h2]
  · simp [h]
theorem scan_Cmp_eq (a b : Str) (ha : a.length ≤ 4611686018427387904) (hb : b.length ≤ 4611686018427387904) : scan_Cmp a b = some (cmpM a b) := by
  unfold scan_Cmp
  rw [scan_Trim_eq a ha, scan_Trim_eq b hb]
  simp only [Option.bind_some, cmp_Compare_int_eq, strings_Compare_eq]
  rw [cmp_Or_int_eq _ (by simp), find2]
  rfl
def isB (c k : Int) : Bool :=
  if k = 1 then decide (48 ≤ c) && decide (c ≤ 57)
  else if k = 2 then decide (97 ≤ c) && decide (c ≤ 122)
  else if k = 3 then decide (65 ≤ c) && decide (c ≤ 90)
  else if k = 4 then decide (97 ≤ c) && decide (c ≤ 122) || decide (65 ≤ c) && decide (c ≤ 90)
  else if k = 5 then decide (48 ≤ c) && decide (c ≤ 57) || decide (97 ≤ c) && decide (c ≤ 122) || decide (65 ≤ c) && decide (c ≤ 90)
  else if k = 6 then c == 32 || c == 9
  else if k = 7 then c == 32 || c == 9 || c == 10 || c == 13
  else false
theorem scan_Is_eq (c k : Int) : scan_Is c k = some (isB c k) := by
  unfold scan_Is isB
  simp only [beq_iff_eq, ge_iff_le]
  repeat (split; first | rfl | skip)
  rfl
theorem ref01_Is_eq (c k : Int) : ref01_Is c k = some (isB c k) := by
  unfold ref01_Is isB
  simp only [beq_iff_eq, ge_iff_le]
  repeat (split; first | rfl | (simp only [Option.some.injEq]; rw [Bool.eq_iff_iff]; simp only [Bool.or_eq_true, Bool.and_eq_true, decide_eq_true_eq, beq_iff_eq]; omega) | skip)
  rfl
def isP (k : Int) (c : UInt8) : Bool := isB c.toNat k
def runM (s : Str) (at' k : Int) : Int := if at' < 0 ∨ s.length < at' then at' else (runE (isP k) s at'.toNat : Int)
theorem ref01_Run_eq (s : Str) (at' k : Int) (hs : s.length ≤ 4611686018427387904) : ref01_Run s at' k = some (runM s at' k) := by
  unfold ref01_Run runM
  simp only [Bool.or_eq_true, decide_eq_true_eq, gt_iff_lt]
  split
  · rfl
  · rename_i h
    obtain ⟨i, rfl⟩ : ∃ i : Nat, at' = i := ⟨at'.toNat, by omega⟩
    rw [scan_loop (p := isP k) (s := s) (i := i) ?_ ?_ (by omega)]
    · simp
    · unfold ref01_Run_l1
      rw [if_neg (by simp)]
      rfl
    · intro j hj
      unfold ref01_Run_l1
      rw [if_pos (by simp; omega), idx_nat hj]
      simp only [Option.bind_some, ref01_Is_eq]
      rw [w64_id (by omega) (by omega)]
      show _ = if isB _ k = true then _ else _
      cases isB s[j].toNat k <;> rfl
theorem scan_Run_eq (s : Str) (at' k : Int) (hs : s.length ≤ 4611686018427387904) : scan_Run s at' k = some (runM s at' k) := by
  unfold scan_Run runM
  simp only [Bool.or_eq_true, decide_eq_true_eq, gt_iff_lt]
  split
  · rfl
  · rename_i h
    obtain ⟨i, rfl⟩ : ∃ i : Nat, at' = i := ⟨at'.toNat, by omega⟩
    have := loopC_fun (f := scan_Run_l1 s i k) (fun x => ∃ j : Nat, x = j ∧ i + j ≤ s.length) (fun x => s.length - x.toNat) (fun x => if runE (isP k) s (i + x.toNat) = s.length then Sum.inr () else Sum.inl (runE (isP k) s (i + x.toNat) : Int)) (fun x hx => by
      obtain ⟨j, rfl, hj⟩ := hx
      simp only [Int.toNat_natCast]
      rcases Nat.lt_or_ge (i + j) s.length with h | h
      · have hi := idx_nat h
        have e : w64 ((i : Int) + (j : Int)) = ((i + j : Nat) : Int) := by rw [w64_id (by omega) (by omega)]; omega
        unfold scan_Run_l1
        rw [if_pos (by rw [w64_id (by omega) (by omega)]; simp; omega), e, hi]
        simp only [Option.bind_some, scan_Is_eq]
        cases hc : isB s[i + j].toNat k with
        | true =>
          right
          have e2 : w64 ((j : Int) + 1) = ((j + 1 : Nat) : Int) := by rw [w64_id (by omega) (by omega)]; omega
          refine ⟨((j + 1 : Nat) : Int), by rw [e2]; rfl, ⟨j + 1, rfl, by omega⟩, by rw [Int.toNat_natCast]; omega, ?_⟩
          rw [Int.toNat_natCast, ← Nat.add_assoc, ← runE_yes h hc]
        | false =>
          left
          rw [runE_no h hc, if_neg (show ¬ (i + j = s.length) by omega)]
          rfl
      · have : i + j = s.length := by omega
        left
        unfold scan_Run_l1
        rw [if_neg (by rw [w64_id (by omega) (by omega)]; simp; omega), this, runE_end]
        simp) (x := 0) ⟨0, rfl, by omega⟩
    rw [this]
    simp only [Option.bind_some, Int.toNat_zero, Nat.add_zero, Int.toNat_natCast]
    by_cases he : runE (isP k) s i = s.length
    · rw [if_pos he, he]
    · rw [if_neg he]

end Go.Vm

/- Plain laws of chapter 1: the order of digits. -/
set_option linter.unusedVariables false
set_option linter.unusedSimpArgs false
namespace Go.Vm
open Go

def val : Str → Nat
  | [] => 0
  | c :: s => (c.toNat - 48) * 10 ^ s.length + val s
end Go.Vm

/- Plain laws of chapter 5: versions are read. -/
set_option linter.unusedVariables false
set_option linter.unusedSimpArgs false
namespace Go.Vm
open Go

def partI (c : Int) : Bool := ((((isB c 5 || (c == 46)) || (c == 95)) || (c == 43)) || (c == 126)) || (c == 94)
def partP (c : UInt8) : Bool := partI c.toNat
theorem ref05_Byte_eq (c : Int) : ref05_Byte c = some (partI c) := by unfold ref05_Byte; rw [ref01_Is_eq]; rfl
theorem ref05_run_eq (s : Str) (i : Nat) (hi : i ≤ s.length) (hs : s.length ≤ 4611686018427387904) : ref05_run s i = some (runE partP s i : Int) := by
  unfold ref05_run
  rw [scan_loop (p := partP) (s := s) ?_ ?_ hi]
  · rfl
  · unfold ref05_run_l1
    rw [if_neg (by simp)]
    rfl
  · intro j h
    unfold ref05_run_l1
    rw [if_pos (by simp; omega), idx_nat h, w64_id (by omega) (by omega)]
    simp only [Option.bind_some, ref05_Byte_eq]
    show _ = if partI _ = true then _ else _
    cases partI s[j].toNat <;> rfl
end Go.Vm

/- Plain laws of chapter 5: segments of versions. -/
set_option linter.unusedVariables false
set_option linter.unusedSimpArgs false
namespace Go.Vm
open Go

theorem dropWhile_len {p : UInt8 → Bool} (l : Str) : (l.dropWhile p).length ≤ l.length := (List.dropWhile_suffix p).length_le
def segs : Str → List S_rpm_segment
  | [] => []
  | c :: r =>
    if c = 126 then ⟨0, [c]⟩ :: segs r
    else if c = 94 then ⟨2, [c]⟩ :: segs r
    else if isP 1 c = true then ⟨4, c :: r.takeWhile (isP 1)⟩ :: segs (r.dropWhile (isP 1))
    else if isP 4 c = true then ⟨3, c :: r.takeWhile (isP 4)⟩ :: segs (r.dropWhile (isP 4))
    else segs r
termination_by s => s.length
decreasing_by
  all_goals simp only [List.length_cons]
  · omega
  · omega
  · have := dropWhile_len (p := isP 1) r; omega
  · have := dropWhile_len (p := isP 4) r; omega
  · omega
theorem drop_tw {p : UInt8 → Bool} : ∀ l : Str, l.drop (l.takeWhile p).length = l.dropWhile p
  | [] => rfl
  | c :: l => by
    cases h : p c with
    | true => rw [List.takeWhile_cons_of_pos h, List.dropWhile_cons_of_pos h, List.length_cons, List.drop_succ_cons, drop_tw l]
    | false => rw [List.takeWhile_cons_of_neg (by simp [h]), List.dropWhile_cons_of_neg (by simp [h])]; rfl
theorem take_tw {p : UInt8 → Bool} : ∀ l : Str, l.take (l.takeWhile p).length = l.takeWhile p
  | [] => rfl
  | c :: l => by
    cases h : p c with
    | true => rw [List.takeWhile_cons_of_pos h, List.length_cons, List.take_succ_cons, take_tw l]
    | false => rw [List.takeWhile_cons_of_neg (by simp [h])]; rfl
theorem runE_cons {p : UInt8 → Bool} {s : Str} {i : Nat} {c : UInt8} {r : Str} (h : s.drop i = c :: r) (hp : p c = true) : runE p s i = i + 1 + (r.takeWhile p).length ∧ s.drop (runE p s i) = r.dropWhile p ∧ (s.drop i).take (runE p s i - i) = c :: r.takeWhile p := by
  have e : runE p s i = i + 1 + (r.takeWhile p).length := by
    unfold runE
    rw [h, List.takeWhile_cons_of_pos hp, List.length_cons]
    omega
  refine ⟨e, ?_, ?_⟩
  · rw [e, Nat.add_assoc, ← List.drop_drop, h, Nat.add_comm 1, List.drop_succ_cons]
    exact drop_tw r
  · rw [e, h, show i + 1 + (r.takeWhile p).length - i = (r.takeWhile p).length + 1 by omega, List.take_succ_cons]
    rw [take_tw]
def segAt (c : UInt8) (r : Str) : Option (Int × Str × Str) :=
  if c = 126 then some (0, [c], r)
  else if c = 94 then some (2, [c], r)
  else if isP 1 c = true then some (4, c :: r.takeWhile (isP 1), r.dropWhile (isP 1))
  else if isP 4 c = true then some (3, c :: r.takeWhile (isP 4), r.dropWhile (isP 4))
  else none
theorem segs_cons (c : UInt8) (r : Str) : segs (c :: r) = match segAt c r with
    | some (k, t, q) => ⟨k, t⟩ :: segs q
    | none => segs r := by
  rw [segs]
  unfold segAt
  split
  · rfl
  · split
    · rfl
    · split
      · rfl
      · split <;> rfl
theorem segAt_eq {s : Str} {i : Nat} {c : UInt8} {r : Str} (h : s.drop i = c :: r) (hs : s.length ≤ 4194304) :
    Option.bind (subl s i (w64 ((i : Int) + 1))) (fun x31 => (Option.bind (idx s i) (fun x41 => (if (x41 == 126) = true then some (Sum.inl (0, x31)) else (if (x41 == 94) = true then some (Sum.inl (2, x31)) else Option.bind (scan_Is x41 1) (fun x42 => (if x42 = true then Option.bind (scan_Run s i 1) (fun x43 => Option.bind (subl s i x43) (fun x44 => some (Sum.inl (4, x44)))) else Option.bind (scan_Is x41 4) (fun x45 => (if x45 = true then Option.bind (scan_Run s i 4) (fun x46 => Option.bind (subl s i x46) (fun x47 => some (Sum.inl (3, x47)))) else some (Sum.inr ())))))))) : Option ((Int × Str) ⊕ (Unit)))) = some (match segAt c r with
      | some (k, t, _) => Sum.inl (k, t)
      | none => Sum.inr ()) := by
  have hi : i < s.length := by
    rcases Nat.lt_or_ge i s.length with h' | h'
    · exact h'
    · rw [List.drop_eq_nil_of_le h'] at h; cases h
  have hc : s[i] = c := by
    rw [List.drop_eq_getElem_cons hi] at h
    exact (List.cons.inj h).1
  have hrun : ∀ k, scan_Run s i k = some (runE (isP k) s i : Int) := fun k => by
    rw [scan_Run_eq _ _ _ (by omega)]
    unfold runM
    rw [if_neg (by omega), Int.toNat_natCast]
  have h1 : subl s i (w64 ((i : Int) + 1)) = some [c] := by
    rw [w64_id (by omega) (by omega), show (i : Int) + 1 = ((i + 1 : Nat) : Int) by omega, subl_nat (by omega) (by omega), h, Nat.add_sub_cancel_left]
    rfl
  rw [h1, idx_nat hi, hc]
  simp only [Option.bind_some, scan_Is_eq]
  have e1 : ((c.toNat : Int) == 126) = (c == 126) := u8c_beq c 126
  have e2 : ((c.toNat : Int) == 94) = (c == 94) := u8c_beq c 94
  rw [e1, e2]
  unfold segAt
  simp only [beq_iff_eq]
  by_cases k1 : c = 126
  · rw [if_pos k1, if_pos k1]
  · rw [if_neg k1, if_neg k1]
    by_cases k2 : c = 94
    · rw [if_pos k2, if_pos k2]
    · rw [if_neg k2, if_neg k2]
      by_cases k3 : isP 1 c = true
      · obtain ⟨a1, a2, a3⟩ := runE_cons h k3
        have hle : runE (isP 1) s i ≤ s.length := runE_le (Nat.le_of_lt hi)
        rw [if_pos k3, if_pos (show isB (c.toNat : Int) 1 = true from k3), hrun]
        simp only [Option.bind_some]
        rw [subl_nat (by omega) hle, a3]
        rfl
      · rw [if_neg k3, if_neg (show ¬ isB (c.toNat : Int) 1 = true from k3)]
        by_cases k4 : isP 4 c = true
        · obtain ⟨a1, a2, a3⟩ := runE_cons h k4
          have hle : runE (isP 4) s i ≤ s.length := runE_le (Nat.le_of_lt hi)
          rw [if_pos k4, if_pos (show isB (c.toNat : Int) 4 = true from k4), hrun]
          simp only [Option.bind_some]
          rw [subl_nat (by omega) hle, a3]
          rfl
        · rw [if_neg k4, if_neg (show ¬ isB (c.toNat : Int) 4 = true from k4)]
theorem segAt_len {c : UInt8} {r : Str} {k : Int} {t q : Str} (h : segAt c r = some (k, t, q)) : 1 ≤ t.length ∧ t ++ q = c :: r := by
  unfold segAt at h
  split at h
  · cases h; exact ⟨Nat.le_refl _, rfl⟩
  · split at h
    · cases h; exact ⟨Nat.le_refl _, rfl⟩
    · split at h
      · cases h; exact ⟨by simp, by simp⟩
      · split at h
        · cases h; exact ⟨by simp, by simp⟩
        · cases h
theorem drop_after {s t q : Str} {i : Nat} (h : s.drop i = t ++ q) : s.drop (i + t.length) = q ∧ (i ≤ s.length → i + t.length ≤ s.length) := by
  refine ⟨by rw [← List.drop_drop, h]; simp, fun hi => ?_⟩
  have := congrArg List.length h
  simp only [List.length_drop, List.length_append] at this
  omega
theorem bind_assoc' {α β γ : Type} (a : Option α) (f : α → Option β) (g : β → Option γ) : Option.bind (Option.bind a f) g = Option.bind a fun x => Option.bind (f x) g := by cases a <;> rfl
theorem seg_l1 (s : Str) (hs : s.length ≤ 4194304) : loopC (rpm_Segments_l1 s) (0, []) = some (segs s) := by
  have := loopC_fun (f := rpm_Segments_l1 s) (fun x => ∃ i : Nat, x.1 = i ∧ i ≤ s.length ∧ x.2.length ≤ i) (fun x => s.length - x.1.toNat) (fun x => x.2 ++ segs (s.drop x.1.toNat)) (fun x hx => by
    obtain ⟨z, out⟩ := x
    obtain ⟨i, e, hi, ho⟩ := hx
    simp only at e ho
    subst e
    simp only [Int.toNat_natCast]
    rcases Nat.lt_or_ge i s.length with h | h
    · right
      obtain ⟨c, r, hd⟩ : ∃ c r, s.drop i = c :: r := ⟨_, _, List.drop_eq_getElem_cons h⟩
      unfold rpm_Segments_l1
      simp only []
      rw [if_pos (by simp; omega), ← bind_assoc', segAt_eq hd hs, hd, segs_cons]
      cases hq : segAt c r with
      | none =>
        have h2 := (drop_after (t := [c]) (q := r) hd).1
        refine ⟨(((i + 1 : Nat) : Int), out), ?_, ⟨i + 1, rfl, h, by show out.length ≤ i + 1; omega⟩, by simp only [Int.toNat_natCast]; omega, ?_⟩
        · simp only [Option.bind_some]
          rw [w64_id (by omega) (by omega)]
          rfl
        · simp only [Int.toNat_natCast]
          rw [show s.drop (i + 1) = r from h2]
      | some p =>
        obtain ⟨k, t, q⟩ := p
        obtain ⟨h1, h2⟩ := segAt_len hq
        rw [← h2] at hd
        obtain ⟨h3, h4⟩ := drop_after hd
        have h5 := h4 hi
        refine ⟨(((i + t.length : Nat) : Int), out ++ [⟨k, t⟩]), ?_, ⟨i + t.length, rfl, h5, by simp; omega⟩, by simp only [Int.toNat_natCast]; omega, ?_⟩
        · simp only [Option.bind_some]
          rw [app_ok (by simp; omega) (by simp; omega)]
          simp only [Option.bind_some]
          rw [w64_id (by omega) (by omega)]
          rfl
        · simp only [Int.toNat_natCast]
          rw [h3]
          simp
    · have : i = s.length := by omega
      subst this
      left
      unfold rpm_Segments_l1
      simp only []
      rw [if_neg (by simp)]
      simp [segs]) (x := (0, [])) ⟨0, rfl, Nat.zero_le _, Nat.le_refl _⟩
  simpa using this
def cmpG (x : S_rpm_segment) (k : Int) (t : Str) : Int :=
  if cmpI x.kind k ≠ 0 then cmpI x.kind k else if x.kind = 4 then cmpM x.text t else if x.kind = 3 then Lib.compareBytes x.text t else 0
def stepS (rest : List S_rpm_segment) (n k : Int) (t : Str) : (List S_rpm_segment × Int) ⊕ (List S_rpm_segment × Int) :=
  match rest with
  | [] => .inl ([], n)
  | x :: rs => if cmpG x k t ≠ 0 then .inl (rs, cmpG x k t) else .inr (rs, cmpG x k t)
theorem stepS_eq (rest : List S_rpm_segment) (n k : Int) (t : Str) (hr : ∀ x ∈ rest, x.text.length ≤ 4194304) (ht : t.length ≤ 4194304) :
    ((if ((List.length rest : Int) == 0) = true then some (Sum.inl (rest, n)) else Option.bind (ixl rest 0) (fun x200 => Option.bind (subl rest 1 (List.length rest : Int)) (fun x201 => Option.bind (cmp_Compare_int x200.kind k) (fun x202 => Option.bind ((if ((x202 == 0) && (x200.kind == 4)) = true then Option.bind (scan_Cmp x200.text t) (fun x205 => some x205) else some x202) : Option (Int)) (fun x204 => Option.bind ((if ((x204 == 0) && (x200.kind == 3)) = true then Option.bind (strings_Compare x200.text t) (fun x208 => some x208) else some x204) : Option (Int)) (fun x207 => (if (x207 != 0) = true then some (Sum.inl (x201, x207)) else some (Sum.inr (x201, x207))))))))) : Option ((List S_rpm_segment × Int) ⊕ (List S_rpm_segment × Int))) = some (stepS rest n k t) := by
  cases rest with
  | nil => rfl
  | cons x rs =>
    rw [if_neg (by simp; omega)]
    have h0 : ixl (x :: rs) 0 = some x := ixl_nat (l := x :: rs) (i := 0) (by simp)
    have h1 : subl (x :: rs) 1 ((x :: rs).length : Int) = some rs := by
      have := subl_drop (l := x :: rs) (i := 1) (by simp)
      simpa using this
    rw [h0, h1]
    simp only [Option.bind_some, cmp_Compare_int_eq, strings_Compare_eq]
    rw [scan_Cmp_eq _ _ (by have := hr x List.mem_cons_self; omega) (by omega)]
    unfold stepS cmpG
    simp only [Option.bind_some, Bool.and_eq_true, beq_iff_eq, bne_iff_ne, ne_eq]
    by_cases c1 : cmpI x.kind k = 0
    · by_cases c2 : x.kind = 4
      · have c1' : cmpI 4 k = 0 := by rw [← c2]; exact c1
        by_cases c4 : cmpM x.text t = 0 <;> simp [c1', c2, c4]
      · by_cases c3 : x.kind = 3
        · have c1' : cmpI 3 k = 0 := by rw [← c3]; exact c1
          by_cases c4 : Lib.compareBytes x.text t = 0 <;> simp [c1', c3, c4]
        · simp [c1, c2, c3]
    · simp [c1]
def walkS : List S_rpm_segment → List S_rpm_segment → Int → (List S_rpm_segment × Int) ⊕ (List S_rpm_segment × Int)
  | rest, [], n => .inr (rest, n)
  | rest, y :: ys, n => match stepS rest n y.kind y.text with
    | .inl r => .inl r
    | .inr r => walkS r.1 ys r.2
theorem stepS_mem {rest rs : List S_rpm_segment} {n m k : Int} {t : Str} (h : stepS rest n k t = .inr (rs, m)) : ∀ x ∈ rs, x ∈ rest := by
  unfold stepS at h
  cases rest with
  | nil => cases h
  | cons x xs =>
    simp only at h
    split at h
    · cases h
    · cases h; exact fun y hy => List.mem_cons_of_mem _ hy
theorem seg_l2 (s : Str) (hs : s.length ≤ 4194304) (rest : List S_rpm_segment) (n : Int) (hr : ∀ x ∈ rest, x.text.length ≤ 4194304) : loopC (rpm_Segments_l2 s) (0, rest, n) = some (walkS rest (segs s) n) := by
  have := loopC_fun (f := rpm_Segments_l2 s) (fun x => ∃ i : Nat, x.1 = i ∧ i ≤ s.length ∧ ∀ y ∈ x.2.1, y.text.length ≤ 4194304) (fun x => s.length - x.1.toNat) (fun x => walkS x.2.1 (segs (s.drop x.1.toNat)) x.2.2) (fun x hx => by
    obtain ⟨z, out, m⟩ := x
    obtain ⟨i, e, hi, ho⟩ := hx
    simp only at e ho
    subst e
    simp only [Int.toNat_natCast]
    rcases Nat.lt_or_ge i s.length with h | h
    · obtain ⟨c, r, hd⟩ : ∃ c r, s.drop i = c :: r := ⟨_, _, List.drop_eq_getElem_cons h⟩
      unfold rpm_Segments_l2
      simp only []
      rw [if_pos (by simp; omega), ← bind_assoc', segAt_eq hd hs, hd, segs_cons]
      cases hq : segAt c r with
      | none =>
        right
        have h2 := (drop_after (t := [c]) (q := r) hd).1
        refine ⟨(((i + 1 : Nat) : Int), out, m), ?_, ⟨i + 1, rfl, h, ho⟩, by simp only [Int.toNat_natCast]; omega, ?_⟩
        · simp only [Option.bind_some]
          rw [w64_id (by omega) (by omega)]
          rfl
        · simp only [Int.toNat_natCast]
          rw [show s.drop (i + 1) = r from h2]
      | some p =>
        obtain ⟨k, t, q⟩ := p
        obtain ⟨h1, h2⟩ := segAt_len hq
        rw [← h2] at hd
        obtain ⟨h3, h4⟩ := drop_after hd
        have h5 := h4 hi
        simp only [Option.bind_some]
        rw [stepS_eq out m k t ho (by omega)]
        simp only [Option.bind_some, walkS]
        cases hst : stepS out m k t with
        | inl y => left; rfl
        | inr y =>
          right
          obtain ⟨rs, m2⟩ := y
          refine ⟨(((i + t.length : Nat) : Int), rs, m2), ?_, ⟨i + t.length, rfl, h5, fun y hy => ho y (stepS_mem hst y hy)⟩, by simp only [Int.toNat_natCast]; omega, ?_⟩
          · simp only []
            rw [w64_id (by omega) (by omega)]
            rfl
          · simp only [Int.toNat_natCast]
            rw [h3]
    · have : i = s.length := by omega
      subst this
      left
      unfold rpm_Segments_l2
      simp only []
      rw [if_neg (by simp)]
      simp [segs, walkS]) (x := (0, rest, n)) ⟨0, rfl, Nat.zero_le _, hr⟩
  simpa using this
theorem segs_text : ∀ (s : Str), ∀ x ∈ segs s, x.text.length ≤ s.length := fun s => by
  have key : ∀ n (s : Str), s.length ≤ n → ∀ x ∈ segs s, x.text.length ≤ s.length := by
    intro n
    induction n with
    | zero => intro s h x hx; have : s = [] := List.length_eq_zero_iff.1 (by omega); subst this; simp [segs] at hx
    | succ n ih =>
      intro s h x hx
      cases s with
      | nil => simp [segs] at hx
      | cons c r =>
        rw [segs_cons] at hx
        simp only [List.length_cons] at h ⊢
        cases hq : segAt c r with
        | none => rw [hq] at hx; have := ih r (by omega) x hx; omega
        | some p =>
          obtain ⟨k, t, q⟩ := p
          obtain ⟨h1, h2⟩ := segAt_len hq
          have := congrArg List.length h2
          simp only [List.length_append, List.length_cons] at this
          rw [hq] at hx
          rcases List.mem_cons.1 hx with rfl | hx
          · show t.length ≤ _; omega
          · have := ih q (by omega) x hx; omega
  exact key s.length s (Nat.le_refl _)
theorem segs_count : ∀ (s : Str), (segs s).length ≤ s.length := fun s => by
  have key : ∀ n (s : Str), s.length ≤ n → (segs s).length ≤ s.length := by
    intro n
    induction n with
    | zero => intro s h; have : s = [] := List.length_eq_zero_iff.1 (by omega); subst this; simp [segs]
    | succ n ih =>
      intro s h
      cases s with
      | nil => simp [segs]
      | cons c r =>
        rw [segs_cons]
        simp only [List.length_cons] at h ⊢
        cases hq : segAt c r with
        | none => have := ih r (by omega); simp only; omega
        | some p =>
          obtain ⟨k, t, q⟩ := p
          obtain ⟨h1, h2⟩ := segAt_len hq
          have := congrArg List.length h2
          simp only [List.length_append, List.length_cons] at this
          have := ih q (by omega)
          simp only [List.length_cons]
          omega
  exact key s.length s (Nat.le_refl _)
def outS (r : (List S_rpm_segment × Int) ⊕ (List S_rpm_segment × Int)) : Int := match r with | .inl q => q.2 | .inr q => q.2
def segM (a b : Str) : Int := match walkS (segs a ++ [⟨1, []⟩]) (segs b) 0 with
  | .inl r => r.2
  | .inr r => outS (stepS r.1 r.2 1 [])
theorem walkS_mem : ∀ {ys rest : List S_rpm_segment} {n : Int} {r : List S_rpm_segment × Int}, walkS rest ys n = .inr r → ∀ x ∈ r.1, x ∈ rest
  | [], rest, n, r, h => by simp only [walkS] at h; cases h; exact fun x hx => hx
  | y :: ys, rest, n, r, h => by
    simp only [walkS] at h
    cases hst : stepS rest n y.kind y.text with
    | inl q => rw [hst] at h; cases h
    | inr q => rw [hst] at h; exact fun x hx => stepS_mem (rs := q.1) (m := q.2) hst x (walkS_mem h x hx)
theorem rpm_Segments_eq (a b : Str) (ha : a.length ≤ 4194304) (hb : b.length ≤ 4194304) : rpm_Segments a b = some (segM a b) := by
  have hc := segs_count a
  have ht : ∀ x ∈ segs a ++ [⟨1, []⟩], x.text.length ≤ 4194304 := fun x hx => by
    rcases List.mem_append.1 hx with h | h
    · exact Nat.le_trans (segs_text a x h) ha
    · simp only [List.mem_singleton] at h; subst h; exact Nat.zero_le _
  unfold rpm_Segments rpm_segments segM
  simp only [Option.bind_some]
  rw [seg_l1 a ha]
  simp only [Option.bind_some]
  rw [app_ok (by simp; omega) (by simp; omega)]
  simp only [Option.bind_some]
  rw [seg_l2 b hb _ _ ht]
  simp only [Option.bind_some]
  cases hw : walkS (segs a ++ [⟨1, []⟩]) (segs b) 0 with
  | inl r => rfl
  | inr r =>
    obtain ⟨r1, r2⟩ := r
    simp only []
    rw [stepS_eq r1 r2 1 [] (fun x hx => ht x (walkS_mem hw x hx)) (by simp)]
    simp only [Option.bind_some]
    cases stepS r1 r2 1 [] <;> rfl
end Go.Vm

/- Plain laws: orders. -/
set_option linter.unusedVariables false
set_option linter.unusedSimpArgs false
namespace Go.Vm
open Go
structure Ord3 {α : Type} (c : α → α → Int) : Prop where
  lo : ∀ x y, -1 ≤ c x y
  hi : ∀ x y, c x y ≤ 1
  refl : ∀ x, c x x = 0
  anti : ∀ x y, c y x = -c x y
  trans : ∀ x y z, c x y ≤ 0 → c y z ≤ 0 → c x z ≤ 0
theorem Ord3.eq_left {α : Type} {c : α → α → Int} (h : Ord3 c) {x y : α} (e : c x y = 0) (z : α) : c x z = c y z := by
  have e' : c y x = 0 := by rw [h.anti, e]; rfl
  have h1 := h.lo x z
  have h2 := h.hi x z
  have h3 := h.lo y z
  have h4 := h.hi y z
  have a1 := h.trans x y z (by omega)
  have a2 := h.trans y x z (by omega)
  have b1 := h.trans z x y
  have b2 := h.trans z y x
  rw [h.anti x z, h.anti y z] at b1 b2
  have b1' := b1
  omega
theorem ord_cmpI : Ord3 (fun x y : Int => cmpI x y) where
  lo x y := by unfold cmpI; split <;> (try split) <;> omega
  hi x y := by unfold cmpI; split <;> (try split) <;> omega
  refl x := by unfold cmpI; simp
  anti x y := by simp only [cmpI]; split <;> split <;> (try split) <;> omega
  trans x y z := by simp only [cmpI]; repeat (split <;> try omega)
theorem Ord3.map {α β : Type} {c : β → β → Int} (h : Ord3 c) (f : α → β) : Ord3 (fun x y => c (f x) (f y)) :=
  ⟨fun _ _ => h.lo _ _, fun _ _ => h.hi _ _, fun _ => h.refl _, fun _ _ => h.anti _ _, fun _ _ _ => h.trans _ _ _⟩
def lex2 {α : Type} (c d : α → α → Int) (x y : α) : Int := if c x y ≠ 0 then c x y else d x y
theorem Ord3.lex2 {α : Type} {c d : α → α → Int} (h : Ord3 c) (k : Ord3 d) : Ord3 (lex2 c d) where
  lo x y := by unfold Vm.lex2; split; exact h.lo _ _; exact k.lo _ _
  hi x y := by unfold Vm.lex2; split; exact h.hi _ _; exact k.hi _ _
  refl x := by unfold Vm.lex2; rw [if_neg (by simp [h.refl])]; exact k.refl _
  anti x y := by
    unfold Vm.lex2
    rw [h.anti x y, k.anti x y]
    by_cases e : c x y = 0
    · rw [if_neg (by omega), if_neg (by omega)]
    · rw [if_pos (by omega), if_pos e]
  trans x y z := by
    unfold Vm.lex2
    intro h1 h2
    by_cases e1 : c x y = 0
    · rw [if_neg (by omega)] at h1
      have := h.eq_left e1 z
      rw [this]
      by_cases e2 : c y z = 0
      · rw [if_neg (by omega)] at h2 ⊢
        exact k.trans _ _ _ h1 h2
      · rw [if_pos e2] at h2 ⊢
        exact h2
    · rw [if_pos e1] at h1
      have e1' := h.lo x y
      by_cases e2 : c y z = 0
      · have h3 := h.anti y z
        have := h.eq_left (x := z) (y := y) (by omega) x
        have a1 := h.anti x z
        have a2 := h.anti x y
        rw [if_pos (by omega)]
        omega
      · rw [if_pos e2] at h2
        have h3 := h.trans x y z h1 h2
        by_cases e3 : c x z = 0
        · exfalso
          have := h.eq_left e3 y
          have a1 := h.anti y z
          omega
        · rw [if_pos e3]; exact h3
def lexL {α : Type} (c : α → α → Int) : List α → List α → Int
  | [], [] => 0
  | [], _ :: _ => -1
  | _ :: _, [] => 1
  | x :: xs, y :: ys => if c x y ≠ 0 then c x y else lexL c xs ys
theorem lexL_lo {α : Type} {c : α → α → Int} (h : Ord3 c) : ∀ x y, -1 ≤ lexL c x y
  | [], [] => by simp [lexL]
  | [], _ :: _ => by simp [lexL]
  | _ :: _, [] => by simp [lexL]
  | x :: xs, y :: ys => by simp only [lexL]; split; exact h.lo _ _; exact lexL_lo h xs ys
theorem lexL_hi {α : Type} {c : α → α → Int} (h : Ord3 c) : ∀ x y, lexL c x y ≤ 1
  | [], [] => by simp [lexL]
  | [], _ :: _ => by simp [lexL]
  | _ :: _, [] => by simp [lexL]
  | x :: xs, y :: ys => by simp only [lexL]; split; exact h.hi _ _; exact lexL_hi h xs ys
theorem lexL_refl {α : Type} {c : α → α → Int} (h : Ord3 c) : ∀ x, lexL c x x = 0
  | [] => rfl
  | x :: xs => by simp only [lexL]; rw [if_neg (by simp [h.refl])]; exact lexL_refl h xs
theorem lexL_anti {α : Type} {c : α → α → Int} (h : Ord3 c) : ∀ x y, lexL c y x = -lexL c x y
  | [], [] => by simp [lexL]
  | [], _ :: _ => by simp [lexL]
  | _ :: _, [] => by simp [lexL]
  | x :: xs, y :: ys => by
    simp only [lexL]
    rw [h.anti x y, lexL_anti h xs ys]
    by_cases e : c x y = 0
    · rw [if_neg (by omega), if_neg (by omega)]
    · rw [if_pos (by omega), if_pos e]
theorem lexL_trans {α : Type} {c : α → α → Int} (h : Ord3 c) : ∀ x y z, lexL c x y ≤ 0 → lexL c y z ≤ 0 → lexL c x z ≤ 0
  | [], _, [], _, _ => by simp [lexL]
  | [], _, _ :: _, _, _ => by simp [lexL]
  | _ :: _, [], _, h1, _ => by simp [lexL] at h1
  | _ :: _, _ :: _, [], _, h2 => by simp [lexL] at h2
  | x :: xs, y :: ys, z :: zs, h1, h2 => by
    simp only [lexL] at h1 h2 ⊢
    have ih := lexL_trans h xs ys zs
    by_cases e1 : c x y = 0
    · rw [if_neg (by omega)] at h1
      have := h.eq_left e1 z
      rw [this]
      by_cases e2 : c y z = 0
      · rw [if_neg (by omega)] at h2 ⊢
        exact ih h1 h2
      · rw [if_pos e2] at h2 ⊢
        exact h2
    · rw [if_pos e1] at h1
      have e1' := h.lo x y
      by_cases e2 : c y z = 0
      · have h3 := h.anti y z
        have := h.eq_left (x := z) (y := y) (by omega) x
        have a1 := h.anti x z
        have a2 := h.anti x y
        rw [if_pos (by omega)]
        omega
      · rw [if_pos e2] at h2
        have h3 := h.trans x y z h1 h2
        by_cases e3 : c x z = 0
        · exfalso
          have := h.eq_left e3 y
          have a1 := h.anti y z
          omega
        · rw [if_pos e3]; exact h3
theorem ord_lexL {α : Type} {c : α → α → Int} (h : Ord3 c) : Ord3 (lexL c) := ⟨lexL_lo h, lexL_hi h, lexL_refl h, lexL_anti h, lexL_trans h⟩
theorem bytes_lex : ∀ a b : Str, Lib.compareBytes a b = lexL (fun x y : UInt8 => cmpI x.toNat y.toNat) a b
  | [], [] => rfl
  | [], _ :: _ => rfl
  | _ :: _, [] => rfl
  | x :: a, y :: b => by
    simp only [Lib.compareBytes, lexL, bytes_lex a b, UInt8.lt_iff_toNat_lt]
    unfold cmpI
    by_cases h1 : x.toNat < y.toNat
    · rw [if_pos h1, if_pos (show (x.toNat : Int) < y.toNat by omega)]; simp
    · rw [if_neg h1, if_neg (show ¬ (x.toNat : Int) < y.toNat by omega)]
      by_cases h2 : y.toNat < x.toNat
      · rw [if_pos h2, if_pos (show (y.toNat : Int) < x.toNat by omega)]; simp
      · rw [if_neg h2, if_neg (show ¬ (y.toNat : Int) < x.toNat by omega)]; simp
theorem ord_bytes : Ord3 Lib.compareBytes := by
  have h := ord_lexL (ord_cmpI.map fun x : UInt8 => (x.toNat : Int))
  have e : Lib.compareBytes = lexL (fun x y : UInt8 => cmpI x.toNat y.toNat) := by funext a b; exact bytes_lex a b
  rw [e]
  exact h
theorem ord_cmpM : Ord3 cmpM := by
  have h := (ord_cmpI.map fun x : Str => ((trimM x).length : Int)).lex2 (ord_bytes.map trimM)
  exact h
def k4 (x : S_rpm_segment) : List Str := if x.kind = 4 then [x.text] else []
def k3 (x : S_rpm_segment) : List Str := if x.kind = 3 then [x.text] else []
def segC : S_rpm_segment → S_rpm_segment → Int := lex2 (fun x y => cmpI x.kind y.kind) (lex2 (fun x y => lexL cmpM (k4 x) (k4 y)) (fun x y => lexL Lib.compareBytes (k3 x) (k3 y)))
theorem ord_segC : Ord3 segC := (ord_cmpI.map fun x : S_rpm_segment => x.kind).lex2 (((ord_lexL ord_cmpM).map k4).lex2 ((ord_lexL ord_bytes).map k3))
theorem cmpI_zero {a b : Int} (h : cmpI a b = 0) : a = b := by
  unfold cmpI at h
  split at h
  · omega
  · split at h <;> omega
theorem cmpG_eq (x y : S_rpm_segment) : cmpG x y.kind y.text = segC x y := by
  simp only [cmpG, segC, lex2]
  by_cases h : cmpI x.kind y.kind = 0
  · have e := cmpI_zero h
    have hn : ¬ (cmpI x.kind y.kind ≠ 0) := fun q => q h
    simp only [if_neg hn, k4, k3, ← e]
    by_cases c4 : x.kind = 4
    · simp only [c4, if_true, lexL]
      by_cases z : cmpM x.text y.text = 0
      · simp [z, lexL]
      · simp [z]
    · by_cases c3 : x.kind = 3
      · simp only [c3, if_true, lexL]
        by_cases z : Lib.compareBytes x.text y.text = 0
        · simp [z, lexL]
        · simp [z, lexL]
      · simp [c4, c3, lexL]
  · rw [if_pos h, if_pos h]
end Go.Vm

/- Plain laws of chapter 5: segments stand in an order. -/
set_option linter.unusedVariables false
set_option linter.unusedSimpArgs false
namespace Go.Vm
open Go
def ovr : S_rpm_segment := ⟨1, []⟩
theorem segAt_kind {c : UInt8} {r : Str} {k : Int} {t q : Str} (h : segAt c r = some (k, t, q)) : k ≠ 1 := by
  unfold segAt at h
  split at h
  · cases h; decide
  · split at h
    · cases h; decide
    · split at h
      · cases h; decide
      · split at h
        · cases h; decide
        · cases h
theorem segs_kind : ∀ (s : Str), ∀ x ∈ segs s, x.kind ≠ 1 := fun s => by
  have key : ∀ n (s : Str), s.length ≤ n → ∀ x ∈ segs s, x.kind ≠ 1 := by
    intro n
    induction n with
    | zero => intro s h x hx; have : s = [] := List.length_eq_zero_iff.1 (by omega); subst this; simp [segs] at hx
    | succ n ih =>
      intro s h x hx
      cases s with
      | nil => simp [segs] at hx
      | cons c r =>
        rw [segs_cons] at hx
        simp only [List.length_cons] at h
        cases hq : segAt c r with
        | none => rw [hq] at hx; exact ih r (by omega) x hx
        | some p =>
          obtain ⟨k, t, q⟩ := p
          obtain ⟨h1, h2⟩ := segAt_len hq
          have := congrArg List.length h2
          simp only [List.length_append, List.length_cons] at this
          rw [hq] at hx
          rcases List.mem_cons.1 hx with rfl | hx
          · exact segAt_kind hq
          · exact ih q (by omega) x hx
  exact key s.length s (Nat.le_refl _)
theorem segC_kind {x y : S_rpm_segment} (h : x.kind ≠ y.kind) : segC x y ≠ 0 := by
  unfold segC lex2
  simp only []
  have : cmpI x.kind y.kind ≠ 0 := fun e => h (cmpI_zero e)
  rw [if_pos this]
  exact this
theorem walk_lex : ∀ (A B : List S_rpm_segment), (∀ x ∈ A, x.kind ≠ 1) → (∀ x ∈ B, x.kind ≠ 1) → (match walkS (A ++ [ovr]) B 0 with
    | .inl r => r.2
    | .inr r => outS (stepS r.1 r.2 1 [])) = lexL segC (A ++ [ovr]) (B ++ [ovr])
  | [], [], _, _ => by
    have := cmpG_eq ovr ovr
    simp only [List.nil_append, walkS, lexL, stepS]
    rw [show cmpG ovr 1 [] = segC ovr ovr from this, ord_segC.refl]
    rfl
  | [], y :: B, _, hB => by
    have h := segC_kind (x := ovr) (y := y) (fun e => hB y List.mem_cons_self e.symm)
    simp only [List.nil_append, List.cons_append, walkS, stepS, cmpG_eq, lexL, if_pos h]
  | x :: A, [], hA, _ => by
    have h := segC_kind (x := x) (y := ovr) (hA x List.mem_cons_self)
    have e : cmpG x 1 [] = segC x ovr := cmpG_eq x ovr
    simp only [List.nil_append, List.cons_append, walkS, stepS, e, lexL, if_pos h, outS]
  | x :: A, y :: B, hA, hB => by
    have ih := walk_lex A B (fun z hz => hA z (List.mem_cons_of_mem _ hz)) (fun z hz => hB z (List.mem_cons_of_mem _ hz))
    simp only [List.cons_append, walkS, stepS, cmpG_eq, lexL]
    by_cases h : segC x y = 0
    · rw [if_neg (fun q => q h), if_neg (fun q => q h), h]
      exact ih
    · rw [if_pos h, if_pos h]
theorem segM_lex (a b : Str) : segM a b = lexL segC (segs a ++ [ovr]) (segs b ++ [ovr]) := walk_lex _ _ (segs_kind a) (segs_kind b)
end Go.Vm

/- Plain laws of chapter 5: what is read, written and fits. -/
set_option linter.unusedVariables false
set_option linter.unusedSimpArgs false
namespace Go.Vm
open Go
def segsP (s : Str) : Prop := s ≠ [] ∧ ∀ c ∈ s, partP c = true
instance (s : Str) : Decidable (segsP s) := inferInstanceAs (Decidable (_ ∧ _))
def rawM (v : S_api_Evr) : Str := (if v.Epoch = [48] then v.Ver else v.Epoch ++ 58 :: v.Ver) ++ (if v.HasRel = true then 45 :: v.Rel else [])
def fitM (v : S_api_Evr) : Prop := v.Epoch ≠ [] ∧ (∀ c ∈ v.Epoch, isP 1 c = true) ∧ trimM v.Epoch = v.Epoch ∧ segsP v.Ver ∧ (if v.HasRel = true then segsP v.Rel else v.Rel = []) ∧ (rawM v).length ≤ 64
instance (v : S_api_Evr) : Decidable (fitM v) := inferInstanceAs (Decidable (_ ∧ _ ∧ _ ∧ _ ∧ _ ∧ _))

end Go.Vm

/- Plain laws of chapter 5: the document's segments. -/
set_option linter.unusedVariables false
set_option linter.unusedSimpArgs false
namespace Go.Vm
open Go
theorem segC_ne {k l : Int} {t u : Str} (h : k ≠ l) : segC ⟨k, t⟩ ⟨l, u⟩ = if k < l then -1 else 1 := by
  have e : cmpI k l = if k < l then -1 else 1 := by
    unfold cmpI
    split
    · rfl
    · rw [if_pos (by omega)]
  unfold segC lex2
  simp only []
  rw [e, if_pos (by split <;> decide)]
theorem LL_cons {x y : S_rpm_segment} {X Y : List S_rpm_segment} : lexL segC (x :: X) (y :: Y) = if segC x y ≠ 0 then segC x y else lexL segC X Y := rfl
theorem LL_ne {k l : Int} {t u : Str} {X Y : List S_rpm_segment} (h : k ≠ l) : lexL segC (⟨k, t⟩ :: X) (⟨l, u⟩ :: Y) = if k < l then -1 else 1 := by
  rw [LL_cons, segC_ne h]
  split <;> rfl
end Go.Vm

/- Plain laws of chapter 5: versions of RPM. -/
set_option linter.unusedVariables false
set_option linter.unusedSimpArgs false
namespace Go.Vm
open Go
def bigE (v : S_api_Evr) : Prop := v.Epoch.length ≤ 1048576 ∧ v.Ver.length ≤ 1048576 ∧ v.Rel.length ≤ 1048576
theorem ref05_raw_eq (v : S_api_Evr) (h : bigE v) : ref05_raw v = some (rawM v) := by
  obtain ⟨h1, h2, h3⟩ := h
  unfold ref05_raw rawM
  by_cases he : v.Epoch = [48]
  · cases hh : v.HasRel with
    | true => simp [he, cat_ok, show v.Ver.length + 1 ≤ 9223372036854775807 by omega, show v.Ver.length + 1 + v.Rel.length ≤ 9223372036854775807 by omega]
    | false => simp [he]
  · cases hh : v.HasRel with
    | true => simp [he, cat_ok, show v.Epoch.length + 1 ≤ 9223372036854775807 by omega, show v.Epoch.length + 1 + v.Ver.length ≤ 9223372036854775807 by omega, show v.Epoch.length + (v.Ver.length + 1) + 1 ≤ 9223372036854775807 by omega, show v.Epoch.length + (v.Ver.length + (1 + 1)) + v.Rel.length ≤ 9223372036854775807 by omega, show v.Epoch.length + (v.Ver.length + 1 + 1) + v.Rel.length ≤ 9223372036854775807 by omega]
    | false => simp [he, cat_ok, show v.Epoch.length + 1 ≤ 9223372036854775807 by omega, show v.Epoch.length + 1 + v.Ver.length ≤ 9223372036854775807 by omega]
theorem run_all_iff {p : UInt8 → Bool} : ∀ {s : Str}, runE p s 0 = s.length ↔ ∀ c ∈ s, p c = true := by
  intro s
  unfold runE
  simp only [List.drop_zero, Nat.zero_add]
  induction s with
  | nil => simp
  | cons c s ih =>
    cases hc : p c with
    | true => rw [List.takeWhile_cons_of_pos hc]; simp [hc, ih]
    | false => rw [List.takeWhile_cons_of_neg (by simp [hc])]; simp [hc]
theorem ref05_segments_eq (s : Str) (hs : s.length ≤ 1048576) : ref05_segments s = some (decide (segsP s)) := by
  unfold ref05_segments
  have h1 := ref05_run_eq s 0 (Nat.zero_le _) (by omega)
  rw [show ((0 : Nat) : Int) = 0 from rfl] at h1
  rw [h1]
  by_cases h : s = []
  · subst h; simp [segsP]
  · have e : ((runE partP s 0 : Int) == (s.length : Int)) = decide (segsP s) := by
      rw [Bool.eq_iff_iff, decide_eq_true_iff, beq_iff_eq]
      unfold segsP
      rw [← run_all_iff]
      constructor
      · intro q; exact ⟨h, by omega⟩
      · intro q; have := q.2; omega
    simp [h, e]
theorem ref05_Fit_eq (v : S_api_Evr) (h : bigE v) : ref05_Fit v = some (decide (fitM v)) := by
  have hb := h
  obtain ⟨h1, h2, h3⟩ := h
  unfold ref05_Fit
  have e1 : ref01_Run v.Epoch 0 1 = some (runE (isP 1) v.Epoch 0 : Int) := by
    rw [ref01_Run_eq _ _ _ (by omega)]
    unfold runM
    rw [if_neg (by omega)]
    rfl
  rw [e1, ref01_Trim_eq _ (by omega), ref05_segments_eq _ h2, ref05_segments_eq _ h3, ref05_raw_eq v hb]
  simp only [Option.bind_some]
  have e2 : ((runE (isP 1) v.Epoch 0 : Int) != (v.Epoch.length : Int)) = !decide (∀ c ∈ v.Epoch, isP 1 c = true) := by
    rw [bne, Bool.not_inj_iff, Bool.eq_iff_iff, decide_eq_true_iff, beq_iff_eq, ← run_all_iff]
    omega
  rw [e2]
  have e3 : decide (((rawM v).length : Int) > 64) = !decide ((rawM v).length ≤ 64) := by
    rw [Bool.eq_iff_iff]; simp; omega
  rw [e3]
  unfold fitM
  by_cases g1 : v.Epoch = []
  · simp [g1]
  · by_cases g2 : ∀ c ∈ v.Epoch, isP 1 c = true
    · rw [decide_eq_true g2]
      by_cases g3 : trimM v.Epoch = v.Epoch
      · by_cases g4 : segsP v.Ver
        · by_cases g5 : (rawM v).length ≤ 64
          · rw [decide_eq_true g5]
            by_cases hh : v.HasRel = true
            · simp [g1, g3, g4, g5, hh]
              by_cases g6 : segsP v.Rel <;> simp [g6]
              exact g2
            · simp [g1, g3, g4, g5, hh]
              by_cases g6 : v.Rel = [] <;> simp [g6]
              exact g2
          · rw [decide_eq_false g5]
            simp [g1, g3, g4]
            intros
            omega
        · simp [g1, g3, g4]
      · simp [g1, g3]
    · rw [decide_eq_false g2]
      simp [g1]
      intro q
      exact absurd q g2
theorem lexL_pre {α : Type} {c : α → α → Int} (h : Ord3 c) (Y Z : List α) : ∀ X, lexL c (X ++ Y) (X ++ Z) = lexL c Y Z
  | [] => rfl
  | x :: X => by
    simp only [List.cons_append, lexL, h.refl]
    exact lexL_pre h Y Z X
theorem tw_stop {p : UInt8 → Bool} {c : UInt8} (hc : p c = false) (r : Str) : ∀ s : Str, (s ++ c :: r).takeWhile p = s.takeWhile p ∧ (s ++ c :: r).dropWhile p = s.dropWhile p ++ c :: r
  | [] => by simp [hc]
  | x :: s => by
    have ih := tw_stop hc r s
    cases hx : p x with
    | true => rw [List.cons_append, List.takeWhile_cons_of_pos hx, List.dropWhile_cons_of_pos hx, List.takeWhile_cons_of_pos hx, List.dropWhile_cons_of_pos hx, ih.1, ih.2]; exact ⟨rfl, rfl⟩
    | false => rw [List.cons_append, List.takeWhile_cons_of_neg (by simp [hx]), List.dropWhile_cons_of_neg (by simp [hx]), List.takeWhile_cons_of_neg (by simp [hx]), List.dropWhile_cons_of_neg (by simp [hx])]; exact ⟨rfl, rfl⟩
theorem segAt_app {c : UInt8} (h1 : isP 1 c = false) (h4 : isP 4 c = false) (x : UInt8) (s r : Str) : segAt x (s ++ c :: r) = (segAt x s).map fun p => (p.1, p.2.1, p.2.2 ++ c :: r) := by
  unfold segAt
  obtain ⟨a1, a2⟩ := tw_stop h1 r s
  obtain ⟨b1, b2⟩ := tw_stop h4 r s
  rw [a1, a2, b1, b2]
  split
  · rfl
  · split
    · rfl
    · split
      · rfl
      · split <;> rfl
theorem segs_app {c : UInt8} (h1 : isP 1 c = false) (h4 : isP 4 c = false) (r : Str) (s : Str) : segs (s ++ c :: r) = segs s ++ segs (c :: r) := by
  have key : ∀ n (s : Str), s.length ≤ n → segs (s ++ c :: r) = segs s ++ segs (c :: r) := by
    intro n
    induction n with
    | zero => intro s h; have : s = [] := List.length_eq_zero_iff.1 (by omega); subst this; simp [segs.eq_1]
    | succ n ih =>
      intro s h
      cases s with
      | nil => simp [segs.eq_1]
      | cons x s =>
        simp only [List.length_cons] at h
        rw [List.cons_append, segs_cons, segAt_app h1 h4, segs_cons x s]
        cases hq : segAt x s with
        | none => exact ih s (by omega)
        | some p =>
          obtain ⟨k, t, q⟩ := p
          obtain ⟨g1, g2⟩ := segAt_len hq
          have := congrArg List.length g2
          simp only [List.length_append, List.length_cons] at this
          simp only [Option.map_some, List.cons_append]
          rw [ih q (by omega)]
  exact key s.length s (Nat.le_refl _)
theorem signs1 (s r : Str) : segM (s ++ 126 :: r) s = -1 := by
  rw [segM_lex, segs_app (by decide) (by decide), List.append_assoc, lexL_pre ord_segC, segs_cons]
  show lexL segC (⟨0, [126]⟩ :: (segs r ++ [ovr])) [⟨1, []⟩] = -1
  rw [LL_ne (by decide)]; decide
theorem signs2 (s r : Str) : segM (s ++ 94 :: r) s = 1 := by
  rw [segM_lex, segs_app (by decide) (by decide), List.append_assoc, lexL_pre ord_segC, segs_cons]
  show lexL segC (⟨2, [94]⟩ :: (segs r ++ [ovr])) [⟨1, []⟩] = 1
  rw [LL_ne (by decide)]; decide
theorem signs3 (s r : Str) : segM (s ++ 94 :: r) (s ++ [46, 49]) = -1 := by
  have e : segs [46, 49] = [⟨4, [49]⟩] := by
    rw [segs_cons, show segAt 46 [49] = none by decide]
    show segs [49] = _
    rw [segs_cons, show segAt 49 [] = some (4, [49], []) by decide]
    simp [segs.eq_1]
  rw [segM_lex, segs_app (by decide) (by decide), segs_app (c := 46) (by decide) (by decide), List.append_assoc, List.append_assoc, lexL_pre ord_segC, segs_cons, e]
  show lexL segC (⟨2, [94]⟩ :: (segs r ++ [ovr])) (⟨4, [49]⟩ :: [ovr]) = -1
  rw [LL_ne (by decide)]; decide
theorem RpmSigns_true (s more : Str) (hs' : s.length + 1 ≤ 1048576) (hm' : more.length + 1 ≤ 1048576) : law05_RpmSigns s more = some true := by
  have hs : s.length ≤ 1048576 := by omega
  have hm : more.length ≤ 1048576 := by omega
  unfold law05_RpmSigns
  have b1 : bigE ⟨[48], s, [], false⟩ := ⟨by simp, hs, by simp⟩
  have b2 : bigE ⟨[48], more, [], false⟩ := ⟨by simp, hm, by simp⟩
  rw [ref05_Fit_eq _ b1, ref05_Fit_eq _ b2]
  simp only [Option.bind_some]
  have k : ∀ c : UInt8, Option.bind (cat s [c]) (fun x9 => cat x9 more) = some (s ++ c :: more) := fun c => by
    rw [cat_ok (by simp; omega)]
    simp only [Option.bind_some]
    rw [cat_ok (by simp; omega)]
    simp
  have c1 : cat s [126] = some (s ++ [126]) := cat_ok (by simp; omega)
  have c2 : cat s [94] = some (s ++ [94]) := cat_ok (by simp; omega)
  have c3 : cat s [46, 49] = some (s ++ [46, 49]) := cat_ok (by simp; omega)
  have d1 : cat (s ++ [126]) more = some (s ++ 126 :: more) := by rw [cat_ok (by simp; omega)]; simp
  have d2 : cat (s ++ [94]) more = some (s ++ 94 :: more) := by rw [cat_ok (by simp; omega)]; simp
  have e1 := rpm_Segments_eq (s ++ 126 :: more) s (by simp; omega) (by omega)
  have e2 := rpm_Segments_eq (s ++ 94 :: more) s (by simp; omega) (by omega)
  have e3 := rpm_Segments_eq (s ++ 94 :: more) (s ++ [46, 49]) (by simp; omega) (by simp; omega)
  rw [signs1] at e1
  rw [signs2] at e2
  rw [signs3] at e3
  simp only [c1, c2, c3, d1, d2, e1, e2, e3, Option.bind_some, law05_awake]
  by_cases g1 : fitM ⟨[48], s, [], false⟩ <;> by_cases g2 : fitM ⟨[48], more, [], false⟩ <;> by_cases g3 : more = [] <;> by_cases g4 : 30 < s.length <;> by_cases g5 : 30 < more.length <;> simp [g1, g2, g3, g4, g5] <;> (repeat' split) <;> rfl

end Go.Vm

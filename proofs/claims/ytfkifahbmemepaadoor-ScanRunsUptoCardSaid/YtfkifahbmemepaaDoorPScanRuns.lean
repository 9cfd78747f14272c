/- The law ScanRuns is true for every input whose bulk is at most 1048576 values and letters; each argument reads behind the call as it read before. -/
import Derived.WalkKit
import Derived.ProofKit
import Derived.OpenShut
import Derived.Below
import Derived.ChangeSame
import Derived.Deep.DeepHandedRow
import Derived.Carry
import Derived.Test.YtfkifahbmemepaaDoorDScanRuns
import Derived.Shelf.Small.Strs
import Derived.Deep.Strs
import Derived.Test.YtfkifahbmemepaaDoorCScanRuns
import Derived.Test.YtfkifahbmemepaaDoorG0ScanRuns
import Derived.Test.YtfkifahbmemepaaDoorG1ScanRuns
import Derived.Test.YtfkifahbmemepaaDoorCards
import Derived.Test.YtfkifahbmemepaaDoorTie
import Derived.ChangeMaps5
/- What a row asks behind a call that has left all that was there as it was. -/
namespace Go.Vm
open Go Go.RowKit Go.WideShapes Go.ChangeShapes
theorem row_below {H : Type} {enc : TypeId × Value → H} {P : Program} {f : Func} {s : ChangeSpec} {apart fresh handsOn again : Bool} {W W' : World} {args : Array Value} {v : Value} {ds gs : List (DataW H)} {before pa pv : List MemPlace}
    (hW : DataW.Whole enc P f.params.toList s.vars apart W args.toList ds gs before) (hb : Below W.heap.size W W') (hp : before = pa ++ pv)
    (hr : ∀ (b : Nat) (sp : Nat → Bool) (hd : Bool), DataW.TrodAll enc P W' b sp hd f.resultTypes.toList (v.resultList f.resultTypes.size) (s.fn H (ds ++ gs)).results [])
    (ha : ∀ sp : Nat → Bool, (∀ p ∈ before, sp p.block = true) → DataW.TrodAll enc P W' 0 sp true f.params.toList args.toList (s.fn H (ds ++ gs)).args pa)
    (hv : ∀ sp : Nat → Bool, (∀ p ∈ before, sp p.block = true) → DataW.TrodVars enc P W' sp s.vars (s.fn H (ds ++ gs)).vars pv)
    (ho : ∀ (j : Nat) (t : TypeId) (r : Value), f.resultTypes[j]? = some t → (v.resultList f.resultTypes.size)[j]? = some r → Value.okWide P W' .any 0 t r) :
    s.post enc P f apart fresh handsOn again W args v W' := by
  have small : ∀ p ∈ before, decide (p.block < W.heap.size) = true := fun p h => decide_eq_true (hW.lt p h)
  refine ⟨ds, gs, before, [], pa, pv, hW, hr _ _ _, ha (fun b => decide (b < W.heap.size)) small, hv _ small, hb.frame _, fun _ => ⟨ho, ?_⟩⟩
  obtain ⟨_, _, _, _, _, hz, hn⟩ := hW
  refine ⟨_, _, ([] ++ pa) ++ pv, ⟨[] ++ pa, pv, trodAll_append (ha _ fun _ _ => rfl) (hr _ _ _), hv _ fun _ _ => rfl, rfl, fun b off hm => ?_, fun h => ?_⟩, ?_⟩
  · have hm' : MemPlace.cell b off ∈ before := by rw [hp]; simpa using hm
    rw [hb.frozen (of_decide_eq_true (small _ hm'))]
    exact hz b off hm'
  · have := hn h
    rw [hp] at this
    simpa using this
  · intro x hx _
    rw [hp]
    simpa using hx
end Go.Vm

set_option maxRecDepth 100000
namespace Go.Proofs
open Go.Shelf
def Tryd.renCf : Nat → Nat
  | 213 => 109
  | 265 => 129
  | n => n
def Tryd.renIf : Nat → Nat
  | 137 => 111
  | 217 => 130
  | 266 => 138
  | n => n
def Tryd.renC : Ren := ⟨Tryd.renCf, fun n => n, fun n => n⟩
def Tryd.renI : Ren := ⟨Tryd.renIf, fun n => n, fun n => n⟩
theorem Tryd.lays213 : Lays.n213 Tryd.prog Tryd.renC where
  mixed := by kernel_rfl
  f213 := by kernel_rfl
  f265 := by kernel_rfl
  t3 := by kernel_rfl
  a3 := Tryd.isAgg3
  z3 := Tryd.sizeOf3
  v3 := Tryd.zeroValue3
  t9 := by kernel_rfl
  a9 := Tryd.isAgg9
  z9 := Tryd.sizeOf9
  v9 := Tryd.zeroValue9
theorem Tryd.lays137 : Lays.n137 Tryd.prog Tryd.renI where
  mixed := by kernel_rfl
  f137 := by kernel_rfl
  f217 := by kernel_rfl
  f266 := by kernel_rfl
  t3 := by kernel_rfl
  a3 := Tryd.isAgg3
  z3 := Tryd.sizeOf3
  v3 := Tryd.zeroValue3
  t5 := by kernel_rfl
  a5 := Tryd.isAgg5
  z5 := Tryd.sizeOf5
  v5 := Tryd.zeroValue5
  t9 := by kernel_rfl
  a9 := Tryd.isAgg9
  z9 := Tryd.sizeOf9
  v9 := Tryd.zeroValue9
end Go.Proofs
namespace Go.Vm
open Go
def funcOk (fn : Func) : Bool := !(fn.name == "runtime.NumGoroutine") && (match fn.body with | some c => codeOk c | none => true)
theorem funcsOk : E.P.funcs.toList.all funcOk = true := by kernel_rfl
theorem cmp_calls (a b : ByteArray) (w : World) : Calls E.P 109 #[.string a, .string b] w fun e w' => e = .returned (.int .i64 (Lib.compareBytes a.data.toList b.data.toList)) ∧ w' = w := Go.Proofs.Any.bytealg_CompareString Go.Proofs.Tryd.lays213 a b w
theorem ixb_calls (a : ByteArray) (c : Int) (w : World) : Calls E.P 111 #[.string a, .int .u8 c] w fun e w' => e = .returned (.int .i64 (Lib.indexByte a.data.toList c.toNat.toUInt8)) ∧ w' = w := Go.Proofs.Any.strings_IndexByte Go.Proofs.Tryd.lays137 a c w
theorem post_same {K : Cx} {base : Nat} {h : AHeap} (H : HRel K base h) {v : AV} {cv : Value} (hv : VRel K v cv) : CallPost K base h K.c v (.returned cv) K.w := ⟨K, cv, rfl, rfl, Cx.Step.refl K, H, rfl, hv⟩
theorem envOk : EnvOk E := by
  have key : ∀ (f : FuncId) (fn : Func), E.P.funcs[f]? = some fn → funcOk fn = true := fun f fn hf => by
    have := List.all_eq_true.1 funcsOk fn (by
      obtain ⟨h1, h2⟩ := Array.getElem?_eq_some_iff.1 hf
      rw [← h2]
      simp)
    exact this
  refine ⟨fun f fn hf => ?_, fun f fn c hf hc => ?_, fun g p hp => ?_⟩
  · have := key f fn hf
    unfold funcOk at this
    rw [Bool.and_eq_true] at this
    simpa using this.1
  · have := key f fn hf
    unfold funcOk at this
    rw [Bool.and_eq_true, hc] at this
    exact this.2
  · simp only [E] at hp
    split at hp
    · rename_i hg
      subst hg
      cases hp
      refine ⟨⟨Go.Proofs.Tryd.f109, by kernel_rfl, by kernel_rfl⟩, fun args v hv K base h cargs H hr N => ?_⟩
      unfold cmpP at hv
      split at hv
      · rename_i a b
        cases hv
        obtain ⟨cl, rfl⟩ : ∃ l : List Value, cargs = l.toArray := ⟨cargs.toList, by simp⟩
        match cl, hr with
        | [x, y], hr =>
          simp only [VRels, VRel] at hr
          obtain ⟨rfl, rfl, _⟩ := hr
          refine callsIn_wide.2 ((cmp_calls a b K.w).mono ?_)
          rintro e w' ⟨rfl, rfl⟩
          exact post_same H (by simp [VRel])
        | [], hr => simp [VRels] at hr
        | [_], hr => simp [VRels] at hr
        | _ :: _ :: _ :: _, hr => simp [VRels] at hr
      · cases hv
    · split at hp
      · rename_i hg
        subst hg
        cases hp
        refine ⟨⟨Go.Proofs.Tryd.f111, by kernel_rfl, by kernel_rfl⟩, fun args v hv K base h cargs H hr N => ?_⟩
        unfold ixbP at hv
        split at hv
        · rename_i a c
          cases hv
          obtain ⟨cl, rfl⟩ : ∃ l : List Value, cargs = l.toArray := ⟨cargs.toList, by simp⟩
          match cl, hr with
          | [x, y], hr =>
            simp only [VRels, VRel] at hr
            obtain ⟨rfl, rfl, _⟩ := hr
            refine callsIn_wide.2 ((ixb_calls a c K.w).mono ?_)
            rintro e w' ⟨rfl, rfl⟩
            exact post_same H (by simp [VRel])
          | [], hr => simp [VRels] at hr
          | [_], hr => simp [VRels] at hr
          | _ :: _ :: _ :: _, hr => simp [VRels] at hr
        · cases hv
      · cases hp

/-- A law that is true, at its arguments as they lie. -/
theorem law_true {g : FuncId} {vs vs' : List AV} {m : Option Bool} (hc : Ct E g vs m (fun r => bv r)) (hm : m = some true) (hp : E.prim g = none) (hv : All2 (VLe Rn.nil) vs vs') (hs : snapL (snap AHeap.nil depth) vs' = some (vs', false)) (w : World) {cargs : Array Value}
    (hr : VRels { w := w, ι := fun _ => (0, 0, 0), L := fun _ => False, X := fun _ => False, c := 0 } vs' cargs.toList) :
    Calls E.P g cargs w fun e w' => e = .returned (.bool true) ∧ w'.os = w.os ∧ w'.tape = w.tape ∧ w'.output = w.output ∧ w.heap.size ≤ w'.heap.size ∧ (∀ b, b < w.heap.size → w'.heap[b]? = w.heap[b]?) := by
  obtain ⟨u, h1, h2⟩ := hc true hm vs' hv AHeap.nil 0
  have hu := h2.s_inv
  subst hu
  unfold callFn at h1
  rw [hp] at h1
  have hpf : E.pf g = true := rfl
  simp only [hpf, if_true, hs] at h1
  cases hcl : (rinf E).call g vs' AHeap.nil 0 with
  | none => rw [hcl] at h1; cases h1
  | some q =>
    obtain ⟨v, h3, n3⟩ := q
    rw [hcl] at h1
    simp only at h1
    cases hsn : snap h3 depth v with
    | none => rw [hsn] at h1; cases h1
    | some q2 =>
      obtain ⟨v', b2⟩ := q2
      rw [hsn] at h1
      simp only [Bool.false_and, Bool.false_eq_true, if_false, Option.some.injEq, Prod.mk.injEq] at h1
      obtain ⟨k, hk⟩ := rinf_call.1 hcl
      have hpc : pcall E k g vs' = some (bv true) := by
        unfold pcall
        rw [hk]
        simp only [hsn, h1.1]
      refine (pcall_sound envOk (fun r => drawOk_all r) hpc w hr).mono ?_
      rintro e w' ⟨cv, h4, h5, h6, h7, h8, h9, h10⟩
      simp only [VRel] at h10
      subst h10
      exact ⟨h4, h5, h6, h7, h8, h9⟩
end Go.Vm

/- What a call reads, as Lean data: an argument's reading by shape gives a value of the evaluator. -/
set_option linter.unusedVariables false
set_option linter.unusedSimpArgs false
namespace Go.Vm
open Go

/-- A measure of what is read. -/
structure BulkOk {H : Type} (f : DataW H → Nat) (g : List (DataW H) → Nat) : Prop where
  nil : g [] = 0
  cons : ∀ d r, g (d :: r) = f d + g r
  pos : ∀ d, 1 ≤ f d
  str : ∀ l, f (.lit (.string l)) = l.length + 1
  slice : ∀ e s, f (.slice e s) = g e + g s + 1
  agg : ∀ p, f (.agg p) = g p + 1
theorem BulkOk.sum {H : Type} {f : DataW H → Nat} {g : List (DataW H) → Nat} (B : BulkOk f g) : ∀ l, g l = (l.map f).sum
  | [] => B.nil
  | d :: r => by rw [B.cons, B.sum r]; rfl
def Kw (W : World) : Cx := { w := W, ι := fun _ => (0, 0, 0), L := fun _ => False, X := fun _ => False, c := 0 }
section
variable {H : Type} {P : Program} {f : DataW H → Nat} {g : List (DataW H) → Nat}
structure Rd (P : Program) (f : DataW H → Nat) (t : TypeId) (n : Nat) {α : Type} (en : α → List AV) (ok : α → Prop) (μ : α → Nat) : Prop where
  read : ∀ {enc : TypeId × Value → H} {W : World} {fuel : Nat} {cs : List Value} {d : DataW H} {pl : List MemPlace}, DataW.trod enc P W 0 (fun _ => true) true fuel t cs = some (d, pl) →
    ∃ x, VRels (Kw W) (en x) cs ∧ ok x ∧ μ x ≤ f d ∧ cs.length = n ∧ (∀ v ∈ cs, v.oneCell' = true)
  self : ∀ x, ∀ c ∈ en x, VLe Rn.nil c c
theorem vless_refl : ∀ {rows : List (List AV)}, (∀ r ∈ rows, ∀ c ∈ r, VLe Rn.nil c c) → VLess Rn.nil rows rows
  | [], _ => by simp [VLess]
  | r :: rows, h => by
    simp only [VLess]
    exact ⟨r, rows, rfl, VLes_iff.2 (All2.refl' _ (h r List.mem_cons_self)), vless_refl fun s hs => h s (List.mem_cons_of_mem _ hs)⟩
theorem fsl_refl {sz : Nat} {rows : List (List AV)} (h : ∀ r ∈ rows, ∀ c ∈ r, VLe Rn.nil c c) : VLe Rn.nil (.fsl sz rows) (.fsl sz rows) := by
  simp only [VLe]
  exact .inl ⟨rows, rfl, vless_refl h⟩
theorem agg_refl {cs : List AV} (h : ∀ c ∈ cs, VLe Rn.nil c c) : VLe Rn.nil (.agg cs) (.agg cs) := by
  simp only [VLe]
  exact ⟨cs, rfl, VLes_iff.2 (All2.refl' _ h)⟩
theorem Rd.str (B : BulkOk f g) {t : TypeId} (ht : P.underlying t = some .string) : Rd P f t 1 (fun x : Str => [bs x]) (fun _ => True) (fun x => x.length + 1) where
  self _ c hc := by simp only [List.mem_singleton] at hc; subst hc; exact VLe.s_refl _
  read h := by
    obtain ⟨s, rfl, e, _⟩ := DataW.trod_string ht h
    obtain ⟨rfl, rfl⟩ := Prod.mk.inj e
    exact ⟨s.data.toList, by simp [VRels, VRel], trivial, by rw [B.str]; exact Nat.le_refl _, rfl, by simp; rfl⟩
theorem Rd.int (B : BulkOk f g) {t : TypeId} {k : IntKind} (ht : P.underlying t = some (.int k)) : Rd P f t 1 (fun x : Int => [.s (.int k x)]) (fun x => (Lit.int k x).wf = true) (fun _ => 1) where
  self _ c hc := by simp only [List.mem_singleton] at hc; subst hc; exact VLe.s_refl _
  read h := by
    obtain ⟨n, rfl, e, w⟩ := DataW.trod_int ht h
    obtain ⟨rfl, rfl⟩ := Prod.mk.inj e
    exact ⟨n, by simp [VRels, VRel], w, B.pos _, rfl, by simp; rfl⟩
theorem Rd.bool (B : BulkOk f g) {t : TypeId} (ht : P.underlying t = some .bool) : Rd P f t 1 (fun x : Bool => [bv x]) (fun _ => True) (fun _ => 1) where
  self _ c hc := by simp only [List.mem_singleton] at hc; subst hc; exact VLe.s_refl _
  read h := by
    obtain ⟨n, rfl, e⟩ := DataW.trod_bool ht h
    obtain ⟨rfl, rfl⟩ := Prod.mk.inj e
    exact ⟨n, by simp [VRels, VRel], trivial, B.pos _, rfl, by simp; rfl⟩
theorem VRels.len {K : Cx} : ∀ {a : List AV} {x : List Value}, VRels K a x → a.length = x.length
  | [], [], _ => rfl
  | _ :: a, _ :: x, h => by simp only [List.length_cons]; rw [VRels.len (a := a) (x := x) (by simp only [VRels] at h; exact h.2)]
  | [], _ :: _, h => by simp [VRels] at h
  | _ :: _, [], h => by simp [VRels] at h
theorem crel_rd {W : World} {b : Nat} : ∀ {a : List AV} {cs : List Value} {o : Nat}, VRels (Kw W) a cs → (∀ i, i < cs.length → W.cell? ⟨b, o + i, none⟩ = cs[i]?) → (∀ v ∈ cs, v.oneCell' = true) → CRel (Kw W) b o a
  | [], _, _, _, _, _ => by simp [CRel]
  | c :: a, [], _, h, _, _ => by simp [VRels] at h
  | c :: a, v :: cs, o, h, hc, h1 => by
    simp only [VRels] at h
    have h0 := hc 0 (by simp)
    simp only [Nat.add_zero, List.getElem?_cons_zero] at h0
    refine ⟨⟨v, ⟨?_, id, id⟩, h0, h1 v List.mem_cons_self, h.1⟩, crel_rd h.2 (fun i hi => ?_) fun u hu => h1 u (List.mem_cons_of_mem _ hu)⟩
    · unfold World.cell? at h0
      split at h0
      · rename_i e
        exact (Array.getElem?_eq_some_iff.1 e).1
      · cases h0
    · have := hc (i + 1) (by simp; omega)
      rw [Nat.add_assoc, Nat.add_comm 1 i, this]
      rfl
theorem Rd.slice (B : BulkOk f g) {t e : TypeId} {n : Nat} {α : Type} {en : α → List AV} {ok : α → Prop} {μ : α → Nat} (R : Rd P f e n en ok μ) (ht : P.underlying t = some (.slice e)) (hn : P.cellsOf e = n) (h0 : 0 < n) :
    Rd P f t 1 (fun x : List α => [.fsl n (x.map en)]) (fun x => ∀ y ∈ x, ok y) (fun x => (x.map μ).sum + 1) where
  self x c hc := by
    simp only [List.mem_singleton] at hc
    subst hc
    refine fsl_refl fun r hr => ?_
    obtain ⟨y, _, rfl⟩ := List.mem_map.1 hr
    exact R.self y
  read {enc W fuel cs d pl} h := by
    rcases Deep.open_slice ht h with ⟨rfl, e'⟩ | ⟨a, len, cap, m, k, D, Pl, rfl, _, hl, _, hm, e', hx⟩
    · obtain ⟨rfl, rfl⟩ := Prod.mk.inj e'
      exact ⟨[], by simp only [VRels, VRel, and_true, List.map_nil, List.length_nil]; exact ⟨none, 0, rfl, Nat.le_refl _, by simp⟩, by simp, by simpa using B.pos _, rfl, by simp; rfl⟩
    · obtain ⟨rfl, rfl⟩ := Prod.mk.inj e'
      have hlm : len ≤ m := by rw [hm]; simpa using hl
      subst hn
      have hspot : 0 < len → a.spot = none := fun hp => by
        obtain ⟨cs', h1, h2⟩ := hx 0 (by omega)
        obtain ⟨_, hlen, hc⟩ := World.cells?_some h1
        have := hc 0 h0
        rw [List.getElem?_eq_getElem (by omega)] at this
        simp only [Nat.zero_mul, Addr.add, if_true] at this
        unfold World.cell? at this
        split at this
        · split at this
          · cases this
          · rename_i q; simpa using q
        · cases this
      obtain ⟨ab, ao, sp⟩ := a
      have key : ∀ j i, i + j = len → ∃ xs : List α, RRel (Kw W) ab (ao + i * P.cellsOf e) (P.cellsOf e) (xs.map en) ∧ xs.length = j ∧ (∀ x ∈ xs, ok x) ∧ (xs.map μ).sum ≤ ((List.range' i j).map fun q => f (D q)).sum := by
        intro j
        induction j with
        | zero => intro i _; exact ⟨[], by simp [RRel], rfl, by simp, by simp⟩
        | succ j ih =>
          intro i hij
          obtain rfl : sp = none := hspot (by omega)
          obtain ⟨xs, r1, r2, r3, r4⟩ := ih (i + 1) (by omega)
          obtain ⟨cs', h1, h2⟩ := hx i (by omega)
          obtain ⟨x, x1, x2, x3, x4, x5⟩ := R.read h2
          obtain ⟨_, hlen, hc⟩ := World.cells?_some h1
          refine ⟨x :: xs, ?_, by simp [r2], by simpa using ⟨x2, r3⟩, ?_⟩
          · simp only [List.map_cons, RRel]
            refine ⟨by rw [x1.len, x4], crel_rd x1 (fun q hq => ?_) x5, ?_⟩
            · have := hc q (by omega)
              rw [WideShapes.add_plain, WideShapes.add_plain] at this
              exact this
            · rw [Nat.add_assoc, show i * P.cellsOf e + P.cellsOf e = (i + 1) * P.cellsOf e by rw [Nat.add_mul, Nat.one_mul]]
              exact r1
          · simp only [List.map_cons, List.sum_cons, List.range'_succ]
            omega
      obtain ⟨xs, r1, r2, r3, r4⟩ := key len 0 (by omega)
      refine ⟨xs, ?_, r3, ?_, rfl, by simp; rfl⟩
      · simp only [VRels, VRel, and_true, List.length_map, r2]
        refine ⟨some ⟨ab, ao, sp⟩, cap, rfl, hl, ?_⟩
        rcases Nat.eq_zero_or_pos len with hz | hp
        · left
          have : xs = [] := List.length_eq_zero_iff.1 (by omega)
          simp [this]
        · right
          obtain rfl : sp = none := hspot hp
          exact ⟨ab, ao, rfl, by rw [Nat.zero_mul, Nat.add_zero] at r1; exact r1⟩
      · rw [B.slice, B.sum, List.map_map, List.range_eq_range']
        have : (List.map (f ∘ D) (List.range' 0 len)).sum = ((List.range' 0 len).map fun q => f (D q)).sum := rfl
        omega
structure Rds (P : Program) (f : DataW H → Nat) (g : List (DataW H) → Nat) (fs : List Field) (o n : Nat) {α : Type} (en : α → List AV) (ok : α → Prop) (μ : α → Nat) : Prop where
  read : ∀ {enc : TypeId × Value → H} {W : World} {fuel : Nat} {cs : List Value} {xs : List (DataW H × List MemPlace)}, xs.length = fs.length → o + n ≤ cs.length →
    (∀ (i : Nat) (fd : Field), fs[i]? = some fd → DataW.trod enc P W 0 (fun _ => true) true fuel fd.type ((cs.drop fd.offset).take (P.cellsOf fd.type)) = xs[i]?) →
    ∃ x, VRels (Kw W) (en x) ((cs.drop o).take n) ∧ ok x ∧ μ x ≤ g (xs.map (·.1)) ∧ (∀ v ∈ (cs.drop o).take n, v.oneCell' = true)
  self : ∀ x, ∀ c ∈ en x, VLe Rn.nil c c
theorem Rds.nil (o : Nat) : Rds P f g [] o 0 (fun _ : Unit => []) (fun _ => True) (fun _ => 0) where
  self _ c hc := by simp at hc
  read _ _ _ := ⟨(), by simp [VRels], trivial, Nat.zero_le _, by simp⟩
theorem Rds.cons (B : BulkOk f g) {fd : Field} {fs : List Field} {o n1 n2 : Nat} {α β : Type} {e1 : α → List AV} {ok1 : α → Prop} {μ1 : α → Nat} {e2 : β → List AV} {ok2 : β → Prop} {μ2 : β → Nat} (R1 : Rd P f fd.type n1 e1 ok1 μ1) (R2 : Rds P f g fs (o + n1) n2 e2 ok2 μ2) (ho : fd.offset = o) (hn : P.cellsOf fd.type = n1) :
    Rds P f g (fd :: fs) o (n1 + n2) (fun x : α × β => e1 x.1 ++ e2 x.2) (fun x => ok1 x.1 ∧ ok2 x.2) (fun x => μ1 x.1 + μ2 x.2) where
  self x c hc := by
    rcases List.mem_append.1 hc with h | h
    · exact R1.self _ c h
    · exact R2.self _ c h
  read {enc W fuel cs xs} hl hc h := by
    cases xs with
    | nil => simp at hl
    | cons y xs =>
      have h0 := h 0 fd rfl
      simp only [List.getElem?_cons_zero, ho, hn] at h0
      obtain ⟨x1, a1, a2, a3, a4, a5⟩ := R1.read (d := y.1) (pl := y.2) h0
      obtain ⟨x2, b1, b2, b3, b5⟩ := R2.read (enc := enc) (W := W) (fuel := fuel) (cs := cs) (xs := xs) (by simpa using hl) (by omega) (fun i fd' h' => by have := h (i + 1) fd' (by simpa using h'); simpa using this)
      have e : (cs.drop o).take (n1 + n2) = (cs.drop o).take n1 ++ (cs.drop (o + n1)).take n2 := by rw [List.take_add, List.drop_drop]
      refine ⟨(x1, x2), ?_, ⟨a2, b2⟩, ?_, ?_⟩
      · rw [e]; exact a1.append b1
      · simp only [List.map_cons]; rw [B.cons]; omega
      · rw [e]
        intro v hv
        rcases List.mem_append.1 hv with hv | hv
        · exact a5 v hv
        · exact b5 v hv
theorem Rd.struct (B : BulkOk f g) {t : TypeId} {fs : Array Field} {n : Nat} {α β : Type} {en : α → List AV} {ok : α → Prop} {μ : α → Nat} (R : Rds P f g fs.toList 0 n en ok μ) (ht : P.underlying t = some (.struct fs)) (hn : P.cellsOf t = n) (mk : α → β) (hs : ∀ y, ∃ x, mk x = y) {en' : β → List AV} (he : ∀ x, en' (mk x) = en x) {ok' : β → Prop} (hk : ∀ x, ok x → ok' (mk x)) {μ' : β → Nat} (hm : ∀ x, μ' (mk x) ≤ μ x + 1) :
    Rd P f t n en' ok' μ' where
  self y c hc := by
    obtain ⟨x, rfl⟩ := hs y
    rw [he] at hc
    exact R.self x c hc
  read {enc W fuel cs d pl} h := by
    obtain ⟨xs, k, _, e, hl, hx, hf⟩ := DataW.trod_struct ht h
    obtain ⟨rfl, rfl⟩ := Prod.mk.inj e
    obtain ⟨x, h1, h2, h3, h4⟩ := R.read (enc := enc) (W := W) (fuel := k) (cs := cs) (xs := xs) (by simpa using hx) (by omega) (fun i fd h' => hf i fd (by simpa using h'))
    rw [List.drop_zero, List.take_of_length_le (by omega)] at h1 h4
    refine ⟨mk x, by rw [he]; exact h1, hk x h2, ?_, by omega, h4⟩
    rw [B.agg]
    have := hm x
    omega
/-- An argument that fills one cell. -/
theorem Rd.arg1 {t : TypeId} {α : Type} {c : α → AV} {ok : α → Prop} {μ : α → Nat} (R : Rd P f t 1 (fun x => [c x]) ok μ) {enc : TypeId × Value → H} {W : World} {v : Value} {d : DataW H} {pl : List MemPlace} (hv : v.cells = #[v]) (h : DataW.Trod enc P W 0 (fun _ => true) true t v d pl) :
    ∃ x, VRel (Kw W) (c x) v ∧ ok x ∧ μ x ≤ f d ∧ VLe Rn.nil (c x) (c x) := by
  obtain ⟨fuel, h⟩ := h
  obtain ⟨x, h1, h2, h3, _⟩ := R.read h
  rw [hv] at h1
  simp only [VRels, and_true] at h1
  exact ⟨x, h1, h2, h3, R.self x _ List.mem_cons_self⟩
/-- An argument that is a struct. -/
theorem Rd.argS {t : TypeId} {n : Nat} {α : Type} {en : α → List AV} {ok : α → Prop} {μ : α → Nat} (R : Rd P f t n en ok μ) {enc : TypeId × Value → H} {W : World} {cs : Array Value} {d : DataW H} {pl : List MemPlace} (h : DataW.Trod enc P W 0 (fun _ => true) true t (.agg cs) d pl) :
    ∃ x, VRel (Kw W) (.agg (en x)) (.agg cs) ∧ ok x ∧ μ x ≤ f d ∧ VLe Rn.nil (.agg (en x)) (.agg (en x)) := by
  obtain ⟨fuel, h⟩ := h
  obtain ⟨x, h1, h2, h3, _⟩ := R.read h
  exact ⟨x, by simp only [VRel]; exact ⟨cs, rfl, h1⟩, h2, h3, agg_refl (R.self x)⟩
theorem cells_string {P : Program} {W : World} {r : Reach} {b : Nat} {t : TypeId} {v : Value} (ht : P.underlying t = some .string) (h : Value.okWide P W r b t v) : v.cells = #[v] := by
  unfold Value.okWide Cell.okWide Cell.ok at h
  rw [ht] at h
  cases v <;> first | rfl | simp at h
theorem cells_int {P : Program} {W : World} {r : Reach} {b : Nat} {t : TypeId} {k : IntKind} {v : Value} (ht : P.underlying t = some (.int k)) (h : Value.okWide P W r b t v) : v.cells = #[v] := by
  unfold Value.okWide Cell.okWide Cell.ok at h
  rw [ht] at h
  cases v <;> first | rfl | simp at h
theorem cells_bool {P : Program} {W : World} {r : Reach} {b : Nat} {t : TypeId} {v : Value} (ht : P.underlying t = some .bool) (h : Value.okWide P W r b t v) : v.cells = #[v] := by
  unfold Value.okWide Cell.okWide Cell.ok at h
  rw [ht] at h
  cases v <;> first | rfl | simp at h
theorem cells_slice {P : Program} {W : World} {r : Reach} {b : Nat} {t e : TypeId} {v : Value} (ht : P.underlying t = some (.slice e)) (h : Value.okWide P W r b t v) : v.cells = #[v] := by
  unfold Value.okWide Cell.okWide Cell.ok at h
  rw [ht] at h
  cases v <;> first | rfl | simp at h
theorem agg_struct {P : Program} {W : World} {r : Reach} {b : Nat} {t : TypeId} {fs : Array Field} {v : Value} (ht : P.underlying t = some (.struct fs)) (h : Value.okWide P W r b t v) : ∃ cs, v = .agg cs := by
  unfold Value.okWide at h
  rw [ht] at h
  obtain ⟨cs, e, _⟩ := h
  exact ⟨cs, e⟩
/-- All arguments read behind the call as they read before. -/
theorem args_stay {enc : TypeId × Value → H} (hl : laidOutB P = true) {W W' : World} (hb : RowKit.Below W.heap.size W W') {sp : Nat → Bool} : ∀ {ts : List TypeId} {vs : List Value} {ds : List (DataW H)} {ps : List MemPlace}, (∀ t ∈ ts, P.readableRec t = true ∧ t < P.types.size) → DataW.TrodAll enc P W 0 (fun _ => true) true ts vs ds ps → (∀ x ∈ ps, x.block < W.heap.size) → (∀ x ∈ ps, sp x.block = true) →
    DataW.TrodAll enc P W' 0 sp true ts vs ds ps
  | [], [], [], _, _, h, _, _ => h
  | t :: ts, v :: vs, d :: ds, ps, hr, h, h1, h2 => by
    obtain ⟨p, q, h3, h4, rfl⟩ := h
    exact ⟨p, q, WideElems.Trod_stays hl (hr t List.mem_cons_self).1 (hr t List.mem_cons_self).2 h3 (fun x hx => hb.same (h1 x (List.mem_append_left _ hx))) (fun x hx => h2 x (List.mem_append_left _ hx)),
      args_stay hl hb (fun u hu => hr u (List.mem_cons_of_mem _ hu)) h4 (fun x hx => h1 x (List.mem_append_right _ hx)) (fun x hx => h2 x (List.mem_append_right _ hx)), rfl⟩
  | [], _ :: _, _, _, _, h, _, _ => h.elim
  | [], [], _ :: _, _, _, h, _, _ => h.elim
  | _ :: _, [], _, _, _, h, _, _ => h.elim
  | _ :: _, _ :: _, [], _, _, h, _, _ => h.elim
end
end Go.Vm

/- Plain laws: loops, numbers. -/
set_option linter.unusedVariables false
set_option linter.unusedSimpArgs false
namespace Go.Vm
open Go

section
variable {σ τ : Type} {f : σ → Option (Step σ τ)}
theorem loopC_next {x y : σ} (h : f x = some (.next y)) : loopC f x = loopC f y := by rw [loopC_eq, h]; rfl
theorem loopC_done {x : σ} {t : τ} (h : f x = some (.done t)) : loopC f x = some t := by rw [loopC_eq, h]; rfl
/-- A loop that keeps what it will answer. -/
theorem loopC_fun (I : σ → Prop) (μ : σ → Nat) (g : σ → τ) (h : ∀ x, I x → f x = some (.done (g x)) ∨ ∃ y, f x = some (.next y) ∧ I y ∧ μ y < μ x ∧ g y = g x) {x : σ} (hx : I x) : loopC f x = some (g x) := by
  have key : ∀ n x, I x → μ x ≤ n → loopC f x = some (g x) := by
    intro n
    induction n with
    | zero =>
      intro x hx hn
      rcases h x hx with h1 | ⟨y, _, _, h3, _⟩
      · exact loopC_done h1
      · omega
    | succ n ih =>
      intro x hx hn
      rcases h x hx with h1 | ⟨y, h1, h2, h3, h4⟩
      · exact loopC_done h1
      · rw [loopC_next h1, ih y h2 (by omega), h4]
  exact key _ x hx (Nat.le_refl _)
/-- A loop that ends, and what holds then. -/
theorem loopC_inv (I : σ → Prop) (μ : σ → Nat) (P : τ → Prop) (h : ∀ x, I x → (∃ t, f x = some (.done t) ∧ P t) ∨ ∃ y, f x = some (.next y) ∧ I y ∧ μ y < μ x) {x : σ} (hx : I x) : ∃ t, loopC f x = some t ∧ P t := by
  have key : ∀ n x, I x → μ x ≤ n → ∃ t, loopC f x = some t ∧ P t := by
    intro n
    induction n with
    | zero =>
      intro x hx hn
      rcases h x hx with ⟨t, h1, h2⟩ | ⟨y, _, _, h3⟩
      · exact ⟨t, loopC_done h1, h2⟩
      · omega
    | succ n ih =>
      intro x hx hn
      rcases h x hx with ⟨t, h1, h2⟩ | ⟨y, h1, h2, h3⟩
      · exact ⟨t, loopC_done h1, h2⟩
      · rw [loopC_next h1]
        exact ih y h2 (by omega)
  exact key _ x hx (Nat.le_refl _)
end

theorem w64_id {x : Int} (h1 : -9223372036854775808 ≤ x) (h2 : x ≤ 9223372036854775807) : w64 x = x := i64_id h1 h2
theorem idx_nat {s : Str} {i : Nat} (h : i < s.length) : idx s (i : Int) = some (s[i].toNat : Int) := by
  unfold idx
  rw [if_pos (by omega), Int.toNat_natCast, List.getElem?_eq_getElem h]
  rfl
theorem ixl_nat {α : Type} {l : List α} {i : Nat} (h : i < l.length) : ixl l (i : Int) = some l[i] := by
  unfold ixl
  rw [if_pos (by omega), Int.toNat_natCast, List.getElem?_eq_getElem h]
theorem subl_nat {α : Type} {l : List α} {i j : Nat} (h1 : i ≤ j) (h2 : j ≤ l.length) : subl l (i : Int) (j : Int) = some ((l.drop i).take (j - i)) := by
  unfold subl
  rw [if_pos ⟨by omega, by omega, by omega⟩]
  rfl
theorem subl_drop {α : Type} {l : List α} {i : Nat} (h : i ≤ l.length) : subl l (i : Int) (l.length : Int) = some (l.drop i) := by
  rw [subl_nat h (Nat.le_refl _), List.take_of_length_le (by simp)]
theorem subl_take {α : Type} {l : List α} {j : Nat} (h : j ≤ l.length) : subl l 0 (j : Int) = some (l.take j) := by
  have := subl_nat (l := l) (i := 0) (j := j) (Nat.zero_le _) h
  simpa using this
theorem u8c_beq (a c : UInt8) : ((a.toNat : Int) == (c.toNat : Int)) = (a == c) := u8_beq
theorem u8_eq_iff (a c : UInt8) : ((a.toNat : Int) = (c.toNat : Int)) ↔ a = c := u8_inj
theorem cat_ok {a b : Str} (h : a.length + b.length ≤ 9223372036854775807) : cat a b = some (a ++ b) := by
  unfold cat; rw [if_pos h]
theorem tob_ok {s : Str} (h : s.length ≤ 9223372036854775807) : tob s = some (s.map fun c => (c.toNat : Int)) := by
  unfold tob; rw [if_pos h]
theorem app_ok {α : Type} {b : Nat} {l m : List α} (h1 : (l.length + m.length) * b ≤ 140737488355328) (h2 : l.length + m.length ≤ 9223372036854775807) : app b l m = some (l ++ m) := by
  unfold app; rw [if_pos ⟨h1, h2⟩]

/-- Where a row of bytes of a kind ends. -/
def runE (p : UInt8 → Bool) (s : Str) (i : Nat) : Nat := i + ((s.drop i).takeWhile p).length
theorem runE_le {p : UInt8 → Bool} {s : Str} {i : Nat} (h : i ≤ s.length) : runE p s i ≤ s.length := by
  unfold runE
  have := (List.takeWhile_prefix p (l := s.drop i)).length_le
  simp only [List.length_drop] at this
  omega
theorem runE_ge (p : UInt8 → Bool) (s : Str) (i : Nat) : i ≤ runE p s i := by unfold runE; omega
theorem runE_end (p : UInt8 → Bool) (s : Str) : runE p s s.length = s.length := by simp [runE]
theorem runE_yes {p : UInt8 → Bool} {s : Str} {i : Nat} (h : i < s.length) (hp : p s[i] = true) : runE p s i = runE p s (i + 1) := by
  unfold runE
  rw [List.drop_eq_getElem_cons h, List.takeWhile_cons_of_pos hp, List.length_cons]
  omega
theorem runE_no {p : UInt8 → Bool} {s : Str} {i : Nat} (h : i < s.length) (hp : p s[i] = false) : runE p s i = i := by
  unfold runE
  rw [List.drop_eq_getElem_cons h, List.takeWhile_cons_of_neg (by simp [hp])]
  simp
/-- A loop that goes on while bytes are of a kind. -/
theorem scan_loop {f : Int → Option (Step Int Int)} {p : UInt8 → Bool} {s : Str} (hend : f (s.length : Int) = some (.done (s.length : Int))) (hstep : ∀ (i : Nat) (h : i < s.length), f (i : Int) = if p s[i] = true then some (.next ((i + 1 : Nat) : Int)) else some (.done (i : Int))) {i : Nat} (hi : i ≤ s.length) :
    loopC f (i : Int) = some (runE p s i : Int) := by
  have := loopC_fun (f := f) (fun x => ∃ i : Nat, x = i ∧ i ≤ s.length) (fun x => s.length - x.toNat) (fun x => (runE p s x.toNat : Int)) (fun x hx => by
    obtain ⟨i, rfl, hi⟩ := hx
    simp only [Int.toNat_natCast]
    rcases Nat.lt_or_ge i s.length with h | h
    · cases hp : p s[i] with
      | true =>
        right
        refine ⟨((i + 1 : Nat) : Int), by rw [hstep i h, if_pos hp], ⟨i + 1, rfl, h⟩, by rw [Int.toNat_natCast]; omega, ?_⟩
        rw [Int.toNat_natCast, runE_yes h hp]
      | false => left; rw [hstep i h, hp, runE_no h hp]; rfl
    · have : i = s.length := by omega
      subst this
      left
      rw [hend, runE_end]) (x := (i : Int)) ⟨i, rfl, hi⟩
  simpa using this
end Go.Vm

/- Plain laws of chapter 1: digits. -/
set_option linter.unusedVariables false
set_option linter.unusedSimpArgs false
namespace Go.Vm
open Go

def nought (c : UInt8) : Bool := c == 48
def trimM (s : Str) : Str := if s.dropWhile nought = [] then [48] else s.dropWhile nought

theorem trimLeftByte_eq (s : Str) (hs : s.length ≤ 4611686018427387904) : strings_trimLeftByte s 48 = some (s.dropWhile nought) := by
  unfold strings_trimLeftByte
  rw [loopC_fun (fun x => x.length ≤ 4611686018427387904) (fun x => x.length) (fun x => x.dropWhile nought) (fun x hx => ?_) hs]
  · rfl
  · cases x with
    | nil => left; simp [strings_trimLeftByte_l1]
    | cons c x =>
      have h0 : idx (c :: x) 0 = some (c.toNat : Int) := idx_nat (s := c :: x) (i := 0) (by simp)
      have h1 : subl (c :: x) 1 ((c :: x).length : Int) = some x := by
        have := subl_drop (l := c :: x) (i := 1) (by simp)
        simpa using this
      have h2 : ((c.toNat : Int) == 48) = nought c := u8c_beq c 48
      cases hc : nought c with
      | true =>
        right
        refine ⟨x, ?_, by simp only [List.length_cons] at hx; omega, by simp, by rw [List.dropWhile_cons_of_pos hc]⟩
        unfold strings_trimLeftByte_l1
        rw [h0, h1]
        simp only [List.length_cons, Option.bind_some, h2, hc]
        rw [if_pos (by simp; try omega)]
        rfl
      | false =>
        left
        unfold strings_trimLeftByte_l1
        rw [h0]
        simp only [List.length_cons, Option.bind_some, h2, hc, List.dropWhile_cons]
        rw [if_pos (by simp; try omega)]
        rfl
theorem scan_Trim_eq (s : Str) (hs : s.length ≤ 4611686018427387904) : scan_Trim s = some (trimM s) := by
  unfold scan_Trim strings_TrimLeft_s1
  have h1 : (if ((s == []) && true) = true then some s else Option.bind (strings_trimLeftByte s 48) (fun x1 => some x1)) = some (s.dropWhile nought) := by
    cases s with
    | nil => simp
    | cons c s =>
      rw [if_neg (by simp), trimLeftByte_eq _ hs]
      rfl
  rw [h1]
  simp only [Option.bind_some, trimM, beq_iff_eq]
  split <;> rfl
theorem drop_runE (p : UInt8 → Bool) (s : Str) : s.drop (runE p s 0) = s.dropWhile p := by
  unfold runE
  simp only [List.drop_zero, Nat.zero_add]
  induction s with
  | nil => rfl
  | cons c s ih =>
    cases hc : p c with
    | true => rw [List.takeWhile_cons_of_pos hc, List.dropWhile_cons_of_pos hc, List.length_cons, List.drop_succ_cons, ih]
    | false => rw [List.takeWhile_cons_of_neg (by simp [hc]), List.dropWhile_cons_of_neg (by simp [hc])]; rfl
theorem ref01_Trim_eq (s : Str) (hs : s.length ≤ 4611686018427387904) : ref01_Trim s = some (trimM s) := by
  unfold ref01_Trim
  have hl : loopC (ref01_Trim_l1 s) 0 = some (runE nought s 0 : Int) := by
    refine scan_loop (p := nought) (s := s) (i := 0) ?_ ?_ (Nat.zero_le _)
    · unfold ref01_Trim_l1
      rw [if_neg (by simp)]
      rfl
    · intro i h
      unfold ref01_Trim_l1
      rw [if_pos (by simp; omega), idx_nat h]
      simp only [Option.bind_some]
      rw [show ((s[i].toNat : Int) == 48) = nought s[i] from u8c_beq _ 48, w64_id (by omega) (by omega)]
      cases nought s[i] <;> rfl
  rw [hl]
  simp only [Option.bind_some]
  have hle : runE nought s 0 ≤ s.length := runE_le (Nat.zero_le _)
  rw [subl_drop hle]
  simp only [Option.bind_some, drop_runE, trimM]
  by_cases h : s.dropWhile nought = []
  · have : runE nought s 0 = s.length := by
      have := congrArg List.length (drop_runE nought s)
      rw [h] at this
      simp only [List.length_drop, List.length_nil] at this
      omega
    rw [if_pos h, if_pos (by rw [this]; simp)]
  · have : runE nought s 0 ≠ s.length := by
      intro e
      have := congrArg List.length (drop_runE nought s)
      rw [e] at this
      simp only [List.length_drop, Nat.sub_self] at this
      exact h (List.length_eq_zero_iff.1 this.symm)
    rw [if_neg h, if_neg (by simp; omega)]
theorem trimM_len (s : Str) : (trimM s).length ≤ s.length + 1 := by
  unfold trimM
  split
  · simp
  · exact Nat.le_succ_of_le (List.dropWhile_suffix _).length_le

/-! ### Comparing -/
def cmpI (a b : Int) : Int := if a < b then -1 else if b < a then 1 else 0
theorem cmp_Compare_int_eq (a b : Int) : cmp_Compare_int a b = some (cmpI a b) := by
  have h : ∀ x : Int, cmp_isNaN_int x = some false := fun x => by simp [cmp_isNaN_int]
  unfold cmp_Compare_int cmpI
  rw [h, h]
  simp only [Option.bind_some, Bool.false_eq_true, if_false, decide_eq_true_eq, gt_iff_lt]
  split
  · rfl
  · split <;> rfl
theorem cmp_Or_int_eq (l : List Int) (hl : l.length ≤ 4611686018427387904) : cmp_Or_int l = some ((l.find? (· != 0)).getD 0) := by
  unfold cmp_Or_int
  have := loopC_fun (f := cmp_Or_int_l1 l) (fun x => ∃ i : Nat, x = i ∧ i ≤ l.length) (fun x => l.length - x.toNat) (fun x => match (l.drop x.toNat).find? (· != 0) with | some y => Sum.inl y | none => Sum.inr ()) (fun x hx => by
    obtain ⟨i, rfl, hi⟩ := hx
    simp only [Int.toNat_natCast]
    rcases Nat.lt_or_ge i l.length with h | h
    · unfold cmp_Or_int_l1
      rw [if_pos (by simp; omega), ixl_nat h, List.drop_eq_getElem_cons h]
      simp only [Option.bind_some, List.find?_cons]
      cases hc : l[i] != 0 with
      | true => left; rfl
      | false =>
        right
        refine ⟨((i + 1 : Nat) : Int), by rw [if_neg (by simp), w64_id (by omega) (by omega)]; rfl, ⟨i + 1, rfl, h⟩, by rw [Int.toNat_natCast]; omega, by rw [Int.toNat_natCast]⟩
    · have : i = l.length := by omega
      subst this
      left
      unfold cmp_Or_int_l1
      rw [if_neg (by simp)]
      simp) (x := 0) ⟨0, rfl, Nat.zero_le _⟩
  rw [this]
  simp only [Option.bind_some, Int.toNat_zero, List.drop_zero]
  cases l.find? (· != 0) <;> rfl
theorem cmpB_eq : ∀ (a b : List UInt8), Lib.compareBytes a b = if Op.bytesLess a b = true then -1 else if (a == b) = true then 0 else 1
  | [], [] => by simp [Lib.compareBytes, Op.bytesLess]
  | [], _ :: _ => by simp [Lib.compareBytes, Op.bytesLess]
  | _ :: _, [] => by simp [Lib.compareBytes, Op.bytesLess]
  | x :: a, y :: b => by
    have ih := cmpB_eq a b
    simp only [Lib.compareBytes, Op.bytesLess, List.cons_beq_cons, ih]
    by_cases h1 : x < y
    · simp [h1]
    · by_cases h2 : y < x
      · have hne : (x == y) = false := by
          rw [beq_eq_false_iff_ne]; rintro rfl; exact h1 h2
        simp [h1, h2, hne]
      · have he : x = y := by
          apply UInt8.toNat_inj.1
          rw [UInt8.lt_iff_toNat_lt] at h1 h2
          omega
        subst he
        simp
theorem ref01_Texts_eq (a b : Str) : ref01_Texts a b = some (Lib.compareBytes a b) := by
  unfold ref01_Texts
  rw [cmpB_eq]
  cases Op.bytesLess a b with
  | true => rfl
  | false =>
    simp only [Bool.false_eq_true, if_false, Bool.false_or]
    cases a == b <;> rfl
theorem strings_Compare_eq (a b : Str) : strings_Compare a b = some (Lib.compareBytes a b) := rfl
def cmpM (a b : Str) : Int := if cmpI (trimM a).length (trimM b).length ≠ 0 then cmpI (trimM a).length (trimM b).length else Lib.compareBytes (trimM a) (trimM b)
theorem find2 (x y : Int) : (([x, y].find? (· != 0)).getD 0) = if x ≠ 0 then x else y := by
  by_cases h : x = 0
  · subst h
    by_cases h2 : y = 0
    · subst h2; rfl
    · simp [h2]
  · simp [h]
theorem scan_Cmp_eq (a b : Str) (ha : a.length ≤ 4611686018427387904) (hb : b.length ≤ 4611686018427387904) : scan_Cmp a b = some (cmpM a b) := by
  unfold scan_Cmp
  rw [scan_Trim_eq a ha, scan_Trim_eq b hb]
  simp only [Option.bind_some, cmp_Compare_int_eq, strings_Compare_eq]
  rw [cmp_Or_int_eq _ (by simp), find2]
  rfl
theorem ref01_Cmp_eq (a b : Str) (ha : a.length ≤ 4611686018427387904) (hb : b.length ≤ 4611686018427387904) : ref01_Cmp a b = some (cmpM a b) := by
  unfold ref01_Cmp cmpM cmpI
  rw [ref01_Trim_eq a ha, ref01_Trim_eq b hb]
  simp only [Option.bind_some, ref01_Texts_eq, decide_eq_true_eq, gt_iff_lt]
  split
  · rfl
  · split
    · rfl
    · rfl

/-! ### Runs -/
def isB (c k : Int) : Bool :=
  if k = 1 then decide (48 ≤ c) && decide (c ≤ 57)
  else if k = 2 then decide (97 ≤ c) && decide (c ≤ 122)
  else if k = 3 then decide (65 ≤ c) && decide (c ≤ 90)
  else if k = 4 then decide (97 ≤ c) && decide (c ≤ 122) || decide (65 ≤ c) && decide (c ≤ 90)
  else if k = 5 then decide (48 ≤ c) && decide (c ≤ 57) || decide (97 ≤ c) && decide (c ≤ 122) || decide (65 ≤ c) && decide (c ≤ 90)
  else if k = 6 then c == 32 || c == 9
  else if k = 7 then c == 32 || c == 9 || c == 10 || c == 13
  else false
theorem scan_Is_eq (c k : Int) : scan_Is c k = some (isB c k) := by
  unfold scan_Is isB
  simp only [beq_iff_eq, ge_iff_le]
  repeat (split; first | rfl | skip)
  rfl
theorem ref01_Is_eq (c k : Int) : ref01_Is c k = some (isB c k) := by
  unfold ref01_Is isB
  simp only [beq_iff_eq, ge_iff_le]
  repeat (split; first | rfl | (simp only [Option.some.injEq]; rw [Bool.eq_iff_iff]; simp only [Bool.or_eq_true, Bool.and_eq_true, decide_eq_true_eq, beq_iff_eq]; omega) | skip)
  rfl
def isP (k : Int) (c : UInt8) : Bool := isB c.toNat k
def runM (s : Str) (at' k : Int) : Int := if at' < 0 ∨ s.length < at' then at' else (runE (isP k) s at'.toNat : Int)
theorem ref01_Run_eq (s : Str) (at' k : Int) (hs : s.length ≤ 4611686018427387904) : ref01_Run s at' k = some (runM s at' k) := by
  unfold ref01_Run runM
  simp only [Bool.or_eq_true, decide_eq_true_eq, gt_iff_lt]
  split
  · rfl
  · rename_i h
    obtain ⟨i, rfl⟩ : ∃ i : Nat, at' = i := ⟨at'.toNat, by omega⟩
    rw [scan_loop (p := isP k) (s := s) (i := i) ?_ ?_ (by omega)]
    · simp
    · unfold ref01_Run_l1
      rw [if_neg (by simp)]
      rfl
    · intro j hj
      unfold ref01_Run_l1
      rw [if_pos (by simp; omega), idx_nat hj]
      simp only [Option.bind_some, ref01_Is_eq]
      rw [w64_id (by omega) (by omega)]
      show _ = if isB _ k = true then _ else _
      cases isB s[j].toNat k <;> rfl
theorem scan_Run_eq (s : Str) (at' k : Int) (hs : s.length ≤ 4611686018427387904) : scan_Run s at' k = some (runM s at' k) := by
  unfold scan_Run runM
  simp only [Bool.or_eq_true, decide_eq_true_eq, gt_iff_lt]
  split
  · rfl
  · rename_i h
    obtain ⟨i, rfl⟩ : ∃ i : Nat, at' = i := ⟨at'.toNat, by omega⟩
    have := loopC_fun (f := scan_Run_l1 s i k) (fun x => ∃ j : Nat, x = j ∧ i + j ≤ s.length) (fun x => s.length - x.toNat) (fun x => if runE (isP k) s (i + x.toNat) = s.length then Sum.inr () else Sum.inl (runE (isP k) s (i + x.toNat) : Int)) (fun x hx => by
      obtain ⟨j, rfl, hj⟩ := hx
      simp only [Int.toNat_natCast]
      rcases Nat.lt_or_ge (i + j) s.length with h | h
      · have hi := idx_nat h
        have e : w64 ((i : Int) + (j : Int)) = ((i + j : Nat) : Int) := by rw [w64_id (by omega) (by omega)]; omega
        unfold scan_Run_l1
        rw [if_pos (by rw [w64_id (by omega) (by omega)]; simp; omega), e, hi]
        simp only [Option.bind_some, scan_Is_eq]
        cases hc : isB s[i + j].toNat k with
        | true =>
          right
          have e2 : w64 ((j : Int) + 1) = ((j + 1 : Nat) : Int) := by rw [w64_id (by omega) (by omega)]; omega
          refine ⟨((j + 1 : Nat) : Int), by rw [e2]; rfl, ⟨j + 1, rfl, by omega⟩, by rw [Int.toNat_natCast]; omega, ?_⟩
          rw [Int.toNat_natCast, ← Nat.add_assoc, ← runE_yes h hc]
        | false =>
          left
          rw [runE_no h hc, if_neg (show ¬ (i + j = s.length) by omega)]
          rfl
      · have : i + j = s.length := by omega
        left
        unfold scan_Run_l1
        rw [if_neg (by rw [w64_id (by omega) (by omega)]; simp; omega), this, runE_end]
        simp) (x := 0) ⟨0, rfl, by omega⟩
    rw [this]
    simp only [Option.bind_some, Int.toNat_zero, Nat.add_zero, Int.toNat_natCast]
    by_cases he : runE (isP k) s i = s.length
    · rw [if_pos he, he]
    · rw [if_neg he]

/-! ### One more -/
theorem next_l1_eq : scan_Next_l1 = ref01_Next_l1 := rfl
theorem next_loop {l : List Int} {n : Nat} (hn : l.length = n + 1) (h0 : l[0]? = some 48) (hb : l.length ≤ 4611686018427387905) : ∃ t : List Int × Int, loopC ref01_Next_l1 (l, w64 ((l.length : Int) - 1)) = some t ∧ ∃ j : Nat, t.2 = j ∧ j < t.1.length ∧ t.1.length = n + 1 := by
  refine loopC_inv (fun x : List Int × Int => ∃ j : Nat, x.2 = j ∧ j < x.1.length ∧ x.1.length = n + 1 ∧ x.1[0]? = some 48) (fun x => x.2.toNat) _ (fun x hx => ?_) ⟨n, by rw [w64_id (by omega) (by omega), hn]; simp, by show n < l.length; omega, hn, h0⟩
  obtain ⟨l, k⟩ := x
  obtain ⟨j, rfl, h1, h2, h3⟩ := hx
  simp only at h1 h2 h3
  unfold ref01_Next_l1
  simp only [ixl_nat h1, Option.bind_some]
  by_cases hc : l[j] = 57
  · right
    have hj : j ≠ 0 := by
      rintro rfl
      rw [List.getElem?_eq_getElem h1, hc] at h3
      cases h3
    refine ⟨(l.set j 48, ((j - 1 : Nat) : Int)), ?_, ⟨j - 1, rfl, ?_, ?_, ?_⟩, ?_⟩
    · rw [if_pos (by simp [hc]), w64_id (by omega) (by omega), Int.toNat_natCast]
      congr 3
      omega
    · simp only [List.length_set]; omega
    · simp only [List.length_set]; exact h2
    · rw [List.getElem?_set_ne hj]; exact h3
    · simp only [Int.toNat_natCast]; omega
  · left
    exact ⟨(l, (j : Int)), by rw [if_neg (by simp [hc])], j, rfl, h1, h2⟩
theorem next_both (s : Str) (hs : s.length ≤ 2305843009213693952) : ∃ x, scan_Next s = some x ∧ ref01_Next s = some x := by
  unfold scan_Next ref01_Next
  rw [scan_Run_eq _ _ _ (by omega), ref01_Run_eq _ _ _ (by omega)]
  simp only [Option.bind_some]
  split
  · exact ⟨_, rfl, rfl⟩
  · rw [cat_ok (by simp; omega)]
    simp only [Option.bind_some]
    rw [tob_ok (by simp; omega)]
    simp only [Option.bind_some, next_l1_eq]
    obtain ⟨⟨l, k⟩, h1, j, h2, h3, h4⟩ := next_loop (l := (([48] : Str) ++ s).map fun c : UInt8 => (c.toNat : Int)) (n := s.length) (by simp) (by simp) (by simp; omega)
    simp only at h2 h3 h4
    subst h2
    rw [h1]
    simp only [Option.bind_some, ixl_nat h3]
    rw [scan_Trim_eq _ (by simp [ofb]; omega), ref01_Trim_eq _ (by simp [ofb]; omega)]
    exact ⟨_, rfl, rfl⟩

theorem ScanDigits_true (a b : Str) (ha : a.length ≤ 1048576) (hb : b.length ≤ 1048576) : law01_ScanDigits a b = some true := by
  obtain ⟨x, h1, h2⟩ := next_both a (by omega)
  unfold law01_ScanDigits
  rw [scan_Trim_eq a (by omega), ref01_Trim_eq a (by omega), scan_Cmp_eq a b (by omega) (by omega), ref01_Cmp_eq a b (by omega) (by omega), h1, h2]
  simp [law01_awake]
end Go.Vm

/- Plain laws of chapter 1: the order of digits. -/
set_option linter.unusedVariables false
set_option linter.unusedSimpArgs false
namespace Go.Vm
open Go

def isDig (s : Str) : Prop := ∀ c ∈ s, 48 ≤ c.toNat ∧ c.toNat ≤ 57
def val : Str → Nat
  | [] => 0
  | c :: s => (c.toNat - 48) * 10 ^ s.length + val s
theorem val_lt : ∀ {s : Str}, isDig s → val s < 10 ^ s.length
  | [], _ => by simp [val]
  | c :: s, h => by
    have ih := val_lt (s := s) fun x hx => h x (List.mem_cons_of_mem _ hx)
    have hc := h c List.mem_cons_self
    simp only [val, List.length_cons, Nat.pow_succ]
    have : (c.toNat - 48) * 10 ^ s.length ≤ 9 * 10 ^ s.length := Nat.mul_le_mul_right _ (by omega)
    omega
theorem val_drop : ∀ s : Str, val (s.dropWhile nought) = val s
  | [] => rfl
  | c :: s => by
    cases hc : nought c with
    | true =>
      rw [List.dropWhile_cons_of_pos hc, val_drop s]
      have : c = 48 := by simpa [nought] using hc
      subst this
      simp [val]
    | false => rw [List.dropWhile_cons_of_neg (by simp [hc])]
theorem val_trim (s : Str) : val (trimM s) = val s := by
  unfold trimM
  split
  · rename_i h
    have := val_drop s
    rw [h] at this
    rw [← this]; rfl
  · exact val_drop s
theorem dig_trim {s : Str} (h : isDig s) : isDig (trimM s) := by
  unfold trimM
  split
  · intro c hc
    simp only [List.mem_singleton] at hc
    subst hc
    decide
  · intro c hc
    exact h c ((List.dropWhile_suffix _).subset hc)
theorem trim_canon (s : Str) : trimM s = [48] ∨ ∃ c t, trimM s = c :: t ∧ c ≠ 48 := by
  unfold trimM
  split
  · left; rfl
  · rename_i h
    right
    obtain ⟨c, t, e⟩ := List.exists_cons_of_ne_nil h
    refine ⟨c, t, e, fun hc => ?_⟩
    have : nought c = false := by
      have := List.head_dropWhile_not nought h
      simpa [e] using this
    subst hc
    exact absurd this (by decide)
theorem cmpB_val : ∀ (a b : Str), isDig a → isDig b → a.length = b.length → Lib.compareBytes a b = cmpI (val a) (val b)
  | [], [], _, _, _ => by simp [Lib.compareBytes, cmpI, val]
  | [], _ :: _, _, _, h => by simp at h
  | _ :: _, [], _, _, h => by simp at h
  | x :: a, y :: b, ha, hb, h => by
    have ha' : isDig a := fun z hz => ha z (List.mem_cons_of_mem _ hz)
    have hb' : isDig b := fun z hz => hb z (List.mem_cons_of_mem _ hz)
    have hl : a.length = b.length := by simpa using h
    have ih := cmpB_val a b ha' hb' hl
    have hx := ha x List.mem_cons_self
    have hy := hb y List.mem_cons_self
    have va := val_lt ha'
    have vb := val_lt hb'
    rw [hl] at va
    simp only [Lib.compareBytes, ih, val, hl, UInt8.lt_iff_toNat_lt]
    generalize 10 ^ b.length = p at va vb
    rcases Nat.lt_trichotomy x.toNat y.toNat with h1 | h1 | h1
    · rw [if_pos h1]
      have : (x.toNat - 48 + 1) * p ≤ (y.toNat - 48) * p := Nat.mul_le_mul_right _ (by omega)
      rw [Nat.add_mul] at this
      unfold cmpI
      rw [if_pos (by omega)]
    · rw [if_neg (by omega), if_neg (by omega), h1]
      unfold cmpI
      congr 1
      · simp
      · congr 1; simp
    · rw [if_neg (by omega), if_pos h1]
      have : (y.toNat - 48 + 1) * p ≤ (x.toNat - 48) * p := Nat.mul_le_mul_right _ (by omega)
      rw [Nat.add_mul] at this
      unfold cmpI
      rw [if_neg (by omega), if_pos (by omega)]
theorem len_lt_val {a b : Str} (ha : isDig a) (hb : isDig b) (h : (trimM a).length < (trimM b).length) : val a < val b := by
  rw [← val_trim a, ← val_trim b]
  have h1 := val_lt (dig_trim ha)
  have h2 := dig_trim hb
  have hz : 1 ≤ (trimM a).length := by rcases trim_canon a with e | ⟨_, _, e, _⟩ <;> simp [e]
  rcases trim_canon b with e | ⟨c, t, e, hc⟩
  · rw [e] at h; simp only [List.length_singleton] at h; omega
  · rw [e] at h h2 ⊢
    have h3 := h2 c List.mem_cons_self
    have hc' : c.toNat ≠ 48 := fun q => hc (by apply UInt8.toNat_inj.1; exact q)
    have h4 : 1 * 10 ^ t.length ≤ (c.toNat - 48) * 10 ^ t.length := Nat.mul_le_mul_right _ (by omega)
    have h5 : 10 ^ (trimM a).length ≤ 10 ^ t.length := Nat.pow_le_pow_right (by omega) (by simp at h; omega)
    simp only [val]
    omega
theorem cmpM_val {a b : Str} (ha : isDig a) (hb : isDig b) : cmpM a b = cmpI (val a) (val b) := by
  unfold cmpM
  rcases Nat.lt_trichotomy (trimM a).length (trimM b).length with h | h | h
  · have := len_lt_val ha hb h
    have e : cmpI ((trimM a).length : Int) ((trimM b).length : Int) = -1 := by unfold cmpI; rw [if_pos (by omega)]
    rw [e, if_pos (by decide)]
    unfold cmpI; rw [if_pos (by omega)]
  · have e : cmpI ((trimM a).length : Int) ((trimM b).length : Int) = 0 := by unfold cmpI; rw [if_neg (by omega), if_neg (by omega)]
    rw [e, if_neg (by decide), cmpB_val _ _ (dig_trim ha) (dig_trim hb) h, val_trim, val_trim]
  · have := len_lt_val hb ha h
    have e : cmpI ((trimM a).length : Int) ((trimM b).length : Int) = 1 := by unfold cmpI; rw [if_neg (by omega), if_pos (by omega)]
    rw [e, if_pos (by decide)]
    unfold cmpI; rw [if_neg (by omega), if_pos (by omega)]
theorem cmpB_zero : ∀ (a b : Str), Lib.compareBytes a b = 0 → a = b
  | [], [], _ => rfl
  | [], _ :: _, h => by simp [Lib.compareBytes] at h
  | _ :: _, [], h => by simp [Lib.compareBytes] at h
  | x :: a, y :: b, h => by
    simp only [Lib.compareBytes] at h
    by_cases h1 : x < y
    · simp [h1] at h
    · by_cases h2 : y < x
      · simp [h1, h2] at h
      · rw [if_neg h1, if_neg h2] at h
        have e : x = y := by
          apply UInt8.toNat_inj.1
          rw [UInt8.lt_iff_toNat_lt] at h1 h2
          omega
        rw [e, cmpB_zero a b h]
theorem trim_inj {a b : Str} (ha : isDig a) (hb : isDig b) : trimM a = trimM b ↔ val a = val b := by
  constructor
  · intro h; rw [← val_trim a, ← val_trim b, h]
  · intro h
    have h1 := cmpM_val ha hb
    rw [h] at h1
    have h0 : cmpI (val b : Int) (val b : Int) = 0 := by unfold cmpI; rw [if_neg (by omega), if_neg (by omega)]
    rw [h0] at h1
    unfold cmpM at h1
    by_cases h2 : cmpI ((trimM a).length : Int) ((trimM b).length : Int) ≠ 0
    · rw [if_pos h2] at h1; exact absurd h1 h2
    · rw [if_neg h2] at h1; exact cmpB_zero _ _ h1

/-! ### The digits that the law makes -/
theorem wrap_u8 {x : Int} (h1 : 0 ≤ x) (h2 : x ≤ 255) : IntKind.wrap .u8 x = x := by
  unfold IntKind.wrap
  simp [IntKind.bits, IntKind.signed]
  omega
theorem digits_ok (s : Str) (hs : s.length ≤ 4611686018427387904) : ∃ t, law01_digits s = some t ∧ isDig t ∧ t.length = s.length := by
  unfold law01_digits
  rw [tob_ok (by omega)]
  simp only [Option.bind_some]
  obtain ⟨t, h1, h2, h3⟩ := loopC_inv (f := law01_digits_l1 (s.map fun c : UInt8 => (c.toNat : Int))) (fun x => ∃ i : Nat, x.2 = i ∧ i ≤ s.length ∧ x.1.length = s.length ∧ ∀ (k : Nat) (y : Int), x.1[k]? = some y → 0 ≤ y ∧ (k < i → 48 ≤ y ∧ y ≤ 57)) (fun x => s.length - x.2.toNat) (fun t => t.length = s.length ∧ ∀ y ∈ t, 48 ≤ y ∧ y ≤ 57) (fun x hx => by
    obtain ⟨l, z⟩ := x
    obtain ⟨i, rfl, h1, h2, h3⟩ := hx
    simp only at h2 h3
    unfold law01_digits_l1
    rcases Nat.lt_or_ge i s.length with h | h
    · right
      have hi : i < l.length := by omega
      have h0 := (h3 i _ (List.getElem?_eq_getElem hi)).1
      refine ⟨(l.set i (IntKind.wrap .u8 (48 + (l[i]).tmod 10)), ((i + 1 : Nat) : Int)), ?_, ⟨i + 1, rfl, h, by simp [h2], fun k y hk => ?_⟩, by simp only [Int.toNat_natCast]; omega⟩
      · simp only [List.length_map]
        rw [if_pos (by simp; omega), ixl_nat hi, w64_id (by omega) (by omega), Int.toNat_natCast]
        rfl
      · have hm1 : 0 ≤ (l[i]).tmod 10 := Int.tmod_nonneg _ h0
        have hm2 : (l[i]).tmod 10 < 10 := Int.tmod_lt_of_pos _ (by omega)
        rw [wrap_u8 (by omega) (by omega)] at hk
        rw [List.getElem?_set] at hk
        split at hk
        · rename_i e
          subst e
          obtain rfl := Option.some.inj hk
          exact ⟨by omega, fun _ => ⟨by omega, by omega⟩⟩
        · have := h3 k y hk
          exact ⟨this.1, fun q => this.2 (by omega)⟩
    · left
      have : i = s.length := by omega
      subst this
      refine ⟨l, ?_, h2, fun y hy => ?_⟩
      · simp only [List.length_map]
        rw [if_neg (by simp)]
      · obtain ⟨k, hk, rfl⟩ := List.mem_iff_getElem.1 hy
        exact (h3 k _ (List.getElem?_eq_getElem hk)).2 (by omega)) (x := (s.map (fun c : UInt8 => (c.toNat : Int)), 0)) ⟨0, rfl, Nat.zero_le _, by simp, fun k y hk => by
      simp only [List.getElem?_map, Option.map_eq_some_iff] at hk
      obtain ⟨c, _, rfl⟩ := hk
      exact ⟨by omega, fun q => absurd q (by omega)⟩⟩
  refine ⟨ofb t, by rw [h1]; rfl, fun c hc => ?_, by simp [ofb, h2]⟩
  simp only [ofb, List.mem_map] at hc
  obtain ⟨y, hy, rfl⟩ := hc
  have := h3 y hy
  rw [UInt8.toNat_ofNat']
  omega

/-! ### The next number -/
theorem takeWhile_all {α : Type} {p : α → Bool} : ∀ {l : List α}, (∀ a ∈ l, p a = true) → l.takeWhile p = l
  | [], _ => rfl
  | a :: l, h => by rw [List.takeWhile_cons_of_pos (h a List.mem_cons_self), takeWhile_all fun b hb => h b (List.mem_cons_of_mem _ hb)]
theorem val_set : ∀ (s : Str) (j : Nat) (c : UInt8) (h : j < s.length), 48 ≤ s[j].toNat → 48 ≤ c.toNat → val (s.set j c) + (s[j].toNat - 48) * 10 ^ (s.length - 1 - j) = val s + (c.toNat - 48) * 10 ^ (s.length - 1 - j)
  | [], _, _, h, _, _ => by simp at h
  | x :: s, 0, c, _, _, _ => by simp only [List.set_cons_zero, val, List.getElem_cons_zero, List.length_cons, Nat.add_sub_cancel, Nat.sub_zero]; omega
  | x :: s, j + 1, c, h, h1, h2 => by
    have ih := val_set s j c (by simpa using h) (by simpa using h1) h2
    simp only [List.set_cons_succ, val, List.getElem_cons_succ, List.length_cons, List.length_set, Nat.add_sub_cancel]
    rw [show s.length - (j + 1) = s.length - 1 - j by omega]
    omega
theorem dig_set {s : Str} {j : Nat} {c : UInt8} (h : isDig s) (hc : 48 ≤ c.toNat ∧ c.toNat ≤ 57) : isDig (s.set j c) := fun x hx => by
  rcases List.mem_or_eq_of_mem_set hx with h' | rfl
  · exact h x h'
  · exact hc
def ints (s : Str) : List Int := s.map fun c => (c.toNat : Int)
theorem ints_set (s : Str) (j : Nat) (c : UInt8) : (ints s).set j (c.toNat : Int) = ints (s.set j c) := by simp [ints, List.map_set]
theorem ofb_ints (s : Str) : ofb (ints s) = s := by
  simp only [ofb, ints, List.map_map]
  conv => rhs; rw [← List.map_id s]
  refine List.map_congr_left fun c _ => ?_
  simp
theorem ints_get {s : Str} {j : Nat} (h : j < s.length) : ixl (ints s) (j : Int) = some (s[j].toNat : Int) := by
  rw [ixl_nat (by simpa [ints] using h)]
  simp [ints]
theorem next_val (s : Str) (hs : s.length ≤ 2305843009213693952) (hd : isDig s) : ∃ n, scan_Next s = some n ∧ isDig n ∧ val n = val s + 1 ∧ n.length ≤ s.length + 2 := by
  have hr : runM s 0 1 = s.length := by
    unfold runM
    rw [if_neg (by omega)]
    unfold runE
    rw [takeWhile_all (p := isP 1) (l := s.drop (Int.toNat 0)) fun c hc => by
      have := hd c (by simpa using hc)
      simp [isP, isB]
      omega]
    simp
  unfold scan_Next
  rw [scan_Run_eq _ _ _ (by omega), hr]
  simp only [Option.bind_some]
  rw [if_neg (by simp), cat_ok (by simp; omega)]
  simp only [Option.bind_some]
  rw [tob_ok (by simp; omega)]
  simp only [Option.bind_some, next_l1_eq]
  have h48 : isDig ([48] ++ s) := fun c hc => by
    rcases List.mem_append.1 hc with h | h
    · simp only [List.mem_singleton] at h; subst h; decide
    · exact hd c h
  have hv : val ([48] ++ s) = val s := by simp [val]
  obtain ⟨⟨l, z⟩, h1, t, j, rfl, rfl, h3, h4, h5, h6, h7⟩ := loopC_inv (f := ref01_Next_l1) (fun x => ∃ (t : Str) (j : Nat), x.1 = ints t ∧ x.2 = j ∧ j < t.length ∧ t.length = s.length + 1 ∧ t[0]? = some 48 ∧ isDig t ∧ val t + 10 ^ (s.length - j) = val s + 1) (fun x => x.2.toNat) (fun x => ∃ (t : Str) (j : Nat), x.1 = ints t ∧ x.2 = j ∧ ∃ h : j < t.length, t.length = s.length + 1 ∧ isDig t ∧ val t + 10 ^ (s.length - j) = val s + 1 ∧ t[j] ≠ 57) (fun x hx => by
    obtain ⟨l, z⟩ := x
    obtain ⟨t, j, h1, h2, h3, h4, h5, h6, h7⟩ := hx
    simp only at h1 h2
    subst h1 h2
    unfold ref01_Next_l1
    simp only [ints_get h3, Option.bind_some]
    by_cases hc : t[j] = 57
    · right
      have hj : j ≠ 0 := by
        rintro rfl
        rw [List.getElem?_eq_getElem h3, hc] at h5
        cases h5
      refine ⟨(ints (t.set j 48), ((j - 1 : Nat) : Int)), ?_, ⟨t.set j 48, j - 1, rfl, rfl, by simp; omega, by simp [h4], by rw [List.getElem?_set_ne hj]; exact h5, dig_set h6 (by decide), ?_⟩, by simp only [Int.toNat_natCast]; omega⟩
      · rw [if_pos (by simp [hc]), w64_id (by omega) (by omega), Int.toNat_natCast, ← ints_set]
        congr 3
        omega
      · have := val_set t j 48 h3 (by rw [hc]; decide) (by decide)
        rw [hc] at this
        have e1 : ((57 : UInt8).toNat - 48) = 9 := by decide
        have e2 : ((48 : UInt8).toNat - 48) = 0 := by decide
        rw [e1, e2, h4, Nat.add_sub_cancel] at this
        rw [show s.length - (j - 1) = s.length - j + 1 by omega, Nat.pow_succ]
        omega
    · left
      refine ⟨(ints t, (j : Int)), ?_, t, j, rfl, rfl, h3, h4, h6, h7, hc⟩
      rw [if_neg]
      intro e
      apply hc
      apply UInt8.toNat_inj.1
      have : (t[j].toNat : Int) = 57 := by simpa using e
      show t[j].toNat = 57
      omega) (x := (ints ([48] ++ s), w64 (((ints ([48] ++ s)).length : Int) - 1))) ⟨[48] ++ s, s.length, rfl, by rw [w64_id (by simp [ints] <;> omega) (by simp [ints] <;> omega)]; simp [ints], by simp, by simp, rfl, h48, by rw [hv]; simp⟩
  have hd2 := h5 t[j] (List.getElem_mem _)
  have hc' : t[j].toNat ≠ 57 := fun q => h7 (by apply UInt8.toNat_inj.1; exact q)
  have hw : IntKind.wrap .u8 ((t[j].toNat : Int) + 1) = ((t[j] + 1 : UInt8).toNat : Int) := by
    rw [wrap_u8 (by omega) (by omega), UInt8.toNat_add]
    simp
    omega
  have hn : (t[j] + 1 : UInt8).toNat = t[j].toNat + 1 := by
    rw [UInt8.toNat_add]
    simp
    omega
  refine ⟨trimM (t.set j (t[j] + 1)), ?_, dig_trim (dig_set h5 (by omega)), ?_, ?_⟩
  · show Option.bind (loopC ref01_Next_l1 (ints ([48] ++ s), w64 (((ints ([48] ++ s)).length : Int) - 1))) _ = _
    rw [h1]
    simp only [Option.bind_some, ints_get h3, hw, Int.toNat_natCast, ints_set, ofb_ints]
    rw [scan_Trim_eq _ (by simp; omega)]
    rfl
  · rw [val_trim]
    have := val_set t j (t[j] + 1) h3 (by omega) (by omega)
    rw [hn, show t[j].toNat + 1 - 48 = t[j].toNat - 48 + 1 by omega, Nat.add_mul, show t.length - 1 - j = s.length - j by omega] at this
    omega
  · have := trimM_len (t.set j (t[j] + 1))
    simp only [List.length_set] at this
    omega

theorem ScanOrder_true (a b c : Str) (ha : a.length ≤ 1048576) (hb : b.length ≤ 1048576) (hc : c.length ≤ 1048576) : law01_ScanOrder a b c = some true := by
  obtain ⟨a, e1, da, la⟩ := digits_ok a (by omega)
  obtain ⟨b, e2, db, lb⟩ := digits_ok b (by omega)
  obtain ⟨c, e3, dc, lc⟩ := digits_ok c (by omega)
  obtain ⟨n, e4, dn, vn, ln⟩ := next_val a (by omega) da
  have dz : isDig ([48] ++ a) := fun c hc => by
    rcases List.mem_append.1 hc with h | h
    · simp only [List.mem_singleton] at h; subst h; decide
    · exact da c h
  have hz : val ([48] ++ a) = val a := by simp [val]
  unfold law01_ScanOrder
  rw [e1, e2, e3]
  simp only [Option.bind_some]
  rw [scan_Cmp_eq a b (by omega) (by omega), scan_Cmp_eq b c (by omega) (by omega), scan_Cmp_eq a c (by omega) (by omega), scan_Cmp_eq b a (by omega) (by omega), scan_Cmp_eq a a (by omega) (by omega), scan_Trim_eq a (by omega), scan_Trim_eq b (by omega), e4, cat_ok (by simp; omega)]
  simp only [Option.bind_some]
  rw [scan_Cmp_eq a n (by omega) (by omega), scan_Cmp_eq n b (by omega) (by omega), scan_Cmp_eq _ a (by simp; omega) (by omega)]
  simp only [Option.bind_some]
  rw [cmpM_val da db, cmpM_val db dc, cmpM_val da dc, cmpM_val db da, cmpM_val da da, cmpM_val da dn, cmpM_val dn db, cmpM_val dz da, vn, hz]
  have ht : (trimM a == trimM b) = decide (val a = val b) := by
    rw [Bool.eq_iff_iff]
    simp [trim_inj da db]
  rw [ht]
  generalize val a = x
  generalize val b = y
  generalize val c = z
  have h1 : cmpI (x : Int) ((x + 1 : Nat) : Int) = -1 := by unfold cmpI; rw [if_pos (by omega)]
  have h2 : cmpI (x : Int) (x : Int) = 0 := by unfold cmpI; rw [if_neg (by omega), if_neg (by omega)]
  have h3 : (cmpI (y : Int) (x : Int) != w64 (0 - cmpI (x : Int) (y : Int))) = false := by
    unfold cmpI
    rcases Nat.lt_trichotomy x y with h | h | h
    · rw [if_neg (by omega), if_pos (by omega), if_pos (by omega)]; decide
    · rw [if_neg (by omega), if_neg (by omega), if_neg (by omega), if_neg (by omega)]; decide
    · rw [if_pos (by omega), if_neg (by omega), if_pos (by omega)]; decide
  have h4 : (decide (cmpI (x : Int) (y : Int) ≤ 0) && decide (cmpI (y : Int) (z : Int) ≤ 0) && decide (cmpI (x : Int) (z : Int) > 0)) = false := by
    unfold cmpI
    rw [Bool.and_eq_false_iff, Bool.and_eq_false_iff]
    by_cases g1 : (y : Int) < x
    · left; left; rw [if_neg (by omega), if_pos g1]; rfl
    · by_cases g2 : (z : Int) < y
      · left; right; rw [if_neg (by omega), if_pos g2]; rfl
      · right
        by_cases g3 : (x : Int) < z
        · rw [if_pos g3]; rfl
        · rw [if_neg g3, if_neg (by omega)]; rfl
  have h5 : (!((cmpI (x : Int) (y : Int) == 0) == decide (x = y))) = false := by
    unfold cmpI
    rcases Nat.lt_trichotomy x y with h | h | h
    · rw [if_pos (by omega), decide_eq_false (by omega)]; rfl
    · rw [if_neg (by omega), if_neg (by omega), decide_eq_true (by omega)]; rfl
    · rw [if_neg (by omega), if_pos (by omega), decide_eq_false (by omega)]; rfl
  have h6 : cmpI (x : Int) (y : Int) ≥ 0 ∨ cmpI ((x + 1 : Nat) : Int) (y : Int) ≤ 0 := by
    unfold cmpI
    by_cases g : (x : Int) < y
    · right
      by_cases g2 : ((x + 1 : Nat) : Int) < y
      · rw [if_pos g2]; decide
      · rw [if_neg g2, if_neg (by omega)]; decide
    · left; rw [if_neg g]; split <;> decide
  simp only [h3, h2, h4, h5, h1, Bool.false_eq_true, if_false, if_true, bne_self_eq_false, Option.bind_some, Bool.or_false, beq_self_eq_true, law01_awake]
  by_cases g : cmpI (x : Int) (y : Int) ≥ 0
  · simp [g]
  · have this : cmpI ((x : Int) + 1) (y : Int) ≤ 0 := h6.resolve_left g
    simp only [decide_eq_true_eq]
    rw [if_neg g]
    simp [this]
end Go.Vm

/- Plain laws of chapter 1: classes, runs, words, small letters. -/
set_option linter.unusedVariables false
set_option linter.unusedSimpArgs false
namespace Go.Vm
open Go

/-- A loop that changes each element of a row. -/
theorem map_loop {F : List Int × Int → Option (Step (List Int × Int) (List Int))} {f : Int → Int} {N : Nat} (h1 : ∀ (l : List Int) (i : Nat) (h : i < l.length), l.length = N → F (l, (i : Int)) = some (.next (l.set i (f l[i]), ((i + 1 : Nat) : Int)))) (h2 : ∀ l : List Int, l.length = N → F (l, (N : Int)) = some (.done l)) {l : List Int} (hl : l.length = N) :
    loopC F (l, 0) = some (l.map f) := by
  have := loopC_fun (f := F) (fun x => ∃ i : Nat, x.2 = i ∧ i ≤ N ∧ x.1.length = N) (fun x => N - x.2.toNat) (fun x => x.1.take x.2.toNat ++ (x.1.drop x.2.toNat).map f) (fun x hx => by
    obtain ⟨l, z⟩ := x
    obtain ⟨i, e, hi, hl⟩ := hx
    simp only at e hl
    subst e
    simp only [Int.toNat_natCast]
    rcases Nat.lt_or_ge i N with h | h
    · right
      have hi : i < l.length := by omega
      refine ⟨_, h1 l i hi hl, ⟨i + 1, rfl, h, by simp [hl]⟩, by simp only [Int.toNat_natCast]; omega, ?_⟩
      simp only [Int.toNat_natCast]
      rw [List.drop_eq_getElem_cons hi, List.drop_set_of_lt (by omega), List.take_add_one, List.take_set_of_le (Nat.le_refl _)]
      simp only [List.getElem?_set_self hi, Option.toList_some, List.append_assoc, List.map_cons, List.singleton_append]
    · have : i = N := by omega
      subst this
      left
      rw [h2 l hl]
      simp [← hl]) (x := (l, 0)) ⟨0, rfl, Nat.zero_le _, hl⟩
  simpa using this
def lowI (c : Int) : Int := if isB c 3 = true then IntKind.wrap .u8 (c + 32) else c
theorem scan_Lower_eq (s : Str) (hs : s.length ≤ 4611686018427387904) : scan_Lower s = some (ofb ((s.map fun c : UInt8 => (c.toNat : Int)).map lowI)) := by
  unfold scan_Lower
  rw [tob_ok (by omega)]
  simp only [Option.bind_some]
  rw [map_loop (N := s.length) (f := lowI) ?_ ?_ (by simp)]
  · rfl
  · intro l i hi hl
    unfold scan_Lower_l1 lowI
    simp only [List.length_map]
    rw [if_pos (by simp; omega), ixl_nat hi, w64_id (by omega) (by omega), Int.toNat_natCast]
    simp only [Option.bind_some, scan_Is_eq]
    cases isB l[i] 3 with
    | true => rfl
    | false => simp
  · intro l hl
    unfold scan_Lower_l1
    simp only [List.length_map]
    rw [if_neg (by simp)]
theorem ref01_Lower_eq (s : Str) (hs : s.length ≤ 4611686018427387904) : ref01_Lower s = some (ofb ((s.map fun c : UInt8 => (c.toNat : Int)).map lowI)) := by
  unfold ref01_Lower
  rw [tob_ok (by omega)]
  simp only [Option.bind_some]
  rw [map_loop (N := s.length) (f := lowI) ?_ ?_ (by simp)]
  · rfl
  · intro l i hi hl
    unfold ref01_Lower_l1 lowI
    simp only []
    rw [if_pos (by simp; omega), ixl_nat hi, w64_id (by omega) (by omega), Int.toNat_natCast]
    simp only [Option.bind_some, ref01_Is_eq]
    cases isB l[i] 3 with
    | true => rfl
    | false => simp
  · intro l hl
    unfold ref01_Lower_l1
    simp only []
    rw [if_neg (by simp [hl])]

/-! ### Words -/
def stM (s : Str) (at' : Int) (w : Str) : Bool := decide (0 ≤ at' ∧ at' ≤ s.length) && ((s.drop at'.toNat).take w.length == w)
def wordS (s : Str) (at' : Int) (b : Str × Bool) (w : Str) : Str × Bool := if (stM s at' w && (!b.2 || decide (b.1.length < w.length))) = true then (w, true) else b
theorem take_short {l w : Str} (h : (l.take w.length == w) = true) : w.length ≤ l.length := by
  have := congrArg List.length (eq_of_beq h)
  simp only [List.length_take] at this
  omega
theorem hasPrefix_eq (s w : Str) : strings_HasPrefix s w = some (s.take w.length == w) := by
  unfold strings_HasPrefix stringslite_HasPrefix
  by_cases h : w.length ≤ s.length
  · rw [if_pos (by simp; omega), subl_take h]
    rfl
  · rw [if_neg (by simp; omega)]
    have : (s.take w.length == w) = false := by
      rw [Bool.eq_false_iff]
      intro q
      exact h (take_short q)
    rw [this]
    rfl
theorem starts_eq (s : Str) (at' : Int) (w : Str) (hs : s.length ≤ 4611686018427387904) : ref01_Starts s at' w = some (stM s at' w) := by
  unfold ref01_Starts stM
  by_cases h : 0 ≤ at' ∧ at' ≤ s.length
  · obtain ⟨n, rfl⟩ : ∃ n : Nat, at' = n := ⟨at'.toNat, by omega⟩
    rw [decide_eq_true h, w64_id (x := (s.length : Int) - n) (by omega) (by omega)]
    simp only [Bool.true_and, Int.toNat_natCast]
    by_cases h2 : w.length ≤ s.length - n
    · rw [if_pos (by simp; omega), w64_id (by omega) (by omega), show (n : Int) + (w.length : Int) = ((n + w.length : Nat) : Int) by omega, subl_nat (by omega) (by omega), Nat.add_sub_cancel_left]
      rfl
    · rw [if_neg (by simp; omega)]
      have : ((s.drop n).take w.length == w) = false := by
        rw [Bool.eq_false_iff]
        intro q
        have := take_short q
        simp only [List.length_drop] at this
        omega
      rw [this]
      rfl
  · rw [decide_eq_false h, if_neg (by simp; omega)]
    rfl
/-- A loop over a row of words. -/
theorem fold_loop {F : Str × Bool × Int → Option (Step (Str × Bool × Int) (Str × Bool))} {st : Str × Bool → Str → Str × Bool} {ws : List Str} (h1 : ∀ (b : Str) (o : Bool) (i : Nat) (h : i < ws.length), F (b, o, (i : Int)) = some (.next ((st (b, o) ws[i]).1, (st (b, o) ws[i]).2, ((i + 1 : Nat) : Int)))) (h2 : ∀ (b : Str) (o : Bool), F (b, o, (ws.length : Int)) = some (.done (b, o))) (b : Str) (o : Bool) :
    loopC F (b, o, 0) = some (ws.foldl st (b, o)) := by
  have := loopC_fun (f := F) (fun x => ∃ i : Nat, x.2.2 = i ∧ i ≤ ws.length) (fun x => ws.length - x.2.2.toNat) (fun x => (ws.drop x.2.2.toNat).foldl st (x.1, x.2.1)) (fun x hx => by
    obtain ⟨b, o, z⟩ := x
    obtain ⟨i, e, hi⟩ := hx
    simp only at e
    subst e
    simp only [Int.toNat_natCast]
    rcases Nat.lt_or_ge i ws.length with h | h
    · right
      refine ⟨_, h1 b o i h, ⟨i + 1, rfl, h⟩, by simp only [Int.toNat_natCast]; omega, ?_⟩
      simp only [Int.toNat_natCast]
      rw [List.drop_eq_getElem_cons h, List.foldl_cons]
    · have : i = ws.length := by omega
      subst this
      left
      rw [h2]
      simp) (x := (b, o, 0)) ⟨0, rfl, Nat.zero_le _⟩
  simpa using this
theorem word_out {s : Str} {at' : Int} (h : ¬(0 ≤ at' ∧ at' ≤ s.length)) : ∀ ws : List Str, ws.foldl (wordS s at') ([], false) = ([], false)
  | [] => rfl
  | w :: ws => by
    rw [List.foldl_cons]
    have : wordS s at' ([], false) w = ([], false) := by
      unfold wordS stM
      rw [decide_eq_false h]
      simp
    rw [this]
    exact word_out h ws
theorem scan_Word_eq (s : Str) (at' : Int) (ws : List Str) (hs : s.length ≤ 4611686018427387904) (hw : ws.length ≤ 4611686018427387904) : scan_Word s at' ws = some (ws.foldl (wordS s at') ([], false)) := by
  unfold scan_Word
  by_cases h : 0 ≤ at' ∧ at' ≤ s.length
  · rw [if_neg (by simp; omega), fold_loop (ws := ws) (st := wordS s at') ?_ ?_]
    · rfl
    · intro b o i hi
      unfold scan_Word_l1
      obtain ⟨n, rfl⟩ : ∃ n : Nat, at' = n := ⟨at'.toNat, by omega⟩
      simp only []
      rw [if_pos (by simp; omega), ixl_nat hi, w64_id (by omega) (by omega), subl_drop (by omega)]
      simp only [Option.bind_some, hasPrefix_eq]
      unfold wordS stM
      rw [decide_eq_true h]
      simp only [Bool.true_and, Int.toNat_natCast, gt_iff_lt, Int.ofNat_lt]
      split <;> rfl
    · intro b o
      unfold scan_Word_l1
      simp only []
      rw [if_neg (by simp)]
  · rw [if_pos (by simp; omega), word_out h]
theorem ref01_Word_eq (s : Str) (at' : Int) (ws : List Str) (hs : s.length ≤ 4611686018427387904) (hw : ws.length ≤ 4611686018427387904) : ref01_Word s at' ws = some (ws.foldl (wordS s at') ([], false)) := by
  unfold ref01_Word
  rw [fold_loop (ws := ws) (st := wordS s at') ?_ ?_]
  · rfl
  · intro b o i hi
    unfold ref01_Word_l1
    simp only []
    rw [if_pos (by simp; omega), ixl_nat hi, w64_id (by omega) (by omega)]
    simp only [Option.bind_some, starts_eq _ _ _ hs]
    unfold wordS
    simp only [gt_iff_lt, Int.ofNat_lt]
    cases stM s at' ws[i] with
    | false => simp
    | true =>
      cases o with
      | false => simp
      | true =>
        simp
        split <;> rfl
  · intro b o
    unfold ref01_Word_l1
    simp only []
    rw [if_neg (by simp)]
theorem runs_l1 (k : Int) : loopC (law01_ScanRuns_l1 k) 0 = some (Sum.inr ()) := by
  refine loopC_fun (f := law01_ScanRuns_l1 k) (fun x => ∃ i : Nat, x = i ∧ i ≤ 256) (fun x => 256 - x.toNat) (fun _ => Sum.inr ()) (fun x hx => ?_) ⟨0, rfl, Nat.zero_le _⟩
  obtain ⟨i, rfl, hi⟩ := hx
  unfold law01_ScanRuns_l1
  rcases Nat.lt_or_ge i 256 with h | h
  · right
    refine ⟨((i + 1 : Nat) : Int), ?_, ⟨i + 1, rfl, h⟩, by simp only [Int.toNat_natCast]; omega, rfl⟩
    rw [if_pos (by simp; omega), scan_Is_eq, ref01_Is_eq, w64_id (by omega) (by omega)]
    simp
  · left
    rw [if_neg (by simp; omega)]
theorem len_le_sum {α : Type} {μ : α → Nat} : ∀ l : List α, l.length ≤ (l.map fun x => μ x + 1).sum
  | [] => Nat.le_refl _
  | x :: l => by have := len_le_sum (μ := μ) l; simp only [List.length_cons, List.map_cons, List.sum_cons]; omega
theorem ScanRuns_true (s : Str) (at' : Int) (k : Int) (ws : List Str) (_ : (Lit.int .i64 at').wf = true) (_ : (Lit.int .i64 k).wf = true) (hs : s.length + 1 ≤ 1048576) (hw' : (ws.map fun y => y.length + 1).sum + 1 ≤ 1048576) : law01_ScanRuns s at' k ws = some true := by
  have hw : ws.length ≤ 1048576 := Nat.le_trans (len_le_sum (μ := fun y : Str => y.length) ws) (by omega)
  unfold law01_ScanRuns
  rw [runs_l1, scan_Word_eq _ _ _ (by omega) (by omega), ref01_Word_eq _ _ _ (by omega) (by omega), scan_Run_eq _ _ _ (by omega), ref01_Run_eq _ _ _ (by omega), scan_Lower_eq _ (by omega), ref01_Lower_eq _ (by omega)]
  simp [law01_awake]
end Go.Vm

/- The law 'dovetaillaw01.ScanRuns' is true wherever what it reads is of bulk at most 1048576; each argument reads behind the call as it read before. -/
set_option maxRecDepth 100000
set_option linter.unusedVariables false
set_option linter.unusedSimpArgs false
namespace Go.Proofs.YtfkifahbmemepaaDoor.scanRuns
open Go.ChangeMaps Go.ChangeShapes Go.WideShapes Go.ChangeAt Go.RowKit Go.Vm
theorem own : ownKnob Tryd.prog.godebug = none := by kernel_rfl
def litV : Lit → Value
  | .bool b => .bool b
  | .int k n => .int k n
  | .float k b => .float k b
  | .string l => .string ⟨l.toArray⟩
  | .nil => .pointer none
def dvals1 : DataW Unit → List Value
  | .lit l => [litV l]
  | _ => []
def dvals2 : DataW Unit → List Value
  | .lit l => [litV l]
  | .agg ps => ps.flatMap dvals1
  | _ => []
def dvals3 : DataW Unit → List Value
  | .agg ps => ps.flatMap dvals2
  | _ => []
def layB (l : List Value) : Obj → Obj
  | .cells _ t frozen => .cells l.toArray t frozen
  | o => o
noncomputable def laidWorld (os : Os) : World :=
  { World.holding Tryd.prog os ⟨#[], #[], []⟩ with heap := ((World.holding Tryd.prog os ⟨#[], #[], []⟩).heap.modify 1 (layB (dvals3 Rows.laid_unicode_utf8_first))).modify 2 (layB (dvals3 Rows.laid_unicode_utf8_acceptRanges)) }
theorem laid_met (os : Os) : laidMet Tryd.prog Rows.scanRunsUptoRow.laid ((laidWorld os).forCall (fun _ _ => 0) ⟨#[], #[.string ⟨#[]⟩, .int .i64 0, .int .i64 0, .slice none 0 0], []⟩).memory :=
  laidMet_of_run' 8 (by kernel_rfl) (by kernel_rfl)
theorem reads (os : Os) {H : Type} (enc : TypeId × Value → H) : ∃ places, DataW.whole enc Tryd.prog ((laidWorld os).forCall (fun _ _ => 0) ⟨#[], #[.string ⟨#[]⟩, .int .i64 0, .int .i64 0, .slice none 0 0], []⟩).memory Tryd.f6.params.toList Rows.scanRunsSpec.vars false (#[.string ⟨#[]⟩, .int .i64 0, .int .i64 0, .slice none 0 0] : Array Value).toList 8 = some ([.lit (.string []), .lit (.int .i64 0), .lit (.int .i64 0), .nil], [], places) :=
  ⟨[], by kernel_rfl⟩
theorem bulk_pos {H : Type} : ∀ d : DataW H, 1 ≤ Rows.uptoBulk d := fun d => by cases d <;> (try rename_i l; cases l) <;> simp [Rows.uptoBulk]
theorem contract (H : Type) (enc : TypeId × Value → H) (W : World) (base : Nat) (args : Array Value) (ds gs : List (DataW H)) (before : List MemPlace)
    (hval : ∀ (j : Nat) t v, Tryd.f6.params[j]? = some t → args[j]? = some v → Value.okWide Tryd.prog W .any base t v)
    (hW : DataW.Whole enc Tryd.prog Tryd.f6.params.toList Rows.scanRunsSpec.vars false W args.toList ds gs before) (hk : Rows.uptoSmall H (ds ++ gs) = true) :
    Calls Tryd.prog 6 args W fun e W' => ∃ v, e = .returned v ∧ Rows.scanRunsSpec.post enc Tryd.prog Tryd.f6 false true false false W args v W' := by
  have hW' := hW
  obtain ⟨p, q, hA0, hV, rfl, hfz, hnd⟩ := hW
  have hA : DataW.TrodAll enc Tryd.prog W 0 (fun _ => true) true Tryd.f6.params.toList args.toList ds p := hA0
  rw [Tryd.params6] at hA hval
  have hA1 := hA
  obtain ⟨v0, vs0, d0, ds0, p0, q0, hargs, rfl, rfl, h0, r0⟩ := trodAll_cons hA
  obtain ⟨v1, vs1, d1, ds1, p1, q1, rfl, rfl, rfl, h1, r1⟩ := trodAll_cons r0
  obtain ⟨v2, vs2, d2, ds2, p2, q2, rfl, rfl, rfl, h2, r2⟩ := trodAll_cons r1
  obtain ⟨v3, vs3, d3, ds3, p3, q3, rfl, rfl, rfl, h3, r3⟩ := trodAll_cons r2
  obtain ⟨rfl, rfl, rfl⟩ := trodAll_nil r3
  obtain rfl : args = #[v0, v1, v2, v3] := by cases args; simp_all
  obtain ⟨rfl, rfl⟩ := trodVars_none hV
  have B : BulkOk (Rows.uptoBulk (H := H)) Rows.uptoBulkAll := ⟨rfl, fun _ _ => rfl, bulk_pos, fun _ => rfl, fun _ _ => rfl, fun _ => rfl⟩
  obtain ⟨a0, r0', k0, m0, s0⟩ := Rd.arg1 (Rd.str B Tryd.underlying9) (cells_string Tryd.underlying9 (hval 0 9 v0 rfl rfl)) h0
  obtain ⟨a1, r1', k1, m1, s1⟩ := Rd.arg1 (Rd.int B Tryd.underlying3) (cells_int Tryd.underlying3 (hval 1 3 v1 rfl rfl)) h1
  obtain ⟨a2, r2', k2, m2, s2⟩ := Rd.arg1 (Rd.int B Tryd.underlying3) (cells_int Tryd.underlying3 (hval 2 3 v2 rfl rfl)) h2
  obtain ⟨a3, r3', k3, m3, s3⟩ := Rd.arg1 (Rd.slice B (Rd.str B Tryd.underlying9) Tryd.underlying35 (by kernel_rfl) (by decide)) (cells_slice Tryd.underlying35 (hval 3 35 v3 rfl rfl)) h3
  have hbulk := of_decide_eq_true hk
  simp only [List.append_nil, Rows.uptoBulkAll] at hbulk
  have hp : law01_ScanRuns a0 a1 a2 a3 = some true := ScanRuns_true a0 a1 a2 a3 k1 k2 (Nat.le_trans m0 (by omega)) (Nat.le_trans m3 (by omega))
  refine (law_true (law01_ScanRuns_ok a0 a1 a2 a3) hp rfl (vs' := [bs a0, iv a1, iv a2, .fsl 1 (List.map cS a3)]) ⟨s0, s1, s2, s3, trivial⟩ rfl W (cargs := #[v0, v1, v2, v3]) ⟨r0', r1', r2', r3', trivial⟩).mono fun e W' ⟨he, h1, h2, h3, h4, h5⟩ => ?_
  have hb : Below W.heap.size W W' := ⟨h1, h2, h3, h4, h5⟩
  subst he
  exact ⟨_, rfl, row_below (pv := []) hW' hb rfl (fun _ _ _ => trodAll_cons_mk (shut_bool Tryd.underlying4 _) trodAll_mk0) (fun sp hsp => args_stay (by kernel_rfl) hb (ts := [9, 3, 3, 35]) (by decide +kernel) hA1 (fun x hx => hW'.lt x (List.mem_append_left _ hx)) (fun x hx => hsp x (List.mem_append_left _ hx))) (fun _ _ => rfl) (ok_one (by kernel_rfl) rfl (okWide_bool_mk Tryd.underlying4 _))⟩
set_option maxRecDepth 100000 in
theorem liftedUpto (os : Os) (started : os.Started) (H : Type) (enc : TypeId × Value → H) (F : Stop.Interp) :
    ReturnsInHanded {} Tryd.checked os 6 .any ((Rows.OpenSpec.upto Rows.scanRunsSpec).preRow enc Tryd.prog Tryd.f6 Rows.scanRunsUptoRow.domain false Rows.scanRunsUptoRow.laid) (((Rows.OpenSpec.upto Rows.scanRunsSpec).at F).post enc Tryd.prog Tryd.f6 false true false false) := by
  obtain ⟨places, hx⟩ := reads os enc
  refine returnsInHanded_of_row (C := Tryd.checked) (s := Rows.OpenSpec.upto Rows.scanRunsSpec) own started (by kernel_rfl) Tryd.func6
    (witness_row_at (enc := enc) (C := Tryd.checked) false (laidWorld os) #[.string ⟨#[]⟩, .int .i64 0, .int .i64 0, .slice none 0 0] rfl (by kernel_rfl) (by kernel_rfl) (by kernel_rfl)
      (OpenSpec.preRow_of_cond 8 hx (by kernel_rfl) (fun k hk => by cases hk; kernel_rfl) (by kernel_rfl) (laid_met os))) ?_
  intro W base args ds gs before hval hW _ hcond _ hL _ _
  exact contract H enc W base args ds gs before hval hW (hcond _ rfl)
theorem saidUpto : Rows.ScanRunsUptoSaid :=
  OpenClaim.holds_of_cond 6 Tryd.f6 rfl rfl rfl rfl rfl rfl rfl ⟨rfl, rfl, rfl, rfl, rfl⟩ rfl rfl rfl rfl rfl (by kernel_rfl) Tryd.func6 (by kernel_rfl)
    (of_decide_eq_true (by kernel_rfl)) (by unfold Func.isWrapper; first | (rw [if_pos (by decide +kernel)]; kernel_rfl) | (rw [if_neg (by decide +kernel)]; exact ⟨rfl, rfl⟩))
    (fun os started H enc _ F => by rw [OpenClaim.pre_eq_preRow]; exact liftedUpto os started H enc F)
theorem plain (f : FuncId) (fn : Func) (hf : Tryd.pinned.checked.prog.funcNamed "dovetail/dovetaillaw01.ScanRuns" = some f) (hfn : Tryd.pinned.checked.prog.funcs[f]? = some fn) :
    false = Tryd.pinned.checked.prog.looks [] ∧ ∀ (j : Nat) t, fn.params[j]? = some t → Tryd.pinned.checked.prog.wantsStandIn t = false := by
  obtain rfl : f = 6 := Option.some.inj ((show Tryd.prog.funcNamed "dovetail/dovetaillaw01.ScanRuns" = some 6 by kernel_rfl).symm.trans hf) |>.symm
  obtain rfl : fn = Tryd.f6 := (Option.some.inj (Tryd.func6.symm.trans hfn)).symm
  refine ⟨by kernel_rfl, fun j t ht => ?_⟩
  have hall : (Tryd.f6.params.toList.all fun t => !(Tryd.prog.wantsStandIn t)) = true := by kernel_rfl
  have := List.all_eq_true.1 hall t (by have := Array.mem_of_getElem? ht; simpa using this)
  have h2 : Tryd.prog.wantsStandIn t = false := by simpa using this
  exact h2
theorem cardUpto : Rows.ScanRunsUptoCardSaid :=
  Claim7.holds_tied_plain_at .later [] _ _ _ _ saidUpto (fun _ h => by cases h) (by kernel_rfl) (fun _ h => by cases h) scanRunsUpto_row_tie rfl ⟨rfl, rfl⟩ (by kernel_rfl) rfl plain (by kernel_rfl)
end Go.Proofs.YtfkifahbmemepaaDoor.scanRuns

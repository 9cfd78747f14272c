/- The law RpmReads, a part of its proof: what the functions that it reaches compute. -/
import Derived.WalkKit
import Derived.ProofKit
import Derived.OpenShut
import Derived.Below
import Derived.ChangeSame
import Derived.Deep.DeepHandedRow
import Derived.Carry
import Derived.Test.YtfkifahbmemepaaDoorDx1e28a0ba
import Derived.Shelf.Small.Strs
import Derived.Deep.Strs
import Derived.Test.YtfkifahbmemepaaDoorCx2b696069
import Derived.Test.YtfkifahbmemepaaDoorG0RpmReads
import Derived.Test.YtfkifahbmemepaaDoorG2RpmReads
import Derived.Test.YtfkifahbmemepaaDoorG1RpmReads
import Derived.Test.YtfkifahbmemepaaDoorW05RpmReads
/- What a row asks behind a call that has left all that was there as it was. -/
namespace Go.Vm
open Go Go.RowKit Go.WideShapes Go.ChangeShapes
theorem row_below {H : Type} {enc : TypeId × Value → H} {P : Program} {f : Func} {s : ChangeSpec} {apart fresh handsOn again : Bool} {W W' : World} {args : Array Value} {v : Value} {ds gs : List (DataW H)} {before pa pv : List MemPlace}
    (hW : DataW.Whole enc P f.params.toList s.vars apart W args.toList ds gs before) (hb : Below W.heap.size W W') (hp : before = pa ++ pv)
    (hr : ∀ (b : Nat) (sp : Nat → Bool) (hd : Bool), DataW.TrodAll enc P W' b sp hd f.resultTypes.toList (v.resultList f.resultTypes.size) (s.fn H (ds ++ gs)).results [])
    (ha : ∀ sp : Nat → Bool, (∀ p ∈ before, sp p.block = true) → DataW.TrodAll enc P W' 0 sp true f.params.toList args.toList (s.fn H (ds ++ gs)).args pa)
    (hv : ∀ sp : Nat → Bool, (∀ p ∈ before, sp p.block = true) → DataW.TrodVars enc P W' sp s.vars (s.fn H (ds ++ gs)).vars pv)
    (ho : ∀ (j : Nat) (t : TypeId) (r : Value), f.resultTypes[j]? = some t → (v.resultList f.resultTypes.size)[j]? = some r → Value.okWide P W' .any 0 t r) :
    s.post enc P f apart fresh handsOn again W args v W' := by
  have small : ∀ p ∈ before, decide (p.block < W.heap.size) = true := fun p h => decide_eq_true (hW.lt p h)
  refine ⟨ds, gs, before, [], pa, pv, hW, hr _ _ _, ha (fun b => decide (b < W.heap.size)) small, hv _ small, hb.frame _, fun _ => ⟨ho, ?_⟩⟩
  obtain ⟨_, _, _, _, _, hz, hn⟩ := hW
  refine ⟨_, _, ([] ++ pa) ++ pv, ⟨[] ++ pa, pv, trodAll_append (ha _ fun _ _ => rfl) (hr _ _ _), hv _ fun _ _ => rfl, rfl, fun b off hm => ?_, fun h => ?_⟩, ?_⟩
  · have hm' : MemPlace.cell b off ∈ before := by rw [hp]; simpa using hm
    rw [hb.frozen (of_decide_eq_true (small _ hm'))]
    exact hz b off hm'
  · have := hn h
    rw [hp] at this
    simpa using this
  · intro x hx _
    rw [hp]
    simpa using hx
end Go.Vm

set_option maxRecDepth 100000
namespace Go.Proofs
open Go.Shelf
def Tryd.renCf : Nat → Nat
  | 213 => 109
  | 265 => 129
  | n => n
def Tryd.renIf : Nat → Nat
  | 137 => 111
  | 217 => 130
  | 266 => 138
  | n => n
def Tryd.renC : Ren := ⟨Tryd.renCf, fun n => n, fun n => n⟩
def Tryd.renI : Ren := ⟨Tryd.renIf, fun n => n, fun n => n⟩
theorem Tryd.lays213 : Lays.n213 Tryd.prog Tryd.renC where
  mixed := by kernel_rfl
  f213 := by kernel_rfl
  f265 := by kernel_rfl
  t3 := by kernel_rfl
  a3 := Tryd.isAgg3
  z3 := Tryd.sizeOf3
  v3 := Tryd.zeroValue3
  t9 := by kernel_rfl
  a9 := Tryd.isAgg9
  z9 := Tryd.sizeOf9
  v9 := Tryd.zeroValue9
theorem Tryd.lays137 : Lays.n137 Tryd.prog Tryd.renI where
  mixed := by kernel_rfl
  f137 := by kernel_rfl
  f217 := by kernel_rfl
  f266 := by kernel_rfl
  t3 := by kernel_rfl
  a3 := Tryd.isAgg3
  z3 := Tryd.sizeOf3
  v3 := Tryd.zeroValue3
  t5 := by kernel_rfl
  a5 := Tryd.isAgg5
  z5 := Tryd.sizeOf5
  v5 := Tryd.zeroValue5
  t9 := by kernel_rfl
  a9 := Tryd.isAgg9
  z9 := Tryd.sizeOf9
  v9 := Tryd.zeroValue9
end Go.Proofs
namespace Go.Vm
open Go
def funcOk (fn : Func) : Bool := !(fn.name == "runtime.NumGoroutine") && (match fn.body with | some c => codeOk c | none => true)
theorem funcsOk : E.P.funcs.toList.all funcOk = true := by kernel_rfl
theorem cmp_calls (a b : ByteArray) (w : World) : Calls E.P 109 #[.string a, .string b] w fun e w' => e = .returned (.int .i64 (Lib.compareBytes a.data.toList b.data.toList)) ∧ w' = w := Go.Proofs.Any.bytealg_CompareString Go.Proofs.Tryd.lays213 a b w
theorem ixb_calls (a : ByteArray) (c : Int) (w : World) : Calls E.P 111 #[.string a, .int .u8 c] w fun e w' => e = .returned (.int .i64 (Lib.indexByte a.data.toList c.toNat.toUInt8)) ∧ w' = w := Go.Proofs.Any.strings_IndexByte Go.Proofs.Tryd.lays137 a c w
theorem post_same {K : Cx} {base : Nat} {h : AHeap} (H : HRel K base h) {v : AV} {cv : Value} (hv : VRel K v cv) : CallPost K base h K.c v (.returned cv) K.w := ⟨K, cv, rfl, rfl, Cx.Step.refl K, H, rfl, hv⟩
theorem envOk : EnvOk E := by
  have key : ∀ (f : FuncId) (fn : Func), E.P.funcs[f]? = some fn → funcOk fn = true := fun f fn hf => by
    have := List.all_eq_true.1 funcsOk fn (by
      obtain ⟨h1, h2⟩ := Array.getElem?_eq_some_iff.1 hf
      rw [← h2]
      simp)
    exact this
  refine ⟨fun f fn hf => ?_, fun f fn c hf hc => ?_, fun g p hp => ?_⟩
  · have := key f fn hf
    unfold funcOk at this
    rw [Bool.and_eq_true] at this
    simpa using this.1
  · have := key f fn hf
    unfold funcOk at this
    rw [Bool.and_eq_true, hc] at this
    exact this.2
  · simp only [E] at hp
    split at hp
    · rename_i hg
      subst hg
      cases hp
      refine ⟨⟨Go.Proofs.Tryd.f109, by kernel_rfl, by kernel_rfl⟩, fun args v hv K base h cargs H hr N => ?_⟩
      unfold cmpP at hv
      split at hv
      · rename_i a b
        cases hv
        obtain ⟨cl, rfl⟩ : ∃ l : List Value, cargs = l.toArray := ⟨cargs.toList, by simp⟩
        match cl, hr with
        | [x, y], hr =>
          simp only [VRels, VRel] at hr
          obtain ⟨rfl, rfl, _⟩ := hr
          refine callsIn_wide.2 ((cmp_calls a b K.w).mono ?_)
          rintro e w' ⟨rfl, rfl⟩
          exact post_same H (by simp [VRel])
        | [], hr => simp [VRels] at hr
        | [_], hr => simp [VRels] at hr
        | _ :: _ :: _ :: _, hr => simp [VRels] at hr
      · cases hv
    · split at hp
      · rename_i hg
        subst hg
        cases hp
        refine ⟨⟨Go.Proofs.Tryd.f111, by kernel_rfl, by kernel_rfl⟩, fun args v hv K base h cargs H hr N => ?_⟩
        unfold ixbP at hv
        split at hv
        · rename_i a c
          cases hv
          obtain ⟨cl, rfl⟩ : ∃ l : List Value, cargs = l.toArray := ⟨cargs.toList, by simp⟩
          match cl, hr with
          | [x, y], hr =>
            simp only [VRels, VRel] at hr
            obtain ⟨rfl, rfl, _⟩ := hr
            refine callsIn_wide.2 ((ixb_calls a c K.w).mono ?_)
            rintro e w' ⟨rfl, rfl⟩
            exact post_same H (by simp [VRel])
          | [], hr => simp [VRels] at hr
          | [_], hr => simp [VRels] at hr
          | _ :: _ :: _ :: _, hr => simp [VRels] at hr
        · cases hv
      · cases hp

theorem law_true {g : FuncId} {vs vs' : List AV} {m : Option Bool} (hc : Ct E g vs m (fun r => bv r)) (hm : m = some true) (hp : E.prim g = none) (hv : All2 (VLe Rn.nil) vs vs') (hs : snapL (snap AHeap.nil depth) vs' = some (vs', false)) (w : World) {cargs : Array Value}
    (hr : VRels { w := w, ι := fun _ => (0, 0, 0), L := fun _ => False, X := fun _ => False, c := 0 } vs' cargs.toList) :
    Calls E.P g cargs w fun e w' => e = .returned (.bool true) ∧ w'.os = w.os ∧ w'.tape = w.tape ∧ w'.output = w.output ∧ w.heap.size ≤ w'.heap.size ∧ (∀ b, b < w.heap.size → w'.heap[b]? = w.heap[b]?) := by
  obtain ⟨u, h1, h2⟩ := hc true hm vs' hv AHeap.nil 0
  have hu := h2.s_inv
  subst hu
  unfold callFn at h1
  rw [hp] at h1
  have hpf : E.pf g = true := rfl
  simp only [hpf, if_true, hs] at h1
  cases hcl : (rinf E).call g vs' AHeap.nil 0 with
  | none => rw [hcl] at h1; cases h1
  | some q =>
    obtain ⟨v, h3, n3⟩ := q
    rw [hcl] at h1
    simp only at h1
    cases hsn : snap h3 depth v with
    | none => rw [hsn] at h1; cases h1
    | some q2 =>
      obtain ⟨v', b2⟩ := q2
      rw [hsn] at h1
      simp only [Bool.false_and, Bool.false_eq_true, if_false, Option.some.injEq, Prod.mk.injEq] at h1
      obtain ⟨k, hk⟩ := rinf_call.1 hcl
      have hpc : pcall E k g vs' = some (bv true) := by
        unfold pcall
        rw [hk]
        simp only [hsn, h1.1]
      refine (pcall_sound envOk (fun r => drawOk_all r) hpc w hr).mono ?_
      rintro e w' ⟨cv, h4, h5, h6, h7, h8, h9, h10⟩
      simp only [VRel] at h10
      subst h10
      exact ⟨h4, h5, h6, h7, h8, h9⟩
end Go.Vm

/- What a call reads, as Lean data: an argument's reading by shape gives a value of the evaluator. -/
set_option linter.unusedVariables false
set_option linter.unusedSimpArgs false
namespace Go.Vm
open Go

structure BulkOk {H : Type} (f : DataW H → Nat) (g : List (DataW H) → Nat) : Prop where
  nil : g [] = 0
  cons : ∀ d r, g (d :: r) = f d + g r
  pos : ∀ d, 1 ≤ f d
  str : ∀ l, f (.lit (.string l)) = l.length + 1
  slice : ∀ e s, f (.slice e s) = g e + g s + 1
  agg : ∀ p, f (.agg p) = g p + 1
theorem BulkOk.sum {H : Type} {f : DataW H → Nat} {g : List (DataW H) → Nat} (B : BulkOk f g) : ∀ l, g l = (l.map f).sum
  | [] => B.nil
  | d :: r => by rw [B.cons, B.sum r]; rfl
def Kw (W : World) : Cx := { w := W, ι := fun _ => (0, 0, 0), L := fun _ => False, X := fun _ => False, c := 0 }
section
variable {H : Type} {P : Program} {f : DataW H → Nat} {g : List (DataW H) → Nat}
structure Rd (P : Program) (f : DataW H → Nat) (t : TypeId) (n : Nat) {α : Type} (en : α → List AV) (ok : α → Prop) (μ : α → Nat) : Prop where
  read : ∀ {enc : TypeId × Value → H} {W : World} {fuel : Nat} {cs : List Value} {d : DataW H} {pl : List MemPlace}, DataW.trod enc P W 0 (fun _ => true) true fuel t cs = some (d, pl) →
    ∃ x, VRels (Kw W) (en x) cs ∧ ok x ∧ μ x ≤ f d ∧ cs.length = n ∧ (∀ v ∈ cs, v.oneCell' = true)
  self : ∀ x, ∀ c ∈ en x, VLe Rn.nil c c
theorem vless_refl : ∀ {rows : List (List AV)}, (∀ r ∈ rows, ∀ c ∈ r, VLe Rn.nil c c) → VLess Rn.nil rows rows
  | [], _ => by simp [VLess]
  | r :: rows, h => by
    simp only [VLess]
    exact ⟨r, rows, rfl, VLes_iff.2 (All2.refl' _ (h r List.mem_cons_self)), vless_refl fun s hs => h s (List.mem_cons_of_mem _ hs)⟩
theorem fsl_refl {sz : Nat} {rows : List (List AV)} (h : ∀ r ∈ rows, ∀ c ∈ r, VLe Rn.nil c c) : VLe Rn.nil (.fsl sz rows) (.fsl sz rows) := by
  simp only [VLe]
  exact .inl ⟨rows, rfl, vless_refl h⟩
theorem Rd.str (B : BulkOk f g) {t : TypeId} (ht : P.underlying t = some .string) : Rd P f t 1 (fun x : Str => [bs x]) (fun _ => True) (fun x => x.length + 1) where
  self _ c hc := by simp only [List.mem_singleton] at hc; subst hc; exact VLe.s_refl _
  read h := by
    obtain ⟨s, rfl, e, _⟩ := DataW.trod_string ht h
    obtain ⟨rfl, rfl⟩ := Prod.mk.inj e
    exact ⟨s.data.toList, by simp [VRels, VRel], trivial, by rw [B.str]; exact Nat.le_refl _, rfl, by simp; rfl⟩
theorem Rd.int (B : BulkOk f g) {t : TypeId} {k : IntKind} (ht : P.underlying t = some (.int k)) : Rd P f t 1 (fun x : Int => [.s (.int k x)]) (fun x => (Lit.int k x).wf = true) (fun _ => 1) where
  self _ c hc := by simp only [List.mem_singleton] at hc; subst hc; exact VLe.s_refl _
  read h := by
    obtain ⟨n, rfl, e, w⟩ := DataW.trod_int ht h
    obtain ⟨rfl, rfl⟩ := Prod.mk.inj e
    exact ⟨n, by simp [VRels, VRel], w, B.pos _, rfl, by simp; rfl⟩
theorem Rd.bool (B : BulkOk f g) {t : TypeId} (ht : P.underlying t = some .bool) : Rd P f t 1 (fun x : Bool => [bv x]) (fun _ => True) (fun _ => 1) where
  self _ c hc := by simp only [List.mem_singleton] at hc; subst hc; exact VLe.s_refl _
  read h := by
    obtain ⟨n, rfl, e⟩ := DataW.trod_bool ht h
    obtain ⟨rfl, rfl⟩ := Prod.mk.inj e
    exact ⟨n, by simp [VRels, VRel], trivial, B.pos _, rfl, by simp; rfl⟩
theorem VRels.len {K : Cx} : ∀ {a : List AV} {x : List Value}, VRels K a x → a.length = x.length
  | [], [], _ => rfl
  | _ :: a, _ :: x, h => by simp only [List.length_cons]; rw [VRels.len (a := a) (x := x) (by simp only [VRels] at h; exact h.2)]
  | [], _ :: _, h => by simp [VRels] at h
  | _ :: _, [], h => by simp [VRels] at h
theorem crel_rd {W : World} {b : Nat} : ∀ {a : List AV} {cs : List Value} {o : Nat}, VRels (Kw W) a cs → (∀ i, i < cs.length → W.cell? ⟨b, o + i, none⟩ = cs[i]?) → (∀ v ∈ cs, v.oneCell' = true) → CRel (Kw W) b o a
  | [], _, _, _, _, _ => by simp [CRel]
  | c :: a, [], _, h, _, _ => by simp [VRels] at h
  | c :: a, v :: cs, o, h, hc, h1 => by
    simp only [VRels] at h
    have h0 := hc 0 (by simp)
    simp only [Nat.add_zero, List.getElem?_cons_zero] at h0
    refine ⟨⟨v, ⟨?_, id, id⟩, h0, h1 v List.mem_cons_self, h.1⟩, crel_rd h.2 (fun i hi => ?_) fun u hu => h1 u (List.mem_cons_of_mem _ hu)⟩
    · unfold World.cell? at h0
      split at h0
      · rename_i e
        exact (Array.getElem?_eq_some_iff.1 e).1
      · cases h0
    · have := hc (i + 1) (by simp; omega)
      rw [Nat.add_assoc, Nat.add_comm 1 i, this]
      rfl
theorem Rd.slice (B : BulkOk f g) {t e : TypeId} {n : Nat} {α : Type} {en : α → List AV} {ok : α → Prop} {μ : α → Nat} (R : Rd P f e n en ok μ) (ht : P.underlying t = some (.slice e)) (hn : P.cellsOf e = n) (h0 : 0 < n) :
    Rd P f t 1 (fun x : List α => [.fsl n (x.map en)]) (fun x => ∀ y ∈ x, ok y) (fun x => (x.map μ).sum + 1) where
  self x c hc := by
    simp only [List.mem_singleton] at hc
    subst hc
    refine fsl_refl fun r hr => ?_
    obtain ⟨y, _, rfl⟩ := List.mem_map.1 hr
    exact R.self y
  read {enc W fuel cs d pl} h := by
    rcases Deep.open_slice ht h with ⟨rfl, e'⟩ | ⟨a, len, cap, m, k, D, Pl, rfl, _, hl, _, hm, e', hx⟩
    · obtain ⟨rfl, rfl⟩ := Prod.mk.inj e'
      exact ⟨[], by simp only [VRels, VRel, and_true, List.map_nil, List.length_nil]; exact ⟨none, 0, rfl, Nat.le_refl _, by simp⟩, by simp, by simpa using B.pos _, rfl, by simp; rfl⟩
    · obtain ⟨rfl, rfl⟩ := Prod.mk.inj e'
      have hlm : len ≤ m := by rw [hm]; simpa using hl
      subst hn
      have hspot : 0 < len → a.spot = none := fun hp => by
        obtain ⟨cs', h1, h2⟩ := hx 0 (by omega)
        obtain ⟨_, hlen, hc⟩ := World.cells?_some h1
        have := hc 0 h0
        rw [List.getElem?_eq_getElem (by omega)] at this
        simp only [Nat.zero_mul, Addr.add, if_true] at this
        unfold World.cell? at this
        split at this
        · split at this
          · cases this
          · rename_i q; simpa using q
        · cases this
      obtain ⟨ab, ao, sp⟩ := a
      have key : ∀ j i, i + j = len → ∃ xs : List α, RRel (Kw W) ab (ao + i * P.cellsOf e) (P.cellsOf e) (xs.map en) ∧ xs.length = j ∧ (∀ x ∈ xs, ok x) ∧ (xs.map μ).sum ≤ ((List.range' i j).map fun q => f (D q)).sum := by
        intro j
        induction j with
        | zero => intro i _; exact ⟨[], by simp [RRel], rfl, by simp, by simp⟩
        | succ j ih =>
          intro i hij
          obtain rfl : sp = none := hspot (by omega)
          obtain ⟨xs, r1, r2, r3, r4⟩ := ih (i + 1) (by omega)
          obtain ⟨cs', h1, h2⟩ := hx i (by omega)
          obtain ⟨x, x1, x2, x3, x4, x5⟩ := R.read h2
          obtain ⟨_, hlen, hc⟩ := World.cells?_some h1
          refine ⟨x :: xs, ?_, by simp [r2], by simpa using ⟨x2, r3⟩, ?_⟩
          · simp only [List.map_cons, RRel]
            refine ⟨by rw [x1.len, x4], crel_rd x1 (fun q hq => ?_) x5, ?_⟩
            · have := hc q (by omega)
              rw [WideShapes.add_plain, WideShapes.add_plain] at this
              exact this
            · rw [Nat.add_assoc, show i * P.cellsOf e + P.cellsOf e = (i + 1) * P.cellsOf e by rw [Nat.add_mul, Nat.one_mul]]
              exact r1
          · simp only [List.map_cons, List.sum_cons, List.range'_succ]
            omega
      obtain ⟨xs, r1, r2, r3, r4⟩ := key len 0 (by omega)
      refine ⟨xs, ?_, r3, ?_, rfl, by simp; rfl⟩
      · simp only [VRels, VRel, and_true, List.length_map, r2]
        refine ⟨some ⟨ab, ao, sp⟩, cap, rfl, hl, ?_⟩
        rcases Nat.eq_zero_or_pos len with hz | hp
        · left
          have : xs = [] := List.length_eq_zero_iff.1 (by omega)
          simp [this]
        · right
          obtain rfl : sp = none := hspot hp
          exact ⟨ab, ao, rfl, by rw [Nat.zero_mul, Nat.add_zero] at r1; exact r1⟩
      · rw [B.slice, B.sum, List.map_map, List.range_eq_range']
        have : (List.map (f ∘ D) (List.range' 0 len)).sum = ((List.range' 0 len).map fun q => f (D q)).sum := rfl
        omega
structure Rds (P : Program) (f : DataW H → Nat) (g : List (DataW H) → Nat) (fs : List Field) (o n : Nat) {α : Type} (en : α → List AV) (ok : α → Prop) (μ : α → Nat) : Prop where
  read : ∀ {enc : TypeId × Value → H} {W : World} {fuel : Nat} {cs : List Value} {xs : List (DataW H × List MemPlace)}, xs.length = fs.length → o + n ≤ cs.length →
    (∀ (i : Nat) (fd : Field), fs[i]? = some fd → DataW.trod enc P W 0 (fun _ => true) true fuel fd.type ((cs.drop fd.offset).take (P.cellsOf fd.type)) = xs[i]?) →
    ∃ x, VRels (Kw W) (en x) ((cs.drop o).take n) ∧ ok x ∧ μ x ≤ g (xs.map (·.1)) ∧ (∀ v ∈ (cs.drop o).take n, v.oneCell' = true)
  self : ∀ x, ∀ c ∈ en x, VLe Rn.nil c c
theorem Rds.nil (o : Nat) : Rds P f g [] o 0 (fun _ : Unit => []) (fun _ => True) (fun _ => 0) where
  self _ c hc := by simp at hc
  read _ _ _ := ⟨(), by simp [VRels], trivial, Nat.zero_le _, by simp⟩
theorem Rds.cons (B : BulkOk f g) {fd : Field} {fs : List Field} {o n1 n2 : Nat} {α β : Type} {e1 : α → List AV} {ok1 : α → Prop} {μ1 : α → Nat} {e2 : β → List AV} {ok2 : β → Prop} {μ2 : β → Nat} (R1 : Rd P f fd.type n1 e1 ok1 μ1) (R2 : Rds P f g fs (o + n1) n2 e2 ok2 μ2) (ho : fd.offset = o) (hn : P.cellsOf fd.type = n1) :
    Rds P f g (fd :: fs) o (n1 + n2) (fun x : α × β => e1 x.1 ++ e2 x.2) (fun x => ok1 x.1 ∧ ok2 x.2) (fun x => μ1 x.1 + μ2 x.2) where
  self x c hc := by
    rcases List.mem_append.1 hc with h | h
    · exact R1.self _ c h
    · exact R2.self _ c h
  read {enc W fuel cs xs} hl hc h := by
    cases xs with
    | nil => simp at hl
    | cons y xs =>
      have h0 := h 0 fd rfl
      simp only [List.getElem?_cons_zero, ho, hn] at h0
      obtain ⟨x1, a1, a2, a3, a4, a5⟩ := R1.read (d := y.1) (pl := y.2) h0
      obtain ⟨x2, b1, b2, b3, b5⟩ := R2.read (enc := enc) (W := W) (fuel := fuel) (cs := cs) (xs := xs) (by simpa using hl) (by omega) (fun i fd' h' => by have := h (i + 1) fd' (by simpa using h'); simpa using this)
      have e : (cs.drop o).take (n1 + n2) = (cs.drop o).take n1 ++ (cs.drop (o + n1)).take n2 := by rw [List.take_add, List.drop_drop]
      refine ⟨(x1, x2), ?_, ⟨a2, b2⟩, ?_, ?_⟩
      · rw [e]; exact a1.append b1
      · simp only [List.map_cons]; rw [B.cons]; omega
      · rw [e]
        intro v hv
        rcases List.mem_append.1 hv with hv | hv
        · exact a5 v hv
        · exact b5 v hv
theorem Rd.struct (B : BulkOk f g) {t : TypeId} {fs : Array Field} {n : Nat} {α β : Type} {en : α → List AV} {ok : α → Prop} {μ : α → Nat} (R : Rds P f g fs.toList 0 n en ok μ) (ht : P.underlying t = some (.struct fs)) (hn : P.cellsOf t = n) (mk : α → β) (hs : ∀ y, ∃ x, mk x = y) {en' : β → List AV} (he : ∀ x, en' (mk x) = en x) {ok' : β → Prop} (hk : ∀ x, ok x → ok' (mk x)) {μ' : β → Nat} (hm : ∀ x, μ' (mk x) ≤ μ x + 1) :
    Rd P f t n en' ok' μ' where
  self y c hc := by
    obtain ⟨x, rfl⟩ := hs y
    rw [he] at hc
    exact R.self x c hc
  read {enc W fuel cs d pl} h := by
    obtain ⟨xs, k, _, e, hl, hx, hf⟩ := DataW.trod_struct ht h
    obtain ⟨rfl, rfl⟩ := Prod.mk.inj e
    obtain ⟨x, h1, h2, h3, h4⟩ := R.read (enc := enc) (W := W) (fuel := k) (cs := cs) (xs := xs) (by simpa using hx) (by omega) (fun i fd h' => hf i fd (by simpa using h'))
    rw [List.drop_zero, List.take_of_length_le (by omega)] at h1 h4
    refine ⟨mk x, by rw [he]; exact h1, hk x h2, ?_, by omega, h4⟩
    rw [B.agg]
    have := hm x
    omega
theorem Rd.arg1 {t : TypeId} {α : Type} {c : α → AV} {ok : α → Prop} {μ : α → Nat} (R : Rd P f t 1 (fun x => [c x]) ok μ) {enc : TypeId × Value → H} {W : World} {v : Value} {d : DataW H} {pl : List MemPlace} (hv : v.cells = #[v]) (h : DataW.Trod enc P W 0 (fun _ => true) true t v d pl) :
    ∃ x, VRel (Kw W) (c x) v ∧ ok x ∧ μ x ≤ f d ∧ VLe Rn.nil (c x) (c x) := by
  obtain ⟨fuel, h⟩ := h
  obtain ⟨x, h1, h2, h3, _⟩ := R.read h
  rw [hv] at h1
  simp only [VRels, and_true] at h1
  exact ⟨x, h1, h2, h3, R.self x _ List.mem_cons_self⟩
theorem cells_string {P : Program} {W : World} {r : Reach} {b : Nat} {t : TypeId} {v : Value} (ht : P.underlying t = some .string) (h : Value.okWide P W r b t v) : v.cells = #[v] := by
  unfold Value.okWide Cell.okWide Cell.ok at h
  rw [ht] at h
  cases v <;> first | rfl | simp at h
theorem args_stay {enc : TypeId × Value → H} (hl : laidOutB P = true) {W W' : World} (hb : RowKit.Below W.heap.size W W') {sp : Nat → Bool} : ∀ {ts : List TypeId} {vs : List Value} {ds : List (DataW H)} {ps : List MemPlace}, (∀ t ∈ ts, P.readableRec t = true ∧ t < P.types.size) → DataW.TrodAll enc P W 0 (fun _ => true) true ts vs ds ps → (∀ x ∈ ps, x.block < W.heap.size) → (∀ x ∈ ps, sp x.block = true) →
    DataW.TrodAll enc P W' 0 sp true ts vs ds ps
  | [], [], [], _, _, h, _, _ => h
  | t :: ts, v :: vs, d :: ds, ps, hr, h, h1, h2 => by
    obtain ⟨p, q, h3, h4, rfl⟩ := h
    exact ⟨p, q, WideElems.Trod_stays hl (hr t List.mem_cons_self).1 (hr t List.mem_cons_self).2 h3 (fun x hx => hb.same (h1 x (List.mem_append_left _ hx))) (fun x hx => h2 x (List.mem_append_left _ hx)),
      args_stay hl hb (fun u hu => hr u (List.mem_cons_of_mem _ hu)) h4 (fun x hx => h1 x (List.mem_append_right _ hx)) (fun x hx => h2 x (List.mem_append_right _ hx)), rfl⟩
  | [], _ :: _, _, _, _, h, _, _ => h.elim
  | [], [], _ :: _, _, _, h, _, _ => h.elim
  | _ :: _, [], _, _, _, h, _, _ => h.elim
  | _ :: _, _ :: _, [], _, _, h, _, _ => h.elim
end
end Go.Vm

/- Plain laws: loops, numbers. -/
set_option linter.unusedVariables false
set_option linter.unusedSimpArgs false
namespace Go.Vm
open Go

section
variable {σ τ : Type} {f : σ → Option (Step σ τ)}
theorem loopC_next {x y : σ} (h : f x = some (.next y)) : loopC f x = loopC f y := by rw [loopC_eq, h]; rfl
theorem loopC_done {x : σ} {t : τ} (h : f x = some (.done t)) : loopC f x = some t := by rw [loopC_eq, h]; rfl
theorem loopC_fun (I : σ → Prop) (μ : σ → Nat) (g : σ → τ) (h : ∀ x, I x → f x = some (.done (g x)) ∨ ∃ y, f x = some (.next y) ∧ I y ∧ μ y < μ x ∧ g y = g x) {x : σ} (hx : I x) : loopC f x = some (g x) := by
  have key : ∀ n x, I x → μ x ≤ n → loopC f x = some (g x) := by
    intro n
    induction n with
    | zero =>
      intro x hx hn
      rcases h x hx with h1 | ⟨y, _, _, h3, _⟩
      · exact loopC_done h1
      · omega
    | succ n ih =>
      intro x hx hn
      rcases h x hx with h1 | ⟨y, h1, h2, h3, h4⟩
      · exact loopC_done h1
      · rw [loopC_next h1, ih y h2 (by omega), h4]
  exact key _ x hx (Nat.le_refl _)
theorem loopC_inv (I : σ → Prop) (μ : σ → Nat) (P : τ → Prop) (h : ∀ x, I x → (∃ t, f x = some (.done t) ∧ P t) ∨ ∃ y, f x = some (.next y) ∧ I y ∧ μ y < μ x) {x : σ} (hx : I x) : ∃ t, loopC f x = some t ∧ P t := by
  have key : ∀ n x, I x → μ x ≤ n → ∃ t, loopC f x = some t ∧ P t := by
    intro n
    induction n with
    | zero =>
      intro x hx hn
      rcases h x hx with ⟨t, h1, h2⟩ | ⟨y, _, _, h3⟩
      · exact ⟨t, loopC_done h1, h2⟩
      · omega
    | succ n ih =>
      intro x hx hn
      rcases h x hx with ⟨t, h1, h2⟩ | ⟨y, h1, h2, h3⟩
      · exact ⟨t, loopC_done h1, h2⟩
      · rw [loopC_next h1]
        exact ih y h2 (by omega)
  exact key _ x hx (Nat.le_refl _)
end

theorem w64_id {x : Int} (h1 : -9223372036854775808 ≤ x) (h2 : x ≤ 9223372036854775807) : w64 x = x := i64_id h1 h2
theorem idx_nat {s : Str} {i : Nat} (h : i < s.length) : idx s (i : Int) = some (s[i].toNat : Int) := by
  unfold idx
  rw [if_pos (by omega), Int.toNat_natCast, List.getElem?_eq_getElem h]
  rfl
theorem ixl_nat {α : Type} {l : List α} {i : Nat} (h : i < l.length) : ixl l (i : Int) = some l[i] := by
  unfold ixl
  rw [if_pos (by omega), Int.toNat_natCast, List.getElem?_eq_getElem h]
theorem subl_nat {α : Type} {l : List α} {i j : Nat} (h1 : i ≤ j) (h2 : j ≤ l.length) : subl l (i : Int) (j : Int) = some ((l.drop i).take (j - i)) := by
  unfold subl
  rw [if_pos ⟨by omega, by omega, by omega⟩]
  rfl
theorem subl_drop {α : Type} {l : List α} {i : Nat} (h : i ≤ l.length) : subl l (i : Int) (l.length : Int) = some (l.drop i) := by
  rw [subl_nat h (Nat.le_refl _), List.take_of_length_le (by simp)]
theorem subl_take {α : Type} {l : List α} {j : Nat} (h : j ≤ l.length) : subl l 0 (j : Int) = some (l.take j) := by
  have := subl_nat (l := l) (i := 0) (j := j) (Nat.zero_le _) h
  simpa using this
theorem u8c_beq (a c : UInt8) : ((a.toNat : Int) == (c.toNat : Int)) = (a == c) := u8_beq
theorem cat_ok {a b : Str} (h : a.length + b.length ≤ 9223372036854775807) : cat a b = some (a ++ b) := by
  unfold cat; rw [if_pos h]
theorem app_ok {α : Type} {b : Nat} {l m : List α} (h1 : (l.length + m.length) * b ≤ 140737488355328) (h2 : l.length + m.length ≤ 9223372036854775807) : app b l m = some (l ++ m) := by
  unfold app; rw [if_pos ⟨h1, h2⟩]

def runE (p : UInt8 → Bool) (s : Str) (i : Nat) : Nat := i + ((s.drop i).takeWhile p).length
theorem runE_le {p : UInt8 → Bool} {s : Str} {i : Nat} (h : i ≤ s.length) : runE p s i ≤ s.length := by
  unfold runE
  have := (List.takeWhile_prefix p (l := s.drop i)).length_le
  simp only [List.length_drop] at this
  omega
theorem runE_ge (p : UInt8 → Bool) (s : Str) (i : Nat) : i ≤ runE p s i := by unfold runE; omega
theorem runE_end (p : UInt8 → Bool) (s : Str) : runE p s s.length = s.length := by simp [runE]
theorem runE_yes {p : UInt8 → Bool} {s : Str} {i : Nat} (h : i < s.length) (hp : p s[i] = true) : runE p s i = runE p s (i + 1) := by
  unfold runE
  rw [List.drop_eq_getElem_cons h, List.takeWhile_cons_of_pos hp, List.length_cons]
  omega
theorem runE_no {p : UInt8 → Bool} {s : Str} {i : Nat} (h : i < s.length) (hp : p s[i] = false) : runE p s i = i := by
  unfold runE
  rw [List.drop_eq_getElem_cons h, List.takeWhile_cons_of_neg (by simp [hp])]
  simp
theorem scan_loop {f : Int → Option (Step Int Int)} {p : UInt8 → Bool} {s : Str} (hend : f (s.length : Int) = some (.done (s.length : Int))) (hstep : ∀ (i : Nat) (h : i < s.length), f (i : Int) = if p s[i] = true then some (.next ((i + 1 : Nat) : Int)) else some (.done (i : Int))) {i : Nat} (hi : i ≤ s.length) :
    loopC f (i : Int) = some (runE p s i : Int) := by
  have := loopC_fun (f := f) (fun x => ∃ i : Nat, x = i ∧ i ≤ s.length) (fun x => s.length - x.toNat) (fun x => (runE p s x.toNat : Int)) (fun x hx => by
    obtain ⟨i, rfl, hi⟩ := hx
    simp only [Int.toNat_natCast]
    rcases Nat.lt_or_ge i s.length with h | h
    · cases hp : p s[i] with
      | true =>
        right
        refine ⟨((i + 1 : Nat) : Int), by rw [hstep i h, if_pos hp], ⟨i + 1, rfl, h⟩, by rw [Int.toNat_natCast]; omega, ?_⟩
        rw [Int.toNat_natCast, runE_yes h hp]
      | false => left; rw [hstep i h, hp, runE_no h hp]; rfl
    · have : i = s.length := by omega
      subst this
      left
      rw [hend, runE_end]) (x := (i : Int)) ⟨i, rfl, hi⟩
  simpa using this
end Go.Vm

/- Plain laws of chapter 1: digits. -/
set_option linter.unusedVariables false
set_option linter.unusedSimpArgs false
namespace Go.Vm
open Go

def nought (c : UInt8) : Bool := c == 48
def trimM (s : Str) : Str := if s.dropWhile nought = [] then [48] else s.dropWhile nought

theorem trimLeftByte_eq (s : Str) (hs : s.length ≤ 4611686018427387904) : strings_trimLeftByte s 48 = some (s.dropWhile nought) := by
  unfold strings_trimLeftByte
  rw [loopC_fun (fun x => x.length ≤ 4611686018427387904) (fun x => x.length) (fun x => x.dropWhile nought) (fun x hx => ?_) hs]
  · rfl
  · cases x with
    | nil => left; simp [strings_trimLeftByte_l1]
    | cons c x =>
      have h0 : idx (c :: x) 0 = some (c.toNat : Int) := idx_nat (s := c :: x) (i := 0) (by simp)
      have h1 : subl (c :: x) 1 ((c :: x).length : Int) = some x := by
        have := subl_drop (l := c :: x) (i := 1) (by simp)
        simpa using this
      have h2 : ((c.toNat : Int) == 48) = nought c := u8c_beq c 48
      cases hc : nought c with
      | true =>
        right
        refine ⟨x, ?_, by simp only [List.length_cons] at hx; omega, by simp, by rw [List.dropWhile_cons_of_pos hc]⟩
        unfold strings_trimLeftByte_l1
        rw [h0, h1]
        simp only [List.length_cons, Option.bind_some, h2, hc]
        rw [if_pos (by simp; try omega)]
        rfl
      | false =>
        left
        unfold strings_trimLeftByte_l1
        rw [h0]
        simp only [List.length_cons, Option.bind_some, h2, hc, List.dropWhile_cons]
        rw [if_pos (by simp; try omega)]
        rfl
theorem scan_Trim_eq (s : Str) (hs : s.length ≤ 4611686018427387904) : scan_Trim s = some (trimM s) := by
  unfold scan_Trim strings_TrimLeft_s1
  have h1 : (if ((s == []) && true) = true then some s else Option.bind (strings_trimLeftByte s 48) (fun x1 => some x1)) = some (s.dropWhile nought) := by
    cases s with
    | nil => simp
    | cons c s =>
      rw [if_neg (by simp), trimLeftByte_eq _ hs]
      rfl
  rw [h1]
  simp only [Option.bind_some, trimM, beq_iff_eq]
  split <;> rfl
theorem drop_runE (p : UInt8 → Bool) (s : Str) : s.drop (runE p s 0) = s.dropWhile p := by
  unfold runE
  simp only [List.drop_zero, Nat.zero_add]
  induction s with
  | nil => rfl
  | cons c s ih =>
    cases hc : p c with
    | true => rw [List.takeWhile_cons_of_pos hc, List.dropWhile_cons_of_pos hc, List.length_cons, List.drop_succ_cons, ih]
    | false => rw [List.takeWhile_cons_of_neg (by simp [hc]), List.dropWhile_cons_of_neg (by simp [hc])]; rfl
theorem ref01_Trim_eq (s : Str) (hs : s.length ≤ 4611686018427387904) : ref01_Trim s = some (trimM s) := by
  unfold ref01_Trim
  have hl : loopC (ref01_Trim_l1 s) 0 = some (runE nought s 0 : Int) := by
    refine scan_loop (p := nought) (s := s) (i := 0) ?_ ?_ (Nat.zero_le _)
    · unfold ref01_Trim_l1
      rw [if_neg (by simp)]
      rfl
    · intro i h
      unfold ref01_Trim_l1
      rw [if_pos (by simp; omega), idx_nat h]
      simp only [Option.bind_some]
      rw [show ((s[i].toNat : Int) == 48) = nought s[i] from u8c_beq _ 48, w64_id (by omega) (by omega)]
      cases nought s[i] <;> rfl
  rw [hl]
  simp only [Option.bind_some]
  have hle : runE nought s 0 ≤ s.length := runE_le (Nat.zero_le _)
  rw [subl_drop hle]
  simp only [Option.bind_some, drop_runE, trimM]
  by_cases h : s.dropWhile nought = []
  · have : runE nought s 0 = s.length := by
      have := congrArg List.length (drop_runE nought s)
      rw [h] at this
      simp only [List.length_drop, List.length_nil] at this
      omega
    rw [if_pos h, if_pos (by rw [this]; simp)]
  · have : runE nought s 0 ≠ s.length := by
      intro e
      have := congrArg List.length (drop_runE nought s)
      rw [e] at this
      simp only [List.length_drop, Nat.sub_self] at this
      exact h (List.length_eq_zero_iff.1 this.symm)
    rw [if_neg h, if_neg (by simp; omega)]
def cmpI (a b : Int) : Int := if a < b then -1 else if b < a then 1 else 0
theorem cmp_Compare_int_eq (a b : Int) : cmp_Compare_int a b = some (cmpI a b) := by
  have h : ∀ x : Int, cmp_isNaN_int x = some false := fun x => by simp [cmp_isNaN_int]
  unfold cmp_Compare_int cmpI
  rw [h, h]
  simp only [Option.bind_some, Bool.false_eq_true, if_false, decide_eq_true_eq, gt_iff_lt]
  split
  · rfl
  · split <;> rfl
theorem cmp_Or_int_eq (l : List Int) (hl : l.length ≤ 4611686018427387904) : cmp_Or_int l = some ((l.find? (· != 0)).getD 0) := by
  unfold cmp_Or_int
  have := loopC_fun (f := cmp_Or_int_l1 l) (fun x => ∃ i : Nat, x = i ∧ i ≤ l.length) (fun x => l.length - x.toNat) (fun x => match (l.drop x.toNat).find? (· != 0) with | some y => Sum.inl y | none => Sum.inr ()) (fun x hx => by
    obtain ⟨i, rfl, hi⟩ := hx
    simp only [Int.toNat_natCast]
    rcases Nat.lt_or_ge i l.length with h | h
    · unfold cmp_Or_int_l1
      rw [if_pos (by simp; omega), ixl_nat h, List.drop_eq_getElem_cons h]
      simp only [Option.bind_some, List.find?_cons]
      cases hc : l[i] != 0 with
      | true => left; rfl
      | false =>
        right
        refine ⟨((i + 1 : Nat) : Int), by rw [if_neg (by simp), w64_id (by omega) (by omega)]; rfl, ⟨i + 1, rfl, h⟩, by rw [Int.toNat_natCast]; omega, by rw [Int.toNat_natCast]⟩
    · have : i = l.length := by omega
      subst this
      left
      unfold cmp_Or_int_l1
      rw [if_neg (by simp)]
      simp) (x := 0) ⟨0, rfl, Nat.zero_le _⟩
  rw [this]
  simp only [Option.bind_some, Int.toNat_zero, List.drop_zero]
  cases l.find? (· != 0) <;> rfl
theorem cmpB_eq : ∀ (a b : List UInt8), Lib.compareBytes a b = if Op.bytesLess a b = true then -1 else if (a == b) = true then 0 else 1
  | [], [] => by simp [Lib.compareBytes, Op.bytesLess]
  | [], _ :: _ => by simp [Lib.compareBytes, Op.bytesLess]
  | _ :: _, [] => by simp [Lib.compareBytes, Op.bytesLess]
  | x :: a, y :: b => by
    have ih := cmpB_eq a b
    simp only [Lib.compareBytes, Op.bytesLess, List.cons_beq_cons, ih]
    by_cases h1 : x < y
    · simp [h1]
    · by_cases h2 : y < x
      · have hne : (x == y) = false := by
          rw [beq_eq_false_iff_ne]; rintro rfl; exact h1 h2
        simp [h1, h2, hne]
      · have he : x = y := by
          apply UInt8.toNat_inj.1
          rw [UInt8.lt_iff_toNat_lt] at h1 h2
          omega
        subst he
        simp
theorem ref01_Texts_eq (a b : Str) : ref01_Texts a b = some (Lib.compareBytes a b) := by
  unfold ref01_Texts
  rw [cmpB_eq]
  cases Op.bytesLess a b with
  | true => rfl
  | false =>
    simp only [Bool.false_eq_true, if_false, Bool.false_or]
    cases a == b <;> rfl
theorem strings_Compare_eq (a b : Str) : strings_Compare a b = some (Lib.compareBytes a b) := rfl
def cmpM (a b : Str) : Int := if cmpI (trimM a).length (trimM b).length ≠ 0 then cmpI (trimM a).length (trimM b).length else Lib.compareBytes (trimM a) (trimM b)
theorem find2 (x y : Int) : (([x, y].find? (· != 0)).getD 0) = if x ≠ 0 then x else y := by
  by_cases h : x = 0
  · subst h
    by_cases h2 : y = 0
    · subst h2; rfl
    · simp [h2]
  · simp [h]
theorem scan_Cmp_eq (a b : Str) (ha : a.length ≤ 4611686018427387904) (hb : b.length ≤ 4611686018427387904) : scan_Cmp a b = some (cmpM a b) := by
  unfold scan_Cmp
  rw [scan_Trim_eq a ha, scan_Trim_eq b hb]
  simp only [Option.bind_some, cmp_Compare_int_eq, strings_Compare_eq]
  rw [cmp_Or_int_eq _ (by simp), find2]
  rfl
theorem ref01_Cmp_eq (a b : Str) (ha : a.length ≤ 4611686018427387904) (hb : b.length ≤ 4611686018427387904) : ref01_Cmp a b = some (cmpM a b) := by
  unfold ref01_Cmp cmpM cmpI
  rw [ref01_Trim_eq a ha, ref01_Trim_eq b hb]
  simp only [Option.bind_some, ref01_Texts_eq, decide_eq_true_eq, gt_iff_lt]
  split
  · rfl
  · split
    · rfl
    · rfl

def isB (c k : Int) : Bool :=
  if k = 1 then decide (48 ≤ c) && decide (c ≤ 57)
  else if k = 2 then decide (97 ≤ c) && decide (c ≤ 122)
  else if k = 3 then decide (65 ≤ c) && decide (c ≤ 90)
  else if k = 4 then decide (97 ≤ c) && decide (c ≤ 122) || decide (65 ≤ c) && decide (c ≤ 90)
  else if k = 5 then decide (48 ≤ c) && decide (c ≤ 57) || decide (97 ≤ c) && decide (c ≤ 122) || decide (65 ≤ c) && decide (c ≤ 90)
  else if k = 6 then c == 32 || c == 9
  else if k = 7 then c == 32 || c == 9 || c == 10 || c == 13
  else false
theorem scan_Is_eq (c k : Int) : scan_Is c k = some (isB c k) := by
  unfold scan_Is isB
  simp only [beq_iff_eq, ge_iff_le]
  repeat (split; first | rfl | skip)
  rfl
theorem ref01_Is_eq (c k : Int) : ref01_Is c k = some (isB c k) := by
  unfold ref01_Is isB
  simp only [beq_iff_eq, ge_iff_le]
  repeat (split; first | rfl | (simp only [Option.some.injEq]; rw [Bool.eq_iff_iff]; simp only [Bool.or_eq_true, Bool.and_eq_true, decide_eq_true_eq, beq_iff_eq]; omega) | skip)
  rfl
def isP (k : Int) (c : UInt8) : Bool := isB c.toNat k
def runM (s : Str) (at' k : Int) : Int := if at' < 0 ∨ s.length < at' then at' else (runE (isP k) s at'.toNat : Int)
theorem ref01_Run_eq (s : Str) (at' k : Int) (hs : s.length ≤ 4611686018427387904) : ref01_Run s at' k = some (runM s at' k) := by
  unfold ref01_Run runM
  simp only [Bool.or_eq_true, decide_eq_true_eq, gt_iff_lt]
  split
  · rfl
  · rename_i h
    obtain ⟨i, rfl⟩ : ∃ i : Nat, at' = i := ⟨at'.toNat, by omega⟩
    rw [scan_loop (p := isP k) (s := s) (i := i) ?_ ?_ (by omega)]
    · simp
    · unfold ref01_Run_l1
      rw [if_neg (by simp)]
      rfl
    · intro j hj
      unfold ref01_Run_l1
      rw [if_pos (by simp; omega), idx_nat hj]
      simp only [Option.bind_some, ref01_Is_eq]
      rw [w64_id (by omega) (by omega)]
      show _ = if isB _ k = true then _ else _
      cases isB s[j].toNat k <;> rfl
theorem scan_Run_eq (s : Str) (at' k : Int) (hs : s.length ≤ 4611686018427387904) : scan_Run s at' k = some (runM s at' k) := by
  unfold scan_Run runM
  simp only [Bool.or_eq_true, decide_eq_true_eq, gt_iff_lt]
  split
  · rfl
  · rename_i h
    obtain ⟨i, rfl⟩ : ∃ i : Nat, at' = i := ⟨at'.toNat, by omega⟩
    have := loopC_fun (f := scan_Run_l1 s i k) (fun x => ∃ j : Nat, x = j ∧ i + j ≤ s.length) (fun x => s.length - x.toNat) (fun x => if runE (isP k) s (i + x.toNat) = s.length then Sum.inr () else Sum.inl (runE (isP k) s (i + x.toNat) : Int)) (fun x hx => by
      obtain ⟨j, rfl, hj⟩ := hx
      simp only [Int.toNat_natCast]
      rcases Nat.lt_or_ge (i + j) s.length with h | h
      · have hi := idx_nat h
        have e : w64 ((i : Int) + (j : Int)) = ((i + j : Nat) : Int) := by rw [w64_id (by omega) (by omega)]; omega
        unfold scan_Run_l1
        rw [if_pos (by rw [w64_id (by omega) (by omega)]; simp; omega), e, hi]
        simp only [Option.bind_some, scan_Is_eq]
        cases hc : isB s[i + j].toNat k with
        | true =>
          right
          have e2 : w64 ((j : Int) + 1) = ((j + 1 : Nat) : Int) := by rw [w64_id (by omega) (by omega)]; omega
          refine ⟨((j + 1 : Nat) : Int), by rw [e2]; rfl, ⟨j + 1, rfl, by omega⟩, by rw [Int.toNat_natCast]; omega, ?_⟩
          rw [Int.toNat_natCast, ← Nat.add_assoc, ← runE_yes h hc]
        | false =>
          left
          rw [runE_no h hc, if_neg (show ¬ (i + j = s.length) by omega)]
          rfl
      · have : i + j = s.length := by omega
        left
        unfold scan_Run_l1
        rw [if_neg (by rw [w64_id (by omega) (by omega)]; simp; omega), this, runE_end]
        simp) (x := 0) ⟨0, rfl, by omega⟩
    rw [this]
    simp only [Option.bind_some, Int.toNat_zero, Nat.add_zero, Int.toNat_natCast]
    by_cases he : runE (isP k) s i = s.length
    · rw [if_pos he, he]
    · rw [if_neg he]

end Go.Vm

/- Plain laws of chapter 1: the order of digits. -/
set_option linter.unusedVariables false
set_option linter.unusedSimpArgs false
namespace Go.Vm
open Go

def isDig (s : Str) : Prop := ∀ c ∈ s, 48 ≤ c.toNat ∧ c.toNat ≤ 57
def val : Str → Nat
  | [] => 0
  | c :: s => (c.toNat - 48) * 10 ^ s.length + val s
theorem dig_trim {s : Str} (h : isDig s) : isDig (trimM s) := by
  unfold trimM
  split
  · intro c hc
    simp only [List.mem_singleton] at hc
    subst hc
    decide
  · intro c hc
    exact h c ((List.dropWhile_suffix _).subset hc)
theorem trim_canon (s : Str) : trimM s = [48] ∨ ∃ c t, trimM s = c :: t ∧ c ≠ 48 := by
  unfold trimM
  split
  · left; rfl
  · rename_i h
    right
    obtain ⟨c, t, e⟩ := List.exists_cons_of_ne_nil h
    refine ⟨c, t, e, fun hc => ?_⟩
    have : nought c = false := by
      have := List.head_dropWhile_not nought h
      simpa [e] using this
    subst hc
    exact absurd this (by decide)
end Go.Vm

/- Plain laws of chapter 5: versions are read. -/
set_option linter.unusedVariables false
set_option linter.unusedSimpArgs false
namespace Go.Vm
open Go

def partI (c : Int) : Bool := ((((isB c 5 || (c == 46)) || (c == 95)) || (c == 43)) || (c == 126)) || (c == 94)
def partP (c : UInt8) : Bool := partI c.toNat
theorem rpm_part_eq (c : Int) : rpm_part c = some (partI c) := by unfold rpm_part; rw [scan_Is_eq]; rfl
theorem ref05_Byte_eq (c : Int) : ref05_Byte c = some (partI c) := by unfold ref05_Byte; rw [ref01_Is_eq]; rfl
theorem rpm_end_eq (s : Str) (i : Nat) (hi : i ≤ s.length) (hs : s.length ≤ 4611686018427387904) : rpm_end s i = some (runE partP s i : Int) := by
  unfold rpm_end
  rw [scan_loop (p := partP) (s := s) ?_ ?_ hi]
  · rfl
  · unfold rpm_end_l1
    rw [if_neg (by simp)]
    rfl
  · intro j h
    unfold rpm_end_l1
    rw [if_pos (by simp; omega), idx_nat h, w64_id (by omega) (by omega)]
    simp only [Option.bind_some, rpm_part_eq]
    show _ = if partI _ = true then _ else _
    cases partI s[j].toNat <;> rfl
theorem ref05_run_eq (s : Str) (i : Nat) (hi : i ≤ s.length) (hs : s.length ≤ 4611686018427387904) : ref05_run s i = some (runE partP s i : Int) := by
  unfold ref05_run
  rw [scan_loop (p := partP) (s := s) ?_ ?_ hi]
  · rfl
  · unfold ref05_run_l1
    rw [if_neg (by simp)]
    rfl
  · intro j h
    unfold ref05_run_l1
    rw [if_pos (by simp; omega), idx_nat h, w64_id (by omega) (by omega)]
    simp only [Option.bind_some, ref05_Byte_eq]
    show _ = if partI _ = true then _ else _
    cases partI s[j].toNat <;> rfl
def wrongM (s : Str) (e : Nat) : S_api_Fault := if s.length ≤ e then ⟨11, s.length⟩ else ⟨10, e⟩
theorem rpm_wrong_eq (s : Str) (e : Nat) : rpm_wrong s e = some (wrongM s e) := by
  unfold rpm_wrong wrongM
  by_cases h : s.length ≤ e
  · rw [if_pos (by simp; omega), if_pos h]
  · rw [if_neg (by simp; omega), if_neg h]
theorem ref05_fault_eq (s : Str) (e : Nat) (he : e ≤ s.length) : ref05_fault s e = some (wrongM s e) := by
  unfold ref05_fault wrongM
  by_cases h : s.length ≤ e
  · rw [if_pos (by simp; omega), if_pos h, show e = s.length by omega]
  · rw [if_neg (by simp; omega), if_neg h]
def z0 : S_api_Evr := ⟨[], [], [], false⟩
def headM (s : Str) : Str × Nat := if 0 < runE (isP 1) s 0 ∧ s[runE (isP 1) s 0]? = some 58 then (trimM (s.take (runE (isP 1) s 0)), runE (isP 1) s 0 + 1) else ([48], 0)
def tailM (s ep : Str) (k e : Nat) : S_api_Evr × S_api_Fault :=
  if s[e]? = some 45 then
    if runE partP s (e + 1) = e + 1 ∨ runE partP s (e + 1) < s.length then (z0, wrongM s (runE partP s (e + 1)))
    else (⟨ep, (s.drop k).take (e - k), (s.drop (e + 1)).take (runE partP s (e + 1) - (e + 1)), true⟩, ⟨0, 0⟩)
  else if e < s.length then (z0, wrongM s e) else (⟨ep, (s.drop k).take (e - k), [], false⟩, ⟨0, 0⟩)
def parseM (s : Str) : S_api_Evr × S_api_Fault :=
  if 64 < s.length then (z0, ⟨12, 64⟩)
  else if runE partP s (headM s).2 = (headM s).2 then (z0, wrongM s (headM s).2)
  else tailM s (headM s).1 (headM s).2 (runE partP s (headM s).2)
theorem at_eq (s : Str) (k : Nat) (c : UInt8) : (if (decide ((k : Int) < (List.length s : Int))) = true then Option.bind (idx s k) (fun x => some (x == (c.toNat : Int))) else some false) = some (decide (s[k]? = some c)) := by
  by_cases h : k < s.length
  · rw [if_pos (by simp; omega), idx_nat h, List.getElem?_eq_getElem h]
    simp only [Option.bind_some, u8c_beq, Option.some.injEq]
    rfl
  · rw [if_neg (by simp; omega), List.getElem?_eq_none (by omega)]
    rfl
theorem headM_le (s : Str) : (headM s).2 ≤ s.length := by
  unfold headM
  split
  · rename_i h
    rcases Nat.lt_or_ge (runE (isP 1) s 0) s.length with h' | h'
    · exact h'
    · rw [List.getElem?_eq_none h'] at h; cases h.2
  · exact Nat.zero_le _
theorem run_hd (s : Str) (hs : s.length ≤ 64) : runM s 0 1 = (runE (isP 1) s 0 : Int) := by
  unfold runM
  rw [if_neg (by omega)]
  rfl
theorem head_eq (s : Str) {tr : Str → Option Str} (htr : ∀ t, t.length ≤ s.length → tr t = some (trimM t)) (hs : s.length ≤ 64) :
    Option.bind (if ((decide ((runE (isP 1) s 0 : Int) > 0)) && (decide ((runE (isP 1) s 0 : Int) < (List.length s : Int)))) = true then Option.bind (idx s (runE (isP 1) s 0 : Int)) (fun x => some (x == 58)) else some false : Option Bool) (fun x10 => if x10 = true then Option.bind (subl s 0 (runE (isP 1) s 0 : Int)) (fun x12 => Option.bind (tr x12) (fun x13 => some (x13, w64 ((runE (isP 1) s 0 : Int) + 1)))) else some ([48], 0)) = some ((headM s).1, ((headM s).2 : Int)) := by
  have hle : runE (isP 1) s 0 ≤ s.length := runE_le (Nat.zero_le _)
  unfold headM
  generalize runE (isP 1) s 0 = k at hle
  by_cases h0 : 0 < k
  · have e : (if ((decide ((k : Int) > 0)) && (decide ((k : Int) < (List.length s : Int)))) = true then Option.bind (idx s (k : Int)) (fun x => some (x == 58)) else some false : Option Bool) = some (decide (s[k]? = some 58)) := by
      rw [← at_eq s k 58]
      rw [decide_eq_true (show (k : Int) > 0 by omega), Bool.true_and]
      rfl
    rw [e]
    simp only [Option.bind_some, decide_eq_true_eq]
    by_cases h1 : s[k]? = some 58
    · rw [if_pos h1, if_pos ⟨h0, h1⟩, subl_take hle]
      simp only [Option.bind_some]
      rw [htr _ (by simp; omega), w64_id (by omega) (by omega)]
      rfl
    · rw [if_neg h1, if_neg (fun q => h1 q.2)]
      rfl
  · rw [if_neg (by simp; omega)]
    simp only [Option.bind_some, Bool.false_eq_true, if_false]
    rw [if_neg (fun q => h0 q.1)]
    rfl
theorem dash_lt {s : Str} {e : Nat} {c : UInt8} (h : s[e]? = some c) : e < s.length := by
  rcases Nat.lt_or_ge e s.length with h' | h'
  · exact h'
  · rw [List.getElem?_eq_none h'] at h; cases h
theorem rpm_Parse_eq (s : Str) : rpm_Parse s = some (parseM s) := by
  unfold rpm_Parse parseM
  by_cases hs : s.length ≤ 64
  · rw [if_neg (by simp; omega), if_neg (by omega), scan_Run_eq s 0 1 (by omega), run_hd s hs]
    simp only [Option.bind_some]
    rw [head_eq s (tr := scan_Trim) (fun t ht => scan_Trim_eq t (by omega)) hs]
    simp only [Option.bind_some]
    have hh := headM_le s
    rw [rpm_end_eq s _ hh (by omega)]
    simp only [Option.bind_some, rpm_wrong_eq]
    have he : runE partP s (headM s).2 ≤ s.length := runE_le hh
    have hg : (headM s).2 ≤ runE partP s (headM s).2 := runE_ge _ _ _
    generalize runE partP s (headM s).2 = e at he hg
    generalize (headM s).2 = k at hh hg
    generalize (headM s).1 = ep
    by_cases h1 : e = k
    · rw [if_pos (by simp [h1]), if_pos h1, h1]
      rfl
    · rw [if_neg (by simp; omega), if_neg h1, subl_nat hg he]
      simp only [Option.bind_some]
      have ha := at_eq s e 45
      rw [show ((45 : UInt8).toNat : Int) = 45 from rfl] at ha
      rw [ha]
      simp only [Option.bind_some, decide_eq_true_eq]
      unfold tailM
      by_cases h2 : s[e]? = some 45
      · have hl := dash_lt h2
        have hf : runE partP s (e + 1) ≤ s.length := runE_le hl
        have hfg : e + 1 ≤ runE partP s (e + 1) := runE_ge _ _ _
        rw [if_pos h2, if_pos h2, w64_id (by omega) (by omega), show (e : Int) + 1 = ((e + 1 : Nat) : Int) by omega, rpm_end_eq s _ hl (by omega)]
        simp only [Option.bind_some]
        generalize runE partP s (e + 1) = f at hf hfg
        by_cases h3 : f = e + 1
        · rw [if_pos (by simp [h3]), if_pos (.inl h3), rpm_wrong_eq]
          rfl
        · rw [if_neg (by simp; omega), subl_nat hfg hf]
          simp only [Option.bind_some]
          by_cases h4 : f < s.length
          · rw [if_pos (by simp; omega), if_pos (.inr h4), rpm_wrong_eq]
            rfl
          · rw [if_neg (by simp; omega), if_neg (by omega)]
      · rw [if_neg h2, if_neg h2]
        simp only [Option.bind_some]
        by_cases h4 : e < s.length
        · rw [if_pos (by simp; omega), if_pos h4, rpm_wrong_eq]
          rfl
        · rw [if_neg (by simp; omega), if_neg h4]
  · rw [if_pos (by simp; omega), if_pos (by omega)]
    rfl
theorem ref05_Parse_eq (s : Str) : ref05_Parse s = some (parseM s) := by
  unfold ref05_Parse parseM
  by_cases hs : s.length ≤ 64
  · rw [if_neg (by simp; omega), if_neg (by omega), ref01_Run_eq s 0 1 (by omega), run_hd s hs]
    simp only [Option.bind_some]
    rw [head_eq s (tr := ref01_Trim) (fun t ht => ref01_Trim_eq t (by omega)) hs]
    simp only [Option.bind_some]
    have hh := headM_le s
    rw [ref05_run_eq s _ hh (by omega)]
    simp only [Option.bind_some]
    rw [ref05_fault_eq s _ hh]
    have he : runE partP s (headM s).2 ≤ s.length := runE_le hh
    have hg : (headM s).2 ≤ runE partP s (headM s).2 := runE_ge _ _ _
    generalize runE partP s (headM s).2 = e at he hg
    generalize (headM s).2 = k at hh hg
    generalize (headM s).1 = ep
    by_cases h1 : e = k
    · rw [if_pos (by simp [h1]), if_pos h1]
      rfl
    · rw [if_neg (by simp; omega), if_neg h1, subl_nat hg he]
      simp only [Option.bind_some]
      have ha := at_eq s e 45
      rw [show ((45 : UInt8).toNat : Int) = 45 from rfl] at ha
      rw [ha]
      simp only [Option.bind_some, decide_eq_true_eq]
      unfold tailM
      by_cases h2 : s[e]? = some 45
      · have hl := dash_lt h2
        have hf : runE partP s (e + 1) ≤ s.length := runE_le hl
        have hfg : e + 1 ≤ runE partP s (e + 1) := runE_ge _ _ _
        rw [if_pos h2, if_pos h2, w64_id (by omega) (by omega), show (e : Int) + 1 = ((e + 1 : Nat) : Int) by omega, ref05_run_eq s _ hl (by omega)]
        simp only [Option.bind_some]
        generalize runE partP s (e + 1) = f at hf hfg
        by_cases h3 : f = e + 1
        · rw [if_pos (by simp [h3]), if_pos (.inl h3), ref05_fault_eq s _ hf]
          rfl
        · rw [if_neg (by simp; omega), subl_nat hfg hf]
          simp only [Option.bind_some]
          by_cases h4 : f < s.length
          · rw [if_pos (by simp; omega), if_pos (.inr h4), ref05_fault_eq s _ hf]
            rfl
          · rw [if_neg (by simp; omega), if_neg (by omega)]
      · rw [if_neg h2, if_neg h2]
        simp only [Option.bind_some]
        by_cases h4 : e < s.length
        · rw [if_pos (by simp; omega), if_pos h4, ref05_fault_eq s _ he]
          rfl
        · rw [if_neg (by simp; omega), if_neg h4]
  · rw [if_pos (by simp; omega), if_pos (by omega)]
    rfl
end Go.Vm

/- Plain laws of chapter 5: segments of versions. -/
set_option linter.unusedVariables false
set_option linter.unusedSimpArgs false
namespace Go.Vm
open Go

theorem dropWhile_len {p : UInt8 → Bool} (l : Str) : (l.dropWhile p).length ≤ l.length := (List.dropWhile_suffix p).length_le
def segs : Str → List S_rpm_segment
  | [] => []
  | c :: r =>
    if c = 126 then ⟨0, [c]⟩ :: segs r
    else if c = 94 then ⟨2, [c]⟩ :: segs r
    else if isP 1 c = true then ⟨4, c :: r.takeWhile (isP 1)⟩ :: segs (r.dropWhile (isP 1))
    else if isP 4 c = true then ⟨3, c :: r.takeWhile (isP 4)⟩ :: segs (r.dropWhile (isP 4))
    else segs r
termination_by s => s.length
decreasing_by
  all_goals simp only [List.length_cons]
  · omega
  · omega
  · have := dropWhile_len (p := isP 1) r; omega
  · have := dropWhile_len (p := isP 4) r; omega
  · omega
theorem drop_tw {p : UInt8 → Bool} : ∀ l : Str, l.drop (l.takeWhile p).length = l.dropWhile p
  | [] => rfl
  | c :: l => by
    cases h : p c with
    | true => rw [List.takeWhile_cons_of_pos h, List.dropWhile_cons_of_pos h, List.length_cons, List.drop_succ_cons, drop_tw l]
    | false => rw [List.takeWhile_cons_of_neg (by simp [h]), List.dropWhile_cons_of_neg (by simp [h])]; rfl
theorem take_tw {p : UInt8 → Bool} : ∀ l : Str, l.take (l.takeWhile p).length = l.takeWhile p
  | [] => rfl
  | c :: l => by
    cases h : p c with
    | true => rw [List.takeWhile_cons_of_pos h, List.length_cons, List.take_succ_cons, take_tw l]
    | false => rw [List.takeWhile_cons_of_neg (by simp [h])]; rfl
theorem runE_cons {p : UInt8 → Bool} {s : Str} {i : Nat} {c : UInt8} {r : Str} (h : s.drop i = c :: r) (hp : p c = true) : runE p s i = i + 1 + (r.takeWhile p).length ∧ s.drop (runE p s i) = r.dropWhile p ∧ (s.drop i).take (runE p s i - i) = c :: r.takeWhile p := by
  have e : runE p s i = i + 1 + (r.takeWhile p).length := by
    unfold runE
    rw [h, List.takeWhile_cons_of_pos hp, List.length_cons]
    omega
  refine ⟨e, ?_, ?_⟩
  · rw [e, Nat.add_assoc, ← List.drop_drop, h, Nat.add_comm 1, List.drop_succ_cons]
    exact drop_tw r
  · rw [e, h, show i + 1 + (r.takeWhile p).length - i = (r.takeWhile p).length + 1 by omega, List.take_succ_cons]
    rw [take_tw]
def segAt (c : UInt8) (r : Str) : Option (Int × Str × Str) :=
  if c = 126 then some (0, [c], r)
  else if c = 94 then some (2, [c], r)
  else if isP 1 c = true then some (4, c :: r.takeWhile (isP 1), r.dropWhile (isP 1))
  else if isP 4 c = true then some (3, c :: r.takeWhile (isP 4), r.dropWhile (isP 4))
  else none
theorem segs_cons (c : UInt8) (r : Str) : segs (c :: r) = match segAt c r with
    | some (k, t, q) => ⟨k, t⟩ :: segs q
    | none => segs r := by
  rw [segs]
  unfold segAt
  split
  · rfl
  · split
    · rfl
    · split
      · rfl
      · split <;> rfl
theorem segAt_eq {s : Str} {i : Nat} {c : UInt8} {r : Str} (h : s.drop i = c :: r) (hs : s.length ≤ 4194304) :
    Option.bind (subl s i (w64 ((i : Int) + 1))) (fun x31 => (Option.bind (idx s i) (fun x41 => (if (x41 == 126) = true then some (Sum.inl (0, x31)) else (if (x41 == 94) = true then some (Sum.inl (2, x31)) else Option.bind (scan_Is x41 1) (fun x42 => (if x42 = true then Option.bind (scan_Run s i 1) (fun x43 => Option.bind (subl s i x43) (fun x44 => some (Sum.inl (4, x44)))) else Option.bind (scan_Is x41 4) (fun x45 => (if x45 = true then Option.bind (scan_Run s i 4) (fun x46 => Option.bind (subl s i x46) (fun x47 => some (Sum.inl (3, x47)))) else some (Sum.inr ())))))))) : Option ((Int × Str) ⊕ (Unit)))) = some (match segAt c r with
      | some (k, t, _) => Sum.inl (k, t)
      | none => Sum.inr ()) := by
  have hi : i < s.length := by
    rcases Nat.lt_or_ge i s.length with h' | h'
    · exact h'
    · rw [List.drop_eq_nil_of_le h'] at h; cases h
  have hc : s[i] = c := by
    rw [List.drop_eq_getElem_cons hi] at h
    exact (List.cons.inj h).1
  have hrun : ∀ k, scan_Run s i k = some (runE (isP k) s i : Int) := fun k => by
    rw [scan_Run_eq _ _ _ (by omega)]
    unfold runM
    rw [if_neg (by omega), Int.toNat_natCast]
  have h1 : subl s i (w64 ((i : Int) + 1)) = some [c] := by
    rw [w64_id (by omega) (by omega), show (i : Int) + 1 = ((i + 1 : Nat) : Int) by omega, subl_nat (by omega) (by omega), h, Nat.add_sub_cancel_left]
    rfl
  rw [h1, idx_nat hi, hc]
  simp only [Option.bind_some, scan_Is_eq]
  have e1 : ((c.toNat : Int) == 126) = (c == 126) := u8c_beq c 126
  have e2 : ((c.toNat : Int) == 94) = (c == 94) := u8c_beq c 94
  rw [e1, e2]
  unfold segAt
  simp only [beq_iff_eq]
  by_cases k1 : c = 126
  · rw [if_pos k1, if_pos k1]
  · rw [if_neg k1, if_neg k1]
    by_cases k2 : c = 94
    · rw [if_pos k2, if_pos k2]
    · rw [if_neg k2, if_neg k2]
      by_cases k3 : isP 1 c = true
      · obtain ⟨a1, a2, a3⟩ := runE_cons h k3
        have hle : runE (isP 1) s i ≤ s.length := runE_le (Nat.le_of_lt hi)
        rw [if_pos k3, if_pos (show isB (c.toNat : Int) 1 = true from k3), hrun]
        simp only [Option.bind_some]
        rw [subl_nat (by omega) hle, a3]
        rfl
      · rw [if_neg k3, if_neg (show ¬ isB (c.toNat : Int) 1 = true from k3)]
        by_cases k4 : isP 4 c = true
        · obtain ⟨a1, a2, a3⟩ := runE_cons h k4
          have hle : runE (isP 4) s i ≤ s.length := runE_le (Nat.le_of_lt hi)
          rw [if_pos k4, if_pos (show isB (c.toNat : Int) 4 = true from k4), hrun]
          simp only [Option.bind_some]
          rw [subl_nat (by omega) hle, a3]
          rfl
        · rw [if_neg k4, if_neg (show ¬ isB (c.toNat : Int) 4 = true from k4)]
theorem segAt_len {c : UInt8} {r : Str} {k : Int} {t q : Str} (h : segAt c r = some (k, t, q)) : 1 ≤ t.length ∧ t ++ q = c :: r := by
  unfold segAt at h
  split at h
  · cases h; exact ⟨Nat.le_refl _, rfl⟩
  · split at h
    · cases h; exact ⟨Nat.le_refl _, rfl⟩
    · split at h
      · cases h; exact ⟨by simp, by simp⟩
      · split at h
        · cases h; exact ⟨by simp, by simp⟩
        · cases h
theorem drop_after {s t q : Str} {i : Nat} (h : s.drop i = t ++ q) : s.drop (i + t.length) = q ∧ (i ≤ s.length → i + t.length ≤ s.length) := by
  refine ⟨by rw [← List.drop_drop, h]; simp, fun hi => ?_⟩
  have := congrArg List.length h
  simp only [List.length_drop, List.length_append] at this
  omega
theorem bind_assoc' {α β γ : Type} (a : Option α) (f : α → Option β) (g : β → Option γ) : Option.bind (Option.bind a f) g = Option.bind a fun x => Option.bind (f x) g := by cases a <;> rfl
theorem seg_l1 (s : Str) (hs : s.length ≤ 4194304) : loopC (rpm_Segments_l1 s) (0, []) = some (segs s) := by
  have := loopC_fun (f := rpm_Segments_l1 s) (fun x => ∃ i : Nat, x.1 = i ∧ i ≤ s.length ∧ x.2.length ≤ i) (fun x => s.length - x.1.toNat) (fun x => x.2 ++ segs (s.drop x.1.toNat)) (fun x hx => by
    obtain ⟨z, out⟩ := x
    obtain ⟨i, e, hi, ho⟩ := hx
    simp only at e ho
    subst e
    simp only [Int.toNat_natCast]
    rcases Nat.lt_or_ge i s.length with h | h
    · right
      obtain ⟨c, r, hd⟩ : ∃ c r, s.drop i = c :: r := ⟨_, _, List.drop_eq_getElem_cons h⟩
      unfold rpm_Segments_l1
      simp only []
      rw [if_pos (by simp; omega), ← bind_assoc', segAt_eq hd hs, hd, segs_cons]
      cases hq : segAt c r with
      | none =>
        have h2 := (drop_after (t := [c]) (q := r) hd).1
        refine ⟨(((i + 1 : Nat) : Int), out), ?_, ⟨i + 1, rfl, h, by show out.length ≤ i + 1; omega⟩, by simp only [Int.toNat_natCast]; omega, ?_⟩
        · simp only [Option.bind_some]
          rw [w64_id (by omega) (by omega)]
          rfl
        · simp only [Int.toNat_natCast]
          rw [show s.drop (i + 1) = r from h2]
      | some p =>
        obtain ⟨k, t, q⟩ := p
        obtain ⟨h1, h2⟩ := segAt_len hq
        rw [← h2] at hd
        obtain ⟨h3, h4⟩ := drop_after hd
        have h5 := h4 hi
        refine ⟨(((i + t.length : Nat) : Int), out ++ [⟨k, t⟩]), ?_, ⟨i + t.length, rfl, h5, by simp; omega⟩, by simp only [Int.toNat_natCast]; omega, ?_⟩
        · simp only [Option.bind_some]
          rw [app_ok (by simp; omega) (by simp; omega)]
          simp only [Option.bind_some]
          rw [w64_id (by omega) (by omega)]
          rfl
        · simp only [Int.toNat_natCast]
          rw [h3]
          simp
    · have : i = s.length := by omega
      subst this
      left
      unfold rpm_Segments_l1
      simp only []
      rw [if_neg (by simp)]
      simp [segs]) (x := (0, [])) ⟨0, rfl, Nat.zero_le _, Nat.le_refl _⟩
  simpa using this
def cmpG (x : S_rpm_segment) (k : Int) (t : Str) : Int :=
  if cmpI x.kind k ≠ 0 then cmpI x.kind k else if x.kind = 4 then cmpM x.text t else if x.kind = 3 then Lib.compareBytes x.text t else 0
def stepS (rest : List S_rpm_segment) (n k : Int) (t : Str) : (List S_rpm_segment × Int) ⊕ (List S_rpm_segment × Int) :=
  match rest with
  | [] => .inl ([], n)
  | x :: rs => if cmpG x k t ≠ 0 then .inl (rs, cmpG x k t) else .inr (rs, cmpG x k t)
theorem stepS_eq (rest : List S_rpm_segment) (n k : Int) (t : Str) (hr : ∀ x ∈ rest, x.text.length ≤ 4194304) (ht : t.length ≤ 4194304) :
    ((if ((List.length rest : Int) == 0) = true then some (Sum.inl (rest, n)) else Option.bind (ixl rest 0) (fun x200 => Option.bind (subl rest 1 (List.length rest : Int)) (fun x201 => Option.bind (cmp_Compare_int x200.kind k) (fun x202 => Option.bind ((if ((x202 == 0) && (x200.kind == 4)) = true then Option.bind (scan_Cmp x200.text t) (fun x205 => some x205) else some x202) : Option (Int)) (fun x204 => Option.bind ((if ((x204 == 0) && (x200.kind == 3)) = true then Option.bind (strings_Compare x200.text t) (fun x208 => some x208) else some x204) : Option (Int)) (fun x207 => (if (x207 != 0) = true then some (Sum.inl (x201, x207)) else some (Sum.inr (x201, x207))))))))) : Option ((List S_rpm_segment × Int) ⊕ (List S_rpm_segment × Int))) = some (stepS rest n k t) := by
  cases rest with
  | nil => rfl
  | cons x rs =>
    rw [if_neg (by simp; omega)]
    have h0 : ixl (x :: rs) 0 = some x := ixl_nat (l := x :: rs) (i := 0) (by simp)
    have h1 : subl (x :: rs) 1 ((x :: rs).length : Int) = some rs := by
      have := subl_drop (l := x :: rs) (i := 1) (by simp)
      simpa using this
    rw [h0, h1]
    simp only [Option.bind_some, cmp_Compare_int_eq, strings_Compare_eq]
    rw [scan_Cmp_eq _ _ (by have := hr x List.mem_cons_self; omega) (by omega)]
    unfold stepS cmpG
    simp only [Option.bind_some, Bool.and_eq_true, beq_iff_eq, bne_iff_ne, ne_eq]
    by_cases c1 : cmpI x.kind k = 0
    · by_cases c2 : x.kind = 4
      · have c1' : cmpI 4 k = 0 := by rw [← c2]; exact c1
        by_cases c4 : cmpM x.text t = 0 <;> simp [c1', c2, c4]
      · by_cases c3 : x.kind = 3
        · have c1' : cmpI 3 k = 0 := by rw [← c3]; exact c1
          by_cases c4 : Lib.compareBytes x.text t = 0 <;> simp [c1', c3, c4]
        · simp [c1, c2, c3]
    · simp [c1]
def walkS : List S_rpm_segment → List S_rpm_segment → Int → (List S_rpm_segment × Int) ⊕ (List S_rpm_segment × Int)
  | rest, [], n => .inr (rest, n)
  | rest, y :: ys, n => match stepS rest n y.kind y.text with
    | .inl r => .inl r
    | .inr r => walkS r.1 ys r.2
theorem stepS_mem {rest rs : List S_rpm_segment} {n m k : Int} {t : Str} (h : stepS rest n k t = .inr (rs, m)) : ∀ x ∈ rs, x ∈ rest := by
  unfold stepS at h
  cases rest with
  | nil => cases h
  | cons x xs =>
    simp only at h
    split at h
    · cases h
    · cases h; exact fun y hy => List.mem_cons_of_mem _ hy
theorem seg_l2 (s : Str) (hs : s.length ≤ 4194304) (rest : List S_rpm_segment) (n : Int) (hr : ∀ x ∈ rest, x.text.length ≤ 4194304) : loopC (rpm_Segments_l2 s) (0, rest, n) = some (walkS rest (segs s) n) := by
  have := loopC_fun (f := rpm_Segments_l2 s) (fun x => ∃ i : Nat, x.1 = i ∧ i ≤ s.length ∧ ∀ y ∈ x.2.1, y.text.length ≤ 4194304) (fun x => s.length - x.1.toNat) (fun x => walkS x.2.1 (segs (s.drop x.1.toNat)) x.2.2) (fun x hx => by
    obtain ⟨z, out, m⟩ := x
    obtain ⟨i, e, hi, ho⟩ := hx
    simp only at e ho
    subst e
    simp only [Int.toNat_natCast]
    rcases Nat.lt_or_ge i s.length with h | h
    · obtain ⟨c, r, hd⟩ : ∃ c r, s.drop i = c :: r := ⟨_, _, List.drop_eq_getElem_cons h⟩
      unfold rpm_Segments_l2
      simp only []
      rw [if_pos (by simp; omega), ← bind_assoc', segAt_eq hd hs, hd, segs_cons]
      cases hq : segAt c r with
      | none =>
        right
        have h2 := (drop_after (t := [c]) (q := r) hd).1
        refine ⟨(((i + 1 : Nat) : Int), out, m), ?_, ⟨i + 1, rfl, h, ho⟩, by simp only [Int.toNat_natCast]; omega, ?_⟩
        · simp only [Option.bind_some]
          rw [w64_id (by omega) (by omega)]
          rfl
        · simp only [Int.toNat_natCast]
          rw [show s.drop (i + 1) = r from h2]
      | some p =>
        obtain ⟨k, t, q⟩ := p
        obtain ⟨h1, h2⟩ := segAt_len hq
        rw [← h2] at hd
        obtain ⟨h3, h4⟩ := drop_after hd
        have h5 := h4 hi
        simp only [Option.bind_some]
        rw [stepS_eq out m k t ho (by omega)]
        simp only [Option.bind_some, walkS]
        cases hst : stepS out m k t with
        | inl y => left; rfl
        | inr y =>
          right
          obtain ⟨rs, m2⟩ := y
          refine ⟨(((i + t.length : Nat) : Int), rs, m2), ?_, ⟨i + t.length, rfl, h5, fun y hy => ho y (stepS_mem hst y hy)⟩, by simp only [Int.toNat_natCast]; omega, ?_⟩
          · simp only []
            rw [w64_id (by omega) (by omega)]
            rfl
          · simp only [Int.toNat_natCast]
            rw [h3]
    · have : i = s.length := by omega
      subst this
      left
      unfold rpm_Segments_l2
      simp only []
      rw [if_neg (by simp)]
      simp [segs, walkS]) (x := (0, rest, n)) ⟨0, rfl, Nat.zero_le _, hr⟩
  simpa using this
theorem segs_text : ∀ (s : Str), ∀ x ∈ segs s, x.text.length ≤ s.length := fun s => by
  have key : ∀ n (s : Str), s.length ≤ n → ∀ x ∈ segs s, x.text.length ≤ s.length := by
    intro n
    induction n with
    | zero => intro s h x hx; have : s = [] := List.length_eq_zero_iff.1 (by omega); subst this; simp [segs] at hx
    | succ n ih =>
      intro s h x hx
      cases s with
      | nil => simp [segs] at hx
      | cons c r =>
        rw [segs_cons] at hx
        simp only [List.length_cons] at h ⊢
        cases hq : segAt c r with
        | none => rw [hq] at hx; have := ih r (by omega) x hx; omega
        | some p =>
          obtain ⟨k, t, q⟩ := p
          obtain ⟨h1, h2⟩ := segAt_len hq
          have := congrArg List.length h2
          simp only [List.length_append, List.length_cons] at this
          rw [hq] at hx
          rcases List.mem_cons.1 hx with rfl | hx
          · show t.length ≤ _; omega
          · have := ih q (by omega) x hx; omega
  exact key s.length s (Nat.le_refl _)
theorem segs_count : ∀ (s : Str), (segs s).length ≤ s.length := fun s => by
  have key : ∀ n (s : Str), s.length ≤ n → (segs s).length ≤ s.length := by
    intro n
    induction n with
    | zero => intro s h; have : s = [] := List.length_eq_zero_iff.1 (by omega); subst this; simp [segs]
    | succ n ih =>
      intro s h
      cases s with
      | nil => simp [segs]
      | cons c r =>
        rw [segs_cons]
        simp only [List.length_cons] at h ⊢
        cases hq : segAt c r with
        | none => have := ih r (by omega); simp only; omega
        | some p =>
          obtain ⟨k, t, q⟩ := p
          obtain ⟨h1, h2⟩ := segAt_len hq
          have := congrArg List.length h2
          simp only [List.length_append, List.length_cons] at this
          have := ih q (by omega)
          simp only [List.length_cons]
          omega
  exact key s.length s (Nat.le_refl _)
def outS (r : (List S_rpm_segment × Int) ⊕ (List S_rpm_segment × Int)) : Int := match r with | .inl q => q.2 | .inr q => q.2
def segM (a b : Str) : Int := match walkS (segs a ++ [⟨1, []⟩]) (segs b) 0 with
  | .inl r => r.2
  | .inr r => outS (stepS r.1 r.2 1 [])
theorem walkS_mem : ∀ {ys rest : List S_rpm_segment} {n : Int} {r : List S_rpm_segment × Int}, walkS rest ys n = .inr r → ∀ x ∈ r.1, x ∈ rest
  | [], rest, n, r, h => by simp only [walkS] at h; cases h; exact fun x hx => hx
  | y :: ys, rest, n, r, h => by
    simp only [walkS] at h
    cases hst : stepS rest n y.kind y.text with
    | inl q => rw [hst] at h; cases h
    | inr q => rw [hst] at h; exact fun x hx => stepS_mem (rs := q.1) (m := q.2) hst x (walkS_mem h x hx)
theorem rpm_Segments_eq (a b : Str) (ha : a.length ≤ 4194304) (hb : b.length ≤ 4194304) : rpm_Segments a b = some (segM a b) := by
  have hc := segs_count a
  have ht : ∀ x ∈ segs a ++ [⟨1, []⟩], x.text.length ≤ 4194304 := fun x hx => by
    rcases List.mem_append.1 hx with h | h
    · exact Nat.le_trans (segs_text a x h) ha
    · simp only [List.mem_singleton] at h; subst h; exact Nat.zero_le _
  unfold rpm_Segments rpm_segments segM
  simp only [Option.bind_some]
  rw [seg_l1 a ha]
  simp only [Option.bind_some]
  rw [app_ok (by simp; omega) (by simp; omega)]
  simp only [Option.bind_some]
  rw [seg_l2 b hb _ _ ht]
  simp only [Option.bind_some]
  cases hw : walkS (segs a ++ [⟨1, []⟩]) (segs b) 0 with
  | inl r => rfl
  | inr r =>
    obtain ⟨r1, r2⟩ := r
    simp only []
    rw [stepS_eq r1 r2 1 [] (fun x hx => ht x (walkS_mem hw x hx)) (by simp)]
    simp only [Option.bind_some]
    cases stepS r1 r2 1 [] <;> rfl
end Go.Vm

/- Plain laws: orders. -/
set_option linter.unusedVariables false
set_option linter.unusedSimpArgs false
namespace Go.Vm
open Go
structure Ord3 {α : Type} (c : α → α → Int) : Prop where
  lo : ∀ x y, -1 ≤ c x y
  hi : ∀ x y, c x y ≤ 1
  refl : ∀ x, c x x = 0
  anti : ∀ x y, c y x = -c x y
  trans : ∀ x y z, c x y ≤ 0 → c y z ≤ 0 → c x z ≤ 0
theorem Ord3.eq_left {α : Type} {c : α → α → Int} (h : Ord3 c) {x y : α} (e : c x y = 0) (z : α) : c x z = c y z := by
  have e' : c y x = 0 := by rw [h.anti, e]; rfl
  have h1 := h.lo x z
  have h2 := h.hi x z
  have h3 := h.lo y z
  have h4 := h.hi y z
  have a1 := h.trans x y z (by omega)
  have a2 := h.trans y x z (by omega)
  have b1 := h.trans z x y
  have b2 := h.trans z y x
  rw [h.anti x z, h.anti y z] at b1 b2
  have b1' := b1
  omega
theorem ord_cmpI : Ord3 (fun x y : Int => cmpI x y) where
  lo x y := by unfold cmpI; split <;> (try split) <;> omega
  hi x y := by unfold cmpI; split <;> (try split) <;> omega
  refl x := by unfold cmpI; simp
  anti x y := by simp only [cmpI]; split <;> split <;> (try split) <;> omega
  trans x y z := by simp only [cmpI]; repeat (split <;> try omega)
theorem Ord3.map {α β : Type} {c : β → β → Int} (h : Ord3 c) (f : α → β) : Ord3 (fun x y => c (f x) (f y)) :=
  ⟨fun _ _ => h.lo _ _, fun _ _ => h.hi _ _, fun _ => h.refl _, fun _ _ => h.anti _ _, fun _ _ _ => h.trans _ _ _⟩
def lex2 {α : Type} (c d : α → α → Int) (x y : α) : Int := if c x y ≠ 0 then c x y else d x y
theorem Ord3.lex2 {α : Type} {c d : α → α → Int} (h : Ord3 c) (k : Ord3 d) : Ord3 (lex2 c d) where
  lo x y := by unfold Vm.lex2; split; exact h.lo _ _; exact k.lo _ _
  hi x y := by unfold Vm.lex2; split; exact h.hi _ _; exact k.hi _ _
  refl x := by unfold Vm.lex2; rw [if_neg (by simp [h.refl])]; exact k.refl _
  anti x y := by
    unfold Vm.lex2
    rw [h.anti x y, k.anti x y]
    by_cases e : c x y = 0
    · rw [if_neg (by omega), if_neg (by omega)]
    · rw [if_pos (by omega), if_pos e]
  trans x y z := by
    unfold Vm.lex2
    intro h1 h2
    by_cases e1 : c x y = 0
    · rw [if_neg (by omega)] at h1
      have := h.eq_left e1 z
      rw [this]
      by_cases e2 : c y z = 0
      · rw [if_neg (by omega)] at h2 ⊢
        exact k.trans _ _ _ h1 h2
      · rw [if_pos e2] at h2 ⊢
        exact h2
    · rw [if_pos e1] at h1
      have e1' := h.lo x y
      by_cases e2 : c y z = 0
      · have h3 := h.anti y z
        have := h.eq_left (x := z) (y := y) (by omega) x
        have a1 := h.anti x z
        have a2 := h.anti x y
        rw [if_pos (by omega)]
        omega
      · rw [if_pos e2] at h2
        have h3 := h.trans x y z h1 h2
        by_cases e3 : c x z = 0
        · exfalso
          have := h.eq_left e3 y
          have a1 := h.anti y z
          omega
        · rw [if_pos e3]; exact h3
def lexL {α : Type} (c : α → α → Int) : List α → List α → Int
  | [], [] => 0
  | [], _ :: _ => -1
  | _ :: _, [] => 1
  | x :: xs, y :: ys => if c x y ≠ 0 then c x y else lexL c xs ys
theorem lexL_lo {α : Type} {c : α → α → Int} (h : Ord3 c) : ∀ x y, -1 ≤ lexL c x y
  | [], [] => by simp [lexL]
  | [], _ :: _ => by simp [lexL]
  | _ :: _, [] => by simp [lexL]
  | x :: xs, y :: ys => by simp only [lexL]; split; exact h.lo _ _; exact lexL_lo h xs ys
theorem lexL_hi {α : Type} {c : α → α → Int} (h : Ord3 c) : ∀ x y, lexL c x y ≤ 1
  | [], [] => by simp [lexL]
  | [], _ :: _ => by simp [lexL]
  | _ :: _, [] => by simp [lexL]
  | x :: xs, y :: ys => by simp only [lexL]; split; exact h.hi _ _; exact lexL_hi h xs ys
theorem lexL_refl {α : Type} {c : α → α → Int} (h : Ord3 c) : ∀ x, lexL c x x = 0
  | [] => rfl
  | x :: xs => by simp only [lexL]; rw [if_neg (by simp [h.refl])]; exact lexL_refl h xs
theorem lexL_anti {α : Type} {c : α → α → Int} (h : Ord3 c) : ∀ x y, lexL c y x = -lexL c x y
  | [], [] => by simp [lexL]
  | [], _ :: _ => by simp [lexL]
  | _ :: _, [] => by simp [lexL]
  | x :: xs, y :: ys => by
    simp only [lexL]
    rw [h.anti x y, lexL_anti h xs ys]
    by_cases e : c x y = 0
    · rw [if_neg (by omega), if_neg (by omega)]
    · rw [if_pos (by omega), if_pos e]
theorem lexL_trans {α : Type} {c : α → α → Int} (h : Ord3 c) : ∀ x y z, lexL c x y ≤ 0 → lexL c y z ≤ 0 → lexL c x z ≤ 0
  | [], _, [], _, _ => by simp [lexL]
  | [], _, _ :: _, _, _ => by simp [lexL]
  | _ :: _, [], _, h1, _ => by simp [lexL] at h1
  | _ :: _, _ :: _, [], _, h2 => by simp [lexL] at h2
  | x :: xs, y :: ys, z :: zs, h1, h2 => by
    simp only [lexL] at h1 h2 ⊢
    have ih := lexL_trans h xs ys zs
    by_cases e1 : c x y = 0
    · rw [if_neg (by omega)] at h1
      have := h.eq_left e1 z
      rw [this]
      by_cases e2 : c y z = 0
      · rw [if_neg (by omega)] at h2 ⊢
        exact ih h1 h2
      · rw [if_pos e2] at h2 ⊢
        exact h2
    · rw [if_pos e1] at h1
      have e1' := h.lo x y
      by_cases e2 : c y z = 0
      · have h3 := h.anti y z
        have := h.eq_left (x := z) (y := y) (by omega) x
        have a1 := h.anti x z
        have a2 := h.anti x y
        rw [if_pos (by omega)]
        omega
      · rw [if_pos e2] at h2
        have h3 := h.trans x y z h1 h2
        by_cases e3 : c x z = 0
        · exfalso
          have := h.eq_left e3 y
          have a1 := h.anti y z
          omega
        · rw [if_pos e3]; exact h3
theorem ord_lexL {α : Type} {c : α → α → Int} (h : Ord3 c) : Ord3 (lexL c) := ⟨lexL_lo h, lexL_hi h, lexL_refl h, lexL_anti h, lexL_trans h⟩
theorem bytes_lex : ∀ a b : Str, Lib.compareBytes a b = lexL (fun x y : UInt8 => cmpI x.toNat y.toNat) a b
  | [], [] => rfl
  | [], _ :: _ => rfl
  | _ :: _, [] => rfl
  | x :: a, y :: b => by
    simp only [Lib.compareBytes, lexL, bytes_lex a b, UInt8.lt_iff_toNat_lt]
    unfold cmpI
    by_cases h1 : x.toNat < y.toNat
    · rw [if_pos h1, if_pos (show (x.toNat : Int) < y.toNat by omega)]; simp
    · rw [if_neg h1, if_neg (show ¬ (x.toNat : Int) < y.toNat by omega)]
      by_cases h2 : y.toNat < x.toNat
      · rw [if_pos h2, if_pos (show (y.toNat : Int) < x.toNat by omega)]; simp
      · rw [if_neg h2, if_neg (show ¬ (y.toNat : Int) < x.toNat by omega)]; simp
theorem ord_bytes : Ord3 Lib.compareBytes := by
  have h := ord_lexL (ord_cmpI.map fun x : UInt8 => (x.toNat : Int))
  have e : Lib.compareBytes = lexL (fun x y : UInt8 => cmpI x.toNat y.toNat) := by funext a b; exact bytes_lex a b
  rw [e]
  exact h
theorem ord_cmpM : Ord3 cmpM := by
  have h := (ord_cmpI.map fun x : Str => ((trimM x).length : Int)).lex2 (ord_bytes.map trimM)
  exact h
def k4 (x : S_rpm_segment) : List Str := if x.kind = 4 then [x.text] else []
def k3 (x : S_rpm_segment) : List Str := if x.kind = 3 then [x.text] else []
def segC : S_rpm_segment → S_rpm_segment → Int := lex2 (fun x y => cmpI x.kind y.kind) (lex2 (fun x y => lexL cmpM (k4 x) (k4 y)) (fun x y => lexL Lib.compareBytes (k3 x) (k3 y)))
theorem ord_segC : Ord3 segC := (ord_cmpI.map fun x : S_rpm_segment => x.kind).lex2 (((ord_lexL ord_cmpM).map k4).lex2 ((ord_lexL ord_bytes).map k3))
theorem cmpI_zero {a b : Int} (h : cmpI a b = 0) : a = b := by
  unfold cmpI at h
  split at h
  · omega
  · split at h <;> omega
theorem cmpG_eq (x y : S_rpm_segment) : cmpG x y.kind y.text = segC x y := by
  simp only [cmpG, segC, lex2]
  by_cases h : cmpI x.kind y.kind = 0
  · have e := cmpI_zero h
    have hn : ¬ (cmpI x.kind y.kind ≠ 0) := fun q => q h
    simp only [if_neg hn, k4, k3, ← e]
    by_cases c4 : x.kind = 4
    · simp only [c4, if_true, lexL]
      by_cases z : cmpM x.text y.text = 0
      · simp [z, lexL]
      · simp [z]
    · by_cases c3 : x.kind = 3
      · simp only [c3, if_true, lexL]
        by_cases z : Lib.compareBytes x.text y.text = 0
        · simp [z, lexL]
        · simp [z, lexL]
      · simp [c4, c3, lexL]
  · rw [if_pos h, if_pos h]
end Go.Vm

/- Plain laws of chapter 5: segments stand in an order. -/
set_option linter.unusedVariables false
set_option linter.unusedSimpArgs false
namespace Go.Vm
open Go
def ovr : S_rpm_segment := ⟨1, []⟩
theorem segAt_kind {c : UInt8} {r : Str} {k : Int} {t q : Str} (h : segAt c r = some (k, t, q)) : k ≠ 1 := by
  unfold segAt at h
  split at h
  · cases h; decide
  · split at h
    · cases h; decide
    · split at h
      · cases h; decide
      · split at h
        · cases h; decide
        · cases h
theorem segs_kind : ∀ (s : Str), ∀ x ∈ segs s, x.kind ≠ 1 := fun s => by
  have key : ∀ n (s : Str), s.length ≤ n → ∀ x ∈ segs s, x.kind ≠ 1 := by
    intro n
    induction n with
    | zero => intro s h x hx; have : s = [] := List.length_eq_zero_iff.1 (by omega); subst this; simp [segs] at hx
    | succ n ih =>
      intro s h x hx
      cases s with
      | nil => simp [segs] at hx
      | cons c r =>
        rw [segs_cons] at hx
        simp only [List.length_cons] at h
        cases hq : segAt c r with
        | none => rw [hq] at hx; exact ih r (by omega) x hx
        | some p =>
          obtain ⟨k, t, q⟩ := p
          obtain ⟨h1, h2⟩ := segAt_len hq
          have := congrArg List.length h2
          simp only [List.length_append, List.length_cons] at this
          rw [hq] at hx
          rcases List.mem_cons.1 hx with rfl | hx
          · exact segAt_kind hq
          · exact ih q (by omega) x hx
  exact key s.length s (Nat.le_refl _)
theorem segC_kind {x y : S_rpm_segment} (h : x.kind ≠ y.kind) : segC x y ≠ 0 := by
  unfold segC lex2
  simp only []
  have : cmpI x.kind y.kind ≠ 0 := fun e => h (cmpI_zero e)
  rw [if_pos this]
  exact this
theorem walk_lex : ∀ (A B : List S_rpm_segment), (∀ x ∈ A, x.kind ≠ 1) → (∀ x ∈ B, x.kind ≠ 1) → (match walkS (A ++ [ovr]) B 0 with
    | .inl r => r.2
    | .inr r => outS (stepS r.1 r.2 1 [])) = lexL segC (A ++ [ovr]) (B ++ [ovr])
  | [], [], _, _ => by
    have := cmpG_eq ovr ovr
    simp only [List.nil_append, walkS, lexL, stepS]
    rw [show cmpG ovr 1 [] = segC ovr ovr from this, ord_segC.refl]
    rfl
  | [], y :: B, _, hB => by
    have h := segC_kind (x := ovr) (y := y) (fun e => hB y List.mem_cons_self e.symm)
    simp only [List.nil_append, List.cons_append, walkS, stepS, cmpG_eq, lexL, if_pos h]
  | x :: A, [], hA, _ => by
    have h := segC_kind (x := x) (y := ovr) (hA x List.mem_cons_self)
    have e : cmpG x 1 [] = segC x ovr := cmpG_eq x ovr
    simp only [List.nil_append, List.cons_append, walkS, stepS, e, lexL, if_pos h, outS]
  | x :: A, y :: B, hA, hB => by
    have ih := walk_lex A B (fun z hz => hA z (List.mem_cons_of_mem _ hz)) (fun z hz => hB z (List.mem_cons_of_mem _ hz))
    simp only [List.cons_append, walkS, stepS, cmpG_eq, lexL]
    by_cases h : segC x y = 0
    · rw [if_neg (fun q => q h), if_neg (fun q => q h), h]
      exact ih
    · rw [if_pos h, if_pos h]
theorem segM_lex (a b : Str) : segM a b = lexL segC (segs a ++ [ovr]) (segs b ++ [ovr]) := walk_lex _ _ (segs_kind a) (segs_kind b)
end Go.Vm

/- Plain laws of chapter 5: what is read, written and fits. -/
set_option linter.unusedVariables false
set_option linter.unusedSimpArgs false
namespace Go.Vm
open Go
theorem runE_all {p : UInt8 → Bool} {s t : Str} (hs : ∀ c ∈ s, p c = true) (ht : ∀ c, t[0]? = some c → p c = false) (i : Nat) (u : Str) (hu : u.length = i) : runE p (u ++ (s ++ t)) i = i + s.length := by
  subst hu
  unfold runE
  rw [List.drop_left]
  congr 1
  congr 1
  induction s with
  | nil =>
    cases t with
    | nil => rfl
    | cons c t => rw [List.nil_append, List.takeWhile_cons_of_neg (by simp [ht c rfl])]
  | cons c s ih =>
    rw [List.cons_append, List.takeWhile_cons_of_pos (hs c List.mem_cons_self), ih fun x hx => hs x (List.mem_cons_of_mem _ hx)]
def segsP (s : Str) : Prop := s ≠ [] ∧ ∀ c ∈ s, partP c = true
instance (s : Str) : Decidable (segsP s) := inferInstanceAs (Decidable (_ ∧ _))
def rawM (v : S_api_Evr) : Str := (if v.Epoch = [48] then v.Ver else v.Epoch ++ 58 :: v.Ver) ++ (if v.HasRel = true then 45 :: v.Rel else [])
def fitM (v : S_api_Evr) : Prop := v.Epoch ≠ [] ∧ (∀ c ∈ v.Epoch, isP 1 c = true) ∧ trimM v.Epoch = v.Epoch ∧ segsP v.Ver ∧ (if v.HasRel = true then segsP v.Rel else v.Rel = []) ∧ (rawM v).length ≤ 64
instance (v : S_api_Evr) : Decidable (fitM v) := inferInstanceAs (Decidable (_ ∧ _ ∧ _ ∧ _ ∧ _ ∧ _))

theorem partP_58 : partP 58 = false := by decide
theorem runE_append {p : UInt8 → Bool} {u s t : Str} (hs : ∀ c ∈ s, p c = true) (ht : ∀ c, t[0]? = some c → p c = false) : runE p (u ++ (s ++ t)) u.length = u.length + s.length := runE_all hs ht _ u rfl
theorem take_drop_mid (u s t : Str) : ((u ++ (s ++ t)).drop u.length).take s.length = s := by
  rw [List.drop_left, List.take_left]
def tlR (v : S_api_Evr) : Str := if v.HasRel = true then 45 :: v.Rel else []
theorem tlR_head (v : S_api_Evr) : ∀ c, (tlR v)[0]? = some c → c = 45 := by
  intro c h
  unfold tlR at h
  split at h
  · simpa using h.symm
  · simp at h
theorem tail_fit (v : S_api_Evr) (u : Str) (ep : Str) (hv : segsP v.Ver) (hr : if v.HasRel = true then segsP v.Rel else v.Rel = []) :
    tailM (u ++ (v.Ver ++ tlR v)) ep u.length (u.length + v.Ver.length) = (⟨ep, v.Ver, v.Rel, v.HasRel⟩, ⟨0, 0⟩) := by
  unfold tailM
  have h1 : (u ++ (v.Ver ++ tlR v))[u.length + v.Ver.length]? = (tlR v)[0]? := by
    rw [List.getElem?_append_right (by omega), List.getElem?_append_right (by omega)]
    congr 1
    omega
  rw [h1, Nat.add_sub_cancel_left, take_drop_mid]
  cases hh : v.HasRel with
  | true =>
    rw [hh, if_pos rfl] at hr
    have e : tlR v = 45 :: v.Rel := by simp [tlR, hh]
    have h2 : runE partP (u ++ (v.Ver ++ tlR v)) (u.length + v.Ver.length + 1) = u.length + v.Ver.length + 1 + v.Rel.length := by
      have := runE_append (p := partP) (u := u ++ (v.Ver ++ [45])) (s := v.Rel) (t := []) hr.2 (by simp)
      simp only [List.append_assoc, List.length_append, List.length_singleton, List.append_nil] at this
      rw [e]
      simp only [List.cons_append, List.nil_append] at this
      rw [Nat.add_assoc u.length, this]
    have h3 : v.Rel.length ≠ 0 := fun q => hr.1 (List.length_eq_zero_iff.1 q)
    rw [h2, e]
    rw [if_pos (by rfl), if_neg (by rintro (q | q) <;> (try simp only [List.length_append, List.length_cons] at q) <;> omega), Nat.add_sub_cancel_left]
    have h4 : (u ++ (v.Ver ++ 45 :: v.Rel)).drop (u.length + v.Ver.length + 1) = v.Rel := by
      rw [show u ++ (v.Ver ++ 45 :: v.Rel) = (u ++ (v.Ver ++ [45])) ++ v.Rel by simp, show u.length + v.Ver.length + 1 = (u ++ (v.Ver ++ [45])).length by simp; omega, List.drop_left]
    rw [h4, List.take_length]
  | false =>
    rw [hh, if_neg (by simp)] at hr
    have e : tlR v = [] := by simp [tlR, hh]
    rw [e, if_neg (by simp), if_neg (by simp), hr]
theorem mem_split {v : S_api_Evr} (hv : segsP v.Ver) (hr : if v.HasRel = true then segsP v.Rel else v.Rel = []) : ∀ c ∈ v.Ver ++ tlR v, c ≠ 58 := by
  intro c hc e
  subst e
  rcases List.mem_append.1 hc with h | h
  · have := hv.2 _ h; rw [partP_58] at this; cases this
  · unfold tlR at h
    split at h
    · rename_i hh
      rw [if_pos hh] at hr
      rcases List.mem_cons.1 h with h | h
      · cases h
      · have := hr.2 _ h; rw [partP_58] at this; cases this
    · cases h
theorem fit_parse {v : S_api_Evr} (h : fitM v) : parseM (rawM v) = (v, ⟨0, 0⟩) := by
  obtain ⟨h1, h2, h3, h4, h5, h6⟩ := h
  have hv : v.Ver.length ≠ 0 := fun q => h4.1 (List.length_eq_zero_iff.1 q)
  have ht := tlR_head v
  unfold parseM
  rw [if_neg (by omega)]
  by_cases he : v.Epoch = [48]
  · have e : rawM v = [] ++ (v.Ver ++ tlR v) := by simp [rawM, tlR, he]
    have hd : headM (rawM v) = ([48], 0) := by
      unfold headM
      rw [if_neg]
      rintro ⟨_, q⟩
      rw [e, List.nil_append] at q
      exact mem_split h4 h5 58 (List.mem_of_getElem? q) rfl
    rw [hd, e]
    have h7 : runE partP ([] ++ (v.Ver ++ tlR v)) 0 = 0 + v.Ver.length := runE_append (p := partP) (u := []) h4.2 (fun c hc => by rw [ht c hc]; rfl)
    rw [h7, if_neg (by omega)]
    have := tail_fit v [] [48] h4 h5
    rw [List.length_nil] at this
    rw [this, ← he]
  · have e : rawM v = (v.Epoch ++ [58]) ++ (v.Ver ++ tlR v) := by simp [rawM, tlR, he]
    have hlen : v.Epoch.length ≠ 0 := fun q => h1 (List.length_eq_zero_iff.1 q)
    have h8 : runE (isP 1) (rawM v) 0 = v.Epoch.length := by
      have := runE_append (p := isP 1) (u := []) (s := v.Epoch) (t := 58 :: (v.Ver ++ tlR v)) h2 (fun c hc => by simp only [List.getElem?_cons_zero, Option.some.injEq] at hc; subst hc; rfl)
      rw [e]
      simpa using this
    have hd : headM (rawM v) = (v.Epoch, v.Epoch.length + 1) := by
      unfold headM
      rw [h8, if_pos]
      · rw [e, List.append_assoc, List.take_left, h3]
      · refine ⟨by omega, ?_⟩
        rw [e, List.append_assoc, List.getElem?_append_right (Nat.le_refl _), Nat.sub_self]
        rfl
    rw [hd, e]
    have h7 := runE_append (p := partP) (u := v.Epoch ++ [58]) (s := v.Ver) (t := tlR v) h4.2 (fun c hc => by rw [ht c hc]; rfl)
    have hl : (v.Epoch ++ [58]).length = v.Epoch.length + 1 := by simp
    rw [hl] at h7
    rw [h7, if_neg (by omega)]
    have := tail_fit v (v.Epoch ++ [58]) v.Epoch h4 h5
    rw [hl] at this
    exact this
theorem mem_tw {p : UInt8 → Bool} {c : UInt8} : ∀ {l : Str}, c ∈ l.takeWhile p → p c = true
  | [], h => by cases h
  | x :: l, h => by
    cases hx : p x with
    | true =>
      rw [List.takeWhile_cons_of_pos hx] at h
      rcases List.mem_cons.1 h with rfl | h
      · exact hx
      · exact mem_tw h
    | false => rw [List.takeWhile_cons_of_neg (by simp [hx])] at h; cases h
theorem take_run_all {p : UInt8 → Bool} (s : Str) (i : Nat) : ∀ c ∈ (s.drop i).take (runE p s i - i), p c = true := by
  unfold runE
  rw [Nat.add_sub_cancel_left, take_tw]
  intro c hc
  exact mem_tw hc
theorem trim_trim (s : Str) : trimM (trimM s) = trimM s := by
  rcases trim_canon s with h | ⟨c, t, h, hc⟩
  · rw [h]; rfl
  · rw [h]
    have : nought c = false := by simpa [nought] using hc
    unfold trimM
    rw [List.dropWhile_cons_of_neg (by simp [this])]
    simp
theorem trim_ne (s : Str) : trimM s ≠ [] := by
  rcases trim_canon s with h | ⟨c, t, h, hc⟩ <;> rw [h] <;> simp
theorem isDig_isP {s : Str} : isDig s ↔ ∀ c ∈ s, isP 1 c = true := by
  unfold isDig
  refine ⟨fun h c hc => ?_, fun h c hc => ?_⟩
  · have := h c hc; simp [isP, isB]; omega
  · have := h c hc; simp [isP, isB] at this; omega
theorem trim_le {s : Str} (h : s ≠ []) : (trimM s).length ≤ s.length := by
  unfold trimM
  split
  · cases s with
    | nil => exact absurd rfl h
    | cons c s => simp
  · exact (List.dropWhile_suffix _).length_le
theorem head_fit (s : Str) : (headM s).1 ≠ [] ∧ (∀ c ∈ (headM s).1, isP 1 c = true) ∧ trimM (headM s).1 = (headM s).1 ∧ ((headM s).1 = [48] ∨ (headM s).1.length + 1 ≤ (headM s).2) := by
  unfold headM
  split
  · rename_i h
    have hd : isDig (s.take (runE (isP 1) s 0)) := by
      rw [isDig_isP]
      have := take_run_all (p := isP 1) s 0
      simpa using this
    have hle : runE (isP 1) s 0 ≤ s.length := runE_le (Nat.zero_le _)
    have hne : s.take (runE (isP 1) s 0) ≠ [] := by
      intro q
      have := congrArg List.length q
      simp at this
      rcases this with q | q
      · omega
      · subst q; simp at h
    refine ⟨trim_ne _, isDig_isP.1 (dig_trim hd), trim_trim _, .inr ?_⟩
    have := trim_le hne
    simp only [List.length_take] at this
    simp only []
    omega
  · refine ⟨by simp, ?_, rfl, .inl rfl⟩
    intro c hc
    simp only [List.mem_singleton] at hc
    subst hc
    decide
theorem parse_fit {s : Str} {v : S_api_Evr} {f : S_api_Fault} (h : parseM s = (v, f)) (hf : f.Err = 0) : fitM v ∧ f = ⟨0, 0⟩ := by
  unfold parseM at h
  split at h
  · cases h; cases hf
  · rename_i hs
    have hw : ∀ e, (wrongM s e).Err ≠ 0 := fun e => by unfold wrongM; split <;> simp
    split at h
    · cases h; exact absurd hf (hw _)
    · rename_i h1
      obtain ⟨a1, a2, a3, a4⟩ := head_fit s
      have hh := headM_le s
      have he : runE partP s (headM s).2 ≤ s.length := runE_le hh
      have hg : (headM s).2 ≤ runE partP s (headM s).2 := runE_ge _ _ _
      have hv : segsP ((s.drop (headM s).2).take (runE partP s (headM s).2 - (headM s).2)) := by
        refine ⟨fun q => ?_, take_run_all _ _⟩
        have := congrArg List.length q
        simp at this
        omega
      unfold tailM at h
      split at h
      · rename_i h2
        have hl := dash_lt h2
        split at h
        · cases h; exact absurd hf (hw _)
        · rename_i h3
          rw [not_or] at h3
          cases h
          have hf' : runE partP s (runE partP s (headM s).2 + 1) ≤ s.length := runE_le hl
          have hfg : runE partP s (headM s).2 + 1 ≤ runE partP s (runE partP s (headM s).2 + 1) := runE_ge _ _ _
          refine ⟨⟨a1, a2, a3, hv, ?_, ?_⟩, rfl⟩
          · rw [if_pos rfl]
            refine ⟨fun q => ?_, take_run_all _ _⟩
            have := congrArg List.length q
            simp at this
            omega
          · unfold rawM
            simp only [if_true]
            split
            · simp only [List.length_append, List.length_cons, List.length_take, List.length_drop]; omega
            · rename_i h4
              have := a4.resolve_left h4
              simp only [List.length_append, List.length_cons, List.length_take, List.length_drop]; omega
      · split at h
        · cases h; exact absurd hf (hw _)
        · cases h
          refine ⟨⟨a1, a2, a3, hv, by simp, ?_⟩, rfl⟩
          unfold rawM
          simp only [Bool.false_eq_true, if_false, List.append_nil]
          split
          · simp only [List.length_take, List.length_drop]; omega
          · rename_i h4
            have := a4.resolve_left h4
            simp only [List.length_append, List.length_cons, List.length_take, List.length_drop]; omega
theorem fit_iff (v : S_api_Evr) : fitM v ↔ parseM (rawM v) = (v, ⟨0, 0⟩) := ⟨fit_parse, fun h => (parse_fit h rfl).1⟩
end Go.Vm

/- Plain laws of chapter 5: the document's segments. -/
set_option linter.unusedVariables false
set_option linter.unusedSimpArgs false
namespace Go.Vm
open Go
def sepP (c : UInt8) : Bool := !isP 5 c && !(c == 126) && !(c == 94)
theorem drop_runE' (p : UInt8 → Bool) (s : Str) (i : Nat) : s.drop (runE p s i) = (s.drop i).dropWhile p := by
  unfold runE
  rw [← List.drop_drop, drop_tw]
theorem ref05_skip_eq (s : Str) (i : Nat) (hi : i ≤ s.length) (hs : s.length ≤ 4611686018427387904) : ref05_skip s i = some (runE sepP s i : Int) := by
  unfold ref05_skip
  rw [scan_loop (p := sepP) (s := s) ?_ ?_ hi]
  · rfl
  · unfold ref05_skip_l1
    simp
  · intro j h
    unfold ref05_skip_l1
    have e1 : ((s[j].toNat : Int) != 126) = !(s[j] == 126) := by rw [bne, show ((s[j].toNat : Int) == 126) = (s[j] == 126) from u8c_beq _ 126]
    have e2 : ((s[j].toNat : Int) != 94) = !(s[j] == 94) := by rw [bne, show ((s[j].toNat : Int) == 94) = (s[j] == 94) from u8c_beq _ 94]
    rw [if_pos (by simp; omega), idx_nat h, w64_id (by omega) (by omega)]
    simp only [Option.bind_some, ref01_Is_eq, e1, e2]
    have e3 : isB (s[j].toNat : Int) 5 = isP 5 s[j] := rfl
    rw [e3]
    unfold sepP
    cases isP 5 s[j] with
    | true => simp
    | false =>
      cases (s[j] == 126) with
      | true => simp
      | false => cases (s[j] == 94) <;> simp
theorem ref05_is_eq (s : Str) (k : Nat) (c : UInt8) : ref05_is s k (c.toNat : Int) = some (decide (s[k]? = some c)) := by
  unfold ref05_is
  rw [at_eq]
  rfl
theorem sep_none {c : UInt8} (r : Str) (h : sepP c = true) : segAt c r = none := by
  unfold sepP at h
  simp only [Bool.and_eq_true, Bool.not_eq_true', beq_eq_false_iff_ne] at h
  obtain ⟨⟨h1, h2⟩, h3⟩ := h
  have h4 : ¬ (isP 1 c = true) := by
    intro q; simp [isP, isB] at h1 q; omega
  have h5 : ¬ (isP 4 c = true) := by
    intro q; simp [isP, isB] at h1 q; omega
  unfold segAt
  rw [if_neg h2, if_neg h3, if_neg h4, if_neg h5]
theorem sep_some {c : UInt8} (h : sepP c = false) : c = 126 ∨ c = 94 ∨ (c ≠ 126 ∧ c ≠ 94 ∧ isP 1 c = true ∧ isP 4 c = false) ∨ (c ≠ 126 ∧ c ≠ 94 ∧ isP 1 c = false ∧ isP 4 c = true) := by
  by_cases h1 : c = 126
  · exact .inl h1
  · by_cases h2 : c = 94
    · exact .inr (.inl h2)
    · right; right
      unfold sepP at h
      have h5 : isP 5 c = true := by simpa [h1, h2] using h
      have h6 : c.toNat ≠ 126 := fun q => h1 (by apply UInt8.toNat_inj.1; exact q)
      by_cases h7 : isP 1 c = true
      · left
        refine ⟨h1, h2, h7, ?_⟩
        simp [isP, isB] at h7 ⊢
        omega
      · right
        refine ⟨h1, h2, by simpa using h7, ?_⟩
        simp [isP, isB] at h5 h7 ⊢
        omega
theorem segs_dropW : ∀ s : Str, segs (s.dropWhile sepP) = segs s
  | [] => rfl
  | c :: s => by
    cases hc : sepP c with
    | true => rw [List.dropWhile_cons_of_pos hc, segs_dropW s, segs_cons, sep_none s hc]
    | false => rw [List.dropWhile_cons_of_neg (by simp [hc])]
theorem dw_head {p : UInt8 → Bool} : ∀ {l : Str} {c : UInt8} {r : Str}, l.dropWhile p = c :: r → p c = false
  | [], _, _, h => by cases h
  | x :: l, c, r, h => by
    cases hx : p x with
    | true => rw [List.dropWhile_cons_of_pos hx] at h; exact dw_head h
    | false => rw [List.dropWhile_cons_of_neg (by simp [hx])] at h; cases h; exact hx
theorem headC (s : Str) (i : Nat) (hi : i ≤ s.length) (hs : s.length ≤ 4611686018427387904) : ∃ j : Nat, ref05_skip s i = some (j : Int) ∧ i ≤ j ∧ j ≤ s.length ∧
    ((j = s.length ∧ segs (s.drop i) = [] ∧ ref05_is s j 126 = some false ∧ ref05_is s j 94 = some false) ∨
     (j < s.length ∧ segs (s.drop i) = ⟨0, [126]⟩ :: segs (s.drop (j + 1)) ∧ ref05_is s j 126 = some true) ∨
     (j < s.length ∧ segs (s.drop i) = ⟨2, [94]⟩ :: segs (s.drop (j + 1)) ∧ ref05_is s j 126 = some false ∧ ref05_is s j 94 = some true) ∨
     (j < s.length ∧ ref05_is s j 126 = some false ∧ ref05_is s j 94 = some false ∧ ∃ (c : UInt8) (m : Nat) (t : Str), idx s j = some (c.toNat : Int) ∧ isB (c.toNat : Int) 1 = true ∧ ref01_Run s j 1 = some (m : Int) ∧ ref01_Run s j 4 = some (j : Int) ∧ j < m ∧ m ≤ s.length ∧ t.length ≤ s.length ∧ subl s j m = some t ∧ segs (s.drop i) = ⟨4, t⟩ :: segs (s.drop m)) ∨
     (j < s.length ∧ ref05_is s j 126 = some false ∧ ref05_is s j 94 = some false ∧ ∃ (c : UInt8) (m : Nat) (t : Str), idx s j = some (c.toNat : Int) ∧ isB (c.toNat : Int) 1 = false ∧ ref01_Run s j 4 = some (m : Int) ∧ ref01_Run s j 1 = some (j : Int) ∧ j < m ∧ m ≤ s.length ∧ t.length ≤ s.length ∧ subl s j m = some t ∧ segs (s.drop i) = ⟨3, t⟩ :: segs (s.drop m))) := by
  have hle : runE sepP s i ≤ s.length := runE_le hi
  have hg := runE_ge sepP s i
  have hd := drop_runE' sepP s i
  have hsg : segs (s.drop (runE sepP s i)) = segs (s.drop i) := by rw [hd, segs_dropW]
  refine ⟨runE sepP s i, ref05_skip_eq s i hi hs, hg, hle, ?_⟩
  rw [← hsg]
  have e126 := ref05_is_eq s (runE sepP s i) 126
  have e94 := ref05_is_eq s (runE sepP s i) 94
  rw [show ((126 : UInt8).toNat : Int) = 126 from rfl] at e126
  rw [show ((94 : UInt8).toNat : Int) = 94 from rfl] at e94
  rw [e126, e94]
  rcases Nat.lt_or_ge (runE sepP s i) s.length with h | h
  · have hc : sepP s[runE sepP s i] = false := by
      have h1 := List.drop_eq_getElem_cons h
      rw [hd] at h1
      exact dw_head h1
    have h1 := List.drop_eq_getElem_cons h
    have hix := idx_nat h
    have hrun : ∀ k, ref01_Run s (runE sepP s i : Int) k = some (runE (isP k) s (runE sepP s i) : Int) := fun k => by
      rw [ref01_Run_eq _ _ _ hs]
      unfold runM
      rw [if_neg (by omega), Int.toNat_natCast]
    rw [List.getElem?_eq_getElem h]
    have hno : ∀ k, isP k s[runE sepP s i] = false → runE (isP k) s (runE sepP s i) = runE sepP s i := fun k q => runE_no h q
    generalize runE sepP s i = j at *
    generalize hcc : s[j] = c at *
    generalize hr : s.drop (j + 1) = r at *
    rw [h1, segs_cons]
    rcases sep_some hc with rfl | rfl | ⟨h2, h3, h4, h5⟩ | ⟨h2, h3, h4, h5⟩
    · right; left
      exact ⟨h, rfl, by simp⟩
    · right; right; left
      exact ⟨h, rfl, by simp, by simp⟩
    · right; right; right; left
      obtain ⟨a1, a2, a3⟩ := runE_cons h1 h4
      have hle2 : runE (isP 1) s j ≤ s.length := runE_le (Nat.le_of_lt h)
      refine ⟨h, by simp [h2], by simp [h3], c, runE (isP 1) s j, c :: r.takeWhile (isP 1), hix, h4, hrun 1, by rw [hrun 4, hno 4 h5], by omega, hle2, ?_, by rw [subl_nat (by omega) hle2, a3], ?_⟩
      · rw [← a3]; simp only [List.length_take, List.length_drop]; omega
      · unfold segAt
        rw [if_neg h2, if_neg h3, if_pos h4, a2]
    · right; right; right; right
      obtain ⟨a1, a2, a3⟩ := runE_cons h1 h5
      have hle2 : runE (isP 4) s j ≤ s.length := runE_le (Nat.le_of_lt h)
      refine ⟨h, by simp [h2], by simp [h3], c, runE (isP 4) s j, c :: r.takeWhile (isP 4), hix, h4, hrun 4, by rw [hrun 1, hno 1 h4], by omega, hle2, ?_, by rw [subl_nat (by omega) hle2, a3], ?_⟩
      · rw [← a3]; simp only [List.length_take, List.length_drop]; omega
      · unfold segAt
        rw [if_neg h2, if_neg h3, if_neg (by simp [h4]), if_pos h5, a2]
  · have : runE sepP s i = s.length := by omega
    left
    rw [this]
    simp [segs]
def LL (X Y : List S_rpm_segment) : Int := lexL segC (X ++ [ovr]) (Y ++ [ovr])
theorem segC_ne {k l : Int} {t u : Str} (h : k ≠ l) : segC ⟨k, t⟩ ⟨l, u⟩ = if k < l then -1 else 1 := by
  have e : cmpI k l = if k < l then -1 else 1 := by
    unfold cmpI
    split
    · rfl
    · rw [if_pos (by omega)]
  unfold segC lex2
  simp only []
  rw [e, if_pos (by split <;> decide)]
theorem LL_cons {x y : S_rpm_segment} {X Y : List S_rpm_segment} : lexL segC (x :: X) (y :: Y) = if segC x y ≠ 0 then segC x y else lexL segC X Y := rfl
theorem LL_ne {k l : Int} {t u : Str} {X Y : List S_rpm_segment} (h : k ≠ l) : lexL segC (⟨k, t⟩ :: X) (⟨l, u⟩ :: Y) = if k < l then -1 else 1 := by
  rw [LL_cons, segC_ne h]
  split <;> rfl
theorem segC_same (k : Int) (t u : Str) : segC ⟨k, t⟩ ⟨k, u⟩ = if k = 4 then cmpM t u else if k = 3 then Lib.compareBytes t u else 0 := by
  have := cmpG_eq ⟨k, t⟩ ⟨k, u⟩
  rw [← this]
  unfold cmpG
  simp [cmpI]

theorem ref05_Segments_eq (a b : Str) (ha : a.length ≤ 4194304) (hb : b.length ≤ 4194304) : ref05_Segments a b = some (segM a b) := by
  rw [segM_lex]
  unfold ref05_Segments
  obtain ⟨t, h1, h2⟩ := loopC_inv (f := ref05_Segments_l1 a b) (fun x => ∃ i k : Nat, x = (↑i, ↑k) ∧ i ≤ a.length ∧ k ≤ b.length ∧ LL (segs (a.drop i)) (segs (b.drop k)) = LL (segs a) (segs b)) (fun x => (a.length - x.1.toNat) + (b.length - x.2.toNat))
    (fun t => (match t with | Sum.inl v => v | Sum.inr (x, y) => (if x < (a.length : Int) then 1 else if y < (b.length : Int) then -1 else 0)) = LL (segs a) (segs b)) (fun x hx => by
    obtain ⟨i, k, rfl, hi, hk, hL⟩ := hx
    unfold ref05_Segments_l1
    simp only []
    by_cases hc : i < a.length ∨ k < b.length
    · rw [if_pos (by simp; omega)]
      obtain ⟨i', s1, l1, m1, H1⟩ := headC a i hi (by omega)
      obtain ⟨k', s2, l2, m2, H2⟩ := headC b k hk (by omega)
      rw [s1, s2]
      simp only [Option.bind_some]
      have w1 : w64 ((i' : Int) + 1) = ((i' + 1 : Nat) : Int) := by rw [w64_id (by omega) (by omega)]; rfl
      have w2 : w64 ((k' : Int) + 1) = ((k' + 1 : Nat) : Int) := by rw [w64_id (by omega) (by omega)]; rfl
      rw [← hL]
      unfold LL
      rcases H1 with ⟨p1, q1, r1, r2⟩ | ⟨p1, q1, r1⟩ | ⟨p1, q1, r1, r2⟩ | ⟨p1, r1, r2, c1, n1, t1, r3, r4, r5, r6, r7, r8, r9, r10, q1⟩ | ⟨p1, r1, r2, c1, n1, t1, r3, r4, r5, r6, r7, r8, r9, r10, q1⟩ <;>
      rcases H2 with ⟨p2, q2, u1, u2⟩ | ⟨p2, q2, u1⟩ | ⟨p2, q2, u1, u2⟩ | ⟨p2, u1, u2, c2, n2, t2, u3, u4, u5, u6, u7, u8, u9, u10, q2⟩ | ⟨p2, u1, u2, c2, n2, t2, u3, u4, u5, u6, u7, u8, u9, u10, q2⟩ <;>
      rw [q1, q2]
      · have e1 : ((i' : Int) == (a.length : Int)) = true := by simp; omega
        have e2 : ((k' : Int) == (b.length : Int)) = true := by simp; omega
        left
        refine ⟨Sum.inr ((i' : Int), (k' : Int)), by simp [r1, r2, u1, u2, e1, e2], ?_⟩
        simp [p1, p2, lexL, ord_segC.refl]
      · have e1 : ((i' : Int) == (a.length : Int)) = true := by simp; omega
        have e2 : ((k' : Int) == (b.length : Int)) = false := by simp; omega
        left
        refine ⟨Sum.inl (1), by simp [r1, r2, u1, e1, e2], ?_⟩
        simp only [List.nil_append, List.cons_append, ovr]; rw [LL_ne (by decide)]; decide
      · have e1 : ((i' : Int) == (a.length : Int)) = true := by simp; omega
        have e2 : ((k' : Int) == (b.length : Int)) = false := by simp; omega
        left
        refine ⟨Sum.inl (-1), by simp [r1, r2, u1, u2, e1, e2], ?_⟩
        simp only [List.nil_append, List.cons_append, ovr]; rw [LL_ne (by decide)]; decide
      · have e1 : ((i' : Int) == (a.length : Int)) = true := by simp; omega
        have e2 : ((k' : Int) == (b.length : Int)) = false := by simp; omega
        left
        refine ⟨Sum.inr ((i' : Int), (k' : Int)), by simp [r1, r2, u1, u2, u5, u6, u10, e1, e2], ?_⟩
        have e7 : (if (i' : Int) < (a.length : Int) then (1 : Int) else if (k' : Int) < (b.length : Int) then -1 else 0) = -1 := by rw [if_neg (by omega), if_pos (by omega)]
        simp only []
        rw [e7]
        simp only [List.nil_append, List.cons_append, ovr]; rw [LL_ne (by decide)]; decide
      · have e1 : ((i' : Int) == (a.length : Int)) = true := by simp; omega
        have e2 : ((k' : Int) == (b.length : Int)) = false := by simp; omega
        left
        refine ⟨Sum.inr ((i' : Int), (k' : Int)), by simp [r1, r2, u1, u2, u5, u6, u10, e1, e2], ?_⟩
        have e7 : (if (i' : Int) < (a.length : Int) then (1 : Int) else if (k' : Int) < (b.length : Int) then -1 else 0) = -1 := by rw [if_neg (by omega), if_pos (by omega)]
        simp only []
        rw [e7]
        simp only [List.nil_append, List.cons_append, ovr]; rw [LL_ne (by decide)]; decide
      · have e1 : ((i' : Int) == (a.length : Int)) = false := by simp; omega
        have e2 : ((k' : Int) == (b.length : Int)) = true := by simp; omega
        left
        refine ⟨Sum.inl (-1), by simp [r1, u1, u2, e1, e2], ?_⟩
        simp only [List.nil_append, List.cons_append, ovr]; rw [LL_ne (by decide)]; decide
      · have e1 : ((i' : Int) == (a.length : Int)) = false := by simp; omega
        have e2 : ((k' : Int) == (b.length : Int)) = false := by simp; omega
        right
        refine ⟨(((i' + 1 : Nat) : Int), ((k' + 1 : Nat) : Int)), by simp [r1, u1, e1, e2, w1, w2], ⟨i' + 1, k' + 1, rfl, p1, p2, ?_⟩, by simp only [Int.toNat_natCast]; omega⟩
        simp only [List.cons_append]; rw [LL_cons, ord_segC.refl, if_neg (by simp)]
      · have e1 : ((i' : Int) == (a.length : Int)) = false := by simp; omega
        have e2 : ((k' : Int) == (b.length : Int)) = false := by simp; omega
        left
        refine ⟨Sum.inl (-1), by simp [r1, u1, u2, e1, e2], ?_⟩
        simp only [List.nil_append, List.cons_append, ovr]; rw [LL_ne (by decide)]; decide
      · have e1 : ((i' : Int) == (a.length : Int)) = false := by simp; omega
        have e2 : ((k' : Int) == (b.length : Int)) = false := by simp; omega
        left
        refine ⟨Sum.inl (-1), by simp [r1, u1, u2, u5, u6, u10, e1, e2], ?_⟩
        simp only [List.nil_append, List.cons_append, ovr]; rw [LL_ne (by decide)]; decide
      · have e1 : ((i' : Int) == (a.length : Int)) = false := by simp; omega
        have e2 : ((k' : Int) == (b.length : Int)) = false := by simp; omega
        left
        refine ⟨Sum.inl (-1), by simp [r1, u1, u2, u5, u6, u10, e1, e2], ?_⟩
        simp only [List.nil_append, List.cons_append, ovr]; rw [LL_ne (by decide)]; decide
      · have e1 : ((i' : Int) == (a.length : Int)) = false := by simp; omega
        have e2 : ((k' : Int) == (b.length : Int)) = true := by simp; omega
        left
        refine ⟨Sum.inl (1), by simp [r1, r2, u1, u2, e1, e2], ?_⟩
        simp only [List.nil_append, List.cons_append, ovr]; rw [LL_ne (by decide)]; decide
      · have e1 : ((i' : Int) == (a.length : Int)) = false := by simp; omega
        have e2 : ((k' : Int) == (b.length : Int)) = false := by simp; omega
        left
        refine ⟨Sum.inl (1), by simp [r1, r2, u1, e1, e2], ?_⟩
        simp only [List.nil_append, List.cons_append, ovr]; rw [LL_ne (by decide)]; decide
      · have e1 : ((i' : Int) == (a.length : Int)) = false := by simp; omega
        have e2 : ((k' : Int) == (b.length : Int)) = false := by simp; omega
        right
        refine ⟨(((i' + 1 : Nat) : Int), ((k' + 1 : Nat) : Int)), by simp [r1, r2, u1, u2, e1, e2, w1, w2], ⟨i' + 1, k' + 1, rfl, p1, p2, ?_⟩, by simp only [Int.toNat_natCast]; omega⟩
        simp only [List.cons_append]; rw [LL_cons, ord_segC.refl, if_neg (by simp)]
      · have e1 : ((i' : Int) == (a.length : Int)) = false := by simp; omega
        have e2 : ((k' : Int) == (b.length : Int)) = false := by simp; omega
        left
        refine ⟨Sum.inl (-1), by simp [r1, r2, u1, u2, u5, u6, u10, e1, e2], ?_⟩
        simp only [List.nil_append, List.cons_append, ovr]; rw [LL_ne (by decide)]; decide
      · have e1 : ((i' : Int) == (a.length : Int)) = false := by simp; omega
        have e2 : ((k' : Int) == (b.length : Int)) = false := by simp; omega
        left
        refine ⟨Sum.inl (-1), by simp [r1, r2, u1, u2, u5, u6, u10, e1, e2], ?_⟩
        simp only [List.nil_append, List.cons_append, ovr]; rw [LL_ne (by decide)]; decide
      · have e1 : ((i' : Int) == (a.length : Int)) = false := by simp; omega
        have e2 : ((k' : Int) == (b.length : Int)) = true := by simp; omega
        left
        refine ⟨Sum.inr ((i' : Int), (k' : Int)), by simp [r1, r2, r3, r4, r5, r6, r10, ref01_Is_eq, u1, u2, e1, e2], ?_⟩
        have e7 : (if (i' : Int) < (a.length : Int) then (1 : Int) else if (k' : Int) < (b.length : Int) then -1 else 0) = 1 := by rw [if_pos (by omega)]
        simp only []
        rw [e7]
        simp only [List.nil_append, List.cons_append, ovr]; rw [LL_ne (by decide)]; decide
      · have e1 : ((i' : Int) == (a.length : Int)) = false := by simp; omega
        have e2 : ((k' : Int) == (b.length : Int)) = false := by simp; omega
        left
        refine ⟨Sum.inl (1), by simp [r1, r2, r3, r4, r5, r6, r10, ref01_Is_eq, u1, e1, e2], ?_⟩
        simp only [List.nil_append, List.cons_append, ovr]; rw [LL_ne (by decide)]; decide
      · have e1 : ((i' : Int) == (a.length : Int)) = false := by simp; omega
        have e2 : ((k' : Int) == (b.length : Int)) = false := by simp; omega
        left
        refine ⟨Sum.inl (1), by simp [r1, r2, r3, r4, r5, r6, r10, ref01_Is_eq, u1, u2, e1, e2], ?_⟩
        simp only [List.nil_append, List.cons_append, ovr]; rw [LL_ne (by decide)]; decide
      · have e1 : ((i' : Int) == (a.length : Int)) = false := by simp; omega
        have e2 : ((k' : Int) == (b.length : Int)) = false := by simp; omega
        have e3 : ¬ ((n2 : Int) = (k' : Int)) := by omega
        have e4 : segC ⟨4, t1⟩ ⟨4, t2⟩ = cmpM t1 t2 := by rw [segC_same]; simp
        have e5 := ref01_Texts_eq t1 t2
        have e6 := ref01_Cmp_eq t1 t2 (by omega) (by omega)
        by_cases z : cmpM t1 t2 = 0
        · right
          refine ⟨((n1 : Int), (n2 : Int)), by simp [r1, r2, r3, r4, r5, r10, u1, u2, u5, u10, e1, e2, e3, e5, e6, z, ref01_Is_eq], ⟨n1, n2, rfl, r8, u8, ?_⟩, by simp only [Int.toNat_natCast]; omega⟩
          simp only [List.cons_append]; rw [LL_cons, e4, z, if_neg (by simp)]
        · left
          refine ⟨Sum.inl (cmpM t1 t2), by simp [r1, r2, r3, r4, r5, r10, u1, u2, u5, u10, e1, e2, e3, e5, e6, z, ref01_Is_eq], ?_⟩
          simp only [List.cons_append]; rw [LL_cons, e4, if_pos z]
      · have e1 : ((i' : Int) == (a.length : Int)) = false := by simp; omega
        have e2 : ((k' : Int) == (b.length : Int)) = false := by simp; omega
        left
        refine ⟨Sum.inl (1), by simp [r1, r2, r3, r4, r5, r6, r10, ref01_Is_eq, u1, u2, u5, u6, u10, e1, e2], ?_⟩
        simp only [List.nil_append, List.cons_append, ovr]; rw [LL_ne (by decide)]; decide
      · have e1 : ((i' : Int) == (a.length : Int)) = false := by simp; omega
        have e2 : ((k' : Int) == (b.length : Int)) = true := by simp; omega
        left
        refine ⟨Sum.inr ((i' : Int), (k' : Int)), by simp [r1, r2, r3, r4, r5, r6, r10, ref01_Is_eq, u1, u2, e1, e2], ?_⟩
        have e7 : (if (i' : Int) < (a.length : Int) then (1 : Int) else if (k' : Int) < (b.length : Int) then -1 else 0) = 1 := by rw [if_pos (by omega)]
        simp only []
        rw [e7]
        simp only [List.nil_append, List.cons_append, ovr]; rw [LL_ne (by decide)]; decide
      · have e1 : ((i' : Int) == (a.length : Int)) = false := by simp; omega
        have e2 : ((k' : Int) == (b.length : Int)) = false := by simp; omega
        left
        refine ⟨Sum.inl (1), by simp [r1, r2, r3, r4, r5, r6, r10, ref01_Is_eq, u1, e1, e2], ?_⟩
        simp only [List.nil_append, List.cons_append, ovr]; rw [LL_ne (by decide)]; decide
      · have e1 : ((i' : Int) == (a.length : Int)) = false := by simp; omega
        have e2 : ((k' : Int) == (b.length : Int)) = false := by simp; omega
        left
        refine ⟨Sum.inl (1), by simp [r1, r2, r3, r4, r5, r6, r10, ref01_Is_eq, u1, u2, e1, e2], ?_⟩
        simp only [List.nil_append, List.cons_append, ovr]; rw [LL_ne (by decide)]; decide
      · have e1 : ((i' : Int) == (a.length : Int)) = false := by simp; omega
        have e2 : ((k' : Int) == (b.length : Int)) = false := by simp; omega
        left
        refine ⟨Sum.inl (-1), by simp [r1, r2, r3, r4, r5, r6, r10, ref01_Is_eq, u1, u2, u5, u6, u10, e1, e2], ?_⟩
        simp only [List.nil_append, List.cons_append, ovr]; rw [LL_ne (by decide)]; decide
      · have e1 : ((i' : Int) == (a.length : Int)) = false := by simp; omega
        have e2 : ((k' : Int) == (b.length : Int)) = false := by simp; omega
        have e3 : ¬ ((n2 : Int) = (k' : Int)) := by omega
        have e4 : segC ⟨3, t1⟩ ⟨3, t2⟩ = Lib.compareBytes t1 t2 := by rw [segC_same]; simp
        have e5 := ref01_Texts_eq t1 t2
        have e6 := ref01_Cmp_eq t1 t2 (by omega) (by omega)
        by_cases z : Lib.compareBytes t1 t2 = 0
        · right
          refine ⟨((n1 : Int), (n2 : Int)), by simp [r1, r2, r3, r4, r5, r10, u1, u2, u5, u10, e1, e2, e3, e5, e6, z, ref01_Is_eq], ⟨n1, n2, rfl, r8, u8, ?_⟩, by simp only [Int.toNat_natCast]; omega⟩
          simp only [List.cons_append]; rw [LL_cons, e4, z, if_neg (by simp)]
        · left
          refine ⟨Sum.inl (Lib.compareBytes t1 t2), by simp [r1, r2, r3, r4, r5, r10, u1, u2, u5, u10, e1, e2, e3, e5, e6, z, ref01_Is_eq], ?_⟩
          simp only [List.cons_append]; rw [LL_cons, e4, if_pos z]
    · left
      rw [if_neg (by simp; omega)]
      have e1 : i = a.length := by omega
      have e2 : k = b.length := by omega
      refine ⟨_, rfl, ?_⟩
      rw [← hL, e1, e2]
      simp [LL, segs, lexL, ord_segC.refl]) (x := (0, 0)) ⟨0, 0, rfl, Nat.zero_le _, Nat.zero_le _, rfl⟩
  rw [h1]
  simp only [Option.bind_some]
  cases t with
  | inl v => simp only at h2 ⊢; rw [h2]; rfl
  | inr p =>
    obtain ⟨x, y⟩ := p
    simp only [decide_eq_true_eq] at h2 ⊢
    rw [show lexL segC (segs a ++ [ovr]) (segs b ++ [ovr]) = LL (segs a) (segs b) from rfl, ← h2]
    split
    · rfl
    · split <;> rfl
end Go.Vm

/- Plain laws of chapter 5: versions of RPM. -/
set_option linter.unusedVariables false
set_option linter.unusedSimpArgs false
namespace Go.Vm
open Go
def bigE (v : S_api_Evr) : Prop := v.Epoch.length ≤ 1048576 ∧ v.Ver.length ≤ 1048576 ∧ v.Rel.length ≤ 1048576
theorem rpm_text_eq (v : S_api_Evr) (h : bigE v) : rpm_text v = some (rawM v) := by
  obtain ⟨h1, h2, h3⟩ := h
  unfold rpm_text rawM
  by_cases he : v.Epoch = [48]
  · cases hh : v.HasRel with
    | true => simp [he, cat_ok, show (45 :: v.Rel).length ≤ 2000000 by simp; omega, show v.Rel.length + 1 ≤ 9223372036854775807 by omega, show 1 + v.Rel.length ≤ 9223372036854775807 by omega, show v.Ver.length + (v.Rel.length + 1) ≤ 9223372036854775807 by omega]
    | false => simp [he]
  · cases hh : v.HasRel with
    | true => simp [he, cat_ok, show v.Epoch.length + 1 ≤ 9223372036854775807 by omega, show 1 + v.Rel.length ≤ 9223372036854775807 by omega, show v.Epoch.length + 1 + v.Ver.length ≤ 9223372036854775807 by omega, show v.Epoch.length + (v.Ver.length + 1) + (v.Rel.length + 1) ≤ 9223372036854775807 by omega]
    | false => simp [he, cat_ok, show v.Epoch.length + 1 ≤ 9223372036854775807 by omega, show v.Epoch.length + 1 + v.Ver.length ≤ 9223372036854775807 by omega]
theorem ref05_raw_eq (v : S_api_Evr) (h : bigE v) : ref05_raw v = some (rawM v) := by
  obtain ⟨h1, h2, h3⟩ := h
  unfold ref05_raw rawM
  by_cases he : v.Epoch = [48]
  · cases hh : v.HasRel with
    | true => simp [he, cat_ok, show v.Ver.length + 1 ≤ 9223372036854775807 by omega, show v.Ver.length + 1 + v.Rel.length ≤ 9223372036854775807 by omega]
    | false => simp [he]
  · cases hh : v.HasRel with
    | true => simp [he, cat_ok, show v.Epoch.length + 1 ≤ 9223372036854775807 by omega, show v.Epoch.length + 1 + v.Ver.length ≤ 9223372036854775807 by omega, show v.Epoch.length + (v.Ver.length + 1) + 1 ≤ 9223372036854775807 by omega, show v.Epoch.length + (v.Ver.length + (1 + 1)) + v.Rel.length ≤ 9223372036854775807 by omega, show v.Epoch.length + (v.Ver.length + 1 + 1) + v.Rel.length ≤ 9223372036854775807 by omega]
    | false => simp [he, cat_ok, show v.Epoch.length + 1 ≤ 9223372036854775807 by omega, show v.Epoch.length + 1 + v.Ver.length ≤ 9223372036854775807 by omega]
theorem rpm_Fit_eq (v : S_api_Evr) (h : bigE v) : rpm_Fit v = some (decide (fitM v)) := by
  unfold rpm_Fit
  rw [rpm_text_eq v h]
  simp only [Option.bind_some, rpm_Parse_eq, Option.some.injEq]
  rw [Bool.eq_iff_iff, decide_eq_true_iff, fit_iff]
  generalize hp : parseM (rawM v) = p
  obtain ⟨⟨x1, x2, x3, x4⟩, f⟩ := p
  constructor
  · intro q
    simp only [Bool.and_eq_true, beq_iff_eq] at q
    obtain ⟨q1, q2, q3, q4, q5⟩ := q
    have q6 := (parse_fit hp q1).2
    cases v
    simp only at q2 q3 q4 q5
    rw [q2, q3, q4, q5, q6]
  · intro q
    cases v
    cases q
    simp
theorem run_all_iff {p : UInt8 → Bool} : ∀ {s : Str}, runE p s 0 = s.length ↔ ∀ c ∈ s, p c = true := by
  intro s
  unfold runE
  simp only [List.drop_zero, Nat.zero_add]
  induction s with
  | nil => simp
  | cons c s ih =>
    cases hc : p c with
    | true => rw [List.takeWhile_cons_of_pos hc]; simp [hc, ih]
    | false => rw [List.takeWhile_cons_of_neg (by simp [hc])]; simp [hc]
theorem ref05_segments_eq (s : Str) (hs : s.length ≤ 1048576) : ref05_segments s = some (decide (segsP s)) := by
  unfold ref05_segments
  have h1 := ref05_run_eq s 0 (Nat.zero_le _) (by omega)
  rw [show ((0 : Nat) : Int) = 0 from rfl] at h1
  rw [h1]
  by_cases h : s = []
  · subst h; simp [segsP]
  · have e : ((runE partP s 0 : Int) == (s.length : Int)) = decide (segsP s) := by
      rw [Bool.eq_iff_iff, decide_eq_true_iff, beq_iff_eq]
      unfold segsP
      rw [← run_all_iff]
      constructor
      · intro q; exact ⟨h, by omega⟩
      · intro q; have := q.2; omega
    simp [h, e]
theorem ref05_Fit_eq (v : S_api_Evr) (h : bigE v) : ref05_Fit v = some (decide (fitM v)) := by
  have hb := h
  obtain ⟨h1, h2, h3⟩ := h
  unfold ref05_Fit
  have e1 : ref01_Run v.Epoch 0 1 = some (runE (isP 1) v.Epoch 0 : Int) := by
    rw [ref01_Run_eq _ _ _ (by omega)]
    unfold runM
    rw [if_neg (by omega)]
    rfl
  rw [e1, ref01_Trim_eq _ (by omega), ref05_segments_eq _ h2, ref05_segments_eq _ h3, ref05_raw_eq v hb]
  simp only [Option.bind_some]
  have e2 : ((runE (isP 1) v.Epoch 0 : Int) != (v.Epoch.length : Int)) = !decide (∀ c ∈ v.Epoch, isP 1 c = true) := by
    rw [bne, Bool.not_inj_iff, Bool.eq_iff_iff, decide_eq_true_iff, beq_iff_eq, ← run_all_iff]
    omega
  rw [e2]
  have e3 : decide (((rawM v).length : Int) > 64) = !decide ((rawM v).length ≤ 64) := by
    rw [Bool.eq_iff_iff]; simp; omega
  rw [e3]
  unfold fitM
  by_cases g1 : v.Epoch = []
  · simp [g1]
  · by_cases g2 : ∀ c ∈ v.Epoch, isP 1 c = true
    · rw [decide_eq_true g2]
      by_cases g3 : trimM v.Epoch = v.Epoch
      · by_cases g4 : segsP v.Ver
        · by_cases g5 : (rawM v).length ≤ 64
          · rw [decide_eq_true g5]
            by_cases hh : v.HasRel = true
            · simp [g1, g3, g4, g5, hh]
              by_cases g6 : segsP v.Rel <;> simp [g6]
              exact g2
            · simp [g1, g3, g4, g5, hh]
              by_cases g6 : v.Rel = [] <;> simp [g6]
              exact g2
          · rw [decide_eq_false g5]
            simp [g1, g3, g4]
            intros
            omega
        · simp [g1, g3, g4]
      · simp [g1, g3]
    · rw [decide_eq_false g2]
      simp [g1]
      intro q
      exact absurd q g2
def b2i (b : Bool) : Int := if b = true then 1 else 0
theorem rpm_truth_eq (b : Bool) : rpm_truth b = some (b2i b) := by cases b <;> rfl
theorem b2i_sub (a b : Bool) : w64 (b2i a - b2i b) = cmpI (b2i a) (b2i b) := by cases a <;> cases b <;> decide
def ordE : S_api_Evr → S_api_Evr → Int := lex2 (fun x y => cmpM x.Epoch y.Epoch) (lex2 (fun x y => segM x.Ver y.Ver) (lex2 (fun x y => cmpI (b2i x.HasRel) (b2i y.HasRel)) (fun x y => segM x.Rel y.Rel)))
theorem find4 (x y z w : Int) : (([x, y, z, w].find? (· != 0)).getD 0) = if x ≠ 0 then x else if y ≠ 0 then y else if z ≠ 0 then z else w := by
  by_cases h1 : x = 0
  · by_cases h2 : y = 0
    · by_cases h3 : z = 0
      · by_cases h4 : w = 0 <;> simp [h1, h2, h3, h4]
      · simp [h1, h2, h3]
    · simp [h1, h2]
  · simp [h1]
theorem rpm_Order_eq (a b : S_api_Evr) (ha : bigE a) (hb : bigE b) : rpm_Order a b = some (if fitM a ∧ fitM b then ordE a b else 0) := by
  unfold rpm_Order
  rw [rpm_Fit_eq a ha, rpm_Fit_eq b hb, scan_Cmp_eq _ _ (by have := ha.1; omega) (by have := hb.1; omega), rpm_Segments_eq _ _ (by have := ha.2.1; omega) (by have := hb.2.1; omega), rpm_Segments_eq _ _ (by have := ha.2.2; omega) (by have := hb.2.2; omega), rpm_truth_eq, rpm_truth_eq]
  simp only [Option.bind_some]
  rw [cmp_Or_int_eq _ (by simp), find4, b2i_sub]
  by_cases h1 : fitM a <;> by_cases h2 : fitM b <;> simp [h1, h2, ordE, lex2]
theorem ref05_Order_eq (a b : S_api_Evr) (ha : bigE a) (hb : bigE b) : ref05_Order a b = some (if fitM a ∧ fitM b then ordE a b else 0) := by
  unfold ref05_Order
  rw [ref05_Fit_eq a ha, ref05_Fit_eq b hb, ref01_Cmp_eq _ _ (by have := ha.1; omega) (by have := hb.1; omega), ref05_Segments_eq _ _ (by have := ha.2.1; omega) (by have := hb.2.1; omega), ref05_Segments_eq _ _ (by have := ha.2.2; omega) (by have := hb.2.2; omega)]
  simp only [Option.bind_some]
  by_cases h1 : fitM a <;> by_cases h2 : fitM b <;> simp only [h1, h2, decide_true, decide_false, Bool.not_true, Bool.not_false, Bool.false_eq_true, if_false, if_true, Option.bind_some, and_true, and_false, true_and, false_and]
  unfold ordE lex2
  simp only []
  by_cases c1 : cmpM a.Epoch b.Epoch = 0
  · by_cases c2 : segM a.Ver b.Ver = 0
    · cases h3 : a.HasRel <;> cases h4 : b.HasRel <;> simp [c1, c2, b2i, cmpI]
    · simp [c1, c2]
  · simp [c1]
def okP (s : Str) : List S_api_Evr := if (parseM s).2.Err = 0 then [(parseM s).1] else []
theorem parse_big {s : Str} (hs : s.length ≤ 1048576) : bigE (parseM s).1 := by
  have hz : bigE z0 := ⟨by simp [z0], by simp [z0], by simp [z0]⟩
  by_cases h : (parseM s).2.Err = 0
  · have := (parse_fit (s := s) (v := (parseM s).1) (f := (parseM s).2) rfl h).1
    obtain ⟨_, _, _, _, h5, h6⟩ := this
    unfold rawM at h6
    refine ⟨?_, ?_, ?_⟩
    · split at h6
      · rename_i q; rw [q]; simp
      · simp only [List.length_append, List.length_cons] at h6; omega
    · split at h6 <;> simp only [List.length_append, List.length_cons] at h6 <;> omega
    · split at h5
      · rename_i q
        rw [if_pos q] at h6
        split at h6 <;> simp only [List.length_append, List.length_cons] at h6 <;> omega
      · rw [h5]; simp
  · unfold parseM at h ⊢
    split
    · exact hz
    · split
      · exact hz
      · unfold tailM at h ⊢
        simp_all
        split
        · split
          · exact hz
          · simp_all
        · split
          · exact hz
          · simp_all
theorem okP_fit {s : Str} (h : (parseM s).2.Err = 0) : fitM (parseM s).1 := (parse_fit (s := s) (v := (parseM s).1) (f := (parseM s).2) rfl h).1
def compM (a b : Str) : Int := lexL ordE (okP a) (okP b)
theorem lexL_one {α : Type} (c : α → α → Int) (x y : α) : lexL c [x] [y] = c x y := by
  simp only [lexL]
  split
  · rfl
  · rename_i h; simp at h; exact h.symm
theorem rpm_Compare_eq (a b : Str) (ha : a.length ≤ 1048576) (hb : b.length ≤ 1048576) : rpm_Compare a b = some (compM a b) := by
  unfold rpm_Compare compM okP
  rw [rpm_Parse_eq, rpm_Parse_eq]
  simp only [Option.bind_some, rpm_truth_eq]
  rw [rpm_Order_eq _ _ (parse_big ha) (parse_big hb)]
  by_cases h1 : (parseM a).2.Err = 0 <;> by_cases h2 : (parseM b).2.Err = 0
  · simp only [h1, h2, if_true]
    rw [lexL_one, if_neg (by simp), if_pos ⟨okP_fit h1, okP_fit h2⟩]
    rfl
  · simp [h1, h2, lexL, b2i]; decide
  · simp [h1, h2, lexL, b2i]; decide
  · simp [h1, h2, lexL, b2i]; decide
theorem ref05_Compare_eq (a b : Str) (ha : a.length ≤ 1048576) (hb : b.length ≤ 1048576) : ref05_Compare a b = some (compM a b) := by
  unfold ref05_Compare compM okP
  rw [ref05_Parse_eq, ref05_Parse_eq]
  simp only [Option.bind_some]
  rw [ref05_Order_eq _ _ (parse_big ha) (parse_big hb)]
  by_cases h1 : (parseM a).2.Err = 0 <;> by_cases h2 : (parseM b).2.Err = 0
  · simp only [h1, h2, if_true]
    rw [lexL_one, if_neg (by simp), if_neg (by simp), if_neg (by simp), if_pos ⟨okP_fit h1, okP_fit h2⟩]
    rfl
  · simp [h1, h2, lexL]
  · simp [h1, h2, lexL]
  · simp [h1, h2, lexL]

theorem RpmReads_true (s t : Str) (hs' : s.length + 1 ≤ 1048576) (ht' : t.length + 1 ≤ 1048576) : law05_RpmReads s t = some true := by
  have hs : s.length ≤ 1048576 := by omega
  have ht : t.length ≤ 1048576 := by omega
  unfold law05_RpmReads
  rw [rpm_Parse_eq, ref05_Parse_eq, rpm_Segments_eq _ _ (by omega) (by omega), ref05_Segments_eq _ _ (by omega) (by omega), rpm_Compare_eq _ _ hs ht, ref05_Compare_eq _ _ hs ht]
  simp [law05_awake]
end Go.Vm

/- The law RupChecks is true for every input whose bulk is at most 1048576 values and letters; each argument reads behind the call as it read before. -/
import Derived.Test.YteaakndjbedilaaGreatDoorCards
import Derived.Test.YteaakndjbedilaaGreatDoorTie
import Derived.Test.YteaakndjbedilaaGreatDoorQ0RupChecks
import Derived.LaidSub
import Derived.ChangeMaps5
set_option linter.unusedVariables false
set_option linter.unusedSimpArgs false
/- The law 'dovetaillaw29.RupChecks' is true wherever what it reads is of bulk at most 1048576; each argument reads behind the call as it read before. -/
set_option maxRecDepth 100000
set_option linter.unusedVariables false
set_option linter.unusedSimpArgs false
namespace Go.Proofs.YteaakndjbedilaaGreatDoor.rupChecks
open Go.ChangeMaps Go.ChangeShapes Go.WideShapes Go.ChangeAt Go.RowKit Go.Vm
theorem own:ownKnob Tryz.prog.godebug=none:=by kernel_rfl
def litV:Lit→Value
  | .bool b=>.bool b
  | .int k n=>.int k n
  | .float k b=>.float k b
  | .string l=>.string ⟨l.toArray⟩
  | .nil=>.pointer none
def dvals1:DataW Unit→List Value
  | .lit l=>[litV l]
  | _=>[]
def dvals2:DataW Unit→List Value
  | .lit l=>[litV l]
  | .agg ps=>ps.flatMap dvals1
  | _=>[]
def dvals3:DataW Unit→List Value
  | .agg ps=>ps.flatMap dvals2
  | _=>[]
def layB (l:List Value):Obj→Obj
  | .cells _ t frozen=>.cells l.toArray t frozen
  | o=>o
noncomputable def low:Nat:=(World.holding Tryz.prog default ⟨#[],#[],[]⟩).heap.size
noncomputable def laidWorld (os:Os):World:=
  { World.holding Tryz.prog os ⟨#[.cells #[.string ⟨#[105,110,118,97,108,105,100,32,115,121,110,116,97,120]⟩] 141,.cells #[.string ⟨#[118,97,108,117,101,32,111,117,116,32,111,102,32,114,97,110,103,101]⟩] 141],#[],[]⟩ with heap:=((((((((World.holding Tryz.prog os ⟨#[.cells #[.string ⟨#[105,110,118,97,108,105,100,32,115,121,110,116,97,120]⟩] 141,.cells #[.string ⟨#[118,97,108,117,101,32,111,117,116,32,111,102,32,114,97,110,103,101]⟩] 141],#[],[]⟩).heap.modify 1 (layB [.iface 139 (.pointer (some ⟨low + 0,0,none⟩))])).modify 2 (layB [.iface 139 (.pointer (some ⟨low + 1,0,none⟩))])).modify 3 (layB (dvals3 Rows.laid_internal_strconv_uint64pow10))).modify 4 (layB (dvals3 Rows.laid_math_bits_deBruijn32tab))).modify 5 (layB (dvals3 Rows.laid_math_bits_deBruijn64tab))).modify 6 (layB (dvals3 Rows.laid_unicode_utf8_first))).modify 7 (layB (dvals3 Rows.laid_unicode_utf8_acceptRanges))) }
theorem laid_met (os:Os):laidMet Tryz.prog Rows.rupChecksUptoRow.laid ((laidWorld os).forCall (fun _ _=>0) ⟨#[],#[.slice none 0 0,.slice none 0 0,.slice none 0 0],[]⟩).memory:=
  laidMet_of_run' 8 (by kernel_rfl) (by kernel_rfl)
theorem reads (os:Os) {H:Type} (enc:TypeId × Value→H):∃ places,DataW.whole enc Tryz.prog ((laidWorld os).forCall (fun _ _=>0) ⟨#[],#[.slice none 0 0,.slice none 0 0,.slice none 0 0],[]⟩).memory Tryz.f3.params.toList Rows.rupChecksSpec.vars false (#[.slice none 0 0,.slice none 0 0,.slice none 0 0]:Array Value).toList 8=some ([.nil,.nil,.nil],[],places):=
  ⟨[],by kernel_rfl⟩
theorem bulk_pos {H:Type}:∀ d:DataW H,1≤Rows.uptoBulk d:=fun d=>by cases d <;> (try rename_i l; cases l) <;> simp[Rows.uptoBulk]
theorem contract (H:Type) (enc:TypeId × Value→H) (W:World) (base:Nat) (args:Array Value) (ds gs:List (DataW H)) (before:List MemPlace)
    (hval:∀ (j:Nat) t v,Tryz.f3.params[j]? = some t→args[j]? = some v→Value.okWide Tryz.prog W .any base t v)
    (hW:DataW.Whole enc Tryz.prog Tryz.f3.params.toList Rows.rupChecksSpec.vars false W args.toList ds gs before) (hk:Rows.uptoSmall H (ds ++ gs)=true) (hG:∀ q,q∈glb→q.1 < W.heap.size∧∃ cs T fz,W.heap[q.1]? = some (.cells cs T fz)∧q.2 cs) :
    Calls Tryz.prog 3 args W fun e W'=>∃ v,e = .returned v∧Rows.rupChecksSpec.post enc Tryz.prog Tryz.f3 false true false false W args v W':=by
  have hW':=hW
  obtain⟨p,q,hA0,hV,rfl,hfz,hnd⟩:=hW
  have hA:DataW.TrodAll enc Tryz.prog W 0 (fun _=>true) true Tryz.f3.params.toList args.toList ds p:=hA0
  rw[Tryz.params3] at hA hval
  have hA1:=hA
  obtain⟨v0,vs0,d0,ds0,p0,q0,hargs,rfl,rfl,h0,r0⟩:=trodAll_cons hA
  obtain⟨v1,vs1,d1,ds1,p1,q1,rfl,rfl,rfl,h1,r1⟩:=trodAll_cons r0
  obtain⟨v2,vs2,d2,ds2,p2,q2,rfl,rfl,rfl,h2,r2⟩:=trodAll_cons r1
  obtain⟨rfl,rfl,rfl⟩:=trodAll_nil r2
  obtain rfl:args = #[v0,v1,v2]:=by cases args; simp_all
  obtain⟨rfl,rfl⟩:=trodVars_none hV
  have B:BulkOk (Rows.uptoBulk (H:=H)) Rows.uptoBulkAll:=⟨rfl,fun _ _=>rfl,bulk_pos,fun _=>rfl,fun _ _=>rfl,fun _=>rfl⟩
  obtain⟨a0,b0,r0',k0,m0,s0,z0⟩:=Rd.arg1 (Rd.slice B (Rd.slice B (Rd.int B Tryz.underlying3) Tryz.underlying23 (by kernel_rfl) (by decide)) Tryz.underlying22 (by kernel_rfl) (by decide)) (cells_slice Tryz.underlying22 (hval 0 22 v0 rfl rfl)) h0
  obtain⟨a1,b1,r1',k1,m1,s1,z1⟩:=Rd.arg1 (Rd.slice B (Rd.slice B (Rd.int B Tryz.underlying3) Tryz.underlying23 (by kernel_rfl) (by decide)) Tryz.underlying22 (by kernel_rfl) (by decide)) (cells_slice Tryz.underlying22 (hval 1 22 v1 rfl rfl)) h1
  obtain⟨a2,b2,r2',k2,m2,s2,z2⟩:=Rd.arg1 (Rd.slice B (Rd.int B Tryz.underlying3) Tryz.underlying23 (by kernel_rfl) (by decide)) (cells_slice Tryz.underlying23 (hval 2 23 v2 rfl rfl)) h2
  have hbulk:=of_decide_eq_true hk
  simp only[List.append_nil,Rows.uptoBulkAll] at hbulk
  have hp:law29_RupChecks a0 a1 a2=some true:=RupChecks_true a0 a1 a2 k0 k1 k2 (Nat.le_trans m0 (by omega)) (Nat.le_trans m1 (by omega)) (Nat.le_trans m2 (by omega))
  refine (law_true (law29_RupChecks_ok a0 a1 a2) hp rfl rfl (vs':=[b0,b1,b2]) ⟨s0,s1,s2,trivial⟩ (snapL_cons' z0 (snapL_cons' z1 (snapL_cons' z2 (snapL_nil' _)))) W hG (cargs:=#[v0,v1,v2]) ⟨r0',r1',r2',trivial⟩).mono fun e W' ⟨he,h1,h2,h3,h4,h5⟩=>?_
  have hb:Below W.heap.size W W':=⟨h1,h2,h3,h4,h5⟩
  subst he
  exact⟨_,rfl,row_below (pv:=[]) hW' hb rfl (fun _ _ _=>trodAll_cons_mk (shut_bool Tryz.underlying4 _) trodAll_mk0) (fun sp hsp=>args_stay (by kernel_rfl) hb (ts:=[22,22,23]) (by decide +kernel) hA1 (fun x hx=>hW'.lt x (List.mem_append_left _ hx)) (fun x hx=>hsp x (List.mem_append_left _ hx))) (fun _ _=>rfl) (ok_one (by kernel_rfl) rfl (okWide_bool_mk Tryz.underlying4 _))⟩
theorem tabs {W:World} (hL:laidMetH Tryz.prog Rows.rupChecksUptoRow.laid W):∀ q,q∈glb→q.1 < W.heap.size∧∃ cs T fz,W.heap[q.1]? = some (.cells cs T fz)∧q.2 cs:=fun q hq=>by
  have h:laidMet Tryz.prog Rows.rupChecksUptoRow.laid W:=hL
  obtain⟨ps,hv,_⟩:=h
  simp only[glb,List.mem_cons,List.not_mem_nil,or_false] at hq
  rcases hq with rfl | rfl | rfl
  · exact cells_of_tabIs (tab_of_vars (name:= "internal/strconv.uint64pow10") (g:=3) (t:=130) (e:=80) (n:=20) (by kernel_rfl) (by kernel_rfl) Tryz.underlying130 Tryz.underlying80 (by kernel_rfl) (by kernel_rfl) hv (List.mem_of_getElem? (i:=2) (by kernel_rfl))) (by kernel_rfl)
  · exact iface_of_vars (name:= "strconv.ErrSyntax") (nm:= "*errors.errorString") (dd:=.ptr (.agg [.lit (.string [105,110,118,97,108,105,100,32,115,121,110,116,97,120])])) (g:=1) (t:=87) (by kernel_rfl) (by kernel_rfl) Tryz.underlying87 hv (List.mem_of_getElem? (i:=5) (by kernel_rfl))
  · exact iface_of_vars (name:= "strconv.ErrRange") (nm:= "*errors.errorString") (dd:=.ptr (.agg [.lit (.string [118,97,108,117,101,32,111,117,116,32,111,102,32,114,97,110,103,101])])) (g:=2) (t:=87) (by kernel_rfl) (by kernel_rfl) Tryz.underlying87 hv (List.mem_of_getElem? (i:=4) (by kernel_rfl))
set_option maxRecDepth 100000 in
theorem liftedUpto (os:Os) (started:os.Started) (H:Type) (enc:TypeId × Value→H) (F:Stop.Interp) :
    ReturnsInHanded {} Tryz.checked os 3 .any ((Rows.OpenSpec.upto Rows.rupChecksSpec).preRow enc Tryz.prog Tryz.f3 Rows.rupChecksUptoRow.domain false Rows.rupChecksUptoRow.laid) (((Rows.OpenSpec.upto Rows.rupChecksSpec).at F).post enc Tryz.prog Tryz.f3 false true false false):=by
  obtain⟨places,hx⟩:=reads os enc
  refine returnsInHanded_of_row (C:=Tryz.checked) (s:=Rows.OpenSpec.upto Rows.rupChecksSpec) own started (by kernel_rfl) Tryz.func3
    (witness_row_at (enc:=enc) (C:=Tryz.checked) false (laidWorld os) #[.slice none 0 0,.slice none 0 0,.slice none 0 0] rfl (by kernel_rfl) (by kernel_rfl) (by kernel_rfl)
      (OpenSpec.preRow_of_cond 8 hx (by kernel_rfl) (fun k hk=>by cases hk; kernel_rfl) (by kernel_rfl) (laid_met os))) ?_
  intro W base args ds gs before hval hW _ hcond _ hL _ _
  exact contract H enc W base args ds gs before hval hW (hcond _ rfl) (tabs hL)
theorem saidUpto:Rows.RupChecksUptoSaid:=
  OpenClaim.holds_of_cond 3 Tryz.f3 rfl rfl rfl rfl rfl rfl rfl ⟨rfl,rfl,rfl,rfl,rfl⟩ rfl rfl rfl rfl rfl (by kernel_rfl) Tryz.func3 (by kernel_rfl)
    (of_decide_eq_true (by kernel_rfl)) (by unfold Func.isWrapper; first | (rw[if_pos (by decide +kernel)]; kernel_rfl) | (rw[if_neg (by decide +kernel)]; exact⟨rfl,rfl⟩))
    (fun os started H enc _ F=>by rw[OpenClaim.pre_eq_preRow]; exact liftedUpto os started H enc F)
theorem plain (f:FuncId) (fn:Func) (hf:Tryz.pinned.checked.prog.funcNamed "dovetail/dovetaillaw29.RupChecks" = some f) (hfn:Tryz.pinned.checked.prog.funcs[f]? = some fn) :
    true=Tryz.pinned.checked.prog.looks []∧∀ (j:Nat) t,fn.params[j]? = some t→Tryz.pinned.checked.prog.wantsStandIn t=false:=by
  obtain rfl:f=3:=Option.some.inj ((show Tryz.prog.funcNamed "dovetail/dovetaillaw29.RupChecks" = some 3 by kernel_rfl).symm.trans hf) |>.symm
  obtain rfl:fn=Tryz.f3:=(Option.some.inj (Tryz.func3.symm.trans hfn)).symm
  refine⟨by kernel_rfl,fun j t ht=>?_⟩
  have hall:(Tryz.f3.params.toList.all fun t=>!(Tryz.prog.wantsStandIn t))=true:=by kernel_rfl
  have:=List.all_eq_true.1 hall t (by have:=Array.mem_of_getElem? ht; simpa using this)
  have h2:Tryz.prog.wantsStandIn t=false:=by simpa using this
  exact h2
theorem cardUpto:Rows.RupChecksUptoCardSaid:=
  Claim7.holds_tied_plain_at .later [] _ _ _ _ saidUpto (fun _ h=>by cases h) (by kernel_rfl) (fun _ h=>by cases h) rupChecksUpto_row_tie rfl ⟨rfl,rfl⟩ (by kernel_rfl) rfl plain (by kernel_rfl)
end Go.Proofs.YteaakndjbedilaaGreatDoor.rupChecks

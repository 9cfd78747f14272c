/- The law CnfTexts is true for every input whose bulk is at most 1048576 values and letters; each argument reads behind the call as it read before. -/
import Derived.Test.YtodndfhcfhemdaaDoorCards
import Derived.Test.YtodndfhcfhemdaaDoorTie
import Derived.Test.YtodndfhcfhemdaaDoorQ0CnfTexts
import Derived.LaidSub
import Derived.ChangeMaps5
import Derived.Test.YtodndfhcfhemdaaDoorQ1CnfTexts
set_option linter.unusedVariables false
set_option linter.unusedSimpArgs false
/- The law 'dovetaillaw24.CnfTexts' is true wherever what it reads is of bulk at most 1048576; each argument reads behind the call as it read before. -/
set_option maxRecDepth 100000
set_option linter.unusedVariables false
set_option linter.unusedSimpArgs false
namespace Go.Proofs.YtodndfhcfhemdaaDoor.cnfTexts
open Go.ChangeMaps Go.ChangeShapes Go.WideShapes Go.ChangeAt Go.RowKit Go.Vm
theorem own:ownKnob Tryd.prog.godebug=none:=by kernel_rfl
def litV:Lit→Value
  | .bool b=>.bool b
  | .int k n=>.int k n
  | .float k b=>.float k b
  | .string l=>.string ⟨l.toArray⟩
  | .nil=>.pointer none
def dvals1:DataW Unit→List Value
  | .lit l=>[litV l]
  | _=>[]
def dvals2:DataW Unit→List Value
  | .lit l=>[litV l]
  | .agg ps=>ps.flatMap dvals1
  | _=>[]
def dvals3:DataW Unit→List Value
  | .agg ps=>ps.flatMap dvals2
  | _=>[]
def layB (l:List Value):Obj→Obj
  | .cells _ t frozen=>.cells l.toArray t frozen
  | o=>o
noncomputable def low:Nat:=(World.holding Tryd.prog default ⟨#[],#[],[]⟩).heap.size
noncomputable def laidWorld (os:Os):World:=
  { World.holding Tryd.prog os ⟨#[.cells #[.string ⟨#[105,110,118,97,108,105,100,32,115,121,110,116,97,120]⟩] 174,.cells #[.string ⟨#[118,97,108,117,101,32,111,117,116,32,111,102,32,114,97,110,103,101]⟩] 174],#[],[]⟩ with heap:=((((((World.holding Tryd.prog os ⟨#[.cells #[.string ⟨#[105,110,118,97,108,105,100,32,115,121,110,116,97,120]⟩] 174,.cells #[.string ⟨#[118,97,108,117,101,32,111,117,116,32,111,102,32,114,97,110,103,101]⟩] 174],#[],[]⟩).heap.modify 0 (layB (dvals3 Rows.laid_internal_strconv_uint64pow10))).modify 1 (layB [.iface 172 (.pointer (some ⟨low + 0,0,none⟩))])).modify 2 (layB [.iface 172 (.pointer (some ⟨low + 1,0,none⟩))])).modify 3 (layB (dvals3 Rows.laid_math_bits_deBruijn32tab))).modify 4 (layB (dvals3 Rows.laid_math_bits_deBruijn64tab))) }
theorem laid_met (os:Os):laidMet Tryd.prog Rows.cnfTextsUptoRow.laid ((laidWorld os).forCall (fun _ _=>0) ⟨#[],#[.agg #[.int .i64 0,.slice none 0 0,.slice none 0 0],.string ⟨#[]⟩],[]⟩).memory:=
  laidMet_of_run' 8 (by kernel_rfl) (by kernel_rfl)
theorem reads (os:Os) {H:Type} (enc:TypeId × Value→H):∃ places,DataW.whole enc Tryd.prog ((laidWorld os).forCall (fun _ _=>0) ⟨#[],#[.agg #[.int .i64 0,.slice none 0 0,.slice none 0 0],.string ⟨#[]⟩],[]⟩).memory Tryd.f6.params.toList Rows.cnfTextsSpec.vars false (#[.agg #[.int .i64 0,.slice none 0 0,.slice none 0 0],.string ⟨#[]⟩]:Array Value).toList 8=some ([.agg [.lit (.int .i64 0),.nil,.nil],.lit (.string [])],[],places):=
  ⟨[],by kernel_rfl⟩
theorem bulk_pos {H:Type}:∀ d:DataW H,1≤Rows.uptoBulk d:=fun d=>by cases d <;> (try rename_i l; cases l) <;> simp[Rows.uptoBulk]
theorem rd55 {H:Type} {f:DataW H→Nat} {g:List (DataW H)→Nat} (B:BulkOk f g):Rd Tryd.prog f 55 2 (fun x:S_api_Clause=>c_S_api_Clause x) (fun x=>(∀ y∈x.Lits,(Lit.int .i64 y).wf=true)∧((Lit.int .i64 x.Tag).wf=true)∧True) (fun x=>(((x.Lits.map fun y=>1).sum + 1) + (1 + (0)) + 1)):=
  Rd.struct B (fs:=_) (n:=2) (en:=_) (ok:=_) (μ:=_) (Rds.cons B (Rd.slice B (Rd.int B Tryd.underlying3) Tryd.underlying23 (by kernel_rfl) (by decide)) (Rds.cons B (Rd.int B Tryd.underlying3) (Rds.nil _) rfl (by kernel_rfl)) rfl (by kernel_rfl)) Tryd.underlying55 (by kernel_rfl) (fun x=>S_api_Clause.mk x.1 x.2.1) (fun y=>⟨(y.Lits,y.Tag,()),rfl⟩) (fun x=>rfl) (fun x h=>h) (fun x=>Nat.le_refl _)
theorem rd25 {H:Type} {f:DataW H→Nat} {g:List (DataW H)→Nat} (B:BulkOk f g):Rd Tryd.prog f 25 3 (fun x:S_api_Formula=>c_S_api_Formula x) (fun x=>((Lit.int .i64 x.Vars).wf=true)∧(∀ y∈x.Clauses,(∀ c∈y.Lits,(Lit.int .i64 c).wf=true)∧((Lit.int .i64 y.Tag).wf=true)∧True)∧(∀ y∈x.Order,(Lit.int .i64 y).wf=true)∧True) (fun x=>(1 + (((x.Clauses.map fun y=>(((y.Lits.map fun y=>1).sum + 1) + (1 + (0)) + 1)).sum + 1) + (((x.Order.map fun y=>1).sum + 1) + (0))) + 1)):=
  Rd.struct B (fs:=_) (n:=3) (en:=_) (ok:=_) (μ:=_) (Rds.cons B (Rd.int B Tryd.underlying3) (Rds.cons B (Rd.slice B (rd55 B) Tryd.underlying22 (by kernel_rfl) (by decide)) (Rds.cons B (Rd.slice B (Rd.int B Tryd.underlying3) Tryd.underlying23 (by kernel_rfl) (by decide)) (Rds.nil _) rfl (by kernel_rfl)) rfl (by kernel_rfl)) rfl (by kernel_rfl)) Tryd.underlying25 (by kernel_rfl) (fun x=>S_api_Formula.mk x.1 x.2.1 x.2.2.1) (fun y=>⟨(y.Vars,y.Clauses,y.Order,()),rfl⟩) (fun x=>rfl) (fun x h=>h) (fun x=>Nat.le_refl _)
theorem contract (H:Type) (enc:TypeId × Value→H) (W:World) (base:Nat) (args:Array Value) (ds gs:List (DataW H)) (before:List MemPlace)
    (hval:∀ (j:Nat) t v,Tryd.f6.params[j]? = some t→args[j]? = some v→Value.okWide Tryd.prog W .any base t v)
    (hW:DataW.Whole enc Tryd.prog Tryd.f6.params.toList Rows.cnfTextsSpec.vars false W args.toList ds gs before) (hk:Rows.uptoSmall H (ds ++ gs)=true) (hG:∀ q,q∈glb→q.1 < W.heap.size∧∃ cs T fz,W.heap[q.1]? = some (.cells cs T fz)∧q.2 cs) :
    Calls Tryd.prog 6 args W fun e W'=>∃ v,e = .returned v∧Rows.cnfTextsSpec.post enc Tryd.prog Tryd.f6 false true false false W args v W':=by
  have hW':=hW
  obtain⟨p,q,hA0,hV,rfl,hfz,hnd⟩:=hW
  have hA:DataW.TrodAll enc Tryd.prog W 0 (fun _=>true) true Tryd.f6.params.toList args.toList ds p:=hA0
  rw[Tryd.params6] at hA hval
  have hA1:=hA
  obtain⟨v0,vs0,d0,ds0,p0,q0,hargs,rfl,rfl,h0,r0⟩:=trodAll_cons hA
  obtain⟨v1,vs1,d1,ds1,p1,q1,rfl,rfl,rfl,h1,r1⟩:=trodAll_cons r0
  obtain⟨rfl,rfl,rfl⟩:=trodAll_nil r1
  obtain rfl:args = #[v0,v1]:=by cases args; simp_all
  obtain⟨rfl,rfl⟩:=trodVars_none hV
  have B:BulkOk (Rows.uptoBulk (H:=H)) Rows.uptoBulkAll:=⟨rfl,fun _ _=>rfl,bulk_pos,fun _=>rfl,fun _ _=>rfl,fun _=>rfl⟩
  obtain⟨cs0,rfl⟩:=agg_struct Tryd.underlying25 (hval 0 25 v0 rfl rfl)
  obtain⟨a0,b0,r0',k0,m0,s0,z0⟩:=Rd.argS (rd25 B) h0
  obtain⟨a1,b1,r1',k1,m1,s1,z1⟩:=Rd.arg1 (Rd.str B Tryd.underlying9) (cells_string Tryd.underlying9 (hval 1 9 v1 rfl rfl)) h1
  have hbulk:=of_decide_eq_true hk
  simp only[List.append_nil,Rows.uptoBulkAll] at hbulk
  have hp:law24_CnfTexts a0 a1=some true:=CnfTexts_true a0 a1 k0 (Nat.le_trans m0 (by omega)) (Nat.le_trans m1 (by omega))
  refine (law_true (law24_CnfTexts_ok a0 a1) hp rfl rfl (vs':=[b0,b1]) ⟨s0,s1,trivial⟩ (snapL_cons' z0 (snapL_cons' z1 (snapL_nil' _))) W hG (cargs:=#[.agg cs0,v1]) ⟨r0',r1',trivial⟩).mono fun e W' ⟨he,h1,h2,h3,h4,h5⟩=>?_
  have hb:Below W.heap.size W W':=⟨h1,h2,h3,h4,h5⟩
  subst he
  exact⟨_,rfl,row_below (pv:=[]) hW' hb rfl (fun _ _ _=>trodAll_cons_mk (shut_bool Tryd.underlying4 _) trodAll_mk0) (fun sp hsp=>args_stay (by kernel_rfl) hb (ts:=[25,9]) (by decide +kernel) hA1 (fun x hx=>hW'.lt x (List.mem_append_left _ hx)) (fun x hx=>hsp x (List.mem_append_left _ hx))) (fun _ _=>rfl) (ok_one (by kernel_rfl) rfl (okWide_bool_mk Tryd.underlying4 _))⟩
theorem tabs {W:World} (hL:laidMetH Tryd.prog Rows.cnfTextsUptoRow.laid W):∀ q,q∈glb→q.1 < W.heap.size∧∃ cs T fz,W.heap[q.1]? = some (.cells cs T fz)∧q.2 cs:=fun q hq=>by
  have h:laidMet Tryd.prog Rows.cnfTextsUptoRow.laid W:=hL
  obtain⟨ps,hv,_⟩:=h
  simp only[glb,List.mem_cons,List.not_mem_nil,or_false] at hq
  rcases hq with rfl | rfl | rfl
  · exact cells_of_tabIs (tab_of_vars (name:= "internal/strconv.uint64pow10") (g:=0) (t:=162) (e:=34) (n:=20) (by kernel_rfl) (by kernel_rfl) Tryd.underlying162 Tryd.underlying34 (by kernel_rfl) (by kernel_rfl) hv (List.mem_of_getElem? (i:=2) (by kernel_rfl))) (by kernel_rfl)
  · exact iface_of_vars (name:= "strconv.ErrSyntax") (nm:= "*errors.errorString") (dd:=.ptr (.agg [.lit (.string [105,110,118,97,108,105,100,32,115,121,110,116,97,120])])) (g:=1) (t:=85) (by kernel_rfl) (by kernel_rfl) Tryd.underlying85 hv (List.mem_of_getElem? (i:=4) (by kernel_rfl))
  · exact iface_of_vars (name:= "strconv.ErrRange") (nm:= "*errors.errorString") (dd:=.ptr (.agg [.lit (.string [118,97,108,117,101,32,111,117,116,32,111,102,32,114,97,110,103,101])])) (g:=2) (t:=85) (by kernel_rfl) (by kernel_rfl) Tryd.underlying85 hv (List.mem_of_getElem? (i:=3) (by kernel_rfl))
set_option maxRecDepth 100000 in
theorem liftedUpto (os:Os) (started:os.Started) (H:Type) (enc:TypeId × Value→H) (F:Stop.Interp) :
    ReturnsInHanded {} Tryd.checked os 6 .any ((Rows.OpenSpec.upto Rows.cnfTextsSpec).preRow enc Tryd.prog Tryd.f6 Rows.cnfTextsUptoRow.domain false Rows.cnfTextsUptoRow.laid) (((Rows.OpenSpec.upto Rows.cnfTextsSpec).at F).post enc Tryd.prog Tryd.f6 false true false false):=by
  obtain⟨places,hx⟩:=reads os enc
  refine returnsInHanded_of_row (C:=Tryd.checked) (s:=Rows.OpenSpec.upto Rows.cnfTextsSpec) own started (by kernel_rfl) Tryd.func6
    (witness_row_at (enc:=enc) (C:=Tryd.checked) false (laidWorld os) #[.agg #[.int .i64 0,.slice none 0 0,.slice none 0 0],.string ⟨#[]⟩] rfl (by kernel_rfl) (by kernel_rfl) (by kernel_rfl)
      (OpenSpec.preRow_of_cond 8 hx (by kernel_rfl) (fun k hk=>by cases hk; kernel_rfl) (by kernel_rfl) (laid_met os))) ?_
  intro W base args ds gs before hval hW _ hcond _ hL _ _
  exact contract H enc W base args ds gs before hval hW (hcond _ rfl) (tabs hL)
theorem saidUpto:Rows.CnfTextsUptoSaid:=
  OpenClaim.holds_of_cond 6 Tryd.f6 rfl rfl rfl rfl rfl rfl rfl ⟨rfl,rfl,rfl,rfl,rfl⟩ rfl rfl rfl rfl rfl (by kernel_rfl) Tryd.func6 (by kernel_rfl)
    (of_decide_eq_true (by kernel_rfl)) (by unfold Func.isWrapper; first | (rw[if_pos (by decide +kernel)]; kernel_rfl) | (rw[if_neg (by decide +kernel)]; exact⟨rfl,rfl⟩))
    (fun os started H enc _ F=>by rw[OpenClaim.pre_eq_preRow]; exact liftedUpto os started H enc F)
theorem plain (f:FuncId) (fn:Func) (hf:Tryd.pinned.checked.prog.funcNamed "dovetail/dovetaillaw24.CnfTexts" = some f) (hfn:Tryd.pinned.checked.prog.funcs[f]? = some fn) :
    true=Tryd.pinned.checked.prog.looks []∧∀ (j:Nat) t,fn.params[j]? = some t→Tryd.pinned.checked.prog.wantsStandIn t=false:=by
  obtain rfl:f=6:=Option.some.inj ((show Tryd.prog.funcNamed "dovetail/dovetaillaw24.CnfTexts" = some 6 by kernel_rfl).symm.trans hf) |>.symm
  obtain rfl:fn=Tryd.f6:=(Option.some.inj (Tryd.func6.symm.trans hfn)).symm
  refine⟨by kernel_rfl,fun j t ht=>?_⟩
  have hall:(Tryd.f6.params.toList.all fun t=>!(Tryd.prog.wantsStandIn t))=true:=by kernel_rfl
  have:=List.all_eq_true.1 hall t (by have:=Array.mem_of_getElem? ht; simpa using this)
  have h2:Tryd.prog.wantsStandIn t=false:=by simpa using this
  exact h2
theorem cardUpto:Rows.CnfTextsUptoCardSaid:=
  Claim7.holds_tied_plain_at .later [] _ _ _ _ saidUpto (fun _ h=>by cases h) (by kernel_rfl) (fun _ h=>by cases h) cnfTextsUpto_row_tie rfl ⟨rfl,rfl⟩ (by kernel_rfl) rfl plain (by kernel_rfl)
end Go.Proofs.YtodndfhcfhemdaaDoor.cnfTexts

/- The law PepReads is true for every input whose bulk is at most 1048576 values and letters; each argument reads behind the call as it read before. -/
import Derived.Test.YthifafijkpkliaaGreatDoorCards
import Derived.Test.YthifafijkpkliaaGreatDoorTie
import Derived.Test.YthifafijkpkliaaGreatDoorQ0PepReads
import Derived.ChangeMaps5
/- The law 'dovetaillaw03.PepReads' is true wherever what it reads is of bulk at most 1048576; each argument reads behind the call as it read before. -/
set_option maxRecDepth 100000
set_option linter.unusedVariables false
set_option linter.unusedSimpArgs false
namespace Go.Proofs.YthifafijkpkliaaGreatDoor.pepReads
open Go.ChangeMaps Go.ChangeShapes Go.WideShapes Go.ChangeAt Go.RowKit Go.Vm
theorem own:ownKnob Tryz.prog.godebug=none:=by kernel_rfl
def litV:Lit→Value
  | .bool b=>.bool b
  | .int k n=>.int k n
  | .float k b=>.float k b
  | .string l=>.string ⟨l.toArray⟩
  | .nil=>.pointer none
def dvals1:DataW Unit→List Value
  | .lit l=>[litV l]
  | _=>[]
def dvals2:DataW Unit→List Value
  | .lit l=>[litV l]
  | .agg ps=>ps.flatMap dvals1
  | _=>[]
def dvals3:DataW Unit→List Value
  | .agg ps=>ps.flatMap dvals2
  | _=>[]
def layB (l:List Value):Obj→Obj
  | .cells _ t frozen=>.cells l.toArray t frozen
  | o=>o
noncomputable def laidWorld (os:Os):World:=
  { World.holding Tryz.prog os ⟨#[],#[],[]⟩ with heap:=((World.holding Tryz.prog os ⟨#[],#[],[]⟩).heap.modify 1 (layB (dvals3 Rows.laid_unicode_utf8_first))).modify 2 (layB (dvals3 Rows.laid_unicode_utf8_acceptRanges)) }
theorem laid_met (os:Os):laidMet Tryz.prog Rows.pepReadsUptoRow.laid ((laidWorld os).forCall (fun _ _=>0) ⟨#[],#[.string ⟨#[]⟩,.string ⟨#[]⟩],[]⟩).memory:=
  laidMet_of_run' 8 (by kernel_rfl) (by kernel_rfl)
theorem reads (os:Os) {H:Type} (enc:TypeId × Value→H):∃ places,DataW.whole enc Tryz.prog ((laidWorld os).forCall (fun _ _=>0) ⟨#[],#[.string ⟨#[]⟩,.string ⟨#[]⟩],[]⟩).memory Tryz.f3.params.toList Rows.pepReadsSpec.vars false (#[.string ⟨#[]⟩,.string ⟨#[]⟩]:Array Value).toList 8=some ([.lit (.string []),.lit (.string [])],[],places):=
  ⟨[],by kernel_rfl⟩
theorem bulk_pos {H:Type}:∀ d:DataW H,1≤Rows.uptoBulk d:=fun d=>by cases d <;> (try rename_i l; cases l) <;> simp[Rows.uptoBulk]
theorem contract (H:Type) (enc:TypeId × Value→H) (W:World) (base:Nat) (args:Array Value) (ds gs:List (DataW H)) (before:List MemPlace)
    (hval:∀ (j:Nat) t v,Tryz.f3.params[j]? = some t→args[j]? = some v→Value.okWide Tryz.prog W .any base t v)
    (hW:DataW.Whole enc Tryz.prog Tryz.f3.params.toList Rows.pepReadsSpec.vars false W args.toList ds gs before) (hk:Rows.uptoSmall H (ds ++ gs)=true) :
    Calls Tryz.prog 3 args W fun e W'=>∃ v,e = .returned v∧Rows.pepReadsSpec.post enc Tryz.prog Tryz.f3 false true false false W args v W':=by
  have hW':=hW
  obtain⟨p,q,hA0,hV,rfl,hfz,hnd⟩:=hW
  have hA:DataW.TrodAll enc Tryz.prog W 0 (fun _=>true) true Tryz.f3.params.toList args.toList ds p:=hA0
  rw[Tryz.params3] at hA hval
  have hA1:=hA
  obtain⟨v0,vs0,d0,ds0,p0,q0,hargs,rfl,rfl,h0,r0⟩:=trodAll_cons hA
  obtain⟨v1,vs1,d1,ds1,p1,q1,rfl,rfl,rfl,h1,r1⟩:=trodAll_cons r0
  obtain⟨rfl,rfl,rfl⟩:=trodAll_nil r1
  obtain rfl:args = #[v0,v1]:=by cases args; simp_all
  obtain⟨rfl,rfl⟩:=trodVars_none hV
  have B:BulkOk (Rows.uptoBulk (H:=H)) Rows.uptoBulkAll:=⟨rfl,fun _ _=>rfl,bulk_pos,fun _=>rfl,fun _ _=>rfl,fun _=>rfl⟩
  obtain⟨a0,b0,r0',k0,m0,s0,z0⟩:=Rd.arg1 (Rd.str B Tryz.underlying9) (cells_string Tryz.underlying9 (hval 0 9 v0 rfl rfl)) h0
  obtain⟨a1,b1,r1',k1,m1,s1,z1⟩:=Rd.arg1 (Rd.str B Tryz.underlying9) (cells_string Tryz.underlying9 (hval 1 9 v1 rfl rfl)) h1
  have hbulk:=of_decide_eq_true hk
  simp only[List.append_nil,Rows.uptoBulkAll] at hbulk
  have hp:law03_PepReads a0 a1=some true:=PepReads_true a0 a1  (Nat.le_trans m0 (by omega)) (Nat.le_trans m1 (by omega))
  refine (law_true (law03_PepReads_ok a0 a1) hp rfl rfl (vs':=[b0,b1]) ⟨s0,s1,trivial⟩ (snapL_cons' z0 (snapL_cons' z1 (snapL_nil' _))) W (cargs:=#[v0,v1]) ⟨r0',r1',trivial⟩).mono fun e W' ⟨he,h1,h2,h3,h4,h5⟩=>?_
  have hb:Below W.heap.size W W':=⟨h1,h2,h3,h4,h5⟩
  subst he
  exact⟨_,rfl,row_below (pv:=[]) hW' hb rfl (fun _ _ _=>trodAll_cons_mk (shut_bool Tryz.underlying4 _) trodAll_mk0) (fun sp hsp=>args_stay (by kernel_rfl) hb (ts:=[9,9]) (by decide +kernel) hA1 (fun x hx=>hW'.lt x (List.mem_append_left _ hx)) (fun x hx=>hsp x (List.mem_append_left _ hx))) (fun _ _=>rfl) (ok_one (by kernel_rfl) rfl (okWide_bool_mk Tryz.underlying4 _))⟩
set_option maxRecDepth 100000 in
theorem liftedUpto (os:Os) (started:os.Started) (H:Type) (enc:TypeId × Value→H) (F:Stop.Interp) :
    ReturnsInHanded {} Tryz.checked os 3 .any ((Rows.OpenSpec.upto Rows.pepReadsSpec).preRow enc Tryz.prog Tryz.f3 Rows.pepReadsUptoRow.domain false Rows.pepReadsUptoRow.laid) (((Rows.OpenSpec.upto Rows.pepReadsSpec).at F).post enc Tryz.prog Tryz.f3 false true false false):=by
  obtain⟨places,hx⟩:=reads os enc
  refine returnsInHanded_of_row (C:=Tryz.checked) (s:=Rows.OpenSpec.upto Rows.pepReadsSpec) own started (by kernel_rfl) Tryz.func3
    (witness_row_at (enc:=enc) (C:=Tryz.checked) false (laidWorld os) #[.string ⟨#[]⟩,.string ⟨#[]⟩] rfl (by kernel_rfl) (by kernel_rfl) (by kernel_rfl)
      (OpenSpec.preRow_of_cond 8 hx (by kernel_rfl) (fun k hk=>by cases hk; kernel_rfl) (by kernel_rfl) (laid_met os))) ?_
  intro W base args ds gs before hval hW _ hcond _ hL _ _
  exact contract H enc W base args ds gs before hval hW (hcond _ rfl)
theorem saidUpto:Rows.PepReadsUptoSaid:=
  OpenClaim.holds_of_cond 3 Tryz.f3 rfl rfl rfl rfl rfl rfl rfl ⟨rfl,rfl,rfl,rfl,rfl⟩ rfl rfl rfl rfl rfl (by kernel_rfl) Tryz.func3 (by kernel_rfl)
    (of_decide_eq_true (by kernel_rfl)) (by unfold Func.isWrapper; first | (rw[if_pos (by decide +kernel)]; kernel_rfl) | (rw[if_neg (by decide +kernel)]; exact⟨rfl,rfl⟩))
    (fun os started H enc _ F=>by rw[OpenClaim.pre_eq_preRow]; exact liftedUpto os started H enc F)
theorem plain (f:FuncId) (fn:Func) (hf:Tryz.pinned.checked.prog.funcNamed "dovetail/dovetaillaw03.PepReads" = some f) (hfn:Tryz.pinned.checked.prog.funcs[f]? = some fn) :
    false=Tryz.pinned.checked.prog.looks []∧∀ (j:Nat) t,fn.params[j]? = some t→Tryz.pinned.checked.prog.wantsStandIn t=false:=by
  obtain rfl:f=3:=Option.some.inj ((show Tryz.prog.funcNamed "dovetail/dovetaillaw03.PepReads" = some 3 by kernel_rfl).symm.trans hf) |>.symm
  obtain rfl:fn=Tryz.f3:=(Option.some.inj (Tryz.func3.symm.trans hfn)).symm
  refine⟨by kernel_rfl,fun j t ht=>?_⟩
  have hall:(Tryz.f3.params.toList.all fun t=>!(Tryz.prog.wantsStandIn t))=true:=by kernel_rfl
  have:=List.all_eq_true.1 hall t (by have:=Array.mem_of_getElem? ht; simpa using this)
  have h2:Tryz.prog.wantsStandIn t=false:=by simpa using this
  exact h2
theorem cardUpto:Rows.PepReadsUptoCardSaid:=
  Claim7.holds_tied_plain_at .later [] _ _ _ _ saidUpto (fun _ h=>by cases h) (by kernel_rfl) (fun _ h=>by cases h) pepReadsUpto_row_tie rfl ⟨rfl,rfl⟩ (by kernel_rfl) rfl plain (by kernel_rfl)
end Go.Proofs.YthifafijkpkliaaGreatDoor.pepReads

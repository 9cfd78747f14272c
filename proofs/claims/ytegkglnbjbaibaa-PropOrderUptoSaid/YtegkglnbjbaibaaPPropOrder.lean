/- The law PropOrder is true for every input whose bulk is at most 1048576 values and letters; each argument reads behind the call as it read before. -/
import Derived.Test.YtegkglnbjbaibaaRows
import Derived.Test.YtegkglnbjbaibaaQ0PropOrder
import Derived.Test.YtegkglnbjbaibaaAxbb78cfa9
import Derived.WalkKit
import Derived.ProofKit
import Derived.LaidSub
import Derived.ChangeMaps5
set_option linter.unusedVariables false
set_option linter.unusedSimpArgs false
/- The law 'dovetaillaw26.PropOrder' is true wherever what it reads is of bulk at most 1048576; each argument reads behind the call as it read before. -/
set_option maxRecDepth 100000
set_option linter.unusedVariables false
set_option linter.unusedSimpArgs false
namespace Go.Proofs.Ytegkglnbjbaibaa.propOrder
open Go.ChangeMaps Go.ChangeShapes Go.WideShapes Go.ChangeAt Go.RowKit Go.Vm
theorem own:ownKnob Try.prog.godebug=none:=by kernel_rfl
def litV:Lit→Value
  | .bool b=>.bool b
  | .int k n=>.int k n
  | .float k b=>.float k b
  | .string l=>.string ⟨l.toArray⟩
  | .nil=>.pointer none
def dvals1:DataW Unit→List Value
  | .lit l=>[litV l]
  | _=>[]
def dvals2:DataW Unit→List Value
  | .lit l=>[litV l]
  | .agg ps=>ps.flatMap dvals1
  | _=>[]
def dvals3:DataW Unit→List Value
  | .agg ps=>ps.flatMap dvals2
  | _=>[]
def layB (l:List Value):Obj→Obj
  | .cells _ t frozen=>.cells l.toArray t frozen
  | o=>o
noncomputable def laidWorld (os:Os):World:=
  { World.holding Try.prog os ⟨#[],#[],[]⟩ with heap:=(World.holding Try.prog os ⟨#[],#[],[]⟩).heap }
theorem laid_met (os:Os):laidMet Try.prog Rows.propOrderUptoRow.laid ((laidWorld os).forCall (fun _ _=>0) ⟨#[],#[.slice none 0 0,.slice none 0 0,.int .i64 0],[]⟩).memory:=
  laidMet_of_run' 8 (by kernel_rfl) (by kernel_rfl)
theorem reads (os:Os) {H:Type} (enc:TypeId × Value→H):∃ places,DataW.whole enc Try.prog ((laidWorld os).forCall (fun _ _=>0) ⟨#[],#[.slice none 0 0,.slice none 0 0,.int .i64 0],[]⟩).memory Try.f4.params.toList Rows.propOrderSpec.vars false (#[.slice none 0 0,.slice none 0 0,.int .i64 0]:Array Value).toList 8=some ([.nil,.nil,.lit (.int .i64 0)],[],places):=
  ⟨[],by kernel_rfl⟩
theorem bulk_pos {H:Type}:∀ d:DataW H,1≤Rows.uptoBulk d:=fun d=>by cases d <;> (try rename_i l; cases l) <;> simp[Rows.uptoBulk]
theorem contract (H:Type) (enc:TypeId × Value→H) (W:World) (base:Nat) (args:Array Value) (ds gs:List (DataW H)) (before:List MemPlace)
    (hval:∀ (j:Nat) t v,Try.f4.params[j]? = some t→args[j]? = some v→Value.okWide Try.prog W .any base t v)
    (hW:DataW.Whole enc Try.prog Try.f4.params.toList Rows.propOrderSpec.vars false W args.toList ds gs before) (hk:Rows.uptoSmall H (ds ++ gs)=true) (hG:∀ q,q∈glb→q.1 < W.heap.size∧∃ T fz,W.heap[q.1]? = some (.cells q.2 T fz)) :
    Calls Try.prog 4 args W fun e W'=>∃ v,e = .returned v∧Rows.propOrderSpec.post enc Try.prog Try.f4 false true false false W args v W':=by
  have hW':=hW
  obtain⟨p,q,hA0,hV,rfl,hfz,hnd⟩:=hW
  have hA:DataW.TrodAll enc Try.prog W 0 (fun _=>true) true Try.f4.params.toList args.toList ds p:=hA0
  rw[Try.params4] at hA hval
  have hA1:=hA
  obtain⟨v0,vs0,d0,ds0,p0,q0,hargs,rfl,rfl,h0,r0⟩:=trodAll_cons hA
  obtain⟨v1,vs1,d1,ds1,p1,q1,rfl,rfl,rfl,h1,r1⟩:=trodAll_cons r0
  obtain⟨v2,vs2,d2,ds2,p2,q2,rfl,rfl,rfl,h2,r2⟩:=trodAll_cons r1
  obtain⟨rfl,rfl,rfl⟩:=trodAll_nil r2
  obtain rfl:args = #[v0,v1,v2]:=by cases args; simp_all
  obtain⟨rfl,rfl⟩:=trodVars_none hV
  have B:BulkOk (Rows.uptoBulk (H:=H)) Rows.uptoBulkAll:=⟨rfl,fun _ _=>rfl,bulk_pos,fun _=>rfl,fun _ _=>rfl,fun _=>rfl⟩
  obtain⟨a0,b0,r0',k0,m0,s0,z0⟩:=Rd.arg1 (Rd.slice B (Rd.slice B (Rd.int B Try.underlying3) Try.underlying23 (by kernel_rfl) (by decide)) Try.underlying22 (by kernel_rfl) (by decide)) (cells_slice Try.underlying22 (hval 0 22 v0 rfl rfl)) h0
  obtain⟨a1,b1,r1',k1,m1,s1,z1⟩:=Rd.arg1 (Rd.slice B (Rd.int B Try.underlying3) Try.underlying23 (by kernel_rfl) (by decide)) (cells_slice Try.underlying23 (hval 1 23 v1 rfl rfl)) h1
  obtain⟨a2,b2,r2',k2,m2,s2,z2⟩:=Rd.arg1 (Rd.int B Try.underlying3) (cells_int Try.underlying3 (hval 2 3 v2 rfl rfl)) h2
  have hbulk:=of_decide_eq_true hk
  simp only[List.append_nil,Rows.uptoBulkAll] at hbulk
  have hp:law26_PropOrder a0 a1 a2=some true:=PropOrder_true a0 a1 a2 k0 k1 k2 (Nat.le_trans m0 (by omega)) (Nat.le_trans m1 (by omega))
  refine (law_true (law26_PropOrder_ok a0 a1 a2) hp rfl rfl (vs':=[b0,b1,b2]) ⟨s0,s1,s2,trivial⟩ (snapL_cons' z0 (snapL_cons' z1 (snapL_cons' z2 (snapL_nil' _)))) W hG (cargs:=#[v0,v1,v2]) ⟨r0',r1',r2',trivial⟩).mono fun e W' ⟨he,h1,h2,h3,h4,h5⟩=>?_
  have hb:Below W.heap.size W W':=⟨h1,h2,h3,h4,h5⟩
  subst he
  exact⟨_,rfl,row_below (pv:=[]) hW' hb rfl (fun _ _ _=>trodAll_cons_mk (shut_bool Try.underlying4 _) trodAll_mk0) (fun sp hsp=>args_stay (by kernel_rfl) hb (ts:=[22,23,3]) (by decide +kernel) hA1 (fun x hx=>hW'.lt x (List.mem_append_left _ hx)) (fun x hx=>hsp x (List.mem_append_left _ hx))) (fun _ _=>rfl) (ok_one (by kernel_rfl) rfl (okWide_bool_mk Try.underlying4 _))⟩
theorem tabs {W:World} (hL:laidMetH Try.prog Rows.propOrderUptoRow.laid W):∀ q,q∈glb→q.1 < W.heap.size∧∃ T fz,W.heap[q.1]? = some (.cells q.2 T fz):=fun _ h=>nomatch h
set_option maxRecDepth 100000 in
theorem liftedUpto (os:Os) (started:os.Started) (H:Type) (enc:TypeId × Value→H) (F:Stop.Interp) :
    ReturnsInHanded {} Try.checked os 4 .any ((Rows.OpenSpec.upto Rows.propOrderSpec).preRow enc Try.prog Try.f4 Rows.propOrderUptoRow.domain false Rows.propOrderUptoRow.laid) (((Rows.OpenSpec.upto Rows.propOrderSpec).at F).post enc Try.prog Try.f4 false true false false):=by
  obtain⟨places,hx⟩:=reads os enc
  refine returnsInHanded_of_row (C:=Try.checked) (s:=Rows.OpenSpec.upto Rows.propOrderSpec) own started (by kernel_rfl) Try.func4
    (witness_row_at (enc:=enc) (C:=Try.checked) false (laidWorld os) #[.slice none 0 0,.slice none 0 0,.int .i64 0] rfl (by kernel_rfl) (by kernel_rfl) (by kernel_rfl)
      (OpenSpec.preRow_of_cond 8 hx (by kernel_rfl) (fun k hk=>by cases hk; kernel_rfl) (by kernel_rfl) (laid_met os))) ?_
  intro W base args ds gs before hval hW _ hcond _ hL _ _
  exact contract H enc W base args ds gs before hval hW (hcond _ rfl) (tabs hL)
theorem saidUpto:Rows.PropOrderUptoSaid:=
  OpenClaim.holds_of_cond 4 Try.f4 rfl rfl rfl rfl rfl rfl rfl ⟨rfl,rfl,rfl,rfl,rfl⟩ rfl rfl rfl rfl rfl (by kernel_rfl) Try.func4 (by kernel_rfl)
    (of_decide_eq_true (by kernel_rfl)) (by unfold Func.isWrapper; first | (rw[if_pos (by decide +kernel)]; kernel_rfl) | (rw[if_neg (by decide +kernel)]; exact⟨rfl,rfl⟩))
    (fun os started H enc _ F=>by rw[OpenClaim.pre_eq_preRow]; exact liftedUpto os started H enc F)
end Go.Proofs.Ytegkglnbjbaibaa.propOrder

/- The law PyspecBetween is true for every input whose bulk is at most 1048576 values and letters; each argument reads behind the call as it read before. -/
import Derived.Test.YtdenfejaedgehaaGreatDoorCards
import Derived.Test.YtdenfejaedgehaaGreatDoorTie
import Derived.Test.YtdenfejaedgehaaGreatDoorQ0PyspecBetween
import Derived.Test.YtdenfejaedgehaaGreatDoorAx988e65f3
import Derived.WalkKit
import Derived.ProofKit
import Derived.LaidSub
import Derived.ChangeMaps5
import Derived.Test.YtdenfejaedgehaaGreatDoorQ1PyspecBetween
set_option linter.unusedVariables false
set_option linter.unusedSimpArgs false
set_option maxRecDepth 100000
set_option linter.unusedVariables false
set_option linter.unusedSimpArgs false
namespace Go.Proofs.YtdenfejaedgehaaGreatDoor.pyspecBetween
open Go.ChangeMaps Go.ChangeShapes Go.WideShapes Go.ChangeAt Go.RowKit Go.Vm
theorem own:ownKnob Tryz.prog.godebug=none:=by kernel_rfl
def AFm:Lit→Value
 | .bool b=>.bool b
 | .int k n=>.int k n
 | .float k b=>.float k b
 | .string l=>.string ⟨l.toArray⟩
 | .nil=>.pointer none
def AFA:DataW Unit→List Value
 | .lit l=>[AFm l]
 | _=>[]
def AFB:DataW Unit→List Value
 | .lit l=>[AFm l]
 | .agg ps=>ps.flatMap AFA
 | _=>[]
def ACj:DataW Unit→List Value
 | .agg ps=>ps.flatMap AFB
 | _=>[]
def AFl (l:List Value):Obj→Obj
 | .cells _ t frozen=>.cells l.toArray t frozen
 | o=>o
noncomputable def W0 (os:Os):World:=
 { World.holding Tryz.prog os ⟨#[],#[],[]⟩ with heap:=(((World.holding Tryz.prog os ⟨#[],#[],[]⟩).heap.modify 1 (AFl (ACj Rows.laid_unicode_utf8_first))).modify 2 (AFl (ACj Rows.laid_unicode_utf8_acceptRanges))) }
theorem ADD (os:Os):laidMet Tryz.prog Rows.pyspecBetweenUptoRow.laid ((W0 os).forCall (fun _ _=>0) ⟨#[],#[.string ⟨#[]⟩,.string ⟨#[]⟩],[]⟩).memory:=
 laidMet_of_run' 8 (by kernel_rfl) (by kernel_rfl)
theorem AFq (os:Os) {H:Type} (enc:TypeId × Value→H):∃ places,DataW.whole enc Tryz.prog ((W0 os).forCall (fun _ _=>0) ⟨#[],#[.string ⟨#[]⟩,.string ⟨#[]⟩],[]⟩).memory Tryz.f4.params.toList Rows.pyspecBetweenSpec.vars false (#[.string ⟨#[]⟩,.string ⟨#[]⟩]:Array Value).toList 8=some ([.lit (.string []),.lit (.string [])],[],places):=
 ⟨[],by kernel_rfl⟩
theorem ACa {H:Type}:∀ d:DataW H,1≤Rows.uptoBulk d:=fun d=>by cases d <;> (try rename_i l; cases l) <;> simp[Rows.uptoBulk]
theorem ACd (H:Type) (enc:TypeId × Value→H) (W:World) (base:Nat) (args:Array Value) (ds gs:List (DataW H)) (before:List MemPlace)
 (hval:∀ (j:Nat) t v,Tryz.f4.params[j]? = some t→args[j]? = some v→Value.okWide Tryz.prog W .any base t v)
 (hW:DataW.Whole enc Tryz.prog Tryz.f4.params.toList Rows.pyspecBetweenSpec.vars false W args.toList ds gs before) (hk:Rows.uptoSmall H (ds ++ gs)=true) (hG:∀ q,q∈glb→q.1 < W.heap.size∧∃ cs T fz,W.heap[q.1]? = some (.cells cs T fz)∧q.2 cs) :
 Calls Tryz.prog 4 args W fun e W'=>∃ v,e = .returned v∧Rows.pyspecBetweenSpec.post enc Tryz.prog Tryz.f4 false true false false W args v W':=by
 have hW':=hW
 obtain⟨p,q,hA0,hV,rfl,hfz,hnd⟩:=hW
 have hA:DataW.TrodAll enc Tryz.prog W 0 (fun _=>true) true Tryz.f4.params.toList args.toList ds p:=hA0
 rw[Tryz.params4] at hA hval
 have hA1:=hA
 obtain⟨v0,vs0,d0,ds0,p0,q0,hargs,rfl,rfl,h0,r0⟩:=trodAll_cons hA
 obtain⟨v1,vs1,d1,ds1,p1,q1,rfl,rfl,rfl,h1,r1⟩:=trodAll_cons r0
 obtain⟨rfl,rfl,rfl⟩:=trodAll_nil r1
 obtain rfl:args = #[v0,v1]:=by cases args; simp_all
 obtain⟨rfl,rfl⟩:=trodVars_none hV
 have B:Ox (Rows.uptoBulk (H:=H)) Rows.uptoBulkAll:=⟨rfl,fun _ _=>rfl,ACa,fun _=>rfl,fun _ _=>rfl,fun _=>rfl⟩
 obtain⟨a0,b0,r0',k0,m0,s0,z0⟩:=Rd.arg1 (Rd.str B Tryz.underlying9) (VZ Tryz.underlying9 (hval 0 9 v0 rfl rfl)) h0
 obtain⟨a1,b1,r1',k1,m1,s1,z1⟩:=Rd.arg1 (Rd.str B Tryz.underlying9) (VZ Tryz.underlying9 (hval 1 9 v1 rfl rfl)) h1
 have hbulk:=of_decide_eq_true hk
 simp only[List.append_nil,Rows.uptoBulkAll] at hbulk
 have hp:Dw a0 a1=some true:=UK a0 a1  (Nat.le_trans m0 (by omega)) (Nat.le_trans m1 (by omega))
 refine (ADE (O8 a0 a1) hp rfl rfl (vs':=[b0,b1]) ⟨s0,s1,trivial⟩ (Yd z0 (Yd z1 (AAQ _))) W hG (cargs:=#[v0,v1]) ⟨r0',r1',trivial⟩).mono fun e W' ⟨he,h1,h2,h3,h4,h5⟩=>?_
 have hb:Below W.heap.size W W':=⟨h1,h2,h3,h4,h5⟩
 subst he
 exact⟨_,rfl,AB3 (pv:=[]) hW' hb rfl (fun _ _ _=>trodAll_cons_mk (shut_bool Tryz.underlying4 _) trodAll_mk0) (fun sp hsp=>lN (by kernel_rfl) hb (ts:=[9,9]) (by decide +kernel) hA1 (fun x hx=>hW'.lt x (List.mem_append_left _ hx)) (fun x hx=>hsp x (List.mem_append_left _ hx))) (fun _ _=>rfl) (ok_one (by kernel_rfl) rfl (okWide_bool_mk Tryz.underlying4 _))⟩
theorem AFv {W:World} (hL:laidMetH Tryz.prog Rows.pyspecBetweenUptoRow.laid W):∀ q,q∈glb→q.1 < W.heap.size∧∃ cs T fz,W.heap[q.1]? = some (.cells cs T fz)∧q.2 cs:=fun _ h=>nomatch h
set_option maxRecDepth 100000 in
theorem zD (os:Os) (started:os.Started) (H:Type) (enc:TypeId × Value→H) (F:Stop.Interp) :
 ReturnsInHanded {} Tryz.checked os 4 .any ((Rows.OpenSpec.upto Rows.pyspecBetweenSpec).preRow enc Tryz.prog Tryz.f4 Rows.pyspecBetweenUptoRow.domain false Rows.pyspecBetweenUptoRow.laid) (((Rows.OpenSpec.upto Rows.pyspecBetweenSpec).at F).post enc Tryz.prog Tryz.f4 false true false false):=by
 obtain⟨places,hx⟩:=AFq os enc
 refine returnsInHanded_of_row (C:=Tryz.checked) (s:=Rows.OpenSpec.upto Rows.pyspecBetweenSpec) own started (by kernel_rfl) Tryz.func4
  (witness_row_at (enc:=enc) (C:=Tryz.checked) false (W0 os) #[.string ⟨#[]⟩,.string ⟨#[]⟩] rfl (by kernel_rfl) (by kernel_rfl) (by kernel_rfl)
   (OpenSpec.preRow_of_cond 8 hx (by kernel_rfl) (fun k hk=>by cases hk; kernel_rfl) (by kernel_rfl) (ADD os))) ?_
 intro W base args ds gs before hval hW _ hcond _ hL _ _
 exact ACd H enc W base args ds gs before hval hW (hcond _ rfl) (AFv hL)
theorem saidUpto:Rows.PyspecBetweenUptoSaid:=
 OpenClaim.holds_of_cond 4 Tryz.f4 rfl rfl rfl rfl rfl rfl rfl ⟨rfl,rfl,rfl,rfl,rfl⟩ rfl rfl rfl rfl rfl (by kernel_rfl) Tryz.func4 (by kernel_rfl)
  (of_decide_eq_true (by kernel_rfl)) (by unfold Func.isWrapper; first | (rw[if_pos (by decide +kernel)]; kernel_rfl) | (rw[if_neg (by decide +kernel)]; exact⟨rfl,rfl⟩))
  (fun os started H enc _ F=>by rw[OpenClaim.pre_eq_preRow]; exact zD os started H enc F)
theorem plain (f:FuncId) (fn:Func) (hf:Tryz.pinned.checked.prog.funcNamed "dovetail/dovetaillaw10.PyspecBetween" = some f) (hfn:Tryz.pinned.checked.prog.funcs[f]? = some fn) :
 false=Tryz.pinned.checked.prog.looks []∧∀ (j:Nat) t,fn.params[j]? = some t→Tryz.pinned.checked.prog.wantsStandIn t=false:=by
 obtain rfl:f=4:=Option.some.inj ((show Tryz.prog.funcNamed "dovetail/dovetaillaw10.PyspecBetween" = some 4 by kernel_rfl).symm.trans hf) |>.symm
 obtain rfl:fn=Tryz.f4:=(Option.some.inj (Tryz.func4.symm.trans hfn)).symm
 refine⟨by kernel_rfl,fun j t ht=>?_⟩
 have hall:(Tryz.f4.params.toList.all fun t=>!(Tryz.prog.wantsStandIn t))=true:=by kernel_rfl
 have:=List.all_eq_true.1 hall t (by have:=Array.mem_of_getElem? ht; simpa using this)
 have h2:Tryz.prog.wantsStandIn t=false:=by simpa using this
 exact h2
theorem cardUpto:Rows.PyspecBetweenUptoCardSaid:=
 Claim7.holds_tied_plain_at .later [] _ _ _ _ saidUpto (fun _ h=>by cases h) (by kernel_rfl) (fun _ h=>by cases h) pyspecBetweenUpto_row_tie rfl ⟨rfl,rfl⟩ (by kernel_rfl) rfl plain (by kernel_rfl)
end Go.Proofs.YtdenfejaedgehaaGreatDoor.pyspecBetween

/- The law PyspecBack is true for every input whose bulk is at most 1048576 values and letters; each argument reads behind the call as it read before. -/
import Derived.Test.YtdenfejaedgehaaGreatDoorCards
import Derived.Test.YtdenfejaedgehaaGreatDoorTie
import Derived.Test.YtdenfejaedgehaaGreatDoorQ0PyspecBack
import Derived.Test.YtdenfejaedgehaaGreatDoorAxbf2df616
import Derived.WalkKit
import Derived.ProofKit
import Derived.LaidSub
import Derived.ChangeMaps5
set_option linter.unusedVariables false
set_option linter.unusedSimpArgs false
set_option maxRecDepth 100000
set_option linter.unusedVariables false
set_option linter.unusedSimpArgs false
namespace Go.Proofs.YtdenfejaedgehaaGreatDoor.pyspecBack
open Go.ChangeMaps Go.ChangeShapes Go.WideShapes Go.ChangeAt Go.RowKit Go.Vm
theorem own:ownKnob Tryz.prog.godebug=none:=by kernel_rfl
def yU:Lit→Value
 | .bool b=>.bool b
 | .int k n=>.int k n
 | .float k b=>.float k b
 | .string l=>.string ⟨l.toArray⟩
 | .nil=>.pointer none
def xL:DataW Unit→List Value
 | .lit l=>[yU l]
 | _=>[]
def xM:DataW Unit→List Value
 | .lit l=>[yU l]
 | .agg ps=>ps.flatMap xL
 | _=>[]
def sQ:DataW Unit→List Value
 | .agg ps=>ps.flatMap xM
 | _=>[]
def y0 (l:List Value):Obj→Obj
 | .cells _ t frozen=>.cells l.toArray t frozen
 | o=>o
noncomputable def T3 (os:Os):World:=
 { World.holding Tryz.prog os ⟨#[],#[],[]⟩ with heap:=(((World.holding Tryz.prog os ⟨#[],#[],[]⟩).heap.modify 1 (y0 (sQ Rows.laid_unicode_utf8_first))).modify 2 (y0 (sQ Rows.laid_unicode_utf8_acceptRanges))) }
theorem uK (os:Os):laidMet Tryz.prog Rows.pyspecBackUptoRow.laid ((T3 os).forCall (fun _ _=>0) ⟨#[],#[.string ⟨#[]⟩],[]⟩).memory:=
 laidMet_of_run' 8 (by kernel_rfl) (by kernel_rfl)
theorem yQ (os:Os) {H:Type} (enc:TypeId × Value→H):∃ places,DataW.whole enc Tryz.prog ((T3 os).forCall (fun _ _=>0) ⟨#[],#[.string ⟨#[]⟩],[]⟩).memory Tryz.f3.params.toList Rows.pyspecBackSpec.vars false (#[.string ⟨#[]⟩]:Array Value).toList 8=some ([.lit (.string [])],[],places):=
 ⟨[],by kernel_rfl⟩
theorem uW {H:Type}:∀ d:DataW H,1≤Rows.uptoBulk d:=fun d=>by cases d <;> (try rename_i l; cases l) <;> simp[Rows.uptoBulk]
theorem sH (H:Type) (enc:TypeId × Value→H) (W:World) (base:Nat) (args:Array Value) (ds gs:List (DataW H)) (before:List MemPlace)
 (hval:∀ (j:Nat) t v,Tryz.f3.params[j]? = some t→args[j]? = some v→Value.okWide Tryz.prog W .any base t v)
 (hW:DataW.Whole enc Tryz.prog Tryz.f3.params.toList Rows.pyspecBackSpec.vars false W args.toList ds gs before) (hk:Rows.uptoSmall H (ds ++ gs)=true) (hG:∀ q,q∈glb→q.1 < W.heap.size∧∃ cs T fz,W.heap[q.1]? = some (.cells cs T fz)∧q.2 cs) :
 Calls Tryz.prog 3 args W fun e W'=>∃ v,e = .returned v∧Rows.pyspecBackSpec.post enc Tryz.prog Tryz.f3 false true false false W args v W':=by
 have hW':=hW
 obtain⟨p,q,hA0,hV,rfl,hfz,hnd⟩:=hW
 have hA:DataW.TrodAll enc Tryz.prog W 0 (fun _=>true) true Tryz.f3.params.toList args.toList ds p:=hA0
 rw[Tryz.params3] at hA hval
 have hA1:=hA
 obtain⟨v0,vs0,d0,ds0,p0,q0,hargs,rfl,rfl,h0,r0⟩:=trodAll_cons hA
 obtain⟨rfl,rfl,rfl⟩:=trodAll_nil r0
 obtain rfl:args = #[v0]:=by cases args; simp_all
 obtain⟨rfl,rfl⟩:=trodVars_none hV
 have B:Nd (Rows.uptoBulk (H:=H)) Rows.uptoBulkAll:=⟨rfl,fun _ _=>rfl,uW,fun _=>rfl,fun _ _=>rfl,fun _=>rfl⟩
 obtain⟨a0,b0,r0',k0,m0,s0,z0⟩:=Rd.arg1 (Rd.str B Tryz.underlying9) (fA Tryz.underlying9 (hval 0 9 v0 rfl rfl)) h0
 have hbulk:=of_decide_eq_true hk
 simp only[List.append_nil,Rows.uptoBulkAll] at hbulk
 have hp:Dh a0=some true:=WR a0  (Nat.le_trans m0 (by omega))
 refine (uR (Qe a0) hp rfl rfl (vs':=[b0]) ⟨s0,trivial⟩ (iK z0 (lZ _)) W hG (cargs:=#[v0]) ⟨r0',trivial⟩).mono fun e W' ⟨he,h1,h2,h3,h4,h5⟩=>?_
 have hb:Below W.heap.size W W':=⟨h1,h2,h3,h4,h5⟩
 subst he
 exact⟨_,rfl,pL (pv:=[]) hW' hb rfl (fun _ _ _=>trodAll_cons_mk (shut_bool Tryz.underlying4 _) trodAll_mk0) (fun sp hsp=>aK (by kernel_rfl) hb (ts:=[9]) (by decide +kernel) hA1 (fun x hx=>hW'.lt x (List.mem_append_left _ hx)) (fun x hx=>hsp x (List.mem_append_left _ hx))) (fun _ _=>rfl) (ok_one (by kernel_rfl) rfl (okWide_bool_mk Tryz.underlying4 _))⟩
theorem zA {W:World} (hL:laidMetH Tryz.prog Rows.pyspecBackUptoRow.laid W):∀ q,q∈glb→q.1 < W.heap.size∧∃ cs T fz,W.heap[q.1]? = some (.cells cs T fz)∧q.2 cs:=fun _ h=>nomatch h
set_option maxRecDepth 100000 in
theorem nH (os:Os) (started:os.Started) (H:Type) (enc:TypeId × Value→H) (F:Stop.Interp) :
 ReturnsInHanded {} Tryz.checked os 3 .any ((Rows.OpenSpec.upto Rows.pyspecBackSpec).preRow enc Tryz.prog Tryz.f3 Rows.pyspecBackUptoRow.domain false Rows.pyspecBackUptoRow.laid) (((Rows.OpenSpec.upto Rows.pyspecBackSpec).at F).post enc Tryz.prog Tryz.f3 false true false false):=by
 obtain⟨places,hx⟩:=yQ os enc
 refine returnsInHanded_of_row (C:=Tryz.checked) (s:=Rows.OpenSpec.upto Rows.pyspecBackSpec) own started (by kernel_rfl) Tryz.func3
  (witness_row_at (enc:=enc) (C:=Tryz.checked) false (T3 os) #[.string ⟨#[]⟩] rfl (by kernel_rfl) (by kernel_rfl) (by kernel_rfl)
   (OpenSpec.preRow_of_cond 8 hx (by kernel_rfl) (fun k hk=>by cases hk; kernel_rfl) (by kernel_rfl) (uK os))) ?_
 intro W base args ds gs before hval hW _ hcond _ hL _ _
 exact sH H enc W base args ds gs before hval hW (hcond _ rfl) (zA hL)
theorem saidUpto:Rows.PyspecBackUptoSaid:=
 OpenClaim.holds_of_cond 3 Tryz.f3 rfl rfl rfl rfl rfl rfl rfl ⟨rfl,rfl,rfl,rfl,rfl⟩ rfl rfl rfl rfl rfl (by kernel_rfl) Tryz.func3 (by kernel_rfl)
  (of_decide_eq_true (by kernel_rfl)) (by unfold Func.isWrapper; first | (rw[if_pos (by decide +kernel)]; kernel_rfl) | (rw[if_neg (by decide +kernel)]; exact⟨rfl,rfl⟩))
  (fun os started H enc _ F=>by rw[OpenClaim.pre_eq_preRow]; exact nH os started H enc F)
theorem plain (f:FuncId) (fn:Func) (hf:Tryz.pinned.checked.prog.funcNamed "dovetail/dovetaillaw10.PyspecBack" = some f) (hfn:Tryz.pinned.checked.prog.funcs[f]? = some fn) :
 false=Tryz.pinned.checked.prog.looks []∧∀ (j:Nat) t,fn.params[j]? = some t→Tryz.pinned.checked.prog.wantsStandIn t=false:=by
 obtain rfl:f=3:=Option.some.inj ((show Tryz.prog.funcNamed "dovetail/dovetaillaw10.PyspecBack" = some 3 by kernel_rfl).symm.trans hf) |>.symm
 obtain rfl:fn=Tryz.f3:=(Option.some.inj (Tryz.func3.symm.trans hfn)).symm
 refine⟨by kernel_rfl,fun j t ht=>?_⟩
 have hall:(Tryz.f3.params.toList.all fun t=>!(Tryz.prog.wantsStandIn t))=true:=by kernel_rfl
 have:=List.all_eq_true.1 hall t (by have:=Array.mem_of_getElem? ht; simpa using this)
 have h2:Tryz.prog.wantsStandIn t=false:=by simpa using this
 exact h2
theorem cardUpto:Rows.PyspecBackUptoCardSaid:=
 Claim7.holds_tied_plain_at .later [] _ _ _ _ saidUpto (fun _ h=>by cases h) (by kernel_rfl) (fun _ h=>by cases h) pyspecBackUpto_row_tie rfl ⟨rfl,rfl⟩ (by kernel_rfl) rfl plain (by kernel_rfl)
end Go.Proofs.YtdenfejaedgehaaGreatDoor.pyspecBack

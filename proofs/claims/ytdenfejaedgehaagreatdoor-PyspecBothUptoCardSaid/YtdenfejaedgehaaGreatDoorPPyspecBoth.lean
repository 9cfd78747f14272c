/- The law PyspecBoth is true for every input whose bulk is at most 1048576 values and letters; each argument reads behind the call as it read before. -/
import Derived.Test.YtdenfejaedgehaaGreatDoorCards
import Derived.Test.YtdenfejaedgehaaGreatDoorTie
import Derived.Test.YtdenfejaedgehaaGreatDoorQ0PyspecBoth
import Derived.Test.YtdenfejaedgehaaGreatDoorAx2f3fd4ec
import Derived.WalkKit
import Derived.ProofKit
import Derived.LaidSub
import Derived.ChangeMaps5
import Derived.Test.YtdenfejaedgehaaGreatDoorQ1PyspecBoth
set_option linter.unusedVariables false
set_option linter.unusedSimpArgs false
set_option maxRecDepth 100000
set_option linter.unusedVariables false
set_option linter.unusedSimpArgs false
namespace Go.Proofs.YtdenfejaedgehaaGreatDoor.pyspecBoth
open Go.ChangeMaps Go.ChangeShapes Go.WideShapes Go.ChangeAt Go.RowKit Go.Vm
theorem own:ownKnob Tryz.prog.godebug=none:=by kernel_rfl
def AFk:Lit→Value
 | .bool b=>.bool b
 | .int k n=>.int k n
 | .float k b=>.float k b
 | .string l=>.string ⟨l.toArray⟩
 | .nil=>.pointer none
def AE6:DataW Unit→List Value
 | .lit l=>[AFk l]
 | _=>[]
def AE7:DataW Unit→List Value
 | .lit l=>[AFk l]
 | .agg ps=>ps.flatMap AE6
 | _=>[]
def ACq:DataW Unit→List Value
 | .agg ps=>ps.flatMap AE7
 | _=>[]
def AFj (l:List Value):Obj→Obj
 | .cells _ t frozen=>.cells l.toArray t frozen
 | o=>o
noncomputable def XA (os:Os):World:=
 { World.holding Tryz.prog os ⟨#[],#[],[]⟩ with heap:=(((World.holding Tryz.prog os ⟨#[],#[],[]⟩).heap.modify 1 (AFj (ACq Rows.laid_unicode_utf8_first))).modify 2 (AFj (ACq Rows.laid_unicode_utf8_acceptRanges))) }
theorem ADL (os:Os):laidMet Tryz.prog Rows.pyspecBothUptoRow.laid ((XA os).forCall (fun _ _=>0) ⟨#[],#[.string ⟨#[]⟩,.string ⟨#[]⟩,.string ⟨#[]⟩,.string ⟨#[]⟩],[]⟩).memory:=
 laidMet_of_run' 8 (by kernel_rfl) (by kernel_rfl)
theorem AFo (os:Os) {H:Type} (enc:TypeId × Value→H):∃ places,DataW.whole enc Tryz.prog ((XA os).forCall (fun _ _=>0) ⟨#[],#[.string ⟨#[]⟩,.string ⟨#[]⟩,.string ⟨#[]⟩,.string ⟨#[]⟩],[]⟩).memory Tryz.f5.params.toList Rows.pyspecBothSpec.vars false (#[.string ⟨#[]⟩,.string ⟨#[]⟩,.string ⟨#[]⟩,.string ⟨#[]⟩]:Array Value).toList 8=some ([.lit (.string []),.lit (.string []),.lit (.string []),.lit (.string [])],[],places):=
 ⟨[],by kernel_rfl⟩
theorem ACi {H:Type}:∀ d:DataW H,1≤Rows.uptoBulk d:=fun d=>by cases d <;> (try rename_i l; cases l) <;> simp[Rows.uptoBulk]
theorem ACk (H:Type) (enc:TypeId × Value→H) (W:World) (base:Nat) (args:Array Value) (ds gs:List (DataW H)) (before:List MemPlace)
 (hval:∀ (j:Nat) t v,Tryz.f5.params[j]? = some t→args[j]? = some v→Value.okWide Tryz.prog W .any base t v)
 (hW:DataW.Whole enc Tryz.prog Tryz.f5.params.toList Rows.pyspecBothSpec.vars false W args.toList ds gs before) (hk:Rows.uptoSmall H (ds ++ gs)=true) (hG:∀ q,q∈glb→q.1 < W.heap.size∧∃ cs T fz,W.heap[q.1]? = some (.cells cs T fz)∧q.2 cs) :
 Calls Tryz.prog 5 args W fun e W'=>∃ v,e = .returned v∧Rows.pyspecBothSpec.post enc Tryz.prog Tryz.f5 false true false false W args v W':=by
 have hW':=hW
 obtain⟨p,q,hA0,hV,rfl,hfz,hnd⟩:=hW
 have hA:DataW.TrodAll enc Tryz.prog W 0 (fun _=>true) true Tryz.f5.params.toList args.toList ds p:=hA0
 rw[Tryz.params5] at hA hval
 have hA1:=hA
 obtain⟨v0,vs0,d0,ds0,p0,q0,hargs,rfl,rfl,h0,r0⟩:=trodAll_cons hA
 obtain⟨v1,vs1,d1,ds1,p1,q1,rfl,rfl,rfl,h1,r1⟩:=trodAll_cons r0
 obtain⟨v2,vs2,d2,ds2,p2,q2,rfl,rfl,rfl,h2,r2⟩:=trodAll_cons r1
 obtain⟨v3,vs3,d3,ds3,p3,q3,rfl,rfl,rfl,h3,r3⟩:=trodAll_cons r2
 obtain⟨rfl,rfl,rfl⟩:=trodAll_nil r3
 obtain rfl:args = #[v0,v1,v2,v3]:=by cases args; simp_all
 obtain⟨rfl,rfl⟩:=trodVars_none hV
 have B:Ox (Rows.uptoBulk (H:=H)) Rows.uptoBulkAll:=⟨rfl,fun _ _=>rfl,ACi,fun _=>rfl,fun _ _=>rfl,fun _=>rfl⟩
 obtain⟨a0,b0,r0',k0,m0,s0,z0⟩:=Rd.arg1 (Rd.str B Tryz.underlying9) (LK Tryz.underlying9 (hval 0 9 v0 rfl rfl)) h0
 obtain⟨a1,b1,r1',k1,m1,s1,z1⟩:=Rd.arg1 (Rd.str B Tryz.underlying9) (LK Tryz.underlying9 (hval 1 9 v1 rfl rfl)) h1
 obtain⟨a2,b2,r2',k2,m2,s2,z2⟩:=Rd.arg1 (Rd.str B Tryz.underlying9) (LK Tryz.underlying9 (hval 2 9 v2 rfl rfl)) h2
 obtain⟨a3,b3,r3',k3,m3,s3,z3⟩:=Rd.arg1 (Rd.str B Tryz.underlying9) (LK Tryz.underlying9 (hval 3 9 v3 rfl rfl)) h3
 have hbulk:=of_decide_eq_true hk
 simp only[List.append_nil,Rows.uptoBulkAll] at hbulk
 have hp:Es a0 a1 a2 a3=some true:=Yq a0 a1 a2 a3  (Nat.le_trans m0 (by omega)) (Nat.le_trans m1 (by omega)) (Nat.le_trans m2 (by omega)) (Nat.le_trans m3 (by omega))
 refine (ADM (TV a0 a1 a2 a3) hp rfl rfl (vs':=[b0,b1,b2,b3]) ⟨s0,s1,s2,s3,trivial⟩ (M1 z0 (M1 z1 (M1 z2 (M1 z3 (AAa _))))) W hG (cargs:=#[v0,v1,v2,v3]) ⟨r0',r1',r2',r3',trivial⟩).mono fun e W' ⟨he,h1,h2,h3,h4,h5⟩=>?_
 have hb:Below W.heap.size W W':=⟨h1,h2,h3,h4,h5⟩
 subst he
 exact⟨_,rfl,ACB (pv:=[]) hW' hb rfl (fun _ _ _=>trodAll_cons_mk (shut_bool Tryz.underlying4 _) trodAll_mk0) (fun sp hsp=>lZ (by kernel_rfl) hb (ts:=[9,9,9,9]) (by decide +kernel) hA1 (fun x hx=>hW'.lt x (List.mem_append_left _ hx)) (fun x hx=>hsp x (List.mem_append_left _ hx))) (fun _ _=>rfl) (ok_one (by kernel_rfl) rfl (okWide_bool_mk Tryz.underlying4 _))⟩
theorem AFs {W:World} (hL:laidMetH Tryz.prog Rows.pyspecBothUptoRow.laid W):∀ q,q∈glb→q.1 < W.heap.size∧∃ cs T fz,W.heap[q.1]? = some (.cells cs T fz)∧q.2 cs:=fun _ h=>nomatch h
set_option maxRecDepth 100000 in
theorem zQ (os:Os) (started:os.Started) (H:Type) (enc:TypeId × Value→H) (F:Stop.Interp) :
 ReturnsInHanded {} Tryz.checked os 5 .any ((Rows.OpenSpec.upto Rows.pyspecBothSpec).preRow enc Tryz.prog Tryz.f5 Rows.pyspecBothUptoRow.domain false Rows.pyspecBothUptoRow.laid) (((Rows.OpenSpec.upto Rows.pyspecBothSpec).at F).post enc Tryz.prog Tryz.f5 false true false false):=by
 obtain⟨places,hx⟩:=AFo os enc
 refine returnsInHanded_of_row (C:=Tryz.checked) (s:=Rows.OpenSpec.upto Rows.pyspecBothSpec) own started (by kernel_rfl) Tryz.func5
  (witness_row_at (enc:=enc) (C:=Tryz.checked) false (XA os) #[.string ⟨#[]⟩,.string ⟨#[]⟩,.string ⟨#[]⟩,.string ⟨#[]⟩] rfl (by kernel_rfl) (by kernel_rfl) (by kernel_rfl)
   (OpenSpec.preRow_of_cond 8 hx (by kernel_rfl) (fun k hk=>by cases hk; kernel_rfl) (by kernel_rfl) (ADL os))) ?_
 intro W base args ds gs before hval hW _ hcond _ hL _ _
 exact ACk H enc W base args ds gs before hval hW (hcond _ rfl) (AFs hL)
theorem saidUpto:Rows.PyspecBothUptoSaid:=
 OpenClaim.holds_of_cond 5 Tryz.f5 rfl rfl rfl rfl rfl rfl rfl ⟨rfl,rfl,rfl,rfl,rfl⟩ rfl rfl rfl rfl rfl (by kernel_rfl) Tryz.func5 (by kernel_rfl)
  (of_decide_eq_true (by kernel_rfl)) (by unfold Func.isWrapper; first | (rw[if_pos (by decide +kernel)]; kernel_rfl) | (rw[if_neg (by decide +kernel)]; exact⟨rfl,rfl⟩))
  (fun os started H enc _ F=>by rw[OpenClaim.pre_eq_preRow]; exact zQ os started H enc F)
theorem plain (f:FuncId) (fn:Func) (hf:Tryz.pinned.checked.prog.funcNamed "dovetail/dovetaillaw10.PyspecBoth" = some f) (hfn:Tryz.pinned.checked.prog.funcs[f]? = some fn) :
 false=Tryz.pinned.checked.prog.looks []∧∀ (j:Nat) t,fn.params[j]? = some t→Tryz.pinned.checked.prog.wantsStandIn t=false:=by
 obtain rfl:f=5:=Option.some.inj ((show Tryz.prog.funcNamed "dovetail/dovetaillaw10.PyspecBoth" = some 5 by kernel_rfl).symm.trans hf) |>.symm
 obtain rfl:fn=Tryz.f5:=(Option.some.inj (Tryz.func5.symm.trans hfn)).symm
 refine⟨by kernel_rfl,fun j t ht=>?_⟩
 have hall:(Tryz.f5.params.toList.all fun t=>!(Tryz.prog.wantsStandIn t))=true:=by kernel_rfl
 have:=List.all_eq_true.1 hall t (by have:=Array.mem_of_getElem? ht; simpa using this)
 have h2:Tryz.prog.wantsStandIn t=false:=by simpa using this
 exact h2
theorem cardUpto:Rows.PyspecBothUptoCardSaid:=
 Claim7.holds_tied_plain_at .later [] _ _ _ _ saidUpto (fun _ h=>by cases h) (by kernel_rfl) (fun _ h=>by cases h) pyspecBothUpto_row_tie rfl ⟨rfl,rfl⟩ (by kernel_rfl) rfl plain (by kernel_rfl)
end Go.Proofs.YtdenfejaedgehaaGreatDoor.pyspecBoth

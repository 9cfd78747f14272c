/- The law RupChecks, a part of its proof: what the functions that it reaches compute. -/
import Derived.Test.YteaakndjbedilaaGreatDoorFx2dd28047
import Derived.Lib.Join
import Derived.Lib.SlTrimSet
import Derived.Lib.IndexAny
import Derived.Below
import Derived.Shelf.Small.Strs
import Derived.Sort.Row
import Derived.Sort.Grow
import Derived.Lib.SlicesCompact
import Derived.WalkSmall
import Derived.Shelf.Strconv.AppendUint10
import Derived.Shelf.Strconv.ErrVarAll
import Derived.Shelf.SlSortCmp.NoneTotal
import Derived.Shelf.Strings.Builder1
import Derived.Lib.FrozenHead
import Derived.Maps.RangeWalk
import Derived.Sort.OwnSortedInts
set_option linter.unusedVariables false
set_option linter.unusedSimpArgs false
/- Functions that are taken for known: from what the shelf says of them. -/
set_option linter.unusedVariables false
set_option linter.unusedSimpArgs false
namespace Go.Vm
open Go Go.RowKit
theorem post_below {K:Cx} {base:Nat} {h:AHeap} (H:HRel K base h) {v:AV} {cv:Value} {w':World} (hb:Below K.w.heap.size K.w w') (hv:∀ K',VRel K' v cv):CallPost K base h K.c v (.returned cv) w':=by
  let K':Cx:={ K with w:=w' }
  have S:K.Step K':=⟨Nat.le_refl _,fun _ _=>rfl,hb.os,hb.tape,hb.output,hb.size,fun b h1 h2=>⟨hb.block b h1,h2⟩,rfl,fun l ⟨R,hR⟩=>⟨R,(hb.block l (by
    rcases Nat.lt_or_ge l K.w.heap.size with hlt | hge
    · exact hlt
    · rw[Array.getElem?_eq_none hge] at hR; cases hR)).trans hR⟩⟩
  exact⟨K',cv,rfl,rfl,S,H.step S (fun b hL=>hb.block b (H.bs b hL).2) rfl,rfl,hv K'⟩
theorem prim_ss {P:Program} {g:FuncId} {p:List AV→Option AV} (hf:∀ args v,p args=some v→∃ a b r,args=[.s (.string a),.s (.string b)]∧v = .s r∧∀ w,Calls P g #[.string a,.string b] w fun e w'=>e = .returned r∧Below w.heap.size w w') :
    ∀ args v,p args=some v→∀ (K:Cx) (base:Nat) (h:AHeap) (cargs:Array Value),HRel K base h→VRels K args cargs.toList→∀ N,CallsIn Fence.wide N P g cargs K.w (CallPost K base h K.c v):=fun args v hp K base h cargs H hr N=>by
  obtain⟨a,b,r,rfl,rfl,hc⟩:=hf args v hp
  obtain⟨cl,rfl⟩:∃ l:List Value,cargs=l.toArray:=⟨cargs.toList,by simp⟩
  match cl,hr with
  | [x,y],hr=>
    simp only[VRels,VRel] at hr
    obtain⟨rfl,rfl,_⟩:=hr
    refine callsIn_wide.2 ((hc K.w).mono ?_)
    rintro e w' ⟨rfl,hb⟩
    exact post_below H hb fun K'=>by simp[VRel]
  | [],hr=>simp[VRels] at hr
  | [_],hr=>simp[VRels] at hr
  | _ :: _ :: _ :: _,hr=>simp[VRels] at hr
theorem prim_si {P:Program} {g:FuncId} {p:List AV→Option AV} (hf:∀ args v,p args=some v→∃ a k c r,args=[.s (.string a),.s (.int k c)]∧v = .s r∧∀ w,Calls P g #[.string a,.int k c] w fun e w'=>e = .returned r∧Below w.heap.size w w') :
    ∀ args v,p args=some v→∀ (K:Cx) (base:Nat) (h:AHeap) (cargs:Array Value),HRel K base h→VRels K args cargs.toList→∀ N,CallsIn Fence.wide N P g cargs K.w (CallPost K base h K.c v):=fun args v hp K base h cargs H hr N=>by
  obtain⟨a,k,c,r,rfl,rfl,hc⟩:=hf args v hp
  obtain⟨cl,rfl⟩:∃ l:List Value,cargs=l.toArray:=⟨cargs.toList,by simp⟩
  match cl,hr with
  | [x,y],hr=>
    simp only[VRels,VRel] at hr
    obtain⟨rfl,rfl,_⟩:=hr
    refine callsIn_wide.2 ((hc K.w).mono ?_)
    rintro e w' ⟨rfl,hb⟩
    exact post_below H hb fun K'=>by simp[VRel]
  | [],hr=>simp[VRels] at hr
  | [_],hr=>simp[VRels] at hr
  | _ :: _ :: _ :: _,hr=>simp[VRels] at hr
end Go.Vm
/- Numbers as texts: a known function that reads a table. -/
namespace Go.Vm
open Go Go.RowKit
theorem below_grow (w:World) (q:Nat) (os:Array Obj):Below w.heap.size w (Sort.grow (w.drewN q) os):=
  ⟨rfl,rfl,rfl,by simp[Sort.grow],fun i hi=>by
    show ((w.drewN q).heap ++ os)[i]? = _
    rw[Array.getElem?_append_left (by show i < w.heap.size; omega)]
    rfl⟩
theorem prim_itoa {P:Program} {g:FuncId} {b:Nat} (hn:P.globalNamed "internal/strconv.uint64pow10" = some b) (hb:(b,fun cs=>cs=(Lib.pow10Tab.map fun z=>Value.int .u64 z).toArray)∈glb)
    (hc:∀ n:Int, -9223372036854775808≤n→n≤9223372036854775807→∀ w:World,Lib.TabIs P w "internal/strconv.uint64pow10" .u64 Lib.pow10Tab→Calls P g #[.int .i64 n] w fun e w'=>e = .returned (.string ⟨(Lib.itoa n).toArray⟩)∧∃ k os,w' = Sort.grow (w.drewN k) os) :
    ∀ args v,itoaP args=some v→∀ (K:Cx) (base:Nat) (h:AHeap) (cargs:Array Value),HRel K base h→VRels K args cargs.toList→∀ N,CallsIn Fence.wide N P g cargs K.w (CallPost K base h K.c v):=fun args v hp K base h cargs H hr N=>by
  unfold itoaP at hp
  split at hp
  · rename_i n
    split at hp
    · rename_i hw
      cases hp
      obtain⟨cl,rfl⟩:∃ l:List Value,cargs=l.toArray:=⟨cargs.toList,by simp⟩
      match cl,hr with
      | [x],hr=>
        simp only[VRels,VRel] at hr
        obtain⟨rfl,_⟩:=hr
        refine callsIn_wide.2 ((hc n hw.1 hw.2 K.w ?_).mono ?_)
        · obtain⟨_,cs,T,fz,h2,h3⟩:=H.gl _ hb
          have h3:cs=_:=h3
          subst h3
          unfold Lib.TabIs World.var?
          rw[hn]
          show (match K.w.heap[b]? with | some (.cells cs _ _)=>some cs | _=>none)=_
          rw[h2]
        · rintro e w' ⟨rfl,k,os,rfl⟩
          exact post_below H (below_grow _ _ _) fun K'=>by simp[VRel]
      | [],hr=>simp[VRels] at hr
      | _ :: _ :: _,hr=>simp[VRels] at hr
    · cases hp
  · cases hp
end Go.Vm
/- Digits laid behind a row of bytes: a known function that changes memory. -/
namespace Go.Vm
open Go Go.RowKit
theorem append_run {P:Program} {K:Cx} {base:Nat} {h:AHeap} (H:HRel K base h) {e tx ty:TypeId} {d:TypeDesc} (rty:TypeId) (hu:P.underlying tx=some (.slice e)) (hd:P.underlying ty=some d) (hk:∀ k,d ≠ .int k) {u r V:AV} {us:Ups} {sv src:Value}
    (hx:VRel K u sv) (hy:VRel K V src) (hr:appendOf P h K.c e u V=some (r,us)) :
    ∃ K' v',(Builtin.append_ #[tx,ty] rty #[sv,src]).run P K.w = .ok v' K'.w∧K.Step K'∧HRel K' base (h.upd us)∧K'.c=K.c + 1∧VRel K' r v':=by
  let a:Act:={ tmps:=#[sv,src],defers:=[] }
  let o:Oper:={ dst:=none,op:=.call { callee:=.builtin .append,args:=#[.tmp 0,.tmp 1],argTypes:=#[tx,ty] },type:=rty,pos:= "",after:=#[],guard:=none }
  have ht:VRels K [u,V] a.tmps.toList:=⟨hx,hy,trivial⟩
  obtain⟨K',x,g1,g2,g3,g4,g5⟩:=good_append (P:=P) (K:=K) (a:=a) (t:=[u,V]) (o:=o) (x:=.tmp 0) (y:=.tmp 1) H ht rfl rfl rfl rfl hy hu hd hk hr
  have e:(execOp a.eval o).run P K.w=((Builtin.append_ #[tx,ty] rty #[sv,src]).run P K.w).andThen fun v w'=>.ok (.value v) w':=by
    simp only[execOp,o,resolve,invoke,builtin,Sem.run_bind,Sem.run_pure,Result.andThen_ok,List.map_toArray,List.map_cons,List.map_nil]
    rfl
  cases hq:(Builtin.append_ #[tx,ty] rty #[sv,src]).run P K.w with
  | ok v w=>
    rw[hq] at e
    simp only[Result.andThen_ok] at e
    rcases g1 with g1 | ⟨g1,_⟩
    · rw[e] at g1
      cases g1
      exact⟨K',_,rfl,g2,g3,g4,g5⟩
    · rw[e] at g1
      cases g1
  | halt q w=>
    rw[hq] at e
    simp only[Result.andThen_halt] at e
    rcases g1 with g1 | ⟨g1,_⟩ <;> rw[e] at g1 <;> cases g1
theorem wpList_append_run {P:Program} {ops:Array Oper} {rest:List Oper} {o:Oper} {a:Act} {w:World} {Q:Exit→Act→World→Prop} (hgd:o.guard=none) (sl x:Operand) (t u:TypeId)
    (ho:o.op = .call { callee:=.builtin .append,args:=#[sl,x],argTypes:=#[t,u] }) (v xv:Value) (hs:a.eval sl=v) (hx:a.eval x=xv) {R:Value→World→Prop} (hr:∀ rty,∃ v' w',(Builtin.append_ #[t,u] rty #[v,xv]).run P w = .ok v' w'∧R v' w')
    (h:∀ v' w',R v' w'→wpList P ops Q rest (a.put o.dst v') w'):wpList P ops Q (o :: rest) a w:=by
  refine wpList_plain hgd fun K hK=>?_
  obtain⟨v',w',hr,hR⟩:=hr o.type
  unfold Oper.wp execOp
  simp only[ho,resolve,invoke,builtin,Sem.run_bind,Sem.run_pure,Result.andThen_ok,List.map_toArray,List.map_cons,List.map_nil,hs,hx,hr]
  exact hK _ _ (h v' w' hR)
end Go.Vm
namespace Go.Proofs
open Go Go.Shelf Go.RowKit Go.Sort Go.Lib Go.Vm
variable {P:Program} {ρ:Ren}
set_option maxHeartbeats 6400000 in
set_option maxRecDepth 100000 in
theorem AnyV.AppendUint_small (L:LaysM.n288 P ρ) (u:Nat) (hu:u < 100) (sv:Value) (w:World) (R:Value→World→Prop)
    (hstr:∀ rty,∃ v' w',(Builtin.append_ #[ρ.t 37,ρ.t 9] rty #[sv,.string ⟨(Lib.decDigits u).toArray⟩]).run P w = .ok v' w'∧R v' w') :
    Calls P (ρ.f 288) #[sv,.int .u64 u,.int .i64 10] w fun e w'=>∃ v',e = .returned v'∧R v' w':=by
  have mixed:=L.mixed
  have t5:=L.t5; have a5:=L.a5; have z5:=L.z5; have v5:=L.v5
  have t37:=L.t37; have u37:=run_underlying L.t37; have a37:=L.a37; have z37:=L.z37; have v37:=L.v37
  have t53:=L.t53; have a53:=L.a53; have z53:=L.z53; have v53:=L.v53
  have t3:=L.t3; have a3:=L.a3; have z3:=L.z3; have v3:=L.v3
  have t4:=L.t4; have a4:=L.a4; have z4:=L.z4; have v4:=L.v4
  have t9:=L.t9; have a9:=L.a9; have z9:=L.z9; have v9:=L.v9
  have t171:=L.t171; have a171:=L.a171; have z171:=L.z171; have v171:=L.v171
  have t0:=L.t0; have a0:=L.a0; have z0:=L.z0; have v0:=L.v0
  have t173:=L.t173; have a173:=L.a173; have z173:=L.z173; have v173:=L.v173
  have e283:∀ args w,(callFunc (ρ.f 283) args).run P w = .ok (.enter (ρ.f 283) args) w:=enters_of L.f283 (by kernel_rfl) rfl
  go_enter L.f288,Body.n288_ntmps ρ
  go_wp2_with (first
    | (go_at_fn (ρ.f 283); refine (Any.internal_strconv_small { L with } u hu _).mono ?_; rintro e w' ⟨rfl,rfl⟩)
    | (at_builtin; refine wpList_append_run rfl _ _ (ρ.t 37) (ρ.t 9) rfl _ _ rfl rfl hstr ?_))
  intro v' w1 hR
  go_wp2
  go_ret
  exact⟨v',rfl,hR⟩
set_option maxHeartbeats 12800000 in
set_option maxRecDepth 100000 in
theorem AnyV.AppendUint_big (L:LaysM.n288 P ρ) (u:Nat) (hu:100≤u) (hu64:u < 18446744073709551616) (sv:Value) (w:World) (R:Value→World→Prop)
    (hsl:∀ W b,Below w.heap.size w W→w.heap.size≤b→b < W.heap.size→(∀ j x,(Lib.byteCells (Lib.decDigits u))[j]? = some x→W.cell? ⟨b,j,none⟩=some x)→∀ rty,∃ v' w',(Builtin.append_ #[ρ.t 37,ρ.t 37] rty #[sv,.slice (some ⟨b,0,none⟩) (Lib.nDigits u) 24]).run P W = .ok v' w'∧R v' w')
    (htab:Lib.TabIs P w "internal/strconv.uint64pow10" .u64 Lib.pow10Tab) :
    Calls P (ρ.f 288) #[sv,.int .u64 u,.int .i64 10] w fun e w'=>∃ v',e = .returned v'∧R v' w':=by
  have mixed:=L.mixed
  have t5:=L.t5; have a5:=L.a5; have z5:=L.z5; have v5:=L.v5
  have t37:=L.t37; have u37:=run_underlying L.t37; have a37:=L.a37; have z37:=L.z37; have v37:=L.v37
  have t53:=L.t53; have a53:=L.a53; have z53:=L.z53; have v53:=L.v53
  have t3:=L.t3; have a3:=L.a3; have z3:=L.z3; have v3:=L.v3
  have t4:=L.t4; have a4:=L.a4; have z4:=L.z4; have v4:=L.v4
  have t9:=L.t9; have a9:=L.a9; have z9:=L.z9; have v9:=L.v9
  have t171:=L.t171; have a171:=L.a171; have z171:=L.z171; have v171:=L.v171
  have t0:=L.t0; have a0:=L.a0; have z0:=L.z0; have v0:=L.v0
  have t173:=L.t173; have a173:=L.a173; have z173:=L.z173; have v173:=L.v173
  have e284:∀ args w,(callFunc (ρ.f 284) args).run P w = .ok (.enter (ρ.f 284) args) w:=enters_of L.f284 (by kernel_rfl) rfl
  have e285:∀ args w,(callFunc (ρ.f 285) args).run P w = .ok (.enter (ρ.f 285) args) w:=enters_of L.f285 (by kernel_rfl) rfl
  have hu1:1≤u:=by omega
  have hnd20:Lib.nDigits u≤20:=by have:=Lib.numDigits_eq u hu1 hu64; split at this <;> omega
  have hal:P.arrayLen (ρ.t 171)=24:=by simp[Program.arrayLen,L.t171]
  have hslc:∀ W,(Instr.sliceAt (ρ.t 171) (.pointer (some ⟨w.heap.size,0,none⟩)) none (some (.int .i64 (Lib.nDigits u:Int))) none).run P W = .ok (.slice (some ⟨w.heap.size,0,none⟩) (Lib.nDigits u) 24) W:=fun W=>by
    rw[run_sliceAt_array_h W (ρ.t 171) ⟨w.heap.size,0,none⟩ (by simp[Program.arrayLen,Program.elem,L.t171]) .i64 (Lib.nDigits u:Int) (by omega) (by rw[hal]; omega)]
    go_simp
  have hH0:=Lib.holds_zero0 w (ρ.t 171) (Lib.nDigits u) (by omega)
  have hfmt:=Any.internal_strconv_formatBase10 { L with } w.heap.size 0 24 u (Array.replicate (Lib.nDigits u) 0) (w.alloc (.cells Lib.zeros24 (ρ.t 171))) hH0 (by rw[Array.size_replicate]; exact Lib.lt_pow_nDigits u) hu64 (by rw[Array.size_replicate]; omega)
  rw[Array.size_replicate] at hfmt
  have HH0:=Lib.hid hH0
  have iu:(100:Int)≤(u:Int):=by omega
  clear hH0 hal
  go_enter L.f288,Body.n288_ntmps ρ
  go_wp2_with (first
    | (go_at_fn (ρ.f 284); refine (Any.internal_strconv_numDigits { L with } u hu1 hu64 _ (Lib.tabIs_alloc htab _)).mono ?_; rintro e w' ⟨rfl,rfl⟩))
  go_at_fn (ρ.f 285)
  refine hfmt.mono ?_
  rintro e w' ⟨rfl,k,v',dk,rfl,hF⟩
  have hcells:∀ j u',(Lib.byteCells (Lib.decDigits u))[j]? = some u'→((putRow (fun (b:UInt8)=>Value.int .u8 (b.toNat:Int)) (w.alloc (.cells Lib.zeros24 (ρ.t 171))) w.heap.size 0 dk).drewN k).cell? ⟨w.heap.size,j,none⟩=some u':=by
    intro j u' hj
    have hjl:j < (Lib.decDigits u).length:=by
      have h5:=(List.getElem?_eq_some_iff.1 hj).1
      rwa [Lib.byteCells_length] at h5
    have e5:(Lib.byteCells (Lib.decDigits u))[j]? = some (Value.int .u8 ((Lib.decDigits u)[j].toNat:Int)):=by simp[Lib.byteCells,hjl]
    rw[e5] at hj
    cases hj
    have hadd:(⟨w.heap.size,j,none⟩:Addr)=(⟨w.heap.size,0,none⟩:Addr).add j:=by simp[Addr.add]
    rw[hadd,Lib.row_is_numeral hF j hjl,Lib.add_plain,World.cell?_drewN]
    exact cell?_putRow (fun (b:UInt8)=>Value.int .u8 (b.toNat:Int)) _ w.heap.size 0 _ dk HH0.out (by rw[hF.size,Array.size_replicate]) j (by rw[hF.size]; rw[Lib.decDigits_length] at hjl; exact hjl)
  obtain⟨os,eo⟩:=Lib.fin_at w (.cells Lib.zeros24 (ρ.t 171)) dk k 0
  have hnx2:Below w.heap.size w ((putRow (fun (b:UInt8)=>Value.int .u8 (b.toNat:Int)) (w.alloc (.cells Lib.zeros24 (ρ.t 171))) w.heap.size 0 dk).drewN k):=by rw[eo]; exact Lib.below_grow w.heap.size w (Nat.le_refl _) k os
  have hlt:w.heap.size < ((putRow (fun (b:UInt8)=>Value.int .u8 (b.toNat:Int)) (w.alloc (.cells Lib.zeros24 (ρ.t 171))) w.heap.size 0 dk).drewN k).heap.size:=by
    have h0:0 < (Lib.byteCells (Lib.decDigits u)).length:=by
      rw[Lib.byteCells_length]
      exact List.length_pos_iff.2 (decDigits_ne u)
    have:=hcells 0 _ (List.getElem?_eq_getElem h0)
    rcases Nat.lt_or_ge w.heap.size ((putRow (fun (b:UInt8)=>Value.int .u8 (b.toNat:Int)) (w.alloc (.cells Lib.zeros24 (ρ.t 171))) w.heap.size 0 dk).drewN k).heap.size with h | h
    · exact h
    · exfalso
      unfold World.cell? at this
      simp only[Array.getElem?_eq_none h] at this
      cases this
  generalize (putRow (fun (b:UInt8)=>Value.int .u8 (b.toNat:Int)) (w.alloc (.cells Lib.zeros24 (ρ.t 171))) w.heap.size 0 dk).drewN k=W2 at hcells hnx2 hlt ⊢
  clear eo HH0 hfmt
  go_wp2_with (at_builtin; refine wpList_append_run rfl _ _ (ρ.t 37) (ρ.t 37) rfl _ _ rfl rfl (hsl W2 w.heap.size hnx2 (Nat.le_refl _) hlt hcells) ?_)
  intro v2 w3 hR
  go_wp2
  go_ret
  exact⟨v2,rfl,hR⟩
end Go.Proofs
namespace Go.Vm
open Go Go.RowKit Go.Shelf Go.Proofs
theorem cx_grow {K:Cx} {base:Nat} {h:AHeap} (H:HRel K base h) {W:World} (hb:Below K.w.heap.size K.w W):K.Step { K with w:=W }∧HRel { K with w:=W } base h:=by
  have S:K.Step { K with w:=W }:=⟨Nat.le_refl _,fun _ _=>rfl,hb.os,hb.tape,hb.output,hb.size,fun b h1 h2=>⟨hb.block b h1,h2⟩,rfl,fun l ⟨R,hR⟩=>⟨R,(hb.block l (by
    rcases Nat.lt_or_ge l K.w.heap.size with hlt | hge
    · exact hlt
    · rw[Array.getElem?_eq_none hge] at hR; cases hR)).trans hR⟩⟩
  exact⟨S,H.step S (fun b hL=>hb.block b (H.bs b hL).2) rfl⟩
theorem tab_here {P:Program} {K:Cx} {base:Nat} {h:AHeap} (H:HRel K base h) {b:Nat} (hn:P.globalNamed "internal/strconv.uint64pow10" = some b) (hb:(b,fun cs=>cs=(Lib.pow10Tab.map fun z=>Value.int .u64 z).toArray)∈glb):Lib.TabIs P K.w "internal/strconv.uint64pow10" .u64 Lib.pow10Tab:=by
  obtain⟨_,cs,T,fz,h2,h3⟩:=H.gl _ hb
  have h3:cs=_:=h3
  subst h3
  unfold Lib.TabIs World.var?
  rw[hn]
  show (match K.w.heap[b]? with | some (.cells cs _ _)=>some cs | _=>none)=_
  rw[h2]
theorem prim_appU {P:Program} {ρ:Ren} (L:LaysM.n288 P ρ) {b:Nat} (hn:P.globalNamed "internal/strconv.uint64pow10" = some b) (hb:(b,fun cs=>cs=(Lib.pow10Tab.map fun z=>Value.int .u64 z).toArray)∈glb) :
    ∀ args h n v h' n',appUM P (ρ.t 5) args h n=some (v,h',n')→∀ (K:Cx) (base:Nat) (cargs:Array Value),HRel K base h→K.c=n→VRels K args cargs.toList→∀ N,CallsIn Fence.wide N P (ρ.f 288) cargs K.w (CallPost K base h' n' v):=fun args h n v h' n' hp K base cargs H hc hr N=>by
  subst hc
  unfold appUM at hp
  split at hp
  case h_2=>cases hp
  rename_i u z ten
  split at hp
  case isFalse=>cases hp
  rename_i hz
  obtain⟨⟨r,us⟩,h1,h2⟩:=Option.map_eq_some_iff.1 hp
  cases h2
  obtain⟨rfl,hz0,hz1⟩:=hz
  obtain⟨m,rfl⟩:=Int.eq_ofNat_of_zero_le hz0
  simp only[Int.toNat_natCast] at h1
  obtain⟨cl,rfl⟩:∃ l:List Value,cargs=l.toArray:=⟨cargs.toList,by simp⟩
  match cl,hr with
  | [sv,y1,y2],hr=>
    simp only[VRels,VRel,and_true] at hr
    obtain⟨hsv,rfl,rfl⟩:=hr
    have done:∀ (W:World) (src:Value) (ty:TypeId) (d:TypeDesc) (V:AV),Below K.w.heap.size K.w W→P.underlying ty=some d→(∀ k,d ≠ .int k)→VRel { K with w:=W } V src→rowsOf h 1 V=rowsOf h 1 (.s (.string ⟨(Lib.decDigits m).toArray⟩)) →
        ∀ rty,∃ v' w',(Builtin.append_ #[ρ.t 37,ty] rty #[sv,src]).run P W = .ok v' w'∧CallPost K base (h.upd us) (K.c + 1) r (.returned v') w':=fun W src ty d V hB hd hk hV hrow rty=>by
      obtain⟨S,H2⟩:=cx_grow H hB
      obtain⟨sz0,rws,g1,g2⟩:=appendOf_size h1
      have hs1:sz0=1:=by
        simp only[rowsOf] at g2
        split at g2
        · assumption
        · cases g2
      subst hs1
      obtain⟨K',v',q1,q2,q3,q4,q5⟩:=append_run (P:=P) (K:={ K with w:=W }) H2 rty (L.t37) hd hk (hsv.mono S.le) hV ((appendOf_swap g1 hrow).trans h1)
      exact⟨v',K'.w,q1,K',v',rfl,rfl,S.trans q2,q3,q4,q5⟩
    refine callsIn_wide.2 ?_
    by_cases h100:m < 100
    · refine (Go.Proofs.AnyV.AppendUint_small L m h100 sv K.w (fun v' w'=>CallPost K base (h.upd us) (K.c + 1) r (.returned v') w') (done K.w _ _ .string (.s (.string ⟨(Lib.decDigits m).toArray⟩)) (Below.refl _ _) L.t9 (fun k e=>by cases e) (by simp[VRel]) rfl)).mono ?_
      rintro e w' ⟨v',rfl,h3⟩
      exact h3
    · refine (Go.Proofs.AnyV.AppendUint_big L m (by omega) (by omega) sv K.w (fun v' w'=>CallPost K base (h.upd us) (K.c + 1) r (.returned v') w') (fun W bk hB hb1 hb2 hcells=>done W _ _ (.slice (ρ.t 5)) (.fsl 1 ((bytesI (Lib.decDigits m)).map cB)) hB L.t37 (fun k e=>by cases e) ?_ ?_) (tab_here H hn hb)).mono ?_
      · simp only[VRel]
        have hlen:((bytesI (Lib.decDigits m)).map cB).length=Lib.nDigits m:=by simp[bytesI,Lib.decDigits_length]
        refine⟨_,24,by rw[hlen],by simp,?_,.inr ⟨bk,0,rfl,rrel_of fun i row hi=>?_⟩⟩
        · rw[hlen]
          have:=Lib.numDigits_eq m (by omega) (by omega:m < 18446744073709551616)
          split at this <;> omega
        · simp only[List.getElem?_map,bytesI,Option.map_map] at hi
          obtain⟨x,hx,rfl⟩:=Option.map_eq_some_iff.1 hi
          refine⟨rfl,crel_of fun j c hj=>?_⟩
          match j,hj with
          | 0,hj=>
            simp only[List.getElem?_cons_zero,Option.some.injEq,Function.comp] at hj
            subst hj
            refine⟨.int .u8 (x.toNat:Int),⟨hb2,fun e=>?_,fun e=>?_⟩,?_,rfl,by simp[VRel]⟩
            · have:=(H.bs _ e).2; omega
            · have:=H.XL _ e; have:=H.le; omega
            · have:=hcells i (.int .u8 (x.toNat:Int)) (by simp[Lib.byteCells,hx])
              simpa using this
          | j + 1,hj=>simp at hj
      · rw[rows_str]
        simp[rowsOf]
      · rintro e w' ⟨v',rfl,h3⟩
        exact h3
  | [],hr=>simp[VRels] at hr
  | [_],hr=>simp[VRels] at hr
  | [_,_],hr=>simp[VRels] at hr
  | _ :: _ :: _ :: _ :: _,hr=>simp[VRels] at hr
end Go.Vm
/- Texts as numbers: a known function that reads the library's errors. -/
namespace Go.Vm
open Go Go.RowKit Go.Shelf Go.Proofs
theorem var_here {P:Program} {K:Cx} {base:Nat} {h:AHeap} (H:HRel K base h) {nm:String} {b:Nat} (hn:P.globalNamed nm=some b) (hb:(b,fun cs=>∃ tp p,cs = #[Value.iface tp p])∈glb):∃ tp p,K.w.var? P nm=some #[.iface tp p]:=by
  obtain⟨_,cs,T,fz,h2,h3⟩:=H.gl _ hb
  obtain⟨tp,p,h3⟩:∃ tp p,cs = #[Value.iface tp p]:=h3
  subst h3
  refine⟨tp,p,?_⟩
  unfold World.var?
  rw[hn]
  show (match K.w.heap[b]? with | some (.cells cs _ _)=>some cs | _=>none)=_
  rw[h2]
theorem prim_atoi {P:Program} {ρ:Ren} (L:LaysC.n172 P ρ) {b1 b2:Nat} (hn1:P.globalNamed "strconv.ErrSyntax" = some b1) (hb1:(b1,fun cs=>∃ tp p,cs = #[Value.iface tp p])∈glb) (hn2:P.globalNamed "strconv.ErrRange" = some b2) (hb2:(b2,fun cs=>∃ tp p,cs = #[Value.iface tp p])∈glb) :
    ∀ args v,atoiP args=some v→∀ (K:Cx) (base:Nat) (h:AHeap) (cargs:Array Value),HRel K base h→VRels K args cargs.toList→∀ N,CallsIn Fence.wide N P (ρ.f 172) cargs K.w (CallPost K base h K.c v):=fun args v hp K base h cargs H hr N=>by
  unfold atoiP at hp
  split at hp
  case h_2=>cases hp
  rename_i s
  split at hp
  case isFalse=>cases hp
  rename_i hs
  cases hp
  obtain⟨cl,rfl⟩:∃ l:List Value,cargs=l.toArray:=⟨cargs.toList,by simp⟩
  have fin:∀ (n:Int) (er:Value) (w':World),n=atoiV s.data.toList→Below K.w.heap.size K.w w'→CallPost K base h K.c (.tup [.s (.int .i64 (atoiV s.data.toList)),.any]) (.returned (.tuple #[.int .i64 n,er])) w':=fun n er w' hn hb=>by
    subst hn
    exact post_below H hb fun K'=>by simp[VRel,VRels]
  match cl,hr with
  | [x],hr=>
    simp only[VRels,VRel,and_true] at hr
    subst hr
    refine callsIn_wide.2 ?_
    cases ha:Lib.atoiAll s.data.toList with
    | ok n=>
      refine (Any.strconv_Atoi_ok L s (by omega) n ha K.w).mono ?_
      rintro e w' ⟨rfl,hw⟩
      refine fin n _ w' (by simp only[atoiV,ha]) ?_
      rcases hw with rfl | ⟨t,rfl⟩
      · exact Below.refl _ _
      · exact Lib.bytesWorld_below _ _ _
    | range=>
      obtain⟨tp,p,hv⟩:=var_here (P:=P) H hn2 hb2
      refine (Any.strconv_Atoi_range_var L s hs ha tp p K.w hv).mono ?_
      rintro e w' ⟨N,rfl,_,_,hb⟩
      exact fin _ _ w' (by simp only[atoiV,ha]) hb
    | _=>
      obtain⟨tp,p,hv⟩:=var_here (P:=P) H hn1 hb1
      refine (Any.strconv_Atoi_syntax_var L s hs ha tp p K.w hv).mono ?_
      rintro e w' ⟨N,rfl,_,_,hb⟩
      exact fin 0 _ w' (by simp only[atoiV,ha]) hb
  | [],hr=>simp[VRels] at hr
  | _ :: _ :: _,hr=>simp[VRels] at hr
end Go.Vm
/- Rows that the library sorts by a comparison that is handed on: known functions that change memory. -/
namespace Go.Vm
open Go Go.RowKit Go.Sort
section
variable {α:Type}
theorem prim_sortO [Inhabited α] {P:Program} {g gc:FuncId} {dec:AV→Option α} {enc:α→Value} {srt:List α→Option (List α)} (hd:∀ c x,dec c=some x→c = .s (enc x)) (hl:∀ zs zs',srt zs=some zs'→zs'.length=zs.length) (h1c:∀ x,(enc x).oneCell' = true)
    (h0:∀ (p:Option Addr) (cap:Nat) (w:World),Calls P g #[.slice p 0 cap,.func (.func gc) #[] #[]] w fun e w'=>e = .returned (.tuple #[])∧w' = w)
    (h1:∀ (blk off cap:Nat) (zs zs':List α) (w:World),srt zs=some zs'→zs≠[]→Holds enc w blk off zs.toArray→blk < w.heap.size→zs.length < 4611686018427387904→Calls P g #[.slice (some ⟨blk,off,none⟩) zs.length cap,.func (.func gc) #[] #[]] w fun e w'=>e = .returned (.tuple #[])∧∃ n os,w' = grow (putRow enc (Sort.ahead w n) blk off zs'.toArray) os) :
    ∀ args h n v h' n',sortOM gc dec enc srt args h n=some (v,h',n')→∀ (K:Cx) (base:Nat) (cargs:Array Value),HRel K base h→K.c=n→VRels K args cargs.toList→∀ N,CallsIn Fence.wide N P g cargs K.w (CallPost K base h' n' v):=fun args h n v h' n' hp K base cargs H hc hr N=>by
  subst hc
  obtain⟨cl,rfl⟩:∃ l:List Value,cargs=l.toArray:=⟨cargs.toList,by simp⟩
  have triv:∀ (p:Option Addr) (cap:Nat),CallsIn Fence.wide N P g #[.slice p 0 cap,.func (.func gc) #[] #[]] K.w (CallPost K base h K.c (.tup [])):=fun p cap=>by
    refine callsIn_wide.2 ((h0 p cap K.w).mono ?_)
    rintro e w' ⟨rfl,rfl⟩
    exact post_below H (Below.refl _ _) fun K'=>by simp[VRel,VRels]
  match args,cl,hr,hp with
  | [x,xf],[y,yf],hr,hp=>
    simp only[VRels,and_true] at hr
    obtain⟨hr,hrf⟩:=hr
    unfold sortOM at hp
    split at hp
    case h_2=>cases hp
    rename_i a0 f0 e00
    simp only[List.cons.injEq,and_true] at e00
    obtain⟨rfl,rfl⟩:=e00
    split at hp
    case isFalse=>cases hp
    rename_i hgc
    have hp2:=hp
    subst hgc
    have hp:=hp2
    clear hp2
    have hyf:yf = .func (.func f0) #[] #[]:=by
      simp only[VRel] at hrf
      obtain⟨cv,e1,e2⟩:=hrf
      obtain⟨l,rfl⟩:∃ l:List Value,cv=l.toArray:=⟨cv.toList,by simp⟩
      cases l with
      | nil=>exact e1
      | cons _ _=>simp[VRels] at e2
    subst hyf
    unfold sortOM1 at hp
    split at hp
    · rename_i id off len e0
      simp only[VRel] at hr
      obtain⟨hlt,a,cap,rfl,e1,e2,e3⟩:=hr
      split at hp
      · rename_i hz
        cases hp
        subst hz
        exact triv _ _
      · rename_i hz
        split at hp
        · rename_i R hid
          split at hp
          · rename_i zs hzs
            split at hp
            case h_2=>cases hp
            rename_i zs' hs
            split at hp
            · rename_i hb
              cases hp
              obtain⟨hb1,hb2⟩:=hb
              have hrow:=rowsD_ok hd hzs
              have ha:a=⟨(K.ι id).1,((K.ι id).2.1 + off) * 1,none⟩:=e3.resolve_left (by omega)
              subst ha
              rw[Nat.mul_one]
              obtain⟨arr,T,fz,o1,o2,o3,o4,o5⟩:=H.obj id _ hid
              have hR:off + len≤R.length:=by
                have:=congrArg List.length hrow
                simp only[List.length_take,List.length_drop,List.length_map] at this
                omega
              have hget:∀ j x,zs[j]? = some x→arr[(K.ι id).2.1 + off + j]? = some (enc x):=fun j x hj=>by
                have hj2:j < len:=by rw[← hb1]; exact (List.getElem?_eq_some_iff.1 hj).1
                have h2:R[off + j]? = some [AV.s (enc x)]:=by
                  have:=congrArg (fun l=>l[j]?) hrow
                  simp only[List.getElem?_map,hj,Option.map_some] at this
                  rw[List.getElem?_take_of_lt hj2,List.getElem?_drop] at this
                  exact this
                obtain⟨_,h3⟩:=o5 _ _ h2
                obtain⟨v,h4,h5,h6⟩:=h3 0 _ rfl
                simp only[VRel] at h6
                subst h6
                rw[← h4]
                congr 1
                omega
              have hH:Holds enc K.w (K.ι id).1 ((K.ι id).2.1 + off) zs.toArray:=fun j hj=>by
                have hj':j < zs.length:=by simpa using hj
                refine⟨?_,?_⟩
                · simp only[World.cell?,o1,Option.isSome_none,Bool.false_eq_true,if_false]
                  rw[hget j zs[j] (List.getElem?_eq_getElem hj')]
                  simp[hj']
                · simp only[World.frozen?,o1]
                  have hlt2:(K.ι id).2.1 + off + j < arr.size:=by
                    rw[o2]; omega
                  have:=o3 _ hlt2
                  simpa using this
              have hblk:(K.ι id).1 < K.w.heap.size:=(H.bs _ (H.L id _ hid)).2
              rw[← hb1]
              refine callsIn_wide.2 ((h1 _ _ cap zs zs' K.w hs (fun e=>hz (by rw[← hb1,e]; rfl)) hH hblk (by omega)).mono ?_)
              rintro e w' ⟨rfl,nn,os,rfl⟩
              have hsz:(putRow enc (Sort.ahead K.w nn) (K.ι id).1 ((K.ι id).2.1 + off) zs'.toArray).heap.size=K.w.heap.size:=by simp[Sort.ahead]
              have hother:∀ b,b < K.w.heap.size→b≠(K.ι id).1→(grow (putRow enc (Sort.ahead K.w nn) (K.ι id).1 ((K.ι id).2.1 + off) zs'.toArray) os).heap[b]? = K.w.heap[b]?:=fun b h2 h3=>by
                rw[heap_grow_old _ _ (by rw[hsz]; exact h2)]
                simp[putRow,mapBlock,Sort.ahead,Array.getElem?_modify,Ne.symm h3]
              have hsame:(grow (putRow enc (Sort.ahead K.w nn) (K.ι id).1 ((K.ι id).2.1 + off) zs'.toArray) os).heap[(K.ι id).1]? = some (.cells (putCells enc ((K.ι id).2.1 + off) zs'.toArray arr) T fz):=by
                rw[heap_grow_old _ _ (by rw[hsz]; exact hblk)]
                simp[putRow,mapBlock,Sort.ahead,Array.getElem?_modify,o1,onCells]
              generalize hw':grow (putRow enc (Sort.ahead K.w nn) (K.ι id).1 ((K.ι id).2.1 + off) zs'.toArray) os=w' at hother hsame
              have hsz':K.w.heap.size≤w'.heap.size:=by
                rw[← hw']
                simp[grow,Sort.ahead]
              let K':Cx:={ K with w:=w' }
              have S:K.Step K':=by
                refine⟨Nat.le_refl _,fun _ _=>rfl,?_,?_,?_,hsz',fun b h2 h3=>⟨hother b h2 fun e=>h3 (by rw[e]; exact H.L id _ hid),h3⟩,rfl,fun l ⟨Lp,hLp⟩=>⟨Lp,?_⟩⟩
                · show w'.os=_; rw[← hw']; rfl
                · show w'.tape=_; rw[← hw']; rfl
                · show w'.output=_; rw[← hw']; rfl
                · refine (hother l (heap_lt_of hLp) fun e=>?_).trans hLp
                  rw[e,o1] at hLp
                  cases hLp
              have hput:∀ j,(putCells enc ((K.ι id).2.1 + off) zs'.toArray arr)[j]? = if (K.ι id).2.1 + off≤j∧j < (K.ι id).2.1 + off + len then (zs'[j - ((K.ι id).2.1 + off)]?).map enc else arr[j]?:=fun j=>by
                have hq:zs'.length=len:=by rw[hl zs zs' hs,hb1]
                unfold putCells
                rw[Array.getElem?_mapIdx]
                simp only[List.size_toArray,hq]
                by_cases hin:(K.ι id).2.1 + off≤j∧j < (K.ι id).2.1 + off + len
                · have hlt2:j < arr.size:=by rw[o2]; omega
                  have hlt3:j - ((K.ι id).2.1 + off) < zs'.length:=by omega
                  simp[hin,hlt2,hlt3]
                · simp only[if_neg hin]
                  cases arr[j]? <;> rfl
              refine⟨K',.tuple #[],rfl,rfl,S,?_,rfl,by simp[VRel,VRels]⟩
              refine H.putN S id _ (fun b hb hne=>⟨hother _ (H.bs _ hb).2 (hne _ rfl),hb⟩) (fun b hb=>⟨(H.bs b hb).1,Nat.lt_of_lt_of_le (H.bs b hb).2 hsz'⟩) (fun p hp=>by cases hp; exact hid_rows) (fun p hp=>?_)
              cases hp
              refine⟨H.lt id _ hid,H.L id _ hid,⟨_,T,fz,hsame,?_,?_,?_,fun i r hi=>?_⟩,H.apart hid⟩
              · simp[putCells,o2,K']
              · intro i hi; exact o3 i (by simpa[putCells] using hi)
              · simp only[List.length_append,List.length_take,List.length_map,List.length_drop,hl zs zs' hs]
                show _≤(K.ι id).2.2
                omega
              · show r.length=1∧CellsRel K' _ (((K.ι id).2.1 + i) * 1) r
                have hlm:((zs'.map fun x=>[AV.s (enc x)])).length=len:=by rw[List.length_map,hl zs zs' hs,hb1]
                have hlt:(R.take off).length=off:=by rw[List.length_take]; omega
                by_cases hc1:i < off
                · rw[List.append_assoc,List.getElem?_append_left (by rw[hlt]; exact hc1),List.getElem?_take_of_lt hc1] at hi
                  obtain⟨g1,g2⟩:=o5 i r hi
                  refine⟨g1,fun j c hj=>?_⟩
                  have hj0:j=0:=by have:=(List.getElem?_eq_some_iff.1 hj).1; omega
                  subst hj0
                  obtain⟨v,g3,g4,g5⟩:=g2 0 c hj
                  refine⟨v,?_,g4,g5.mono S.le⟩
                  rw[hput,if_neg (by omega)]
                  exact g3
                · by_cases hc2:i < off + len
                  · rw[List.getElem?_append_left (by rw[List.length_append,hlt,hlm]; omega),List.getElem?_append_right (by omega),hlt,List.getElem?_map] at hi
                    obtain⟨x,hx1,rfl⟩:=Option.map_eq_some_iff.1 hi
                    refine⟨rfl,fun j c hj=>?_⟩
                    have hj0:j=0:=by have:=(List.getElem?_eq_some_iff.1 hj).1; simp at this; omega
                    subst hj0
                    simp only[List.getElem?_cons_zero,Option.some.injEq] at hj
                    subst hj
                    refine⟨enc x,?_,h1c x,by simp[VRel]⟩
                    rw[hput,if_pos (by omega),show ((K.ι id).2.1 + i) * 1 + 0 - ((K.ι id).2.1 + off)=i - off by omega,hx1]
                    rfl
                  · rw[List.getElem?_append_right (by rw[List.length_append,hlt,hlm]; omega),List.length_append,hlt,hlm,List.getElem?_drop,show off + zs.length + (i - (off + len))=i by omega] at hi
                    obtain⟨g1,g2⟩:=o5 i r hi
                    refine⟨g1,fun j c hj=>?_⟩
                    have hj0:j=0:=by have:=(List.getElem?_eq_some_iff.1 hj).1; omega
                    subst hj0
                    obtain⟨v,g3,g4,g5⟩:=g2 0 c hj
                    refine⟨v,?_,g4,g5.mono S.le⟩
                    rw[hput,if_neg (by omega)]
                    exact g3
            · cases hp
          · cases hp
        · cases hp
    · cases hp
      simp only[VRel] at hr
      subst hr
      exact triv _ _
    · cases hp
      simp only[VRel] at hr
      obtain⟨A,rfl,_⟩:=hr
      exact triv _ _
    · cases hp
  | [],_,_,hp=>simp[sortOM] at hp
  | [_],_,_,hp=>simp[sortOM] at hp
  | _ :: _ :: _ :: _,_,_,hp=>simp[sortOM] at hp
  | [_,_],[],hr,_=>simp[VRels] at hr
  | [_,_],[_],hr,_=>simp[VRels] at hr
  | [_,_],_ :: _ :: _ :: _,hr,_=>simp[VRels] at hr
end
end Go.Vm
/- slices.SortFunc at rows whose elements are parted by the comparison: from the shelf's contract. -/
namespace Go.Vm
open Go Go.RowKit Go.Sort Go.Proofs Go.Shelf
section
variable {α:Type} [Inhabited α]
theorem att_get (zs:List α) (x0:{x // x∈zs}) (j:Nat) (hj:j < zs.length):((@getElem! (Array {x // x∈zs}) Nat {x // x∈zs} _ _ ⟨x0⟩ zs.attach.toArray j)).val=zs.toArray[j]!:=by
  letI i0:Inhabited {x // x∈zs}:=⟨x0⟩
  have h1:j < zs.attach.toArray.size:=by simpa using hj
  rw[getElem!_pos (zs.attach.toArray) j h1,getElem!_pos zs.toArray j (by simpa using hj)]
  simp
theorem putCells_val (enc:α→Value) {p:α→Prop} (i0:Inhabited {x // p x}) (l:List {x // p x}) (off:Nat) (c:Array Value) : @putCells {x // p x} i0 (fun x=>enc x.val) off l.toArray c=putCells enc off (l.map Subtype.val).toArray c:=by
  unfold putCells
  simp only[List.size_toArray,List.length_map]
  congr 1
  funext k x
  split
  · rename_i h
    have h1:k - off < l.length:=by omega
    rw[getElem!_pos (l.toArray) (k - off) (by simpa using h1),getElem!_pos ((l.map Subtype.val).toArray) (k - off) (by simpa using h1)]
    simp
  · rfl
theorem sortF_total {P:Program} {ρ:Ren} (L:SlLaysF.n6 P ρ) {enc:α→Value} (h1c:∀ x,(enc x).oneCell' = true) {cf:α→α→Int} {gc:Nat} (eg:∀ args w,(callFunc gc args).run P w = .ok (.enter gc args) w) (zs:List α) (hne:zs≠[]) (hsz:zs.length < 4611686018427387904)
    (irr:∀ x∈zs,¬ cf x x < 0) (tr:∀ x∈zs,∀ y∈zs,∀ z∈zs,cf x y < 0→cf y z < 0→cf x z < 0) (tot:∀ x∈zs,∀ y∈zs,¬ cf x y < 0→¬ cf y x < 0→x=y)
    (hc:∀ x∈zs,∀ y∈zs,∀ W,Calls P gc #[enc x,enc y] W fun e w'=>e = .returned (.int .i64 (cf x y))∧∃ q os',w' = grow (W.drewN q) os')
    (blk off cap:Nat) (w:World) (hH:Holds enc w blk off zs.toArray) (hblk:blk < w.heap.size) :
    Calls P (ρ.f 6) #[.slice (some ⟨blk,off,none⟩) zs.length cap,.func (.func gc) #[] #[]] w fun e w'=>e = .returned (.tuple #[])∧∃ n os,w' = grow (putRow enc (Sort.ahead w n) blk off (zs.mergeSort fun x y=>!decide (cf y x < 0)).toArray) os:=by
  obtain⟨x0,hx0⟩:∃ x,x∈zs:=List.exists_mem_of_ne_nil zs hne
  letI i0:Inhabited {x // x∈zs}:=⟨⟨x0,hx0⟩⟩
  have hT:∀ x y:{x // x∈zs},(ltOf fun a b:{x // x∈zs}=>cf a.val b.val) x y=false→(ltOf fun a b:{x // x∈zs}=>cf a.val b.val) y x=false→x=y:=fun x y h1 h2=>by
    unfold ltOf at h1 h2
    exact Subtype.ext (tot _ x.2 _ y.2 (of_decide_eq_false h1) (of_decide_eq_false h2))
  have hO:SWO (ltOf fun a b:{x // x∈zs}=>cf a.val b.val):={
    irrefl:=fun x=>decide_eq_false (irr _ x.2)
    trans:=fun x y z h1 h2=>decide_eq_true (tr _ x.2 _ y.2 _ z.2 (of_decide_eq_true h1) (of_decide_eq_true h2))
    ntrans:=fun x y z h1 h2=>by
      unfold ltOf at h1 h2 ⊢
      refine decide_eq_false fun h3=>?_
      by_cases h4:cf y.val x.val < 0
      · exact of_decide_eq_false h2 (tr _ y.2 _ x.2 _ z.2 h4 h3)
      · have e:=tot _ x.2 _ y.2 (of_decide_eq_false h1) h4
        have h3':cf x.val z.val < 0:=h3
        rw[e] at h3'
        exact of_decide_eq_false h2 h3' }
  have hd:zs.attach.toArray.size=zs.length:=by simp
  have hH':Holds (fun x:{x // x∈zs}=>enc x.val) w blk off zs.attach.toArray:=fun j hj=>by
    have hj':j < zs.length:=by simpa using hj
    have:=hH j (by simpa using hj')
    rw[← att_get zs ⟨x0,hx0⟩ j hj'] at this
    exact this
  have hcmp:CmpLays1 P gc #[] (fun x:{x // x∈zs}=>enc x.val) (fun a b=>cf a.val b.val) blk off zs.attach.toArray.size w:=fun m os dk hs x y=>by
    have:=hc x.val x.2 y.val y.2 (sortWorld (fun x:{x // x∈zs}=>enc x.val) w blk off m dk os)
    simpa using this
  have key:=Any.slices_SortFunc_total L (fun x:{x // x∈zs}=>enc x.val) (fun x=>h1c x.val) (fun a b=>cf a.val b.val) hO gc #[] blk off cap zs.attach.toArray w eg hcmp hH' hblk (by rw[hd]; exact hsz) hT
  rw[hd] at key
  refine key.mono ?_
  rintro e w' ⟨he,n,os,rfl⟩
  refine⟨he,n,os,?_⟩
  unfold sortWorld putRow
  congr 2
  funext c
  rw[putCells_val]
  congr 2
  have hm:=List.map_mergeSort (f:=Subtype.val) (l:=zs.attach) (r:=fun a b:{x // x∈zs}=>!ltOf (fun a b:{x // x∈zs}=>cf a.val b.val) b a) (s:=fun x y=>!decide (cf y x < 0)) (fun a _ b _=>rfl)
  rw[List.attach_map_subtype_val] at hm
  exact hm
end
theorem sf0 {P:Program} {ρ:Ren} (L:SlLaysF.n6 P ρ):SlLaysF0.n6 P ρ:={ L with }
theorem sortSz_h1 {P:Program} {ρ:Ren} (L:SlLaysF.n6 P ρ) {gc:Nat} (eg:∀ args w,(callFunc gc args).run P w = .ok (.enter gc args) w)
    (hc:∀ x y:Int, -4096≤x→x≤4096 → -4096≤y→y≤4096→∀ W,Calls P gc #[.int .i64 x,.int .i64 y] W fun e w'=>e = .returned (.int .i64 ((x.natAbs:Int) - y.natAbs))∧∃ q os',w' = Sort.grow (W.drewN q) os')
    {blk off cap:Nat} {zs zs':List Int} {w:World} (hs:srtSz zs=some zs') (hne:zs≠[]) (hH:Holds (Value.int .i64) w blk off zs.toArray) (hblk:blk < w.heap.size) (hsz:zs.length < 4611686018427387904) :
    Calls P (ρ.f 6) #[.slice (some ⟨blk,off,none⟩) zs.length cap,.func (.func gc) #[] #[]] w fun e w'=>e = .returned (.tuple #[])∧∃ n os,w' = grow (putRow (Value.int .i64) (Sort.ahead w n) blk off zs'.toArray) os:=by
  unfold srtSz at hs
  split at hs
  case isFalse=>cases hs
  rename_i hg
  cases hs
  obtain⟨hb,hn⟩:=hg
  have hb':∀ x∈zs, -4096≤x∧x≤4096:=fun x hx=>by
    have:=of_decide_eq_true (List.all_eq_true.1 hb x hx)
    omega
  refine sortF_total L (enc:=Value.int .i64) (cf:=fun x y=>(x.natAbs:Int) - y.natAbs) (fun _=>rfl) eg zs hne hsz (fun x _ h=>by omega) (fun x _ y _ z _ h1 h2=>by omega) (fun x hx y hy h1 h2=>?_) (fun x hx y hy W=>hc x y (hb' x hx).1 (hb' x hx).2 (hb' y hy).1 (hb' y hy).2 W) blk off cap w hH hblk
  have e:x.natAbs=y.natAbs:=by omega
  obtain⟨i,hi,rfl⟩:=List.mem_iff_getElem.1 hx
  obtain⟨j,hj,rfl⟩:=List.mem_iff_getElem.1 hy
  have hp:=List.pairwise_iff_getElem.1 (List.nodup_iff_pairwise_ne.1 hn)
  rcases Nat.lt_trichotomy i j with h | h | h
  · exact absurd (by rw[List.getElem_map,List.getElem_map]; exact e) (hp i j (by simpa using hi) (by simpa using hj) h)
  · subst h; rfl
  · exact absurd (by rw[List.getElem_map,List.getElem_map]; exact e.symm) (hp j i (by simpa using hj) (by simpa using hi) h)
end Go.Vm
/- A round over a map whose entries come in any order, and what is collected there: laws at the operations; a smaller evaluator's answers taken for known by a greater one. -/
namespace Go.Vm
open Go Go.RowKit Go.Sort Go.Maps Go.ChangeMaps Go.MapKept
section
variable {P:Program} {ops:Array Oper} {rest:List Oper} {o:Oper} {a:Act} {Q:Exit→Act→World→Prop} {w:World}
def rangesR (w:World) (b r:Nat) (es:Array MapEntry) (seen:Array Nat):Prop:=
  w.heap[b]? = some (.map es es.size)∧∃ c0,es.size≤c0∧w.heap[r]? = some (.mapIter (some b) es.size seen c0)
theorem rangesR.ne {b r:Nat} {es:Array MapEntry} {seen:Array Nat} (h:rangesR w b r es seen):r≠b:=by
  obtain⟨h1,c0,_,h2⟩:=h
  intro e
  rw[e,h1] at h2
  cases h2
theorem rangesR.lt {b r:Nat} {es:Array MapEntry} {seen:Array Nat} (h:rangesR w b r es seen):b < w.heap.size∧r < w.heap.size:=by
  obtain⟨h1,c0,_,h2⟩:=h
  exact⟨(Array.getElem?_eq_some_iff.1 h1).1,(Array.getElem?_eq_some_iff.1 h2).1⟩
theorem rangesR.kept {w':World} {b r:Nat} {es:Array MapEntry} {seen:Array Nat} {row:Option Nat} (h:rangesR w b r es seen) (hg:w.grownBy w' row) (hb:some b≠row) (hr:some r≠row):rangesR w' b r es seen:=by
  have hl:=h.lt
  obtain⟨h1,c0,h0,h2⟩:=h
  exact⟨(hg.block b hl.1 hb).trans h1,c0,h0,(hg.block r hl.2 hr).trans h2⟩
theorem rangesR.left {b r:Nat} {es:Array MapEntry} {seen:Array Nat} (h:rangesR w b r es seen):w.rangeLeft b r=(leftOf es seen).size:=by
  obtain⟨h1,c0,_,h2⟩:=h
  simp only[World.rangeLeft,h1,h2]
theorem wpList_range_raw (hg:o.guard=none) (m:Operand) (t k e:TypeId) (hop:o.op=Op.range t m) (ht:P.underlying t=some (.map k e)) (b:Nat) (es:Array MapEntry)
    (hm:a.eval m = .map (some b)) (hb:w.heap[b]? = some (.map es es.size))
    (hK:∀ w',rangesR w' b w.heap.size es #[]→w.grownBy w' none→w'.heap.size=w.heap.size + 1→wpList P ops Q rest (a.put o.dst (.pointer (some ⟨w.heap.size,0,none⟩))) w') :
    wpList P ops Q (o :: rest) a w:=by
  refine wpList_plain hg fun K' hK'=>?_
  have hrun:=run_range_map (P:=P) w t k e b es es.size ht hb
  have hlt:b < w.heap.size:=(Array.getElem?_eq_some_iff.1 hb).1
  unfold Oper.wp
  simp[execOp,hop,hm,hrun,Result.andThen]
  exact hK' _ _ (hK _ ⟨((MapKept.heap_alloc w _).2 b hlt).trans hb,es.size,Nat.le_refl _,(MapKept.heap_alloc w _).1⟩ (World.grownBy_alloc w _ none) (by simp))
theorem wpList_next_raw (hg:o.guard=none) (it:Operand) (hop:o.op=Op.next it false) (b r:Nat) (es:Array MapEntry) (seen:Array Nat)
    (hold:∀ x∈es.toList,x.born < es.size) (hnd:(es.toList.map (·.born)).Nodup) (hkv:∀ x∈es.toList,∃ p q:Int,x.key = .int .i64 p∧x.val = .int .i64 q)
    (hit:a.eval it = .pointer (some ⟨r,0,none⟩)) (h:rangesR w b r es seen)
    (hDone:(leftOf es seen).size=0→wpList P ops Q rest (a.put o.dst (.tuple #[.bool false])) w)
    (hMore:∀ (x:MapEntry) (p q:Int) (w':World),x∈(leftOf es seen).toList→x.key = .int .i64 p→x.val = .int .i64 q→rangesR w' b r es (seen.push x.born)→w.grownBy w' (some r)→w'.heap.size=w.heap.size →
      (Instr.entry (.pointer (some ⟨r,0,none⟩))).run P w' = .ok (.tuple #[.int .i64 p,.int .i64 q]) w'→wpList P ops Q rest (a.put o.dst (.tuple #[.bool true,.int .i64 p,.int .i64 q])) w') :
    wpList P ops Q (o :: rest) a w:=by
  refine wpList_plain hg fun K' hK'=>?_
  have hne:=h.ne
  obtain⟨hb,c0,hc,hr⟩:=h
  unfold Oper.wp
  rcases run_next_at (P:=P) w o.type r b es.size c0 seen es es.size hr hb hold hc with ⟨h0,hrun⟩ | ⟨e,he,w1,hal,hrun⟩
  · simp[execOp,hop,hit,hrun,Result.andThen]
    exact hK' _ _ (hDone h0)
  · obtain⟨hem,hes⟩:=mem_left he
    obtain⟨p,q,hp,hq⟩:=hkv e hem
    have hr1:w1.heap[r]? = some (.mapIter (some b) es.size seen c0):=by rcases hal with rfl | rfl <;> exact hr
    have hb1:w1.heap[b]? = some (.map es es.size):=by rcases hal with rfl | rfl <;> exact hb
    have hset:=heap_set (o':=.mapIter (some b) es.size (seen.push e.born) es.size) hr1
    have hb':(setBlock w1 r (.mapIter (some b) es.size (seen.push e.born) es.size)).heap[b]? = some (.map es es.size):=(hset.2 b (fun e1=>hne e1.symm)).trans hb1
    have hen:=run_entry_at (P:=P) _ r b es.size seen es es.size e hset.1 hb' hem hnd
    rw[hp,hq] at hrun hen
    simp[execOp,hop,hit,hrun,Result.andThen]
    refine hK' _ _ (hMore e p q _ he hp hq ⟨hb',es.size,Nat.le_refl _,hset.1⟩ ?_ ?_ hen)
    · rcases hal with rfl | rfl <;> exact⟨rfl,rfl,rfl,by simp[setBlock],fun i _ hi=>hset.2 i (fun e1=>hi (by rw[e1]))⟩
    · rcases hal with rfl | rfl <;> simp[setBlock]
end
theorem rinf_sound {E:Env} (hE:EnvOk E) {f:FuncId} {args:List AV} {h:AHeap} {n:Nat} {v:AV} {h':AHeap} {n':Nat} (hc:(rinf E).call f args h n=some (v,h',n')) :
    ∀ (K:Cx) (base:Nat) (cargs:Array Value),HRel K base h→K.c=n→VRels K args cargs.toList→∀ N,CallsIn Fence.wide N E.P f cargs K.w (CallPost K base h' n' v):=by
  obtain⟨k,hk⟩:=rinf_call.1 hc
  exact (mk_ok hE (fun r=>drawOk_all r) k).call _ _ _ _ _ _ _ hk
theorem callFn_lift {E E0:Env} {g:FuncId} (hp:E.prim g=none) (hp0:E0.prim g=none) (hpf:E.pf g=E0.pf g) (hm:E.primM g=some fun a h n=>(rinf E0).call g a h n)
    {vs:List AV} {h:AHeap} {n:Nat} {q:AV × AHeap × Nat} (hc:callFn E0 (rinf E0) g vs h n=some q):callFn E (rinf E) g vs h n=some q:=by
  have key:∀ a h n,(rinf E).call g a h n=(rinf E0).call g a h n:=fun a h n=>by
    have e:∀ q,(rinf E).call g a h n=some q↔(rinf E0).call g a h n=some q:=fun q=>by
      rw[rinf_call]
      constructor
      · rintro⟨k,hk⟩
        match k,hk with
        | 0,hk=>cases hk
        | k + 1,hk=>
          have hk:callAt E _ g a h n=some q:=hk
          unfold callAt at hk
          rw[hm] at hk
          exact hk
      · intro hk
        refine⟨1,?_⟩
        show callAt E _ g a h n=some q
        unfold callAt
        rw[hm]
        exact hk
    cases e1:(rinf E).call g a h n with
    | some q=>exact ((e q).1 e1).symm
    | none=>cases e2:(rinf E0).call g a h n with
      | none=>rfl
      | some q=>rw[(e q).2 e2] at e1; cases e1
  unfold callFn at hc ⊢
  rw[hp0] at hc
  rw[hp,hpf]
  simp only[key]
  exact hc
theorem CtM.lift {α:Type} {E E0:Env} {g:FuncId} (hp:E.prim g=none) (hp0:E0.prim g=none) (hpf:E.pf g=E0.pf g) (hm:E.primM g=some fun a h n=>(rinf E0).call g a h n)
    {vs:List AV} {H:List (Nat × AObj)} {k:Nat} {m:Option α} {er:α→AV} {H':α→List (Nat × AObj)} {k':Nat} (hc:CtM E0 g vs H k m er H' k'):CtM E g vs H k m er H' k':=fun r hr ρ vs' h n hv hh=>by
  obtain⟨u,h1,n1,ρ1,q1,q2⟩:=hc r hr ρ vs' h n hv hh
  exact⟨u,h1,n1,ρ1,callFn_lift hp hp0 hpf hm q1,q2⟩
theorem Ct.lift {α:Type} {E E0:Env} {g:FuncId} (hp:E.prim g=none) (hp0:E0.prim g=none) (hpf:E.pf g=E0.pf g) (hm:E.primM g=some fun a h n=>(rinf E0).call g a h n)
    {vs:List AV} {m:Option α} {er:α→AV} (hc:Ct E0 g vs m er):Ct E g vs m er:=fun r hr vs' hv h n=>by
  obtain⟨u,q1,q2⟩:=hc r hr vs' hv h n
  exact⟨u,callFn_lift hp hp0 hpf hm q1,q2⟩
theorem cx_row {K:Cx} {base:Nat} {h:AHeap} (H:HRel K base h) {W:World} (hb:Below K.w.heap.size K.w W) {e:TypeId} {v:Value} {zs:List Int} (hne:zs≠[])
    (hrow:W.ownsRow K.w.heap.size e 1 v zs.length (zs.map (Value.int .i64))) :
    ∃ K':Cx,K'.w=W∧K.Step K'∧HRel K' base (h.put K.c (some (.rows 1 (zs.map fun x=>[AV.s (.int .i64 x)]))))∧K'.c=K.c + 1∧VRel K' (.osl K.c 0 zs.length 1) v:=by
  obtain⟨hlen,hrow⟩:=hrow
  rcases hrow with ⟨_,h0⟩ | ⟨g,cap,cur,rfl,hg,hcell,hc1,hc2,hc3,hc4⟩
  · exact absurd (List.eq_nil_of_length_eq_zero h0) hne
  have hlt:∀ l,isLoop K.w l→l < K.w.heap.size:=fun l ⟨R,hR⟩=>(Array.getElem?_eq_some_iff.1 hR).1
  have hgs:g < W.heap.size:=(Array.getElem?_eq_some_iff.1 hcell).1
  let K':Cx:={ w:=W,ι:=fun i=>if i=K.c then (g,0,cap) else K.ι i,L:=fun b=>K.L b∨b=g,X:=K.X,c:=K.c + 1 }
  have hι:K'.ι K.c=(g,0,cap):=by simp[K']
  have S:K.Step K':=⟨Nat.le_succ _,fun i hi=>by simp[K',Nat.ne_of_lt hi],hb.os,hb.tape,hb.output,hb.size,fun b h1 h2=>⟨hb.block b h1,fun h3=>h3.elim h2 (fun e=>by omega)⟩,rfl,
    fun l hl=>by obtain⟨R,hR⟩:=hl; exact⟨R,(hb.block l (hlt l ⟨R,hR⟩)).trans hR⟩⟩
  have hLK:∀ b,K.L b→b < K.w.heap.size:=fun b hL=>(H.bs b hL).2
  refine⟨K',rfl,S,?_,rfl,?_⟩
  · refine H.putN S K.c _ (fun b hL _=>⟨hb.block b (hLK b hL),.inl hL⟩) (fun b hL=>hL.elim (fun h1=>⟨(H.bs b h1).1,Nat.lt_of_lt_of_le (hLK b h1) hb.size⟩) (fun e=>⟨by have:=H.le; omega,by rw[e]; exact hgs⟩))
      (fun p hp=>by cases hp; exact hid_rows) (fun p hp=>?_)
    cases hp
    refine⟨Nat.lt_succ_self _,by rw[hι]; exact .inr rfl,?_,fun j q hj hq=>?_⟩
    · rw[hι]
      refine⟨cur,e,(0,0),hcell,by show cur.size=(0 + cap) * 1; omega,fun i _=>by simp,by simpa using hc1,fun i r hi=>?_⟩
      rw[List.getElem?_map] at hi
      obtain⟨x,hx,rfl⟩:=Option.map_eq_some_iff.1 hi
      refine⟨rfl,fun j c hj=>?_⟩
      match j,hj with
      | 0,hj=>
        simp only[List.getElem?_cons_zero,Option.some.injEq] at hj
        subst hj
        refine⟨.int .i64 x,?_,rfl,by simp[VRel]⟩
        have h5:(cur.toList.take (zs.length * 1))[i]? = some (.int .i64 x):=by rw[hc4,List.getElem?_map,hx]; rfl
        have hi2:i < zs.length:=(List.getElem?_eq_some_iff.1 hx).1
        rw[List.getElem?_take_of_lt (by omega),Array.getElem?_toList] at h5
        simpa using h5
      | j + 1,hj=>simp at hj
    · rw[hι]
      refine⟨fun e2=>?_,fun hh=>?_⟩
      · have e2:(K.ι j).1=g:=e2
        have:=hLK _ (H.L j q hq)
        omega
      · have:=hLK _ (H.hd j q _ hq hh).1
        have:g < K.w.heap.size:=this
        omega
  · simp only[VRel]
    refine⟨Nat.lt_succ_self _,⟨g,0,none⟩,cap,rfl,by rw[hι]; simp,hc1,.inr (by rw[hι]; rfl)⟩
end Go.Vm
/- What a call leaves in a map, its keys sorted: a known function that hands out own memory, and its contract. -/
namespace Go.Vm
open Go
def decE:List (Value × AV)→Option (List (Int × Int))
  | []=>some []
  | (.int .i64 x,.s (.int .i64 c)) :: es=>(decE es).map fun l=>(x,c) :: l
  | _=>none
theorem decE_oM:∀ l:List (Int × Int),decE (oM l)=some l
  | []=>rfl
  | p :: l=>by
    show (decE (oM l)).map _=_
    rw[decE_oM l]
    rfl
def keysM (l:List (Int × Int)):List Int:=l.filterMap fun p=>if p.2 > 0 then some p.1 else none
def rowM (zs:List Int):AObj:=.rows 1 (zs.map fun x=>[AV.s (.int .i64 x)])
noncomputable def collM (E:Env) (gu:FuncId) (srt:List Int→Option (List Int)) (args:List AV) (h:AHeap) (n:Nat):Option (AV × AHeap × Nat):=
  if args.length=2 then match (rinf E).call gu args h n with
  | some (.tup [.mp _,.s (.bool true)],h1,n1)=>some (.tup [.s (.slice none 0 0),.s (.bool true)],h1,n1)
  | some (.tup [.mp id,.s (.bool false)],h1,n1)=>
    match h1 id with
    | some (.map es)=>match decE es with
      | some l=>if l.length≤1000000000 then
          (if keysM l=[] then some (.tup [.s (.slice none 0 0),.s (.bool false)],h1,n1) else
          match srt (keysM l) with
          | some zs=>some (.tup [.osl n1 0 zs.length 1,.s (.bool false)],h1.put n1 (some (rowM zs)),n1 + 1)
          | none=>none) else none
      | none=>none
    | _=>none
  | _=>none
  else none
def collR (srt:List Int→Option (List Int)) (l:List (Int × Int)) (b:Bool):Option (List Int × Bool):=
  if b=true then some ([],true) else if l.length≤1000000000 then (if keysM l=[] then some ([],false) else (srt (keysM l)).map fun zs=>(zs,false)) else none
theorem all2_oM {ρ:Rn}:∀ {l:List (Int × Int)} {es:List (Value × AV)},es.map (·.1)=(oM l).map (·.1)→All2 (VLe ρ) ((oM l).map (·.2)) (es.map (·.2))→es=oM l
  | [],[],_,_=>rfl
  | p :: l,(a,b) :: es,h1,h2=>by
    simp only[oM,List.map_cons,List.cons.injEq] at h1
    have h3:b=iv p.2:=h2.1.s_inv
    show (a,b) :: es=(kvI p.1,iv p.2) :: oM l
    rw[h1.1,h3,all2_oM h1.2 h2.2]
  | [],_ :: _,h1,_=>by simp[oM] at h1
  | _ :: _,[],h1,_=>by simp[oM] at h1
theorem ctm_coll {E E0:Env} {g gu:FuncId} {srt:List Int→Option (List Int)} (hp:E.prim g=none) (hm:E.primM g=some (collM E0 gu srt)) (hpf:E.pf g=false) (hp0:E0.prim gu=none) (hpf0:E0.pf gu=false)
    {α:Type} {vs:List AV} (hvs:vs.length=2) {H:List (Nat × AObj)} {k:Nat} {m:Option α} {fl:α→List (Int × Int)} {fb:α→Bool} {j k':Nat} {H':α→List (Nat × AObj)} (hj:∀ r,lk (H' r) j=some (.map (oM (fl r))))
    (hc:CtM E0 gu vs H k m (fun r=>.tup [.mp j,bv (fb r)]) H' k') (H2:List Int × Bool→List (Nat × AObj))
    (hH2:∀ r q i o,lk (H2 q) i=some o→(lk (H' r) i=some o∧i≠k')∨(i=k'∧o=rowM q.1)) :
    CtM E g vs H k (m.bind fun r=>collR srt (fl r) (fb r)) (fun q:List Int × Bool=>.tup [.osl k' 0 q.1.length 1,bv q.2]) H2 (k' + 1):=fun q hq ρ vs' h n hv hh=>by
  obtain⟨r,hr,hq⟩:=Option.bind_eq_some_iff.1 hq
  obtain⟨u,h1,n1,ρ1,c1,c2,c3,c4⟩:=hc r hr ρ vs' h n hv hh
  have hvs':vs'.length=2:=by rw[hv.length,hvs]
  have call:(rinf E0).call gu vs' h n=some (u,h1,n1):=by
    unfold callFn at c1
    rw[hp0] at c1
    simpa only [hpf0,if_false,Bool.false_eq_true] using c1
  have key:∀ {v h2 n2},collM E0 gu srt vs' h n=some (v,h2,n2)→callFn E (rinf E) g vs' h n=some (v,h2,n2):=fun {v h2 n2} e=>by
    unfold callFn
    rw[hp]
    simp only[hpf,if_false,Bool.false_eq_true]
    refine rinf_call.2 ⟨1,?_⟩
    show callAt E _ g vs' h n=_
    unfold callAt
    rw[hm]
    exact e
  have hu:∃ a sh,ρ1 j=some (.at a sh)∧u = .tup [.mp a,.s (.bool (fb r))]:=by
    obtain⟨us,eu,d⟩:=VLe.tup_iff.1 c2
    rw[eu]
    match us,d with
    | [u1,u2],d=>
      have d1:=d.1
      have d2:u2 = .s (.bool (fb r)):=d.2.1.s_inv
      simp only[VLe] at d1
      obtain⟨a,sh,e1,rfl⟩:=d1
      exact⟨a,sh,e1,by rw[d2]⟩
    | [],d=>exact d.elim
    | [_],d=>exact d.2.elim
    | _ :: _ :: _ :: _,d=>exact d.2.2.elim
  obtain⟨a,sh,e1,rfl⟩:=hu
  have e3:∃ o',h1 a=some o'∧OLe ρ1 sh (.map (oM (fl r))) o':=by
    rcases c3.ob j _ (hj r) with ⟨a',sh',o',g1,g2,g3⟩ | ⟨g1,_⟩
    · rw[e1] at g1; cases g1; exact⟨o',g2,g3⟩
    · rw[e1] at g1; cases g1
  obtain⟨o',e4, -,es,rfl,e5,e6⟩:=e3
  have e7:=all2_oM e5 e6
  subst e7
  have hext:∀ m,Ext ρ1 (ρ1.put k' m):=fun m=>Rn.put_ext c3.lt m
  have nilcase:∀ b:Bool,collM E0 gu srt vs' h n=some (.tup [.s (.slice none 0 0),.s (.bool b)],h1,n1)→∃ u h1 n1 ρ1,callFn E (rinf E) g vs' h n=some (u,h1,n1)∧VLe ρ1 (.tup [.osl k' 0 ([]:List Int).length 1,bv b]) u∧HLe ρ1 (hl (H2 ([],b))) (k' + 1) h1 n1∧Fr ρ h n ρ1 h1 n1:=fun b hw=>by
    have hne:∀ i a sh,(ρ1.put k' .ph) i=some (.at a sh)→i≠k'∧ρ1 i=some (.at a sh):=fun i a sh e=>by
      simp only[Rn.put] at e
      split at e
      · cases e
      · rename_i hne; exact⟨hne,e⟩
    refine⟨_,h1,n1,ρ1.put k' .ph,key hw,VLe.tup_iff.2 ⟨_,rfl,?_,VLe.s_refl _,trivial⟩,⟨fun i o ho=>?_,fun i j a sh sh' hi hj e1 e2=>?_,fun i m e=>?_,fun i a sh e=>c3.lt' i a sh (hne i a sh e).2⟩,⟨c4.le,c4.same,fun i a sh e=>c4.im i a sh (hne i a sh e).2,fun i m e=>hext _ i m (c4.ext i m e)⟩⟩
    · show VLe _ (.osl k' 0 0 1) _
      simp[VLe,Rn.put_same,nilS]
    · rcases hH2 r _ i o ho with ⟨g1,g2⟩ | ⟨rfl,rfl⟩
      · rcases c3.ob i o g1 with ⟨a,sh,o',q1,q2,q3⟩ | ⟨q1,q2⟩
        · exact .inl ⟨a,sh,o',hext _ i _ q1,q2,q3.ext (hext _)⟩
        · exact .inr ⟨hext _ i _ q1,q2⟩
      · exact .inr ⟨Rn.put_same _ _ _,1,rfl⟩
    · have some':∀ i,i≠k'→((hl (H2 ([],b))) i).isSome=true→((hl (H' r)) i).isSome=true:=fun i hne hi=>by
        obtain⟨o,ho⟩:=Option.isSome_iff_exists.1 hi
        rcases hH2 r _ i o ho with ⟨g1,g2⟩ | ⟨g1,g2⟩
        · show (lk (H' r) i).isSome=true
          rw[g1]; rfl
        · exact absurd g1 hne
      exact c3.inj i j a sh sh' (some' i (hne _ _ _ e1).1 hi) (some' j (hne _ _ _ e2).1 hj) (hne _ _ _ e1).2 (hne _ _ _ e2).2
    · simp only[Rn.put] at e
      split at e
      · omega
      · have:=c3.lt i m e; omega
  unfold collR at hq
  cases hb:fb r with
  | true=>
    rw[hb,if_pos rfl] at hq
    cases hq
    refine nilcase true ?_
    unfold collM
    rw[if_pos hvs',call,hb]
  | false=>
    rw[hb,if_neg (by decide)] at hq
    split at hq
    case isFalse=>cases hq
    rename_i hlen
    have base:∀ z,(if keysM (fl r)=[] then some (.tup [.s (.slice none 0 0),.s (.bool false)],h1,n1) else
          match srt (keysM (fl r)) with
          | some zs=>some (.tup [.osl n1 0 zs.length 1,.s (.bool false)],h1.put n1 (some (rowM zs)),n1 + 1)
          | none=>none)=some z→collM E0 gu srt vs' h n=some z:=fun z hz=>by
      unfold collM
      rw[if_pos hvs',call,hb]
      simp only[bv]
      rw[e4]
      simp only
      rw[decE_oM]
      simp only
      rw[if_pos hlen]
      exact hz
    split at hq
    · rename_i hnil
      cases hq
      exact nilcase false (base _ (by rw[if_pos hnil]))
    · rename_i hnil
      obtain⟨zs,hs,hq⟩:=Option.map_eq_some_iff.1 hq
      cases hq
      have ho:OLe ρ1 0 (rowM zs) (rowM zs):=⟨[],zs.map fun x=>[AV.s (.int .i64 x)],[],by simp[rowM],rfl,all2_sr zs⟩
      obtain⟨q1,q2⟩:=c3.new ho
      refine⟨.tup [.osl n1 0 zs.length 1,.s (.bool false)],h1.put n1 (some (rowM zs)),n1 + 1,ρ1.put k' (.at n1 0),key (base _ (by rw[if_neg hnil,hs])),VLe.tup_iff.2 ⟨_,rfl,?_,VLe.s_refl _,trivial⟩,?_,c4.trans q2⟩
      · show VLe _ (.osl k' 0 zs.length 1) _
        simp only[VLe]
        exact .inl ⟨n1,0,Rn.put_same _ _ _,by simp⟩
      · refine HLe.sub q1 fun i o hi=>?_
        rcases hH2 r _ i o hi with ⟨g1,g2⟩ | ⟨rfl,rfl⟩
        · rw[AHeap.put_other _ g2]; exact g1
        · rw[AHeap.put_same]
theorem coll_h0 {A:List (Nat × AObj)} {k' i:Nat} {o:AObj} {zs:List Int} (h:lk [(k',.rows 1 (List.map cI zs))] i=some o):(lk A i=some o∧i≠k')∨(i=k'∧o=rowM zs):=by
  simp only[lk] at h
  cases e:Nat.beq k' i with
  | true=>
    rw[e] at h
    cases h
    exact .inr ⟨(beq_eq e).symm,rfl⟩
  | false=>rw[e] at h; cases h
theorem EnvOk.ext {E E0:Env} (h0:EnvOk E0) (hP:E.P=E0.P) (hp:E.prim=E0.prim)
    (hM:∀ g p,E.primM g=some p→E0.primM g=some p∨((∃ fn,E0.P.funcs[g]? = some fn∧fn.body.isSome=true) ∧
      ∀ args h n v h' n',p args h n=some (v,h',n')→∀ (K:Cx) (base:Nat) (cargs:Array Value),HRel K base h→K.c=n→VRels K args cargs.toList→∀ N,CallsIn Fence.wide N E0.P g cargs K.w (CallPost K base h' n' v))):EnvOk E:=by
  refine⟨?_,?_,?_,?_⟩
  · rw[hP]; exact h0.name
  · rw[hP]; exact h0.code
  · rw[hP,hp]; exact h0.prim
  · rw[hP]
    intro g p hg
    rcases hM g p hg with h | h
    · exact h0.primM g p h
    · exact h
end Go.Vm

/- The law CnfAtMost, a part of its proof: what the functions that it reaches compute. -/
import Derived.WalkKit
import Derived.ProofKit
import Derived.OpenShut
import Derived.Below
import Derived.ChangeSame
import Derived.Deep.DeepHandedRow
import Derived.Carry
import Derived.Test.YtodndfhcfhemdaaDoorAx5ff8b1e1
import Derived.Test.YtodndfhcfhemdaaDoorFx3eab5c56
import Derived.Lib.Join
import Derived.Lib.SlTrimSet
import Derived.Lib.IndexAny
import Derived.Shelf.Small.Strs
import Derived.Sort.Row
import Derived.Sort.Grow
import Derived.WalkSmall
import Derived.Lib.ItoaNum
import Derived.Lib.AtoiAll
import Derived.Shelf.Strconv.AppendUint10
import Derived.Shelf.Strconv.ErrVarAll
import Derived.Shelf.Strings.Builder1
import Derived.Lib.FrozenHead
import Derived.Test.YtodndfhcfhemdaaDoorDxb7d7fec1
import Derived.Shelf.Slices.CompactI
import Derived.Shelf.Strconv.Itoa3
import Derived.Shelf.SlLaysF
import Derived.Shelf.SlGeneric
import Derived.Shelf.SlSortCmp.NoneTotal
import Derived.Deep.Strs
import Derived.Lib.Bytealg
import Derived.Lib.SlicesCompact
import Derived.Test.YtodndfhcfhemdaaDoorG0CnfAtMost
import Derived.Test.YtodndfhcfhemdaaDoorW24CnfAtMost
set_option linter.unusedVariables false
set_option linter.unusedSimpArgs false
/- What a row asks behind a call that has left all that was there as it was. -/
namespace Go.Vm
open Go Go.RowKit Go.WideShapes Go.ChangeShapes
theorem row_below {H:Type} {enc:TypeId × Value→H} {P:Program} {f:Func} {s:ChangeSpec} {apart fresh handsOn again:Bool} {W W':World} {args:Array Value} {v:Value} {ds gs:List (DataW H)} {before pa pv:List MemPlace}
    (hW:DataW.Whole enc P f.params.toList s.vars apart W args.toList ds gs before) (hb:Below W.heap.size W W') (hp:before=pa ++ pv)
    (hr:∀ (b:Nat) (sp:Nat→Bool) (hd:Bool),DataW.TrodAll enc P W' b sp hd f.resultTypes.toList (v.resultList f.resultTypes.size) (s.fn H (ds ++ gs)).results [])
    (ha:∀ sp:Nat→Bool,(∀ p∈before,sp p.block=true)→DataW.TrodAll enc P W' 0 sp true f.params.toList args.toList (s.fn H (ds ++ gs)).args pa)
    (hv:∀ sp:Nat→Bool,(∀ p∈before,sp p.block=true)→DataW.TrodVars enc P W' sp s.vars (s.fn H (ds ++ gs)).vars pv)
    (ho:∀ (j:Nat) (t:TypeId) (r:Value),f.resultTypes[j]? = some t→(v.resultList f.resultTypes.size)[j]? = some r→Value.okWide P W' .any 0 t r) :
    s.post enc P f apart fresh handsOn again W args v W':=by
  have small:∀ p∈before,decide (p.block < W.heap.size)=true:=fun p h=>decide_eq_true (hW.lt p h)
  refine⟨ds,gs,before,[],pa,pv,hW,hr _ _ _,ha (fun b=>decide (b < W.heap.size)) small,hv _ small,hb.frame _,fun _=>⟨ho,?_⟩⟩
  obtain⟨_,_,_,_,_,hz,hn⟩:=hW
  refine⟨_,_,([] ++ pa) ++ pv,⟨[] ++ pa,pv,trodAll_append (ha _ fun _ _=>rfl) (hr _ _ _),hv _ fun _ _=>rfl,rfl,fun b off hm=>?_,fun h=>?_⟩,?_⟩
  · have hm':MemPlace.cell b off∈before:=by rw[hp]; simpa using hm
    rw[hb.frozen (of_decide_eq_true (small _ hm'))]
    exact hz b off hm'
  · have:=hn h
    rw[hp] at this
    simpa using this
  · intro x hx _
    rw[hp]
    simpa using hx
end Go.Vm
/- From what a row lists of the library's tables to what the evaluator asks. -/
namespace Go.Vm
open Go
theorem tab_of_vars {P:Program} {W:World} {name:String} {k:IntKind} {zs:List Int} {g:Nat} {t e:TypeId} {n:Nat}
    (hg:P.globalNamed name=some g) (hty:(P.globals[g]?).map (·.type)=some t) (ht:P.underlying t=some (.array n e)) (he:P.underlying e=some (.int k)) (hce:P.cellsOf e=1) (hct:P.cellsOf t=n) :
    ∀ {laid:List (String × DataW Unit)} {ps:List MemPlace},DataW.LaidVars P W laid ps→(name,Lib.tabData k zs)∈laid→Lib.TabIs P W name k zs
  | [],_,_,hm=>by cases hm
  | (x,d) :: laid,ps,h,hm=>by
    obtain⟨g',t',cs,fuel,p,q,hg',ht',hvar,hd,hr,_⟩:=h
    rcases List.mem_cons.1 hm with hm | hm
    · cases hm
      obtain rfl:=Option.some.inj (hg.symm.trans hg')
      obtain rfl:=Option.some.inj (hty.symm.trans ht')
      unfold Lib.TabIs
      rw[hvar,← Lib.cells_of_tab ht he hce hct hd]
    · exact tab_of_vars hg hty ht he hce hct hr hm
theorem cells_of_tabIs {P:Program} {W:World} {name:String} {k:IntKind} {zs:List Int} {g:Nat} (h:Lib.TabIs P W name k zs) (hg:P.globalNamed name=some g) :
    g < W.heap.size∧∃ cs T fz,W.heap[g]? = some (.cells cs T fz)∧cs=(zs.map fun z=>Value.int k z).toArray:=by
  unfold Lib.TabIs World.var? at h
  rw[hg] at h
  simp only[Option.bind_some] at h
  split at h
  · rename_i cs T fz e
    cases h
    exact⟨(Array.getElem?_eq_some_iff.1 e).1,_,T,fz,e,rfl⟩
  · cases h
end Go.Vm
/- Functions that are taken for known: from what the shelf says of them. -/
set_option linter.unusedVariables false
set_option linter.unusedSimpArgs false
namespace Go.Vm
open Go Go.RowKit
theorem post_below {K:Cx} {base:Nat} {h:AHeap} (H:HRel K base h) {v:AV} {cv:Value} {w':World} (hb:Below K.w.heap.size K.w w') (hv:∀ K',VRel K' v cv):CallPost K base h K.c v (.returned cv) w':=by
  let K':Cx:={ K with w:=w' }
  have S:K.Step K':=⟨Nat.le_refl _,fun _ _=>rfl,hb.os,hb.tape,hb.output,hb.size,fun b h1 h2=>⟨hb.block b h1,h2⟩,rfl,fun l ⟨R,hR⟩=>⟨R,(hb.block l (by
    rcases Nat.lt_or_ge l K.w.heap.size with hlt | hge
    · exact hlt
    · rw[Array.getElem?_eq_none hge] at hR; cases hR)).trans hR⟩⟩
  exact⟨K',cv,rfl,rfl,S,H.step S (fun b hL=>hb.block b (H.bs b hL).2) rfl,rfl,hv K'⟩
end Go.Vm
/- Rows that the library compacts: known functions that change memory. -/
namespace Go.Vm
open Go Go.RowKit Go.Sort
section
variable {α:Type}
theorem prim_cpt [Inhabited α] {P:Program} {g:FuncId} {dec:AV→Option α} {enc:α→Value} {z:α} {cpt:List α→List α} (hd:∀ c x,dec c=some x→c = .s (enc x)) (hcl:∀ zs,(cpt zs).length≤zs.length) (h1c:∀ x,(enc x).oneCell' = true)
    (h0:∀ (p:Option Addr) (cap:Nat) (w:World),Calls P g #[.slice p 0 cap] w fun e w'=>e = .returned (.slice p 0 cap)∧w' = w)
    (h1:∀ (blk off cap:Nat) (zs:List α) (w:World),Holds enc w blk off zs.toArray→blk < w.heap.size→zs.length < 4611686018427387904→zs.length≤cap→Calls P g #[.slice (some ⟨blk,off,none⟩) zs.length cap] w fun e w'=>e = .returned (.slice (some ⟨blk,off,none⟩) (cpt zs).length cap)∧∃ n,w' = putRow enc (Sort.ahead w n) blk off (zfill z cpt zs).toArray) :
    ∀ args h n v h' n',cptM dec enc z cpt args h n=some (v,h',n')→∀ (K:Cx) (base:Nat) (cargs:Array Value),HRel K base h→K.c=n→VRels K args cargs.toList→∀ N,CallsIn Fence.wide N P g cargs K.w (CallPost K base h' n' v):=fun args h n v h' n' hp K base cargs H hc hr N=>by
  subst hc
  obtain⟨cl,rfl⟩:∃ l:List Value,cargs=l.toArray:=⟨cargs.toList,by simp⟩
  have hl:∀ zs,(zfill z cpt zs).length=zs.length:=fun zs=>zfill_len hcl zs
  have triv:∀ (p:Option Addr) (cap:Nat) (v:AV),VRel K v (.slice p 0 cap)→CallsIn Fence.wide N P g #[.slice p 0 cap] K.w (CallPost K base h K.c v):=fun p cap v hv=>by
    refine callsIn_wide.2 ((h0 p cap K.w).mono ?_)
    rintro e w' ⟨rfl,rfl⟩
    exact⟨K,_,rfl,rfl,Cx.Step.refl K,H,rfl,hv⟩
  match args,cl,hr,hp with
  | [x],[y],hr,hp=>
    simp only[VRels,and_true] at hr
    have hr0:=hr
    unfold cptM at hp
    split at hp
    · rename_i id off len e0
      cases e0
      simp only[VRel] at hr
      obtain⟨hlt,a,cap,rfl,e1,e2,e3⟩:=hr
      split at hp
      · rename_i hz
        cases hp
        subst hz
        exact triv _ _ _ hr0
      · rename_i hz
        split at hp
        · rename_i R hid
          split at hp
          · rename_i zs hzs
            split at hp
            · rename_i hb
              cases hp
              obtain⟨hb1,hb2⟩:=hb
              have hrow:=rowsD_ok hd hzs
              have ha:a=⟨(K.ι id).1,((K.ι id).2.1 + off) * 1,none⟩:=e3.resolve_left (by omega)
              subst ha
              rw[Nat.mul_one]
              obtain⟨arr,T,fz,o1,o2,o3,o4,o5⟩:=H.obj id _ hid
              have hR:off + len≤R.length:=by
                have:=congrArg List.length hrow
                simp only[List.length_take,List.length_drop,List.length_map] at this
                omega
              have hget:∀ j x,zs[j]? = some x→arr[(K.ι id).2.1 + off + j]? = some (enc x):=fun j x hj=>by
                have hj2:j < len:=by rw[← hb1]; exact (List.getElem?_eq_some_iff.1 hj).1
                have h2:R[off + j]? = some [AV.s (enc x)]:=by
                  have:=congrArg (fun l=>l[j]?) hrow
                  simp only[List.getElem?_map,hj,Option.map_some] at this
                  rw[List.getElem?_take_of_lt hj2,List.getElem?_drop] at this
                  exact this
                obtain⟨_,h3⟩:=o5 _ _ h2
                obtain⟨v,h4,h5,h6⟩:=h3 0 _ rfl
                simp only[VRel] at h6
                subst h6
                rw[← h4]
                congr 1
                omega
              have hH:Holds enc K.w (K.ι id).1 ((K.ι id).2.1 + off) zs.toArray:=fun j hj=>by
                have hj':j < zs.length:=by simpa using hj
                refine⟨?_,?_⟩
                · simp only[World.cell?,o1,Option.isSome_none,Bool.false_eq_true,if_false]
                  rw[hget j zs[j] (List.getElem?_eq_getElem hj')]
                  simp[hj']
                · simp only[World.frozen?,o1]
                  have hlt2:(K.ι id).2.1 + off + j < arr.size:=by
                    rw[o2]; omega
                  have:=o3 _ hlt2
                  simpa using this
              have hblk:(K.ι id).1 < K.w.heap.size:=(H.bs _ (H.L id _ hid)).2
              rw[← hb1]
              refine callsIn_wide.2 ((h1 _ _ cap zs K.w hH hblk (by omega) (by omega)).mono ?_)
              rintro e w' ⟨rfl,nn,rfl⟩
              have hsz:(putRow enc (Sort.ahead K.w nn) (K.ι id).1 ((K.ι id).2.1 + off) (zfill z cpt zs).toArray).heap.size=K.w.heap.size:=by simp[Sort.ahead]
              have hother:∀ b,b < K.w.heap.size→b≠(K.ι id).1→(putRow enc (Sort.ahead K.w nn) (K.ι id).1 ((K.ι id).2.1 + off) (zfill z cpt zs).toArray).heap[b]? = K.w.heap[b]?:=fun b h2 h3=>by
                simp[putRow,mapBlock,Sort.ahead,Array.getElem?_modify,Ne.symm h3]
              have hsame:(putRow enc (Sort.ahead K.w nn) (K.ι id).1 ((K.ι id).2.1 + off) (zfill z cpt zs).toArray).heap[(K.ι id).1]? = some (.cells (putCells enc ((K.ι id).2.1 + off) (zfill z cpt zs).toArray arr) T fz):=by
                simp[putRow,mapBlock,Sort.ahead,Array.getElem?_modify,o1,onCells]
              generalize hw':putRow enc (Sort.ahead K.w nn) (K.ι id).1 ((K.ι id).2.1 + off) (zfill z cpt zs).toArray=w' at hother hsame
              have hsz':K.w.heap.size≤w'.heap.size:=by
                rw[← hw']
                rw[hsz]; exact Nat.le_refl _
              let K':Cx:={ K with w:=w' }
              have S:K.Step K':=by
                refine⟨Nat.le_refl _,fun _ _=>rfl,?_,?_,?_,hsz',fun b h2 h3=>⟨hother b h2 fun e=>h3 (by rw[e]; exact H.L id _ hid),h3⟩,rfl,fun l ⟨Lp,hLp⟩=>⟨Lp,?_⟩⟩
                · show w'.os=_; rw[← hw']; rfl
                · show w'.tape=_; rw[← hw']; rfl
                · show w'.output=_; rw[← hw']; rfl
                · refine (hother l (heap_lt_of hLp) fun e=>?_).trans hLp
                  rw[e,o1] at hLp
                  cases hLp
              have hput:∀ j,(putCells enc ((K.ι id).2.1 + off) (zfill z cpt zs).toArray arr)[j]? = if (K.ι id).2.1 + off≤j∧j < (K.ι id).2.1 + off + len then ((zfill z cpt zs)[j - ((K.ι id).2.1 + off)]?).map enc else arr[j]?:=fun j=>by
                have hq:(zfill z cpt zs).length=len:=by rw[hl,hb1]
                unfold putCells
                rw[Array.getElem?_mapIdx]
                simp only[List.size_toArray,hq]
                by_cases hin:(K.ι id).2.1 + off≤j∧j < (K.ι id).2.1 + off + len
                · have hlt2:j < arr.size:=by rw[o2]; omega
                  have hlt3:j - ((K.ι id).2.1 + off) < (zfill z cpt zs).length:=by omega
                  simp[hin,hlt2,hlt3]
                · simp only[if_neg hin]
                  cases arr[j]? <;> rfl
              refine⟨K',_,rfl,rfl,S,?_,rfl,by simp only[VRel]; exact⟨hlt,_,cap,rfl,e1,by have:=hcl zs; omega,.inr (by rw[Nat.mul_one])⟩⟩
              refine H.putN S id _ (fun b hb hne=>⟨hother _ (H.bs _ hb).2 (hne _ rfl),hb⟩) (fun b hb=>⟨(H.bs b hb).1,Nat.lt_of_lt_of_le (H.bs b hb).2 hsz'⟩) (fun p hp=>by cases hp; exact hid_rows) (fun p hp=>?_)
              cases hp
              refine⟨H.lt id _ hid,H.L id _ hid,⟨_,T,fz,hsame,?_,?_,?_,fun i r hi=>?_⟩,H.apart hid⟩
              · simp[putCells,o2,K']
              · intro i hi; exact o3 i (by simpa[putCells] using hi)
              · simp only[List.length_append,List.length_take,List.length_map,List.length_drop,hl]
                show _≤(K.ι id).2.2
                omega
              · show r.length=1∧CellsRel K' _ (((K.ι id).2.1 + i) * 1) r
                have hlm:(((zfill z cpt zs).map fun x=>[AV.s (enc x)])).length=len:=by rw[List.length_map,hl,hb1]
                have hlt:(R.take off).length=off:=by rw[List.length_take]; omega
                by_cases hc1:i < off
                · rw[List.append_assoc,List.getElem?_append_left (by rw[hlt]; exact hc1),List.getElem?_take_of_lt hc1] at hi
                  obtain⟨g1,g2⟩:=o5 i r hi
                  refine⟨g1,fun j c hj=>?_⟩
                  have hj0:j=0:=by have:=(List.getElem?_eq_some_iff.1 hj).1; omega
                  subst hj0
                  obtain⟨v,g3,g4,g5⟩:=g2 0 c hj
                  refine⟨v,?_,g4,g5.mono S.le⟩
                  rw[hput,if_neg (by omega)]
                  exact g3
                · by_cases hc2:i < off + len
                  · rw[List.getElem?_append_left (by rw[List.length_append,hlt,hlm]; omega),List.getElem?_append_right (by omega),hlt,List.getElem?_map] at hi
                    obtain⟨x,hx1,rfl⟩:=Option.map_eq_some_iff.1 hi
                    refine⟨rfl,fun j c hj=>?_⟩
                    have hj0:j=0:=by have:=(List.getElem?_eq_some_iff.1 hj).1; simp at this; omega
                    subst hj0
                    simp only[List.getElem?_cons_zero,Option.some.injEq] at hj
                    subst hj
                    refine⟨enc x,?_,h1c x,by simp[VRel]⟩
                    rw[hput,if_pos (by omega),show ((K.ι id).2.1 + i) * 1 + 0 - ((K.ι id).2.1 + off)=i - off by omega,hx1]
                    rfl
                  · rw[List.getElem?_append_right (by rw[List.length_append,hlt,hlm]; omega),List.length_append,hlt,hlm,List.getElem?_drop,show off + zs.length + (i - (off + len))=i by omega] at hi
                    obtain⟨g1,g2⟩:=o5 i r hi
                    refine⟨g1,fun j c hj=>?_⟩
                    have hj0:j=0:=by have:=(List.getElem?_eq_some_iff.1 hj).1; omega
                    subst hj0
                    obtain⟨v,g3,g4,g5⟩:=g2 0 c hj
                    refine⟨v,?_,g4,g5.mono S.le⟩
                    rw[hput,if_neg (by omega)]
                    exact g3
            · cases hp
          · cases hp
        · cases hp
    · rename_i e0
      cases e0
      cases hp
      simp only[VRel] at hr
      subst hr
      exact triv _ _ _ hr0
    · rename_i e0
      cases e0
      cases hp
      simp only[VRel] at hr
      obtain⟨A,rfl,_⟩:=hr
      exact triv _ _ _ hr0
    · cases hp
  | [],_,_,hp=>simp[cptM] at hp
  | _ :: _ :: _,_,_,hp=>simp[cptM] at hp
  | [_],[],hr,_=>simp[VRels] at hr
  | [_],_ :: _ :: _,hr,_=>simp[VRels] at hr
end
end Go.Vm
/- Numbers as texts: a known function that reads a table. -/
namespace Go.Vm
open Go Go.RowKit
theorem below_grow (w:World) (q:Nat) (os:Array Obj):Below w.heap.size w (Sort.grow (w.drewN q) os):=
  ⟨rfl,rfl,rfl,by simp[Sort.grow],fun i hi=>by
    show ((w.drewN q).heap ++ os)[i]? = _
    rw[Array.getElem?_append_left (by show i < w.heap.size; omega)]
    rfl⟩
theorem prim_itoa {P:Program} {g:FuncId} {b:Nat} (hn:P.globalNamed "internal/strconv.uint64pow10" = some b) (hb:(b,fun cs=>cs=(Lib.pow10Tab.map fun z=>Value.int .u64 z).toArray)∈glb)
    (hc:∀ n:Int, -9223372036854775808≤n→n≤9223372036854775807→∀ w:World,Lib.TabIs P w "internal/strconv.uint64pow10" .u64 Lib.pow10Tab→Calls P g #[.int .i64 n] w fun e w'=>e = .returned (.string ⟨(Lib.itoa n).toArray⟩)∧∃ k os,w' = Sort.grow (w.drewN k) os) :
    ∀ args v,itoaP args=some v→∀ (K:Cx) (base:Nat) (h:AHeap) (cargs:Array Value),HRel K base h→VRels K args cargs.toList→∀ N,CallsIn Fence.wide N P g cargs K.w (CallPost K base h K.c v):=fun args v hp K base h cargs H hr N=>by
  unfold itoaP at hp
  split at hp
  · rename_i n
    split at hp
    · rename_i hw
      cases hp
      obtain⟨cl,rfl⟩:∃ l:List Value,cargs=l.toArray:=⟨cargs.toList,by simp⟩
      match cl,hr with
      | [x],hr=>
        simp only[VRels,VRel] at hr
        obtain⟨rfl,_⟩:=hr
        refine callsIn_wide.2 ((hc n hw.1 hw.2 K.w ?_).mono ?_)
        · obtain⟨_,cs,T,fz,h2,h3⟩:=H.gl _ hb
          have h3:cs=_:=h3
          subst h3
          unfold Lib.TabIs World.var?
          rw[hn]
          show (match K.w.heap[b]? with | some (.cells cs _ _)=>some cs | _=>none)=_
          rw[h2]
        · rintro e w' ⟨rfl,k,os,rfl⟩
          exact post_below H (below_grow _ _ _) fun K'=>by simp[VRel]
      | [],hr=>simp[VRels] at hr
      | _ :: _ :: _,hr=>simp[VRels] at hr
    · cases hp
  · cases hp
end Go.Vm
/- Builders: known functions that write to them, from what they do in a world. -/
namespace Go.Vm
open Go Go.RowKit Go.Shelf
def BldStep (T e:TypeId) (b:Nat) (v:Value) (l':List UInt8) (w w':World):Prop:=
  ∃ q' v':Value,w'.heap[b]? = some (.cells #[q',v'] T (0,0))∧(q' = .pointer none∨q' = .pointer (some ⟨b,0,none⟩))∧w'.ownsRowF 0 e 1 v' l'.length (Lib.byteCells l')∧v'.ownBlock≠some b ∧
    (∀ g,v'.ownBlock=some g→v.ownBlock=some g∨w.heap.size≤g)∧(∀ c,c < w.heap.size→c≠b→v.ownBlock≠some c→w'.heap[c]? = w.heap[c]?)∧w.heap.size≤w'.heap.size∧w'.os=w.os∧w'.tape=w.tape∧w'.output=w.output
theorem bld_post {K:Cx} {base:Nat} {h:AHeap} (H:HRel K base h) {id:Nat} {l l':List UInt8} (hid:h id=some (.bld l)) {w':World} {T:TypeId} {q v:Value} (hT:bldTy=some T) (h0:(K.ι id).2.1=0)
    (hb:K.w.heap[(K.ι id).1]? = some (.cells #[q,v] T (0,0))) (hown:K.w.ownsRowF 0 bldEl 1 v l.length (Lib.byteCells l)) (hS:BldStep T bldEl (K.ι id).1 v l' K.w w') {u:AV} {x:Value} (hu:∀ K',VRel K' u x) :
    CallPost K base (h.put id (some (.bld l'))) K.c u (.returned x) w':=by
  obtain⟨q',v',s1,s2,s3,s4,s5,s6,s7,s8,s9,s10⟩:=hS
  have hhid:∀ g,v.ownBlock=some g→Hid K.w (K.ι id).1 g (.bld l):=fun g hg=>⟨q,v,T,_,hb,hg⟩
  have hhL:∀ g,v.ownBlock=some g→K.L g:=fun g hg=>(H.hd id _ g hid (hhid g hg)).1
  let K':Cx:={ K with w:=w',L:=fun c=>K.L c∨v'.ownBlock=some c }
  have hlt':∀ g,v'.ownBlock=some g→g < w'.heap.size:=fun g hg=>(s3.lt g hg).2
  have S:K.Step K':=by
    refine⟨Nat.le_refl _,fun _ _=>rfl,s8,s9,s10,s7,fun b h1 h2=>⟨s6 b h1 (fun e=>h2 (e ▸ H.L id _ hid)) (fun e=>h2 (hhL b e)),fun e=>?_⟩,rfl,fun k ⟨R,hR⟩=>⟨R,?_⟩⟩
    · rcases e with e | e
      · exact h2 e
      · rcases s5 b e with e | e
        · exact h2 (hhL b e)
        · omega
    · refine (s6 k (heap_lt_of hR) (fun e=>?_) (fun e=>?_)).trans hR
      · rw[e,hb] at hR; cases hR
      · rcases hown.2 with ⟨rfl,_⟩ | ⟨g,cap,cur,fz,rfl,_,hg,_⟩
        · simp[Value.ownBlock] at e
        · simp only[Value.ownBlock,Option.map_some,Option.some.injEq] at e
          subst e
          rw[hg] at hR; cases hR
  refine⟨K',x,rfl,rfl,S,?_,rfl,hu K'⟩
  have hsplit:∀ g,v'.ownBlock=some g→∀ j r,j≠id→h j=some r→(K.ι j).1≠g∧¬ Hid K.w (K.ι j).1 g r:=fun g hg j r hj hr=>by
    rcases s5 g hg with e | e
    · obtain⟨k1,k2⟩:=(H.hd id _ g hid (hhid g e)).2 j r hr
      exact⟨k1,k2 hj⟩
    · refine⟨fun e2=>?_,fun hh=>?_⟩
      · have:=(H.bs _ (H.L j r hr)).2; omega
      · have:=(H.bs _ (H.hd j r g hr hh).1).2; omega
  refine H.put S id _ (fun b hL h1 h2=>⟨s6 b (H.bs b hL).2 (h1 _ rfl) (fun e=>h2 _ hid (hhid b e)),.inl hL⟩) (fun b hL=>?_) (fun p hp=>?_)
  · rcases hL with hL | hL
    · exact⟨(H.bs b hL).1,Nat.lt_of_lt_of_le (H.bs b hL).2 s7⟩
    · refine⟨?_,hlt' b hL⟩
      rcases s5 b hL with e | e
      · exact (H.bs b (hhL b e)).1
      · exact Nat.le_trans H.le e
  · cases hp
    refine⟨H.lt id _ hid,.inl (H.L id _ hid),⟨h0,T,q',v',hT,s1,s2,s3,s4⟩,H.apart hid,fun g hg=>?_⟩
    obtain⟨q2,v2,T2,fz2,e1,e2⟩:=hg
    have e3:w'.heap[(K.ι id).1]? = some (.cells #[q2,v2] T2 fz2):=e1
    rw[s1] at e3
    cases e3
    exact⟨.inr e2,fun e=>s4 (e ▸ e2),hsplit g e2⟩
theorem bld_arg {K:Cx} {base:Nat} {h:AHeap} (H:HRel K base h) {id:Nat} {l:List UInt8} (hid:h id=some (.bld l)) {y:Value} (hy:VRel K (.ptr id 0 2 0) y) :
    y = .pointer (some ⟨(K.ι id).1,0,none⟩)∧(K.ι id).2.1=0∧∃ (T:TypeId) (q v:Value),bldTy=some T∧K.w.heap[(K.ι id).1]? = some (.cells #[q,v] T (0,0))∧(q = .pointer none∨q = .pointer (some ⟨(K.ι id).1,0,none⟩)) ∧
      K.w.ownsRowF 0 bldEl 1 v l.length (Lib.byteCells l)∧v.ownBlock≠some (K.ι id).1:=by
  obtain⟨h0,T,q,v,h1,h2,h3,h4,h5⟩:=H.obj id _ hid
  simp only[VRel] at hy
  exact⟨by rw[hy.2,h0],h0,T,q,v,h1,h2,h3,h4,h5⟩
def BldLaw (P:Program) (g:FuncId) (args:List Value) (ok:List UInt8→Prop) (ans:List UInt8→Value) (turn:List UInt8→List UInt8):Prop:=
  ∀ (T:TypeId) (b:Nat) (q v:Value) (l:List UInt8) (w:World),bldTy=some T→w.heap[b]? = some (.cells #[q,v] T (0,0))→(q = .pointer none∨q = .pointer (some ⟨b,0,none⟩))→w.ownsRowF 0 bldEl 1 v l.length (Lib.byteCells l)→v.ownBlock≠some b →
    ok l→Calls P g (Value.pointer (some ⟨b,0,none⟩) :: args).toArray w fun e w'=>e = .returned (ans l)∧BldStep T bldEl b v (turn l) w w'
theorem put_id {h:AHeap} {id:Nat} {o:AObj} (e:h id=some o):h.put id (some o)=h:=by
  funext j
  by_cases ej:j=id
  · subst ej; rw[AHeap.put_same,e]
  · rw[AHeap.put_other _ ej]
theorem prim_bldWrite {P:Program} {g:FuncId} (hw:∀ s:ByteArray,BldLaw P g [.string s] (fun l=>l.length + s.size≤140737488355328) (fun _=>.tuple #[.int .i64 s.size,.nilIface]) (fun l=>l ++ s.data.toList)) :
    ∀ args h n v h' n',bldWrite args h n=some (v,h',n')→∀ (K:Cx) (base:Nat) (cargs:Array Value),HRel K base h→K.c=n→VRels K args cargs.toList→∀ N,CallsIn Fence.wide N P g cargs K.w (CallPost K base h' n' v):=fun args h n v h' n' hp K base cargs H hc hr N=>by
  subst hc
  obtain⟨cl,rfl⟩:∃ l:List Value,cargs=l.toArray:=⟨cargs.toList,by simp⟩
  unfold bldWrite at hp
  split at hp
  · rename_i id b
    split at hp
    · rename_i l hid
      split at hp
      · rename_i hlen
        cases hp
        match cl,hr with
        | [y,x],hr=>
          simp only[VRels,and_true] at hr
          obtain⟨hy,hx⟩:=hr
          obtain⟨rfl,h0,T,q,v,h1,h2,h3,h4,h5⟩:=bld_arg H hid hy
          simp only[VRel] at hx
          subst hx
          refine callsIn_wide.2 ((hw b T _ q v l K.w h1 h2 h3 h4 h5 hlen).mono ?_)
          rintro e w' ⟨rfl,hS⟩
          exact bld_post H hid h1 h0 h2 h4 hS (fun K'=>by simp[VRel,VRels])
        | [],hr=>simp[VRels] at hr
        | [_],hr=>simp[VRels] at hr
        | _ :: _ :: _ :: _,hr=>simp[VRels] at hr
      · cases hp
    · cases hp
  · cases hp
theorem prim_bldText {P:Program} {g:FuncId} (hw:BldLaw P g [] (fun _=>True) (fun l=>.string ⟨l.toArray⟩) id) :
    ∀ args h n v h' n',bldText args h n=some (v,h',n')→∀ (K:Cx) (base:Nat) (cargs:Array Value),HRel K base h→K.c=n→VRels K args cargs.toList→∀ N,CallsIn Fence.wide N P g cargs K.w (CallPost K base h' n' v):=fun args h n v h' n' hp K base cargs H hc hr N=>by
  subst hc
  obtain⟨cl,rfl⟩:∃ l:List Value,cargs=l.toArray:=⟨cargs.toList,by simp⟩
  unfold bldText at hp
  split at hp
  · rename_i i
    split at hp
    · rename_i l hid
      cases hp
      match cl,hr with
      | [y],hr=>
        simp only[VRels,and_true] at hr
        obtain⟨rfl,h0,T,q,v,h1,h2,h3,h4,h5⟩:=bld_arg H hid hr
        refine callsIn_wide.2 ((hw T _ q v l K.w h1 h2 h3 h4 h5 trivial).mono ?_)
        rintro e w' ⟨rfl,hS⟩
        have:=bld_post (u:=.s (.string ⟨l.toArray⟩)) (x:=.string ⟨l.toArray⟩) H hid h1 h0 h2 h4 hS (fun K'=>by simp[VRel])
        rw[id,put_id hid] at this
        exact this
      | [],hr=>simp[VRels] at hr
      | _ :: _ :: _,hr=>simp[VRels] at hr
    · cases hp
  · cases hp
end Go.Vm
/- Builders: what WriteString does in a world, and that it turns nothing but the builder and its bytes. -/
namespace Go.Vm
open Go Go.RowKit Go.Shelf Go.Proofs
theorem ownsRowF_base {w:World} {b b':Nat} {e:TypeId} {size n:Nat} {v:Value} {xs:List Value} (h:w.ownsRowF b e size v n xs) (hb:b'≤b):w.ownsRowF b' e size v n xs:=by
  refine⟨h.1,?_⟩
  rcases h.2 with hn | ⟨g,cap,cur,fz,rfl,h1,h2⟩
  · exact .inl hn
  · exact .inr ⟨g,cap,cur,fz,rfl,Nat.le_trans hb h1,h2⟩
theorem append_block {P:Program} (w:World) (t u ty e:TypeId) (i:TypeInfo) (ht:P.underlying t=some (.slice e)) (hu:P.underlying u=some .string) (hi:P.info? e=some i) (hz:i.zero=some (.int .u8 0))
    (hsize:i.size=1) (hby:i.bytes=1) (v:Value) (n:Nat) (xs:List Value) (hown:w.ownsRowF 0 e 1 v n xs) (s:ByteArray) (h63:n + s.size≤maxLen) (hbytes:n + s.size≤140737488355328) :
    ∃ v' w',(Builtin.append_ #[t,u] ty #[v,.string s]).run P w = .ok v' w'∧w'.ownsRowF 0 e 1 v' (n + s.size) (xs ++ Lib.strCells s)∧w.grownBy w' v.ownBlock∧∀ g,v'.ownBlock=some g→v.ownBlock=some g∨w.heap.size≤g:=by
  rcases hown.2 with ⟨rfl,rfl⟩ | ⟨g,cap,cur,fz,rfl,hbg,hg,hfz,hnc,hcm,hcs,htake⟩
  · obtain⟨v',w',h1,h2,h3,_⟩:=Lib.run_append_own_stringF (P:=P) (w:=w) w.heap.size t u ty e i ht hu hi hz hsize hby (.slice none 0 0) 0 xs ⟨hown.1,.inl ⟨rfl,rfl⟩⟩ s h63 hbytes (Nat.le_refl _)
    exact⟨v',w',h1,ownsRowF_base h2 (Nat.zero_le _),h3,fun g hg=>.inr (h2.lt g hg).1⟩
  · obtain⟨v',w',h1,h2,h3,_⟩:=Lib.run_append_own_stringF (P:=P) (w:=w) 0 t u ty e i ht hu hi hz hsize hby _ n xs hown s h63 hbytes (Nat.zero_le _)
    refine⟨v',w',h1,h2,h3,?_⟩
    have hxl:xs.length=n:=by simpa using hown.1
    have hsmall:n + s.size≤9223372036854775807:=by simp only[maxLen] at h63; omega
    by_cases hroom:n + s.size≤cap
    · have hcs':cur.size=cap:=by simpa using hcs
      have hr:=Lib.run_append_room_stringF (P:=P) w t u ty e i ht hu hi hsize g n cap cur fz hg (by simpa using hfz) s hroom (by omega)
      rw[h1] at hr
      cases hr
      exact fun g' hg'=>.inl hg'
    · have holds:∀ j u,xs[j]? = some u→w.cell? ((⟨g,0,none⟩:Addr).add j)=some u:=hown.cells (g:=g) rfl
      have hr:=Lib.run_append_grow_string (P:=P) w t u ty e i (.int .u8 0) ht hu hi hz ⟨g,0,none⟩ n cap xs (by rw[hsize]; simpa using hxl) holds s (by omega) (by omega) (by rw[hby]; exact growslice_fits (by omega) (by omega))
      rw[h1] at hr
      cases hr
      intro g' hg'
      simp only[Value.ownBlock,Option.map_some,Option.some.injEq] at hg'
      exact .inr (by rw[← hg']; exact Nat.le_refl _)
theorem wp_append_block {P:Program} {w:World} {ops:Array Oper} {rest:List Oper} {o:Oper} {a:Act} {Q:Exit→Act→World→Prop} (hgd:o.guard=none) (sl x:Operand) (t u:TypeId)
    (ho:o.op = .call { callee:=.builtin .append,args:=#[sl,x],argTypes:=#[t,u] }) (e:TypeId) (i:TypeInfo) (ht:P.underlying t=some (.slice e)) (hu:P.underlying u=some .string) (hi:P.info? e=some i) (hz:i.zero=some (.int .u8 0))
    (hsize:i.size=1) (hby:i.bytes=1) (v:Value) (n:Nat) (xs:List Value) (hs:a.eval sl=v) (hown:w.ownsRowF 0 e 1 v n xs) (s:ByteArray) (hx:a.eval x = .string s) (h63:n + s.size≤maxLen) (hbytes:n + s.size≤140737488355328)
    (h:∀ v' w',w'.ownsRowF 0 e 1 v' (n + s.size) (xs ++ Lib.strCells s)→w.grownBy w' v.ownBlock→(∀ g,v'.ownBlock=some g→v.ownBlock=some g∨w.heap.size≤g)→wpList P ops Q rest (a.put o.dst v') w'):wpList P ops Q (o :: rest) a w:=by
  refine wpList_plain hgd fun K hK=>?_
  obtain⟨v',w',hr,h2,h3,h4⟩:=append_block (P:=P) w t u o.type e i ht hu hi hz hsize hby v n xs hown s h63 hbytes
  unfold Oper.wp execOp
  simp only[ho,resolve,invoke,builtin,Sem.run_bind,Sem.run_pure,Result.andThen_ok,List.map_toArray,List.map_cons,List.map_nil,hs,hx,hr]
  exact hK _ _ (h v' w' h2 h3 h4)
theorem bld_cell {w:World} {b:Nat} {q v:Value} {T:TypeId} (hb:w.heap[b]? = some (.cells #[q,v] T (0,0))) (p:Nat) (x:Value) :
    (w.setCell ⟨b,p,none⟩ x).heap[b]? = some (.cells (#[q,v].setIfInBounds p x) T (0,0))∧(∀ c,c≠b→(w.setCell ⟨b,p,none⟩ x).heap[c]? = w.heap[c]?)∧(w.setCell ⟨b,p,none⟩ x).heap.size=w.heap.size:=by
  rw[setCell_blk hb]
  exact⟨setBlk_same hb,fun c hc=>setBlk_other hc,setBlk_size⟩
variable {P:Program} {ρ:Ren}
theorem bld_check (L:Lays.n240 P ρ) (X:Builder.X72 P ρ) {b:Nat} {q v:Value} {w:World} (hb:w.heap[b]? = some (.cells #[q,v] (ρ.t 72) (0,0))) (hq:q = .pointer none∨q = .pointer (some ⟨b,0,none⟩)) :
    Calls P (ρ.f 240) #[.pointer (some ⟨b,0,none⟩)] w fun e w1=>e = .returned (.tuple #[])∧w1.heap[b]? = some (.cells #[.pointer (some ⟨b,0,none⟩),v] (ρ.t 72) (0,0))∧(∀ c,c≠b→w1.heap[c]? = w.heap[c]?)∧w1.heap.size=w.heap.size∧w1.os=w.os∧w1.tape=w.tape∧w1.output=w.output:=by
  have c0:w.cell? ⟨b,0,none⟩=some q:=by rw[Lib.cell_of_heap hb]; rfl
  rcases hq with rfl | rfl
  · refine (Any.Builder_copyCheck_fresh L X b w c0 (by simp[World.shape?,hb]) (Lib.frozen_of_heap hb 0)).mono ?_
    rintro e w' ⟨rfl,rfl⟩
    obtain⟨k1,k2,k3⟩:=bld_cell hb 0 (.pointer (some ⟨b,0,none⟩))
    exact⟨rfl,k1,k2,k3,rfl,rfl,rfl⟩
  · refine (Any.Builder_copyCheck_used L X b w c0).mono ?_
    rintro e w' ⟨rfl,rfl⟩
    exact⟨rfl,hb,fun _ _=>rfl,rfl,rfl,rfl,rfl⟩
theorem ownsRowF_same {w w':World} {e:TypeId} {n:Nat} {v:Value} {xs:List Value} {b:Nat} (h:w.ownsRowF 0 e 1 v n xs) (hne:v.ownBlock≠some b) (hs:∀ c,c≠b→w'.heap[c]? = w.heap[c]?):w'.ownsRowF 0 e 1 v n xs:=
  ownsRowF_turn h fun g hg=>hs g fun e=>hne (e ▸ hg)
set_option maxHeartbeats 2000000 in
set_option maxRecDepth 100000 in
theorem bld_WriteString (L:Lays.n166 P ρ) (X:Builder.Extra P ρ) (hT:bldTy=some (ρ.t 72)) (he:bldEl=ρ.t 5) (s:ByteArray) :
    BldLaw P (ρ.f 166) [.string s] (fun l=>l.length + s.size≤140737488355328) (fun _=>.tuple #[.int .i64 s.size,.nilIface]) (fun l=>l ++ s.data.toList):=by
  intro T b q v l w hT' hbk hq hown hne hlen
  rw[hT] at hT'
  cases hT'
  rw[he] at hown ⊢
  obtain⟨i0,hi,hz0,hz1,hz2⟩:=info_parts X.infoByte
  have mixed:=L.mixed
  have t72:=L.t72; have a72:=L.a72; have z72:=L.z72; have v72:=L.v72; have u72:=run_underlying L.t72
  have t70:=L.t70; have a70:=L.a70; have z70:=L.z70; have v70:=L.v70; have u70:=run_underlying L.t70
  have t37:=L.t37; have a37:=L.a37; have z37:=L.z37; have v37:=L.v37; have u37:=run_underlying L.t37
  have t3:=L.t3; have a3:=L.a3; have z3:=L.z3; have v3:=L.v3; have u3:=run_underlying L.t3
  have t9:=L.t9; have a9:=L.a9; have z9:=L.z9; have v9:=L.v9; have u9:=run_underlying L.t9
  have t4:=L.t4; have a4:=L.a4; have z4:=L.z4; have v4:=L.v4; have u4:=run_underlying L.t4
  have t164:=L.t164; have a164:=L.a164; have z164:=L.z164; have v164:=L.v164; have u164:=run_underlying L.t164
  have t5:=X.t5; have a5:=X.a5; have z5:=X.z5; have v5:=X.v5; have u5:=run_underlying X.t5
  have e240:∀ args w,(callFunc (ρ.f 240) args).run P w = .ok (.enter (ρ.f 240) args) w:=enters_of L.f240 (by kernel_rfl) rfl
  go_enter L.f166,Body.n166_ntmps ρ
  go_wp2_with (go_at_fn (ρ.f 240); refine (bld_check { L with } X.toX72 hbk hq).mono ?_)
  rintro e w1 ⟨rfl,hb1,hs1,hz,ho1,ht1,hu1⟩
  have hown1:=ownsRowF_same hown hne hs1
  have c0:w1.cell? ⟨b,0,none⟩=some (.pointer (some ⟨b,0,none⟩)):=by rw[Lib.cell_of_heap hb1]; rfl
  have c1:w1.cell? ⟨b,1,none⟩=some v:=by rw[Lib.cell_of_heap hb1]; rfl
  go_wp2_with (at_builtin; refine wp_append_block rfl _ _ (ρ.t 37) (ρ.t 9) rfl (ρ.t 5) i0 L.t37 L.t9 hi hz0 hz1 hz2 _ _ _ rfl hown1 s rfl ?c3 ?c4 ?_)
  case c3=>unfold maxLen; omega
  case c4=>omega
  intro v' w2 hown' hgrow hblk
  have hlt:b < w1.heap.size:=heap_lt_of hb1
  have hb2:w2.heap[b]? = some (.cells #[.pointer (some ⟨b,0,none⟩),v] (ρ.t 72) (0,0)):=by
    rw[hgrow.block b hlt (fun e=>hne e.symm)]
    exact hb1
  have d0:w2.cell? ⟨b,0,none⟩=some (.pointer (some ⟨b,0,none⟩)):=by rw[Lib.cell_of_heap hb2]; rfl
  have d1:w2.cell? ⟨b,1,none⟩=some v:=by rw[Lib.cell_of_heap hb2]; rfl
  have f1:w2.frozen? ⟨b,1,none⟩=false:=Lib.frozen_of_heap hb2 1
  obtain⟨ao,n',cap,rfl⟩:∃ ao n' cap,v' = .slice ao n' cap:=by
    rcases hown'.2 with ⟨hv,_⟩ | ⟨g,cap,cur,fz,hv,_⟩
    · exact⟨_,_,_,hv⟩
    · exact⟨_,_,_,hv⟩
  go_wp2
  go_ret2
  obtain⟨k1,k2,k3⟩:=bld_cell hb2 1 (.slice ao n' cap)
  have hxs:Lib.byteCells l ++ Lib.strCells s=Lib.byteCells (l ++ s.data.toList):=by simp[Lib.byteCells,Lib.strCells]
  have hn:l.length + s.size=(l ++ s.data.toList).length:=by rw[List.length_append,Array.length_toList]; rfl
  have hne':(Value.slice ao n' cap).ownBlock≠some b:=fun e=>by
    rcases hblk b e with h | h
    · exact hne h
    · omega
  refine⟨rfl,.pointer (some ⟨b,0,none⟩),.slice ao n' cap,k1,.inr rfl,?_,hne',fun g hg=>?_,fun c h1 h2 h3=>?_,?_,?_,?_,?_⟩
  · rw[hxs,hn] at hown'
    exact ownsRowF_same hown' hne' k2
  · exact hblk g hg
  · rw[k2 c h2,hgrow.block c (by omega) (fun e=>h3 e.symm),hs1 c h2]
  · have:=hgrow.size; omega
  · exact hgrow.os.trans ho1
  · exact hgrow.tape.trans ht1
  · exact hgrow.output.trans hu1
end Go.Vm
/- Builders: what String does in a world. -/
namespace Go.Vm
open Go Go.RowKit Go.Shelf Go.Proofs
theorem bldStep_same {T e:TypeId} {b:Nat} {q v:Value} {l:List UInt8} {w w':World} (hb:w.heap[b]? = some (.cells #[q,v] T (0,0))) (hq:q = .pointer none∨q = .pointer (some ⟨b,0,none⟩)) (hown:w.ownsRowF 0 e 1 v l.length (Lib.byteCells l)) (hne:v.ownBlock≠some b)
    (hs:∀ c,c < w.heap.size→w'.heap[c]? = w.heap[c]?) (hz:w.heap.size≤w'.heap.size) (ho:w'.os=w.os) (ht:w'.tape=w.tape) (hu:w'.output=w.output):BldStep T e b v l w w':=
  ⟨q,v,(hs b (heap_lt_of hb)).trans hb,hq,ownsRowF_turn hown (fun g hg=>hs g (hown.lt g hg).2),hne,fun g hg=>.inl hg,fun c h _ _=>hs c h,hz,ho,ht,hu⟩
theorem bldStep_freeze {T e:TypeId} {b g cap:Nat} {q:Value} {l:List UInt8} {w w':World} (hb:w.heap[b]? = some (.cells #[q,.slice (some ⟨g,0,none⟩) l.length cap] T (0,0))) (hq:q = .pointer none∨q = .pointer (some ⟨b,0,none⟩))
    (hown:w.ownsRowF 0 e 1 (.slice (some ⟨g,0,none⟩) l.length cap) l.length (Lib.byteCells l)) (hne:(Value.slice (some ⟨g,0,none⟩) l.length cap).ownBlock≠some b)
    (hh:w'.heap=w.heap) (ho:w'.os=w.os) (ht:w'.tape=w.tape) (hu:w'.output=w.output):BldStep T e b (.slice (some ⟨g,0,none⟩) l.length cap) l w (w'.freeze ⟨g,0,none⟩ l.length):=by
  have hgb:g≠b:=fun e=>hne (by simp[Value.ownBlock,e])
  have hoth:∀ c,c≠g→(w'.freeze ⟨g,0,none⟩ l.length).heap[c]? = w.heap[c]?:=fun c hc=>by
    unfold World.freeze
    split
    · rw[hh]
    · simp only[Array.getElem?_modify]
      rw[if_neg (Ne.symm hc),hh]
  have hA:Lib.BuilderAtF T e 0 b q (Lib.byteCells l) w':=⟨Nat.zero_le _,_,by rw[hh]; exact hb,by rw[Lib.byteCells_length]; exact ownsRowF_turn hown (fun g _=>by rw[hh]),hne⟩
  have hF:=hA.froze (g:=g) (cap:=cap) (by rw[Lib.byteCells_length,Lib.cell_of_heap (show w'.heap[b]? = _ by rw[hh]; exact hb)]; rfl)
  rw[Lib.byteCells_length] at hF
  obtain⟨_,v2,e1,e2,e3⟩:=hF
  rw[hoth b (Ne.symm hgb),hb] at e1
  cases e1
  rw[Lib.byteCells_length] at e2
  refine⟨q,_,(hoth b (Ne.symm hgb)).trans hb,hq,e2,e3,fun g hg=>.inl hg,fun c _ _ h3=>hoth c (fun e=>h3 (by simp[Value.ownBlock,e])),?_,?_,?_,?_⟩
  · unfold World.freeze; split
    · rw[hh]; exact Nat.le_refl _
    · simp[hh]
  all_goals (unfold World.freeze; split <;> assumption)
variable {P:Program} {ρ:Ren}
set_option maxHeartbeats 2000000 in
set_option maxRecDepth 100000 in
theorem bld_Text (L:Lays.n169 P ρ) (X:Builder.Extra P ρ) (hT:bldTy=some (ρ.t 72)) (he:bldEl=ρ.t 5):BldLaw P (ρ.f 169) [] (fun _=>True) (fun l=>.string ⟨l.toArray⟩) id:=by
  intro T b q v l w hT' hbk hq hown hne _
  rw[hT] at hT'
  cases hT'
  rw[he] at hown ⊢
  show Calls P (ρ.f 169) #[.pointer (some ⟨b,0,none⟩)] w fun e w'=>e = .returned (.string ⟨l.toArray⟩)∧BldStep (ρ.t 72) (ρ.t 5) b v l w w'
  have hlt:b < w.heap.size:=heap_lt_of hbk
  have mixed:=L.mixed
  have t72:=L.t72; have a72:=L.a72; have z72:=L.z72; have v72:=L.v72; have u72:=run_underlying L.t72
  have t70:=L.t70; have a70:=L.a70; have z70:=L.z70; have v70:=L.v70; have u70:=run_underlying L.t70
  have t37:=L.t37; have a37:=L.a37; have z37:=L.z37; have v37:=L.v37; have u37:=run_underlying L.t37
  have t127:=L.t127; have a127:=L.a127; have z127:=L.z127; have v127:=L.v127; have u127:=run_underlying L.t127
  have t3:=L.t3; have a3:=L.a3; have z3:=L.z3; have v3:=L.v3; have u3:=run_underlying L.t3
  have t9:=L.t9; have a9:=L.a9; have z9:=L.z9; have v9:=L.v9; have u9:=run_underlying L.t9
  have t5:=X.t5; have a5:=X.a5; have z5:=X.z5; have v5:=X.v5; have u5:=run_underlying X.t5
  have hown0:=hown
  rcases hown.2 with ⟨rfl,hn⟩ | ⟨g,cap,cur,fz,rfl,hbg,hg,hfz,hnc,hcm,hcs,htake⟩
  · have hl:l=[]:=List.eq_nil_of_length_eq_zero hn
    subst hl
    have hUS:=Any.unsafeString_none L X
    have c1:w.drew.cell? ⟨b,1,none⟩=some (.slice none 0 0):=by
      have:w.drew.heap[b]? = some (.cells #[q,.slice none 0 0] (ρ.t 72) (0,0)):=hbk
      rw[Lib.cell_of_heap this]; rfl
    have hSD:(Builtin.unsafeSliceData_ #[(ρ.t 37)] (ρ.t 127) #[.slice none 0 0]).run P w.drew = .ok (.pointer none) w.drew:=rfl
    have hS:BldStep (ρ.t 72) (ρ.t 5) b (.slice none 0 0) [] w w.drew:=bldStep_same hbk hq hown hne (fun _ _=>rfl) (Nat.le_refl _) rfl rfl rfl
    go_enter L.f169,Body.n169_ntmps ρ
    go_wp2
    go_region_o
    all_goals (go_wp2; go_ret; exact⟨rfl,hS⟩)
  · have c1:w.drew.cell? ⟨b,1,none⟩=some (.slice (some ⟨g,0,none⟩) l.length cap):=by
      have:w.drew.heap[b]? = some (.cells #[q,.slice (some ⟨g,0,none⟩) l.length cap] (ρ.t 72) (0,0)):=hbk
      rw[Lib.cell_of_heap this]; rfl
    by_cases h0:l=[]
    · subst h0
      have hUS:=Any.unsafeString_none L X
      by_cases hc0:cap=0
      · subst hc0
        have hSD:(Builtin.unsafeSliceData_ #[(ρ.t 37)] (ρ.t 127) #[.slice (some ⟨g,0,none⟩) 0 0]).run P w.drew = .ok (.pointer (some ⟨w.drew.heap.size,0,none⟩)) (w.drew.alloc (.view ⟨g,0,none⟩ (ρ.t 5))):=
          Lib.run_unsafeSliceData_zero w.drew _ _ (ρ.t 5) L.t127 ⟨g,0,none⟩ 0 ((ρ.t 5),cur.size) (by have hg':w.drew.heap[g]? = some (.cells cur (ρ.t 5) fz):=hg; simp[World.shape?,hg'])
        have c2:(w.drew.alloc (.view ⟨g,0,none⟩ (ρ.t 5))).cell? ⟨b,1,none⟩=some (.slice (some ⟨g,0,none⟩) 0 0):=by
          have:(w.drew.alloc (.view ⟨g,0,none⟩ (ρ.t 5))).heap[b]? = _:=(Lib.alloc_old w.drew _ b hlt).trans hbk
          rw[Lib.cell_of_heap this]; rfl
        have c3:(w.alloc (.view ⟨g,0,none⟩ (ρ.t 5))).drew.cell? ⟨b,1,none⟩=some (.slice (some ⟨g,0,none⟩) 0 0):=c2
        have cc:w.cell? ⟨b,1,none⟩=some (.slice (some ⟨g,0,none⟩) 0 0):=c1
        have hS:BldStep (ρ.t 72) (ρ.t 5) b (.slice (some ⟨g,0,none⟩) 0 0) [] w (w.drew.alloc (.view ⟨g,0,none⟩ (ρ.t 5))):=bldStep_same hbk hq hown0 hne (fun c hc=>heap_alloc_lt w.drew _ hc) (by simp) rfl rfl rfl
        go_enter L.f169,Body.n169_ntmps ρ
        go_wp2
        go_region_o
        all_goals (go_wp2; go_ret; exact⟨rfl,hS⟩)
      · have hSD:(Builtin.unsafeSliceData_ #[(ρ.t 37)] (ρ.t 127) #[.slice (some ⟨g,0,none⟩) 0 cap]).run P w.drew = .ok (.pointer (some ⟨g,0,none⟩)) w.drew:=
          Lib.run_unsafeSliceData_row _ _ _ _ _ _ hc0
        have hS:BldStep (ρ.t 72) (ρ.t 5) b (.slice (some ⟨g,0,none⟩) 0 cap) [] w w.drew:=bldStep_same hbk hq hown0 hne (fun _ _=>rfl) (Nat.le_refl _) rfl rfl rfl
        clear hc0
        go_enter L.f169,Body.n169_ntmps ρ
        go_wp2
        go_region_o
        all_goals (go_wp2; go_ret; exact⟨rfl,hS⟩)
    · have hl0:l.length≠0:=by simpa using h0
      have hSD:(Builtin.unsafeSliceData_ #[(ρ.t 37)] (ρ.t 127) #[.slice (some ⟨g,0,none⟩) l.length cap]).run P w.drew = .ok (.pointer (some ⟨g,0,none⟩)) w.drew:=
        Lib.run_unsafeSliceData_row _ _ _ _ _ _ (by omega)
      have hUS:(Builtin.unsafeString_ #[(ρ.t 127),(ρ.t 3)] (ρ.t 9) #[.pointer (some ⟨g,0,none⟩),.int .i64 l.length]).run P w.drew = .ok (.string ⟨l.toArray⟩) (w.drew.freeze ⟨g,0,none⟩ l.length):=by
        refine Lib.run_unsafeString_row w.drew (ρ.t 127) (ρ.t 3) (ρ.t 9) (ρ.t 5) L.t127 X.cellsByte g cur.size (by have hg':w.drew.heap[g]? = some (.cells cur (ρ.t 5) fz):=hg; simp[World.shape?,hg']) l h0 (by omega) (by unfold maxLen at hcm; omega) ?_
        intro j x hx
        have:=hown0.cells (g:=g) rfl j (.int .u8 x.toNat) (by simp[Lib.byteCells,hx])
        exact this
      have hS:BldStep (ρ.t 72) (ρ.t 5) b (.slice (some ⟨g,0,none⟩) l.length cap) l w (w.drew.freeze ⟨g,0,none⟩ l.length):=bldStep_freeze hbk hq hown0 hne rfl rfl rfl rfl
      go_enter L.f169,Body.n169_ntmps ρ
      go_wp2
      go_region_o
      all_goals (go_wp2; go_ret; exact⟨rfl,hS⟩)
end Go.Vm
set_option maxRecDepth 100000
namespace Go.Proofs
open Go.Shelf
def Tryd.z171f:Nat→Nat
  | 171=>54
  | 243=>80
  | 246=>109
  | 283=>122
  | 284=>123
  | 285=>124
  | 286=>125
  | 129=>93
  | 317=>133
  | 318=>134
  | 319=>135
  | 320=>136
  | 337=>140
  | 338=>141
  | n=>n
def Tryd.z171t:Nat→Nat
  | 3=>3
  | 9=>9
  | 2=>2
  | 4=>4
  | 171=>148
  | 0=>0
  | 53=>34
  | 37=>81
  | 5=>5
  | 173=>150
  | 212=>162
  | 51=>33
  | 20=>20
  | 213=>163
  | 46=>104
  | 232=>175
  | 233=>176
  | n=>n
def Tryd.z171g:Nat→Nat
  | 17=>0
  | 18=>3
  | 19=>4
  | n=>n
def Tryd.z171r:Ren:=⟨Tryd.z171f,Tryd.z171t,Tryd.z171g⟩
theorem Tryd.z171:LaysM.n171 Tryd.prog Tryd.z171r where
  mixed:=by kernel_rfl
  f129:=by kernel_rfl
  f171:=by kernel_rfl
  f243:=by kernel_rfl
  f246:=by kernel_rfl
  f283:=by kernel_rfl
  f284:=by kernel_rfl
  f285:=by kernel_rfl
  f286:=by kernel_rfl
  f317:=by kernel_rfl
  f318:=by kernel_rfl
  f319:=by kernel_rfl
  f320:=by kernel_rfl
  f337:=by kernel_rfl
  f338:=by kernel_rfl
  t0:=Tryd.underlying0
  a0:=Tryd.isAgg0
  z0:=Tryd.sizeOf0
  v0:=Tryd.zeroValue0
  t2:=Tryd.underlying2
  a2:=Tryd.isAgg2
  z2:=Tryd.sizeOf2
  v2:=Tryd.zeroValue2
  t3:=Tryd.underlying3
  a3:=Tryd.isAgg3
  z3:=Tryd.sizeOf3
  v3:=Tryd.zeroValue3
  t4:=Tryd.underlying4
  a4:=Tryd.isAgg4
  z4:=Tryd.sizeOf4
  v4:=Tryd.zeroValue4
  t5:=Tryd.underlying5
  a5:=Tryd.isAgg5
  z5:=Tryd.sizeOf5
  v5:=Tryd.zeroValue5
  t9:=Tryd.underlying9
  a9:=Tryd.isAgg9
  z9:=Tryd.sizeOf9
  v9:=Tryd.zeroValue9
  t20:=Tryd.underlying20
  a20:=Tryd.isAgg20
  z20:=Tryd.sizeOf20
  v20:=Tryd.zeroValue20
  t37:=Tryd.underlying81
  a37:=Tryd.isAgg81
  z37:=Tryd.sizeOf81
  v37:=Tryd.zeroValue81
  t46:=Tryd.underlying104
  a46:=Tryd.isAgg104
  z46:=Tryd.sizeOf104
  v46:=Tryd.zeroValue104
  t51:=Tryd.underlying33
  a51:=Tryd.isAgg33
  z51:=Tryd.sizeOf33
  v51:=Tryd.zeroValue33
  t53:=Tryd.underlying34
  a53:=Tryd.isAgg34
  z53:=Tryd.sizeOf34
  v53:=Tryd.zeroValue34
  t171:=Tryd.underlying148
  a171:=Tryd.isAgg148
  z171:=Tryd.sizeOf148
  v171:=Tryd.zeroValue148
  t173:=Tryd.underlying150
  a173:=Tryd.isAgg150
  z173:=Tryd.sizeOf150
  v173:=Tryd.zeroValue150
  t212:=Tryd.underlying162
  a212:=Tryd.isAgg162
  z212:=Tryd.sizeOf162
  v212:=Tryd.zeroValue162
  t213:=Tryd.underlying163
  a213:=Tryd.isAgg163
  z213:=Tryd.sizeOf163
  t232:=Tryd.underlying175
  a232:=Tryd.isAgg175
  z232:=Tryd.sizeOf175
  v232:=Tryd.zeroValue175
  t233:=Tryd.underlying176
  a233:=Tryd.isAgg176
  z233:=Tryd.sizeOf176
  v233:=Tryd.zeroValue176
  g17:=by kernel_rfl
  g18:=by kernel_rfl
  g19:=by kernel_rfl
  i0:=by kernel_rfl
  i2:=by kernel_rfl
  i3:=by kernel_rfl
  i4:=by kernel_rfl
  i5:=by kernel_rfl
  i9:=by kernel_rfl
  i20:=by kernel_rfl
  i37:=by kernel_rfl
  i46:=by kernel_rfl
  i51:=by kernel_rfl
  i53:=by kernel_rfl
  i171:=by kernel_rfl
  i173:=by kernel_rfl
  i212:=by kernel_rfl
  i232:=by kernel_rfl
  i233:=by kernel_rfl
  m17:=by kernel_rfl
  m18:=by kernel_rfl
  m19:=by kernel_rfl
def Tryd.z166f:Nat→Nat
  | 166=>53
  | 240=>79
  | 276=>108
  | n=>n
def Tryd.z166t:Nat→Nat
  | 70=>80
  | 9=>9
  | 3=>3
  | 75=>85
  | 0=>0
  | 72=>83
  | 37=>81
  | 4=>4
  | 164=>134
  | 80=>89
  | 5=>5
  | n=>n
def Tryd.z166g:Nat→Nat
  | n=>n
def Tryd.z166r:Ren:=⟨Tryd.z166f,Tryd.z166t,Tryd.z166g⟩
theorem Tryd.z166:Lays.n166 Tryd.prog Tryd.z166r where
  mixed:=by kernel_rfl
  f166:=by kernel_rfl
  f240:=by kernel_rfl
  f276:=by kernel_rfl
  t0:=by kernel_rfl
  a0:=Tryd.isAgg0
  z0:=Tryd.sizeOf0
  v0:=Tryd.zeroValue0
  t3:=by kernel_rfl
  a3:=Tryd.isAgg3
  z3:=Tryd.sizeOf3
  v3:=Tryd.zeroValue3
  t4:=by kernel_rfl
  a4:=Tryd.isAgg4
  z4:=Tryd.sizeOf4
  v4:=Tryd.zeroValue4
  t9:=by kernel_rfl
  a9:=Tryd.isAgg9
  z9:=Tryd.sizeOf9
  v9:=Tryd.zeroValue9
  t20:=by kernel_rfl
  a20:=Tryd.isAgg20
  z20:=Tryd.sizeOf20
  v20:=Tryd.zeroValue20
  t37:=by kernel_rfl
  a37:=Tryd.isAgg81
  z37:=Tryd.sizeOf81
  v37:=Tryd.zeroValue81
  t70:=by kernel_rfl
  a70:=Tryd.isAgg80
  z70:=Tryd.sizeOf80
  v70:=Tryd.zeroValue80
  t72:=by kernel_rfl
  a72:=Tryd.isAgg83
  z72:=Tryd.sizeOf83
  v72:=Tryd.zeroValue83
  t75:=by kernel_rfl
  a75:=Tryd.isAgg85
  z75:=Tryd.sizeOf85
  v75:=Tryd.zeroValue85
  t164:=by kernel_rfl
  a164:=Tryd.isAgg134
  z164:=Tryd.sizeOf134
  v164:=Tryd.zeroValue134
theorem Tryd.z166x:Builder.Extra Tryd.prog Tryd.z166r where
  sizeBuilder:=by kernel_rfl
  liesBuilder:=by kernel_rfl
  t5:=by kernel_rfl
  a5:=Tryd.isAgg5
  z5:=Tryd.sizeOf5
  v5:=Tryd.zeroValue5
  infoByte:=by kernel_rfl
  cellsByte:=by kernel_rfl
  sizeByte:=by kernel_rfl
  neB5:=by decide
def Tryd.z169f:Nat→Nat
  | 169=>55
  | n=>n
def Tryd.z169t:Nat→Nat
  | 70=>80
  | 9=>9
  | 0=>0
  | 72=>83
  | 37=>81
  | 127=>114
  | 3=>3
  | 5=>5
  | n=>n
def Tryd.z169g:Nat→Nat
  | n=>n
def Tryd.z169r:Ren:=⟨Tryd.z169f,Tryd.z169t,Tryd.z169g⟩
theorem Tryd.z169:Lays.n169 Tryd.prog Tryd.z169r where
  mixed:=by kernel_rfl
  f169:=by kernel_rfl
  t0:=Tryd.underlying0
  a0:=Tryd.isAgg0
  z0:=Tryd.sizeOf0
  v0:=Tryd.zeroValue0
  t3:=Tryd.underlying3
  a3:=Tryd.isAgg3
  z3:=Tryd.sizeOf3
  v3:=Tryd.zeroValue3
  t9:=Tryd.underlying9
  a9:=Tryd.isAgg9
  z9:=Tryd.sizeOf9
  v9:=Tryd.zeroValue9
  t37:=Tryd.underlying81
  a37:=Tryd.isAgg81
  z37:=Tryd.sizeOf81
  v37:=Tryd.zeroValue81
  t70:=Tryd.underlying80
  a70:=Tryd.isAgg80
  z70:=Tryd.sizeOf80
  v70:=Tryd.zeroValue80
  t72:=Tryd.underlying83
  a72:=Tryd.isAgg83
  z72:=Tryd.sizeOf83
  v72:=Tryd.zeroValue83
  t127:=Tryd.underlying114
  a127:=Tryd.isAgg114
  z127:=Tryd.sizeOf114
  v127:=Tryd.zeroValue114
theorem Tryd.z169x:Builder.Extra Tryd.prog Tryd.z169r where
  sizeBuilder:=by kernel_rfl
  liesBuilder:=by kernel_rfl
  t5:=by kernel_rfl
  a5:=Tryd.isAgg5
  z5:=Tryd.sizeOf5
  v5:=Tryd.zeroValue5
  infoByte:=by kernel_rfl
  cellsByte:=by kernel_rfl
  sizeByte:=by kernel_rfl
  neB5:=by decide
def Tryd.z20f:Nat→Nat
  | 20=>33
  | n=>n
def Tryd.z20t:Nat→Nat
  | 22=>23
  | 3=>3
  | 4=>4
  | 0=>0
  | n=>n
def Tryd.z20g:Nat→Nat
  | n=>n
def Tryd.z20r:Ren:=⟨Tryd.z20f,Tryd.z20t,Tryd.z20g⟩
theorem Tryd.z20:Lays2.n20 Tryd.prog Tryd.z20r where
  mixed:=by kernel_rfl
  f20:=by kernel_rfl
  t0:=Tryd.underlying0
  a0:=Tryd.isAgg0
  z0:=Tryd.sizeOf0
  v0:=Tryd.zeroValue0
  t3:=Tryd.underlying3
  a3:=Tryd.isAgg3
  z3:=Tryd.sizeOf3
  v3:=Tryd.zeroValue3
  t4:=Tryd.underlying4
  a4:=Tryd.isAgg4
  z4:=Tryd.sizeOf4
  v4:=Tryd.zeroValue4
  t22:=Tryd.underlying23
  a22:=Tryd.isAgg23
  z22:=Tryd.sizeOf23
  v22:=Tryd.zeroValue23
  i3:=by kernel_rfl
def Tryd.z6sff:Nat→Nat
  | 6=>31
  | 15=>70
  | 14=>69
  | 28=>92
  | 29=>93
  | 20=>84
  | 21=>85
  | 22=>86
  | 23=>87
  | 24=>88
  | 25=>89
  | 26=>90
  | 27=>91
  | 46=>112
  | 47=>113
  | 48=>114
  | 49=>115
  | 50=>116
  | 57=>131
  | n=>n
def Tryd.z6sft:Nat→Nat
  | 22=>23
  | 24=>3
  | 25=>60
  | 3=>3
  | 39=>104
  | 0=>0
  | 53=>33
  | 55=>34
  | 4=>4
  | 46=>117
  | 45=>116
  | 50=>121
  | 5=>5
  | 9=>9
  | 66=>138
  | 70=>142
  | 76=>158
  | 77=>159
  | n=>n
def Tryd.z6sfg:Nat→Nat
  | n=>n
def Tryd.z6sfr:Ren:=⟨Tryd.z6sff,Tryd.z6sft,Tryd.z6sfg⟩
theorem Tryd.z6sf:SlLaysF.n6 Tryd.prog Tryd.z6sfr where
  mixed:=by kernel_rfl
  f6:=Exists.intro "slices.SortFunc[[]int,int]" (And.intro (by decide) (by kernel_rfl))
  f14:=Exists.intro "slices.pdqsortCmpFunc[int]" (And.intro (by decide) (by kernel_rfl))
  f15:=by kernel_rfl
  f20:=Exists.intro "slices.insertionSortCmpFunc[int]" (And.intro (by decide) (by kernel_rfl))
  f21:=Exists.intro "slices.heapSortCmpFunc[int]" (And.intro (by decide) (by kernel_rfl))
  f22:=Exists.intro "slices.breakPatternsCmpFunc[int]" (And.intro (by decide) (by kernel_rfl))
  f23:=Exists.intro "slices.choosePivotCmpFunc[int]" (And.intro (by decide) (by kernel_rfl))
  f24:=Exists.intro "slices.reverseRangeCmpFunc[int]" (And.intro (by decide) (by kernel_rfl))
  f25:=Exists.intro "slices.partialInsertionSortCmpFunc[int]" (And.intro (by decide) (by kernel_rfl))
  f26:=Exists.intro "slices.partitionEqualCmpFunc[int]" (And.intro (by decide) (by kernel_rfl))
  f27:=Exists.intro "slices.partitionCmpFunc[int]" (And.intro (by decide) (by kernel_rfl))
  f28:=by kernel_rfl
  f29:=by kernel_rfl
  f46:=Exists.intro "slices.siftDownCmpFunc[int]" (And.intro (by decide) (by kernel_rfl))
  f47:=by kernel_rfl
  f48:=by kernel_rfl
  f49:=Exists.intro "slices.medianAdjacentCmpFunc[int]" (And.intro (by decide) (by kernel_rfl))
  f50:=Exists.intro "slices.medianCmpFunc[int]" (And.intro (by decide) (by kernel_rfl))
  f57:=Exists.intro "slices.order2CmpFunc[int]" (And.intro (by decide) (by kernel_rfl))
  t0:=Tryd.underlying0
  a0:=Tryd.isAgg0
  z0:=Tryd.sizeOf0
  v0:=Tryd.zeroValue0
  t3:=Tryd.underlying3
  a3:=Tryd.isAgg3
  z3:=Tryd.sizeOf3
  v3:=Tryd.zeroValue3
  t4:=Tryd.underlying4
  a4:=Tryd.isAgg4
  z4:=Tryd.sizeOf4
  v4:=Tryd.zeroValue4
  t5:=Tryd.underlying5
  a5:=Tryd.isAgg5
  z5:=Tryd.sizeOf5
  v5:=Tryd.zeroValue5
  t9:=Tryd.underlying9
  a9:=Tryd.isAgg9
  z9:=Tryd.sizeOf9
  v9:=Tryd.zeroValue9
  t22:=Tryd.underlying23
  a22:=Tryd.isAgg23
  z22:=Tryd.sizeOf23
  v22:=Tryd.zeroValue23
  a24:=Tryd.isAgg3
  z24:=Tryd.sizeOf3
  t25:=Tryd.underlying60
  a25:=Tryd.isAgg60
  z25:=Tryd.sizeOf60
  v25:=Tryd.zeroValue60
  t39:=Tryd.underlying104
  a39:=Tryd.isAgg104
  z39:=Tryd.sizeOf104
  v39:=Tryd.zeroValue104
  t45:=Tryd.underlying116
  a45:=Tryd.isAgg116
  z45:=Tryd.sizeOf116
  v45:=Tryd.zeroValue116
  t46:=Tryd.underlying117
  a46:=Tryd.isAgg117
  z46:=Tryd.sizeOf117
  v46:=Tryd.zeroValue117
  t50:=Tryd.underlying121
  a50:=Tryd.isAgg121
  z50:=Tryd.sizeOf121
  v50:=Tryd.zeroValue121
  t53:=Tryd.underlying33
  a53:=Tryd.isAgg33
  z53:=Tryd.sizeOf33
  v53:=Tryd.zeroValue33
  t55:=Tryd.underlying34
  a55:=Tryd.isAgg34
  z55:=Tryd.sizeOf34
  v55:=Tryd.zeroValue34
  t66:=Tryd.underlying138
  a66:=Tryd.isAgg138
  z66:=Tryd.sizeOf138
  v66:=Tryd.zeroValue138
  t70:=Tryd.underlying142
  a70:=Tryd.isAgg142
  z70:=Tryd.sizeOf142
  v70:=Tryd.zeroValue142
  t76:=Tryd.underlying158
  a76:=Tryd.isAgg158
  z76:=Tryd.sizeOf158
  v76:=Tryd.zeroValue158
  t77:=Tryd.underlying159
  a77:=Tryd.isAgg159
  z77:=Tryd.sizeOf159
  v77:=Tryd.zeroValue159
end Go.Proofs
/- Rows that the library sorts by a comparison that is handed on: known functions that change memory. -/
namespace Go.Vm
open Go Go.RowKit Go.Sort
section
variable {α:Type}
theorem prim_sortO [Inhabited α] {P:Program} {g gc:FuncId} {dec:AV→Option α} {enc:α→Value} {srt:List α→Option (List α)} (hd:∀ c x,dec c=some x→c = .s (enc x)) (hl:∀ zs zs',srt zs=some zs'→zs'.length=zs.length) (h1c:∀ x,(enc x).oneCell' = true)
    (h0:∀ (p:Option Addr) (cap:Nat) (w:World),Calls P g #[.slice p 0 cap,.func (.func gc) #[] #[]] w fun e w'=>e = .returned (.tuple #[])∧w' = w)
    (h1:∀ (blk off cap:Nat) (zs zs':List α) (w:World),srt zs=some zs'→zs≠[]→Holds enc w blk off zs.toArray→blk < w.heap.size→zs.length < 4611686018427387904→Calls P g #[.slice (some ⟨blk,off,none⟩) zs.length cap,.func (.func gc) #[] #[]] w fun e w'=>e = .returned (.tuple #[])∧∃ n os,w' = grow (putRow enc (Sort.ahead w n) blk off zs'.toArray) os) :
    ∀ args h n v h' n',sortOM gc dec enc srt args h n=some (v,h',n')→∀ (K:Cx) (base:Nat) (cargs:Array Value),HRel K base h→K.c=n→VRels K args cargs.toList→∀ N,CallsIn Fence.wide N P g cargs K.w (CallPost K base h' n' v):=fun args h n v h' n' hp K base cargs H hc hr N=>by
  subst hc
  obtain⟨cl,rfl⟩:∃ l:List Value,cargs=l.toArray:=⟨cargs.toList,by simp⟩
  have triv:∀ (p:Option Addr) (cap:Nat),CallsIn Fence.wide N P g #[.slice p 0 cap,.func (.func gc) #[] #[]] K.w (CallPost K base h K.c (.tup [])):=fun p cap=>by
    refine callsIn_wide.2 ((h0 p cap K.w).mono ?_)
    rintro e w' ⟨rfl,rfl⟩
    exact post_below H (Below.refl _ _) fun K'=>by simp[VRel,VRels]
  match args,cl,hr,hp with
  | [x,xf],[y,yf],hr,hp=>
    simp only[VRels,and_true] at hr
    obtain⟨hr,hrf⟩:=hr
    unfold sortOM at hp
    split at hp
    case h_2=>cases hp
    rename_i a0 f0 e00
    simp only[List.cons.injEq,and_true] at e00
    obtain⟨rfl,rfl⟩:=e00
    split at hp
    case isFalse=>cases hp
    rename_i hgc
    have hp2:=hp
    subst hgc
    have hp:=hp2
    clear hp2
    have hyf:yf = .func (.func f0) #[] #[]:=by
      simp only[VRel] at hrf
      obtain⟨cv,e1,e2⟩:=hrf
      obtain⟨l,rfl⟩:∃ l:List Value,cv=l.toArray:=⟨cv.toList,by simp⟩
      cases l with
      | nil=>exact e1
      | cons _ _=>simp[VRels] at e2
    subst hyf
    unfold sortOM1 at hp
    split at hp
    · rename_i id off len e0
      simp only[VRel] at hr
      obtain⟨hlt,a,cap,rfl,e1,e2,e3⟩:=hr
      split at hp
      · rename_i hz
        cases hp
        subst hz
        exact triv _ _
      · rename_i hz
        split at hp
        · rename_i R hid
          split at hp
          · rename_i zs hzs
            split at hp
            case h_2=>cases hp
            rename_i zs' hs
            split at hp
            · rename_i hb
              cases hp
              obtain⟨hb1,hb2⟩:=hb
              have hrow:=rowsD_ok hd hzs
              have ha:a=⟨(K.ι id).1,((K.ι id).2.1 + off) * 1,none⟩:=e3.resolve_left (by omega)
              subst ha
              rw[Nat.mul_one]
              obtain⟨arr,T,fz,o1,o2,o3,o4,o5⟩:=H.obj id _ hid
              have hR:off + len≤R.length:=by
                have:=congrArg List.length hrow
                simp only[List.length_take,List.length_drop,List.length_map] at this
                omega
              have hget:∀ j x,zs[j]? = some x→arr[(K.ι id).2.1 + off + j]? = some (enc x):=fun j x hj=>by
                have hj2:j < len:=by rw[← hb1]; exact (List.getElem?_eq_some_iff.1 hj).1
                have h2:R[off + j]? = some [AV.s (enc x)]:=by
                  have:=congrArg (fun l=>l[j]?) hrow
                  simp only[List.getElem?_map,hj,Option.map_some] at this
                  rw[List.getElem?_take_of_lt hj2,List.getElem?_drop] at this
                  exact this
                obtain⟨_,h3⟩:=o5 _ _ h2
                obtain⟨v,h4,h5,h6⟩:=h3 0 _ rfl
                simp only[VRel] at h6
                subst h6
                rw[← h4]
                congr 1
                omega
              have hH:Holds enc K.w (K.ι id).1 ((K.ι id).2.1 + off) zs.toArray:=fun j hj=>by
                have hj':j < zs.length:=by simpa using hj
                refine⟨?_,?_⟩
                · simp only[World.cell?,o1,Option.isSome_none,Bool.false_eq_true,if_false]
                  rw[hget j zs[j] (List.getElem?_eq_getElem hj')]
                  simp[hj']
                · simp only[World.frozen?,o1]
                  have hlt2:(K.ι id).2.1 + off + j < arr.size:=by
                    rw[o2]; omega
                  have:=o3 _ hlt2
                  simpa using this
              have hblk:(K.ι id).1 < K.w.heap.size:=(H.bs _ (H.L id _ hid)).2
              rw[← hb1]
              refine callsIn_wide.2 ((h1 _ _ cap zs zs' K.w hs (fun e=>hz (by rw[← hb1,e]; rfl)) hH hblk (by omega)).mono ?_)
              rintro e w' ⟨rfl,nn,os,rfl⟩
              have hsz:(putRow enc (Sort.ahead K.w nn) (K.ι id).1 ((K.ι id).2.1 + off) zs'.toArray).heap.size=K.w.heap.size:=by simp[Sort.ahead]
              have hother:∀ b,b < K.w.heap.size→b≠(K.ι id).1→(grow (putRow enc (Sort.ahead K.w nn) (K.ι id).1 ((K.ι id).2.1 + off) zs'.toArray) os).heap[b]? = K.w.heap[b]?:=fun b h2 h3=>by
                rw[heap_grow_old _ _ (by rw[hsz]; exact h2)]
                simp[putRow,mapBlock,Sort.ahead,Array.getElem?_modify,Ne.symm h3]
              have hsame:(grow (putRow enc (Sort.ahead K.w nn) (K.ι id).1 ((K.ι id).2.1 + off) zs'.toArray) os).heap[(K.ι id).1]? = some (.cells (putCells enc ((K.ι id).2.1 + off) zs'.toArray arr) T fz):=by
                rw[heap_grow_old _ _ (by rw[hsz]; exact hblk)]
                simp[putRow,mapBlock,Sort.ahead,Array.getElem?_modify,o1,onCells]
              generalize hw':grow (putRow enc (Sort.ahead K.w nn) (K.ι id).1 ((K.ι id).2.1 + off) zs'.toArray) os=w' at hother hsame
              have hsz':K.w.heap.size≤w'.heap.size:=by
                rw[← hw']
                simp[grow,Sort.ahead]
              let K':Cx:={ K with w:=w' }
              have S:K.Step K':=by
                refine⟨Nat.le_refl _,fun _ _=>rfl,?_,?_,?_,hsz',fun b h2 h3=>⟨hother b h2 fun e=>h3 (by rw[e]; exact H.L id _ hid),h3⟩,rfl,fun l ⟨Lp,hLp⟩=>⟨Lp,?_⟩⟩
                · show w'.os=_; rw[← hw']; rfl
                · show w'.tape=_; rw[← hw']; rfl
                · show w'.output=_; rw[← hw']; rfl
                · refine (hother l (heap_lt_of hLp) fun e=>?_).trans hLp
                  rw[e,o1] at hLp
                  cases hLp
              have hput:∀ j,(putCells enc ((K.ι id).2.1 + off) zs'.toArray arr)[j]? = if (K.ι id).2.1 + off≤j∧j < (K.ι id).2.1 + off + len then (zs'[j - ((K.ι id).2.1 + off)]?).map enc else arr[j]?:=fun j=>by
                have hq:zs'.length=len:=by rw[hl zs zs' hs,hb1]
                unfold putCells
                rw[Array.getElem?_mapIdx]
                simp only[List.size_toArray,hq]
                by_cases hin:(K.ι id).2.1 + off≤j∧j < (K.ι id).2.1 + off + len
                · have hlt2:j < arr.size:=by rw[o2]; omega
                  have hlt3:j - ((K.ι id).2.1 + off) < zs'.length:=by omega
                  simp[hin,hlt2,hlt3]
                · simp only[if_neg hin]
                  cases arr[j]? <;> rfl
              refine⟨K',.tuple #[],rfl,rfl,S,?_,rfl,by simp[VRel,VRels]⟩
              refine H.putN S id _ (fun b hb hne=>⟨hother _ (H.bs _ hb).2 (hne _ rfl),hb⟩) (fun b hb=>⟨(H.bs b hb).1,Nat.lt_of_lt_of_le (H.bs b hb).2 hsz'⟩) (fun p hp=>by cases hp; exact hid_rows) (fun p hp=>?_)
              cases hp
              refine⟨H.lt id _ hid,H.L id _ hid,⟨_,T,fz,hsame,?_,?_,?_,fun i r hi=>?_⟩,H.apart hid⟩
              · simp[putCells,o2,K']
              · intro i hi; exact o3 i (by simpa[putCells] using hi)
              · simp only[List.length_append,List.length_take,List.length_map,List.length_drop,hl zs zs' hs]
                show _≤(K.ι id).2.2
                omega
              · show r.length=1∧CellsRel K' _ (((K.ι id).2.1 + i) * 1) r
                have hlm:((zs'.map fun x=>[AV.s (enc x)])).length=len:=by rw[List.length_map,hl zs zs' hs,hb1]
                have hlt:(R.take off).length=off:=by rw[List.length_take]; omega
                by_cases hc1:i < off
                · rw[List.append_assoc,List.getElem?_append_left (by rw[hlt]; exact hc1),List.getElem?_take_of_lt hc1] at hi
                  obtain⟨g1,g2⟩:=o5 i r hi
                  refine⟨g1,fun j c hj=>?_⟩
                  have hj0:j=0:=by have:=(List.getElem?_eq_some_iff.1 hj).1; omega
                  subst hj0
                  obtain⟨v,g3,g4,g5⟩:=g2 0 c hj
                  refine⟨v,?_,g4,g5.mono S.le⟩
                  rw[hput,if_neg (by omega)]
                  exact g3
                · by_cases hc2:i < off + len
                  · rw[List.getElem?_append_left (by rw[List.length_append,hlt,hlm]; omega),List.getElem?_append_right (by omega),hlt,List.getElem?_map] at hi
                    obtain⟨x,hx1,rfl⟩:=Option.map_eq_some_iff.1 hi
                    refine⟨rfl,fun j c hj=>?_⟩
                    have hj0:j=0:=by have:=(List.getElem?_eq_some_iff.1 hj).1; simp at this; omega
                    subst hj0
                    simp only[List.getElem?_cons_zero,Option.some.injEq] at hj
                    subst hj
                    refine⟨enc x,?_,h1c x,by simp[VRel]⟩
                    rw[hput,if_pos (by omega),show ((K.ι id).2.1 + i) * 1 + 0 - ((K.ι id).2.1 + off)=i - off by omega,hx1]
                    rfl
                  · rw[List.getElem?_append_right (by rw[List.length_append,hlt,hlm]; omega),List.length_append,hlt,hlm,List.getElem?_drop,show off + zs.length + (i - (off + len))=i by omega] at hi
                    obtain⟨g1,g2⟩:=o5 i r hi
                    refine⟨g1,fun j c hj=>?_⟩
                    have hj0:j=0:=by have:=(List.getElem?_eq_some_iff.1 hj).1; omega
                    subst hj0
                    obtain⟨v,g3,g4,g5⟩:=g2 0 c hj
                    refine⟨v,?_,g4,g5.mono S.le⟩
                    rw[hput,if_neg (by omega)]
                    exact g3
            · cases hp
          · cases hp
        · cases hp
    · cases hp
      simp only[VRel] at hr
      subst hr
      exact triv _ _
    · cases hp
      simp only[VRel] at hr
      obtain⟨A,rfl,_⟩:=hr
      exact triv _ _
    · cases hp
  | [],_,_,hp=>simp[sortOM] at hp
  | [_],_,_,hp=>simp[sortOM] at hp
  | _ :: _ :: _ :: _,_,_,hp=>simp[sortOM] at hp
  | [_,_],[],hr,_=>simp[VRels] at hr
  | [_,_],[_],hr,_=>simp[VRels] at hr
  | [_,_],_ :: _ :: _ :: _,hr,_=>simp[VRels] at hr
end
end Go.Vm
/- slices.SortFunc at rows whose elements are parted by the comparison: from the shelf's contract. -/
namespace Go.Vm
open Go Go.RowKit Go.Sort Go.Proofs Go.Shelf
section
variable {α:Type} [Inhabited α]
theorem att_get (zs:List α) (x0:{x // x∈zs}) (j:Nat) (hj:j < zs.length):((@getElem! (Array {x // x∈zs}) Nat {x // x∈zs} _ _ ⟨x0⟩ zs.attach.toArray j)).val=zs.toArray[j]!:=by
  letI i0:Inhabited {x // x∈zs}:=⟨x0⟩
  have h1:j < zs.attach.toArray.size:=by simpa using hj
  rw[getElem!_pos (zs.attach.toArray) j h1,getElem!_pos zs.toArray j (by simpa using hj)]
  simp
theorem putCells_val (enc:α→Value) {p:α→Prop} (i0:Inhabited {x // p x}) (l:List {x // p x}) (off:Nat) (c:Array Value) : @putCells {x // p x} i0 (fun x=>enc x.val) off l.toArray c=putCells enc off (l.map Subtype.val).toArray c:=by
  unfold putCells
  simp only[List.size_toArray,List.length_map]
  congr 1
  funext k x
  split
  · rename_i h
    have h1:k - off < l.length:=by omega
    rw[getElem!_pos (l.toArray) (k - off) (by simpa using h1),getElem!_pos ((l.map Subtype.val).toArray) (k - off) (by simpa using h1)]
    simp
  · rfl
theorem sortF_total {P:Program} {ρ:Ren} (L:SlLaysF.n6 P ρ) {enc:α→Value} (h1c:∀ x,(enc x).oneCell' = true) {cf:α→α→Int} {gc:Nat} (eg:∀ args w,(callFunc gc args).run P w = .ok (.enter gc args) w) (zs:List α) (hne:zs≠[]) (hsz:zs.length < 4611686018427387904)
    (irr:∀ x∈zs,¬ cf x x < 0) (tr:∀ x∈zs,∀ y∈zs,∀ z∈zs,cf x y < 0→cf y z < 0→cf x z < 0) (tot:∀ x∈zs,∀ y∈zs,¬ cf x y < 0→¬ cf y x < 0→x=y)
    (hc:∀ x∈zs,∀ y∈zs,∀ W,Calls P gc #[enc x,enc y] W fun e w'=>e = .returned (.int .i64 (cf x y))∧∃ q os',w' = grow (W.drewN q) os')
    (blk off cap:Nat) (w:World) (hH:Holds enc w blk off zs.toArray) (hblk:blk < w.heap.size) :
    Calls P (ρ.f 6) #[.slice (some ⟨blk,off,none⟩) zs.length cap,.func (.func gc) #[] #[]] w fun e w'=>e = .returned (.tuple #[])∧∃ n os,w' = grow (putRow enc (Sort.ahead w n) blk off (zs.mergeSort fun x y=>!decide (cf y x < 0)).toArray) os:=by
  obtain⟨x0,hx0⟩:∃ x,x∈zs:=List.exists_mem_of_ne_nil zs hne
  letI i0:Inhabited {x // x∈zs}:=⟨⟨x0,hx0⟩⟩
  have hT:∀ x y:{x // x∈zs},(ltOf fun a b:{x // x∈zs}=>cf a.val b.val) x y=false→(ltOf fun a b:{x // x∈zs}=>cf a.val b.val) y x=false→x=y:=fun x y h1 h2=>by
    unfold ltOf at h1 h2
    exact Subtype.ext (tot _ x.2 _ y.2 (of_decide_eq_false h1) (of_decide_eq_false h2))
  have hO:SWO (ltOf fun a b:{x // x∈zs}=>cf a.val b.val):={
    irrefl:=fun x=>decide_eq_false (irr _ x.2)
    trans:=fun x y z h1 h2=>decide_eq_true (tr _ x.2 _ y.2 _ z.2 (of_decide_eq_true h1) (of_decide_eq_true h2))
    ntrans:=fun x y z h1 h2=>by
      unfold ltOf at h1 h2 ⊢
      refine decide_eq_false fun h3=>?_
      by_cases h4:cf y.val x.val < 0
      · exact of_decide_eq_false h2 (tr _ y.2 _ x.2 _ z.2 h4 h3)
      · have e:=tot _ x.2 _ y.2 (of_decide_eq_false h1) h4
        have h3':cf x.val z.val < 0:=h3
        rw[e] at h3'
        exact of_decide_eq_false h2 h3' }
  have hd:zs.attach.toArray.size=zs.length:=by simp
  have hH':Holds (fun x:{x // x∈zs}=>enc x.val) w blk off zs.attach.toArray:=fun j hj=>by
    have hj':j < zs.length:=by simpa using hj
    have:=hH j (by simpa using hj')
    rw[← att_get zs ⟨x0,hx0⟩ j hj'] at this
    exact this
  have hcmp:CmpLays1 P gc #[] (fun x:{x // x∈zs}=>enc x.val) (fun a b=>cf a.val b.val) blk off zs.attach.toArray.size w:=fun m os dk hs x y=>by
    have:=hc x.val x.2 y.val y.2 (sortWorld (fun x:{x // x∈zs}=>enc x.val) w blk off m dk os)
    simpa using this
  have key:=Any.slices_SortFunc_total L (fun x:{x // x∈zs}=>enc x.val) (fun x=>h1c x.val) (fun a b=>cf a.val b.val) hO gc #[] blk off cap zs.attach.toArray w eg hcmp hH' hblk (by rw[hd]; exact hsz) hT
  rw[hd] at key
  refine key.mono ?_
  rintro e w' ⟨he,n,os,rfl⟩
  refine⟨he,n,os,?_⟩
  unfold sortWorld putRow
  congr 2
  funext c
  rw[putCells_val]
  congr 2
  have hm:=List.map_mergeSort (f:=Subtype.val) (l:=zs.attach) (r:=fun a b:{x // x∈zs}=>!ltOf (fun a b:{x // x∈zs}=>cf a.val b.val) b a) (s:=fun x y=>!decide (cf y x < 0)) (fun a _ b _=>rfl)
  rw[List.attach_map_subtype_val] at hm
  exact hm
end
theorem sf0 {P:Program} {ρ:Ren} (L:SlLaysF.n6 P ρ):SlLaysF0.n6 P ρ:={ L with }
end Go.Vm
/- slices.SortFunc at rows of literals: by the variable, and then by the number. -/
namespace Go.Vm
open Go Go.RowKit Go.Sort Go.Proofs Go.Shelf
theorem sortBv_h1 {P:Program} {ρ:Ren} (L:SlLaysF.n6 P ρ) {gc:Nat} (eg:∀ args w,(callFunc gc args).run P w = .ok (.enter gc args) w)
    (hc:∀ x y:Int, -4096≤x→x≤4096 → -4096≤y→y≤4096→∀ W,Calls P gc #[.int .i64 x,.int .i64 y] W fun e w'=>e = .returned (.int .i64 (bvC x y))∧∃ q os',w' = Sort.grow (W.drewN q) os')
    {blk off cap:Nat} {zs zs':List Int} {w:World} (hs:srtBv zs=some zs') (hne:zs≠[]) (hH:Holds (Value.int .i64) w blk off zs.toArray) (hblk:blk < w.heap.size) (hsz:zs.length < 4611686018427387904) :
    Calls P (ρ.f 6) #[.slice (some ⟨blk,off,none⟩) zs.length cap,.func (.func gc) #[] #[]] w fun e w'=>e = .returned (.tuple #[])∧∃ n os,w' = grow (putRow (Value.int .i64) (Sort.ahead w n) blk off zs'.toArray) os:=by
  unfold srtBv at hs
  split at hs
  case isFalse=>cases hs
  rename_i hb
  cases hs
  have hb':∀ x∈zs, -4096≤x∧x≤4096:=fun x hx=>by
    have:=of_decide_eq_true (List.all_eq_true.1 hb x hx)
    omega
  rw[← sortBy_eq bv_tr bv_tot bv_anti]
  refine sortF_total L (enc:=Value.int .i64) (cf:=bvC) (fun _=>rfl) eg zs hne hsz (fun x _ h=>?_) (fun x _ y _ z _ h1 h2=>?_) (fun x hx y hy h1 h2=>?_) (fun x hx y hy W=>hc x y (hb' x hx).1 (hb' x hx).2 (hb' y hy).1 (hb' y hy).2 W) blk off cap w hH hblk
  · unfold bvC at h
    split at h <;> omega
  · unfold bvC at *
    split at h1 <;> split at h2 <;> split <;> omega
  · unfold bvC at h1 h2
    split at h1 <;> split at h2 <;> omega
end Go.Vm
namespace Go.Proofs
open Go Go.RowKit Go.Sort
theorem Tryd.size_calls (x:Int) (h1 : -4096≤x) (h2:x≤4096) (W:World):Calls Tryd.prog 43 #[.int .i64 x] W fun e w'=>e = .returned (.int .i64 (x.natAbs:Int))∧w' = W:=by
  have key:∀ z:Int,z=(x.natAbs:Int)→Value.int .i64 z=Value.int .i64 (x.natAbs:Int):=fun z h=>by rw[h]
  go_enter Tryd.func43,Tryd.ntmps43
  go_wp2
  all_goals (go_ret; exact⟨congrArg Ending.returned (key _ (by omega)),rfl⟩)
theorem Tryd.cmp_calls (x y:Int) (h1 : -4096≤x) (h2:x≤4096) (h3 : -4096≤y) (h4:y≤4096) (W:World):Calls Tryd.prog 32 #[.int .i64 x,.int .i64 y] W fun e w'=>e = .returned (.int .i64 (Go.Vm.bvC x y))∧∃ q os',w' = Sort.grow (W.drewN q) os':=by
  have hx:=fun W=>Tryd.size_calls x h1 h2 W
  have hy:=fun W=>Tryd.size_calls y h3 h4 W
  have e:IntKind.i64.wrap ((x.natAbs:Int) - y.natAbs)=(x.natAbs:Int) - y.natAbs:=IntWalk.i64_in _ (by omega)
  have e2:IntKind.i64.wrap (x - y)=x - y:=IntWalk.i64_in _ (by omega)
  go_enter Tryd.func32,Tryd.ntmps32
  go_wp2_with (go_at_call 43; first | (refine (hx _).mono ?_; rintro e w' ⟨rfl,rfl⟩) | (refine (hy _).mono ?_; rintro e w' ⟨rfl,rfl⟩))
  all_goals (go_ret; refine⟨congrArg Ending.returned (congrArg (Value.int .i64) ?_),0,#[],(grow_empty _).symm⟩; unfold Go.Vm.bvC; first | (rename_i h; simp only[bne_iff_ne,ne_eq,bne_eq_false_iff_eq] at h; simp[h]; done) | (simp_all; done))
end Go.Proofs
namespace Go.Vm
open Go Go.RowKit Go.Proofs
def funcOk (fn:Func):Bool:=!(fn.name == "runtime.NumGoroutine") && (match fn.body with | some c=>codeOk c | none=>true)
theorem funcsOk:E.P.funcs.toList.all funcOk=true:=by kernel_rfl
theorem pk_strconv_Itoa:∀ args v,itoaP args=some v→∀ (K:Cx) (base:Nat) (h:AHeap) (cargs:Array Value),HRel K base h→VRels K args cargs.toList→∀ N,CallsIn Fence.wide N E.P 54 cargs K.w (CallPost K base h K.c v):=prim_itoa (b:=0) (by kernel_rfl) (List.mem_of_getElem? (i:=0) rfl) (fun n h0 h1 w ht=>Go.Proofs.Any.strconv_Itoa Go.Proofs.Tryd.z171 n h0 h1 w ht)
theorem pk_bldWrite:∀ args h n v h' n',bldWrite args h n=some (v,h',n')→∀ (K:Cx) (base:Nat) (cargs:Array Value),HRel K base h→K.c=n→VRels K args cargs.toList→∀ N,CallsIn Fence.wide N E.P 53 cargs K.w (CallPost K base h' n' v):=prim_bldWrite (fun s=>bld_WriteString Go.Proofs.Tryd.z166 Go.Proofs.Tryd.z166x rfl rfl s)
theorem pk_bldText:∀ args h n v h' n',bldText args h n=some (v,h',n')→∀ (K:Cx) (base:Nat) (cargs:Array Value),HRel K base h→K.c=n→VRels K args cargs.toList→∀ N,CallsIn Fence.wide N E.P 55 cargs K.w (CallPost K base h' n' v):=prim_bldText (bld_Text Go.Proofs.Tryd.z169 Go.Proofs.Tryd.z169x rfl rfl)
theorem pk_slices_SortFuncV:∀ args h n v h' n',(sortOM 32 decI (Value.int .i64) srtBv) args h n=some (v,h',n')→∀ (K:Cx) (base:Nat) (cargs:Array Value),HRel K base h→K.c=n→VRels K args cargs.toList→∀ N,CallsIn Fence.wide N E.P 31 cargs K.w (CallPost K base h' n' v):=prim_sortO decI_ok srtBv_len (fun _=>rfl) (fun p cap w=>Go.Proofs.AnyF.slices_SortFunc_none (sf0 Go.Proofs.Tryd.z6sf) p cap _ w) (fun blk off cap zs zs' w hs hne hH hb hl=>sortBv_h1 Go.Proofs.Tryd.z6sf (Go.Proofs.enters_of Go.Proofs.Tryd.func32 (by kernel_rfl) rfl) Go.Proofs.Tryd.cmp_calls hs hne hH hb hl)
theorem pk_slices_CompactI:∀ args h n v h' n',cptIM args h n=some (v,h',n')→∀ (K:Cx) (base:Nat) (cargs:Array Value),HRel K base h→K.c=n→VRels K args cargs.toList→∀ N,CallsIn Fence.wide N E.P 33 cargs K.w (CallPost K base h' n' v):=prim_cpt decI_ok compact_le (fun _=>rfl) (fun p cap w=>Go.Proofs.Any.slices_Compact_int_empty Go.Proofs.Tryd.z20 p cap w) (fun blk off cap zs w h1 h2 h3 h4=>Go.Proofs.Any.slices_Compact_int Go.Proofs.Tryd.z20 blk off cap zs w h1 (by omega) h4)
theorem envOk:EnvOk E:=by
  have key:∀ (f:FuncId) (fn:Func),E.P.funcs[f]? = some fn→funcOk fn=true:=fun f fn hf=>by
    have:=List.all_eq_true.1 funcsOk fn (by
      obtain⟨h1,h2⟩:=Array.getElem?_eq_some_iff.1 hf
      rw[← h2]
      simp)
    exact this
  refine⟨fun f fn hf=>?_,fun f fn c hf hc=>?_,fun g p hp=>?_,fun g p hp=>?_⟩
  · have:=key f fn hf
    unfold funcOk at this
    rw[Bool.and_eq_true] at this
    simpa using this.1
  · have:=key f fn hf
    unfold funcOk at this
    rw[Bool.and_eq_true,hc] at this
    exact this.2
  · simp only[E] at hp
    split at hp
    · rename_i hg
      subst hg
      cases hp
      exact⟨⟨Go.Proofs.Tryd.f54,by kernel_rfl,by kernel_rfl⟩,pk_strconv_Itoa⟩
    · skip
      cases hp
  · simp only[E] at hp
    split at hp
    · rename_i hg
      subst hg
      cases hp
      exact⟨⟨Go.Proofs.Tryd.f53,by kernel_rfl,by kernel_rfl⟩,pk_bldWrite⟩
    · skip
      split at hp
      · rename_i hg
        subst hg
        cases hp
        exact⟨⟨Go.Proofs.Tryd.f55,by kernel_rfl,by kernel_rfl⟩,pk_bldText⟩
      · skip
        split at hp
        · rename_i hg
          subst hg
          cases hp
          exact⟨⟨Go.Proofs.Tryd.f31,by kernel_rfl,by kernel_rfl⟩,pk_slices_SortFuncV⟩
        · skip
          split at hp
          · rename_i hg
            subst hg
            cases hp
            exact⟨⟨Go.Proofs.Tryd.f33,by kernel_rfl,by kernel_rfl⟩,pk_slices_CompactI⟩
          · skip
            cases hp
theorem law_true {g:FuncId} {vs vs':List AV} {m:Option Bool} (hc:Ct E g vs m (fun r=>bv r)) (hm:m=some true) (hp:E.prim g=none) (hpf:E.pf g=true) (hv:All2 (VLe Rn.nil) vs vs') (hs:snapL (snap AHeap.nil depth) vs' = some (vs',false)) (w:World) (hG:∀ q,q∈glb→q.1 < w.heap.size∧∃ cs T fz,w.heap[q.1]? = some (.cells cs T fz)∧q.2 cs) {cargs:Array Value}
    (hr:VRels { w:=w,ι:=fun _=>(0,0,0),L:=fun _=>False,X:=fun _=>False,c:=0 } vs' cargs.toList) :
    Calls E.P g cargs w fun e w'=>e = .returned (.bool true)∧w'.os=w.os∧w'.tape=w.tape∧w'.output=w.output∧w.heap.size≤w'.heap.size∧(∀ b,b < w.heap.size→w'.heap[b]? = w.heap[b]?):=by
  obtain⟨u,h1,h2⟩:=hc true hm vs' hv AHeap.nil 0
  have hu:=h2.s_inv
  subst hu
  unfold callFn at h1
  rw[hp] at h1
  simp only[hpf,if_true,hs] at h1
  cases hcl:(rinf E).call g vs' AHeap.nil 0 with
  | none=>rw[hcl] at h1; cases h1
  | some q=>
    obtain⟨v,h3,n3⟩:=q
    rw[hcl] at h1
    simp only at h1
    cases hsn:snap h3 depth v with
    | none=>rw[hsn] at h1; cases h1
    | some q2=>
      obtain⟨v',b2⟩:=q2
      rw[hsn] at h1
      simp only[Bool.false_and,Bool.false_eq_true,if_false,Option.some.injEq,Prod.mk.injEq] at h1
      obtain⟨k,hk⟩:=rinf_call.1 hcl
      have hpc:pcall E k g vs' = some (bv true):=by
        unfold pcall
        rw[hk]
        simp only[hsn,h1.1]
      refine (pcall_sound envOk (fun r=>drawOk_all r) hpc w hG hr).mono ?_
      rintro e w' ⟨cv,h4,h5,h6,h7,h8,h9,h10⟩
      simp only[VRel] at h10
      subst h10
      exact⟨h4,h5,h6,h7,h8,h9⟩
end Go.Vm
/- What a call reads, as Lean data: an argument's reading by shape gives a value of the evaluator. -/
namespace Go.Vm
open Go
structure BulkOk {H:Type} (f:DataW H→Nat) (g:List (DataW H)→Nat):Prop where
  nil:g []=0
  cons:∀ d r,g (d :: r)=f d + g r
  pos:∀ d,1≤f d
  str:∀ l,f (.lit (.string l))=l.length + 1
  slice:∀ e s,f (.slice e s)=g e + g s + 1
  agg:∀ p,f (.agg p)=g p + 1
theorem BulkOk.sum {H:Type} {f:DataW H→Nat} {g:List (DataW H)→Nat} (B:BulkOk f g):∀ l,g l=(l.map f).sum
  | []=>B.nil
  | d :: r=>by rw[B.cons,B.sum r]; rfl
def Kw (W:World):Cx:={ w:=W,ι:=fun _=>(0,0,0),L:=fun _=>False,X:=fun _=>False,c:=0 }
def simpC:AV→Bool
  | .s _=>true
  | .fsl ..=>true
  | .esl=>true
  | _=>false
theorem snap_simpC {h:AHeap} {k:Nat} {c:AV} (hc:simpC c=true):snap h k c=some (c,false):=by
  cases c <;> first | (cases k <;> rfl) | cases hc
theorem snapL_simpC {h:AHeap} {k:Nat}:∀ {cs:List AV},cs.all simpC=true→snapL (snap h k) cs=some (cs,false)
  | [],_=>rfl
  | c :: cs,hc=>by
    simp only[List.all_cons,Bool.and_eq_true] at hc
    simp only[snapL,snap_simpC hc.1,snapL_simpC hc.2,Bool.or_self]
def simpA:AV→Bool
  | .agg cs=>cs.all simpC
  | c=>simpC c
theorem snap_simpA {h:AHeap} {k:Nat} {c:AV} (hc:simpA c=true):snap h (k + 1) c=some (c,false):=by
  unfold simpA at hc
  split at hc
  · simp only[snap,snapL_simpC hc,Option.map_some]
  · exact snap_simpC hc
theorem snapL_nil' (h:AHeap):snapL (snap h depth) []=some ([],false):=rfl
theorem snapL_cons' {h:AHeap} {c:AV} {cs:List AV} (hc:simpA c=true) (hs:snapL (snap h depth) cs=some (cs,false)):snapL (snap h depth) (c :: cs)=some (c :: cs,false):=by
  have h1:snap h depth c=some (c,false):=snap_simpA hc
  simp only[snapL,h1,hs,Bool.or_self]
section
variable {H:Type} {P:Program} {f:DataW H→Nat} {g:List (DataW H)→Nat}
structure Rd (P:Program) (f:DataW H→Nat) (t:TypeId) (n:Nat) {α:Type} (en:α→List AV) (ok:α→Prop) (μ:α→Nat):Prop where
  read:∀ {enc:TypeId × Value→H} {W:World} {fuel:Nat} {cs:List Value} {d:DataW H} {pl:List MemPlace},DataW.trod enc P W 0 (fun _=>true) true fuel t cs=some (d,pl) →
    ∃ x a,VRels (Kw W) a cs∧All2 (VLe Rn.nil) (en x) a∧a.all simpC=true∧ok x∧μ x≤f d∧cs.length=n∧(∀ v∈cs,v.oneCell' = true)
theorem Rd.str (B:BulkOk f g) {t:TypeId} (ht:P.underlying t=some .string):Rd P f t 1 (fun x:Str=>[bs x]) (fun _=>True) (fun x=>x.length + 1) where
  read h:=by
    obtain⟨s,rfl,e,_⟩:=DataW.trod_string ht h
    obtain⟨rfl,rfl⟩:=Prod.mk.inj e
    exact⟨s.data.toList,[.s (.string s)],by simp[VRels,VRel],⟨VLe.s_refl _,trivial⟩,rfl,trivial,by rw[B.str]; exact Nat.le_refl _,rfl,by simp; rfl⟩
theorem Rd.int (B:BulkOk f g) {t:TypeId} {k:IntKind} (ht:P.underlying t=some (.int k)):Rd P f t 1 (fun x:Int=>[.s (.int k x)]) (fun x=>(Lit.int k x).wf=true) (fun _=>1) where
  read h:=by
    obtain⟨n,rfl,e,w⟩:=DataW.trod_int ht h
    obtain⟨rfl,rfl⟩:=Prod.mk.inj e
    exact⟨n,[.s (.int k n)],by simp[VRels,VRel],⟨VLe.s_refl _,trivial⟩,rfl,w,B.pos _,rfl,by simp; rfl⟩
theorem Rd.bool (B:BulkOk f g) {t:TypeId} (ht:P.underlying t=some .bool):Rd P f t 1 (fun x:Bool=>[bv x]) (fun _=>True) (fun _=>1) where
  read h:=by
    obtain⟨n,rfl,e⟩:=DataW.trod_bool ht h
    obtain⟨rfl,rfl⟩:=Prod.mk.inj e
    exact⟨n,[bv n],by simp[VRels,VRel],⟨VLe.s_refl _,trivial⟩,rfl,trivial,B.pos _,rfl,by simp; rfl⟩
theorem VRels.len {K:Cx}:∀ {a:List AV} {x:List Value},VRels K a x→a.length=x.length
  | [],[],_=>rfl
  | _ :: a,_ :: x,h=>by simp only[List.length_cons]; rw[VRels.len (a:=a) (x:=x) (by simp only[VRels] at h; exact h.2)]
  | [],_ :: _,h=>by simp[VRels] at h
  | _ :: _,[],h=>by simp[VRels] at h
theorem crel_rd {W:World} {b:Nat}:∀ {a:List AV} {cs:List Value} {o:Nat},VRels (Kw W) a cs→(∀ i,i < cs.length→W.cell? ⟨b,o + i,none⟩=cs[i]?)→(∀ v∈cs,v.oneCell' = true)→CRel (Kw W) b o a
  | [],_,_,_,_,_=>by simp[CRel]
  | c :: a,[],_,h,_,_=>by simp[VRels] at h
  | c :: a,v :: cs,o,h,hc,h1=>by
    simp only[VRels] at h
    have h0:=hc 0 (by simp)
    simp only[Nat.add_zero,List.getElem?_cons_zero] at h0
    refine⟨⟨v,⟨?_,id,id⟩,h0,h1 v List.mem_cons_self,h.1⟩,crel_rd h.2 (fun i hi=>?_) fun u hu=>h1 u (List.mem_cons_of_mem _ hu)⟩
    · unfold World.cell? at h0
      split at h0
      · rename_i e
        exact (Array.getElem?_eq_some_iff.1 e).1
      · cases h0
    · have:=hc (i + 1) (by simp; omega)
      rw[Nat.add_assoc,Nat.add_comm 1 i,this]
      rfl
theorem Rd.slice (B:BulkOk f g) {t e:TypeId} {n:Nat} {α:Type} {en:α→List AV} {ok:α→Prop} {μ:α→Nat} (R:Rd P f e n en ok μ) (ht:P.underlying t=some (.slice e)) (hn:P.cellsOf e=n) (h0:0 < n) :
    Rd P f t 1 (fun x:List α=>[.fsl n (x.map en)]) (fun x=>∀ y∈x,ok y) (fun x=>(x.map μ).sum + 1) where
  read {enc W fuel cs d pl} h:=by
    rcases Deep.open_slice ht h with ⟨rfl,e'⟩ | ⟨a,len,cap,m,k,D,Pl,rfl,_,hl,_,hm,e',hx⟩
    · obtain⟨rfl,rfl⟩:=Prod.mk.inj e'
      exact⟨[],[nilS],by simp[VRels,VRel],⟨VLe.fsl_iff.2 (.inr ⟨rfl,.inl rfl⟩),trivial⟩,rfl,by simp,by simpa using B.pos _,rfl,by simp; rfl⟩
    · obtain⟨rfl,rfl⟩:=Prod.mk.inj e'
      have hlm:len≤m:=by rw[hm]; simpa using hl
      subst hn
      have hspot:0 < len→a.spot=none:=fun hp=>by
        obtain⟨cs',h1,h2⟩:=hx 0 (by omega)
        obtain⟨_,hlen,hc⟩:=World.cells?_some h1
        have:=hc 0 h0
        rw[List.getElem?_eq_getElem (by omega)] at this
        simp only[Nat.zero_mul,Addr.add,if_true] at this
        unfold World.cell? at this
        split at this
        · split at this
          · cases this
          · rename_i q; simpa using q
        · cases this
      obtain⟨ab,ao,sp⟩:=a
      have key:∀ j i,i + j=len→∃ (xs:List α) (rows:List (List AV)),RRel (Kw W) ab (ao + i * P.cellsOf e) (P.cellsOf e) rows∧All2 (All2 (VLe Rn.nil)) (xs.map en) rows∧xs.length=j∧(∀ x∈xs,ok x)∧(xs.map μ).sum≤((List.range' i j).map fun q=>f (D q)).sum:=by
        intro j
        induction j with
        | zero=>intro i _; exact⟨[],[],by simp[RRel],trivial,rfl,by simp,by simp⟩
        | succ j ih=>
          intro i hij
          obtain rfl:sp=none:=hspot (by omega)
          obtain⟨xs,rows,r1,r0,r2,r3,r4⟩:=ih (i + 1) (by omega)
          obtain⟨cs',h1,h2⟩:=hx i (by omega)
          obtain⟨x,a,x1,x0,_,x2,x3,x4,x5⟩:=R.read h2
          obtain⟨_,hlen,hc⟩:=World.cells?_some h1
          refine⟨x :: xs,a :: rows,?_,⟨x0,r0⟩,by simp[r2],by simpa using ⟨x2,r3⟩,?_⟩
          · simp only[RRel]
            refine⟨by rw[x1.len,x4],crel_rd x1 (fun q hq=>?_) x5,?_⟩
            · have:=hc q (by omega)
              rw[WideShapes.add_plain,WideShapes.add_plain] at this
              exact this
            · rw[Nat.add_assoc,show i * P.cellsOf e + P.cellsOf e=(i + 1) * P.cellsOf e by rw[Nat.add_mul,Nat.one_mul]]
              exact r1
          · simp only[List.map_cons,List.sum_cons,List.range'_succ]
            omega
      obtain⟨xs,rows,r1,r0,r2,r3,r4⟩:=key len 0 (by omega)
      have rl:rows.length=len:=by rw[r0.length,List.length_map,r2]
      refine⟨xs,[.fsl (P.cellsOf e) rows],?_,⟨VLe.fsl_iff.2 (.inl ⟨rows,rfl,r0⟩),trivial⟩,rfl,r3,?_,rfl,by simp; rfl⟩
      · simp only[VRels,VRel,and_true,rl]
        refine⟨some ⟨ab,ao,sp⟩,cap,rfl,by simp,hl,?_⟩
        rcases Nat.eq_zero_or_pos len with hz | hp
        · left
          exact List.length_eq_zero_iff.1 (by omega)
        · right
          obtain rfl:sp=none:=hspot hp
          exact⟨ab,ao,rfl,by rw[Nat.zero_mul,Nat.add_zero] at r1; exact r1⟩
      · rw[B.slice,B.sum,List.map_map,List.range_eq_range']
        have:(List.map (f ∘ D) (List.range' 0 len)).sum=((List.range' 0 len).map fun q=>f (D q)).sum:=rfl
        omega
structure Rds (P:Program) (f:DataW H→Nat) (g:List (DataW H)→Nat) (fs:List Field) (o n:Nat) {α:Type} (en:α→List AV) (ok:α→Prop) (μ:α→Nat):Prop where
  read:∀ {enc:TypeId × Value→H} {W:World} {fuel:Nat} {cs:List Value} {xs:List (DataW H × List MemPlace)},xs.length=fs.length→o + n≤cs.length →
    (∀ (i:Nat) (fd:Field),fs[i]? = some fd→DataW.trod enc P W 0 (fun _=>true) true fuel fd.type ((cs.drop fd.offset).take (P.cellsOf fd.type))=xs[i]?) →
    ∃ x a,VRels (Kw W) a ((cs.drop o).take n)∧All2 (VLe Rn.nil) (en x) a∧a.all simpC=true∧ok x∧μ x≤g (xs.map (·.1))∧(∀ v∈(cs.drop o).take n,v.oneCell' = true)
theorem Rds.nil (o:Nat):Rds P f g [] o 0 (fun _:Unit=>[]) (fun _=>True) (fun _=>0) where
  read _ _ _:=⟨(),[],by simp[VRels],trivial,rfl,trivial,Nat.zero_le _,by simp⟩
theorem Rds.cons (B:BulkOk f g) {fd:Field} {fs:List Field} {o n1 n2:Nat} {α β:Type} {e1:α→List AV} {ok1:α→Prop} {μ1:α→Nat} {e2:β→List AV} {ok2:β→Prop} {μ2:β→Nat} (R1:Rd P f fd.type n1 e1 ok1 μ1) (R2:Rds P f g fs (o + n1) n2 e2 ok2 μ2) (ho:fd.offset=o) (hn:P.cellsOf fd.type=n1) :
    Rds P f g (fd :: fs) o (n1 + n2) (fun x:α × β=>e1 x.1 ++ e2 x.2) (fun x=>ok1 x.1∧ok2 x.2) (fun x=>μ1 x.1 + μ2 x.2) where
  read {enc W fuel cs xs} hl hc h:=by
    cases xs with
    | nil=>simp at hl
    | cons y xs=>
      have h0:=h 0 fd rfl
      simp only[List.getElem?_cons_zero,ho,hn] at h0
      obtain⟨x1,l1,a1,a0,az,a2,a3,a4,a5⟩:=R1.read (d:=y.1) (pl:=y.2) h0
      obtain⟨x2,l2,b1,b0,bz,b2,b3,b5⟩:=R2.read (enc:=enc) (W:=W) (fuel:=fuel) (cs:=cs) (xs:=xs) (by simpa using hl) (by omega) (fun i fd' h'=>by have:=h (i + 1) fd' (by simpa using h'); simpa using this)
      have e:(cs.drop o).take (n1 + n2)=(cs.drop o).take n1 ++ (cs.drop (o + n1)).take n2:=by rw[List.take_add,List.drop_drop]
      refine⟨(x1,x2),l1 ++ l2,?_,a0.append b0,by rw[List.all_append,az,bz]; rfl,⟨a2,b2⟩,?_,?_⟩
      · rw[e]; exact a1.append b1
      · simp only[List.map_cons]; rw[B.cons]; omega
      · rw[e]
        intro v hv
        rcases List.mem_append.1 hv with hv | hv
        · exact a5 v hv
        · exact b5 v hv
theorem Rd.struct (B:BulkOk f g) {t:TypeId} {fs:Array Field} {n:Nat} {α β:Type} {en:α→List AV} {ok:α→Prop} {μ:α→Nat} (R:Rds P f g fs.toList 0 n en ok μ) (ht:P.underlying t=some (.struct fs)) (hn:P.cellsOf t=n) (mk:α→β) (hs:∀ y,∃ x,mk x=y) {en':β→List AV} (he:∀ x,en' (mk x)=en x) {ok':β→Prop} (hk:∀ x,ok x→ok' (mk x)) {μ':β→Nat} (hm:∀ x,μ' (mk x)≤μ x + 1) :
    Rd P f t n en' ok' μ' where
  read {enc W fuel cs d pl} h:=by
    obtain⟨xs,k,_,e,hl,hx,hf⟩:=DataW.trod_struct ht h
    obtain⟨rfl,rfl⟩:=Prod.mk.inj e
    obtain⟨x,a,h1,h0,hz,h2,h3,h4⟩:=R.read (enc:=enc) (W:=W) (fuel:=k) (cs:=cs) (xs:=xs) (by simpa using hx) (by omega) (fun i fd h'=>hf i fd (by simpa using h'))
    rw[List.drop_zero,List.take_of_length_le (by omega)] at h1 h4
    refine⟨mk x,a,h1,by rw[he]; exact h0,hz,hk x h2,?_,by omega,h4⟩
    rw[B.agg]
    have:=hm x
    omega
theorem Rd.arg1 {t:TypeId} {α:Type} {c:α→AV} {ok:α→Prop} {μ:α→Nat} (R:Rd P f t 1 (fun x=>[c x]) ok μ) {enc:TypeId × Value→H} {W:World} {v:Value} {d:DataW H} {pl:List MemPlace} (hv:v.cells = #[v]) (h:DataW.Trod enc P W 0 (fun _=>true) true t v d pl) :
    ∃ x b,VRel (Kw W) b v∧ok x∧μ x≤f d∧VLe Rn.nil (c x) b∧simpA b=true:=by
  obtain⟨fuel,h⟩:=h
  obtain⟨x,a,h1,h0,hz,h2,h3,_⟩:=R.read h
  rw[hv] at h1
  match a,h0 with
  | [b],h0=>
    simp only[VRels,and_true] at h1
    simp only[List.all_cons,List.all_nil,Bool.and_true] at hz
    refine⟨x,b,h1,h2,h3,h0.1,?_⟩
    unfold simpA
    split
    · cases hz
    · exact hz
  | [],h0=>exact h0.elim
  | _ :: _ :: _,h0=>exact h0.2.elim
theorem cells_int {P:Program} {W:World} {r:Reach} {b:Nat} {t:TypeId} {k:IntKind} {v:Value} (ht:P.underlying t=some (.int k)) (h:Value.okWide P W r b t v):v.cells = #[v]:=by
  unfold Value.okWide Cell.okWide Cell.ok at h
  rw[ht] at h
  cases v <;> first | rfl | simp at h
theorem args_stay {enc:TypeId × Value→H} (hl:laidOutB P=true) {W W':World} (hb:RowKit.Below W.heap.size W W') {sp:Nat→Bool}:∀ {ts:List TypeId} {vs:List Value} {ds:List (DataW H)} {ps:List MemPlace},(∀ t∈ts,P.readableRec t=true∧t < P.types.size)→DataW.TrodAll enc P W 0 (fun _=>true) true ts vs ds ps→(∀ x∈ps,x.block < W.heap.size)→(∀ x∈ps,sp x.block=true) →
    DataW.TrodAll enc P W' 0 sp true ts vs ds ps
  | [],[],[],_,_,h,_,_=>h
  | t :: ts,v :: vs,d :: ds,ps,hr,h,h1,h2=>by
    obtain⟨p,q,h3,h4,rfl⟩:=h
    exact⟨p,q,WideElems.Trod_stays hl (hr t List.mem_cons_self).1 (hr t List.mem_cons_self).2 h3 (fun x hx=>hb.same (h1 x (List.mem_append_left _ hx))) (fun x hx=>h2 x (List.mem_append_left _ hx)),
      args_stay hl hb (fun u hu=>hr u (List.mem_cons_of_mem _ hu)) h4 (fun x hx=>h1 x (List.mem_append_right _ hx)) (fun x hx=>h2 x (List.mem_append_right _ hx)),rfl⟩
  | [],_ :: _,_,_,_,h,_,_=>h.elim
  | [],[],_ :: _,_,_,h,_,_=>h.elim
  | _ :: _,[],_,_,_,h,_,_=>h.elim
  | _ :: _,_ :: _,[],_,_,h,_,_=>h.elim
end
end Go.Vm
/- Plain laws: loops, numbers. -/
namespace Go.Vm
open Go
section
variable {σ τ:Type} {f:σ→Option (Step σ τ)}
theorem loopC_next {x y:σ} (h:f x=some (.next y)):loopC f x=loopC f y:=by rw[loopC_eq,h]; rfl
theorem loopC_done {x:σ} {t:τ} (h:f x=some (.done t)):loopC f x=some t:=by rw[loopC_eq,h]; rfl
theorem loopC_fun (I:σ→Prop) (μ:σ→Nat) (g:σ→τ) (h:∀ x,I x→f x=some (.done (g x))∨∃ y,f x=some (.next y)∧I y∧μ y < μ x∧g y=g x) {x:σ} (hx:I x):loopC f x=some (g x):=by
  have key:∀ n x,I x→μ x≤n→loopC f x=some (g x):=by
    intro n
    induction n with
    | zero=>
      intro x hx hn
      rcases h x hx with h1 | ⟨y,_,_,h3,_⟩
      · exact loopC_done h1
      · omega
    | succ n ih=>
      intro x hx hn
      rcases h x hx with h1 | ⟨y,h1,h2,h3,h4⟩
      · exact loopC_done h1
      · rw[loopC_next h1,ih y h2 (by omega),h4]
  exact key _ x hx (Nat.le_refl _)
end
theorem w64_id {x:Int} (h1 : -9223372036854775808≤x) (h2:x≤9223372036854775807):w64 x=x:=i64_id h1 h2
theorem ixl_nat {α:Type} {l:List α} {i:Nat} (h:i < l.length):ixl l (i:Int)=some l[i]:=by
  unfold ixl
  rw[if_pos (by omega),Int.toNat_natCast,List.getElem?_eq_getElem h]
theorem app_ok {α:Type} {b:Nat} {l m:List α} (h1:(l.length + m.length) * b≤140737488355328) (h2:l.length + m.length≤9223372036854775807):app b l m=some (l ++ m):=by
  unfold app; rw[if_pos ⟨h1,h2⟩]
end Go.Vm
/- Plain laws of chapter 26: what follows by units. -/
namespace Go.Vm
open Go
theorem w64_n (i:Nat) (h:i≤9223372036854775806):w64 ((i:Int) + 1)=((i + 1:Nat):Int):=by rw[w64_id (by omega) (by omega)]; rfl
def goodB (x:Int):Bool:=decide (x≠0) && decide (-4096≤x) && decide (x≤4096)
theorem goodB_iff {x:Int}:goodB x=true↔x≠0 ∧ -4096≤x∧x≤4096:=by
  unfold goodB
  simp only[Bool.and_eq_true,decide_eq_true_eq,and_assoc]
theorem goodB_neg {x:Int} (h:goodB x=true):goodB (-x)=true:=by
  rw[goodB_iff] at h ⊢
  omega
def tV (V:List Int) (x:Int):Int:=if x < 0 then - V.getD x.natAbs 0 else V.getD x.natAbs 0
theorem tV_neg (V:List Int) {x:Int} (h:x≠0):tV V (-x) = - tV V x:=by
  unfold tV
  rw[Int.natAbs_neg]
  by_cases hx:x < 0
  · rw[if_pos hx,if_neg (by omega)]; omega
  · rw[if_neg hx,if_pos (by omega)]
end Go.Vm
/- Plain laws of chapter 26: what a run tells is true wherever the clauses and what is assumed are. -/
set_option linter.unusedSectionVars false
namespace Go.Vm
open Go
def smallB (x:Int):Prop:=x≠0 ∧ -30≤x∧x≤30
theorem small_good {x:Int} (h:smallB x):goodB x=true:=goodB_iff.2 ⟨h.1,by have:=h.2; omega,by have:=h.2; omega⟩
section
variable {is:Int→Bool} (hneg:∀ x,smallB x→is (-x) = !is x)
include hneg
def TrueBy (is:Int→Bool) (V:List Int):Prop:=∀ y,goodB y=true→tV V y=1→smallB y∧is y=true
theorem not_false {V:List Int} (hI:TrueBy is V) {y:Int} (hy:smallB y) (h1:is y=true):tV V y ≠ -1:=fun e=>by
  have h2:tV V (-y)=1:=by rw[tV_neg V hy.1,e]; rfl
  have:=(hI (-y) (goodB_neg (small_good hy)) h2).2
  rw[hneg y hy,h1] at this
  cases this
end
end Go.Vm
/- Plain laws of chapter 24: clauses in order. -/
namespace Go.Vm
open Go
def Canon (s l:List Int):Prop:=s.Pairwise (fun a b=>a.natAbs < b.natAbs)∧∀ y,y∈s↔y∈l
theorem Canon.uniq {s t l:List Int} (h:Canon s l) (g:Canon t l):s=t:=by
  have nd:∀ {u:List Int},u.Pairwise (fun a b=>a.natAbs < b.natAbs)→u.Nodup:=fun hu=>hu.imp fun {a b} hab e=>by subst e; exact Nat.lt_irrefl _ hab
  refine List.Perm.eq_of_pairwise (le:=fun a b=>a.natAbs < b.natAbs) (fun a b _ _ h1 h2=>absurd h1 (Nat.lt_asymm h2)) h.1 g.1 ?_
  exact (List.perm_ext_iff_of_nodup (nd h.1) (nd g.1)).2 fun y=>(h.2 y).trans (g.2 y).symm
def Plainly (l:List Int):Prop:=(∀ x∈l,goodB x=true)∧∀ x∈l, -x∉l
theorem Canon.plainly {s l:List Int} (h:Canon s l) (hg:∀ x∈l,goodB x=true):Plainly l:=by
  refine⟨hg,fun x hx hn=>?_⟩
  have h1:=(h.2 x).2 hx
  have h2:=(h.2 (-x)).2 hn
  have hx0:=goodB_iff.1 (hg x hx)
  have key:∀ (u:List Int),u.Pairwise (fun a b=>a.natAbs < b.natAbs)→∀ a∈u,∀ b∈u,a.natAbs=b.natAbs→a=b:=by
    intro u hu
    induction u with
    | nil=>intro a ha; cases ha
    | cons c u ih=>
      obtain⟨c1,c2⟩:=List.pairwise_cons.1 hu
      intro a ha b hb e
      rcases List.mem_cons.1 ha with ha | ha <;> rcases List.mem_cons.1 hb with hb | hb
      · rw[ha,hb]
      · have:=c1 b hb; rw[ha] at e; omega
      · have:=c1 a ha; rw[hb] at e; omega
      · exact ih c2 a ha b hb e
  have:=key s h.1 x h1 (-x) h2 (by omega)
  omega
def insC (x:Int):List Int→Option (List Int)
  | []=>some [x]
  | y :: l=>if y.natAbs < x.natAbs then (insC x l).map (y :: ·) else if y = -x then none else if y=x then some (y :: l) else some (x :: y :: l)
theorem insC_ok {x:Int}:∀ {s l:List Int},Canon s l→(∃ t,insC x s=some t∧Canon t (l ++ [x]))∨(insC x s=none ∧ -x∈l):=by
  have key:∀ {s:List Int},s.Pairwise (fun a b=>a.natAbs < b.natAbs)→(∃ t,insC x s=some t∧t.Pairwise (fun a b=>a.natAbs < b.natAbs)∧(∀ y,y∈t↔(y∈s∨y=x)))∨(insC x s=none ∧ -x∈s):=by
    intro s
    induction s with
    | nil=>exact fun _=>.inl ⟨[x],rfl,List.pairwise_singleton _ _,fun y=>by simp⟩
    | cons y s ih=>
      intro h
      obtain⟨h1,h2⟩:=List.pairwise_cons.1 h
      unfold insC
      by_cases hy:y.natAbs < x.natAbs
      · rw[if_pos hy]
        rcases ih h2 with ⟨t,e,p,m⟩ | ⟨e,m⟩
        · left
          rw[e]
          refine⟨y :: t,rfl,List.pairwise_cons.2 ⟨fun z hz=>?_,p⟩,fun z=>?_⟩
          · rcases (m z).1 hz with hz | rfl
            · exact h1 z hz
            · exact hy
          · rw[List.mem_cons,List.mem_cons,m z,or_assoc]
        · right
          rw[e]
          exact⟨rfl,List.mem_cons_of_mem y m⟩
      · rw[if_neg hy]
        by_cases hn:y = -x
        · rw[if_pos hn]
          exact .inr ⟨rfl,hn ▸ List.mem_cons_self ..⟩
        · rw[if_neg hn]
          by_cases he:y=x
          · rw[if_pos he]
            refine .inl ⟨_,rfl,h,fun z=>⟨.inl,fun q=>q.elim id fun q=>?_⟩⟩
            rw[q,← he]; exact List.mem_cons_self ..
          · rw[if_neg he]
            refine .inl ⟨_,rfl,List.pairwise_cons.2 ⟨fun z hz=>?_,h⟩,fun z=>?_⟩
            · rcases List.mem_cons.1 hz with rfl | hz
              · omega
              · have:=h1 z hz; omega
            · rw[List.mem_cons]
              exact⟨fun q=>q.elim .inr .inl,fun q=>q.elim .inr .inl⟩
  intro s l h
  rcases key h.1 with ⟨t,e,p,m⟩ | ⟨e,m⟩
  · refine .inl ⟨t,e,p,fun y=>?_⟩
    rw[m y,h.2 y,List.mem_append,List.mem_singleton]
  · exact .inr ⟨e,(h.2 _).1 m⟩
def cleanR:List Int→List Int→Option (List Int)
  | [],s=>some s
  | x :: l,s=>if goodB x=true then (insC x s).bind (cleanR l) else none
theorem cleanR_ok:∀ (l:List Int) {s p:List Int},Canon s p→(∀ x∈p,goodB x=true)→(∃ t,cleanR l s=some t∧Canon t (p ++ l)∧Plainly (p ++ l))∨(cleanR l s=none∧¬ Plainly (p ++ l))
  | [],s,p,h,hg=>by rw[List.append_nil]; exact .inl ⟨s,rfl,h,h.plainly hg⟩
  | x :: l,s,p,h,hg=>by
    unfold cleanR
    by_cases hx:goodB x=true
    · rw[if_pos hx]
      rcases insC_ok (x:=x) h with ⟨t,e,ht⟩ | ⟨e,hm⟩
      · rw[e]
        simp only[Option.bind_some]
        have:=cleanR_ok l ht (fun y hy=>by
          rcases List.mem_append.1 hy with hy | hy
          · exact hg y hy
          · rw[List.mem_singleton.1 hy]; exact hx)
        rwa [List.append_assoc] at this
      · rw[e]
        refine .inr ⟨rfl,fun q=>q.2 x (by simp) (List.mem_append_left _ hm)⟩
    · rw[if_neg hx]
      exact .inr ⟨rfl,fun q=>hx (q.1 x (by simp))⟩
def adjN:List Int→Bool
  | x :: y :: l=>x == -y || adjN (y :: l)
  | _=>false
def cleanM (l:List Int):Option (List Int):=if (l.all goodB)=true then (if adjN (Lib.compact (sortBy bvLe l))=true then none else some (Lib.compact (sortBy bvLe l))) else none
theorem compact_pw {d:List Int} (hs:d.Pairwise (fun a b=>bvLe a b=true)):(Lib.compact d).Pairwise (fun a b=>bvLe a b=true∧a≠b)∧∀ x,x∈Lib.compact d↔x∈d:=by
  have hget:∀ j,j < d.length→d.toArray[j]! = d.getD j 0:=fun j hj=>by simp[hj]
  have refl:∀ a,bvLe a a=true:=fun a=>by rw[bvLe_iff]; omega
  have hle:∀ i j,i≤j→j < d.length→bvLe (d.getD i 0) (d.getD j 0)=true:=fun i j hij hj=>by
    rcases Nat.lt_or_ge i j with h | h
    · have:=List.pairwise_iff_getElem.1 hs i j (by omega) hj h
      simpa[List.getD,hj,show i < d.length by omega] using this
    · have:i=j:=by omega
      subst this; exact refl _
  unfold Lib.compact Lib.compactUpTo
  constructor
  · rw[List.pairwise_map]
    refine (List.Pairwise.filter _ List.pairwise_lt_range).imp_of_mem fun {i j} hi hj hij=>?_
    simp only[List.mem_filter,List.mem_range] at hi hj
    have hk:=hj.2
    unfold Lib.keeps at hk
    simp only[decide_eq_true_eq] at hk
    rcases hk with hk | hk
    · omega
    · rw[hget j hj.1,hget (j - 1) (by omega)] at hk
      rw[hget i hi.1,hget j hj.1]
      have h1:=hle i (j - 1) (by omega) (by omega)
      have h2:=hle (j - 1) j (by omega) hj.1
      refine⟨bv_tr _ _ _ h1 h2,fun e=>hk ?_⟩
      rw[e] at h1
      exact bv_anti _ _ h1 h2
  · intro x
    simp only[List.mem_map,List.mem_filter,List.mem_range]
    constructor
    · rintro⟨j,⟨h1,_⟩,rfl⟩
      rw[hget j h1]
      simp[List.getD,h1]
    · intro hx
      have key:∀ j,j < d.length→∃ i,(i < d.length∧Lib.keeps d.toArray i=true)∧d.toArray[i]! = d.getD j 0:=by
        intro j
        induction j with
        | zero=>
          intro h
          exact⟨0,⟨h,by simp[Lib.keeps]⟩,hget 0 h⟩
        | succ j ih=>
          intro h
          by_cases e:d.getD (j + 1) 0=d.getD j 0
          · obtain⟨i,h1,h2⟩:=ih (by omega)
            exact⟨i,h1,h2.trans e.symm⟩
          · refine⟨j + 1,⟨h,?_⟩,hget _ h⟩
            unfold Lib.keeps
            rw[decide_eq_true_eq,hget _ h,Nat.add_sub_cancel,hget j (by omega)]
            exact .inr e
      obtain⟨j,hj,rfl⟩:=List.getElem_of_mem hx
      obtain⟨i,h1,h2⟩:=key j hj
      exact⟨i,h1,by rw[h2]; simp[List.getD,hj]⟩
theorem adjN_pw:∀ {s:List Int},s.Pairwise (fun a b=>bvLe a b=true∧a≠b)→adjN s=false→s.Pairwise (fun a b=>a.natAbs < b.natAbs)
  | [],_,_=>List.Pairwise.nil
  | [x],_,_=>List.pairwise_singleton _ _
  | x :: y :: l,h,ha=>by
    obtain⟨h1,h2⟩:=List.pairwise_cons.1 h
    unfold adjN at ha
    rw[Bool.or_eq_false_iff] at ha
    have ih:=adjN_pw h2 ha.2
    have hxy:=h1 y (List.mem_cons_self ..)
    have hne:x ≠ -y:=by simpa using ha.1
    have hlt:x.natAbs < y.natAbs:=by
      have:=bvLe_iff.1 hxy.1
      have:=hxy.2
      omega
    refine List.pairwise_cons.2 ⟨fun z hz=>?_,ih⟩
    rcases List.mem_cons.1 hz with rfl | hz
    · exact hlt
    · exact Nat.lt_trans hlt ((List.pairwise_cons.1 ih).1 z hz)
theorem adjN_mem:∀ {s:List Int},adjN s=true→∃ x∈s, -x∈s
  | x :: y :: l,h=>by
    unfold adjN at h
    rw[Bool.or_eq_true] at h
    rcases h with h | h
    · have:x = -y:=by simpa using h
      exact⟨y,by simp,by rw[← this]; simp⟩
    · obtain⟨z,h1,h2⟩:=adjN_mem h
      exact⟨z,List.mem_cons_of_mem x h1,List.mem_cons_of_mem x h2⟩
theorem clean_same (l:List Int):cleanM l=cleanR l []:=by
  have hc:Canon [] []:=⟨List.Pairwise.nil,fun _=>Iff.rfl⟩
  have hr:=cleanR_ok l hc (fun x hx=>by cases hx)
  rw[List.nil_append] at hr
  unfold cleanM
  obtain⟨p1,p2⟩:=compact_pw (sortBy_pw bv_tr bv_tot l)
  have hm:∀ y,y∈Lib.compact (sortBy bvLe l)↔y∈l:=fun y=>(p2 y).trans (sortBy_perm l).mem_iff
  by_cases hg:(l.all goodB)=true
  · rw[if_pos hg]
    cases ha:adjN (Lib.compact (sortBy bvLe l)) with
    | true=>
      rw[if_pos rfl]
      obtain⟨x,h1,h2⟩:=adjN_mem ha
      rcases hr with ⟨t,e,_,h⟩ | ⟨e,_⟩
      · exact absurd ((hm _).1 h2) (h.2 x ((hm x).1 h1))
      · exact e.symm
    | false=>
      rw[if_neg (by decide)]
      have hC:Canon (Lib.compact (sortBy bvLe l)) l:=⟨adjN_pw p1 ha,hm⟩
      rcases hr with ⟨t,e,ht,_⟩ | ⟨e,h⟩
      · rw[e,hC.uniq ht]
      · exact absurd (hC.plainly fun x hx=>List.all_eq_true.1 hg x hx) h
  · rw[if_neg hg]
    rcases hr with ⟨t,e,_,h⟩ | ⟨e,_⟩
    · exact absurd (List.all_eq_true.2 h.1) hg
    · exact e.symm
theorem cleanR_small:∀ (l:List Int) {s t:List Int},cleanR l s=some t→t.length≤s.length + l.length
  | [],s,t,h=>by cases h; exact Nat.le_refl _
  | x :: l,s,t,h=>by
    have key:∀ {s u:List Int},insC x s=some u→u.length≤s.length + 1:=by
      intro s
      induction s with
      | nil=>intro u h; cases h; exact Nat.le_refl _
      | cons y s ih=>
        intro u h
        unfold insC at h
        split at h
        · cases e:insC x s with
          | none=>rw[e] at h; cases h
          | some v=>
            rw[e] at h
            cases h
            have:=ih e
            simp only[List.length_cons]
            omega
        · split at h
          · cases h
          · split at h <;> cases h <;> simp
    unfold cleanR at h
    split at h
    · cases e:insC x s with
      | none=>rw[e] at h; cases h
      | some u=>
        rw[e] at h
        have h1:=key e
        have h2:=cleanR_small l h
        simp only[List.length_cons]
        omega
    · cases h
end Go.Vm
/- Plain laws of chapter 24: rows gone through; a clause cleaned. -/
namespace Go.Vm
open Go
theorem walkB {F:Int→Option (Step Int (Unit ⊕ Unit))} {n:Nat} {p:Nat→Bool} (hn:n≤1048576) (h1:∀ i:Nat,i < n→(∀ j,j < i→p j=true)→F (i:Int)=if p i=true then some (.next ((i + 1:Nat):Int)) else some (.done (Sum.inl ()))) (h2:F (n:Int)=some (.done (Sum.inr ()))) :
    loopC F 0=some (if (List.range n).all p=true then Sum.inr () else Sum.inl ()):=by
  have:=loopC_fun (f:=F) (fun x=>∃ i:Nat,x=(i:Int)∧i≤n∧∀ j,j < i→p j=true) (fun x=>n - x.toNat) (fun _=>if (List.range n).all p=true then Sum.inr () else Sum.inl ()) (fun x hx=>by
    obtain⟨i,rfl,hi,hp⟩:=hx
    rcases Nat.lt_or_ge i n with h | h
    · cases e:p i with
      | true=>
        right
        refine⟨_,by rw[h1 i h hp,e,if_pos rfl],⟨i + 1,rfl,h,fun j hj=>?_⟩,by omega,rfl⟩
        rcases Nat.lt_or_ge j i with g | g
        · exact hp j g
        · rw[show j=i by omega]; exact e
      | false=>
        left
        rw[h1 i h hp,e,if_neg (by decide),if_neg]
        intro q
        have:=List.all_eq_true.1 q i (List.mem_range.2 h)
        rw[e] at this
        cases this
    · left
      have:i=n:=by omega
      subst this
      rw[h2,if_pos]
      exact List.all_eq_true.2 fun j hj=>hp j (List.mem_range.1 hj)) (x:=(0:Int)) ⟨0,rfl,Nat.zero_le _,fun j hj=>absurd hj (Nat.not_lt_zero _)⟩
  exact this
theorem range_all {l:List Int} {p:Int→Bool}:(List.range l.length).all (fun i=>p (l.getD i 0))=l.all p:=by
  rw[Bool.eq_iff_iff,List.all_eq_true,List.all_eq_true]
  constructor
  · intro h x hx
    obtain⟨i,hi,rfl⟩:=List.getElem_of_mem hx
    have:=h i (List.mem_range.2 hi)
    simpa[List.getD,hi] using this
  · intro h i hi
    have hi:=List.mem_range.1 hi
    have:=h l[i] (List.getElem_mem hi)
    simpa[List.getD,hi] using this
theorem getD_get {l:List Int} {i:Nat} (h:i < l.length):l.getD i 0=l[i]:=by simp[List.getD,h]
def litB (v x:Int):Bool:=decide (x≠0) && decide (x≤v) && decide (-v≤x)
theorem litB_iff {v x:Int}:litB v x=true↔x≠0∧x≤v ∧ -v≤x:=by
  simp[litB,and_assoc]
theorem w64_opp {v:Int} (h:0≤v) (h2:v≤1048576):w64 (0 - v) = -v:=by rw[w64_id (by omega) (by omega)]; omega
theorem lit_eq {v:Int} (x:Int) (h:0≤v) (h2:v≤1048576):cnf_literal x v=some (litB v x):=by
  unfold cnf_literal litB
  rw[w64_opp h h2]
  congr 1
  rw[Bool.eq_iff_iff]
  simp
theorem lit_good (x:Int):litB 4096 x=goodB x:=by
  rw[Bool.eq_iff_iff,litB_iff,goodB_iff]
  omega
theorem size_eq24 {x:Int} (h : -1048576≤x) (h2:x≤1048576):cnf_size x=some (x.natAbs:Int):=by
  unfold cnf_size
  rw[w64_id (by omega) (by omega)]
  congr 1
  split <;> omega
theorem w64_ng {x:Int} (h:goodB x=true):w64 (0 - x) = -x:=by
  have:=goodB_iff.1 h
  rw[w64_id (by omega) (by omega)]; omega
theorem w64_pred {i:Nat} (h:0 < i) (h2:i≤1048577):w64 ((i:Int) - 1)=((i - 1:Nat):Int):=by
  rw[w64_id (by omega) (by omega)]
  omega
theorem adjN_iff:∀ {s:List Int},adjN s=false↔∀ i:Nat,0 < i→i < s.length→s.getD (i - 1) 0 ≠ -s.getD i 0
  | []=>by simp[adjN]
  | [x]=>by
    refine⟨fun _ i h1 h2=>?_,fun _=>rfl⟩
    simp only[List.length_singleton] at h2
    omega
  | x :: y :: l=>by
    unfold adjN
    rw[Bool.or_eq_false_iff,adjN_iff (s:=y :: l)]
    constructor
    · rintro⟨h1,h2⟩ i hi hl
      obtain⟨k,rfl⟩:∃ k,i=k + 1:=⟨i - 1,by omega⟩
      cases k with
      | zero=>simpa using h1
      | succ k=>
        have:=h2 (k + 1) (by omega) (by simpa using hl)
        simpa using this
    · intro h
      refine⟨by simpa using h 1 (by omega) (by simp),fun i hi hl=>?_⟩
      have:=h (i + 1) (by omega) (by simpa using hl)
      obtain⟨k,rfl⟩:∃ k,i=k + 1:=⟨i - 1,by omega⟩
      simpa using this
def cleanO (l:List Int):List Int × Bool:=
  match cleanR l [] with
  | some s=>(s,true)
  | none=>([],false)
theorem cnf_Clean_eq (l:List Int) (hl:l.length≤1048576):cnf_Clean l=some (cleanO l):=by
  unfold cnf_Clean slices_Clone_int_int cleanO
  rw[app_ok (by simp only[List.length_nil]; omega) (by simp only[List.length_nil]; omega),← clean_same]
  simp only[Option.bind_some,List.nil_append]
  have h1:loopC (cnf_Clean_l1 l) 0=some (if (l.all goodB)=true then Sum.inr () else Sum.inl ()):=by
    rw[walkB (F:=cnf_Clean_l1 l) (p:=fun i=>goodB (l.getD i 0)) hl (fun i h _=>by
      unfold cnf_Clean_l1
      rw[if_pos (by simpa using h),ixl_nat h]
      simp only[Option.bind_some]
      rw[lit_eq _ (by decide) (by decide),lit_good,getD_get h]
      simp only[Option.bind_some]
      rw[w64_n i (by omega)]
      cases goodB l[i] <;> rfl) (by
      unfold cnf_Clean_l1
      rw[if_neg (by simp)]),range_all]
  rw[h1]
  unfold cleanM
  by_cases hg:(l.all goodB)=true
  · rw[if_pos hg,if_pos hg]
    simp only[Option.bind_some]
    have hsm:∀ x∈l,x.natAbs≤4096:=fun x hx=>by
      have:=goodB_iff.1 (List.all_eq_true.1 hg x hx)
      omega
    have hs:slices_SortFuncV l=some (sortBy bvLe l):=by
      unfold slices_SortFuncV srtOO srtBv
      rw[if_pos (by omega),if_pos (List.all_eq_true.2 fun x hx=>decide_eq_true (hsm x hx))]
    rw[hs]
    simp only[Option.bind_some]
    have hlen:(sortBy bvLe l).length=l.length:=(sortBy_perm l).length_eq
    have hc:slices_CompactI (sortBy bvLe l)=some (Lib.compact (sortBy bvLe l)):=by
      unfold slices_CompactI cptO
      rw[if_pos (by omega)]
    rw[hc]
    simp only[Option.bind_some]
    obtain⟨_,p2⟩:=compact_pw (sortBy_pw bv_tr bv_tot l)
    have hcl:(Lib.compact (sortBy bvLe l)).length≤l.length:=by rw[← hlen]; exact compact_le _
    have hgd:∀ x∈Lib.compact (sortBy bvLe l),goodB x=true:=fun x hx=>List.all_eq_true.1 hg x ((sortBy_perm l).mem_iff.1 ((p2 x).1 hx))
    generalize Lib.compact (sortBy bvLe l)=s at hcl hgd
    have h2:loopC (cnf_Clean_l2 s) 0=some (if adjN s=true then Sum.inl () else Sum.inr ()):=by
      rw[walkB (F:=cnf_Clean_l2 s) (n:=s.length) (p:=fun i=>!(decide (0 < i) && decide (s.getD (i - 1) 0 = -s.getD i 0))) (by omega) (fun i h _=>by
        unfold cnf_Clean_l2
        rw[if_pos (by simpa using h),w64_n i (by omega)]
        by_cases hi:0 < i
        · rw[if_pos (by simpa using hi),w64_pred hi (by omega),ixl_nat (by omega),ixl_nat h]
          simp only[Option.bind_some]
          rw[w64_ng (hgd _ (List.getElem_mem h)),getD_get h,getD_get (by omega)]
          by_cases e:s[i - 1] = -s[i]
          · simp[hi,e]
          · simp[hi,e]
        · rw[if_neg (by simpa using hi)]
          have:i=0:=by omega
          subst this
          simp) (by
        unfold cnf_Clean_l2
        rw[if_neg (by simp)])]
      congr 1
      cases ha:adjN s with
      | false=>
        rw[if_neg (show ¬ (false=true) by decide),if_pos]
        refine List.all_eq_true.2 fun i hi=>?_
        have:=adjN_iff.1 ha i
        simp only[List.mem_range] at hi
        by_cases h0:0 < i
        · have t:=this h0 hi
          rw[decide_eq_true h0,decide_eq_false t]; rfl
        · simp[h0]
      | true=>
        rw[if_pos rfl,if_neg]
        intro q
        have:adjN s=false:=adjN_iff.2 fun i h0 hi=>by
          have:=List.all_eq_true.1 q i (List.mem_range.2 hi)
          simpa[h0] using this
        rw[this] at ha
        cases ha
    rw[h2]
    cases adjN s <;> rfl
  · rw[if_neg hg,if_neg hg]
    rfl
end Go.Vm
/- Plain laws of chapter 24: which formulas are ones. -/
namespace Go.Vm
open Go
def clB (v:Int) (l:List Int) (i:Nat):Bool:=litB v (l.getD i 0) && !(decide (0 < i) && decide ((l.getD i 0).natAbs≤(l.getD (i - 1) 0).natAbs))
def clauseB (v:Int) (l:List Int):Bool:=(List.range l.length).all (clB v l)
section
variable {v:Int} (h0:0≤v) (h1:v≤4096)
include h0 h1
theorem cnf_clean_eq (l:List Int) (hl:l.length≤1048576):cnf_clean l v=some (clauseB v l):=by
  unfold cnf_clean
  rw[walkB (F:=cnf_clean_l1 l v) (p:=clB v l) hl (fun i h hp=>by
    unfold cnf_clean_l1
    rw[if_pos (by simpa using h),ixl_nat h]
    simp only[Option.bind_some]
    rw[lit_eq _ h0 (by omega)]
    simp only[Option.bind_some]
    unfold clB
    rw[getD_get h]
    cases hx:litB v l[i] with
    | false=>rfl
    | true=>
      have hx':=litB_iff.1 hx
      simp only[Bool.not_true,Bool.false_eq_true,if_false,Bool.true_and]
      by_cases hi:0 < i
      · have hq:=hp (i - 1) (by omega)
        unfold clB at hq
        rw[Bool.and_eq_true] at hq
        have hy:=litB_iff.1 hq.1
        rw[getD_get (by omega)] at hy
        rw[if_pos (by simpa using hi),w64_pred hi (by omega),ixl_nat (by omega)]
        simp only[Option.bind_some]
        rw[size_eq24 (by omega) (by omega),size_eq24 (by omega) (by omega)]
        simp only[Option.bind_some,Bool.false_or]
        rw[getD_get (by omega),w64_n i (by omega)]
        by_cases e:l[i].natAbs≤l[i - 1].natAbs
        · rw[if_pos (by simp; omega),if_neg (by simp[hi,e])]
        · rw[if_neg (by simp; omega),if_pos (by simp[hi,e])]
      · rw[if_neg (by simpa using hi)]
        simp only[Option.bind_some,Bool.false_or]
        rw[if_neg (by decide),if_pos (by simp[hi]),w64_n i (by omega)]) (by
    unfold cnf_clean_l1
    rw[if_neg (by simp)])]
  unfold clauseB
  simp only[Option.bind_some]
  cases (List.range l.length).all (clB v l) <;> rfl
end
def orB (v:Int) (l:List Int) (i:Nat):Bool:=litB v (l.getD i 0) && !(decide (l.getD i 0∈l.take i))
theorem seen_loop {β:Type} {F:List β × Int→Option (Step (List β × Int) (Unit ⊕ Unit))} {v:Int} (h0:0≤v) (h1:v≤4096) {l:List Int} (hl:l.length≤1048576) (mark:Nat→β→Prop) (yes:β→Bool) {z:β} (hz:∀ i,mark i z) (hno:yes z=false)
    (hs:∀ (i:Nat) (h:i < l.length) (s:List β),s.length=(2 * v + 1).toNat→(∀ b∈s,mark i b)→∃ w:β→β,(∀ b,mark i b→mark (i + 1) b∧mark (i + 1) (w b)∧yes (w b)=true) ∧
      F (s,(i:Int))=if litB v l[i]=true then Option.bind s[(l[i] + v).toNat]? (fun b=>if yes b=true then some (.done (Sum.inl ())) else some (.next (s.set (l[i] + v).toNat (w b),((i + 1:Nat):Int)))) else some (.done (Sum.inl ())))
    (he:∀ s,F (s,(l.length:Int))=some (.done (Sum.inr ()))) :
    loopC F (List.replicate (2 * v + 1).toNat z,0)=some (if (List.range l.length).all (orB v l)=true then Sum.inr () else Sum.inl ()):=by
  have:=loopC_fun (f:=F) (fun x=>∃ i:Nat,x.2=(i:Int)∧i≤l.length∧(∀ j,j < i→orB v l j=true)∧x.1.length=(2 * v + 1).toNat∧(∀ b∈x.1,mark i b)∧∀ y,litB v y=true→(x.1[(y + v).toNat]?.map yes=some (decide (y∈l.take i)))) (fun x=>l.length - x.2.toNat) (fun _=>if (List.range l.length).all (orB v l)=true then Sum.inr () else Sum.inl ()) (fun x hx=>by
    obtain⟨s,w0⟩:=x
    obtain⟨i,e,hi,hp,hlen,hm,hy⟩:=hx
    simp only at e hlen hm hy
    subst e
    rcases Nat.lt_or_ge i l.length with h | h
    · obtain⟨w,hw,e⟩:=hs i h s hlen hm
      rw[e]
      have hstop:orB v l i=false→¬ ((List.range l.length).all (orB v l)=true):=fun q g=>by
        have:=List.all_eq_true.1 g i (List.mem_range.2 h)
        rw[q] at this
        cases this
      cases hx:litB v l[i] with
      | false=>
        left
        rw[if_neg (by decide),if_neg (hstop (by unfold orB; rw[getD_get h,hx]; rfl))]
      | true=>
        have hx':=litB_iff.1 hx
        rw[if_pos rfl]
        have hk:(l[i] + v).toNat < s.length:=by omega
        rw[List.getElem?_eq_getElem hk]
        simp only[Option.bind_some]
        have hyi:=hy _ hx
        rw[List.getElem?_eq_getElem hk] at hyi
        simp only[Option.map_some,Option.some.injEq] at hyi
        have hmk:=hm _ (List.getElem_mem hk)
        by_cases hin:l[i]∈l.take i
        · left
          rw[hyi,if_pos (decide_eq_true hin),if_neg (hstop (by unfold orB; rw[getD_get h,hx,decide_eq_true hin]; rfl))]
        · right
          rw[hyi,if_neg (by simpa using hin)]
          obtain⟨_,w1,w2⟩:=hw _ hmk
          refine⟨_,rfl,⟨i + 1,rfl,h,fun j hj=>?_,by rw[List.length_set]; exact hlen,fun b hb=>?_,fun y hyl=>?_⟩,by simp only[Int.toNat_natCast]; omega,by first | rfl | trivial⟩
          · rcases Nat.lt_or_ge j i with g | g
            · exact hp j g
            · rw[show j=i by omega]
              unfold orB
              rw[getD_get h,hx,decide_eq_false hin]
              rfl
          · rcases List.mem_or_eq_of_mem_set hb with hb | rfl
            · exact (hw b (hm b hb)).1
            · exact w1
          · have hyl':=litB_iff.1 hyl
            have hmem:y∈l.take (i + 1)↔y∈l.take i∨y=l[i]:=by rw[List.take_succ_eq_append_getElem h]; simp only[List.mem_append,List.mem_singleton]
            by_cases ey:y=l[i]
            · rw[decide_eq_true (hmem.2 (.inr ey)),ey,List.getElem?_set_self hk]
              simp only[Option.map_some,w2]
            · rw[List.getElem?_set_ne (by omega),hy y hyl,decide_eq_decide.2 (⟨fun q=>hmem.2 (.inl q),fun q=>(hmem.1 q).resolve_right ey⟩:y∈l.take i↔y∈l.take (i + 1))]
    · left
      have:i=l.length:=by omega
      subst this
      rw[he,if_pos]
      exact List.all_eq_true.2 fun j hj=>hp j (List.mem_range.1 hj)) (x:=(List.replicate (2 * v + 1).toNat z,(0:Int))) ⟨0,rfl,Nat.zero_le _,fun j hj=>absurd hj (Nat.not_lt_zero _),List.length_replicate,fun b hb=>by rw[List.eq_of_mem_replicate hb]; exact hz 0,fun y hy=>by
      have hy':=litB_iff.1 hy
      rw[List.getElem?_replicate,if_pos (by omega)]
      simp[hno]⟩
  exact this
def fitF (f:S_api_Formula):Bool:=decide (0≤f.Vars) && decide (f.Vars≤4096) && decide (f.Clauses.length≤65536) && f.Clauses.all (fun c=>clauseB f.Vars c.Lits) && (List.range f.Order.length).all (orB f.Vars f.Order)
theorem fit_guard (f:S_api_Formula):(((decide (f.Vars < 0)) || (decide (f.Vars > 4096))) || (decide ((List.length f.Clauses:Int) > 65536))) = !(decide (0≤f.Vars) && decide (f.Vars≤4096) && decide (f.Clauses.length≤65536)):=by
  rw[Bool.eq_iff_iff]
  simp
  omega
theorem range_allc {l:List S_api_Clause} {p:S_api_Clause→Bool} {q:Nat→Bool} (h:∀ i (hi:i < l.length),q i=p l[i]):(List.range l.length).all q=l.all p:=by
  rw[Bool.eq_iff_iff,List.all_eq_true,List.all_eq_true]
  constructor
  · intro g x hx
    obtain⟨i,hi,rfl⟩:=List.getElem_of_mem hx
    rw[← h i hi]
    exact g i (List.mem_range.2 hi)
  · intro g i hi
    have hi:=List.mem_range.1 hi
    rw[h i hi]
    exact g _ (List.getElem_mem hi)
structure BigF (f:S_api_Formula):Prop where
  c:∀ c∈f.Clauses,c.Lits.length≤1048576
  o:f.Order.length≤1048576
def clAt (f:S_api_Formula) (i:Nat):Bool:=match f.Clauses[i]? with
  | some c=>clauseB f.Vars c.Lits
  | none=>true
theorem clAt_eq {f:S_api_Formula} (i:Nat) (hi:i < f.Clauses.length):clAt f i=clauseB f.Vars f.Clauses[i].Lits:=by
  unfold clAt
  rw[List.getElem?_eq_getElem hi]
theorem mk_ok24 {β:Type} {b:Nat} (hb:b≤8) {z:β} {v:Int} (h0:0≤v) (h1:v≤4096):mkl b z (w64 ((w64 (2 * v)) + 1)) (w64 ((w64 (2 * v)) + 1))=some (List.replicate (2 * v + 1).toNat z):=by
  rw[w64_id (x:=2 * v) (by omega) (by omega),w64_id (by omega) (by omega)]
  unfold mkl
  have:(b:Int) * (2 * v + 1)≤8 * 8193:=by
    calc (b:Int) * (2 * v + 1)≤8 * (2 * v + 1):=Int.mul_le_mul_of_nonneg_right (by omega) (by omega)
      _≤8 * 8193:=by omega
  rw[if_pos ⟨by omega,Int.le_refl _,by omega,by omega⟩]
theorem cnf_Fit_eq (f:S_api_Formula) (hf:BigF f):cnf_Fit f=some (fitF f):=by
  unfold cnf_Fit fitF
  rw[fit_guard]
  cases hg:(decide (0≤f.Vars) && decide (f.Vars≤4096) && decide (f.Clauses.length≤65536)) with
  | false=>rfl
  | true=>
    simp only[Bool.and_eq_true,decide_eq_true_eq] at hg
    obtain⟨⟨g0,g1⟩,g2⟩:=hg
    rw[if_neg (by decide),walkB (F:=cnf_Fit_l1 f) (n:=f.Clauses.length) (p:=clAt f) (by omega) (fun i h _=>by
      unfold cnf_Fit_l1
      rw[if_pos (by simpa using h),ixl_nat h]
      simp only[Option.bind_some]
      rw[cnf_clean_eq g0 g1 _ (hf.c _ (List.getElem_mem h)),clAt_eq i h]
      simp only[Option.bind_some]
      rw[w64_n i (by omega)]
      cases clauseB f.Vars f.Clauses[i].Lits <;> rfl) (by
      unfold cnf_Fit_l1
      rw[if_neg (by simp)]),range_allc (q:=clAt f) (p:=fun c=>clauseB f.Vars c.Lits) fun i hi=>clAt_eq i hi]
    simp only[Option.bind_some,Bool.true_and]
    cases hc:f.Clauses.all (fun c=>clauseB f.Vars c.Lits) with
    | false=>rfl
    | true=>
      simp only[if_true,Bool.true_and]
      rw[mk_ok24 (by decide) g0 g1]
      simp only[Option.bind_some]
      rw[seen_loop (F:=cnf_Fit_l2 f) g0 g1 hf.o (fun (i:Nat) (b:Int)=>0≤b∧b≤(i:Int)) (fun b=>decide (b > 0)) (z:=0) (fun i=>by omega) rfl (fun i h s hs hm=>⟨fun b=>b + 1,fun b hb=>by
          have hb':0≤b∧b≤(i:Int):=hb
          exact⟨by show 0≤b∧b≤((i + 1:Nat):Int); omega,by show 0≤b + 1∧b + 1≤((i + 1:Nat):Int); omega,decide_eq_true (by show b + 1 > 0; omega)⟩,by
          have ho:=hf.o
          unfold cnf_Fit_l2
          simp only[]
          rw[if_pos (by simpa using h),ixl_nat h]
          simp only[Option.bind_some]
          rw[lit_eq _ g0 (by omega)]
          simp only[Option.bind_some]
          cases hx:litB f.Vars f.Order[i] with
          | false=>rfl
          | true=>
            have hx':=litB_iff.1 hx
            have hk:(f.Order[i] + f.Vars).toNat < s.length:=by omega
            have ew:w64 (f.Order[i] + f.Vars)=(((f.Order[i] + f.Vars).toNat:Nat):Int):=by rw[w64_id (by omega) (by omega)]; omega
            have hb:0≤s[(f.Order[i] + f.Vars).toNat]∧s[(f.Order[i] + f.Vars).toNat]≤(i:Int):=hm _ (List.getElem_mem hk)
            rw[if_neg (by decide),ew,ixl_nat hk,List.getElem?_eq_getElem hk,if_pos rfl]
            simp only[Option.bind_some]
            rw[w64_id (by omega) (by omega),w64_n i (by omega),Int.toNat_natCast]⟩) (fun s=>by
          unfold cnf_Fit_l2
          simp only[]
          rw[if_neg (by simp)])]
      simp only[Option.bind_some]
      cases (List.range f.Order.length).all (orB f.Vars f.Order) <;> rfl
end Go.Vm
/- Plain laws of chapter 24: what is true in a model. -/
namespace Go.Vm
open Go
theorem findL {F:Int→Option (Step Int (Int ⊕ Unit))} {n:Nat} {p:Nat→Bool} (h1:∀ i:Nat,i < n→F (i:Int)=if p i=true then some (.done (Sum.inl (i:Int))) else some (.next ((i + 1:Nat):Int))) (h2:F (n:Int)=some (.done (Sum.inr ()))) :
    ∃ r,loopC F 0=some r∧((∃ i:Nat,r=Sum.inl (i:Int)∧(List.range n).any p=true)∨(r=Sum.inr ()∧(List.range n).any p=false)):=by
  have key:∀ k i:Nat,i + k=n→(∀ j,j < i→p j=false)→∃ r,loopC F (i:Int)=some r∧((∃ i:Nat,r=Sum.inl (i:Int)∧(List.range n).any p=true)∨(r=Sum.inr ()∧(List.range n).any p=false)):=by
    intro k
    induction k with
    | zero=>
      intro i e hp
      have:i=n:=by omega
      subst this
      refine⟨_,by rw[loopC_done h2],.inr ⟨rfl,?_⟩⟩
      rw[List.any_eq_false]
      intro j hj
      simp[hp j (List.mem_range.1 hj)]
    | succ k ih=>
      intro i e hp
      have h:=h1 i (by omega)
      cases hi:p i with
      | true=>
        rw[hi,if_pos rfl] at h
        exact⟨_,by rw[loopC_done h],.inl ⟨i,rfl,List.any_eq_true.2 ⟨i,List.mem_range.2 (by omega),hi⟩⟩⟩
      | false=>
        rw[hi,if_neg (by decide)] at h
        rw[loopC_next h]
        refine ih (i + 1) (by omega) (fun j hj=>?_)
        rcases Nat.lt_or_ge j i with g | g
        · exact hp j g
        · rw[show j=i by omega]; exact hi
  exact key n 0 (by omega) (fun j hj=>absurd hj (Nat.not_lt_zero _))
theorem range_any {l:List Int} {p:Int→Bool}:(List.range l.length).any (fun i=>p (l.getD i 0))=l.any p:=by
  rw[Bool.eq_iff_iff,List.any_eq_true,List.any_eq_true]
  constructor
  · rintro⟨i,hi,h⟩
    have hi:=List.mem_range.1 hi
    rw[getD_get hi] at h
    exact⟨_,List.getElem_mem hi,h⟩
  · rintro⟨x,hx,h⟩
    obtain⟨i,hi,rfl⟩:=List.getElem_of_mem hx
    exact⟨i,List.mem_range.2 hi,by rw[getD_get hi]; exact h⟩
end Go.Vm
/- Plain laws of chapter 24: whether a formula is true; CnfTells. -/
namespace Go.Vm
open Go
theorem wf24 {x:Int} (h:(Lit.int .i64 x).wf=true) : -9223372036854775808≤x∧x≤9223372036854775807:=by
  simp[Lit.wf,IntKind.min,IntKind.max,IntKind.signed,IntKind.bits] at h
  omega
def moB (m:List Int) (i:Nat):Bool:=decide (m.getD i 0=(i:Int) + 1∨m.getD i 0 = -((i:Int) + 1))
def modelF (m:List Int) (v:Int):Bool:=decide ((m.length:Int)=v) && (List.range m.length).all (moB m)
theorem size_is {x:Int} {i:Nat} (hx:(Lit.int .i64 x).wf=true) (hi:i≤1048576):∃ s,cnf_size x=some s∧(s=(i:Int) + 1↔(x=(i:Int) + 1∨x = -((i:Int) + 1))):=by
  have hw:=wf24 hx
  unfold cnf_size
  by_cases h1:x = -9223372036854775808
  · subst h1
    have:w64 (0 - (-9223372036854775808)) = -9223372036854775808:=by decide
    refine⟨_,rfl,?_⟩
    rw[this]
    split <;> omega
  · rw[w64_id (x:=0 - x) (by omega) (by omega)]
    refine⟨_,rfl,?_⟩
    split <;> omega
theorem cnf_model_eq (m:List Int) (v:Int) (hm:m.length≤1048576) (hw:∀ y∈m,(Lit.int .i64 y).wf=true):cnf_model m v=some (modelF m v):=by
  unfold cnf_model modelF
  rw[walkB (F:=cnf_model_l1 m) (p:=moB m) hm (fun i h _=>by
    obtain⟨s,e1,e2⟩:=size_is (i:=i) (hw _ (List.getElem_mem h)) (by omega)
    unfold cnf_model_l1
    rw[if_pos (by simpa using h),ixl_nat h]
    simp only[Option.bind_some]
    rw[e1]
    simp only[Option.bind_some]
    rw[w64_n i (by omega)]
    unfold moB
    rw[getD_get h]
    by_cases g:m[i]=(i:Int) + 1∨m[i] = -((i:Int) + 1)
    · rw[if_neg (by have:=e2.2 g; simp; omega),if_pos (decide_eq_true g)]
    · rw[if_pos (by have:=fun q=>g (e2.1 q); simp; omega),if_neg (by simpa using g)]) (by
    unfold cnf_model_l1
    rw[if_neg (by simp)])]
  simp only[Option.bind_some]
  cases (List.range m.length).all (moB m) with
  | true=>simp[Bool.beq_eq_decide_eq]
  | false=>simp
def litT (m:List Int) (x:Int):Bool:=decide (m.getD (x.natAbs - 1) 0=x)
theorem clause_lits {v:Int} {l:List Int} (h:clauseB v l=true):∀ x∈l,litB v x=true:=fun x hx=>by
  obtain⟨i,hi,rfl⟩:=List.getElem_of_mem hx
  have:=List.all_eq_true.1 h i (List.mem_range.2 hi)
  unfold clB at this
  rw[Bool.and_eq_true,getD_get hi] at this
  exact this.1
theorem at_lit24 {m:List Int} {v x:Int} (hm:m.length≤1048576) (hv:(m.length:Int)=v) (hx:litB v x=true):x.natAbs - 1 < m.length∧w64 ((x.natAbs:Int) - 1)=((x.natAbs - 1:Nat):Int):=by
  have:=litB_iff.1 hx
  refine⟨by omega,?_⟩
  rw[w64_id (by omega) (by omega)]
  omega
theorem cnf_any_eq {m:List Int} {v:Int} (l:List Int) (hl:l.length≤1048576) (hm:m.length≤1048576) (hv:(m.length:Int)=v) (hx:∀ x∈l,litB v x=true):slices_ContainsFunc_int_int_s0c84 l m=some (l.any (litT m)):=by
  unfold slices_ContainsFunc_int_int_s0c84 slices_IndexFunc_int_int_s0c84
  obtain⟨r,e,h⟩:=findL (F:=slices_IndexFunc_int_int_s0c84_l1 l m) (n:=l.length) (p:=fun i=>litT m (l.getD i 0)) (fun i hi=>by
    have hxi:=hx _ (List.getElem_mem hi)
    have hb:=litB_iff.1 hxi
    obtain⟨k1,k2⟩:=at_lit24 hm hv hxi
    unfold slices_IndexFunc_int_int_s0c84_l1
    rw[if_pos (by simpa using hi),ixl_nat hi,getD_get hi]
    simp only[Option.bind_some]
    unfold cnf_Holds_1_s9024
    rw[size_eq24 (by omega) (by omega)]
    simp only[Option.bind_some]
    rw[k2,ixl_nat k1,w64_n i (by omega)]
    simp only[Option.bind_some]
    unfold litT
    rw[getD_get k1]
    by_cases g:m[l[i].natAbs - 1]=l[i]
    · rw[if_pos (by simp[g]),if_pos (decide_eq_true g)]
    · rw[if_neg (by simp[g]),if_neg (by simp[g])]) (by
    unfold slices_IndexFunc_int_int_s0c84_l1
    rw[if_neg (by simp)])
  rw[e]
  rw[range_any (p:=litT m)] at h
  rcases h with ⟨i,rfl,h⟩ | ⟨rfl,h⟩
  · rw[h]; simp
  · rw[h]; simp
def holdF (f:S_api_Formula) (m:List Int):Bool:=fitF f && modelF m f.Vars && f.Clauses.all (fun c=>c.Lits.any (litT m))
def hcAt (f:S_api_Formula) (m:List Int) (i:Nat):Bool:=match f.Clauses[i]? with
  | some c=>c.Lits.any (litT m)
  | none=>true
theorem hcAt_eq {f:S_api_Formula} {m:List Int} (i:Nat) (hi:i < f.Clauses.length):hcAt f m i=f.Clauses[i].Lits.any (litT m):=by
  unfold hcAt
  rw[List.getElem?_eq_getElem hi]
theorem fit_parts {f:S_api_Formula} (h:fitF f=true):f.Clauses.length≤65536∧∀ c∈f.Clauses,∀ x∈c.Lits,litB f.Vars x=true:=by
  unfold fitF at h
  simp only[Bool.and_eq_true,decide_eq_true_eq] at h
  exact⟨h.1.1.2,fun c hc=>clause_lits (List.all_eq_true.1 h.1.2 c hc)⟩
theorem cnf_Holds_eq (f:S_api_Formula) (m:List Int) (hf:BigF f) (hm:m.length≤1048576) (hw:∀ y∈m,(Lit.int .i64 y).wf=true):cnf_Holds f m=some (holdF f m):=by
  unfold cnf_Holds holdF
  rw[cnf_Fit_eq f hf]
  simp only[Option.bind_some]
  cases hfit:fitF f with
  | false=>rfl
  | true=>
    rw[if_neg (by decide),cnf_model_eq m _ hm hw]
    simp only[Option.bind_some]
    cases hmo:modelF m f.Vars with
    | false=>rfl
    | true=>
      obtain⟨p1,p2⟩:=fit_parts hfit
      have hv:(m.length:Int)=f.Vars:=by
        unfold modelF at hmo
        rw[Bool.and_eq_true] at hmo
        exact of_decide_eq_true hmo.1
      rw[if_neg (by decide),walkB (F:=cnf_Holds_l1 f m) (n:=f.Clauses.length) (p:=hcAt f m) (by omega) (fun i h _=>by
        unfold cnf_Holds_l1
        rw[if_pos (by simpa using h),ixl_nat h]
        simp only[Option.bind_some]
        rw[cnf_any_eq _ (hf.c _ (List.getElem_mem h)) hm hv (p2 _ (List.getElem_mem h)),hcAt_eq i h]
        simp only[Option.bind_some]
        rw[w64_n i (by omega)]
        cases f.Clauses[i].Lits.any (litT m) <;> rfl) (by
        unfold cnf_Holds_l1
        rw[if_neg (by simp)]),range_allc (q:=hcAt f m) (p:=fun c=>c.Lits.any (litT m)) fun i hi=>hcAt_eq i hi]
      simp only[Option.bind_some,Bool.true_and]
      cases f.Clauses.all (fun c=>c.Lits.any (litT m)) <;> rfl
end Go.Vm
/- CnfTells is true. -/
namespace Go.Vm
open Go
theorem cleanO_len (l:List Int):(cleanO l).1.length≤l.length:=by
  unfold cleanO
  cases h:cleanR l [] with
  | none=>exact Nat.zero_le _
  | some s=>
    have:=cleanR_small l h
    simpa using this
end Go.Vm
/- CnfAtMost is true. -/
namespace Go.Vm
open Go
theorem cleanm_eq24 (l:List Int) (hl:l.length≤1048576):cnf_Clean_m0f1b l=some (cleanO l):=by
  rw[← cnf_Clean_eq l hl]; rfl
def rowU (l:List Int):List Int:=(cleanO l).1
theorem rowU_len (l:List Int) (h:l.length=2):(rowU l).length≤1048576:=by
  have:=cleanO_len l
  unfold rowU
  omega
theorem cleanr_eq24 (l:List Int) (hl:l.length≤1048576):cnf_Clean_m0f1b l=some (rowU l,(cleanO l).2):=cleanm_eq24 l hl
def varsU (n:Nat):List Int:=(List.range n).map fun i=>((i + 1:Nat):Int)
def modU (p:Nat→Bool) (n:Nat):List Int:=(List.range n).map fun i=>if p i=true then ((i + 1:Nat):Int) else -((i + 1:Nat):Int)
def cntU (p:Nat→Bool):Nat→Nat
  | 0=>0
  | n + 1=>cntU p n + if p n=true then 1 else 0
theorem cntU_le (p:Nat→Bool):∀ n,cntU p n≤n
  | 0=>Nat.le_refl _
  | n + 1=>by have:=cntU_le p n; unfold cntU; split <;> omega
def bothU (t:Int) (i k:Nat):S_api_Clause:=S_api_Clause.mk (rowU [-((i + 1:Nat):Int), -((k + 1:Nat):Int)]) t
def pairsU (t:Int) (n:Nat):List S_api_Clause:=(List.range n).flatMap fun i=>(List.range' (i + 1) (n - (i + 1))).map fun k=>bothU t i k
theorem varsU_len (n:Nat):(varsU n).length=n:=by simp[varsU]
theorem varsU_get {n i:Nat} (h:i < (varsU n).length):(varsU n)[i]=((i + 1:Nat):Int):=by simp[varsU]
theorem atMost_in {n:Nat} (hn:n≤8) {i:Nat} (hi:i < n) (t:Int):∀ (d k:Nat) (acc:List S_api_Clause),k + d=n→i < k→acc.length + d≤100 →
    loopC (cnf_AtMost_l1 (varsU n) t (i:Int)) ((k:Int),acc)=some (acc ++ (List.range' k d).map fun k=>bothU t i k)
  | 0,k,acc,e,_,_=>by
    rw[loopC_done (t:=acc) (by unfold cnf_AtMost_l1; simp only; rw[varsU_len,if_neg (by simp; omega)])]
    simp
  | d + 1,k,acc,e,hik,hl=>by
    have hk:k < (varsU n).length:=by rw[varsU_len]; omega
    have hi':i < (varsU n).length:=by rw[varsU_len]; omega
    rw[loopC_next (y:=(((k + 1:Nat):Int),acc ++ [bothU t i k])) (by
      unfold cnf_AtMost_l1
      simp only
      rw[if_pos (by simpa using hk),ixl_nat hi',ixl_nat hk,varsU_get,varsU_get]
      simp only[Option.bind_some]
      rw[if_neg (by
        have h1:¬ (((k + 1:Nat):Int) < ((i + 1:Nat):Int)):=by omega
        have h2:(((k + 1:Nat):Int) > ((i + 1:Nat):Int)):=by omega
        rw[if_neg h1,if_pos h2]
        simp
        omega),w64_id (x:=0 - ((i + 1:Nat):Int)) (by omega) (by omega),w64_id (x:=0 - ((k + 1:Nat):Int)) (by omega) (by omega),Int.zero_sub,Int.zero_sub,cleanr_eq24 _ (by simp)]
      simp only[Option.bind_some]
      rw[app_ok (by simp; omega) (by simp; omega)]
      simp only[Option.bind_some]
      rw[w64_n k (by omega)]
      rfl),atMost_in hn hi t d (k + 1) _ (by omega) (by omega) (by simp; omega)]
    simp[List.range'_succ]
theorem atMost_out {n:Nat} (hn:n≤8) (t:Int):∀ (d i:Nat) (acc:List S_api_Clause),i + d=n→acc.length + 8 * d≤92 →
    loopC (cnf_AtMost_l2 (varsU n) t) ((i:Int),acc)=some (acc ++ (List.range' i d).flatMap fun i=>(List.range' (i + 1) (n - (i + 1))).map fun k=>bothU t i k)
  | 0,i,acc,e,_=>by
    rw[loopC_done (t:=acc) (by unfold cnf_AtMost_l2; simp only; rw[varsU_len,if_neg (by simp; omega)])]
    simp
  | d + 1,i,acc,e,hl=>by
    rw[loopC_next (y:=(((i + 1:Nat):Int),acc ++ (List.range' (i + 1) (n - (i + 1))).map fun k=>bothU t i k)) (by
      unfold cnf_AtMost_l2
      simp only
      rw[if_pos (by rw[varsU_len]; simp; omega),w64_n i (by omega),atMost_in hn (i:=i) (by omega) t (n - (i + 1)) (i + 1) acc (by omega) (by omega) (by omega)]
      rfl),atMost_out hn t d (i + 1) _ (by omega) (by simp; omega)]
    simp[List.range'_succ,List.append_assoc]
theorem atMost_eq {n:Nat} (hn:n≤8) (t:Int):cnf_AtMost (varsU n) t=some (pairsU t n):=by
  unfold cnf_AtMost cnf_twos
  simp only[Option.bind_some]
  have h:=atMost_out hn t n 0 [] (by omega) (by simp; omega)
  rw[show ((0:Nat):Int)=0 from rfl] at h
  rw[h]
  simp[pairsU,List.range_eq_range']
def rowsU:Nat→List (List Bool)
  | 0=>[[]]
  | n + 1=>(rowsU n).flatMap fun l=>[true :: l,false :: l]
theorem rowsU_mem:∀ {n:Nat} {l:List Bool},l.length=n→l∈rowsU n
  | 0,[],_=>by simp[rowsU]
  | n + 1,b :: l,h=>by
    rw[rowsU,List.mem_flatMap]
    exact⟨l,rowsU_mem (by simpa using h),by cases b <;> simp⟩
def goodU (n:Nat) (l:List Bool):Bool:=
  (modU (fun i=>l.getD i false) n).all (fun y=>(Lit.int .i64 y).wf) && (holdF (S_api_Formula.mk n (pairsU 3 n) []) (modU (fun i=>l.getD i false) n) == decide ((cntU (fun i=>l.getD i false) n:Int)≤1))
theorem goodU_0:(rowsU 0).all (goodU 0)=true:=by decide +kernel
theorem goodU_1:(rowsU 1).all (goodU 1)=true:=by decide +kernel
theorem goodU_2:(rowsU 2).all (goodU 2)=true:=by decide +kernel
theorem goodU_3:(rowsU 3).all (goodU 3)=true:=by decide +kernel
theorem goodU_4:(rowsU 4).all (goodU 4)=true:=by decide +kernel
theorem goodU_5:(rowsU 5).all (goodU 5)=true:=by decide +kernel
theorem goodU_6:(rowsU 6).all (goodU 6)=true:=by decide +kernel
theorem goodU_7:(rowsU 7).all (goodU 7)=true:=by decide +kernel
theorem goodU_8:(rowsU 8).all (goodU 8)=true:=by decide +kernel
theorem goodU_all {n:Nat} (hn:n≤8):(rowsU n).all (goodU n)=true:=by
  have h:n=0∨n=1∨n=2∨n=3∨n=4∨n=5∨n=6∨n=7∨n=8:=by omega
  rcases h with rfl | rfl | rfl | rfl | rfl | rfl | rfl | rfl | rfl
  · exact goodU_0
  · exact goodU_1
  · exact goodU_2
  · exact goodU_3
  · exact goodU_4
  · exact goodU_5
  · exact goodU_6
  · exact goodU_7
  · exact goodU_8
theorem modU_congr {p q:Nat→Bool} {n:Nat} (h:∀ i,i < n→p i=q i):modU p n=modU q n:=by
  unfold modU
  exact List.map_congr_left fun i hi=>by rw[h i (List.mem_range.1 hi)]
theorem cntU_congr {p q:Nat→Bool}:∀ {n:Nat},(∀ i,i < n→p i=q i)→cntU p n=cntU q n
  | 0,_=>rfl
  | n + 1,h=>by unfold cntU; rw[cntU_congr (fun i hi=>h i (by omega)),h n (by omega)]
theorem holdsU (p:Nat→Bool) {n:Nat} (hn:n≤8):(∀ y∈modU p n,(Lit.int .i64 y).wf=true)∧holdF (S_api_Formula.mk n (pairsU 3 n) []) (modU p n)=decide ((cntU p n:Int)≤1):=by
  have h:=List.all_eq_true.1 (goodU_all hn) ((List.range n).map p) (rowsU_mem (by simp))
  unfold goodU at h
  have e:∀ i,i < n→((List.range n).map p).getD i false=p i:=fun i hi=>by simp[List.getD,hi]
  rw[modU_congr e,cntU_congr e,Bool.and_eq_true] at h
  exact⟨fun y hy=>List.all_eq_true.1 h.1 y hy,by simpa using h.2⟩
theorem lits_mk (l:List Int) (t:Int):(S_api_Clause.mk l t).Lits=l:=rfl
theorem bothU_row (t:Int) (i k:Nat):∃ l:List Int,l.length=2∧bothU t i k=S_api_Clause.mk (rowU l) t:=⟨_,rfl,by unfold bothU; rfl⟩
theorem bigU (t:Int) (n:Nat):BigF (S_api_Formula.mk n (pairsU t n) []):=by
  refine⟨fun c hc=>?_,Nat.zero_le _⟩
  have hc:∃ l:List Int,l.length=2∧c=S_api_Clause.mk (rowU l) t:=by
    unfold pairsU at hc
    obtain⟨i,_,hc⟩:=List.mem_flatMap.1 hc
    obtain⟨k,_,rfl⟩:=List.mem_map.1 hc
    exact bothU_row t i k
  obtain⟨l,hl,rfl⟩:=hc
  rw[lits_mk]
  exact rowU_len l hl
def bitU (a:Int) (v:Nat):Bool:=match shrI .u32 a v with
  | some y=>(match andI .u32 y 1 with
    | some z=>z == 1
    | none=>false)
  | none=>false
theorem bitU_eq {β:Type} (a:Int) (v:Nat) (x y:β):(Option.bind (shrI .u32 a (v:Int)) fun s=>Option.bind (andI .u32 s 1) fun z=>if (z == 1)=true then some x else some y)=some (if bitU a v=true then x else y):=by
  unfold bitU shrI andI
  rw[if_neg (by omega)]
  simp only[Option.bind_some]
  split <;> rfl
theorem wrapU (a:Int):∃ n:Nat,n≤8∧w64 (Int.tmod (IntKind.wrap .u64 a) 9)=(n:Int):=by
  have h:0≤IntKind.wrap .u64 a:=by
    simp only[IntKind.wrap,IntKind.signed,IntKind.bits]
    simp
    omega
  generalize IntKind.wrap .u64 a=x at h
  rw[Int.tmod_eq_emod_of_nonneg h]
  refine⟨(x % 9).toNat,by omega,?_⟩
  rw[w64_id (by omega) (by omega)]
  omega
theorem atMost_law {a0 a1:Int} {n:Nat} (hn:n≤8) (en:w64 (Int.tmod (IntKind.wrap .u64 a0) 9)=(n:Int)):∀ d i:Nat,i + d=n →
    loopC (law24_CnfAtMost_l1 a0 a1) (varsU i,modU (fun i=>bitU a1 (i + 1)) i,(cntU (fun i=>bitU a1 (i + 1)) i:Int),((i + 1:Nat):Int))=some (varsU n,modU (fun i=>bitU a1 (i + 1)) n,(cntU (fun i=>bitU a1 (i + 1)) n:Int))
  | 0,i,e=>by
    obtain rfl:i=n:=by omega
    rw[loopC_done]
    unfold law24_CnfAtMost_l1
    simp only
    rw[en,if_neg (by simp; omega)]
  | d + 1,i,e=>by
    rw[loopC_next (y:=(varsU (i + 1),modU (fun i=>bitU a1 (i + 1)) (i + 1),(cntU (fun i=>bitU a1 (i + 1)) (i + 1):Int),((i + 1 + 1:Nat):Int)))]
    · exact atMost_law hn en d (i + 1) (by omega)
    · have hc:=cntU_le (fun i=>bitU a1 (i + 1)) i
      unfold law24_CnfAtMost_l1
      simp only
      rw[en,if_pos (by simp; omega),app_ok (by rw[varsU_len]; simp; omega) (by rw[varsU_len]; simp; omega)]
      simp only[Option.bind_some]
      rw[bitU_eq,w64_n (i + 1) (by omega),w64_id (x:=0 - ((i + 1:Nat):Int)) (by omega) (by omega),w64_n (cntU (fun i=>bitU a1 (i + 1)) i) (by omega)]
      simp only[Option.bind_some]
      by_cases hb:bitU a1 (i + 1)=true
      · rw[if_pos hb]
        simp only
        rw[app_ok (by simp[modU]; omega) (by simp[modU]; omega)]
        simp[varsU,modU,cntU,hb,List.range_succ]
      · rw[if_neg hb]
        simp only
        rw[app_ok (by simp[modU]; omega) (by simp[modU]; omega)]
        simp[varsU,modU,cntU,hb,List.range_succ]
theorem CnfAtMost_true (a0 a1:Int) (_:(Lit.int .i64 a0).wf=true) (_:(Lit.int .u32 a1).wf=true):law24_CnfAtMost a0 a1=some true:=by
  obtain⟨n,hn,en⟩:=wrapU a0
  have hl:=atMost_law (a1:=a1) hn en n 0 (by omega)
  obtain⟨h1,h2⟩:=holdsU (fun i=>bitU a1 (i + 1)) hn
  unfold law24_CnfAtMost
  rw[show (([],[],0,1):List Int × List Int × Int × Int)=(varsU 0,modU (fun i=>bitU a1 (i + 1)) 0,(cntU (fun i=>bitU a1 (i + 1)) 0:Int),((0 + 1:Nat):Int)) from rfl,hl]
  simp only[Option.bind_some]
  rw[atMost_eq hn,en]
  simp only[Option.bind_some]
  rw[cnf_Holds_eq _ _ (bigU 3 n) (by simp[modU]; omega) h1,h2]
  simp only[Option.bind_some,beq_self_eq_true,if_true]
  rfl
end Go.Vm

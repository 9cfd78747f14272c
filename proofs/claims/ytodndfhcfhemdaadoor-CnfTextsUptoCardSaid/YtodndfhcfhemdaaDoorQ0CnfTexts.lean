/- The law CnfTexts, a part of its proof: what the functions that it reaches compute. -/
import Derived.WalkKit
import Derived.ProofKit
import Derived.OpenShut
import Derived.Below
import Derived.ChangeSame
import Derived.Deep.DeepHandedRow
import Derived.Carry
import Derived.Test.YtodndfhcfhemdaaDoorAx9c681359
import Derived.Test.YtodndfhcfhemdaaDoorFx8362f105
import Derived.Shelf.Small.Strs
import Derived.Sort.Row
import Derived.Sort.Grow
import Derived.WalkSmall
import Derived.Shelf.Strconv.AppendUint10
import Derived.Shelf.Strconv.ErrVarAll
import Derived.Shelf.Strings.Builder1
import Derived.Lib.FrozenHead
import Derived.Test.YtodndfhcfhemdaaDoorDx5db96d9e
import Derived.Shelf.Slices.CompactI
import Derived.Shelf.Strconv.Itoa3
import Derived.Shelf.SlLaysF
import Derived.Shelf.SlGeneric
import Derived.Shelf.SlSortCmp.NoneTotal
import Derived.Deep.Strs
import Derived.Lib.Bytealg
import Derived.Lib.SlicesCompact
import Derived.Test.YtodndfhcfhemdaaDoorG0CnfTexts
import Derived.Test.YtodndfhcfhemdaaDoorG1CnfTexts
set_option linter.unusedVariables false
set_option linter.unusedSimpArgs false
/- What a row asks behind a call that has left all that was there as it was. -/
namespace Go.Vm
open Go Go.RowKit Go.WideShapes Go.ChangeShapes
theorem row_below {H:Type} {enc:TypeId × Value→H} {P:Program} {f:Func} {s:ChangeSpec} {apart fresh handsOn again:Bool} {W W':World} {args:Array Value} {v:Value} {ds gs:List (DataW H)} {before pa pv:List MemPlace}
    (hW:DataW.Whole enc P f.params.toList s.vars apart W args.toList ds gs before) (hb:Below W.heap.size W W') (hp:before=pa ++ pv)
    (hr:∀ (b:Nat) (sp:Nat→Bool) (hd:Bool),DataW.TrodAll enc P W' b sp hd f.resultTypes.toList (v.resultList f.resultTypes.size) (s.fn H (ds ++ gs)).results [])
    (ha:∀ sp:Nat→Bool,(∀ p∈before,sp p.block=true)→DataW.TrodAll enc P W' 0 sp true f.params.toList args.toList (s.fn H (ds ++ gs)).args pa)
    (hv:∀ sp:Nat→Bool,(∀ p∈before,sp p.block=true)→DataW.TrodVars enc P W' sp s.vars (s.fn H (ds ++ gs)).vars pv)
    (ho:∀ (j:Nat) (t:TypeId) (r:Value),f.resultTypes[j]? = some t→(v.resultList f.resultTypes.size)[j]? = some r→Value.okWide P W' .any 0 t r) :
    s.post enc P f apart fresh handsOn again W args v W':=by
  have small:∀ p∈before,decide (p.block < W.heap.size)=true:=fun p h=>decide_eq_true (hW.lt p h)
  refine⟨ds,gs,before,[],pa,pv,hW,hr _ _ _,ha (fun b=>decide (b < W.heap.size)) small,hv _ small,hb.frame _,fun _=>⟨ho,?_⟩⟩
  obtain⟨_,_,_,_,_,hz,hn⟩:=hW
  refine⟨_,_,([] ++ pa) ++ pv,⟨[] ++ pa,pv,trodAll_append (ha _ fun _ _=>rfl) (hr _ _ _),hv _ fun _ _=>rfl,rfl,fun b off hm=>?_,fun h=>?_⟩,?_⟩
  · have hm':MemPlace.cell b off∈before:=by rw[hp]; simpa using hm
    rw[hb.frozen (of_decide_eq_true (small _ hm'))]
    exact hz b off hm'
  · have:=hn h
    rw[hp] at this
    simpa using this
  · intro x hx _
    rw[hp]
    simpa using hx
end Go.Vm
/- From what a row lists of the library's tables to what the evaluator asks. -/
namespace Go.Vm
open Go
theorem tab_of_vars {P:Program} {W:World} {name:String} {k:IntKind} {zs:List Int} {g:Nat} {t e:TypeId} {n:Nat}
    (hg:P.globalNamed name=some g) (hty:(P.globals[g]?).map (·.type)=some t) (ht:P.underlying t=some (.array n e)) (he:P.underlying e=some (.int k)) (hce:P.cellsOf e=1) (hct:P.cellsOf t=n) :
    ∀ {laid:List (String × DataW Unit)} {ps:List MemPlace},DataW.LaidVars P W laid ps→(name,Lib.tabData k zs)∈laid→Lib.TabIs P W name k zs
  | [],_,_,hm=>by cases hm
  | (x,d) :: laid,ps,h,hm=>by
    obtain⟨g',t',cs,fuel,p,q,hg',ht',hvar,hd,hr,_⟩:=h
    rcases List.mem_cons.1 hm with hm | hm
    · cases hm
      obtain rfl:=Option.some.inj (hg.symm.trans hg')
      obtain rfl:=Option.some.inj (hty.symm.trans ht')
      unfold Lib.TabIs
      rw[hvar,← Lib.cells_of_tab ht he hce hct hd]
    · exact tab_of_vars hg hty ht he hce hct hr hm
theorem cells_of_tabIs {P:Program} {W:World} {name:String} {k:IntKind} {zs:List Int} {g:Nat} (h:Lib.TabIs P W name k zs) (hg:P.globalNamed name=some g) :
    g < W.heap.size∧∃ cs T fz,W.heap[g]? = some (.cells cs T fz)∧cs=(zs.map fun z=>Value.int k z).toArray:=by
  unfold Lib.TabIs World.var? at h
  rw[hg] at h
  simp only[Option.bind_some] at h
  split at h
  · rename_i cs T fz e
    cases h
    exact⟨(Array.getElem?_eq_some_iff.1 e).1,_,T,fz,e,rfl⟩
  · cases h
theorem iface_of_trod {P:Program} {w:World} {fuel:Nat} {t:TypeId} {cs:List Value} {ms:Array (String × TypeId)} {nm:String} {d:DataW Unit} {p:List MemPlace} (ht:P.underlying t=some (.interface ms))
    (h:DataW.trod (fun _=>()) P w 0 (fun _=>true) false fuel t cs=some (.iface nm d,p)):∃ u v,cs=[.iface u v]:=by
  cases fuel with
  | zero=>simp[DataW.trod] at h
  | succ fuel=>
    unfold DataW.trod at h
    rw[ht] at h
    match cs,h with
    | [.iface u v],_=>exact⟨u,v,rfl⟩
    | [.nilIface],h=>simp at h
theorem iface_of_vars {P:Program} {W:World} {name nm:String} {g:Nat} {t:TypeId} {ms:Array (String × TypeId)} {dd:DataW Unit}
    (hg:P.globalNamed name=some g) (hty:(P.globals[g]?).map (·.type)=some t) (ht:P.underlying t=some (.interface ms)) :
    ∀ {laid:List (String × DataW Unit)} {ps:List MemPlace},DataW.LaidVars P W laid ps→(name,DataW.iface nm dd)∈laid→g < W.heap.size∧∃ cs T fz,W.heap[g]? = some (.cells cs T fz)∧∃ tp p,cs = #[.iface tp p]
  | [],_,_,hm=>by cases hm
  | (x,d) :: laid,ps,h,hm=>by
    obtain⟨g',t',cs,fuel,p,q,hg',ht',hvar,hd,hr,_⟩:=h
    rcases List.mem_cons.1 hm with hm | hm
    · cases hm
      obtain rfl:=Option.some.inj (hg.symm.trans hg')
      obtain rfl:=Option.some.inj (hty.symm.trans ht')
      obtain⟨u,v,e⟩:=iface_of_trod ht hd
      unfold World.var? at hvar
      rw[hg] at hvar
      simp only[Option.bind_some] at hvar
      split at hvar
      · rename_i cs' T fz e2
        cases hvar
        exact⟨(Array.getElem?_eq_some_iff.1 e2).1,_,T,fz,e2,u,v,by apply Array.ext'; rw[e]⟩
      · cases hvar
    · exact iface_of_vars hg hty ht hr hm
end Go.Vm
/- Functions that are taken for known: from what the shelf says of them. -/
set_option linter.unusedVariables false
set_option linter.unusedSimpArgs false
namespace Go.Vm
open Go Go.RowKit
theorem post_below {K:Cx} {base:Nat} {h:AHeap} (H:HRel K base h) {v:AV} {cv:Value} {w':World} (hb:Below K.w.heap.size K.w w') (hv:∀ K',VRel K' v cv):CallPost K base h K.c v (.returned cv) w':=by
  let K':Cx:={ K with w:=w' }
  have S:K.Step K':=⟨Nat.le_refl _,fun _ _=>rfl,hb.os,hb.tape,hb.output,hb.size,fun b h1 h2=>⟨hb.block b h1,h2⟩,rfl,fun l ⟨R,hR⟩=>⟨R,(hb.block l (by
    rcases Nat.lt_or_ge l K.w.heap.size with hlt | hge
    · exact hlt
    · rw[Array.getElem?_eq_none hge] at hR; cases hR)).trans hR⟩⟩
  exact⟨K',cv,rfl,rfl,S,H.step S (fun b hL=>hb.block b (H.bs b hL).2) rfl,rfl,hv K'⟩
end Go.Vm
/- Rows that the library compacts: known functions that change memory. -/
namespace Go.Vm
open Go Go.RowKit Go.Sort
section
variable {α:Type}
theorem prim_cpt [Inhabited α] {P:Program} {g:FuncId} {dec:AV→Option α} {enc:α→Value} {z:α} {cpt:List α→List α} (hd:∀ c x,dec c=some x→c = .s (enc x)) (hcl:∀ zs,(cpt zs).length≤zs.length) (h1c:∀ x,(enc x).oneCell' = true)
    (h0:∀ (p:Option Addr) (cap:Nat) (w:World),Calls P g #[.slice p 0 cap] w fun e w'=>e = .returned (.slice p 0 cap)∧w' = w)
    (h1:∀ (blk off cap:Nat) (zs:List α) (w:World),Holds enc w blk off zs.toArray→blk < w.heap.size→zs.length < 4611686018427387904→zs.length≤cap→Calls P g #[.slice (some ⟨blk,off,none⟩) zs.length cap] w fun e w'=>e = .returned (.slice (some ⟨blk,off,none⟩) (cpt zs).length cap)∧∃ n,w' = putRow enc (Sort.ahead w n) blk off (zfill z cpt zs).toArray) :
    ∀ args h n v h' n',cptM dec enc z cpt args h n=some (v,h',n')→∀ (K:Cx) (base:Nat) (cargs:Array Value),HRel K base h→K.c=n→VRels K args cargs.toList→∀ N,CallsIn Fence.wide N P g cargs K.w (CallPost K base h' n' v):=fun args h n v h' n' hp K base cargs H hc hr N=>by
  subst hc
  obtain⟨cl,rfl⟩:∃ l:List Value,cargs=l.toArray:=⟨cargs.toList,by simp⟩
  have hl:∀ zs,(zfill z cpt zs).length=zs.length:=fun zs=>zfill_len hcl zs
  have triv:∀ (p:Option Addr) (cap:Nat) (v:AV),VRel K v (.slice p 0 cap)→CallsIn Fence.wide N P g #[.slice p 0 cap] K.w (CallPost K base h K.c v):=fun p cap v hv=>by
    refine callsIn_wide.2 ((h0 p cap K.w).mono ?_)
    rintro e w' ⟨rfl,rfl⟩
    exact⟨K,_,rfl,rfl,Cx.Step.refl K,H,rfl,hv⟩
  match args,cl,hr,hp with
  | [x],[y],hr,hp=>
    simp only[VRels,and_true] at hr
    have hr0:=hr
    unfold cptM at hp
    split at hp
    · rename_i id off len e0
      cases e0
      simp only[VRel] at hr
      obtain⟨hlt,a,cap,rfl,e1,e2,e3⟩:=hr
      split at hp
      · rename_i hz
        cases hp
        subst hz
        exact triv _ _ _ hr0
      · rename_i hz
        split at hp
        · rename_i R hid
          split at hp
          · rename_i zs hzs
            split at hp
            · rename_i hb
              cases hp
              obtain⟨hb1,hb2⟩:=hb
              have hrow:=rowsD_ok hd hzs
              have ha:a=⟨(K.ι id).1,((K.ι id).2.1 + off) * 1,none⟩:=e3.resolve_left (by omega)
              subst ha
              rw[Nat.mul_one]
              obtain⟨arr,T,fz,o1,o2,o3,o4,o5⟩:=H.obj id _ hid
              have hR:off + len≤R.length:=by
                have:=congrArg List.length hrow
                simp only[List.length_take,List.length_drop,List.length_map] at this
                omega
              have hget:∀ j x,zs[j]? = some x→arr[(K.ι id).2.1 + off + j]? = some (enc x):=fun j x hj=>by
                have hj2:j < len:=by rw[← hb1]; exact (List.getElem?_eq_some_iff.1 hj).1
                have h2:R[off + j]? = some [AV.s (enc x)]:=by
                  have:=congrArg (fun l=>l[j]?) hrow
                  simp only[List.getElem?_map,hj,Option.map_some] at this
                  rw[List.getElem?_take_of_lt hj2,List.getElem?_drop] at this
                  exact this
                obtain⟨_,h3⟩:=o5 _ _ h2
                obtain⟨v,h4,h5,h6⟩:=h3 0 _ rfl
                simp only[VRel] at h6
                subst h6
                rw[← h4]
                congr 1
                omega
              have hH:Holds enc K.w (K.ι id).1 ((K.ι id).2.1 + off) zs.toArray:=fun j hj=>by
                have hj':j < zs.length:=by simpa using hj
                refine⟨?_,?_⟩
                · simp only[World.cell?,o1,Option.isSome_none,Bool.false_eq_true,if_false]
                  rw[hget j zs[j] (List.getElem?_eq_getElem hj')]
                  simp[hj']
                · simp only[World.frozen?,o1]
                  have hlt2:(K.ι id).2.1 + off + j < arr.size:=by
                    rw[o2]; omega
                  have:=o3 _ hlt2
                  simpa using this
              have hblk:(K.ι id).1 < K.w.heap.size:=(H.bs _ (H.L id _ hid)).2
              rw[← hb1]
              refine callsIn_wide.2 ((h1 _ _ cap zs K.w hH hblk (by omega) (by omega)).mono ?_)
              rintro e w' ⟨rfl,nn,rfl⟩
              have hsz:(putRow enc (Sort.ahead K.w nn) (K.ι id).1 ((K.ι id).2.1 + off) (zfill z cpt zs).toArray).heap.size=K.w.heap.size:=by simp[Sort.ahead]
              have hother:∀ b,b < K.w.heap.size→b≠(K.ι id).1→(putRow enc (Sort.ahead K.w nn) (K.ι id).1 ((K.ι id).2.1 + off) (zfill z cpt zs).toArray).heap[b]? = K.w.heap[b]?:=fun b h2 h3=>by
                simp[putRow,mapBlock,Sort.ahead,Array.getElem?_modify,Ne.symm h3]
              have hsame:(putRow enc (Sort.ahead K.w nn) (K.ι id).1 ((K.ι id).2.1 + off) (zfill z cpt zs).toArray).heap[(K.ι id).1]? = some (.cells (putCells enc ((K.ι id).2.1 + off) (zfill z cpt zs).toArray arr) T fz):=by
                simp[putRow,mapBlock,Sort.ahead,Array.getElem?_modify,o1,onCells]
              generalize hw':putRow enc (Sort.ahead K.w nn) (K.ι id).1 ((K.ι id).2.1 + off) (zfill z cpt zs).toArray=w' at hother hsame
              have hsz':K.w.heap.size≤w'.heap.size:=by
                rw[← hw']
                rw[hsz]; exact Nat.le_refl _
              let K':Cx:={ K with w:=w' }
              have S:K.Step K':=by
                refine⟨Nat.le_refl _,fun _ _=>rfl,?_,?_,?_,hsz',fun b h2 h3=>⟨hother b h2 fun e=>h3 (by rw[e]; exact H.L id _ hid),h3⟩,rfl,fun l ⟨Lp,hLp⟩=>⟨Lp,?_⟩⟩
                · show w'.os=_; rw[← hw']; rfl
                · show w'.tape=_; rw[← hw']; rfl
                · show w'.output=_; rw[← hw']; rfl
                · refine (hother l (heap_lt_of hLp) fun e=>?_).trans hLp
                  rw[e,o1] at hLp
                  cases hLp
              have hput:∀ j,(putCells enc ((K.ι id).2.1 + off) (zfill z cpt zs).toArray arr)[j]? = if (K.ι id).2.1 + off≤j∧j < (K.ι id).2.1 + off + len then ((zfill z cpt zs)[j - ((K.ι id).2.1 + off)]?).map enc else arr[j]?:=fun j=>by
                have hq:(zfill z cpt zs).length=len:=by rw[hl,hb1]
                unfold putCells
                rw[Array.getElem?_mapIdx]
                simp only[List.size_toArray,hq]
                by_cases hin:(K.ι id).2.1 + off≤j∧j < (K.ι id).2.1 + off + len
                · have hlt2:j < arr.size:=by rw[o2]; omega
                  have hlt3:j - ((K.ι id).2.1 + off) < (zfill z cpt zs).length:=by omega
                  simp[hin,hlt2,hlt3]
                · simp only[if_neg hin]
                  cases arr[j]? <;> rfl
              refine⟨K',_,rfl,rfl,S,?_,rfl,by simp only[VRel]; exact⟨hlt,_,cap,rfl,e1,by have:=hcl zs; omega,.inr (by rw[Nat.mul_one])⟩⟩
              refine H.putN S id _ (fun b hb hne=>⟨hother _ (H.bs _ hb).2 (hne _ rfl),hb⟩) (fun b hb=>⟨(H.bs b hb).1,Nat.lt_of_lt_of_le (H.bs b hb).2 hsz'⟩) (fun p hp=>by cases hp; exact hid_rows) (fun p hp=>?_)
              cases hp
              refine⟨H.lt id _ hid,H.L id _ hid,⟨_,T,fz,hsame,?_,?_,?_,fun i r hi=>?_⟩,H.apart hid⟩
              · simp[putCells,o2,K']
              · intro i hi; exact o3 i (by simpa[putCells] using hi)
              · simp only[List.length_append,List.length_take,List.length_map,List.length_drop,hl]
                show _≤(K.ι id).2.2
                omega
              · show r.length=1∧CellsRel K' _ (((K.ι id).2.1 + i) * 1) r
                have hlm:(((zfill z cpt zs).map fun x=>[AV.s (enc x)])).length=len:=by rw[List.length_map,hl,hb1]
                have hlt:(R.take off).length=off:=by rw[List.length_take]; omega
                by_cases hc1:i < off
                · rw[List.append_assoc,List.getElem?_append_left (by rw[hlt]; exact hc1),List.getElem?_take_of_lt hc1] at hi
                  obtain⟨g1,g2⟩:=o5 i r hi
                  refine⟨g1,fun j c hj=>?_⟩
                  have hj0:j=0:=by have:=(List.getElem?_eq_some_iff.1 hj).1; omega
                  subst hj0
                  obtain⟨v,g3,g4,g5⟩:=g2 0 c hj
                  refine⟨v,?_,g4,g5.mono S.le⟩
                  rw[hput,if_neg (by omega)]
                  exact g3
                · by_cases hc2:i < off + len
                  · rw[List.getElem?_append_left (by rw[List.length_append,hlt,hlm]; omega),List.getElem?_append_right (by omega),hlt,List.getElem?_map] at hi
                    obtain⟨x,hx1,rfl⟩:=Option.map_eq_some_iff.1 hi
                    refine⟨rfl,fun j c hj=>?_⟩
                    have hj0:j=0:=by have:=(List.getElem?_eq_some_iff.1 hj).1; simp at this; omega
                    subst hj0
                    simp only[List.getElem?_cons_zero,Option.some.injEq] at hj
                    subst hj
                    refine⟨enc x,?_,h1c x,by simp[VRel]⟩
                    rw[hput,if_pos (by omega),show ((K.ι id).2.1 + i) * 1 + 0 - ((K.ι id).2.1 + off)=i - off by omega,hx1]
                    rfl
                  · rw[List.getElem?_append_right (by rw[List.length_append,hlt,hlm]; omega),List.length_append,hlt,hlm,List.getElem?_drop,show off + zs.length + (i - (off + len))=i by omega] at hi
                    obtain⟨g1,g2⟩:=o5 i r hi
                    refine⟨g1,fun j c hj=>?_⟩
                    have hj0:j=0:=by have:=(List.getElem?_eq_some_iff.1 hj).1; omega
                    subst hj0
                    obtain⟨v,g3,g4,g5⟩:=g2 0 c hj
                    refine⟨v,?_,g4,g5.mono S.le⟩
                    rw[hput,if_neg (by omega)]
                    exact g3
            · cases hp
          · cases hp
        · cases hp
    · rename_i e0
      cases e0
      cases hp
      simp only[VRel] at hr
      subst hr
      exact triv _ _ _ hr0
    · rename_i e0
      cases e0
      cases hp
      simp only[VRel] at hr
      obtain⟨A,rfl,_⟩:=hr
      exact triv _ _ _ hr0
    · cases hp
  | [],_,_,hp=>simp[cptM] at hp
  | _ :: _ :: _,_,_,hp=>simp[cptM] at hp
  | [_],[],hr,_=>simp[VRels] at hr
  | [_],_ :: _ :: _,hr,_=>simp[VRels] at hr
end
end Go.Vm
/- Numbers as texts: a known function that reads a table. -/
namespace Go.Vm
open Go Go.RowKit
theorem below_grow (w:World) (q:Nat) (os:Array Obj):Below w.heap.size w (Sort.grow (w.drewN q) os):=
  ⟨rfl,rfl,rfl,by simp[Sort.grow],fun i hi=>by
    show ((w.drewN q).heap ++ os)[i]? = _
    rw[Array.getElem?_append_left (by show i < w.heap.size; omega)]
    rfl⟩
theorem prim_itoa {P:Program} {g:FuncId} {b:Nat} (hn:P.globalNamed "internal/strconv.uint64pow10" = some b) (hb:(b,fun cs=>cs=(Lib.pow10Tab.map fun z=>Value.int .u64 z).toArray)∈glb)
    (hc:∀ n:Int, -9223372036854775808≤n→n≤9223372036854775807→∀ w:World,Lib.TabIs P w "internal/strconv.uint64pow10" .u64 Lib.pow10Tab→Calls P g #[.int .i64 n] w fun e w'=>e = .returned (.string ⟨(Lib.itoa n).toArray⟩)∧∃ k os,w' = Sort.grow (w.drewN k) os) :
    ∀ args v,itoaP args=some v→∀ (K:Cx) (base:Nat) (h:AHeap) (cargs:Array Value),HRel K base h→VRels K args cargs.toList→∀ N,CallsIn Fence.wide N P g cargs K.w (CallPost K base h K.c v):=fun args v hp K base h cargs H hr N=>by
  unfold itoaP at hp
  split at hp
  · rename_i n
    split at hp
    · rename_i hw
      cases hp
      obtain⟨cl,rfl⟩:∃ l:List Value,cargs=l.toArray:=⟨cargs.toList,by simp⟩
      match cl,hr with
      | [x],hr=>
        simp only[VRels,VRel] at hr
        obtain⟨rfl,_⟩:=hr
        refine callsIn_wide.2 ((hc n hw.1 hw.2 K.w ?_).mono ?_)
        · obtain⟨_,cs,T,fz,h2,h3⟩:=H.gl _ hb
          have h3:cs=_:=h3
          subst h3
          unfold Lib.TabIs World.var?
          rw[hn]
          show (match K.w.heap[b]? with | some (.cells cs _ _)=>some cs | _=>none)=_
          rw[h2]
        · rintro e w' ⟨rfl,k,os,rfl⟩
          exact post_below H (below_grow _ _ _) fun K'=>by simp[VRel]
      | [],hr=>simp[VRels] at hr
      | _ :: _ :: _,hr=>simp[VRels] at hr
    · cases hp
  · cases hp
end Go.Vm
/- Texts as numbers: a known function that reads the library's errors. -/
namespace Go.Vm
open Go Go.RowKit Go.Shelf Go.Proofs
theorem var_here {P:Program} {K:Cx} {base:Nat} {h:AHeap} (H:HRel K base h) {nm:String} {b:Nat} (hn:P.globalNamed nm=some b) (hb:(b,fun cs=>∃ tp p,cs = #[Value.iface tp p])∈glb):∃ tp p,K.w.var? P nm=some #[.iface tp p]:=by
  obtain⟨_,cs,T,fz,h2,h3⟩:=H.gl _ hb
  obtain⟨tp,p,h3⟩:∃ tp p,cs = #[Value.iface tp p]:=h3
  subst h3
  refine⟨tp,p,?_⟩
  unfold World.var?
  rw[hn]
  show (match K.w.heap[b]? with | some (.cells cs _ _)=>some cs | _=>none)=_
  rw[h2]
theorem prim_atoi {P:Program} {ρ:Ren} (L:LaysC.n172 P ρ) {b1 b2:Nat} (hn1:P.globalNamed "strconv.ErrSyntax" = some b1) (hb1:(b1,fun cs=>∃ tp p,cs = #[Value.iface tp p])∈glb) (hn2:P.globalNamed "strconv.ErrRange" = some b2) (hb2:(b2,fun cs=>∃ tp p,cs = #[Value.iface tp p])∈glb) :
    ∀ args v,atoiP args=some v→∀ (K:Cx) (base:Nat) (h:AHeap) (cargs:Array Value),HRel K base h→VRels K args cargs.toList→∀ N,CallsIn Fence.wide N P (ρ.f 172) cargs K.w (CallPost K base h K.c v):=fun args v hp K base h cargs H hr N=>by
  unfold atoiP at hp
  split at hp
  case h_2=>cases hp
  rename_i s
  split at hp
  case isFalse=>cases hp
  rename_i hs
  cases hp
  obtain⟨cl,rfl⟩:∃ l:List Value,cargs=l.toArray:=⟨cargs.toList,by simp⟩
  have fin:∀ (n:Int) (er:Value) (w':World),n=atoiV s.data.toList→Below K.w.heap.size K.w w'→CallPost K base h K.c (.tup [.s (.int .i64 (atoiV s.data.toList)),.any]) (.returned (.tuple #[.int .i64 n,er])) w':=fun n er w' hn hb=>by
    subst hn
    exact post_below H hb fun K'=>by simp[VRel,VRels]
  match cl,hr with
  | [x],hr=>
    simp only[VRels,VRel,and_true] at hr
    subst hr
    refine callsIn_wide.2 ?_
    cases ha:Lib.atoiAll s.data.toList with
    | ok n=>
      refine (Any.strconv_Atoi_ok L s (by omega) n ha K.w).mono ?_
      rintro e w' ⟨rfl,hw⟩
      refine fin n _ w' (by simp only[atoiV,ha]) ?_
      rcases hw with rfl | ⟨t,rfl⟩
      · exact Below.refl _ _
      · exact Lib.bytesWorld_below _ _ _
    | range=>
      obtain⟨tp,p,hv⟩:=var_here (P:=P) H hn2 hb2
      refine (Any.strconv_Atoi_range_var L s hs ha tp p K.w hv).mono ?_
      rintro e w' ⟨N,rfl,_,_,hb⟩
      exact fin _ _ w' (by simp only[atoiV,ha]) hb
    | _=>
      obtain⟨tp,p,hv⟩:=var_here (P:=P) H hn1 hb1
      refine (Any.strconv_Atoi_syntax_var L s hs ha tp p K.w hv).mono ?_
      rintro e w' ⟨N,rfl,_,_,hb⟩
      exact fin 0 _ w' (by simp only[atoiV,ha]) hb
  | [],hr=>simp[VRels] at hr
  | _ :: _ :: _,hr=>simp[VRels] at hr
end Go.Vm
/- Builders: known functions that write to them, from what they do in a world. -/
namespace Go.Vm
open Go Go.RowKit Go.Shelf
def BldStep (T e:TypeId) (b:Nat) (v:Value) (l':List UInt8) (w w':World):Prop:=
  ∃ q' v':Value,w'.heap[b]? = some (.cells #[q',v'] T (0,0))∧(q' = .pointer none∨q' = .pointer (some ⟨b,0,none⟩))∧w'.ownsRowF 0 e 1 v' l'.length (Lib.byteCells l')∧v'.ownBlock≠some b ∧
    (∀ g,v'.ownBlock=some g→v.ownBlock=some g∨w.heap.size≤g)∧(∀ c,c < w.heap.size→c≠b→v.ownBlock≠some c→w'.heap[c]? = w.heap[c]?)∧w.heap.size≤w'.heap.size∧w'.os=w.os∧w'.tape=w.tape∧w'.output=w.output
theorem bld_post {K:Cx} {base:Nat} {h:AHeap} (H:HRel K base h) {id:Nat} {l l':List UInt8} (hid:h id=some (.bld l)) {w':World} {T:TypeId} {q v:Value} (hT:bldTy=some T) (h0:(K.ι id).2.1=0)
    (hb:K.w.heap[(K.ι id).1]? = some (.cells #[q,v] T (0,0))) (hown:K.w.ownsRowF 0 bldEl 1 v l.length (Lib.byteCells l)) (hS:BldStep T bldEl (K.ι id).1 v l' K.w w') {u:AV} {x:Value} (hu:∀ K',VRel K' u x) :
    CallPost K base (h.put id (some (.bld l'))) K.c u (.returned x) w':=by
  obtain⟨q',v',s1,s2,s3,s4,s5,s6,s7,s8,s9,s10⟩:=hS
  have hhid:∀ g,v.ownBlock=some g→Hid K.w (K.ι id).1 g (.bld l):=fun g hg=>⟨q,v,T,_,hb,hg⟩
  have hhL:∀ g,v.ownBlock=some g→K.L g:=fun g hg=>(H.hd id _ g hid (hhid g hg)).1
  let K':Cx:={ K with w:=w',L:=fun c=>K.L c∨v'.ownBlock=some c }
  have hlt':∀ g,v'.ownBlock=some g→g < w'.heap.size:=fun g hg=>(s3.lt g hg).2
  have S:K.Step K':=by
    refine⟨Nat.le_refl _,fun _ _=>rfl,s8,s9,s10,s7,fun b h1 h2=>⟨s6 b h1 (fun e=>h2 (e ▸ H.L id _ hid)) (fun e=>h2 (hhL b e)),fun e=>?_⟩,rfl,fun k ⟨R,hR⟩=>⟨R,?_⟩⟩
    · rcases e with e | e
      · exact h2 e
      · rcases s5 b e with e | e
        · exact h2 (hhL b e)
        · omega
    · refine (s6 k (heap_lt_of hR) (fun e=>?_) (fun e=>?_)).trans hR
      · rw[e,hb] at hR; cases hR
      · rcases hown.2 with ⟨rfl,_⟩ | ⟨g,cap,cur,fz,rfl,_,hg,_⟩
        · simp[Value.ownBlock] at e
        · simp only[Value.ownBlock,Option.map_some,Option.some.injEq] at e
          subst e
          rw[hg] at hR; cases hR
  refine⟨K',x,rfl,rfl,S,?_,rfl,hu K'⟩
  have hsplit:∀ g,v'.ownBlock=some g→∀ j r,j≠id→h j=some r→(K.ι j).1≠g∧¬ Hid K.w (K.ι j).1 g r:=fun g hg j r hj hr=>by
    rcases s5 g hg with e | e
    · obtain⟨k1,k2⟩:=(H.hd id _ g hid (hhid g e)).2 j r hr
      exact⟨k1,k2 hj⟩
    · refine⟨fun e2=>?_,fun hh=>?_⟩
      · have:=(H.bs _ (H.L j r hr)).2; omega
      · have:=(H.bs _ (H.hd j r g hr hh).1).2; omega
  refine H.put S id _ (fun b hL h1 h2=>⟨s6 b (H.bs b hL).2 (h1 _ rfl) (fun e=>h2 _ hid (hhid b e)),.inl hL⟩) (fun b hL=>?_) (fun p hp=>?_)
  · rcases hL with hL | hL
    · exact⟨(H.bs b hL).1,Nat.lt_of_lt_of_le (H.bs b hL).2 s7⟩
    · refine⟨?_,hlt' b hL⟩
      rcases s5 b hL with e | e
      · exact (H.bs b (hhL b e)).1
      · exact Nat.le_trans H.le e
  · cases hp
    refine⟨H.lt id _ hid,.inl (H.L id _ hid),⟨h0,T,q',v',hT,s1,s2,s3,s4⟩,H.apart hid,fun g hg=>?_⟩
    obtain⟨q2,v2,T2,fz2,e1,e2⟩:=hg
    have e3:w'.heap[(K.ι id).1]? = some (.cells #[q2,v2] T2 fz2):=e1
    rw[s1] at e3
    cases e3
    exact⟨.inr e2,fun e=>s4 (e ▸ e2),hsplit g e2⟩
theorem bld_arg {K:Cx} {base:Nat} {h:AHeap} (H:HRel K base h) {id:Nat} {l:List UInt8} (hid:h id=some (.bld l)) {y:Value} (hy:VRel K (.ptr id 0 2 0) y) :
    y = .pointer (some ⟨(K.ι id).1,0,none⟩)∧(K.ι id).2.1=0∧∃ (T:TypeId) (q v:Value),bldTy=some T∧K.w.heap[(K.ι id).1]? = some (.cells #[q,v] T (0,0))∧(q = .pointer none∨q = .pointer (some ⟨(K.ι id).1,0,none⟩)) ∧
      K.w.ownsRowF 0 bldEl 1 v l.length (Lib.byteCells l)∧v.ownBlock≠some (K.ι id).1:=by
  obtain⟨h0,T,q,v,h1,h2,h3,h4,h5⟩:=H.obj id _ hid
  simp only[VRel] at hy
  exact⟨by rw[hy.2,h0],h0,T,q,v,h1,h2,h3,h4,h5⟩
def BldLaw (P:Program) (g:FuncId) (args:List Value) (ok:List UInt8→Prop) (ans:List UInt8→Value) (turn:List UInt8→List UInt8):Prop:=
  ∀ (T:TypeId) (b:Nat) (q v:Value) (l:List UInt8) (w:World),bldTy=some T→w.heap[b]? = some (.cells #[q,v] T (0,0))→(q = .pointer none∨q = .pointer (some ⟨b,0,none⟩))→w.ownsRowF 0 bldEl 1 v l.length (Lib.byteCells l)→v.ownBlock≠some b →
    ok l→Calls P g (Value.pointer (some ⟨b,0,none⟩) :: args).toArray w fun e w'=>e = .returned (ans l)∧BldStep T bldEl b v (turn l) w w'
theorem put_id {h:AHeap} {id:Nat} {o:AObj} (e:h id=some o):h.put id (some o)=h:=by
  funext j
  by_cases ej:j=id
  · subst ej; rw[AHeap.put_same,e]
  · rw[AHeap.put_other _ ej]
theorem prim_bldWrite {P:Program} {g:FuncId} (hw:∀ s:ByteArray,BldLaw P g [.string s] (fun l=>l.length + s.size≤140737488355328) (fun _=>.tuple #[.int .i64 s.size,.nilIface]) (fun l=>l ++ s.data.toList)) :
    ∀ args h n v h' n',bldWrite args h n=some (v,h',n')→∀ (K:Cx) (base:Nat) (cargs:Array Value),HRel K base h→K.c=n→VRels K args cargs.toList→∀ N,CallsIn Fence.wide N P g cargs K.w (CallPost K base h' n' v):=fun args h n v h' n' hp K base cargs H hc hr N=>by
  subst hc
  obtain⟨cl,rfl⟩:∃ l:List Value,cargs=l.toArray:=⟨cargs.toList,by simp⟩
  unfold bldWrite at hp
  split at hp
  · rename_i id b
    split at hp
    · rename_i l hid
      split at hp
      · rename_i hlen
        cases hp
        match cl,hr with
        | [y,x],hr=>
          simp only[VRels,and_true] at hr
          obtain⟨hy,hx⟩:=hr
          obtain⟨rfl,h0,T,q,v,h1,h2,h3,h4,h5⟩:=bld_arg H hid hy
          simp only[VRel] at hx
          subst hx
          refine callsIn_wide.2 ((hw b T _ q v l K.w h1 h2 h3 h4 h5 hlen).mono ?_)
          rintro e w' ⟨rfl,hS⟩
          exact bld_post H hid h1 h0 h2 h4 hS (fun K'=>by simp[VRel,VRels])
        | [],hr=>simp[VRels] at hr
        | [_],hr=>simp[VRels] at hr
        | _ :: _ :: _ :: _,hr=>simp[VRels] at hr
      · cases hp
    · cases hp
  · cases hp
theorem prim_bldText {P:Program} {g:FuncId} (hw:BldLaw P g [] (fun _=>True) (fun l=>.string ⟨l.toArray⟩) id) :
    ∀ args h n v h' n',bldText args h n=some (v,h',n')→∀ (K:Cx) (base:Nat) (cargs:Array Value),HRel K base h→K.c=n→VRels K args cargs.toList→∀ N,CallsIn Fence.wide N P g cargs K.w (CallPost K base h' n' v):=fun args h n v h' n' hp K base cargs H hc hr N=>by
  subst hc
  obtain⟨cl,rfl⟩:∃ l:List Value,cargs=l.toArray:=⟨cargs.toList,by simp⟩
  unfold bldText at hp
  split at hp
  · rename_i i
    split at hp
    · rename_i l hid
      cases hp
      match cl,hr with
      | [y],hr=>
        simp only[VRels,and_true] at hr
        obtain⟨rfl,h0,T,q,v,h1,h2,h3,h4,h5⟩:=bld_arg H hid hr
        refine callsIn_wide.2 ((hw T _ q v l K.w h1 h2 h3 h4 h5 trivial).mono ?_)
        rintro e w' ⟨rfl,hS⟩
        have:=bld_post (u:=.s (.string ⟨l.toArray⟩)) (x:=.string ⟨l.toArray⟩) H hid h1 h0 h2 h4 hS (fun K'=>by simp[VRel])
        rw[id,put_id hid] at this
        exact this
      | [],hr=>simp[VRels] at hr
      | _ :: _ :: _,hr=>simp[VRels] at hr
    · cases hp
  · cases hp
end Go.Vm
/- Builders: what WriteString does in a world, and that it turns nothing but the builder and its bytes. -/
namespace Go.Vm
open Go Go.RowKit Go.Shelf Go.Proofs
theorem ownsRowF_base {w:World} {b b':Nat} {e:TypeId} {size n:Nat} {v:Value} {xs:List Value} (h:w.ownsRowF b e size v n xs) (hb:b'≤b):w.ownsRowF b' e size v n xs:=by
  refine⟨h.1,?_⟩
  rcases h.2 with hn | ⟨g,cap,cur,fz,rfl,h1,h2⟩
  · exact .inl hn
  · exact .inr ⟨g,cap,cur,fz,rfl,Nat.le_trans hb h1,h2⟩
theorem append_block {P:Program} (w:World) (t u ty e:TypeId) (i:TypeInfo) (ht:P.underlying t=some (.slice e)) (hu:P.underlying u=some .string) (hi:P.info? e=some i) (hz:i.zero=some (.int .u8 0))
    (hsize:i.size=1) (hby:i.bytes=1) (v:Value) (n:Nat) (xs:List Value) (hown:w.ownsRowF 0 e 1 v n xs) (s:ByteArray) (h63:n + s.size≤maxLen) (hbytes:n + s.size≤140737488355328) :
    ∃ v' w',(Builtin.append_ #[t,u] ty #[v,.string s]).run P w = .ok v' w'∧w'.ownsRowF 0 e 1 v' (n + s.size) (xs ++ Lib.strCells s)∧w.grownBy w' v.ownBlock∧∀ g,v'.ownBlock=some g→v.ownBlock=some g∨w.heap.size≤g:=by
  rcases hown.2 with ⟨rfl,rfl⟩ | ⟨g,cap,cur,fz,rfl,hbg,hg,hfz,hnc,hcm,hcs,htake⟩
  · obtain⟨v',w',h1,h2,h3,_⟩:=Lib.run_append_own_stringF (P:=P) (w:=w) w.heap.size t u ty e i ht hu hi hz hsize hby (.slice none 0 0) 0 xs ⟨hown.1,.inl ⟨rfl,rfl⟩⟩ s h63 hbytes (Nat.le_refl _)
    exact⟨v',w',h1,ownsRowF_base h2 (Nat.zero_le _),h3,fun g hg=>.inr (h2.lt g hg).1⟩
  · obtain⟨v',w',h1,h2,h3,_⟩:=Lib.run_append_own_stringF (P:=P) (w:=w) 0 t u ty e i ht hu hi hz hsize hby _ n xs hown s h63 hbytes (Nat.zero_le _)
    refine⟨v',w',h1,h2,h3,?_⟩
    have hxl:xs.length=n:=by simpa using hown.1
    have hsmall:n + s.size≤9223372036854775807:=by simp only[maxLen] at h63; omega
    by_cases hroom:n + s.size≤cap
    · have hcs':cur.size=cap:=by simpa using hcs
      have hr:=Lib.run_append_room_stringF (P:=P) w t u ty e i ht hu hi hsize g n cap cur fz hg (by simpa using hfz) s hroom (by omega)
      rw[h1] at hr
      cases hr
      exact fun g' hg'=>.inl hg'
    · have holds:∀ j u,xs[j]? = some u→w.cell? ((⟨g,0,none⟩:Addr).add j)=some u:=hown.cells (g:=g) rfl
      have hr:=Lib.run_append_grow_string (P:=P) w t u ty e i (.int .u8 0) ht hu hi hz ⟨g,0,none⟩ n cap xs (by rw[hsize]; simpa using hxl) holds s (by omega) (by omega) (by rw[hby]; exact growslice_fits (by omega) (by omega))
      rw[h1] at hr
      cases hr
      intro g' hg'
      simp only[Value.ownBlock,Option.map_some,Option.some.injEq] at hg'
      exact .inr (by rw[← hg']; exact Nat.le_refl _)
theorem wp_append_block {P:Program} {w:World} {ops:Array Oper} {rest:List Oper} {o:Oper} {a:Act} {Q:Exit→Act→World→Prop} (hgd:o.guard=none) (sl x:Operand) (t u:TypeId)
    (ho:o.op = .call { callee:=.builtin .append,args:=#[sl,x],argTypes:=#[t,u] }) (e:TypeId) (i:TypeInfo) (ht:P.underlying t=some (.slice e)) (hu:P.underlying u=some .string) (hi:P.info? e=some i) (hz:i.zero=some (.int .u8 0))
    (hsize:i.size=1) (hby:i.bytes=1) (v:Value) (n:Nat) (xs:List Value) (hs:a.eval sl=v) (hown:w.ownsRowF 0 e 1 v n xs) (s:ByteArray) (hx:a.eval x = .string s) (h63:n + s.size≤maxLen) (hbytes:n + s.size≤140737488355328)
    (h:∀ v' w',w'.ownsRowF 0 e 1 v' (n + s.size) (xs ++ Lib.strCells s)→w.grownBy w' v.ownBlock→(∀ g,v'.ownBlock=some g→v.ownBlock=some g∨w.heap.size≤g)→wpList P ops Q rest (a.put o.dst v') w'):wpList P ops Q (o :: rest) a w:=by
  refine wpList_plain hgd fun K hK=>?_
  obtain⟨v',w',hr,h2,h3,h4⟩:=append_block (P:=P) w t u o.type e i ht hu hi hz hsize hby v n xs hown s h63 hbytes
  unfold Oper.wp execOp
  simp only[ho,resolve,invoke,builtin,Sem.run_bind,Sem.run_pure,Result.andThen_ok,List.map_toArray,List.map_cons,List.map_nil,hs,hx,hr]
  exact hK _ _ (h v' w' h2 h3 h4)
theorem bld_cell {w:World} {b:Nat} {q v:Value} {T:TypeId} (hb:w.heap[b]? = some (.cells #[q,v] T (0,0))) (p:Nat) (x:Value) :
    (w.setCell ⟨b,p,none⟩ x).heap[b]? = some (.cells (#[q,v].setIfInBounds p x) T (0,0))∧(∀ c,c≠b→(w.setCell ⟨b,p,none⟩ x).heap[c]? = w.heap[c]?)∧(w.setCell ⟨b,p,none⟩ x).heap.size=w.heap.size:=by
  rw[setCell_blk hb]
  exact⟨setBlk_same hb,fun c hc=>setBlk_other hc,setBlk_size⟩
variable {P:Program} {ρ:Ren}
theorem bld_check (L:Lays.n240 P ρ) (X:Builder.X72 P ρ) {b:Nat} {q v:Value} {w:World} (hb:w.heap[b]? = some (.cells #[q,v] (ρ.t 72) (0,0))) (hq:q = .pointer none∨q = .pointer (some ⟨b,0,none⟩)) :
    Calls P (ρ.f 240) #[.pointer (some ⟨b,0,none⟩)] w fun e w1=>e = .returned (.tuple #[])∧w1.heap[b]? = some (.cells #[.pointer (some ⟨b,0,none⟩),v] (ρ.t 72) (0,0))∧(∀ c,c≠b→w1.heap[c]? = w.heap[c]?)∧w1.heap.size=w.heap.size∧w1.os=w.os∧w1.tape=w.tape∧w1.output=w.output:=by
  have c0:w.cell? ⟨b,0,none⟩=some q:=by rw[Lib.cell_of_heap hb]; rfl
  rcases hq with rfl | rfl
  · refine (Any.Builder_copyCheck_fresh L X b w c0 (by simp[World.shape?,hb]) (Lib.frozen_of_heap hb 0)).mono ?_
    rintro e w' ⟨rfl,rfl⟩
    obtain⟨k1,k2,k3⟩:=bld_cell hb 0 (.pointer (some ⟨b,0,none⟩))
    exact⟨rfl,k1,k2,k3,rfl,rfl,rfl⟩
  · refine (Any.Builder_copyCheck_used L X b w c0).mono ?_
    rintro e w' ⟨rfl,rfl⟩
    exact⟨rfl,hb,fun _ _=>rfl,rfl,rfl,rfl,rfl⟩
theorem ownsRowF_same {w w':World} {e:TypeId} {n:Nat} {v:Value} {xs:List Value} {b:Nat} (h:w.ownsRowF 0 e 1 v n xs) (hne:v.ownBlock≠some b) (hs:∀ c,c≠b→w'.heap[c]? = w.heap[c]?):w'.ownsRowF 0 e 1 v n xs:=
  ownsRowF_turn h fun g hg=>hs g fun e=>hne (e ▸ hg)
set_option maxHeartbeats 2000000 in
set_option maxRecDepth 100000 in
theorem bld_WriteString (L:Lays.n166 P ρ) (X:Builder.Extra P ρ) (hT:bldTy=some (ρ.t 72)) (he:bldEl=ρ.t 5) (s:ByteArray) :
    BldLaw P (ρ.f 166) [.string s] (fun l=>l.length + s.size≤140737488355328) (fun _=>.tuple #[.int .i64 s.size,.nilIface]) (fun l=>l ++ s.data.toList):=by
  intro T b q v l w hT' hbk hq hown hne hlen
  rw[hT] at hT'
  cases hT'
  rw[he] at hown ⊢
  obtain⟨i0,hi,hz0,hz1,hz2⟩:=info_parts X.infoByte
  have mixed:=L.mixed
  have t72:=L.t72; have a72:=L.a72; have z72:=L.z72; have v72:=L.v72; have u72:=run_underlying L.t72
  have t70:=L.t70; have a70:=L.a70; have z70:=L.z70; have v70:=L.v70; have u70:=run_underlying L.t70
  have t37:=L.t37; have a37:=L.a37; have z37:=L.z37; have v37:=L.v37; have u37:=run_underlying L.t37
  have t3:=L.t3; have a3:=L.a3; have z3:=L.z3; have v3:=L.v3; have u3:=run_underlying L.t3
  have t9:=L.t9; have a9:=L.a9; have z9:=L.z9; have v9:=L.v9; have u9:=run_underlying L.t9
  have t4:=L.t4; have a4:=L.a4; have z4:=L.z4; have v4:=L.v4; have u4:=run_underlying L.t4
  have t164:=L.t164; have a164:=L.a164; have z164:=L.z164; have v164:=L.v164; have u164:=run_underlying L.t164
  have t5:=X.t5; have a5:=X.a5; have z5:=X.z5; have v5:=X.v5; have u5:=run_underlying X.t5
  have e240:∀ args w,(callFunc (ρ.f 240) args).run P w = .ok (.enter (ρ.f 240) args) w:=enters_of L.f240 (by kernel_rfl) rfl
  go_enter L.f166,Body.n166_ntmps ρ
  go_wp2_with (go_at_fn (ρ.f 240); refine (bld_check { L with } X.toX72 hbk hq).mono ?_)
  rintro e w1 ⟨rfl,hb1,hs1,hz,ho1,ht1,hu1⟩
  have hown1:=ownsRowF_same hown hne hs1
  have c0:w1.cell? ⟨b,0,none⟩=some (.pointer (some ⟨b,0,none⟩)):=by rw[Lib.cell_of_heap hb1]; rfl
  have c1:w1.cell? ⟨b,1,none⟩=some v:=by rw[Lib.cell_of_heap hb1]; rfl
  go_wp2_with (at_builtin; refine wp_append_block rfl _ _ (ρ.t 37) (ρ.t 9) rfl (ρ.t 5) i0 L.t37 L.t9 hi hz0 hz1 hz2 _ _ _ rfl hown1 s rfl ?c3 ?c4 ?_)
  case c3=>unfold maxLen; omega
  case c4=>omega
  intro v' w2 hown' hgrow hblk
  have hlt:b < w1.heap.size:=heap_lt_of hb1
  have hb2:w2.heap[b]? = some (.cells #[.pointer (some ⟨b,0,none⟩),v] (ρ.t 72) (0,0)):=by
    rw[hgrow.block b hlt (fun e=>hne e.symm)]
    exact hb1
  have d0:w2.cell? ⟨b,0,none⟩=some (.pointer (some ⟨b,0,none⟩)):=by rw[Lib.cell_of_heap hb2]; rfl
  have d1:w2.cell? ⟨b,1,none⟩=some v:=by rw[Lib.cell_of_heap hb2]; rfl
  have f1:w2.frozen? ⟨b,1,none⟩=false:=Lib.frozen_of_heap hb2 1
  obtain⟨ao,n',cap,rfl⟩:∃ ao n' cap,v' = .slice ao n' cap:=by
    rcases hown'.2 with ⟨hv,_⟩ | ⟨g,cap,cur,fz,hv,_⟩
    · exact⟨_,_,_,hv⟩
    · exact⟨_,_,_,hv⟩
  go_wp2
  go_ret2
  obtain⟨k1,k2,k3⟩:=bld_cell hb2 1 (.slice ao n' cap)
  have hxs:Lib.byteCells l ++ Lib.strCells s=Lib.byteCells (l ++ s.data.toList):=by simp[Lib.byteCells,Lib.strCells]
  have hn:l.length + s.size=(l ++ s.data.toList).length:=by rw[List.length_append,Array.length_toList]; rfl
  have hne':(Value.slice ao n' cap).ownBlock≠some b:=fun e=>by
    rcases hblk b e with h | h
    · exact hne h
    · omega
  refine⟨rfl,.pointer (some ⟨b,0,none⟩),.slice ao n' cap,k1,.inr rfl,?_,hne',fun g hg=>?_,fun c h1 h2 h3=>?_,?_,?_,?_,?_⟩
  · rw[hxs,hn] at hown'
    exact ownsRowF_same hown' hne' k2
  · exact hblk g hg
  · rw[k2 c h2,hgrow.block c (by omega) (fun e=>h3 e.symm),hs1 c h2]
  · have:=hgrow.size; omega
  · exact hgrow.os.trans ho1
  · exact hgrow.tape.trans ht1
  · exact hgrow.output.trans hu1
end Go.Vm
/- Builders: what String does in a world. -/
namespace Go.Vm
open Go Go.RowKit Go.Shelf Go.Proofs
theorem bldStep_same {T e:TypeId} {b:Nat} {q v:Value} {l:List UInt8} {w w':World} (hb:w.heap[b]? = some (.cells #[q,v] T (0,0))) (hq:q = .pointer none∨q = .pointer (some ⟨b,0,none⟩)) (hown:w.ownsRowF 0 e 1 v l.length (Lib.byteCells l)) (hne:v.ownBlock≠some b)
    (hs:∀ c,c < w.heap.size→w'.heap[c]? = w.heap[c]?) (hz:w.heap.size≤w'.heap.size) (ho:w'.os=w.os) (ht:w'.tape=w.tape) (hu:w'.output=w.output):BldStep T e b v l w w':=
  ⟨q,v,(hs b (heap_lt_of hb)).trans hb,hq,ownsRowF_turn hown (fun g hg=>hs g (hown.lt g hg).2),hne,fun g hg=>.inl hg,fun c h _ _=>hs c h,hz,ho,ht,hu⟩
theorem bldStep_freeze {T e:TypeId} {b g cap:Nat} {q:Value} {l:List UInt8} {w w':World} (hb:w.heap[b]? = some (.cells #[q,.slice (some ⟨g,0,none⟩) l.length cap] T (0,0))) (hq:q = .pointer none∨q = .pointer (some ⟨b,0,none⟩))
    (hown:w.ownsRowF 0 e 1 (.slice (some ⟨g,0,none⟩) l.length cap) l.length (Lib.byteCells l)) (hne:(Value.slice (some ⟨g,0,none⟩) l.length cap).ownBlock≠some b)
    (hh:w'.heap=w.heap) (ho:w'.os=w.os) (ht:w'.tape=w.tape) (hu:w'.output=w.output):BldStep T e b (.slice (some ⟨g,0,none⟩) l.length cap) l w (w'.freeze ⟨g,0,none⟩ l.length):=by
  have hgb:g≠b:=fun e=>hne (by simp[Value.ownBlock,e])
  have hoth:∀ c,c≠g→(w'.freeze ⟨g,0,none⟩ l.length).heap[c]? = w.heap[c]?:=fun c hc=>by
    unfold World.freeze
    split
    · rw[hh]
    · simp only[Array.getElem?_modify]
      rw[if_neg (Ne.symm hc),hh]
  have hA:Lib.BuilderAtF T e 0 b q (Lib.byteCells l) w':=⟨Nat.zero_le _,_,by rw[hh]; exact hb,by rw[Lib.byteCells_length]; exact ownsRowF_turn hown (fun g _=>by rw[hh]),hne⟩
  have hF:=hA.froze (g:=g) (cap:=cap) (by rw[Lib.byteCells_length,Lib.cell_of_heap (show w'.heap[b]? = _ by rw[hh]; exact hb)]; rfl)
  rw[Lib.byteCells_length] at hF
  obtain⟨_,v2,e1,e2,e3⟩:=hF
  rw[hoth b (Ne.symm hgb),hb] at e1
  cases e1
  rw[Lib.byteCells_length] at e2
  refine⟨q,_,(hoth b (Ne.symm hgb)).trans hb,hq,e2,e3,fun g hg=>.inl hg,fun c _ _ h3=>hoth c (fun e=>h3 (by simp[Value.ownBlock,e])),?_,?_,?_,?_⟩
  · unfold World.freeze; split
    · rw[hh]; exact Nat.le_refl _
    · simp[hh]
  all_goals (unfold World.freeze; split <;> assumption)
variable {P:Program} {ρ:Ren}
set_option maxHeartbeats 2000000 in
set_option maxRecDepth 100000 in
theorem bld_Text (L:Lays.n169 P ρ) (X:Builder.Extra P ρ) (hT:bldTy=some (ρ.t 72)) (he:bldEl=ρ.t 5):BldLaw P (ρ.f 169) [] (fun _=>True) (fun l=>.string ⟨l.toArray⟩) id:=by
  intro T b q v l w hT' hbk hq hown hne _
  rw[hT] at hT'
  cases hT'
  rw[he] at hown ⊢
  show Calls P (ρ.f 169) #[.pointer (some ⟨b,0,none⟩)] w fun e w'=>e = .returned (.string ⟨l.toArray⟩)∧BldStep (ρ.t 72) (ρ.t 5) b v l w w'
  have hlt:b < w.heap.size:=heap_lt_of hbk
  have mixed:=L.mixed
  have t72:=L.t72; have a72:=L.a72; have z72:=L.z72; have v72:=L.v72; have u72:=run_underlying L.t72
  have t70:=L.t70; have a70:=L.a70; have z70:=L.z70; have v70:=L.v70; have u70:=run_underlying L.t70
  have t37:=L.t37; have a37:=L.a37; have z37:=L.z37; have v37:=L.v37; have u37:=run_underlying L.t37
  have t127:=L.t127; have a127:=L.a127; have z127:=L.z127; have v127:=L.v127; have u127:=run_underlying L.t127
  have t3:=L.t3; have a3:=L.a3; have z3:=L.z3; have v3:=L.v3; have u3:=run_underlying L.t3
  have t9:=L.t9; have a9:=L.a9; have z9:=L.z9; have v9:=L.v9; have u9:=run_underlying L.t9
  have t5:=X.t5; have a5:=X.a5; have z5:=X.z5; have v5:=X.v5; have u5:=run_underlying X.t5
  have hown0:=hown
  rcases hown.2 with ⟨rfl,hn⟩ | ⟨g,cap,cur,fz,rfl,hbg,hg,hfz,hnc,hcm,hcs,htake⟩
  · have hl:l=[]:=List.eq_nil_of_length_eq_zero hn
    subst hl
    have hUS:=Any.unsafeString_none L X
    have c1:w.drew.cell? ⟨b,1,none⟩=some (.slice none 0 0):=by
      have:w.drew.heap[b]? = some (.cells #[q,.slice none 0 0] (ρ.t 72) (0,0)):=hbk
      rw[Lib.cell_of_heap this]; rfl
    have hSD:(Builtin.unsafeSliceData_ #[(ρ.t 37)] (ρ.t 127) #[.slice none 0 0]).run P w.drew = .ok (.pointer none) w.drew:=rfl
    have hS:BldStep (ρ.t 72) (ρ.t 5) b (.slice none 0 0) [] w w.drew:=bldStep_same hbk hq hown hne (fun _ _=>rfl) (Nat.le_refl _) rfl rfl rfl
    go_enter L.f169,Body.n169_ntmps ρ
    go_wp2
    go_region_o
    all_goals (go_wp2; go_ret; exact⟨rfl,hS⟩)
  · have c1:w.drew.cell? ⟨b,1,none⟩=some (.slice (some ⟨g,0,none⟩) l.length cap):=by
      have:w.drew.heap[b]? = some (.cells #[q,.slice (some ⟨g,0,none⟩) l.length cap] (ρ.t 72) (0,0)):=hbk
      rw[Lib.cell_of_heap this]; rfl
    by_cases h0:l=[]
    · subst h0
      have hUS:=Any.unsafeString_none L X
      by_cases hc0:cap=0
      · subst hc0
        have hSD:(Builtin.unsafeSliceData_ #[(ρ.t 37)] (ρ.t 127) #[.slice (some ⟨g,0,none⟩) 0 0]).run P w.drew = .ok (.pointer (some ⟨w.drew.heap.size,0,none⟩)) (w.drew.alloc (.view ⟨g,0,none⟩ (ρ.t 5))):=
          Lib.run_unsafeSliceData_zero w.drew _ _ (ρ.t 5) L.t127 ⟨g,0,none⟩ 0 ((ρ.t 5),cur.size) (by have hg':w.drew.heap[g]? = some (.cells cur (ρ.t 5) fz):=hg; simp[World.shape?,hg'])
        have c2:(w.drew.alloc (.view ⟨g,0,none⟩ (ρ.t 5))).cell? ⟨b,1,none⟩=some (.slice (some ⟨g,0,none⟩) 0 0):=by
          have:(w.drew.alloc (.view ⟨g,0,none⟩ (ρ.t 5))).heap[b]? = _:=(Lib.alloc_old w.drew _ b hlt).trans hbk
          rw[Lib.cell_of_heap this]; rfl
        have c3:(w.alloc (.view ⟨g,0,none⟩ (ρ.t 5))).drew.cell? ⟨b,1,none⟩=some (.slice (some ⟨g,0,none⟩) 0 0):=c2
        have cc:w.cell? ⟨b,1,none⟩=some (.slice (some ⟨g,0,none⟩) 0 0):=c1
        have hS:BldStep (ρ.t 72) (ρ.t 5) b (.slice (some ⟨g,0,none⟩) 0 0) [] w (w.drew.alloc (.view ⟨g,0,none⟩ (ρ.t 5))):=bldStep_same hbk hq hown0 hne (fun c hc=>heap_alloc_lt w.drew _ hc) (by simp) rfl rfl rfl
        go_enter L.f169,Body.n169_ntmps ρ
        go_wp2
        go_region_o
        all_goals (go_wp2; go_ret; exact⟨rfl,hS⟩)
      · have hSD:(Builtin.unsafeSliceData_ #[(ρ.t 37)] (ρ.t 127) #[.slice (some ⟨g,0,none⟩) 0 cap]).run P w.drew = .ok (.pointer (some ⟨g,0,none⟩)) w.drew:=
          Lib.run_unsafeSliceData_row _ _ _ _ _ _ hc0
        have hS:BldStep (ρ.t 72) (ρ.t 5) b (.slice (some ⟨g,0,none⟩) 0 cap) [] w w.drew:=bldStep_same hbk hq hown0 hne (fun _ _=>rfl) (Nat.le_refl _) rfl rfl rfl
        clear hc0
        go_enter L.f169,Body.n169_ntmps ρ
        go_wp2
        go_region_o
        all_goals (go_wp2; go_ret; exact⟨rfl,hS⟩)
    · have hl0:l.length≠0:=by simpa using h0
      have hSD:(Builtin.unsafeSliceData_ #[(ρ.t 37)] (ρ.t 127) #[.slice (some ⟨g,0,none⟩) l.length cap]).run P w.drew = .ok (.pointer (some ⟨g,0,none⟩)) w.drew:=
        Lib.run_unsafeSliceData_row _ _ _ _ _ _ (by omega)
      have hUS:(Builtin.unsafeString_ #[(ρ.t 127),(ρ.t 3)] (ρ.t 9) #[.pointer (some ⟨g,0,none⟩),.int .i64 l.length]).run P w.drew = .ok (.string ⟨l.toArray⟩) (w.drew.freeze ⟨g,0,none⟩ l.length):=by
        refine Lib.run_unsafeString_row w.drew (ρ.t 127) (ρ.t 3) (ρ.t 9) (ρ.t 5) L.t127 X.cellsByte g cur.size (by have hg':w.drew.heap[g]? = some (.cells cur (ρ.t 5) fz):=hg; simp[World.shape?,hg']) l h0 (by omega) (by unfold maxLen at hcm; omega) ?_
        intro j x hx
        have:=hown0.cells (g:=g) rfl j (.int .u8 x.toNat) (by simp[Lib.byteCells,hx])
        exact this
      have hS:BldStep (ρ.t 72) (ρ.t 5) b (.slice (some ⟨g,0,none⟩) l.length cap) l w (w.drew.freeze ⟨g,0,none⟩ l.length):=bldStep_freeze hbk hq hown0 hne rfl rfl rfl rfl
      go_enter L.f169,Body.n169_ntmps ρ
      go_wp2
      go_region_o
      all_goals (go_wp2; go_ret; exact⟨rfl,hS⟩)
end Go.Vm
set_option maxRecDepth 100000
namespace Go.Proofs
open Go.Shelf
def Tryd.z171f:Nat→Nat
  | 171=>54
  | 243=>80
  | 246=>109
  | 283=>122
  | 284=>123
  | 285=>124
  | 286=>125
  | 129=>93
  | 317=>133
  | 318=>134
  | 319=>135
  | 320=>136
  | 337=>140
  | 338=>141
  | n=>n
def Tryd.z171t:Nat→Nat
  | 3=>3
  | 9=>9
  | 2=>2
  | 4=>4
  | 171=>148
  | 0=>0
  | 53=>34
  | 37=>81
  | 5=>5
  | 173=>150
  | 212=>162
  | 51=>33
  | 20=>20
  | 213=>163
  | 46=>104
  | 232=>175
  | 233=>176
  | n=>n
def Tryd.z171g:Nat→Nat
  | 17=>0
  | 18=>3
  | 19=>4
  | n=>n
def Tryd.z171r:Ren:=⟨Tryd.z171f,Tryd.z171t,Tryd.z171g⟩
theorem Tryd.z171:LaysM.n171 Tryd.prog Tryd.z171r where
  mixed:=by kernel_rfl
  f129:=by kernel_rfl
  f171:=by kernel_rfl
  f243:=by kernel_rfl
  f246:=by kernel_rfl
  f283:=by kernel_rfl
  f284:=by kernel_rfl
  f285:=by kernel_rfl
  f286:=by kernel_rfl
  f317:=by kernel_rfl
  f318:=by kernel_rfl
  f319:=by kernel_rfl
  f320:=by kernel_rfl
  f337:=by kernel_rfl
  f338:=by kernel_rfl
  t0:=Tryd.underlying0
  a0:=Tryd.isAgg0
  z0:=Tryd.sizeOf0
  v0:=Tryd.zeroValue0
  t2:=Tryd.underlying2
  a2:=Tryd.isAgg2
  z2:=Tryd.sizeOf2
  v2:=Tryd.zeroValue2
  t3:=Tryd.underlying3
  a3:=Tryd.isAgg3
  z3:=Tryd.sizeOf3
  v3:=Tryd.zeroValue3
  t4:=Tryd.underlying4
  a4:=Tryd.isAgg4
  z4:=Tryd.sizeOf4
  v4:=Tryd.zeroValue4
  t5:=Tryd.underlying5
  a5:=Tryd.isAgg5
  z5:=Tryd.sizeOf5
  v5:=Tryd.zeroValue5
  t9:=Tryd.underlying9
  a9:=Tryd.isAgg9
  z9:=Tryd.sizeOf9
  v9:=Tryd.zeroValue9
  t20:=Tryd.underlying20
  a20:=Tryd.isAgg20
  z20:=Tryd.sizeOf20
  v20:=Tryd.zeroValue20
  t37:=Tryd.underlying81
  a37:=Tryd.isAgg81
  z37:=Tryd.sizeOf81
  v37:=Tryd.zeroValue81
  t46:=Tryd.underlying104
  a46:=Tryd.isAgg104
  z46:=Tryd.sizeOf104
  v46:=Tryd.zeroValue104
  t51:=Tryd.underlying33
  a51:=Tryd.isAgg33
  z51:=Tryd.sizeOf33
  v51:=Tryd.zeroValue33
  t53:=Tryd.underlying34
  a53:=Tryd.isAgg34
  z53:=Tryd.sizeOf34
  v53:=Tryd.zeroValue34
  t171:=Tryd.underlying148
  a171:=Tryd.isAgg148
  z171:=Tryd.sizeOf148
  v171:=Tryd.zeroValue148
  t173:=Tryd.underlying150
  a173:=Tryd.isAgg150
  z173:=Tryd.sizeOf150
  v173:=Tryd.zeroValue150
  t212:=Tryd.underlying162
  a212:=Tryd.isAgg162
  z212:=Tryd.sizeOf162
  v212:=Tryd.zeroValue162
  t213:=Tryd.underlying163
  a213:=Tryd.isAgg163
  z213:=Tryd.sizeOf163
  t232:=Tryd.underlying175
  a232:=Tryd.isAgg175
  z232:=Tryd.sizeOf175
  v232:=Tryd.zeroValue175
  t233:=Tryd.underlying176
  a233:=Tryd.isAgg176
  z233:=Tryd.sizeOf176
  v233:=Tryd.zeroValue176
  g17:=by kernel_rfl
  g18:=by kernel_rfl
  g19:=by kernel_rfl
  i0:=by kernel_rfl
  i2:=by kernel_rfl
  i3:=by kernel_rfl
  i4:=by kernel_rfl
  i5:=by kernel_rfl
  i9:=by kernel_rfl
  i20:=by kernel_rfl
  i37:=by kernel_rfl
  i46:=by kernel_rfl
  i51:=by kernel_rfl
  i53:=by kernel_rfl
  i171:=by kernel_rfl
  i173:=by kernel_rfl
  i212:=by kernel_rfl
  i232:=by kernel_rfl
  i233:=by kernel_rfl
  m17:=by kernel_rfl
  m18:=by kernel_rfl
  m19:=by kernel_rfl
def Tryd.z172f:Nat→Nat
  | 172=>83
  | 244=>110
  | 245=>111
  | 247=>126
  | 279=>127
  | 280=>128
  | 281=>129
  | 282=>130
  | 287=>137
  | 316=>138
  | 171=>54
  | 205=>139
  | 321=>142
  | 322=>143
  | 243=>80
  | 246=>109
  | 283=>122
  | 284=>123
  | 285=>124
  | 286=>125
  | 129=>93
  | 317=>133
  | 318=>134
  | 319=>135
  | 320=>136
  | 337=>140
  | 338=>141
  | n=>n
def Tryd.z172t:Nat→Nat
  | 9=>9
  | 3=>3
  | 75=>85
  | 76=>86
  | 4=>4
  | 5=>5
  | 167=>152
  | 37=>81
  | 0=>0
  | 85=>153
  | 2=>2
  | 168=>155
  | 53=>34
  | 175=>164
  | 46=>104
  | 210=>168
  | 127=>114
  | 145=>174
  | 143=>172
  | 21=>21
  | 171=>148
  | 173=>150
  | 212=>162
  | 51=>33
  | 20=>20
  | 213=>163
  | 232=>175
  | 233=>176
  | 80=>89
  | n=>n
def Tryd.z172g:Nat→Nat
  | 15=>1
  | 16=>2
  | 17=>0
  | 18=>3
  | 19=>4
  | n=>n
def Tryd.z172r:Ren:=⟨Tryd.z172f,Tryd.z172t,Tryd.z172g⟩
theorem Tryd.z172:LaysC.n172 Tryd.prog Tryd.z172r where
  mixed:=by kernel_rfl
  f129:=by kernel_rfl
  f171:=by kernel_rfl
  f172:=by kernel_rfl
  f205:=by kernel_rfl
  f243:=by kernel_rfl
  f244:=by kernel_rfl
  f245:=by kernel_rfl
  f246:=by kernel_rfl
  f247:=by kernel_rfl
  f279:=by kernel_rfl
  f280:=by kernel_rfl
  f281:=by kernel_rfl
  f282:=by kernel_rfl
  f283:=by kernel_rfl
  f284:=by kernel_rfl
  f285:=by kernel_rfl
  f286:=by kernel_rfl
  f287:=by kernel_rfl
  f316:=by kernel_rfl
  f317:=by kernel_rfl
  f318:=by kernel_rfl
  f319:=by kernel_rfl
  f320:=by kernel_rfl
  f321:=by kernel_rfl
  f322:=by kernel_rfl
  f337:=by kernel_rfl
  f338:=by kernel_rfl
  t0:=Tryd.underlying0
  a0:=Tryd.isAgg0
  z0:=Tryd.sizeOf0
  v0:=Tryd.zeroValue0
  t2:=Tryd.underlying2
  a2:=Tryd.isAgg2
  z2:=Tryd.sizeOf2
  v2:=Tryd.zeroValue2
  t3:=Tryd.underlying3
  a3:=Tryd.isAgg3
  z3:=Tryd.sizeOf3
  v3:=Tryd.zeroValue3
  t4:=Tryd.underlying4
  a4:=Tryd.isAgg4
  z4:=Tryd.sizeOf4
  v4:=Tryd.zeroValue4
  t5:=Tryd.underlying5
  a5:=Tryd.isAgg5
  z5:=Tryd.sizeOf5
  v5:=Tryd.zeroValue5
  t9:=Tryd.underlying9
  a9:=Tryd.isAgg9
  z9:=Tryd.sizeOf9
  v9:=Tryd.zeroValue9
  t20:=Tryd.underlying20
  a20:=Tryd.isAgg20
  z20:=Tryd.sizeOf20
  v20:=Tryd.zeroValue20
  t21:=Tryd.underlying21
  a21:=Tryd.isAgg21
  z21:=Tryd.sizeOf21
  v21:=Tryd.zeroValue21
  t37:=Tryd.underlying81
  a37:=Tryd.isAgg81
  z37:=Tryd.sizeOf81
  v37:=Tryd.zeroValue81
  t46:=Tryd.underlying104
  a46:=Tryd.isAgg104
  z46:=Tryd.sizeOf104
  v46:=Tryd.zeroValue104
  t51:=Tryd.underlying33
  a51:=Tryd.isAgg33
  z51:=Tryd.sizeOf33
  v51:=Tryd.zeroValue33
  t53:=Tryd.underlying34
  a53:=Tryd.isAgg34
  z53:=Tryd.sizeOf34
  v53:=Tryd.zeroValue34
  t75:=Tryd.underlying85
  a75:=Tryd.isAgg85
  z75:=Tryd.sizeOf85
  v75:=Tryd.zeroValue85
  t76:=Tryd.underlying86
  a76:=Tryd.isAgg86
  z76:=Tryd.sizeOf86
  v76:=Tryd.zeroValue86
  t85:=Tryd.underlying153
  a85:=Tryd.isAgg153
  z85:=Tryd.sizeOf153
  v85:=Tryd.zeroValue153
  t127:=Tryd.underlying114
  a127:=Tryd.isAgg114
  z127:=Tryd.sizeOf114
  v127:=Tryd.zeroValue114
  t143:=Tryd.underlying172
  a143:=Tryd.isAgg172
  z143:=Tryd.sizeOf172
  v143:=Tryd.zeroValue172
  t145:=Tryd.underlying174
  a145:=Tryd.isAgg174
  z145:=Tryd.sizeOf174
  v145:=Tryd.zeroValue174
  t167:=Tryd.underlying152
  a167:=Tryd.isAgg152
  z167:=Tryd.sizeOf152
  v167:=Tryd.zeroValue152
  t168:=Tryd.underlying155
  a168:=Tryd.isAgg155
  z168:=Tryd.sizeOf155
  v168:=Tryd.zeroValue155
  t171:=Tryd.underlying148
  a171:=Tryd.isAgg148
  z171:=Tryd.sizeOf148
  v171:=Tryd.zeroValue148
  t173:=Tryd.underlying150
  a173:=Tryd.isAgg150
  z173:=Tryd.sizeOf150
  v173:=Tryd.zeroValue150
  t175:=Tryd.underlying164
  a175:=Tryd.isAgg164
  z175:=Tryd.sizeOf164
  v175:=Tryd.zeroValue164
  t210:=Tryd.underlying168
  a210:=Tryd.isAgg168
  z210:=Tryd.sizeOf168
  v210:=Tryd.zeroValue168
  t212:=Tryd.underlying162
  a212:=Tryd.isAgg162
  z212:=Tryd.sizeOf162
  v212:=Tryd.zeroValue162
  t213:=Tryd.underlying163
  a213:=Tryd.isAgg163
  z213:=Tryd.sizeOf163
  t232:=Tryd.underlying175
  a232:=Tryd.isAgg175
  z232:=Tryd.sizeOf175
  v232:=Tryd.zeroValue175
  t233:=Tryd.underlying176
  a233:=Tryd.isAgg176
  z233:=Tryd.sizeOf176
  v233:=Tryd.zeroValue176
  g15:=by kernel_rfl
  g16:=by kernel_rfl
  g17:=by kernel_rfl
  g18:=by kernel_rfl
  g19:=by kernel_rfl
  t80:=Tryd.underlying89
  a80:=Tryd.isAgg89
  z80:=Tryd.sizeOf89
  v80:=Tryd.zeroValue89
  i0:=by kernel_rfl
  i2:=by kernel_rfl
  i3:=by kernel_rfl
  i4:=by kernel_rfl
  i5:=by kernel_rfl
  i9:=by kernel_rfl
  i20:=by kernel_rfl
  i21:=by kernel_rfl
  i37:=by kernel_rfl
  i46:=by kernel_rfl
  i51:=by kernel_rfl
  i53:=by kernel_rfl
  i75:=by kernel_rfl
  i76:=by kernel_rfl
  i80:=by kernel_rfl
  i85:=by kernel_rfl
  i127:=by kernel_rfl
  i143:=by kernel_rfl
  i145:=by kernel_rfl
  i167:=by kernel_rfl
  i168:=by kernel_rfl
  i171:=by kernel_rfl
  i173:=by kernel_rfl
  i175:=by kernel_rfl
  i210:=by kernel_rfl
  i212:=by kernel_rfl
  i232:=by kernel_rfl
  i233:=by kernel_rfl
  m15:=by kernel_rfl
  m16:=by kernel_rfl
  m17:=by kernel_rfl
  m18:=by kernel_rfl
  m19:=by kernel_rfl
  c0:=by kernel_rfl
  c2:=by kernel_rfl
  c3:=by kernel_rfl
  c4:=by kernel_rfl
  c5:=by kernel_rfl
  c9:=by kernel_rfl
  c20:=by kernel_rfl
  c21:=by kernel_rfl
  c37:=by kernel_rfl
  c46:=by kernel_rfl
  c51:=by kernel_rfl
  c53:=by kernel_rfl
  c75:=by kernel_rfl
  c76:=by kernel_rfl
  c80:=by kernel_rfl
  c85:=by kernel_rfl
  c127:=by kernel_rfl
  c143:=by kernel_rfl
  c145:=by kernel_rfl
  c167:=by kernel_rfl
  c168:=by kernel_rfl
  c171:=by kernel_rfl
  c173:=by kernel_rfl
  c175:=by kernel_rfl
  c210:=by kernel_rfl
  c212:=by kernel_rfl
  c213:=by kernel_rfl
  c232:=by kernel_rfl
  c233:=by kernel_rfl
def Tryd.z166f:Nat→Nat
  | 166=>53
  | 240=>79
  | 276=>108
  | n=>n
def Tryd.z166t:Nat→Nat
  | 70=>80
  | 9=>9
  | 3=>3
  | 75=>85
  | 0=>0
  | 72=>83
  | 37=>81
  | 4=>4
  | 164=>134
  | 80=>89
  | 5=>5
  | n=>n
def Tryd.z166g:Nat→Nat
  | n=>n
def Tryd.z166r:Ren:=⟨Tryd.z166f,Tryd.z166t,Tryd.z166g⟩
theorem Tryd.z166:Lays.n166 Tryd.prog Tryd.z166r where
  mixed:=by kernel_rfl
  f166:=by kernel_rfl
  f240:=by kernel_rfl
  f276:=by kernel_rfl
  t0:=by kernel_rfl
  a0:=Tryd.isAgg0
  z0:=Tryd.sizeOf0
  v0:=Tryd.zeroValue0
  t3:=by kernel_rfl
  a3:=Tryd.isAgg3
  z3:=Tryd.sizeOf3
  v3:=Tryd.zeroValue3
  t4:=by kernel_rfl
  a4:=Tryd.isAgg4
  z4:=Tryd.sizeOf4
  v4:=Tryd.zeroValue4
  t9:=by kernel_rfl
  a9:=Tryd.isAgg9
  z9:=Tryd.sizeOf9
  v9:=Tryd.zeroValue9
  t20:=by kernel_rfl
  a20:=Tryd.isAgg20
  z20:=Tryd.sizeOf20
  v20:=Tryd.zeroValue20
  t37:=by kernel_rfl
  a37:=Tryd.isAgg81
  z37:=Tryd.sizeOf81
  v37:=Tryd.zeroValue81
  t70:=by kernel_rfl
  a70:=Tryd.isAgg80
  z70:=Tryd.sizeOf80
  v70:=Tryd.zeroValue80
  t72:=by kernel_rfl
  a72:=Tryd.isAgg83
  z72:=Tryd.sizeOf83
  v72:=Tryd.zeroValue83
  t75:=by kernel_rfl
  a75:=Tryd.isAgg85
  z75:=Tryd.sizeOf85
  v75:=Tryd.zeroValue85
  t164:=by kernel_rfl
  a164:=Tryd.isAgg134
  z164:=Tryd.sizeOf134
  v164:=Tryd.zeroValue134
theorem Tryd.z166x:Builder.Extra Tryd.prog Tryd.z166r where
  sizeBuilder:=by kernel_rfl
  liesBuilder:=by kernel_rfl
  t5:=by kernel_rfl
  a5:=Tryd.isAgg5
  z5:=Tryd.sizeOf5
  v5:=Tryd.zeroValue5
  infoByte:=by kernel_rfl
  cellsByte:=by kernel_rfl
  sizeByte:=by kernel_rfl
  neB5:=by decide
def Tryd.z169f:Nat→Nat
  | 169=>55
  | n=>n
def Tryd.z169t:Nat→Nat
  | 70=>80
  | 9=>9
  | 0=>0
  | 72=>83
  | 37=>81
  | 127=>114
  | 3=>3
  | 5=>5
  | n=>n
def Tryd.z169g:Nat→Nat
  | n=>n
def Tryd.z169r:Ren:=⟨Tryd.z169f,Tryd.z169t,Tryd.z169g⟩
theorem Tryd.z169:Lays.n169 Tryd.prog Tryd.z169r where
  mixed:=by kernel_rfl
  f169:=by kernel_rfl
  t0:=Tryd.underlying0
  a0:=Tryd.isAgg0
  z0:=Tryd.sizeOf0
  v0:=Tryd.zeroValue0
  t3:=Tryd.underlying3
  a3:=Tryd.isAgg3
  z3:=Tryd.sizeOf3
  v3:=Tryd.zeroValue3
  t9:=Tryd.underlying9
  a9:=Tryd.isAgg9
  z9:=Tryd.sizeOf9
  v9:=Tryd.zeroValue9
  t37:=Tryd.underlying81
  a37:=Tryd.isAgg81
  z37:=Tryd.sizeOf81
  v37:=Tryd.zeroValue81
  t70:=Tryd.underlying80
  a70:=Tryd.isAgg80
  z70:=Tryd.sizeOf80
  v70:=Tryd.zeroValue80
  t72:=Tryd.underlying83
  a72:=Tryd.isAgg83
  z72:=Tryd.sizeOf83
  v72:=Tryd.zeroValue83
  t127:=Tryd.underlying114
  a127:=Tryd.isAgg114
  z127:=Tryd.sizeOf114
  v127:=Tryd.zeroValue114
theorem Tryd.z169x:Builder.Extra Tryd.prog Tryd.z169r where
  sizeBuilder:=by kernel_rfl
  liesBuilder:=by kernel_rfl
  t5:=by kernel_rfl
  a5:=Tryd.isAgg5
  z5:=Tryd.sizeOf5
  v5:=Tryd.zeroValue5
  infoByte:=by kernel_rfl
  cellsByte:=by kernel_rfl
  sizeByte:=by kernel_rfl
  neB5:=by decide
def Tryd.z20f:Nat→Nat
  | 20=>33
  | n=>n
def Tryd.z20t:Nat→Nat
  | 22=>23
  | 3=>3
  | 4=>4
  | 0=>0
  | n=>n
def Tryd.z20g:Nat→Nat
  | n=>n
def Tryd.z20r:Ren:=⟨Tryd.z20f,Tryd.z20t,Tryd.z20g⟩
theorem Tryd.z20:Lays2.n20 Tryd.prog Tryd.z20r where
  mixed:=by kernel_rfl
  f20:=by kernel_rfl
  t0:=Tryd.underlying0
  a0:=Tryd.isAgg0
  z0:=Tryd.sizeOf0
  v0:=Tryd.zeroValue0
  t3:=Tryd.underlying3
  a3:=Tryd.isAgg3
  z3:=Tryd.sizeOf3
  v3:=Tryd.zeroValue3
  t4:=Tryd.underlying4
  a4:=Tryd.isAgg4
  z4:=Tryd.sizeOf4
  v4:=Tryd.zeroValue4
  t22:=Tryd.underlying23
  a22:=Tryd.isAgg23
  z22:=Tryd.sizeOf23
  v22:=Tryd.zeroValue23
  i3:=by kernel_rfl
def Tryd.z6sff:Nat→Nat
  | 6=>31
  | 15=>70
  | 14=>69
  | 28=>92
  | 29=>93
  | 20=>84
  | 21=>85
  | 22=>86
  | 23=>87
  | 24=>88
  | 25=>89
  | 26=>90
  | 27=>91
  | 46=>112
  | 47=>113
  | 48=>114
  | 49=>115
  | 50=>116
  | 57=>131
  | n=>n
def Tryd.z6sft:Nat→Nat
  | 22=>23
  | 24=>3
  | 25=>60
  | 3=>3
  | 39=>104
  | 0=>0
  | 53=>33
  | 55=>34
  | 4=>4
  | 46=>117
  | 45=>116
  | 50=>121
  | 5=>5
  | 9=>9
  | 66=>138
  | 70=>142
  | 76=>158
  | 77=>159
  | n=>n
def Tryd.z6sfg:Nat→Nat
  | n=>n
def Tryd.z6sfr:Ren:=⟨Tryd.z6sff,Tryd.z6sft,Tryd.z6sfg⟩
theorem Tryd.z6sf:SlLaysF.n6 Tryd.prog Tryd.z6sfr where
  mixed:=by kernel_rfl
  f6:=Exists.intro "slices.SortFunc[[]int,int]" (And.intro (by decide) (by kernel_rfl))
  f14:=Exists.intro "slices.pdqsortCmpFunc[int]" (And.intro (by decide) (by kernel_rfl))
  f15:=by kernel_rfl
  f20:=Exists.intro "slices.insertionSortCmpFunc[int]" (And.intro (by decide) (by kernel_rfl))
  f21:=Exists.intro "slices.heapSortCmpFunc[int]" (And.intro (by decide) (by kernel_rfl))
  f22:=Exists.intro "slices.breakPatternsCmpFunc[int]" (And.intro (by decide) (by kernel_rfl))
  f23:=Exists.intro "slices.choosePivotCmpFunc[int]" (And.intro (by decide) (by kernel_rfl))
  f24:=Exists.intro "slices.reverseRangeCmpFunc[int]" (And.intro (by decide) (by kernel_rfl))
  f25:=Exists.intro "slices.partialInsertionSortCmpFunc[int]" (And.intro (by decide) (by kernel_rfl))
  f26:=Exists.intro "slices.partitionEqualCmpFunc[int]" (And.intro (by decide) (by kernel_rfl))
  f27:=Exists.intro "slices.partitionCmpFunc[int]" (And.intro (by decide) (by kernel_rfl))
  f28:=by kernel_rfl
  f29:=by kernel_rfl
  f46:=Exists.intro "slices.siftDownCmpFunc[int]" (And.intro (by decide) (by kernel_rfl))
  f47:=by kernel_rfl
  f48:=by kernel_rfl
  f49:=Exists.intro "slices.medianAdjacentCmpFunc[int]" (And.intro (by decide) (by kernel_rfl))
  f50:=Exists.intro "slices.medianCmpFunc[int]" (And.intro (by decide) (by kernel_rfl))
  f57:=Exists.intro "slices.order2CmpFunc[int]" (And.intro (by decide) (by kernel_rfl))
  t0:=Tryd.underlying0
  a0:=Tryd.isAgg0
  z0:=Tryd.sizeOf0
  v0:=Tryd.zeroValue0
  t3:=Tryd.underlying3
  a3:=Tryd.isAgg3
  z3:=Tryd.sizeOf3
  v3:=Tryd.zeroValue3
  t4:=Tryd.underlying4
  a4:=Tryd.isAgg4
  z4:=Tryd.sizeOf4
  v4:=Tryd.zeroValue4
  t5:=Tryd.underlying5
  a5:=Tryd.isAgg5
  z5:=Tryd.sizeOf5
  v5:=Tryd.zeroValue5
  t9:=Tryd.underlying9
  a9:=Tryd.isAgg9
  z9:=Tryd.sizeOf9
  v9:=Tryd.zeroValue9
  t22:=Tryd.underlying23
  a22:=Tryd.isAgg23
  z22:=Tryd.sizeOf23
  v22:=Tryd.zeroValue23
  a24:=Tryd.isAgg3
  z24:=Tryd.sizeOf3
  t25:=Tryd.underlying60
  a25:=Tryd.isAgg60
  z25:=Tryd.sizeOf60
  v25:=Tryd.zeroValue60
  t39:=Tryd.underlying104
  a39:=Tryd.isAgg104
  z39:=Tryd.sizeOf104
  v39:=Tryd.zeroValue104
  t45:=Tryd.underlying116
  a45:=Tryd.isAgg116
  z45:=Tryd.sizeOf116
  v45:=Tryd.zeroValue116
  t46:=Tryd.underlying117
  a46:=Tryd.isAgg117
  z46:=Tryd.sizeOf117
  v46:=Tryd.zeroValue117
  t50:=Tryd.underlying121
  a50:=Tryd.isAgg121
  z50:=Tryd.sizeOf121
  v50:=Tryd.zeroValue121
  t53:=Tryd.underlying33
  a53:=Tryd.isAgg33
  z53:=Tryd.sizeOf33
  v53:=Tryd.zeroValue33
  t55:=Tryd.underlying34
  a55:=Tryd.isAgg34
  z55:=Tryd.sizeOf34
  v55:=Tryd.zeroValue34
  t66:=Tryd.underlying138
  a66:=Tryd.isAgg138
  z66:=Tryd.sizeOf138
  v66:=Tryd.zeroValue138
  t70:=Tryd.underlying142
  a70:=Tryd.isAgg142
  z70:=Tryd.sizeOf142
  v70:=Tryd.zeroValue142
  t76:=Tryd.underlying158
  a76:=Tryd.isAgg158
  z76:=Tryd.sizeOf158
  v76:=Tryd.zeroValue158
  t77:=Tryd.underlying159
  a77:=Tryd.isAgg159
  z77:=Tryd.sizeOf159
  v77:=Tryd.zeroValue159
end Go.Proofs
/- Rows that the library sorts by a comparison that is handed on: known functions that change memory. -/
namespace Go.Vm
open Go Go.RowKit Go.Sort
section
variable {α:Type}
theorem prim_sortO [Inhabited α] {P:Program} {g gc:FuncId} {dec:AV→Option α} {enc:α→Value} {srt:List α→Option (List α)} (hd:∀ c x,dec c=some x→c = .s (enc x)) (hl:∀ zs zs',srt zs=some zs'→zs'.length=zs.length) (h1c:∀ x,(enc x).oneCell' = true)
    (h0:∀ (p:Option Addr) (cap:Nat) (w:World),Calls P g #[.slice p 0 cap,.func (.func gc) #[] #[]] w fun e w'=>e = .returned (.tuple #[])∧w' = w)
    (h1:∀ (blk off cap:Nat) (zs zs':List α) (w:World),srt zs=some zs'→zs≠[]→Holds enc w blk off zs.toArray→blk < w.heap.size→zs.length < 4611686018427387904→Calls P g #[.slice (some ⟨blk,off,none⟩) zs.length cap,.func (.func gc) #[] #[]] w fun e w'=>e = .returned (.tuple #[])∧∃ n os,w' = grow (putRow enc (Sort.ahead w n) blk off zs'.toArray) os) :
    ∀ args h n v h' n',sortOM gc dec enc srt args h n=some (v,h',n')→∀ (K:Cx) (base:Nat) (cargs:Array Value),HRel K base h→K.c=n→VRels K args cargs.toList→∀ N,CallsIn Fence.wide N P g cargs K.w (CallPost K base h' n' v):=fun args h n v h' n' hp K base cargs H hc hr N=>by
  subst hc
  obtain⟨cl,rfl⟩:∃ l:List Value,cargs=l.toArray:=⟨cargs.toList,by simp⟩
  have triv:∀ (p:Option Addr) (cap:Nat),CallsIn Fence.wide N P g #[.slice p 0 cap,.func (.func gc) #[] #[]] K.w (CallPost K base h K.c (.tup [])):=fun p cap=>by
    refine callsIn_wide.2 ((h0 p cap K.w).mono ?_)
    rintro e w' ⟨rfl,rfl⟩
    exact post_below H (Below.refl _ _) fun K'=>by simp[VRel,VRels]
  match args,cl,hr,hp with
  | [x,xf],[y,yf],hr,hp=>
    simp only[VRels,and_true] at hr
    obtain⟨hr,hrf⟩:=hr
    unfold sortOM at hp
    split at hp
    case h_2=>cases hp
    rename_i a0 f0 e00
    simp only[List.cons.injEq,and_true] at e00
    obtain⟨rfl,rfl⟩:=e00
    split at hp
    case isFalse=>cases hp
    rename_i hgc
    have hp2:=hp
    subst hgc
    have hp:=hp2
    clear hp2
    have hyf:yf = .func (.func f0) #[] #[]:=by
      simp only[VRel] at hrf
      obtain⟨cv,e1,e2⟩:=hrf
      obtain⟨l,rfl⟩:∃ l:List Value,cv=l.toArray:=⟨cv.toList,by simp⟩
      cases l with
      | nil=>exact e1
      | cons _ _=>simp[VRels] at e2
    subst hyf
    unfold sortOM1 at hp
    split at hp
    · rename_i id off len e0
      simp only[VRel] at hr
      obtain⟨hlt,a,cap,rfl,e1,e2,e3⟩:=hr
      split at hp
      · rename_i hz
        cases hp
        subst hz
        exact triv _ _
      · rename_i hz
        split at hp
        · rename_i R hid
          split at hp
          · rename_i zs hzs
            split at hp
            case h_2=>cases hp
            rename_i zs' hs
            split at hp
            · rename_i hb
              cases hp
              obtain⟨hb1,hb2⟩:=hb
              have hrow:=rowsD_ok hd hzs
              have ha:a=⟨(K.ι id).1,((K.ι id).2.1 + off) * 1,none⟩:=e3.resolve_left (by omega)
              subst ha
              rw[Nat.mul_one]
              obtain⟨arr,T,fz,o1,o2,o3,o4,o5⟩:=H.obj id _ hid
              have hR:off + len≤R.length:=by
                have:=congrArg List.length hrow
                simp only[List.length_take,List.length_drop,List.length_map] at this
                omega
              have hget:∀ j x,zs[j]? = some x→arr[(K.ι id).2.1 + off + j]? = some (enc x):=fun j x hj=>by
                have hj2:j < len:=by rw[← hb1]; exact (List.getElem?_eq_some_iff.1 hj).1
                have h2:R[off + j]? = some [AV.s (enc x)]:=by
                  have:=congrArg (fun l=>l[j]?) hrow
                  simp only[List.getElem?_map,hj,Option.map_some] at this
                  rw[List.getElem?_take_of_lt hj2,List.getElem?_drop] at this
                  exact this
                obtain⟨_,h3⟩:=o5 _ _ h2
                obtain⟨v,h4,h5,h6⟩:=h3 0 _ rfl
                simp only[VRel] at h6
                subst h6
                rw[← h4]
                congr 1
                omega
              have hH:Holds enc K.w (K.ι id).1 ((K.ι id).2.1 + off) zs.toArray:=fun j hj=>by
                have hj':j < zs.length:=by simpa using hj
                refine⟨?_,?_⟩
                · simp only[World.cell?,o1,Option.isSome_none,Bool.false_eq_true,if_false]
                  rw[hget j zs[j] (List.getElem?_eq_getElem hj')]
                  simp[hj']
                · simp only[World.frozen?,o1]
                  have hlt2:(K.ι id).2.1 + off + j < arr.size:=by
                    rw[o2]; omega
                  have:=o3 _ hlt2
                  simpa using this
              have hblk:(K.ι id).1 < K.w.heap.size:=(H.bs _ (H.L id _ hid)).2
              rw[← hb1]
              refine callsIn_wide.2 ((h1 _ _ cap zs zs' K.w hs (fun e=>hz (by rw[← hb1,e]; rfl)) hH hblk (by omega)).mono ?_)
              rintro e w' ⟨rfl,nn,os,rfl⟩
              have hsz:(putRow enc (Sort.ahead K.w nn) (K.ι id).1 ((K.ι id).2.1 + off) zs'.toArray).heap.size=K.w.heap.size:=by simp[Sort.ahead]
              have hother:∀ b,b < K.w.heap.size→b≠(K.ι id).1→(grow (putRow enc (Sort.ahead K.w nn) (K.ι id).1 ((K.ι id).2.1 + off) zs'.toArray) os).heap[b]? = K.w.heap[b]?:=fun b h2 h3=>by
                rw[heap_grow_old _ _ (by rw[hsz]; exact h2)]
                simp[putRow,mapBlock,Sort.ahead,Array.getElem?_modify,Ne.symm h3]
              have hsame:(grow (putRow enc (Sort.ahead K.w nn) (K.ι id).1 ((K.ι id).2.1 + off) zs'.toArray) os).heap[(K.ι id).1]? = some (.cells (putCells enc ((K.ι id).2.1 + off) zs'.toArray arr) T fz):=by
                rw[heap_grow_old _ _ (by rw[hsz]; exact hblk)]
                simp[putRow,mapBlock,Sort.ahead,Array.getElem?_modify,o1,onCells]
              generalize hw':grow (putRow enc (Sort.ahead K.w nn) (K.ι id).1 ((K.ι id).2.1 + off) zs'.toArray) os=w' at hother hsame
              have hsz':K.w.heap.size≤w'.heap.size:=by
                rw[← hw']
                simp[grow,Sort.ahead]
              let K':Cx:={ K with w:=w' }
              have S:K.Step K':=by
                refine⟨Nat.le_refl _,fun _ _=>rfl,?_,?_,?_,hsz',fun b h2 h3=>⟨hother b h2 fun e=>h3 (by rw[e]; exact H.L id _ hid),h3⟩,rfl,fun l ⟨Lp,hLp⟩=>⟨Lp,?_⟩⟩
                · show w'.os=_; rw[← hw']; rfl
                · show w'.tape=_; rw[← hw']; rfl
                · show w'.output=_; rw[← hw']; rfl
                · refine (hother l (heap_lt_of hLp) fun e=>?_).trans hLp
                  rw[e,o1] at hLp
                  cases hLp
              have hput:∀ j,(putCells enc ((K.ι id).2.1 + off) zs'.toArray arr)[j]? = if (K.ι id).2.1 + off≤j∧j < (K.ι id).2.1 + off + len then (zs'[j - ((K.ι id).2.1 + off)]?).map enc else arr[j]?:=fun j=>by
                have hq:zs'.length=len:=by rw[hl zs zs' hs,hb1]
                unfold putCells
                rw[Array.getElem?_mapIdx]
                simp only[List.size_toArray,hq]
                by_cases hin:(K.ι id).2.1 + off≤j∧j < (K.ι id).2.1 + off + len
                · have hlt2:j < arr.size:=by rw[o2]; omega
                  have hlt3:j - ((K.ι id).2.1 + off) < zs'.length:=by omega
                  simp[hin,hlt2,hlt3]
                · simp only[if_neg hin]
                  cases arr[j]? <;> rfl
              refine⟨K',.tuple #[],rfl,rfl,S,?_,rfl,by simp[VRel,VRels]⟩
              refine H.putN S id _ (fun b hb hne=>⟨hother _ (H.bs _ hb).2 (hne _ rfl),hb⟩) (fun b hb=>⟨(H.bs b hb).1,Nat.lt_of_lt_of_le (H.bs b hb).2 hsz'⟩) (fun p hp=>by cases hp; exact hid_rows) (fun p hp=>?_)
              cases hp
              refine⟨H.lt id _ hid,H.L id _ hid,⟨_,T,fz,hsame,?_,?_,?_,fun i r hi=>?_⟩,H.apart hid⟩
              · simp[putCells,o2,K']
              · intro i hi; exact o3 i (by simpa[putCells] using hi)
              · simp only[List.length_append,List.length_take,List.length_map,List.length_drop,hl zs zs' hs]
                show _≤(K.ι id).2.2
                omega
              · show r.length=1∧CellsRel K' _ (((K.ι id).2.1 + i) * 1) r
                have hlm:((zs'.map fun x=>[AV.s (enc x)])).length=len:=by rw[List.length_map,hl zs zs' hs,hb1]
                have hlt:(R.take off).length=off:=by rw[List.length_take]; omega
                by_cases hc1:i < off
                · rw[List.append_assoc,List.getElem?_append_left (by rw[hlt]; exact hc1),List.getElem?_take_of_lt hc1] at hi
                  obtain⟨g1,g2⟩:=o5 i r hi
                  refine⟨g1,fun j c hj=>?_⟩
                  have hj0:j=0:=by have:=(List.getElem?_eq_some_iff.1 hj).1; omega
                  subst hj0
                  obtain⟨v,g3,g4,g5⟩:=g2 0 c hj
                  refine⟨v,?_,g4,g5.mono S.le⟩
                  rw[hput,if_neg (by omega)]
                  exact g3
                · by_cases hc2:i < off + len
                  · rw[List.getElem?_append_left (by rw[List.length_append,hlt,hlm]; omega),List.getElem?_append_right (by omega),hlt,List.getElem?_map] at hi
                    obtain⟨x,hx1,rfl⟩:=Option.map_eq_some_iff.1 hi
                    refine⟨rfl,fun j c hj=>?_⟩
                    have hj0:j=0:=by have:=(List.getElem?_eq_some_iff.1 hj).1; simp at this; omega
                    subst hj0
                    simp only[List.getElem?_cons_zero,Option.some.injEq] at hj
                    subst hj
                    refine⟨enc x,?_,h1c x,by simp[VRel]⟩
                    rw[hput,if_pos (by omega),show ((K.ι id).2.1 + i) * 1 + 0 - ((K.ι id).2.1 + off)=i - off by omega,hx1]
                    rfl
                  · rw[List.getElem?_append_right (by rw[List.length_append,hlt,hlm]; omega),List.length_append,hlt,hlm,List.getElem?_drop,show off + zs.length + (i - (off + len))=i by omega] at hi
                    obtain⟨g1,g2⟩:=o5 i r hi
                    refine⟨g1,fun j c hj=>?_⟩
                    have hj0:j=0:=by have:=(List.getElem?_eq_some_iff.1 hj).1; omega
                    subst hj0
                    obtain⟨v,g3,g4,g5⟩:=g2 0 c hj
                    refine⟨v,?_,g4,g5.mono S.le⟩
                    rw[hput,if_neg (by omega)]
                    exact g3
            · cases hp
          · cases hp
        · cases hp
    · cases hp
      simp only[VRel] at hr
      subst hr
      exact triv _ _
    · cases hp
      simp only[VRel] at hr
      obtain⟨A,rfl,_⟩:=hr
      exact triv _ _
    · cases hp
  | [],_,_,hp=>simp[sortOM] at hp
  | [_],_,_,hp=>simp[sortOM] at hp
  | _ :: _ :: _ :: _,_,_,hp=>simp[sortOM] at hp
  | [_,_],[],hr,_=>simp[VRels] at hr
  | [_,_],[_],hr,_=>simp[VRels] at hr
  | [_,_],_ :: _ :: _ :: _,hr,_=>simp[VRels] at hr
end
end Go.Vm
/- slices.SortFunc at rows whose elements are parted by the comparison: from the shelf's contract. -/
namespace Go.Vm
open Go Go.RowKit Go.Sort Go.Proofs Go.Shelf
section
variable {α:Type} [Inhabited α]
theorem att_get (zs:List α) (x0:{x // x∈zs}) (j:Nat) (hj:j < zs.length):((@getElem! (Array {x // x∈zs}) Nat {x // x∈zs} _ _ ⟨x0⟩ zs.attach.toArray j)).val=zs.toArray[j]!:=by
  letI i0:Inhabited {x // x∈zs}:=⟨x0⟩
  have h1:j < zs.attach.toArray.size:=by simpa using hj
  rw[getElem!_pos (zs.attach.toArray) j h1,getElem!_pos zs.toArray j (by simpa using hj)]
  simp
theorem putCells_val (enc:α→Value) {p:α→Prop} (i0:Inhabited {x // p x}) (l:List {x // p x}) (off:Nat) (c:Array Value) : @putCells {x // p x} i0 (fun x=>enc x.val) off l.toArray c=putCells enc off (l.map Subtype.val).toArray c:=by
  unfold putCells
  simp only[List.size_toArray,List.length_map]
  congr 1
  funext k x
  split
  · rename_i h
    have h1:k - off < l.length:=by omega
    rw[getElem!_pos (l.toArray) (k - off) (by simpa using h1),getElem!_pos ((l.map Subtype.val).toArray) (k - off) (by simpa using h1)]
    simp
  · rfl
theorem sortF_total {P:Program} {ρ:Ren} (L:SlLaysF.n6 P ρ) {enc:α→Value} (h1c:∀ x,(enc x).oneCell' = true) {cf:α→α→Int} {gc:Nat} (eg:∀ args w,(callFunc gc args).run P w = .ok (.enter gc args) w) (zs:List α) (hne:zs≠[]) (hsz:zs.length < 4611686018427387904)
    (irr:∀ x∈zs,¬ cf x x < 0) (tr:∀ x∈zs,∀ y∈zs,∀ z∈zs,cf x y < 0→cf y z < 0→cf x z < 0) (tot:∀ x∈zs,∀ y∈zs,¬ cf x y < 0→¬ cf y x < 0→x=y)
    (hc:∀ x∈zs,∀ y∈zs,∀ W,Calls P gc #[enc x,enc y] W fun e w'=>e = .returned (.int .i64 (cf x y))∧∃ q os',w' = grow (W.drewN q) os')
    (blk off cap:Nat) (w:World) (hH:Holds enc w blk off zs.toArray) (hblk:blk < w.heap.size) :
    Calls P (ρ.f 6) #[.slice (some ⟨blk,off,none⟩) zs.length cap,.func (.func gc) #[] #[]] w fun e w'=>e = .returned (.tuple #[])∧∃ n os,w' = grow (putRow enc (Sort.ahead w n) blk off (zs.mergeSort fun x y=>!decide (cf y x < 0)).toArray) os:=by
  obtain⟨x0,hx0⟩:∃ x,x∈zs:=List.exists_mem_of_ne_nil zs hne
  letI i0:Inhabited {x // x∈zs}:=⟨⟨x0,hx0⟩⟩
  have hT:∀ x y:{x // x∈zs},(ltOf fun a b:{x // x∈zs}=>cf a.val b.val) x y=false→(ltOf fun a b:{x // x∈zs}=>cf a.val b.val) y x=false→x=y:=fun x y h1 h2=>by
    unfold ltOf at h1 h2
    exact Subtype.ext (tot _ x.2 _ y.2 (of_decide_eq_false h1) (of_decide_eq_false h2))
  have hO:SWO (ltOf fun a b:{x // x∈zs}=>cf a.val b.val):={
    irrefl:=fun x=>decide_eq_false (irr _ x.2)
    trans:=fun x y z h1 h2=>decide_eq_true (tr _ x.2 _ y.2 _ z.2 (of_decide_eq_true h1) (of_decide_eq_true h2))
    ntrans:=fun x y z h1 h2=>by
      unfold ltOf at h1 h2 ⊢
      refine decide_eq_false fun h3=>?_
      by_cases h4:cf y.val x.val < 0
      · exact of_decide_eq_false h2 (tr _ y.2 _ x.2 _ z.2 h4 h3)
      · have e:=tot _ x.2 _ y.2 (of_decide_eq_false h1) h4
        have h3':cf x.val z.val < 0:=h3
        rw[e] at h3'
        exact of_decide_eq_false h2 h3' }
  have hd:zs.attach.toArray.size=zs.length:=by simp
  have hH':Holds (fun x:{x // x∈zs}=>enc x.val) w blk off zs.attach.toArray:=fun j hj=>by
    have hj':j < zs.length:=by simpa using hj
    have:=hH j (by simpa using hj')
    rw[← att_get zs ⟨x0,hx0⟩ j hj'] at this
    exact this
  have hcmp:CmpLays1 P gc #[] (fun x:{x // x∈zs}=>enc x.val) (fun a b=>cf a.val b.val) blk off zs.attach.toArray.size w:=fun m os dk hs x y=>by
    have:=hc x.val x.2 y.val y.2 (sortWorld (fun x:{x // x∈zs}=>enc x.val) w blk off m dk os)
    simpa using this
  have key:=Any.slices_SortFunc_total L (fun x:{x // x∈zs}=>enc x.val) (fun x=>h1c x.val) (fun a b=>cf a.val b.val) hO gc #[] blk off cap zs.attach.toArray w eg hcmp hH' hblk (by rw[hd]; exact hsz) hT
  rw[hd] at key
  refine key.mono ?_
  rintro e w' ⟨he,n,os,rfl⟩
  refine⟨he,n,os,?_⟩
  unfold sortWorld putRow
  congr 2
  funext c
  rw[putCells_val]
  congr 2
  have hm:=List.map_mergeSort (f:=Subtype.val) (l:=zs.attach) (r:=fun a b:{x // x∈zs}=>!ltOf (fun a b:{x // x∈zs}=>cf a.val b.val) b a) (s:=fun x y=>!decide (cf y x < 0)) (fun a _ b _=>rfl)
  rw[List.attach_map_subtype_val] at hm
  exact hm
end
theorem sf0 {P:Program} {ρ:Ren} (L:SlLaysF.n6 P ρ):SlLaysF0.n6 P ρ:={ L with }
end Go.Vm
/- slices.SortFunc at rows of literals: by the variable, and then by the number. -/
namespace Go.Vm
open Go Go.RowKit Go.Sort Go.Proofs Go.Shelf
theorem sortBv_h1 {P:Program} {ρ:Ren} (L:SlLaysF.n6 P ρ) {gc:Nat} (eg:∀ args w,(callFunc gc args).run P w = .ok (.enter gc args) w)
    (hc:∀ x y:Int, -4096≤x→x≤4096 → -4096≤y→y≤4096→∀ W,Calls P gc #[.int .i64 x,.int .i64 y] W fun e w'=>e = .returned (.int .i64 (bvC x y))∧∃ q os',w' = Sort.grow (W.drewN q) os')
    {blk off cap:Nat} {zs zs':List Int} {w:World} (hs:srtBv zs=some zs') (hne:zs≠[]) (hH:Holds (Value.int .i64) w blk off zs.toArray) (hblk:blk < w.heap.size) (hsz:zs.length < 4611686018427387904) :
    Calls P (ρ.f 6) #[.slice (some ⟨blk,off,none⟩) zs.length cap,.func (.func gc) #[] #[]] w fun e w'=>e = .returned (.tuple #[])∧∃ n os,w' = grow (putRow (Value.int .i64) (Sort.ahead w n) blk off zs'.toArray) os:=by
  unfold srtBv at hs
  split at hs
  case isFalse=>cases hs
  rename_i hb
  cases hs
  have hb':∀ x∈zs, -4096≤x∧x≤4096:=fun x hx=>by
    have:=of_decide_eq_true (List.all_eq_true.1 hb x hx)
    omega
  rw[← sortBy_eq bv_tr bv_tot bv_anti]
  refine sortF_total L (enc:=Value.int .i64) (cf:=bvC) (fun _=>rfl) eg zs hne hsz (fun x _ h=>?_) (fun x _ y _ z _ h1 h2=>?_) (fun x hx y hy h1 h2=>?_) (fun x hx y hy W=>hc x y (hb' x hx).1 (hb' x hx).2 (hb' y hy).1 (hb' y hy).2 W) blk off cap w hH hblk
  · unfold bvC at h
    split at h <;> omega
  · unfold bvC at *
    split at h1 <;> split at h2 <;> split <;> omega
  · unfold bvC at h1 h2
    split at h1 <;> split at h2 <;> omega
end Go.Vm
namespace Go.Proofs
open Go Go.RowKit Go.Sort
theorem Tryd.size_calls (x:Int) (h1 : -4096≤x) (h2:x≤4096) (W:World):Calls Tryd.prog 43 #[.int .i64 x] W fun e w'=>e = .returned (.int .i64 (x.natAbs:Int))∧w' = W:=by
  have key:∀ z:Int,z=(x.natAbs:Int)→Value.int .i64 z=Value.int .i64 (x.natAbs:Int):=fun z h=>by rw[h]
  go_enter Tryd.func43,Tryd.ntmps43
  go_wp2
  all_goals (go_ret; exact⟨congrArg Ending.returned (key _ (by omega)),rfl⟩)
theorem Tryd.cmp_calls (x y:Int) (h1 : -4096≤x) (h2:x≤4096) (h3 : -4096≤y) (h4:y≤4096) (W:World):Calls Tryd.prog 32 #[.int .i64 x,.int .i64 y] W fun e w'=>e = .returned (.int .i64 (Go.Vm.bvC x y))∧∃ q os',w' = Sort.grow (W.drewN q) os':=by
  have hx:=fun W=>Tryd.size_calls x h1 h2 W
  have hy:=fun W=>Tryd.size_calls y h3 h4 W
  have e:IntKind.i64.wrap ((x.natAbs:Int) - y.natAbs)=(x.natAbs:Int) - y.natAbs:=IntWalk.i64_in _ (by omega)
  have e2:IntKind.i64.wrap (x - y)=x - y:=IntWalk.i64_in _ (by omega)
  go_enter Tryd.func32,Tryd.ntmps32
  go_wp2_with (go_at_call 43; first | (refine (hx _).mono ?_; rintro e w' ⟨rfl,rfl⟩) | (refine (hy _).mono ?_; rintro e w' ⟨rfl,rfl⟩))
  all_goals (go_ret; refine⟨congrArg Ending.returned (congrArg (Value.int .i64) ?_),0,#[],(grow_empty _).symm⟩; unfold Go.Vm.bvC; first | (rename_i h; simp only[bne_iff_ne,ne_eq,bne_eq_false_iff_eq] at h; simp[h]; done) | (simp_all; done))
end Go.Proofs
namespace Go.Vm
open Go Go.RowKit Go.Proofs
def funcOk (fn:Func):Bool:=!(fn.name == "runtime.NumGoroutine") && (match fn.body with | some c=>codeOk c | none=>true)
theorem funcsOk:E.P.funcs.toList.all funcOk=true:=by kernel_rfl
theorem pk_strconv_Itoa:∀ args v,itoaP args=some v→∀ (K:Cx) (base:Nat) (h:AHeap) (cargs:Array Value),HRel K base h→VRels K args cargs.toList→∀ N,CallsIn Fence.wide N E.P 54 cargs K.w (CallPost K base h K.c v):=prim_itoa (b:=0) (by kernel_rfl) (List.mem_of_getElem? (i:=0) rfl) (fun n h0 h1 w ht=>Go.Proofs.Any.strconv_Itoa Go.Proofs.Tryd.z171 n h0 h1 w ht)
theorem pk_strconv_Atoi:∀ args v,atoiP args=some v→∀ (K:Cx) (base:Nat) (h:AHeap) (cargs:Array Value),HRel K base h→VRels K args cargs.toList→∀ N,CallsIn Fence.wide N E.P 83 cargs K.w (CallPost K base h K.c v):=prim_atoi Go.Proofs.Tryd.z172 (b1:=1) (b2:=2) (by kernel_rfl) (List.mem_of_getElem? (i:=1) rfl) (by kernel_rfl) (List.mem_of_getElem? (i:=2) rfl)
theorem pk_bldWrite:∀ args h n v h' n',bldWrite args h n=some (v,h',n')→∀ (K:Cx) (base:Nat) (cargs:Array Value),HRel K base h→K.c=n→VRels K args cargs.toList→∀ N,CallsIn Fence.wide N E.P 53 cargs K.w (CallPost K base h' n' v):=prim_bldWrite (fun s=>bld_WriteString Go.Proofs.Tryd.z166 Go.Proofs.Tryd.z166x rfl rfl s)
theorem pk_bldText:∀ args h n v h' n',bldText args h n=some (v,h',n')→∀ (K:Cx) (base:Nat) (cargs:Array Value),HRel K base h→K.c=n→VRels K args cargs.toList→∀ N,CallsIn Fence.wide N E.P 55 cargs K.w (CallPost K base h' n' v):=prim_bldText (bld_Text Go.Proofs.Tryd.z169 Go.Proofs.Tryd.z169x rfl rfl)
theorem pk_slices_SortFuncV:∀ args h n v h' n',(sortOM 32 decI (Value.int .i64) srtBv) args h n=some (v,h',n')→∀ (K:Cx) (base:Nat) (cargs:Array Value),HRel K base h→K.c=n→VRels K args cargs.toList→∀ N,CallsIn Fence.wide N E.P 31 cargs K.w (CallPost K base h' n' v):=prim_sortO decI_ok srtBv_len (fun _=>rfl) (fun p cap w=>Go.Proofs.AnyF.slices_SortFunc_none (sf0 Go.Proofs.Tryd.z6sf) p cap _ w) (fun blk off cap zs zs' w hs hne hH hb hl=>sortBv_h1 Go.Proofs.Tryd.z6sf (Go.Proofs.enters_of Go.Proofs.Tryd.func32 (by kernel_rfl) rfl) Go.Proofs.Tryd.cmp_calls hs hne hH hb hl)
theorem pk_slices_CompactI:∀ args h n v h' n',cptIM args h n=some (v,h',n')→∀ (K:Cx) (base:Nat) (cargs:Array Value),HRel K base h→K.c=n→VRels K args cargs.toList→∀ N,CallsIn Fence.wide N E.P 33 cargs K.w (CallPost K base h' n' v):=prim_cpt decI_ok compact_le (fun _=>rfl) (fun p cap w=>Go.Proofs.Any.slices_Compact_int_empty Go.Proofs.Tryd.z20 p cap w) (fun blk off cap zs w h1 h2 h3 h4=>Go.Proofs.Any.slices_Compact_int Go.Proofs.Tryd.z20 blk off cap zs w h1 (by omega) h4)
theorem envOk:EnvOk E:=by
  have key:∀ (f:FuncId) (fn:Func),E.P.funcs[f]? = some fn→funcOk fn=true:=fun f fn hf=>by
    have:=List.all_eq_true.1 funcsOk fn (by
      obtain⟨h1,h2⟩:=Array.getElem?_eq_some_iff.1 hf
      rw[← h2]
      simp)
    exact this
  refine⟨fun f fn hf=>?_,fun f fn c hf hc=>?_,fun g p hp=>?_,fun g p hp=>?_⟩
  · have:=key f fn hf
    unfold funcOk at this
    rw[Bool.and_eq_true] at this
    simpa using this.1
  · have:=key f fn hf
    unfold funcOk at this
    rw[Bool.and_eq_true,hc] at this
    exact this.2
  · simp only[E] at hp
    split at hp
    · rename_i hg
      subst hg
      cases hp
      exact⟨⟨Go.Proofs.Tryd.f54,by kernel_rfl,by kernel_rfl⟩,pk_strconv_Itoa⟩
    · skip
      split at hp
      · rename_i hg
        subst hg
        cases hp
        exact⟨⟨Go.Proofs.Tryd.f83,by kernel_rfl,by kernel_rfl⟩,pk_strconv_Atoi⟩
      · skip
        cases hp
  · simp only[E] at hp
    split at hp
    · rename_i hg
      subst hg
      cases hp
      exact⟨⟨Go.Proofs.Tryd.f53,by kernel_rfl,by kernel_rfl⟩,pk_bldWrite⟩
    · skip
      split at hp
      · rename_i hg
        subst hg
        cases hp
        exact⟨⟨Go.Proofs.Tryd.f55,by kernel_rfl,by kernel_rfl⟩,pk_bldText⟩
      · skip
        split at hp
        · rename_i hg
          subst hg
          cases hp
          exact⟨⟨Go.Proofs.Tryd.f31,by kernel_rfl,by kernel_rfl⟩,pk_slices_SortFuncV⟩
        · skip
          split at hp
          · rename_i hg
            subst hg
            cases hp
            exact⟨⟨Go.Proofs.Tryd.f33,by kernel_rfl,by kernel_rfl⟩,pk_slices_CompactI⟩
          · skip
            cases hp
theorem law_true {g:FuncId} {vs vs':List AV} {m:Option Bool} (hc:Ct E g vs m (fun r=>bv r)) (hm:m=some true) (hp:E.prim g=none) (hpf:E.pf g=true) (hv:All2 (VLe Rn.nil) vs vs') (hs:snapL (snap AHeap.nil depth) vs' = some (vs',false)) (w:World) (hG:∀ q,q∈glb→q.1 < w.heap.size∧∃ cs T fz,w.heap[q.1]? = some (.cells cs T fz)∧q.2 cs) {cargs:Array Value}
    (hr:VRels { w:=w,ι:=fun _=>(0,0,0),L:=fun _=>False,X:=fun _=>False,c:=0 } vs' cargs.toList) :
    Calls E.P g cargs w fun e w'=>e = .returned (.bool true)∧w'.os=w.os∧w'.tape=w.tape∧w'.output=w.output∧w.heap.size≤w'.heap.size∧(∀ b,b < w.heap.size→w'.heap[b]? = w.heap[b]?):=by
  obtain⟨u,h1,h2⟩:=hc true hm vs' hv AHeap.nil 0
  have hu:=h2.s_inv
  subst hu
  unfold callFn at h1
  rw[hp] at h1
  simp only[hpf,if_true,hs] at h1
  cases hcl:(rinf E).call g vs' AHeap.nil 0 with
  | none=>rw[hcl] at h1; cases h1
  | some q=>
    obtain⟨v,h3,n3⟩:=q
    rw[hcl] at h1
    simp only at h1
    cases hsn:snap h3 depth v with
    | none=>rw[hsn] at h1; cases h1
    | some q2=>
      obtain⟨v',b2⟩:=q2
      rw[hsn] at h1
      simp only[Bool.false_and,Bool.false_eq_true,if_false,Option.some.injEq,Prod.mk.injEq] at h1
      obtain⟨k,hk⟩:=rinf_call.1 hcl
      have hpc:pcall E k g vs' = some (bv true):=by
        unfold pcall
        rw[hk]
        simp only[hsn,h1.1]
      refine (pcall_sound envOk (fun r=>drawOk_all r) hpc w hG hr).mono ?_
      rintro e w' ⟨cv,h4,h5,h6,h7,h8,h9,h10⟩
      simp only[VRel] at h10
      subst h10
      exact⟨h4,h5,h6,h7,h8,h9⟩
end Go.Vm
/- What a call reads, as Lean data: an argument's reading by shape gives a value of the evaluator. -/
namespace Go.Vm
open Go
structure BulkOk {H:Type} (f:DataW H→Nat) (g:List (DataW H)→Nat):Prop where
  nil:g []=0
  cons:∀ d r,g (d :: r)=f d + g r
  pos:∀ d,1≤f d
  str:∀ l,f (.lit (.string l))=l.length + 1
  slice:∀ e s,f (.slice e s)=g e + g s + 1
  agg:∀ p,f (.agg p)=g p + 1
theorem BulkOk.sum {H:Type} {f:DataW H→Nat} {g:List (DataW H)→Nat} (B:BulkOk f g):∀ l,g l=(l.map f).sum
  | []=>B.nil
  | d :: r=>by rw[B.cons,B.sum r]; rfl
def Kw (W:World):Cx:={ w:=W,ι:=fun _=>(0,0,0),L:=fun _=>False,X:=fun _=>False,c:=0 }
def simpC:AV→Bool
  | .s _=>true
  | .fsl ..=>true
  | .esl=>true
  | _=>false
theorem snap_simpC {h:AHeap} {k:Nat} {c:AV} (hc:simpC c=true):snap h k c=some (c,false):=by
  cases c <;> first | (cases k <;> rfl) | cases hc
theorem snapL_simpC {h:AHeap} {k:Nat}:∀ {cs:List AV},cs.all simpC=true→snapL (snap h k) cs=some (cs,false)
  | [],_=>rfl
  | c :: cs,hc=>by
    simp only[List.all_cons,Bool.and_eq_true] at hc
    simp only[snapL,snap_simpC hc.1,snapL_simpC hc.2,Bool.or_self]
def simpA:AV→Bool
  | .agg cs=>cs.all simpC
  | c=>simpC c
theorem snap_simpA {h:AHeap} {k:Nat} {c:AV} (hc:simpA c=true):snap h (k + 1) c=some (c,false):=by
  unfold simpA at hc
  split at hc
  · simp only[snap,snapL_simpC hc,Option.map_some]
  · exact snap_simpC hc
theorem snapL_nil' (h:AHeap):snapL (snap h depth) []=some ([],false):=rfl
theorem snapL_cons' {h:AHeap} {c:AV} {cs:List AV} (hc:simpA c=true) (hs:snapL (snap h depth) cs=some (cs,false)):snapL (snap h depth) (c :: cs)=some (c :: cs,false):=by
  have h1:snap h depth c=some (c,false):=snap_simpA hc
  simp only[snapL,h1,hs,Bool.or_self]
section
variable {H:Type} {P:Program} {f:DataW H→Nat} {g:List (DataW H)→Nat}
structure Rd (P:Program) (f:DataW H→Nat) (t:TypeId) (n:Nat) {α:Type} (en:α→List AV) (ok:α→Prop) (μ:α→Nat):Prop where
  read:∀ {enc:TypeId × Value→H} {W:World} {fuel:Nat} {cs:List Value} {d:DataW H} {pl:List MemPlace},DataW.trod enc P W 0 (fun _=>true) true fuel t cs=some (d,pl) →
    ∃ x a,VRels (Kw W) a cs∧All2 (VLe Rn.nil) (en x) a∧a.all simpC=true∧ok x∧μ x≤f d∧cs.length=n∧(∀ v∈cs,v.oneCell' = true)
theorem Rd.str (B:BulkOk f g) {t:TypeId} (ht:P.underlying t=some .string):Rd P f t 1 (fun x:Str=>[bs x]) (fun _=>True) (fun x=>x.length + 1) where
  read h:=by
    obtain⟨s,rfl,e,_⟩:=DataW.trod_string ht h
    obtain⟨rfl,rfl⟩:=Prod.mk.inj e
    exact⟨s.data.toList,[.s (.string s)],by simp[VRels,VRel],⟨VLe.s_refl _,trivial⟩,rfl,trivial,by rw[B.str]; exact Nat.le_refl _,rfl,by simp; rfl⟩
theorem Rd.int (B:BulkOk f g) {t:TypeId} {k:IntKind} (ht:P.underlying t=some (.int k)):Rd P f t 1 (fun x:Int=>[.s (.int k x)]) (fun x=>(Lit.int k x).wf=true) (fun _=>1) where
  read h:=by
    obtain⟨n,rfl,e,w⟩:=DataW.trod_int ht h
    obtain⟨rfl,rfl⟩:=Prod.mk.inj e
    exact⟨n,[.s (.int k n)],by simp[VRels,VRel],⟨VLe.s_refl _,trivial⟩,rfl,w,B.pos _,rfl,by simp; rfl⟩
theorem Rd.bool (B:BulkOk f g) {t:TypeId} (ht:P.underlying t=some .bool):Rd P f t 1 (fun x:Bool=>[bv x]) (fun _=>True) (fun _=>1) where
  read h:=by
    obtain⟨n,rfl,e⟩:=DataW.trod_bool ht h
    obtain⟨rfl,rfl⟩:=Prod.mk.inj e
    exact⟨n,[bv n],by simp[VRels,VRel],⟨VLe.s_refl _,trivial⟩,rfl,trivial,B.pos _,rfl,by simp; rfl⟩
theorem VRels.len {K:Cx}:∀ {a:List AV} {x:List Value},VRels K a x→a.length=x.length
  | [],[],_=>rfl
  | _ :: a,_ :: x,h=>by simp only[List.length_cons]; rw[VRels.len (a:=a) (x:=x) (by simp only[VRels] at h; exact h.2)]
  | [],_ :: _,h=>by simp[VRels] at h
  | _ :: _,[],h=>by simp[VRels] at h
theorem crel_rd {W:World} {b:Nat}:∀ {a:List AV} {cs:List Value} {o:Nat},VRels (Kw W) a cs→(∀ i,i < cs.length→W.cell? ⟨b,o + i,none⟩=cs[i]?)→(∀ v∈cs,v.oneCell' = true)→CRel (Kw W) b o a
  | [],_,_,_,_,_=>by simp[CRel]
  | c :: a,[],_,h,_,_=>by simp[VRels] at h
  | c :: a,v :: cs,o,h,hc,h1=>by
    simp only[VRels] at h
    have h0:=hc 0 (by simp)
    simp only[Nat.add_zero,List.getElem?_cons_zero] at h0
    refine⟨⟨v,⟨?_,id,id⟩,h0,h1 v List.mem_cons_self,h.1⟩,crel_rd h.2 (fun i hi=>?_) fun u hu=>h1 u (List.mem_cons_of_mem _ hu)⟩
    · unfold World.cell? at h0
      split at h0
      · rename_i e
        exact (Array.getElem?_eq_some_iff.1 e).1
      · cases h0
    · have:=hc (i + 1) (by simp; omega)
      rw[Nat.add_assoc,Nat.add_comm 1 i,this]
      rfl
theorem Rd.slice (B:BulkOk f g) {t e:TypeId} {n:Nat} {α:Type} {en:α→List AV} {ok:α→Prop} {μ:α→Nat} (R:Rd P f e n en ok μ) (ht:P.underlying t=some (.slice e)) (hn:P.cellsOf e=n) (h0:0 < n) :
    Rd P f t 1 (fun x:List α=>[.fsl n (x.map en)]) (fun x=>∀ y∈x,ok y) (fun x=>(x.map μ).sum + 1) where
  read {enc W fuel cs d pl} h:=by
    rcases Deep.open_slice ht h with ⟨rfl,e'⟩ | ⟨a,len,cap,m,k,D,Pl,rfl,_,hl,_,hm,e',hx⟩
    · obtain⟨rfl,rfl⟩:=Prod.mk.inj e'
      exact⟨[],[nilS],by simp[VRels,VRel],⟨VLe.fsl_iff.2 (.inr ⟨rfl,.inl rfl⟩),trivial⟩,rfl,by simp,by simpa using B.pos _,rfl,by simp; rfl⟩
    · obtain⟨rfl,rfl⟩:=Prod.mk.inj e'
      have hlm:len≤m:=by rw[hm]; simpa using hl
      subst hn
      have hspot:0 < len→a.spot=none:=fun hp=>by
        obtain⟨cs',h1,h2⟩:=hx 0 (by omega)
        obtain⟨_,hlen,hc⟩:=World.cells?_some h1
        have:=hc 0 h0
        rw[List.getElem?_eq_getElem (by omega)] at this
        simp only[Nat.zero_mul,Addr.add,if_true] at this
        unfold World.cell? at this
        split at this
        · split at this
          · cases this
          · rename_i q; simpa using q
        · cases this
      obtain⟨ab,ao,sp⟩:=a
      have key:∀ j i,i + j=len→∃ (xs:List α) (rows:List (List AV)),RRel (Kw W) ab (ao + i * P.cellsOf e) (P.cellsOf e) rows∧All2 (All2 (VLe Rn.nil)) (xs.map en) rows∧xs.length=j∧(∀ x∈xs,ok x)∧(xs.map μ).sum≤((List.range' i j).map fun q=>f (D q)).sum:=by
        intro j
        induction j with
        | zero=>intro i _; exact⟨[],[],by simp[RRel],trivial,rfl,by simp,by simp⟩
        | succ j ih=>
          intro i hij
          obtain rfl:sp=none:=hspot (by omega)
          obtain⟨xs,rows,r1,r0,r2,r3,r4⟩:=ih (i + 1) (by omega)
          obtain⟨cs',h1,h2⟩:=hx i (by omega)
          obtain⟨x,a,x1,x0,_,x2,x3,x4,x5⟩:=R.read h2
          obtain⟨_,hlen,hc⟩:=World.cells?_some h1
          refine⟨x :: xs,a :: rows,?_,⟨x0,r0⟩,by simp[r2],by simpa using ⟨x2,r3⟩,?_⟩
          · simp only[RRel]
            refine⟨by rw[x1.len,x4],crel_rd x1 (fun q hq=>?_) x5,?_⟩
            · have:=hc q (by omega)
              rw[WideShapes.add_plain,WideShapes.add_plain] at this
              exact this
            · rw[Nat.add_assoc,show i * P.cellsOf e + P.cellsOf e=(i + 1) * P.cellsOf e by rw[Nat.add_mul,Nat.one_mul]]
              exact r1
          · simp only[List.map_cons,List.sum_cons,List.range'_succ]
            omega
      obtain⟨xs,rows,r1,r0,r2,r3,r4⟩:=key len 0 (by omega)
      have rl:rows.length=len:=by rw[r0.length,List.length_map,r2]
      refine⟨xs,[.fsl (P.cellsOf e) rows],?_,⟨VLe.fsl_iff.2 (.inl ⟨rows,rfl,r0⟩),trivial⟩,rfl,r3,?_,rfl,by simp; rfl⟩
      · simp only[VRels,VRel,and_true,rl]
        refine⟨some ⟨ab,ao,sp⟩,cap,rfl,by simp,hl,?_⟩
        rcases Nat.eq_zero_or_pos len with hz | hp
        · left
          exact List.length_eq_zero_iff.1 (by omega)
        · right
          obtain rfl:sp=none:=hspot hp
          exact⟨ab,ao,rfl,by rw[Nat.zero_mul,Nat.add_zero] at r1; exact r1⟩
      · rw[B.slice,B.sum,List.map_map,List.range_eq_range']
        have:(List.map (f ∘ D) (List.range' 0 len)).sum=((List.range' 0 len).map fun q=>f (D q)).sum:=rfl
        omega
structure Rds (P:Program) (f:DataW H→Nat) (g:List (DataW H)→Nat) (fs:List Field) (o n:Nat) {α:Type} (en:α→List AV) (ok:α→Prop) (μ:α→Nat):Prop where
  read:∀ {enc:TypeId × Value→H} {W:World} {fuel:Nat} {cs:List Value} {xs:List (DataW H × List MemPlace)},xs.length=fs.length→o + n≤cs.length →
    (∀ (i:Nat) (fd:Field),fs[i]? = some fd→DataW.trod enc P W 0 (fun _=>true) true fuel fd.type ((cs.drop fd.offset).take (P.cellsOf fd.type))=xs[i]?) →
    ∃ x a,VRels (Kw W) a ((cs.drop o).take n)∧All2 (VLe Rn.nil) (en x) a∧a.all simpC=true∧ok x∧μ x≤g (xs.map (·.1))∧(∀ v∈(cs.drop o).take n,v.oneCell' = true)
theorem Rds.nil (o:Nat):Rds P f g [] o 0 (fun _:Unit=>[]) (fun _=>True) (fun _=>0) where
  read _ _ _:=⟨(),[],by simp[VRels],trivial,rfl,trivial,Nat.zero_le _,by simp⟩
theorem Rds.cons (B:BulkOk f g) {fd:Field} {fs:List Field} {o n1 n2:Nat} {α β:Type} {e1:α→List AV} {ok1:α→Prop} {μ1:α→Nat} {e2:β→List AV} {ok2:β→Prop} {μ2:β→Nat} (R1:Rd P f fd.type n1 e1 ok1 μ1) (R2:Rds P f g fs (o + n1) n2 e2 ok2 μ2) (ho:fd.offset=o) (hn:P.cellsOf fd.type=n1) :
    Rds P f g (fd :: fs) o (n1 + n2) (fun x:α × β=>e1 x.1 ++ e2 x.2) (fun x=>ok1 x.1∧ok2 x.2) (fun x=>μ1 x.1 + μ2 x.2) where
  read {enc W fuel cs xs} hl hc h:=by
    cases xs with
    | nil=>simp at hl
    | cons y xs=>
      have h0:=h 0 fd rfl
      simp only[List.getElem?_cons_zero,ho,hn] at h0
      obtain⟨x1,l1,a1,a0,az,a2,a3,a4,a5⟩:=R1.read (d:=y.1) (pl:=y.2) h0
      obtain⟨x2,l2,b1,b0,bz,b2,b3,b5⟩:=R2.read (enc:=enc) (W:=W) (fuel:=fuel) (cs:=cs) (xs:=xs) (by simpa using hl) (by omega) (fun i fd' h'=>by have:=h (i + 1) fd' (by simpa using h'); simpa using this)
      have e:(cs.drop o).take (n1 + n2)=(cs.drop o).take n1 ++ (cs.drop (o + n1)).take n2:=by rw[List.take_add,List.drop_drop]
      refine⟨(x1,x2),l1 ++ l2,?_,a0.append b0,by rw[List.all_append,az,bz]; rfl,⟨a2,b2⟩,?_,?_⟩
      · rw[e]; exact a1.append b1
      · simp only[List.map_cons]; rw[B.cons]; omega
      · rw[e]
        intro v hv
        rcases List.mem_append.1 hv with hv | hv
        · exact a5 v hv
        · exact b5 v hv
theorem Rd.struct (B:BulkOk f g) {t:TypeId} {fs:Array Field} {n:Nat} {α β:Type} {en:α→List AV} {ok:α→Prop} {μ:α→Nat} (R:Rds P f g fs.toList 0 n en ok μ) (ht:P.underlying t=some (.struct fs)) (hn:P.cellsOf t=n) (mk:α→β) (hs:∀ y,∃ x,mk x=y) {en':β→List AV} (he:∀ x,en' (mk x)=en x) {ok':β→Prop} (hk:∀ x,ok x→ok' (mk x)) {μ':β→Nat} (hm:∀ x,μ' (mk x)≤μ x + 1) :
    Rd P f t n en' ok' μ' where
  read {enc W fuel cs d pl} h:=by
    obtain⟨xs,k,_,e,hl,hx,hf⟩:=DataW.trod_struct ht h
    obtain⟨rfl,rfl⟩:=Prod.mk.inj e
    obtain⟨x,a,h1,h0,hz,h2,h3,h4⟩:=R.read (enc:=enc) (W:=W) (fuel:=k) (cs:=cs) (xs:=xs) (by simpa using hx) (by omega) (fun i fd h'=>hf i fd (by simpa using h'))
    rw[List.drop_zero,List.take_of_length_le (by omega)] at h1 h4
    refine⟨mk x,a,h1,by rw[he]; exact h0,hz,hk x h2,?_,by omega,h4⟩
    rw[B.agg]
    have:=hm x
    omega
theorem Rd.arg1 {t:TypeId} {α:Type} {c:α→AV} {ok:α→Prop} {μ:α→Nat} (R:Rd P f t 1 (fun x=>[c x]) ok μ) {enc:TypeId × Value→H} {W:World} {v:Value} {d:DataW H} {pl:List MemPlace} (hv:v.cells = #[v]) (h:DataW.Trod enc P W 0 (fun _=>true) true t v d pl) :
    ∃ x b,VRel (Kw W) b v∧ok x∧μ x≤f d∧VLe Rn.nil (c x) b∧simpA b=true:=by
  obtain⟨fuel,h⟩:=h
  obtain⟨x,a,h1,h0,hz,h2,h3,_⟩:=R.read h
  rw[hv] at h1
  match a,h0 with
  | [b],h0=>
    simp only[VRels,and_true] at h1
    simp only[List.all_cons,List.all_nil,Bool.and_true] at hz
    refine⟨x,b,h1,h2,h3,h0.1,?_⟩
    unfold simpA
    split
    · cases hz
    · exact hz
  | [],h0=>exact h0.elim
  | _ :: _ :: _,h0=>exact h0.2.elim
theorem Rd.argS {t:TypeId} {n:Nat} {α:Type} {en:α→List AV} {ok:α→Prop} {μ:α→Nat} (R:Rd P f t n en ok μ) {enc:TypeId × Value→H} {W:World} {cs:Array Value} {d:DataW H} {pl:List MemPlace} (h:DataW.Trod enc P W 0 (fun _=>true) true t (.agg cs) d pl) :
    ∃ x b,VRel (Kw W) b (.agg cs)∧ok x∧μ x≤f d∧VLe Rn.nil (.agg (en x)) b∧simpA b=true:=by
  obtain⟨fuel,h⟩:=h
  obtain⟨x,a,h1,h0,hz,h2,h3,_⟩:=R.read h
  exact⟨x,.agg a,by simp only[VRel]; exact⟨cs,rfl,h1⟩,h2,h3,by simp only[VLe]; exact⟨a,rfl,VLes_iff.2 h0⟩,hz⟩
theorem cells_string {P:Program} {W:World} {r:Reach} {b:Nat} {t:TypeId} {v:Value} (ht:P.underlying t=some .string) (h:Value.okWide P W r b t v):v.cells = #[v]:=by
  unfold Value.okWide Cell.okWide Cell.ok at h
  rw[ht] at h
  cases v <;> first | rfl | simp at h
theorem agg_struct {P:Program} {W:World} {r:Reach} {b:Nat} {t:TypeId} {fs:Array Field} {v:Value} (ht:P.underlying t=some (.struct fs)) (h:Value.okWide P W r b t v):∃ cs,v = .agg cs:=by
  unfold Value.okWide at h
  rw[ht] at h
  obtain⟨cs,e,_⟩:=h
  exact⟨cs,e⟩
theorem args_stay {enc:TypeId × Value→H} (hl:laidOutB P=true) {W W':World} (hb:RowKit.Below W.heap.size W W') {sp:Nat→Bool}:∀ {ts:List TypeId} {vs:List Value} {ds:List (DataW H)} {ps:List MemPlace},(∀ t∈ts,P.readableRec t=true∧t < P.types.size)→DataW.TrodAll enc P W 0 (fun _=>true) true ts vs ds ps→(∀ x∈ps,x.block < W.heap.size)→(∀ x∈ps,sp x.block=true) →
    DataW.TrodAll enc P W' 0 sp true ts vs ds ps
  | [],[],[],_,_,h,_,_=>h
  | t :: ts,v :: vs,d :: ds,ps,hr,h,h1,h2=>by
    obtain⟨p,q,h3,h4,rfl⟩:=h
    exact⟨p,q,WideElems.Trod_stays hl (hr t List.mem_cons_self).1 (hr t List.mem_cons_self).2 h3 (fun x hx=>hb.same (h1 x (List.mem_append_left _ hx))) (fun x hx=>h2 x (List.mem_append_left _ hx)),
      args_stay hl hb (fun u hu=>hr u (List.mem_cons_of_mem _ hu)) h4 (fun x hx=>h1 x (List.mem_append_right _ hx)) (fun x hx=>h2 x (List.mem_append_right _ hx)),rfl⟩
  | [],_ :: _,_,_,_,h,_,_=>h.elim
  | [],[],_ :: _,_,_,h,_,_=>h.elim
  | _ :: _,[],_,_,_,h,_,_=>h.elim
  | _ :: _,_ :: _,[],_,_,h,_,_=>h.elim
end
end Go.Vm
/- Plain laws: loops, numbers. -/
namespace Go.Vm
open Go
section
variable {σ τ:Type} {f:σ→Option (Step σ τ)}
theorem loopC_next {x y:σ} (h:f x=some (.next y)):loopC f x=loopC f y:=by rw[loopC_eq,h]; rfl
theorem loopC_done {x:σ} {t:τ} (h:f x=some (.done t)):loopC f x=some t:=by rw[loopC_eq,h]; rfl
theorem loopC_fun (I:σ→Prop) (μ:σ→Nat) (g:σ→τ) (h:∀ x,I x→f x=some (.done (g x))∨∃ y,f x=some (.next y)∧I y∧μ y < μ x∧g y=g x) {x:σ} (hx:I x):loopC f x=some (g x):=by
  have key:∀ n x,I x→μ x≤n→loopC f x=some (g x):=by
    intro n
    induction n with
    | zero=>
      intro x hx hn
      rcases h x hx with h1 | ⟨y,_,_,h3,_⟩
      · exact loopC_done h1
      · omega
    | succ n ih=>
      intro x hx hn
      rcases h x hx with h1 | ⟨y,h1,h2,h3,h4⟩
      · exact loopC_done h1
      · rw[loopC_next h1,ih y h2 (by omega),h4]
  exact key _ x hx (Nat.le_refl _)
end
theorem w64_id {x:Int} (h1 : -9223372036854775808≤x) (h2:x≤9223372036854775807):w64 x=x:=i64_id h1 h2
theorem idx_nat {s:Str} {i:Nat} (h:i < s.length):idx s (i:Int)=some (s[i].toNat:Int):=by
  unfold idx
  rw[if_pos (by omega),Int.toNat_natCast,List.getElem?_eq_getElem h]
  rfl
theorem ixl_nat {α:Type} {l:List α} {i:Nat} (h:i < l.length):ixl l (i:Int)=some l[i]:=by
  unfold ixl
  rw[if_pos (by omega),Int.toNat_natCast,List.getElem?_eq_getElem h]
theorem subl_nat {α:Type} {l:List α} {i j:Nat} (h1:i≤j) (h2:j≤l.length):subl l (i:Int) (j:Int)=some ((l.drop i).take (j - i)):=by
  unfold subl
  rw[if_pos ⟨by omega,by omega,by omega⟩]
  rfl
theorem app_ok {α:Type} {b:Nat} {l m:List α} (h1:(l.length + m.length) * b≤140737488355328) (h2:l.length + m.length≤9223372036854775807):app b l m=some (l ++ m):=by
  unfold app; rw[if_pos ⟨h1,h2⟩]
def runE (p:UInt8→Bool) (s:Str) (i:Nat):Nat:=i + ((s.drop i).takeWhile p).length
theorem runE_le {p:UInt8→Bool} {s:Str} {i:Nat} (h:i≤s.length):runE p s i≤s.length:=by
  unfold runE
  have:=(List.takeWhile_prefix p (l:=s.drop i)).length_le
  simp only[List.length_drop] at this
  omega
theorem runE_ge (p:UInt8→Bool) (s:Str) (i:Nat):i≤runE p s i:=by unfold runE; omega
end Go.Vm
/- Plain laws of chapter 26: what follows by units. -/
namespace Go.Vm
open Go
theorem w64_n (i:Nat) (h:i≤9223372036854775806):w64 ((i:Int) + 1)=((i + 1:Nat):Int):=by rw[w64_id (by omega) (by omega)]; rfl
def goodB (x:Int):Bool:=decide (x≠0) && decide (-4096≤x) && decide (x≤4096)
theorem goodB_iff {x:Int}:goodB x=true↔x≠0 ∧ -4096≤x∧x≤4096:=by
  unfold goodB
  simp only[Bool.and_eq_true,decide_eq_true_eq,and_assoc]
theorem goodB_neg {x:Int} (h:goodB x=true):goodB (-x)=true:=by
  rw[goodB_iff] at h ⊢
  omega
def tV (V:List Int) (x:Int):Int:=if x < 0 then - V.getD x.natAbs 0 else V.getD x.natAbs 0
theorem tV_neg (V:List Int) {x:Int} (h:x≠0):tV V (-x) = - tV V x:=by
  unfold tV
  rw[Int.natAbs_neg]
  by_cases hx:x < 0
  · rw[if_pos hx,if_neg (by omega)]; omega
  · rw[if_neg hx,if_pos (by omega)]
end Go.Vm
/- Plain laws of chapter 26: what a run tells is true wherever the clauses and what is assumed are. -/
set_option linter.unusedSectionVars false
namespace Go.Vm
open Go
def smallB (x:Int):Prop:=x≠0 ∧ -30≤x∧x≤30
theorem small_good {x:Int} (h:smallB x):goodB x=true:=goodB_iff.2 ⟨h.1,by have:=h.2; omega,by have:=h.2; omega⟩
section
variable {is:Int→Bool} (hneg:∀ x,smallB x→is (-x) = !is x)
include hneg
def TrueBy (is:Int→Bool) (V:List Int):Prop:=∀ y,goodB y=true→tV V y=1→smallB y∧is y=true
theorem not_false {V:List Int} (hI:TrueBy is V) {y:Int} (hy:smallB y) (h1:is y=true):tV V y ≠ -1:=fun e=>by
  have h2:tV V (-y)=1:=by rw[tV_neg V hy.1,e]; rfl
  have:=(hI (-y) (goodB_neg (small_good hy)) h2).2
  rw[hneg y hy,h1] at this
  cases this
end
end Go.Vm
/- Plain laws of chapter 24: rows gone through; a clause cleaned. -/
namespace Go.Vm
open Go
theorem walkB {F:Int→Option (Step Int (Unit ⊕ Unit))} {n:Nat} {p:Nat→Bool} (hn:n≤1048576) (h1:∀ i:Nat,i < n→(∀ j,j < i→p j=true)→F (i:Int)=if p i=true then some (.next ((i + 1:Nat):Int)) else some (.done (Sum.inl ()))) (h2:F (n:Int)=some (.done (Sum.inr ()))) :
    loopC F 0=some (if (List.range n).all p=true then Sum.inr () else Sum.inl ()):=by
  have:=loopC_fun (f:=F) (fun x=>∃ i:Nat,x=(i:Int)∧i≤n∧∀ j,j < i→p j=true) (fun x=>n - x.toNat) (fun _=>if (List.range n).all p=true then Sum.inr () else Sum.inl ()) (fun x hx=>by
    obtain⟨i,rfl,hi,hp⟩:=hx
    rcases Nat.lt_or_ge i n with h | h
    · cases e:p i with
      | true=>
        right
        refine⟨_,by rw[h1 i h hp,e,if_pos rfl],⟨i + 1,rfl,h,fun j hj=>?_⟩,by omega,rfl⟩
        rcases Nat.lt_or_ge j i with g | g
        · exact hp j g
        · rw[show j=i by omega]; exact e
      | false=>
        left
        rw[h1 i h hp,e,if_neg (by decide),if_neg]
        intro q
        have:=List.all_eq_true.1 q i (List.mem_range.2 h)
        rw[e] at this
        cases this
    · left
      have:i=n:=by omega
      subst this
      rw[h2,if_pos]
      exact List.all_eq_true.2 fun j hj=>hp j (List.mem_range.1 hj)) (x:=(0:Int)) ⟨0,rfl,Nat.zero_le _,fun j hj=>absurd hj (Nat.not_lt_zero _)⟩
  exact this
theorem getD_get {l:List Int} {i:Nat} (h:i < l.length):l.getD i 0=l[i]:=by simp[List.getD,h]
def litB (v x:Int):Bool:=decide (x≠0) && decide (x≤v) && decide (-v≤x)
theorem litB_iff {v x:Int}:litB v x=true↔x≠0∧x≤v ∧ -v≤x:=by
  simp[litB,and_assoc]
theorem w64_opp {v:Int} (h:0≤v) (h2:v≤1048576):w64 (0 - v) = -v:=by rw[w64_id (by omega) (by omega)]; omega
theorem lit_eq {v:Int} (x:Int) (h:0≤v) (h2:v≤1048576):cnf_literal x v=some (litB v x):=by
  unfold cnf_literal litB
  rw[w64_opp h h2]
  congr 1
  rw[Bool.eq_iff_iff]
  simp
theorem good_eq24 {v:Int} (x:Int) (h:0≤v) (h2:v≤1048576):ref24_good x v=some (litB v x):=by
  unfold ref24_good litB
  rw[w64_opp h h2]
  congr 1
  rw[Bool.eq_iff_iff]
  simp
  omega
theorem size_eq24 {x:Int} (h : -1048576≤x) (h2:x≤1048576):cnf_size x=some (x.natAbs:Int):=by
  unfold cnf_size
  rw[w64_id (by omega) (by omega)]
  congr 1
  split <;> omega
theorem abs_eq24 {x:Int} (h : -1048576≤x) (h2:x≤1048576):ref24_abs x=some (x.natAbs:Int):=by
  unfold ref24_abs
  by_cases h0:x < 0
  · rw[if_pos (decide_eq_true h0),w64_id (by omega) (by omega)]
    congr 1
    omega
  · rw[if_neg (by simpa using h0)]
    congr 1
    omega
theorem w64_pred {i:Nat} (h:0 < i) (h2:i≤1048577):w64 ((i:Int) - 1)=((i - 1:Nat):Int):=by
  rw[w64_id (by omega) (by omega)]
  omega
end Go.Vm
/- Plain laws of chapter 24: which formulas are ones. -/
namespace Go.Vm
open Go
def clB (v:Int) (l:List Int) (i:Nat):Bool:=litB v (l.getD i 0) && !(decide (0 < i) && decide ((l.getD i 0).natAbs≤(l.getD (i - 1) 0).natAbs))
def clauseB (v:Int) (l:List Int):Bool:=(List.range l.length).all (clB v l)
section
variable {v:Int} (h0:0≤v) (h1:v≤4096)
include h0 h1
theorem cnf_clean_eq (l:List Int) (hl:l.length≤1048576):cnf_clean l v=some (clauseB v l):=by
  unfold cnf_clean
  rw[walkB (F:=cnf_clean_l1 l v) (p:=clB v l) hl (fun i h hp=>by
    unfold cnf_clean_l1
    rw[if_pos (by simpa using h),ixl_nat h]
    simp only[Option.bind_some]
    rw[lit_eq _ h0 (by omega)]
    simp only[Option.bind_some]
    unfold clB
    rw[getD_get h]
    cases hx:litB v l[i] with
    | false=>rfl
    | true=>
      have hx':=litB_iff.1 hx
      simp only[Bool.not_true,Bool.false_eq_true,if_false,Bool.true_and]
      by_cases hi:0 < i
      · have hq:=hp (i - 1) (by omega)
        unfold clB at hq
        rw[Bool.and_eq_true] at hq
        have hy:=litB_iff.1 hq.1
        rw[getD_get (by omega)] at hy
        rw[if_pos (by simpa using hi),w64_pred hi (by omega),ixl_nat (by omega)]
        simp only[Option.bind_some]
        rw[size_eq24 (by omega) (by omega),size_eq24 (by omega) (by omega)]
        simp only[Option.bind_some,Bool.false_or]
        rw[getD_get (by omega),w64_n i (by omega)]
        by_cases e:l[i].natAbs≤l[i - 1].natAbs
        · rw[if_pos (by simp; omega),if_neg (by simp[hi,e])]
        · rw[if_neg (by simp; omega),if_pos (by simp[hi,e])]
      · rw[if_neg (by simpa using hi)]
        simp only[Option.bind_some,Bool.false_or]
        rw[if_neg (by decide),if_pos (by simp[hi]),w64_n i (by omega)]) (by
    unfold cnf_clean_l1
    rw[if_neg (by simp)])]
  unfold clauseB
  simp only[Option.bind_some]
  cases (List.range l.length).all (clB v l) <;> rfl
theorem ref24_clause_eq (f:S_api_Formula) (c:S_api_Clause) (hv:f.Vars=v) (hl:c.Lits.length≤1048576):loopC (ref24_Fit_l1 f c) 0=some (if clauseB v c.Lits=true then Sum.inr () else Sum.inl ()):=by
  unfold clauseB
  refine walkB (F:=ref24_Fit_l1 f c) (p:=clB v c.Lits) hl (fun i h hp=>?_) ?_
  · unfold ref24_Fit_l1
    rw[if_pos (by simpa using h),ixl_nat h,hv]
    simp only[Option.bind_some]
    rw[good_eq24 _ h0 (by omega)]
    simp only[Option.bind_some]
    unfold clB
    rw[getD_get h]
    cases hx:litB v c.Lits[i] with
    | false=>rfl
    | true=>
      have hx':=litB_iff.1 hx
      simp only[Bool.not_true,Bool.false_eq_true,if_false,Bool.true_and]
      by_cases hi:0 < i
      · have hq:=hp (i - 1) (by omega)
        unfold clB at hq
        rw[Bool.and_eq_true] at hq
        have hy:=litB_iff.1 hq.1
        rw[getD_get (by omega)] at hy
        rw[if_pos (by simpa using hi),w64_pred hi (by omega),ixl_nat (by omega)]
        simp only[Option.bind_some]
        rw[abs_eq24 (by omega) (by omega),abs_eq24 (by omega) (by omega)]
        simp only[Option.bind_some,Bool.false_or]
        rw[getD_get (by omega),w64_n i (by omega)]
        by_cases e:c.Lits[i].natAbs≤c.Lits[i - 1].natAbs
        · rw[if_pos (by simp; omega),if_neg (by simp[hi,e])]
        · rw[if_neg (by simp; omega),if_pos (by simp[hi,e])]
      · rw[if_neg (by simpa using hi)]
        simp only[Option.bind_some,Bool.false_or]
        rw[if_neg (by decide),if_pos (by simp[hi]),w64_n i (by omega)]
  · unfold ref24_Fit_l1
    rw[if_neg (by simp)]
end
def orB (v:Int) (l:List Int) (i:Nat):Bool:=litB v (l.getD i 0) && !(decide (l.getD i 0∈l.take i))
theorem seen_loop {β:Type} {F:List β × Int→Option (Step (List β × Int) (Unit ⊕ Unit))} {v:Int} (h0:0≤v) (h1:v≤4096) {l:List Int} (hl:l.length≤1048576) (mark:Nat→β→Prop) (yes:β→Bool) {z:β} (hz:∀ i,mark i z) (hno:yes z=false)
    (hs:∀ (i:Nat) (h:i < l.length) (s:List β),s.length=(2 * v + 1).toNat→(∀ b∈s,mark i b)→∃ w:β→β,(∀ b,mark i b→mark (i + 1) b∧mark (i + 1) (w b)∧yes (w b)=true) ∧
      F (s,(i:Int))=if litB v l[i]=true then Option.bind s[(l[i] + v).toNat]? (fun b=>if yes b=true then some (.done (Sum.inl ())) else some (.next (s.set (l[i] + v).toNat (w b),((i + 1:Nat):Int)))) else some (.done (Sum.inl ())))
    (he:∀ s,F (s,(l.length:Int))=some (.done (Sum.inr ()))) :
    loopC F (List.replicate (2 * v + 1).toNat z,0)=some (if (List.range l.length).all (orB v l)=true then Sum.inr () else Sum.inl ()):=by
  have:=loopC_fun (f:=F) (fun x=>∃ i:Nat,x.2=(i:Int)∧i≤l.length∧(∀ j,j < i→orB v l j=true)∧x.1.length=(2 * v + 1).toNat∧(∀ b∈x.1,mark i b)∧∀ y,litB v y=true→(x.1[(y + v).toNat]?.map yes=some (decide (y∈l.take i)))) (fun x=>l.length - x.2.toNat) (fun _=>if (List.range l.length).all (orB v l)=true then Sum.inr () else Sum.inl ()) (fun x hx=>by
    obtain⟨s,w0⟩:=x
    obtain⟨i,e,hi,hp,hlen,hm,hy⟩:=hx
    simp only at e hlen hm hy
    subst e
    rcases Nat.lt_or_ge i l.length with h | h
    · obtain⟨w,hw,e⟩:=hs i h s hlen hm
      rw[e]
      have hstop:orB v l i=false→¬ ((List.range l.length).all (orB v l)=true):=fun q g=>by
        have:=List.all_eq_true.1 g i (List.mem_range.2 h)
        rw[q] at this
        cases this
      cases hx:litB v l[i] with
      | false=>
        left
        rw[if_neg (by decide),if_neg (hstop (by unfold orB; rw[getD_get h,hx]; rfl))]
      | true=>
        have hx':=litB_iff.1 hx
        rw[if_pos rfl]
        have hk:(l[i] + v).toNat < s.length:=by omega
        rw[List.getElem?_eq_getElem hk]
        simp only[Option.bind_some]
        have hyi:=hy _ hx
        rw[List.getElem?_eq_getElem hk] at hyi
        simp only[Option.map_some,Option.some.injEq] at hyi
        have hmk:=hm _ (List.getElem_mem hk)
        by_cases hin:l[i]∈l.take i
        · left
          rw[hyi,if_pos (decide_eq_true hin),if_neg (hstop (by unfold orB; rw[getD_get h,hx,decide_eq_true hin]; rfl))]
        · right
          rw[hyi,if_neg (by simpa using hin)]
          obtain⟨_,w1,w2⟩:=hw _ hmk
          refine⟨_,rfl,⟨i + 1,rfl,h,fun j hj=>?_,by rw[List.length_set]; exact hlen,fun b hb=>?_,fun y hyl=>?_⟩,by simp only[Int.toNat_natCast]; omega,by first | rfl | trivial⟩
          · rcases Nat.lt_or_ge j i with g | g
            · exact hp j g
            · rw[show j=i by omega]
              unfold orB
              rw[getD_get h,hx,decide_eq_false hin]
              rfl
          · rcases List.mem_or_eq_of_mem_set hb with hb | rfl
            · exact (hw b (hm b hb)).1
            · exact w1
          · have hyl':=litB_iff.1 hyl
            have hmem:y∈l.take (i + 1)↔y∈l.take i∨y=l[i]:=by rw[List.take_succ_eq_append_getElem h]; simp only[List.mem_append,List.mem_singleton]
            by_cases ey:y=l[i]
            · rw[decide_eq_true (hmem.2 (.inr ey)),ey,List.getElem?_set_self hk]
              simp only[Option.map_some,w2]
            · rw[List.getElem?_set_ne (by omega),hy y hyl,decide_eq_decide.2 (⟨fun q=>hmem.2 (.inl q),fun q=>(hmem.1 q).resolve_right ey⟩:y∈l.take i↔y∈l.take (i + 1))]
    · left
      have:i=l.length:=by omega
      subst this
      rw[he,if_pos]
      exact List.all_eq_true.2 fun j hj=>hp j (List.mem_range.1 hj)) (x:=(List.replicate (2 * v + 1).toNat z,(0:Int))) ⟨0,rfl,Nat.zero_le _,fun j hj=>absurd hj (Nat.not_lt_zero _),List.length_replicate,fun b hb=>by rw[List.eq_of_mem_replicate hb]; exact hz 0,fun y hy=>by
      have hy':=litB_iff.1 hy
      rw[List.getElem?_replicate,if_pos (by omega)]
      simp[hno]⟩
  exact this
def fitF (f:S_api_Formula):Bool:=decide (0≤f.Vars) && decide (f.Vars≤4096) && decide (f.Clauses.length≤65536) && f.Clauses.all (fun c=>clauseB f.Vars c.Lits) && (List.range f.Order.length).all (orB f.Vars f.Order)
theorem fit_guard (f:S_api_Formula):(((decide (f.Vars < 0)) || (decide (f.Vars > 4096))) || (decide ((List.length f.Clauses:Int) > 65536))) = !(decide (0≤f.Vars) && decide (f.Vars≤4096) && decide (f.Clauses.length≤65536)):=by
  rw[Bool.eq_iff_iff]
  simp
  omega
theorem range_allc {l:List S_api_Clause} {p:S_api_Clause→Bool} {q:Nat→Bool} (h:∀ i (hi:i < l.length),q i=p l[i]):(List.range l.length).all q=l.all p:=by
  rw[Bool.eq_iff_iff,List.all_eq_true,List.all_eq_true]
  constructor
  · intro g x hx
    obtain⟨i,hi,rfl⟩:=List.getElem_of_mem hx
    rw[← h i hi]
    exact g i (List.mem_range.2 hi)
  · intro g i hi
    have hi:=List.mem_range.1 hi
    rw[h i hi]
    exact g _ (List.getElem_mem hi)
structure BigF (f:S_api_Formula):Prop where
  c:∀ c∈f.Clauses,c.Lits.length≤1048576
  o:f.Order.length≤1048576
def clAt (f:S_api_Formula) (i:Nat):Bool:=match f.Clauses[i]? with
  | some c=>clauseB f.Vars c.Lits
  | none=>true
theorem clAt_eq {f:S_api_Formula} (i:Nat) (hi:i < f.Clauses.length):clAt f i=clauseB f.Vars f.Clauses[i].Lits:=by
  unfold clAt
  rw[List.getElem?_eq_getElem hi]
theorem mk_ok24 {β:Type} {b:Nat} (hb:b≤8) {z:β} {v:Int} (h0:0≤v) (h1:v≤4096):mkl b z (w64 ((w64 (2 * v)) + 1)) (w64 ((w64 (2 * v)) + 1))=some (List.replicate (2 * v + 1).toNat z):=by
  rw[w64_id (x:=2 * v) (by omega) (by omega),w64_id (by omega) (by omega)]
  unfold mkl
  have:(b:Int) * (2 * v + 1)≤8 * 8193:=by
    calc (b:Int) * (2 * v + 1)≤8 * (2 * v + 1):=Int.mul_le_mul_of_nonneg_right (by omega) (by omega)
      _≤8 * 8193:=by omega
  rw[if_pos ⟨by omega,Int.le_refl _,by omega,by omega⟩]
theorem cnf_Fit_eq (f:S_api_Formula) (hf:BigF f):cnf_Fit f=some (fitF f):=by
  unfold cnf_Fit fitF
  rw[fit_guard]
  cases hg:(decide (0≤f.Vars) && decide (f.Vars≤4096) && decide (f.Clauses.length≤65536)) with
  | false=>rfl
  | true=>
    simp only[Bool.and_eq_true,decide_eq_true_eq] at hg
    obtain⟨⟨g0,g1⟩,g2⟩:=hg
    rw[if_neg (by decide),walkB (F:=cnf_Fit_l1 f) (n:=f.Clauses.length) (p:=clAt f) (by omega) (fun i h _=>by
      unfold cnf_Fit_l1
      rw[if_pos (by simpa using h),ixl_nat h]
      simp only[Option.bind_some]
      rw[cnf_clean_eq g0 g1 _ (hf.c _ (List.getElem_mem h)),clAt_eq i h]
      simp only[Option.bind_some]
      rw[w64_n i (by omega)]
      cases clauseB f.Vars f.Clauses[i].Lits <;> rfl) (by
      unfold cnf_Fit_l1
      rw[if_neg (by simp)]),range_allc (q:=clAt f) (p:=fun c=>clauseB f.Vars c.Lits) fun i hi=>clAt_eq i hi]
    simp only[Option.bind_some,Bool.true_and]
    cases hc:f.Clauses.all (fun c=>clauseB f.Vars c.Lits) with
    | false=>rfl
    | true=>
      simp only[if_true,Bool.true_and]
      rw[mk_ok24 (by decide) g0 g1]
      simp only[Option.bind_some]
      rw[seen_loop (F:=cnf_Fit_l2 f) g0 g1 hf.o (fun (i:Nat) (b:Int)=>0≤b∧b≤(i:Int)) (fun b=>decide (b > 0)) (z:=0) (fun i=>by omega) rfl (fun i h s hs hm=>⟨fun b=>b + 1,fun b hb=>by
          have hb':0≤b∧b≤(i:Int):=hb
          exact⟨by show 0≤b∧b≤((i + 1:Nat):Int); omega,by show 0≤b + 1∧b + 1≤((i + 1:Nat):Int); omega,decide_eq_true (by show b + 1 > 0; omega)⟩,by
          have ho:=hf.o
          unfold cnf_Fit_l2
          simp only[]
          rw[if_pos (by simpa using h),ixl_nat h]
          simp only[Option.bind_some]
          rw[lit_eq _ g0 (by omega)]
          simp only[Option.bind_some]
          cases hx:litB f.Vars f.Order[i] with
          | false=>rfl
          | true=>
            have hx':=litB_iff.1 hx
            have hk:(f.Order[i] + f.Vars).toNat < s.length:=by omega
            have ew:w64 (f.Order[i] + f.Vars)=(((f.Order[i] + f.Vars).toNat:Nat):Int):=by rw[w64_id (by omega) (by omega)]; omega
            have hb:0≤s[(f.Order[i] + f.Vars).toNat]∧s[(f.Order[i] + f.Vars).toNat]≤(i:Int):=hm _ (List.getElem_mem hk)
            rw[if_neg (by decide),ew,ixl_nat hk,List.getElem?_eq_getElem hk,if_pos rfl]
            simp only[Option.bind_some]
            rw[w64_id (by omega) (by omega),w64_n i (by omega),Int.toNat_natCast]⟩) (fun s=>by
          unfold cnf_Fit_l2
          simp only[]
          rw[if_neg (by simp)])]
      simp only[Option.bind_some]
      cases (List.range f.Order.length).all (orB f.Vars f.Order) <;> rfl
theorem ref24_Fit_eq (f:S_api_Formula) (hf:BigF f):ref24_Fit f=some (fitF f):=by
  unfold ref24_Fit fitF
  rw[fit_guard]
  cases hg:(decide (0≤f.Vars) && decide (f.Vars≤4096) && decide (f.Clauses.length≤65536)) with
  | false=>rfl
  | true=>
    simp only[Bool.and_eq_true,decide_eq_true_eq] at hg
    obtain⟨⟨g0,g1⟩,g2⟩:=hg
    rw[if_neg (by decide),walkB (F:=ref24_Fit_l2 f) (n:=f.Clauses.length) (p:=clAt f) (by omega) (fun i h _=>by
      unfold ref24_Fit_l2
      rw[if_pos (by simpa using h),ixl_nat h]
      simp only[Option.bind_some]
      rw[ref24_clause_eq g0 g1 f _ rfl (hf.c _ (List.getElem_mem h)),clAt_eq i h]
      simp only[Option.bind_some]
      rw[w64_n i (by omega)]
      cases clauseB f.Vars f.Clauses[i].Lits <;> rfl) (by
      unfold ref24_Fit_l2
      rw[if_neg (by simp)]),range_allc (q:=clAt f) (p:=fun c=>clauseB f.Vars c.Lits) fun i hi=>clAt_eq i hi]
    simp only[Option.bind_some,Bool.true_and]
    cases hc:f.Clauses.all (fun c=>clauseB f.Vars c.Lits) with
    | false=>rfl
    | true=>
      simp only[if_true,Bool.true_and]
      rw[mk_ok24 (by decide) g0 g1]
      simp only[Option.bind_some]
      rw[seen_loop (F:=ref24_Fit_l3 f) g0 g1 hf.o (fun (i:Nat) (b:Bool)=>True) (fun b=>b) (z:=false) (fun i=>trivial) rfl (fun i h s hs hm=>⟨fun b=>true,fun b hb=>⟨trivial,trivial,rfl⟩,by
          have ho:=hf.o
          unfold ref24_Fit_l3
          simp only[]
          rw[if_pos (by simpa using h),ixl_nat h]
          simp only[Option.bind_some]
          rw[good_eq24 _ g0 (by omega)]
          simp only[Option.bind_some]
          cases hx:litB f.Vars f.Order[i] with
          | false=>rfl
          | true=>
            have hx':=litB_iff.1 hx
            have hk:(f.Order[i] + f.Vars).toNat < s.length:=by omega
            have ew:w64 (f.Order[i] + f.Vars)=(((f.Order[i] + f.Vars).toNat:Nat):Int):=by rw[w64_id (by omega) (by omega)]; omega
            rw[if_neg (by decide),ew,ixl_nat hk,List.getElem?_eq_getElem hk,if_pos rfl]
            simp only[Option.bind_some]
            rw[w64_n i (by omega),Int.toNat_natCast]⟩) (fun s=>by
          unfold ref24_Fit_l3
          simp only[]
          rw[if_neg (by simp)])]
      simp only[Option.bind_some]
      cases (List.range f.Order.length).all (orB f.Vars f.Order) <;> rfl
end Go.Vm
/- Plain laws of chapter 24: what is true in a model. -/
namespace Go.Vm
open Go
theorem ints_eq24 (l:List Int) (hl:l.length≤1048576):ref24_Ints l l=some true:=by
  unfold ref24_Ints
  rw[if_neg (by simp),walkB (F:=ref24_Ints_l1 l l) (p:=fun _=>true) hl (fun i h _=>by
    unfold ref24_Ints_l1
    rw[if_pos (by simpa using h),ixl_nat h]
    simp only[Option.bind_some]
    rw[if_neg (by simp),w64_n i (by omega)]
    simp) (by
    unfold ref24_Ints_l1
    rw[if_neg (by simp)])]
  rw[if_pos (List.all_eq_true.2 fun _ _=>rfl)]
  rfl
end Go.Vm
/- Plain laws of chapter 24: whether a formula is true; CnfTells. -/
namespace Go.Vm
open Go
theorem clause_lits {v:Int} {l:List Int} (h:clauseB v l=true):∀ x∈l,litB v x=true:=fun x hx=>by
  obtain⟨i,hi,rfl⟩:=List.getElem_of_mem hx
  have:=List.all_eq_true.1 h i (List.mem_range.2 hi)
  unfold clB at this
  rw[Bool.and_eq_true,getD_get hi] at this
  exact this.1
end Go.Vm
/- CnfTells is true. -/
namespace Go.Vm
open Go
theorem len_sum24 {α:Type}:∀ l:List α,(l.map fun _=>1).sum=l.length
  | []=>rfl
  | _ :: l=>by rw[List.map_cons,List.sum_cons,len_sum24 l,List.length_cons]; omega
theorem mem_sum24 {α:Type} (f:α→Nat):∀ (l:List α) (x:α),x∈l→f x≤(l.map f).sum
  | y :: l,x,h=>by
    rw[List.map_cons,List.sum_cons]
    rcases List.mem_cons.1 h with rfl | h
    · omega
    · have:=mem_sum24 f l x h; omega
theorem bigF {f:S_api_Formula} (m0:(1 + (((f.Clauses.map fun y=>(((y.Lits.map fun y=>1).sum + 1) + (1 + (0)) + 1)).sum + 1) + (((f.Order.map fun y=>1).sum + 1) + (0))) + 1)≤1048576):BigF f:=by
  rw[len_sum24 f.Order] at m0
  refine⟨fun c hc=>?_,by omega⟩
  have:=mem_sum24 (fun y:S_api_Clause=>(((y.Lits.map fun y=>1).sum + 1) + (1 + (0)) + 1)) f.Clauses c hc
  simp only[len_sum24] at this m0
  omega
end Go.Vm
/- Plain laws of chapter 29: what units tell, over a map of which literals are true. -/
namespace Go.Vm
open Go
theorem mget_mem {s:List (Int × Int)} {k:Int}:mget s k=0∨(k,mget s k)∈s:=by
  induction s with
  | nil=>exact .inl rfl
  | cons e s ih=>
    simp only[mget]
    split
    · rename_i h
      subst h
      exact .inr (List.mem_cons_self ..)
    · rcases ih with h | h
      · exact .inl h
      · exact .inr (List.mem_cons_of_mem e h)
theorem mem_mput {s:List (Int × Int)} {k v:Int} {e:Int × Int} (h:e∈mput s k v):e=(k,v)∨e∈s:=by
  induction s with
  | nil=>exact .inl (List.mem_singleton.1 h)
  | cons f s ih=>
    simp only[mput] at h
    split at h
    · rcases List.mem_cons.1 h with h | h
      · exact .inl h
      · exact .inr (List.mem_cons_of_mem f h)
    · rcases List.mem_cons.1 h with h | h
      · exact .inr (h ▸ List.mem_cons_self ..)
      · rcases ih h with h | h
        · exact .inl h
        · exact .inr (List.mem_cons_of_mem f h)
def Truths (C:Prop) (M:Int→Bool) (B:Int) (s:List (Int × Int)):Prop:=∀ e∈s,goodB e.1=true∧(C→M e.1=true)∧0 < e.2∧e.2≤B
section
variable {C:Prop} {M:Int→Bool} {B:Int} {s:List (Int × Int)}
theorem Truths.le (h:Truths C M B s) (k:Int) (hB:0≤B):0≤mget s k∧mget s k≤B:=by
  rcases mget_mem (s:=s) (k:=k) with e | e
  · omega
  · have:=h _ e
    simp only at this
    omega
theorem Truths.pos (h:Truths C M B s) {k:Int} (hk:0 < mget s k):goodB k=true∧(C→M k=true):=by
  rcases mget_mem (s:=s) (k:=k) with e | e
  · omega
  · exact⟨(h _ e).1,(h _ e).2.1⟩
theorem Truths.put (h:Truths C M B s) {k v B':Int} (hk:goodB k=true) (hM:C→M k=true) (hv:0 < v) (hB:v≤B') (hB2:B≤B'):Truths C M B' (mput s k v):=fun e he=>by
  rcases mem_mput he with rfl | he
  · exact⟨hk,hM,hv,hB⟩
  · obtain⟨h1,h2,h3,h4⟩:=h e he
    exact⟨h1,h2,h3,Int.le_trans h4 hB2⟩
end
end Go.Vm
/- Plain laws of chapter 1: digits. -/
namespace Go.Vm
open Go
def isB (c k:Int):Bool:=
  if k=1 then decide (48≤c) && decide (c≤57)
  else if k=2 then decide (97≤c) && decide (c≤122)
  else if k=3 then decide (65≤c) && decide (c≤90)
  else if k=4 then decide (97≤c) && decide (c≤122) || decide (65≤c) && decide (c≤90)
  else if k=5 then decide (48≤c) && decide (c≤57) || decide (97≤c) && decide (c≤122) || decide (65≤c) && decide (c≤90)
  else if k=6 then c == 32 || c == 9
  else if k=7 then c == 32 || c == 9 || c == 10 || c == 13
  else false
def isP (k:Int) (c:UInt8):Bool:=isB c.toNat k
end Go.Vm
/- Plain laws of chapter 1: the order of digits. -/
namespace Go.Vm
open Go
def isDig (s:Str):Prop:=∀ c∈s,48≤c.toNat∧c.toNat≤57
def val:Str→Nat
  | []=>0
  | c :: s=>(c.toNat - 48) * 10 ^ s.length + val s
theorem val_lt:∀ {s:Str},isDig s→val s < 10 ^ s.length
  | [],_=>by simp[val]
  | c :: s,h=>by
    have ih:=val_lt (s:=s) fun x hx=>h x (List.mem_cons_of_mem _ hx)
    have hc:=h c List.mem_cons_self
    simp only[val,List.length_cons,Nat.pow_succ]
    have:(c.toNat - 48) * 10 ^ s.length≤9 * 10 ^ s.length:=Nat.mul_le_mul_right _ (by omega)
    omega
def ints (s:Str):List Int:=s.map fun c=>(c.toNat:Int)
theorem ofb_ints (s:Str):ofb (ints s)=s:=by
  simp only[ofb,ints,List.map_map]
  conv=>rhs; rw[← List.map_id s]
  refine List.map_congr_left fun c _=>?_
  simp
end Go.Vm
/- Plain laws of chapter 5: versions are read. -/
namespace Go.Vm
open Go
def partI (c:Int):Bool:=((((isB c 5 || (c == 46)) || (c == 95)) || (c == 43)) || (c == 126)) || (c == 94)
def partP (c:UInt8):Bool:=partI c.toNat
end Go.Vm
/- Plain laws of chapter 5: segments of versions. -/
namespace Go.Vm
open Go
theorem drop_tw {p:UInt8→Bool}:∀ l:Str,l.drop (l.takeWhile p).length=l.dropWhile p
  | []=>rfl
  | c :: l=>by
    cases h:p c with
    | true=>rw[List.takeWhile_cons_of_pos h,List.dropWhile_cons_of_pos h,List.length_cons,List.drop_succ_cons,drop_tw l]
    | false=>rw[List.takeWhile_cons_of_neg (by simp[h]),List.dropWhile_cons_of_neg (by simp[h])]; rfl
theorem take_tw {p:UInt8→Bool}:∀ l:Str,l.take (l.takeWhile p).length=l.takeWhile p
  | []=>rfl
  | c :: l=>by
    cases h:p c with
    | true=>rw[List.takeWhile_cons_of_pos h,List.length_cons,List.take_succ_cons,take_tw l]
    | false=>rw[List.takeWhile_cons_of_neg (by simp[h])]; rfl
end Go.Vm
/- Plain laws: orders. -/
namespace Go.Vm
open Go
structure Ord3 {α:Type} (c:α→α→Int):Prop where
  lo:∀ x y, -1≤c x y
  hi:∀ x y,c x y≤1
  refl:∀ x,c x x=0
  anti:∀ x y,c y x = -c x y
  trans:∀ x y z,c x y≤0→c y z≤0→c x z≤0
theorem Ord3.map {α β:Type} {c:β→β→Int} (h:Ord3 c) (f:α→β):Ord3 (fun x y=>c (f x) (f y)):=
  ⟨fun _ _=>h.lo _ _,fun _ _=>h.hi _ _,fun _=>h.refl _,fun _ _=>h.anti _ _,fun _ _ _=>h.trans _ _ _⟩
end Go.Vm
/- Plain laws of chapter 5: what is read, written and fits. -/
namespace Go.Vm
open Go
def segsP (s:Str):Prop:=s≠[]∧∀ c∈s,partP c=true
instance (s:Str):Decidable (segsP s):=inferInstanceAs (Decidable (_∧_))
end Go.Vm
/- Plain laws of chapter 5: the document's segments. -/
namespace Go.Vm
open Go
theorem drop_runE' (p:UInt8→Bool) (s:Str) (i:Nat):s.drop (runE p s i)=(s.drop i).dropWhile p:=by
  unfold runE
  rw[← List.drop_drop,drop_tw]
end Go.Vm
/- Plain laws of chapter 3: what a reader does. -/
namespace Go.Vm
open Go
def Suf (a:Str) (i:Nat) (r:Str):Prop:=i≤a.length∧a.drop i=r
theorem Suf.pos {a:Str} {i:Nat} {r:Str} (h:Suf a i r):i=a.length - r.length∧r.length≤a.length:=by
  have:=congrArg List.length h.2
  simp only[List.length_drop] at this
  have:=h.1
  omega
theorem Suf.cons {a:Str} {i:Nat} {c:UInt8} {q:Str} (h:Suf a i (c :: q)):i < a.length∧idx a i=some (c.toNat:Int)∧Suf a (i + 1) q:=by
  have hl:i < a.length:=by
    rcases Nat.lt_or_ge i a.length with h' | h'
    · exact h'
    · have:=h.2; rw[List.drop_eq_nil_of_le h'] at this; cases this
  have:=h.2
  rw[List.drop_eq_getElem_cons hl] at this
  have h2:=List.cons.inj this
  refine⟨hl,?_,hl,h2.2⟩
  rw[idx_nat hl,h2.1]
theorem Suf.nil {a:Str} {i:Nat} (h:Suf a i []):i=a.length:=by
  have:=h.pos
  simp only[List.length_nil] at this
  omega
theorem Suf.run {a:Str} {i:Nat} {r:Str} (h:Suf a i r) (p:UInt8→Bool):Suf a (runE p a i) (r.dropWhile p)∧subl a i (runE p a i:Int)=some (r.takeWhile p)∧i≤runE p a i:=by
  have hle:runE p a i≤a.length:=runE_le h.1
  have hge:=runE_ge p a i
  refine⟨⟨hle,by rw[drop_runE',h.2]⟩,?_,hge⟩
  rw[subl_nat hge hle]
  unfold runE
  rw[Nat.add_sub_cancel_left,h.2,take_tw]
theorem Suf.drop {a:Str} {i k:Nat} {r:Str} (h:Suf a i r) (hk:k≤r.length):Suf a (i + k) (r.drop k):=by
  have:=h.pos
  refine⟨?_,by rw[← List.drop_drop,h.2]⟩
  have:=h.1
  omega
section
variable {a:Str} (ha:a.length≤64)
include ha
end
end Go.Vm
/- Plain laws of chapter 29: numbers and their texts. -/
namespace Go.Vm
open Go
def i64B (x:Int):Prop:= -9223372036854775808≤x∧x≤9223372036854775807
theorem bytesI_len (l:List UInt8):(bytesI l).length=l.length:=by simp[bytesI]
theorem bytesI_app (a b:List UInt8):bytesI (a ++ b)=bytesI a ++ bytesI b:=by simp[bytesI]
theorem nDig_le:∀ (k u:Nat),u < 10 ^ (k + 1)→Lib.nDigits u≤k + 1
  | 0,u,h=>by rw[Lib.nDigits_small (by simpa using h)]; omega
  | k + 1,u,h=>by
    by_cases h1:u < 10
    · rw[Lib.nDigits_small h1]; omega
    · rw[Lib.nDigits_big h1]
      have:=nDig_le k (u / 10) (by rw[Nat.pow_succ] at h; omega)
      omega
theorem decD_len {u:Nat} (h:u < 18446744073709551616):(Lib.decDigits u).length≤20:=by
  rw[Lib.decDigits_length]
  exact nDig_le 19 u (Nat.lt_of_lt_of_le h (by decide))
theorem itoa_len {x:Int} (h:i64B x):(Lib.itoa x).length≤21:=by
  unfold Lib.itoa
  split
  · have:=decD_len (u:=x.natAbs) (by unfold i64B at h; omega)
    simp only[List.length_cons]
    omega
  · have:=decD_len (u:=x.toNat) (by unfold i64B at h; omega)
    omega
def litsT (c:List Int):Str:=c.flatMap fun x=>Lib.itoa x ++ [32]
theorem litsT_len {c:List Int} (h:∀ x∈c,i64B x):(litsT c).length≤22 * c.length:=by
  induction c with
  | nil=>exact Nat.le_refl _
  | cons x c ih=>
    have h1:=itoa_len (h x (List.mem_cons_self ..))
    have h2:=ih fun y hy=>h y (List.mem_cons_of_mem x hy)
    simp only[litsT,List.flatMap_cons,List.length_append,List.length_cons,List.length_nil] at h2 ⊢
    omega
section
variable (p:List (List Int)) (hp:∀ c∈p,∀ x∈c,i64B x) (hl:(p.map fun c=>c.length + 1).sum≤1048576)
include hl in
include hp hl
end
end Go.Vm
/- Plain laws of chapter 29: readers. -/
namespace Go.Vm
open Go
theorem u8_dec (c d:UInt8):((c.toNat:Int) == (d.toNat:Int))=decide (c=d):=by
  rw[u8_beq]
  cases h:decide (c=d) with
  | true=>simp only[decide_eq_true_eq] at h; simp[h]
  | false=>simp only[decide_eq_false_iff_not] at h; simpa using h
section
variable (s:Str) (hs:s.length≤65536)
include hs
end
end Go.Vm
/- Plain laws of chapter 29: the laws of texts. -/
namespace Go.Vm
open Go
theorem rows_walk {F:Int→Option (Step Int (Unit ⊕ Unit))} {n:Nat} (hn:n≤1048576) (h1:∀ i:Nat,i < n→F (i:Int)=some (.next ((i + 1:Nat):Int))) (h2:F (n:Int)=some (.done (Sum.inr ()))):loopC F 0=some (Sum.inr ()):=by
  have:=loopC_fun (f:=F) (fun x=>∃ i:Nat,x=(i:Int)∧i≤n) (fun x=>n - x.toNat) (fun _=>Sum.inr ()) (fun x hx=>by
    obtain⟨i,rfl,hi⟩:=hx
    rcases Nat.lt_or_ge i n with h | h
    · exact .inr ⟨_,h1 i h,⟨i + 1,rfl,h⟩,by omega,rfl⟩
    · have:i=n:=by omega
      subst this
      exact .inl h2) (x:=(0:Int)) ⟨0,rfl,Nat.zero_le _⟩
  exact this
theorem val_app1:∀ (s:Str) (c:UInt8),val (s ++ [c])=val s * 10 + (c.toNat - 48)
  | [],c=>by simp[val]
  | d :: s,c=>by
    have ih:=val_app1 s c
    simp only[List.cons_append,val,ih,List.length_append,List.length_singleton,Nat.pow_succ]
    rw[Nat.add_mul,Nat.mul_assoc]
    omega
theorem digOf {k:Nat} (h:k < 10):(UInt8.ofNat (48 + k)).toNat=48 + k:=by
  rw[UInt8.toNat_ofNat']
  omega
theorem decD_dig (u:Nat):isDig (Lib.decDigits u)∧val (Lib.decDigits u)=u:=by
  induction u using Nat.strongRecOn with
  | _ u ih=>
    rw[Lib.decDigits]
    by_cases h:u < 10
    · rw[dif_pos h]
      refine⟨fun c hc=>?_,?_⟩
      · rw[List.mem_singleton.1 hc,digOf h]; omega
      · simp only[val,digOf h,List.length_nil,Nat.pow_zero]; omega
    · rw[dif_neg h]
      obtain⟨h1,h2⟩:=ih (u / 10) (by omega)
      refine⟨fun c hc=>?_,?_⟩
      · rcases List.mem_append.1 hc with hc | hc
        · exact h1 c hc
        · rw[List.mem_singleton.1 hc,digOf (by omega)]; omega
      · rw[val_app1,h2,digOf (by omega)]
        omega
theorem decD_head (u:Nat) (h0:0 < u):∃ c t,Lib.decDigits u=c :: t∧c≠48:=by
  induction u using Nat.strongRecOn with
  | _ u ih=>
    rw[Lib.decDigits]
    by_cases h:u < 10
    · rw[dif_pos h]
      refine⟨_,_,rfl,fun q=>?_⟩
      have:=congrArg UInt8.toNat q
      rw[digOf h] at this
      have e:(48:UInt8).toNat=48:=rfl
      omega
    · rw[dif_neg h]
      obtain⟨c,t,e,hc⟩:=ih (u / 10) (by omega) (by omega)
      rw[e]
      exact⟨c,_,rfl,hc⟩
theorem parse10:∀ (l:Str) (acc:Nat),isDig l→(acc + 1) * 10 ^ l.length≤100000000000000000→Lib.parseUint10 acc l = .ok (acc * 10 ^ l.length + val l)
  | [],acc,_,_=>by simp[Lib.parseUint10,val]
  | c :: l,acc,hd,hb=>by
    have hc:=hd c (List.mem_cons_self ..)
    have hl:isDig l:=fun x hx=>hd x (List.mem_cons_of_mem c hx)
    have hp:1≤10 ^ l.length:=Nat.one_le_pow _ _ (by decide)
    simp only[List.length_cons,Nat.pow_succ] at hb
    have hb2:(acc * 10 + (c.toNat - 48) + 1) * 10 ^ l.length≤100000000000000000:=by
      refine Nat.le_trans (Nat.mul_le_mul_right _ (show acc * 10 + (c.toNat - 48) + 1≤(acc + 1) * 10 by omega)) ?_
      rw[Nat.mul_assoc,Nat.mul_comm 10]
      exact hb
    have hsmall:acc * 10 + (c.toNat - 48) + 1≤100000000000000000:=Nat.le_trans (Nat.le_mul_of_pos_right _ hp) hb2
    simp only[Lib.parseUint10]
    rw[if_pos hc,if_neg (by omega),if_neg (by omega),parse10 l _ hl hb2]
    simp only[val,List.length_cons,Nat.pow_succ]
    congr 1
    rw[Nat.add_mul,Nat.mul_assoc,Nat.mul_comm 10]
    omega
theorem dP1_iff {c:UInt8}:isP 1 c=true↔48≤c.toNat∧c.toNat≤57:=by
  unfold isP isB
  rw[if_pos rfl]
  simp only[Bool.and_eq_true,decide_eq_true_eq]
  omega
theorem tw_dig {d:Str} (hd:isDig d) {c:UInt8} {r:Str} (hc:isP 1 c=false):(d ++ c :: r).takeWhile (isP 1)=d:=by
  rw[List.takeWhile_append_of_pos (fun x hx=>dP1_iff.2 (hd x hx)),List.takeWhile_cons_of_neg (by simp[hc]),List.append_nil]
theorem drop_get {s:Str} {i:Nat} {c:UInt8} {r:Str} (h:s.drop i=c :: r):i < s.length∧s[i]? = some c∧s.drop (i + 1)=r:=by
  have hl:i < s.length:=by
    rcases Nat.lt_or_ge i s.length with h' | h'
    · exact h'
    · rw[List.drop_eq_nil_of_le h'] at h; cases h
  rw[List.drop_eq_getElem_cons hl] at h
  have h2:=List.cons.inj h
  exact⟨hl,by rw[List.getElem?_eq_getElem hl,h2.1],h2.2⟩
theorem drop_app {s:Str} {i:Nat} {a r:Str} (h:s.drop i=a ++ r):s.drop (i + a.length)=r:=by
  rw[← List.drop_drop,h,List.drop_left]
section
variable (s:Str) (hs:s.length≤65536)
include hs
end
theorem litsT_ge (c:List Int):c.length≤(litsT c).length:=by
  induction c with
  | nil=>exact Nat.le_refl _
  | cons x c ih=>
    simp only[litsT,List.flatMap_cons,List.length_append,List.length_cons,List.length_nil] at ih ⊢
    omega
end Go.Vm
/- Plain laws of chapter 24: a formula's text. -/
namespace Go.Vm
open Go
theorem fold_gen {α β:Type} {F:List β × Int→Option (Step (List β × Int) (List β))} {ws:List α} {g:α→List β} {B:Nat}
    (h1:∀ (b:List β) (i:Nat) (h:i < ws.length),b.length + (g ws[i]).length≤B→F (b,(i:Int))=some (.next (b ++ g ws[i],((i + 1:Nat):Int)))) (h2:∀ b,F (b,(ws.length:Int))=some (.done b)) {b0:List β} (h0:b0.length + (ws.flatMap g).length≤B) :
    loopC F (b0,0)=some (b0 ++ ws.flatMap g):=by
  have key:∀ (k i:Nat) (b:List β),i + k=ws.length→b.length + ((ws.drop i).flatMap g).length≤B→loopC F (b,(i:Int))=some (b ++ (ws.drop i).flatMap g):=by
    intro k
    induction k with
    | zero=>
      intro i b e hb
      have:i=ws.length:=by omega
      subst this
      rw[loopC_done (h2 b),List.drop_of_length_le (Nat.le_refl _)]
      simp
    | succ k ih=>
      intro i b e hb
      have hi:i < ws.length:=by omega
      rw[List.drop_eq_getElem_cons hi,List.flatMap_cons,List.length_append] at hb
      rw[loopC_next (h1 b i hi (by omega)),ih (i + 1) _ (by omega) (by rw[List.length_append]; omega),List.drop_eq_getElem_cons hi,List.flatMap_cons,List.append_assoc]
  have:=key ws.length 0 b0 (by omega) (by simpa using h0)
  simpa using this
theorem flat_len {α β:Type} {g:α→List β} {K:Nat}:∀ {p:List α},(∀ c∈p,(g c).length≤K)→(p.flatMap g).length≤K * p.length
  | [],_=>Nat.zero_le _
  | c :: p,h=>by
    rw[List.flatMap_cons,List.length_append,List.length_cons,Nat.mul_succ]
    have h1:=h c List.mem_cons_self
    have h2:=flat_len (p:=p) fun d hd=>h d (List.mem_cons_of_mem _ hd)
    omega
def smallI (x:Int):Prop:= -1048576≤x∧x≤1048576
theorem smallI.i64 {x:Int} (h:smallI x):i64B x:=by unfold smallI at h; unfold i64B; omega
theorem itoa_s {x:Int} (h:smallI x):strconv_Itoa x=some (Lib.itoa x):=by
  unfold smallI at h
  unfold strconv_Itoa
  rw[if_pos (by omega)]
theorem bwr_ok24 {l s:Str} (h:l.length + s.length≤140737488355328):bwr l s=some (l ++ s):=by
  unfold bwr
  rw[if_pos h]
theorem cat_ok24 {l s:Str} (h:l.length + s.length≤9223372036854775807):cat l s=some (l ++ s):=by
  unfold cat
  rw[if_pos h]
theorem digit_one {m:Nat} {u:Nat} (h:u < 10):ref24_digits_f (m + 1) (u:Int)=some (Lib.decDigits u):=by
  show ref24_digits_b (ref24_digits_f m) (u:Int)=_
  unfold ref24_digits_b
  rw[if_neg (by simp),if_pos (by simp; omega),Lib.decDigits,dif_pos h,w64_id (by omega) (by omega)]
  have:IntKind.wrap .u8 (48 + (u:Int))=48 + (u:Int):=by
    simp only[IntKind.wrap,IntKind.signed,IntKind.bits]
    simp
    omega
  rw[this]
  unfold ofb
  simp only[List.map_cons,List.map_nil]
  rw[show (48 + (u:Int)).toNat=48 + u by omega]
theorem digits_many:∀ (d m u:Nat),u < 10 ^ (d + 1)→u≤1048576→d≤m→ref24_digits_f (m + 1) (u:Int)=some (Lib.decDigits u)
  | 0,m,u,h,_,_=>digit_one (by simpa using h)
  | d + 1,m,u,h,hs,hm=>by
    by_cases hu:u < 10
    · exact digit_one hu
    · obtain⟨m,rfl⟩:∃ k,m=k + 1:=⟨m - 1,by omega⟩
      have h10:u / 10 < 10 ^ (d + 1):=by
        rw[Nat.pow_succ] at h
        exact Nat.div_lt_of_lt_mul (by omega)
      have ih:=digits_many d m (u / 10) h10 (by omega) (by omega)
      have i0:=digit_one (m:=m) (u:=u % 10) (Nat.mod_lt _ (by omega))
      show ref24_digits_b (ref24_digits_f (m + 1)) (u:Int)=_
      unfold ref24_digits_b
      have hl:=decD_len (u:=u / 10) (by omega)
      rw[if_neg (by simp),if_neg (by simp; omega),show Int.tdiv (u:Int) 10=((u / 10:Nat):Int) by rw[Int.tdiv_eq_ediv_of_nonneg (by omega)]; rfl,show Int.tmod (u:Int) 10=((u % 10:Nat):Int) by rw[Int.tmod_eq_emod_of_nonneg (by omega)]; rfl]
      rw[w64_id (by omega) (by omega),ih,i0]
      simp only[Option.bind_some]
      have e1:Lib.decDigits (u % 10)=[UInt8.ofNat (48 + u % 10)]:=by rw[Lib.decDigits,dif_pos (Nat.mod_lt _ (by omega))]
      rw[e1,cat_ok24 (by simp only[List.length_singleton]; omega)]
      simp only[Option.bind_some]
      rw[Lib.decDigits.eq_1 u,dif_neg hu]
theorem digits_fuel {n:Nat} (hn:9≤n) {x:Int} (h:smallI x):ref24_digits_f n x=some (Lib.itoa x):=by
  unfold smallI at h
  obtain⟨m,rfl⟩:∃ k,n=k + 2:=⟨n - 2,by omega⟩
  by_cases hx:x < 0
  · obtain⟨u,rfl⟩:∃ u:Nat,x = -(u:Int):=⟨x.natAbs,by omega⟩
    show ref24_digits_b (ref24_digits_f (m + 1)) _=_
    unfold ref24_digits_b
    have hl:=decD_len (u:=u) (by omega)
    rw[if_pos (decide_eq_true hx),w64_id (by omega) (by omega),show (0:Int) - -(u:Int)=(u:Int) by omega,digits_many 7 m u (by omega) (by omega) (by omega)]
    simp only[Option.bind_some]
    rw[cat_ok24 (by simp only[List.length_singleton]; omega)]
    unfold Lib.itoa
    rw[if_pos hx,show (-(u:Int)).natAbs=u by omega]
    rfl
  · obtain⟨u,rfl⟩:∃ u:Nat,x=(u:Int):=⟨x.toNat,by omega⟩
    rw[digits_many 7 (m + 1) u (by omega) (by omega) (by omega)]
    unfold Lib.itoa
    rw[if_neg hx,Int.toNat_natCast]
theorem digits_eq {x:Int} (h:smallI x):ref24_digits x=some (Lib.itoa x):=digits_fuel (by omega) h
def hdrT (f:S_api_Formula):Str:=[112,32,99,110,102,32] ++ Lib.itoa f.Vars ++ [32] ++ Lib.itoa (f.Clauses.length:Int) ++ [10]
def clT (c:S_api_Clause):Str:=litsT c.Lits ++ [48,10]
def ordI (x:Int):Str:=[32] ++ Lib.itoa x
def ordT (l:List Int):Str:=if 0 < l.length then [99,32,111,114,100,101,114] ++ l.flatMap ordI ++ [10] else []
def dimT (f:S_api_Formula):Str:=hdrT f ++ f.Clauses.flatMap clT ++ ordT f.Order
structure SmF (f:S_api_Formula):Prop where
  v:smallI f.Vars
  n:f.Clauses.length≤65536
  c:∀ c∈f.Clauses,∀ y∈c.Lits,smallI y
  o:∀ y∈f.Order,smallI y
theorem smF {f:S_api_Formula} (h:fitF f=true):SmF f:=by
  unfold fitF at h
  simp only[Bool.and_eq_true,decide_eq_true_eq,List.all_eq_true] at h
  obtain⟨⟨⟨⟨h1,h2⟩,h3⟩,h4⟩,h5⟩:=h
  refine⟨⟨by omega,by omega⟩,h3,fun c hc y hy=>?_,fun y hy=>?_⟩
  · have:=litB_iff.1 (clause_lits (h4 c hc) y hy)
    exact⟨by omega,by omega⟩
  · obtain⟨i,hi,rfl⟩:=List.getElem_of_mem hy
    have h6:=h5 i (List.mem_range.2 hi)
    unfold orB at h6
    rw[getD_get hi,Bool.and_eq_true] at h6
    have:=litB_iff.1 h6.1
    exact⟨by omega,by omega⟩
section
variable {f:S_api_Formula} (hs:SmF f) (hf:BigF f)
include hs hf
theorem hdr_len:(hdrT f).length≤100:=by
  have h1:=itoa_len hs.v.i64
  have h2:=itoa_len (x:=(f.Clauses.length:Int)) (by have:=hs.n; unfold i64B; omega)
  unfold hdrT
  simp only[List.length_append,List.length_cons,List.length_nil]
  omega
theorem clT_len:∀ c∈f.Clauses,(clT c).length≤23068674:=fun c hc=>by
  have h1:=litsT_len (c:=c.Lits) fun y hy=>(hs.c c hc y hy).i64
  have h2:=hf.c c hc
  unfold clT
  rw[List.length_append]
  simp only[List.length_cons,List.length_nil]
  omega
theorem all_len:(f.Clauses.flatMap clT).length≤1511828619264:=by
  have h1:=flat_len (clT_len hs hf)
  have:=hs.n
  omega
theorem ordI_len:(f.Order.flatMap ordI).length≤23068672:=by
  have h1:=flat_len (g:=ordI) (p:=f.Order) (K:=22) fun y hy=>by
    have:=itoa_len (hs.o y hy).i64
    unfold ordI
    simp only[List.length_append,List.length_cons,List.length_nil]
    omega
  have:=hf.o
  omega
theorem cl_one {c:S_api_Clause} (hc:c∈f.Clauses) {b:Str} (hb:b.length≤35184372088832):loopC (cnf_Dimacs_l1 c) (b,0)=some (b ++ litsT c.Lits):=by
  have hL:=litsT_len (c:=c.Lits) fun y hy=>(hs.c c hc y hy).i64
  have h2:=hf.c c hc
  refine fold_gen (ws:=c.Lits) (g:=fun x=>Lib.itoa x ++ [32]) (B:=70368744177664) (fun b i h hb=>?_) (fun b=>?_) (by have:(List.flatMap (fun x=>Lib.itoa x ++ [32]) c.Lits).length=(litsT c.Lits).length:=rfl; omega)
  · unfold cnf_Dimacs_l1
    simp only
    rw[if_pos (by simpa using h),ixl_nat h]
    simp only[Option.bind_some]
    rw[itoa_s (hs.c c hc _ (List.getElem_mem h))]
    have:=itoa_len (hs.c c hc _ (List.getElem_mem h)).i64
    simp only[Option.bind_some]
    rw[cat_ok24 (by simp only[List.length_singleton]; omega)]
    simp only[Option.bind_some]
    rw[bwr_ok24 (by simp only[List.length_append,List.length_singleton] at hb ⊢; omega),w64_n i (by omega)]
    rfl
  · unfold cnf_Dimacs_l1
    simp only
    rw[if_neg (by simp)]
theorem cl_one' {k:Nat} (hk:k < f.Clauses.length) {b:List Int} (hb:b.length≤35184372088832):loopC (ref24_Dimacs_l1 f (k:Int)) (b,0)=some (b ++ bytesI (litsT f.Clauses[k].Lits)):=by
  have hc:=List.getElem_mem hk
  have hL:=litsT_len (c:=f.Clauses[k].Lits) fun y hy=>(hs.c _ hc y hy).i64
  have h2:=hf.c _ hc
  have e:bytesI (litsT f.Clauses[k].Lits)=f.Clauses[k].Lits.flatMap fun x=>bytesI (Lib.itoa x ++ [32]):=by
    unfold litsT bytesI
    rw[List.map_flatMap]
  rw[e]
  refine fold_gen (ws:=f.Clauses[k].Lits) (g:=fun x=>bytesI (Lib.itoa x ++ [32])) (B:=70368744177664) (fun b i h hb=>?_) (fun b=>?_) (by rw[← e,bytesI_len]; omega)
  · unfold ref24_Dimacs_l1
    simp only
    rw[ixl_nat hk]
    simp only[Option.bind_some]
    rw[if_pos (by simpa using h),ixl_nat h]
    simp only[Option.bind_some]
    rw[digits_eq (hs.c _ hc _ (List.getElem_mem h))]
    have:=itoa_len (hs.c _ hc _ (List.getElem_mem h)).i64
    simp only[Option.bind_some]
    rw[cat_ok24 (by simp only[List.length_singleton]; omega)]
    simp only[Option.bind_some]
    rw[app_ok (by rw[Nat.mul_one]; omega) (by omega),w64_n i (by omega)]
    rfl
  · unfold ref24_Dimacs_l1
    simp only
    rw[ixl_nat hk]
    simp only[Option.bind_some]
    rw[if_neg (by simp)]
theorem cls_all {b:Str} (hb:b.length≤100):loopC (cnf_Dimacs_l2 f) (b,0)=some (b ++ f.Clauses.flatMap clT):=by
  have hA:=all_len hs hf
  refine fold_gen (ws:=f.Clauses) (g:=clT) (B:=8796093022208) (fun b i h hb=>?_) (fun b=>?_) (by omega)
  · have hc:=List.getElem_mem h
    unfold cnf_Dimacs_l2
    simp only
    rw[if_pos (by simpa using h),ixl_nat h]
    simp only[Option.bind_some]
    rw[cl_one hs hf hc (by omega)]
    simp only[Option.bind_some]
    rw[bwr_ok24 (by unfold clT at hb; simp only[List.length_append,List.length_cons,List.length_nil] at hb ⊢; omega),w64_n i (by have:=hs.n; omega)]
    simp only[Option.bind_some,clT,List.append_assoc]
  · unfold cnf_Dimacs_l2
    simp only
    rw[if_neg (by simp)]
theorem cls_all' {b:List Int} (hb:b.length≤100):loopC (ref24_Dimacs_l2 f) (b,0)=some (b ++ bytesI (f.Clauses.flatMap clT)):=by
  have hA:=all_len hs hf
  have e:bytesI (f.Clauses.flatMap clT)=f.Clauses.flatMap fun c=>bytesI (clT c):=by
    unfold bytesI
    rw[List.map_flatMap]
  rw[e]
  refine fold_gen (ws:=f.Clauses) (g:=fun c=>bytesI (clT c)) (B:=8796093022208) (fun b i h hb=>?_) (fun b=>?_) (by rw[← e,bytesI_len]; omega)
  · have hc:=List.getElem_mem h
    unfold ref24_Dimacs_l2
    simp only
    rw[if_pos (by simpa using h),cl_one' hs hf h (by omega)]
    simp only[Option.bind_some]
    rw[bytesI_len] at hb
    rw[app_ok (by unfold clT at hb; simp only[List.length_append,List.length_cons,List.length_nil,bytesI_len] at hb ⊢; omega) (by unfold clT at hb; simp only[List.length_append,List.length_cons,List.length_nil,bytesI_len] at hb ⊢; omega),w64_n i (by have:=hs.n; omega)]
    simp only[Option.bind_some,clT,List.append_assoc,bytesI_app]
    rfl
  · unfold ref24_Dimacs_l2
    simp only
    rw[if_neg (by simp)]
theorem ord_all {b:Str} (hb:b.length≤8796093022208):loopC (cnf_Dimacs_l3 f) (b,0)=some (b ++ f.Order.flatMap ordI):=by
  have hO:=ordI_len hs hf
  refine fold_gen (ws:=f.Order) (g:=ordI) (B:=17592186044416) (fun b i h hb=>?_) (fun b=>?_) (by omega)
  · unfold cnf_Dimacs_l3
    simp only
    rw[if_pos (by simpa using h),ixl_nat h]
    simp only[Option.bind_some]
    have hx:=hs.o _ (List.getElem_mem h)
    have:=itoa_len hx.i64
    rw[itoa_s hx]
    simp only[Option.bind_some]
    rw[cat_ok24 (by simp only[List.length_singleton]; omega)]
    simp only[Option.bind_some]
    rw[bwr_ok24 (by unfold ordI at hb; omega),w64_n i (by have:=hf.o; omega)]
    rfl
  · unfold cnf_Dimacs_l3
    simp only
    rw[if_neg (by simp)]
theorem ord_all' {b:List Int} (hb:b.length≤8796093022208):loopC (ref24_Dimacs_l3 f) (b,0)=some (b ++ bytesI (f.Order.flatMap ordI)):=by
  have hO:=ordI_len hs hf
  have e:bytesI (f.Order.flatMap ordI)=f.Order.flatMap fun c=>bytesI (ordI c):=by
    unfold bytesI
    rw[List.map_flatMap]
  rw[e]
  refine fold_gen (ws:=f.Order) (g:=fun c=>bytesI (ordI c)) (B:=17592186044416) (fun b i h hb=>?_) (fun b=>?_) (by rw[← e,bytesI_len]; omega)
  · unfold ref24_Dimacs_l3
    simp only
    rw[if_pos (by simpa using h),ixl_nat h]
    simp only[Option.bind_some]
    have hx:=hs.o _ (List.getElem_mem h)
    have:=itoa_len hx.i64
    rw[digits_eq hx]
    simp only[Option.bind_some]
    rw[cat_ok24 (by simp only[List.length_singleton]; omega)]
    simp only[Option.bind_some]
    rw[app_ok (by rw[Nat.mul_one]; unfold ordI at hb; omega) (by unfold ordI at hb; omega),w64_n i (by have:=hf.o; omega)]
    rfl
  · unfold ref24_Dimacs_l3
    simp only
    rw[if_neg (by simp)]
end
theorem ofb_bytes (s:Str):ofb (bytesI s)=s:=ofb_ints s
theorem cnf_Dimacs_eq {f:S_api_Formula} (hf:BigF f):cnf_Dimacs f=some (if fitF f=true then dimT f else []):=by
  unfold cnf_Dimacs
  rw[cnf_Fit_eq f hf]
  simp only[Option.bind_some]
  cases h:fitF f with
  | false=>rfl
  | true=>
    have hs:=smF h
    have l1:=itoa_len hs.v.i64
    have hn:smallI (f.Clauses.length:Int):=by have:=hs.n; exact⟨by omega,by omega⟩
    have l2:=itoa_len hn.i64
    have hH:=hdr_len hs hf
    have hA:=all_len hs hf
    have hO:=ordI_len hs hf
    rw[if_neg (by decide),if_pos rfl,itoa_s hs.v,itoa_s hn]
    simp only[Option.bind_some]
    rw[cat_ok24 (by simp only[List.length_cons,List.length_nil]; omega)]
    simp only[Option.bind_some]
    rw[cat_ok24 (by simp only[List.length_append,List.length_cons,List.length_nil]; omega)]
    simp only[Option.bind_some]
    rw[cat_ok24 (by simp only[List.length_append,List.length_cons,List.length_nil]; omega)]
    simp only[Option.bind_some]
    rw[cat_ok24 (by simp only[List.length_append,List.length_cons,List.length_nil]; omega)]
    simp only[Option.bind_some]
    rw[show[112,32,99,110,102,32] ++ Lib.itoa f.Vars ++ [32] ++ Lib.itoa (f.Clauses.length:Int) ++ [10]=hdrT f from rfl,bwr_ok24 (by simp only[List.length_nil]; omega)]
    simp only[Option.bind_some,List.nil_append]
    rw[cls_all hs hf hH]
    simp only[Option.bind_some]
    by_cases ho:0 < f.Order.length
    · rw[if_pos (by simpa using ho),bwr_ok24 (by simp only[List.length_append,List.length_cons,List.length_nil]; omega)]
      simp only[Option.bind_some]
      rw[ord_all hs hf (by simp only[List.length_append,List.length_cons,List.length_nil]; omega)]
      simp only[Option.bind_some]
      rw[bwr_ok24 (by simp only[List.length_append,List.length_cons,List.length_nil]; omega)]
      unfold dimT ordT btx
      rw[if_pos ho]
      simp only[Option.bind_some,List.append_assoc]
    · rw[if_neg (by simpa using ho)]
      unfold dimT ordT btx
      rw[if_neg ho,List.append_nil]
      rfl
theorem ref24_Dimacs_eq {f:S_api_Formula} (hf:BigF f):ref24_Dimacs f=some (if fitF f=true then dimT f else []):=by
  unfold ref24_Dimacs
  rw[ref24_Fit_eq f hf]
  simp only[Option.bind_some]
  cases h:fitF f with
  | false=>rfl
  | true=>
    have hs:=smF h
    have l1:=itoa_len hs.v.i64
    have hn:smallI (f.Clauses.length:Int):=by have:=hs.n; exact⟨by omega,by omega⟩
    have l2:=itoa_len hn.i64
    have hH:=hdr_len hs hf
    have hA:=all_len hs hf
    have hO:=ordI_len hs hf
    rw[if_neg (by decide),if_pos rfl,digits_eq hs.v,digits_eq hn]
    simp only[Option.bind_some]
    rw[cat_ok24 (by simp only[List.length_cons,List.length_nil]; omega)]
    simp only[Option.bind_some]
    rw[cat_ok24 (by simp only[List.length_append,List.length_cons,List.length_nil]; omega)]
    simp only[Option.bind_some]
    rw[cat_ok24 (by simp only[List.length_append,List.length_cons,List.length_nil]; omega)]
    simp only[Option.bind_some]
    rw[cat_ok24 (by simp only[List.length_append,List.length_cons,List.length_nil]; omega)]
    simp only[Option.bind_some]
    rw[show[112,32,99,110,102,32] ++ Lib.itoa f.Vars ++ [32] ++ Lib.itoa (f.Clauses.length:Int) ++ [10]=hdrT f from rfl,app_ok (by rw[bytesI_len]; simp only[List.length_nil]; omega) (by rw[bytesI_len]; simp only[List.length_nil]; omega)]
    simp only[Option.bind_some,List.nil_append]
    rw[cls_all' hs hf (by rw[bytesI_len]; exact hH)]
    simp only[Option.bind_some]
    by_cases ho:0 < f.Order.length
    · rw[if_pos (by simpa using ho),app_ok (by simp only[List.length_append,List.length_cons,List.length_nil,bytesI_len]; omega) (by simp only[List.length_append,List.length_cons,List.length_nil,bytesI_len]; omega)]
      simp only[Option.bind_some]
      rw[ord_all' hs hf (by simp only[List.length_append,List.length_cons,List.length_nil,bytesI_len]; omega)]
      simp only[Option.bind_some]
      rw[app_ok (by simp only[List.length_append,List.length_cons,List.length_nil,bytesI_len]; omega) (by simp only[List.length_append,List.length_cons,List.length_nil,bytesI_len]; omega)]
      unfold dimT ordT
      rw[if_pos ho]
      simp only[Option.bind_some]
      refine congrArg some ?_
      have:bytesI (hdrT f) ++ bytesI (f.Clauses.flatMap clT) ++ [99,32,111,114,100,101,114] ++ bytesI (f.Order.flatMap ordI) ++ [10]=bytesI (hdrT f ++ f.Clauses.flatMap clT ++ ([99,32,111,114,100,101,114] ++ f.Order.flatMap ordI ++ [10])):=by
        simp only[bytesI_app,List.append_assoc]
        rfl
      rw[this,ofb_bytes]
    · rw[if_neg (by simpa using ho)]
      unfold dimT ordT
      rw[if_neg ho,List.append_nil]
      simp only[Option.bind_some]
      rw[← bytesI_app,ofb_bytes]
end Go.Vm
/- Plain laws of chapter 24: the two readers' words and numbers. -/
namespace Go.Vm
open Go
def errT (s:Str) (i:Nat):Int × Nat:=if s.length≤i then (11,i) else (10,i)
def mustT (s:Str):Str→Nat→(Int × Nat) ⊕ Nat
  | [],i=>.inr i
  | c :: t,i=>if s[i]? = some c then mustT s t (i + 1) else .inl (errT s i)
section
variable {s:Str}
theorem errT_ne (s:Str) (i:Nat):(errT s i).1≠0∧(errT s i).2=i:=by
  unfold errT
  split
  · exact⟨by show (11:Int)≠0; decide,rfl⟩
  · exact⟨by show (10:Int)≠0; decide,rfl⟩
theorem errT_lt {i:Nat} (h:i < s.length):errT s i=(10,i):=by
  unfold errT
  rw[if_neg (by omega)]
theorem mustT_le:∀ (t:Str) (i:Nat),i≤s.length→(∀ k,mustT s t i = .inr k→k=i + t.length∧k≤s.length)∧∀ e k,mustT s t i = .inl (e,k)→e≠0∧k≤s.length
  | [],i,h=>⟨fun k e=>by cases e; exact⟨rfl,h⟩,fun e k h=>by cases h⟩
  | c :: t,i,h=>by
    unfold mustT
    by_cases hc:s[i]? = some c
    · rw[if_pos hc]
      have hi:=(List.getElem?_eq_some_iff.1 hc).1
      obtain⟨h1,h2⟩:=mustT_le t (i + 1) hi
      exact⟨fun k e=>by obtain⟨q1,q2⟩:=h1 k e; exact⟨by rw[q1,List.length_cons]; omega,q2⟩,h2⟩
    · rw[if_neg hc]
      refine⟨fun k e=>(by cases e),fun e k he=>?_⟩
      have h1:=errT_ne s i
      cases he':errT s i with
      | mk a b=>
        rw[he'] at he h1
        cases he
        exact⟨h1.1,by have:=h1.2; simp only at this; omega⟩
theorem stuck_ok {i:Nat} (hi:i≤s.length):cnf_reader_stuck s i 0 0=some ((errT s i).1,((errT s i).2:Int)):=by
  unfold cnf_reader_stuck cnf_reader_ok_s6db9 errT
  simp only[Option.bind_some]
  rw[if_neg (by decide)]
  by_cases h:s.length≤i
  · have:i=s.length:=by omega
    subst this
    rw[if_pos (by simp),if_pos h]
  · rw[if_neg (by simp; omega),if_neg h]
theorem stuck_no {e:Int} (he:e≠0) (i f:Int):cnf_reader_stuck s i e f=some (e,f):=by
  unfold cnf_reader_stuck cnf_reader_ok_s6db9
  simp only[Option.bind_some]
  rw[if_pos (by simpa using he)]
def stC:(Int × Nat) ⊕ Nat→Int × Int × Int
  | .inl (e,k)=>((k:Int),e,(k:Int))
  | .inr k=>((k:Int),0,0)
def stR:(Int × Nat) ⊕ Nat→Int × Int
  | .inl (e,k)=>((k:Int),e)
  | .inr k=>((k:Int),0)
theorem char_ne {i:Nat} (hi:i < s.length) (c:UInt8):((s[i].toNat:Int) != (c.toNat:Int)) = !decide (s[i]? = some c):=by
  rw[List.getElem?_eq_getElem hi]
  have:=u8_dec s[i] c
  simp only[bne,this,Option.some.injEq]
theorem must_loop (hs:s.length≤65536) (t:Str) (ht:t.length≤65536):∀ (d j i:Nat),j + d=t.length→i≤s.length→loopC (cnf_reader_must_l1 s 0 0 t) ((i:Int),(j:Int))=some (match mustT s (t.drop j) i with
    | .inl (e,k)=>.inl ((k:Int),e,(k:Int))
    | .inr k=>.inr (k:Int))
  | 0,j,i,e,hi=>by
    have:j=t.length:=by omega
    subst this
    rw[List.drop_length]
    refine loopC_done ?_
    unfold cnf_reader_must_l1
    simp only
    rw[if_neg (by simp)]
    simp only[Option.bind_some]
    rw[if_neg (by decide)]
    rfl
  | d + 1,j,i,e,hi=>by
    have hj:j < t.length:=by omega
    rw[List.drop_eq_getElem_cons hj]
    unfold mustT
    have hf:∀ q:Bool,(if (decide ((i:Int)≥(s.length:Int)))=true then some true else Option.bind (idx s i) (fun x54=>Option.bind (idx t j) (fun x55=>some (x54 != x55))):Option Bool)=some (!decide (s[i]? = some t[j])):=fun _=>by
      by_cases hlt:i < s.length
      · rw[if_neg (by simp; omega),idx_nat hlt,idx_nat hj]
        simp only[Option.bind_some]
        rw[char_ne hlt]
      · rw[if_pos (by simp; omega),List.getElem?_eq_none (by omega)]
        rfl
    have hgo:cnf_reader_must_l1 s 0 0 t ((i:Int),(j:Int))=if s[i]? = some t[j] then some (.next (((i + 1:Nat):Int),((j + 1:Nat):Int))) else some (.done (.inl ((i:Int),(errT s i).1,((errT s i).2:Int)))):=by
      unfold cnf_reader_must_l1 cnf_reader_ok_s6db9
      simp only
      rw[if_pos (by simpa using hj)]
      simp only[Option.bind_some]
      rw[if_pos (by decide),hf true]
      simp only[Option.bind_some]
      by_cases hc:s[i]? = some t[j]
      · rw[if_pos hc,if_neg (by simp[hc]),w64_n i (by omega),w64_n j (by omega)]
      · rw[if_neg hc,if_pos (by simp[hc]),stuck_ok hi]
        rfl
    by_cases hc:s[i]? = some t[j]
    · rw[if_pos hc] at hgo
      rw[if_pos hc,loopC_next hgo]
      exact must_loop hs t ht d (j + 1) (i + 1) (by omega) (List.getElem?_eq_some_iff.1 hc).1
    · rw[if_neg hc] at hgo
      rw[if_neg hc,loopC_done hgo]
      have:=(errT_ne s i).2
      cases he:errT s i with
      | mk a b=>
        rw[he] at this
        simp only at this
        rw[this]
theorem must_ok (hs:s.length≤65536) {t:Str} (ht:t.length≤65536) {i:Nat} (hi:i≤s.length):cnf_reader_must s i 0 0 t=some (stC (mustT s t i)):=by
  unfold cnf_reader_must
  have h:=must_loop hs t ht t.length 0 i (by omega) hi
  rw[show ((0:Nat):Int)=0 from rfl,List.drop_zero] at h
  rw[h]
  cases mustT s t i with
  | inl p=>rfl
  | inr k=>rfl
theorem must_no {e:Int} (he:e≠0) (i f:Int) (t:Str):cnf_reader_must s i e f t=some (i,e,f):=by
  unfold cnf_reader_must
  rw[loopC_done (t:=.inr i) (by
    unfold cnf_reader_must_l1 cnf_reader_ok_s6db9
    simp only
    have:(e == 0)=false:=by simpa using he
    split
    · simp only[Option.bind_some,this,Bool.false_eq_true,if_false]
    · simp only[Option.bind_some,Bool.false_eq_true,if_false])]
  rfl
theorem is_ok24 {i:Nat} (c:UInt8):ref24_Reader_is_s1fbc s i 0 (c.toNat:Int)=some (decide (s[i]? = some c)):=by
  unfold ref24_Reader_is_s1fbc
  by_cases h:i < s.length
  · rw[if_pos (by simpa using h),idx_nat h]
    simp only[Option.bind_some]
    have:=char_ne h c
    rw[bne,Bool.not_inj_iff] at this
    rw[this]
  · rw[if_neg (by simp; omega),List.getElem?_eq_none (by omega)]
    rfl
theorem is_no24 {e:Int} (he:e≠0) (i c:Int):ref24_Reader_is_s1fbc s i e c=some false:=by
  unfold ref24_Reader_is_s1fbc
  rw[if_neg (by simp[he])]
  rfl
theorem none_ok24 {i:Nat}:ref24_Reader_none s i 0=some (errT s i).1:=by
  unfold ref24_Reader_none errT
  rw[if_neg (by decide)]
  by_cases h:s.length≤i
  · rw[if_pos (by simpa using h),if_pos h]
  · rw[if_neg (by simpa using h),if_neg h]
theorem none_no24 {e:Int} (he:e≠0) (i:Int):ref24_Reader_none s i e=some e:=by
  unfold ref24_Reader_none
  rw[if_pos (by simpa using he)]
theorem all_no_l {e:Int} (he:e≠0) (i j:Int) (t:Str):loopC (ref24_Reader_all_l1 s t) (i,e,j)=some (i,e):=by
  refine loopC_done ?_
  unfold ref24_Reader_all_l1
  simp only
  have:(e == 0)=false:=by simpa using he
  rw[if_neg (by rw[this,Bool.and_false]; decide)]
theorem all_loop (hs:s.length≤65536) (t:Str) (ht:t.length≤65536):∀ (d j i:Nat),j + d=t.length→i≤s.length→loopC (ref24_Reader_all_l1 s t) ((i:Int),0,(j:Int))=some (stR (mustT s (t.drop j) i))
  | 0,j,i,e,hi=>by
    have:j=t.length:=by omega
    subst this
    rw[List.drop_length]
    refine loopC_done ?_
    unfold ref24_Reader_all_l1
    simp only
    rw[if_neg (by simp)]
    rfl
  | d + 1,j,i,e,hi=>by
    have hj:j < t.length:=by omega
    rw[List.drop_eq_getElem_cons hj]
    unfold mustT
    have hgo:ref24_Reader_all_l1 s t ((i:Int),0,(j:Int))=if s[i]? = some t[j] then some (.next (((i + 1:Nat):Int),0,((j + 1:Nat):Int))) else some (.next ((i:Int),(errT s i).1,((j + 1:Nat):Int))):=by
      unfold ref24_Reader_all_l1
      simp only
      rw[if_pos (by simpa using hj),idx_nat hj]
      simp only[Option.bind_some]
      rw[is_ok24]
      simp only[Option.bind_some]
      by_cases hc:s[i]? = some t[j]
      · rw[if_pos hc,if_pos (decide_eq_true hc),w64_n i (by omega),w64_n j (by omega)]
        rfl
      · rw[if_neg hc,if_neg (by simpa using hc),none_ok24,w64_n j (by omega)]
        rfl
    by_cases hc:s[i]? = some t[j]
    · rw[if_pos hc] at hgo
      rw[if_pos hc,loopC_next hgo]
      exact all_loop hs t ht d (j + 1) (i + 1) (by omega) (List.getElem?_eq_some_iff.1 hc).1
    · rw[if_neg hc] at hgo
      have h1:=errT_ne s i
      rw[if_neg hc,loopC_next hgo,all_no_l h1.1]
      cases he:errT s i with
      | mk a b=>
        rw[he] at h1
        simp only at h1
        unfold stR
        rw[h1.2]
theorem all_ok24 (hs:s.length≤65536) {t:Str} (ht:t.length≤65536) {i:Nat} (hi:i≤s.length):ref24_Reader_all s i 0 t=some (stR (mustT s t i)):=by
  unfold ref24_Reader_all
  have h:=all_loop hs t ht t.length 0 i (by omega) hi
  rw[show ((0:Nat):Int)=0 from rfl,List.drop_zero] at h
  rw[h]
  rfl
theorem all_no24 {e:Int} (he:e≠0) (i:Int) (t:Str):ref24_Reader_all s i e t=some (i,e):=by
  unfold ref24_Reader_all
  rw[all_no_l he]
  rfl
def dN (s:Str) (i:Nat):Nat:=((s.drop i).takeWhile (isP 1)).length
theorem dN_lt {i k:Nat} (h:k < dN s i):∃ h:i + k < s.length,isP 1 s[i + k]=true:=by
  unfold dN at h
  have hp:=List.takeWhile_prefix (isP 1) (l:=s.drop i)
  have hl:=hp.length_le
  rw[List.length_drop] at hl
  have hlt:i + k < s.length:=by omega
  refine⟨hlt,?_⟩
  have hm:=List.all_eq_true.1 (List.all_takeWhile (p:=isP 1) (l:=s.drop i)) _ (List.getElem_mem h)
  have he:((s.drop i).takeWhile (isP 1))[k]=s[i + k]:=by
    rw[hp.getElem h,List.getElem_drop]
  rw[he] at hm
  exact hm
theorem dN_end {i:Nat} (h:i + dN s i < s.length):isP 1 s[i + dN s i]=false:=by
  unfold dN at h ⊢
  have h1:s.drop i=(s.drop i).takeWhile (isP 1) ++ (s.drop i).dropWhile (isP 1):=List.takeWhile_append_dropWhile.symm
  have hlen:=congrArg List.length h1
  rw[List.length_append,List.length_drop] at hlen
  generalize ht:(s.drop i).takeWhile (isP 1)=t at h h1 hlen ⊢
  cases hd:(s.drop i).dropWhile (isP 1) with
  | nil=>rw[hd] at hlen; simp only[List.length_nil] at hlen; omega
  | cons c r=>
    have hc:isP 1 c=false:=by
      have:=List.head?_dropWhile_not (isP 1) (s.drop i)
      rw[hd] at this
      simpa using this
    rw[hd] at h1
    have h2:s[i + t.length]? = some c:=by
      rw[← List.getElem?_drop,h1,List.getElem?_append_right (Nat.le_refl _),Nat.sub_self]
      rfl
    rw[List.getElem?_eq_getElem h] at h2
    rw[Option.some.inj h2]
    exact hc
theorem dN_le (i:Nat) (h:i≤s.length):i + dN s i≤s.length:=by
  have hl:=(List.takeWhile_prefix (isP 1) (l:=s.drop i)).length_le
  rw[List.length_drop] at hl
  unfold dN
  omega
def numS (s:Str) (i k:Nat):Str:=(s.drop i).take k
def numT (s:Str) (i:Nat):(Int × Nat) ⊕ (Int × Nat):=
  if dN s i=0 then .inl (errT s i)
  else if s[i]? = some 48∧2≤dN s i then .inl (10,i + 1)
  else if 10≤dN s i then .inl (10,i + 9)
  else .inr ((val (numS s i (dN s i)):Int),i + dN s i)
theorem numS_dig {i k:Nat} (h:k≤dN s i):isDig (numS s i k)∧(numS s i k).length=k:=by
  constructor
  · intro c hc
    obtain⟨j,hj,rfl⟩:=List.getElem_of_mem hc
    unfold numS at hj ⊢
    rw[List.length_take,List.length_drop] at hj
    rw[List.getElem_take,List.getElem_drop]
    obtain⟨q1,q2⟩:=dN_lt (s:=s) (i:=i) (k:=j) (by omega)
    exact dP1_iff.1 q2
  · unfold numS
    rw[List.length_take,List.length_drop]
    rcases Nat.eq_zero_or_pos k with h0 | h0
    · omega
    · obtain⟨q1,_⟩:=dN_lt (s:=s) (i:=i) (k:=k - 1) (by omega)
      omega
theorem val_snoc (l:Str) (c:UInt8):val (l ++ [c])=val l * 10 + (c.toNat - 48):=by
  induction l with
  | nil=>simp[val]
  | cons d l ih=>
    simp only[List.cons_append,val,ih,List.length_append,List.length_singleton,Nat.pow_succ]
    rw[Nat.add_mul,Nat.mul_assoc]
    omega
theorem parseM9 {l:Str} (hd:isDig l) (h0:l≠[]) (hl:l.length≤9):Lib.parseMag l = .ok (val l):=by
  unfold Lib.parseMag
  rw[if_neg h0,parse10 l 0 hd (by
    calc (0 + 1) * 10 ^ l.length≤1 * 10 ^ 9:=Nat.mul_le_mul_left _ (Nat.pow_le_pow_right (by decide) hl)
      _≤_:=by decide)]
  simp
theorem val9 {l:Str} (hd:isDig l) (hl:l.length≤9):val l < 1000000000:=by
  have h:=val_lt hd
  have:10 ^ l.length≤10 ^ 9:=Nat.pow_le_pow_right (by decide) hl
  omega
theorem atoi_pos {l:Str} (hd:isDig l) (h0:l≠[]) (hl:l.length≤9):atoiV l=(val l:Int):=by
  have hm:=parseM9 hd h0 hl
  have hv:=val9 hd hl
  cases l with
  | nil=>exact absurd rfl h0
  | cons c t=>
    have hc:=hd c List.mem_cons_self
    unfold atoiV
    simp only[Lib.atoiAll]
    rw[if_neg (by omega),hm]
    simp only
    rw[if_neg (by omega),if_neg (by omega),if_neg (by omega)]
theorem atoi_neg {l:Str} (hd:isDig l) (h0:l≠[]) (hl:l.length≤9):atoiV (45 :: l) = -(val l:Int):=by
  have hm:=parseM9 hd h0 hl
  have hv:=val9 hd hl
  unfold atoiV
  simp only[Lib.atoiAll]
  rw[if_pos (by decide),hm]
  simp only[show (45:UInt8).toNat=45 from rfl,not_true,false_and,if_false,true_and,if_true]
  rw[if_neg (by omega)]
end
end Go.Vm
/- Plain laws of chapter 24: the two readers' numbers. -/
namespace Go.Vm
open Go
def begT (s:Str) (sg:Bool) (i:Nat):Nat:=if sg=true∧s[i]? = some 45 then i + 1 else i
def numC (s:Str) (sg:Bool) (i:Nat):Int × Int × Int × Int:=
  if 0 < dN s (begT s sg i)∧s[begT s sg i]?≠some 48 then (atoiV ((s.drop i).take (begT s sg i + min (dN s (begT s sg i)) 9 - i)),((begT s sg i + min (dN s (begT s sg i)) 9:Nat):Int),0,0)
  else if s[begT s sg i]? = some 48∧begT s sg i=i then (0,((i + 1:Nat):Int),0,0)
  else (0,(begT s sg i:Int),(errT s (begT s sg i)).1,((errT s (begT s sg i)).2:Int))
section
variable {s:Str} (hs:s.length≤65536)
theorem isc_ok {i:Nat} (e f:Int) (c:UInt8):cnf_reader_is_sb17f s i e f (c.toNat:Int)=some (decide (s[i]? = some c)):=by
  unfold cnf_reader_is_sb17f
  by_cases h:i < s.length
  · rw[if_pos (by simpa using h),idx_nat h]
    simp only[Option.bind_some]
    have:=char_ne h c
    rw[bne,Bool.not_inj_iff] at this
    rw[this]
  · rw[if_neg (by simp; omega),List.getElem?_eq_none (by omega)]
    rfl
theorem digC (c:UInt8):cnf_digit (c.toNat:Int)=some (isP 1 c):=by
  unfold cnf_digit
  have:((decide ((c.toNat:Int)≥48)) && (decide ((c.toNat:Int)≤57)))=isP 1 c:=by
    rw[Bool.eq_iff_iff,dP1_iff]
    simp only[Bool.and_eq_true,decide_eq_true_eq]
    omega
  rw[this]
theorem dig_at {b k:Nat} (hk:k≤dN s b) (hb:b≤s.length):(if (decide (((b + k:Nat):Int) < (s.length:Int)))=true then Option.bind (idx s ((b + k:Nat):Int)) (fun x76=>Option.bind (cnf_digit x76) (fun x77=>some x77)) else some false:Option Bool)=some (decide (k < dN s b)):=by
  by_cases h:b + k < s.length
  · rw[if_pos (by rw[decide_eq_true_eq]; omega),idx_nat h]
    simp only[Option.bind_some,digC]
    by_cases h2:k < dN s b
    · obtain⟨_,h3⟩:=dN_lt h2
      rw[h3,decide_eq_true h2]
    · have:k=dN s b:=by omega
      subst this
      rw[dN_end h,decide_eq_false h2]
  · rw[if_neg (by rw[decide_eq_true_eq]; omega)]
    have h2:¬ k < dN s b:=fun h2=>by obtain⟨h3,_⟩:=dN_lt h2; exact h h3
    rw[decide_eq_false h2]
include hs in
theorem numC_loop {b:Nat} (hb:b≤s.length):∀ r k:Nat,k + r=min (dN s b) 9→loopC (cnf_reader_number_l1 s (b:Int)) ((b + k:Nat):Int)=some ((b + min (dN s b) 9:Nat):Int)
  | 0,k,e=>by
    have hk:k=min (dN s b) 9:=by omega
    rw[← hk]
    refine loopC_done ?_
    unfold cnf_reader_number_l1
    rw[dig_at (by omega) hb]
    simp only[Option.bind_some]
    rw[w64_id (x:=((b + k:Nat):Int) - (b:Int)) (by omega) (by omega),if_neg (by
      simp only[Bool.and_eq_true,decide_eq_true_eq]
      omega)]
  | r + 1,k,e=>by
    have hd:=dN_le b hb
    rw[loopC_next (y:=((b + (k + 1):Nat):Int)) (by
      unfold cnf_reader_number_l1
      rw[dig_at (by omega) hb]
      simp only[Option.bind_some]
      rw[w64_id (x:=((b + k:Nat):Int) - (b:Int)) (by omega) (by omega),if_pos (by
        simp only[Bool.and_eq_true,decide_eq_true_eq]
        omega),w64_n (b + k) (by omega)]
      rfl)]
    exact numC_loop hb r (k + 1) (by omega)
include hs in
theorem numC_eq (sg:Bool) {i:Nat} (hi:i≤s.length):cnf_reader_number s i 0 0 sg=some (numC s sg i):=by
  unfold cnf_reader_number cnf_reader_ok_s6db9
  simp only[Option.bind_some]
  rw[if_neg (by decide)]
  have hsg:(Option.bind (if sg=true then Option.bind (cnf_reader_is_sb17f s i 0 0 45) (fun x36=>some x36) else some false:Option Bool) (fun x35=>(if x35=true then some (w64 ((i:Int) + 1)) else some (i:Int))):Option Int)=some (begT s sg i:Int):=by
    unfold begT
    cases sg with
    | false=>simp
    | true=>
      rw[if_pos rfl,show (45:Int)=((45:UInt8).toNat:Int) from rfl,isc_ok]
      simp only[Option.bind_some]
      by_cases h:s[i]? = some 45
      · rw[if_pos (decide_eq_true h),if_pos (by simp[h]),w64_n i (by omega)]
      · rw[if_neg (by simpa using h),if_neg (by simp[h])]
  rw[hsg]
  simp only[Option.bind_some]
  have hb:begT s sg i≤s.length:=by
    unfold begT
    split
    · rename_i h; have:=(List.getElem?_eq_some_iff.1 h.2).1; omega
    · exact hi
  have hbi:i≤begT s sg i:=by unfold begT; split <;> omega
  unfold numC
  generalize begT s sg i=b at hb hbi
  have hfirst:(if (decide ((b:Int) < (s.length:Int)))=true then Option.bind (idx s b) (fun x60=>Option.bind (if (decide (x60≥49))=true then Option.bind (idx s b) (fun x63=>some (decide (x63≤57))) else some false:Option Bool) (fun x62=>some (true && x62))) else some false:Option Bool)=some (decide (0 < dN s b∧s[b]?≠some 48)):=by
    by_cases h:b < s.length
    · rw[if_pos (by simpa using h),idx_nat h]
      simp only[Option.bind_some]
      have hP:isP 1 s[b]=decide (0 < dN s b):=by
        have hz:=dig_at (s:=s) (b:=b) (k:=0) (Nat.zero_le _) hb
        rw[Nat.add_zero,if_pos (by simpa using h),idx_nat h] at hz
        simp only[Option.bind_some,digC] at hz
        exact Option.some.inj hz
      have h48:(s[b]?≠some 48)↔s[b].toNat≠48:=by
        rw[List.getElem?_eq_getElem h,ne_eq,Option.some.injEq]
        constructor
        · intro q e; exact q (UInt8.toNat_inj.1 e)
        · intro q e; exact q (by rw[e]; rfl)
      by_cases h1:(s[b].toNat:Int)≥49
      · rw[if_pos (decide_eq_true h1)]
        simp only[Option.bind_some,Bool.true_and]
        refine congrArg some ?_
        rw[Bool.eq_iff_iff,decide_eq_true_eq,decide_eq_true_eq,h48]
        have hP2:isP 1 s[b]=true↔0 < dN s b:=by rw[hP,decide_eq_true_eq]
        rw[dP1_iff] at hP2
        omega
      · rw[if_neg (by simpa using h1)]
        simp only[Option.bind_some,Bool.true_and]
        refine congrArg some ?_
        rw[Bool.eq_iff_iff,decide_eq_true_eq,h48]
        have hP2:isP 1 s[b]=true↔0 < dN s b:=by rw[hP,decide_eq_true_eq]
        rw[dP1_iff] at hP2
        constructor
        · intro q; cases q
        · intro q; exfalso; omega
    · rw[if_neg (by simpa using h)]
      refine congrArg some ?_
      symm
      rw[decide_eq_false_iff_not]
      rintro⟨q,_⟩
      obtain⟨h3,_⟩:=dN_lt q
      omega
  rw[hfirst]
  simp only[Option.bind_some]
  by_cases h1:0 < dN s b∧s[b]?≠some 48
  · rw[if_pos (decide_eq_true h1),if_pos h1]
    have hl:=numC_loop hs hb (min (dN s b) 9) 0 (by omega)
    rw[Nat.add_zero] at hl
    rw[hl]
    simp only[Option.bind_some]
    have hd:=dN_le b hb
    rw[subl_nat (by omega) (by omega)]
    simp only[Option.bind_some]
    unfold strconv_Atoi
    rw[if_pos (by rw[List.length_take,List.length_drop]; omega)]
    rfl
  · rw[if_neg (by simpa using h1),if_neg h1,show (48:Int)=((48:UInt8).toNat:Int) from rfl,isc_ok]
    simp only[Option.bind_some]
    by_cases h2:s[b]? = some 48∧b=i
    · obtain⟨h3,rfl⟩:=h2
      rw[if_pos (by simp[h3]),if_pos ⟨h3,rfl⟩,w64_n b (by omega)]
      simp only[Option.bind_some]
      have hlt:=(List.getElem?_eq_some_iff.1 h3).1
      rw[subl_nat (by omega) (by omega)]
      simp only[Option.bind_some]
      have e:(s.drop b).take (b + 1 - b)=[48]:=by
        have:s.drop b=s[b] :: s.drop (b + 1):=List.drop_eq_getElem_cons hlt
        rw[show b + 1 - b=1 by omega,this]
        rw[List.getElem?_eq_getElem hlt] at h3
        rw[Option.some.inj h3]
        rfl
      unfold strconv_Atoi
      rw[e,if_pos (by decide)]
      have h0:atoiV [48]=0:=atoi_pos (l:=[48]) (fun c hc=>by rw[List.mem_singleton.1 hc]; decide) (by simp) (by decide)
      simp only[Option.bind_some]
      rw[h0]
    · rw[if_neg (by
        rw[Bool.and_eq_true,decide_eq_true_eq]
        rintro⟨q1,q2⟩
        exact h2 ⟨q1,by have:=eq_of_beq q2; omega⟩),if_neg h2,stuck_ok hb]
      rfl
theorem num_no {e:Int} (he:e≠0) (i f:Int) (sg:Bool):cnf_reader_number s i e f sg=some (0,i,e,f):=by
  unfold cnf_reader_number cnf_reader_ok_s6db9
  simp only[Option.bind_some]
  rw[if_pos (by simpa using he)]
def litP (s:Str) (i:Nat):(Int × Nat) ⊕ (Int × Nat):=
  if s[begT s true i]? = some 48 then .inl (10,begT s true i) else match numT s (begT s true i) with
  | .inl e=>.inl e
  | .inr (v,k)=>.inr (if begT s true i=i then v else -v,k)
def Lag (s:Str) (st:Int × Int × Int) (er:Int) (p:Nat):Prop:=er≠0∧p≤s.length∧(st=((p:Int),er,(p:Int))∨(st=((p:Int),0,0)∧er=10∧∃ h:p < s.length,isP 1 s[p]=true))
include hs in
theorem must_lag {k e f:Int} {er:Int} {p:Nat} (h:Lag s (k,e,f) er p) {c:UInt8} {t:Str} (hc:isP 1 c=false) (ht:(c :: t).length≤65536):cnf_reader_must s k e f (c :: t)=some ((p:Int),er,(p:Int)):=by
  obtain⟨h0,hp,h | ⟨h,he,hlt,hd⟩⟩:=h
  · cases h
    exact must_no h0 _ _ _
  · cases h
    rw[must_ok hs ht hp]
    unfold mustT
    rw[List.getElem?_eq_getElem hlt,if_neg (fun q=>by rw[Option.some.inj q,hc] at hd; cases hd),errT_lt hlt,he]
    rfl
theorem dN_first {b:Nat} (h:0 < dN s b):∃ h:b < s.length,isP 1 s[b]=true:=by
  obtain⟨h1,h2⟩:=dN_lt h
  exact⟨by omega,by simpa using h2⟩
theorem dN_zero48 {b:Nat} (h:s[b]? = some 48):0 < dN s b:=by
  have hlt:=(List.getElem?_eq_some_iff.1 h).1
  rcases Nat.eq_zero_or_pos (dN s b) with h0 | h0
  · exfalso
    have:=dN_end (s:=s) (i:=b) (by omega)
    rw[List.getElem?_eq_getElem hlt] at h
    simp only[h0,Nat.add_zero] at this
    rw[Option.some.inj h] at this
    exact absurd this (by decide)
  · exact h0
theorem numT_le {i:Nat} (hi:i≤s.length):(∀ e p,numT s i = .inl (e,p)→e≠0∧p≤s.length)∧∀ v k,numT s i = .inr (v,k)→i < k∧k≤s.length∧0≤v∧v < 1000000000:=by
  have hd:=dN_le i hi
  unfold numT
  by_cases h0:dN s i=0
  · rw[if_pos h0]
    refine⟨fun e p h=>?_,fun v k h=>by cases h⟩
    have:=errT_ne s i
    rw[Sum.inl.inj h] at this
    exact⟨this.1,by have:=this.2; simp only at this; omega⟩
  · rw[if_neg h0]
    by_cases h1:s[i]? = some 48∧2≤dN s i
    · rw[if_pos h1]
      exact⟨fun e p h=>by cases h; exact⟨by decide,by omega⟩,fun v k h=>by cases h⟩
    · rw[if_neg h1]
      by_cases h2:10≤dN s i
      · rw[if_pos h2]
        exact⟨fun e p h=>by cases h; exact⟨by decide,by omega⟩,fun v k h=>by cases h⟩
      · rw[if_neg h2]
        refine⟨fun e p h=>(by cases h),fun v k h=>?_⟩
        cases h
        obtain⟨q1,q2⟩:=numS_dig (s:=s) (i:=i) (k:=dN s i) (Nat.le_refl _)
        have:=val9 q1 (by omega)
        exact⟨by omega,hd,by omega,by omega⟩
theorem numC_u {i:Nat} (hi:i≤s.length):match numT s i with
    | .inl (er,p)=>Lag s (numC s false i).2 er p
    | .inr (v,k)=>numC s false i=(v,(k:Int),0,0):=by
  have hb:begT s false i=i:=by unfold begT; rw[if_neg (by simp)]
  have hd:=dN_le i hi
  unfold numC
  rw[hb]
  unfold numT
  by_cases h0:dN s i=0
  · have hA:¬ (0 < dN s i∧s[i]?≠some 48):=fun q=>by omega
    have hB:¬ (s[i]? = some 48∧i=i):=fun q=>by have:=dN_zero48 q.1; omega
    rw[if_pos h0,if_neg hA,if_neg hB]
    have h1:=errT_ne s i
    cases he:errT s i with
    | mk a b=>
      rw[he] at h1
      simp only at h1 ⊢
      obtain⟨h1,rfl⟩:=h1
      exact⟨h1,hi,.inl rfl⟩
  · rw[if_neg h0]
    by_cases h48:s[i]? = some 48
    · have hA:¬ (0 < dN s i∧s[i]?≠some 48):=fun q=>q.2 h48
      have hB:s[i]? = some 48∧i=i:=⟨h48,rfl⟩
      rw[if_neg hA,if_pos hB]
      by_cases h2:2≤dN s i
      · have hC:s[i]? = some 48∧2≤dN s i:=⟨h48,h2⟩
        rw[if_pos hC]
        simp only
        obtain⟨q1,q2⟩:=dN_lt (s:=s) (i:=i) (k:=1) (by omega)
        exact⟨by decide,by omega,.inr ⟨rfl,rfl,q1,q2⟩⟩
      · have hC:¬ (s[i]? = some 48∧2≤dN s i):=fun q=>h2 q.2
        have hD:¬ 10≤dN s i:=by omega
        rw[if_neg hC,if_neg hD]
        simp only
        have h3:dN s i=1:=by omega
        have hlt:=(List.getElem?_eq_some_iff.1 h48).1
        have e:numS s i 1=[48]:=by
          unfold numS
          rw[List.drop_eq_getElem_cons hlt]
          rw[List.getElem?_eq_getElem hlt] at h48
          rw[Option.some.inj h48]
          rfl
        rw[h3,e]
        rfl
    · have hA:0 < dN s i∧s[i]?≠some 48:=⟨by omega,h48⟩
      have hC:¬ (s[i]? = some 48∧2≤dN s i):=fun q=>h48 q.1
      rw[if_pos hA,if_neg hC]
      by_cases h2:10≤dN s i
      · rw[if_pos h2]
        simp only
        obtain⟨q1,q2⟩:=dN_lt (s:=s) (i:=i) (k:=9) (by omega)
        rw[show min (dN s i) 9=9 by omega]
        exact⟨by decide,by omega,.inr ⟨rfl,rfl,q1,q2⟩⟩
      · rw[if_neg h2]
        simp only
        obtain⟨q1,q2⟩:=numS_dig (s:=s) (i:=i) (k:=dN s i) (Nat.le_refl _)
        rw[show min (dN s i) 9=dN s i by omega,show i + dN s i - i=dN s i by omega]
        rw[show (s.drop i).take (dN s i)=numS s i (dN s i) from rfl,atoi_pos q1 (fun q=>by rw[q] at q2; simp only[List.length_nil] at q2; omega) (by omega)]
theorem val_pos {c:UInt8} {t:Str} (hd:isDig (c :: t)) (hc:c≠48):0 < val (c :: t):=by
  have h:=hd c List.mem_cons_self
  have:c.toNat≠48:=fun e=>hc (UInt8.toNat_inj.1 e)
  simp only[val]
  have hp:0 < 10 ^ t.length:=Nat.pow_pos (by decide)
  have:1 * 10 ^ t.length≤(c.toNat - 48) * 10 ^ t.length:=Nat.mul_le_mul_right _ (by omega)
  omega
theorem numS_pos {b k:Nat} (hk:0 < k) (hk2:k≤dN s b) (h48:s[b]?≠some 48):0 < val (numS s b k):=by
  obtain⟨q1,q2⟩:=numS_dig (s:=s) (i:=b) hk2
  obtain⟨hlt,_⟩:=dN_first (s:=s) (b:=b) (by omega)
  have e:numS s b k=s[b] :: (s.drop (b + 1)).take (k - 1):=by
    unfold numS
    rw[List.drop_eq_getElem_cons hlt]
    obtain⟨m,rfl⟩:∃ m,k=m + 1:=⟨k - 1,by omega⟩
    rfl
  rw[e] at q1 ⊢
  exact val_pos q1 fun h=>h48 (by rw[List.getElem?_eq_getElem hlt,h])
theorem sign_take {i k:Nat} (h45:s[i]? = some 45) (hk:0 < k):(s.drop i).take (i + 1 + k - i)=45 :: numS s (i + 1) k:=by
  have hlt:=(List.getElem?_eq_some_iff.1 h45).1
  rw[List.getElem?_eq_getElem hlt] at h45
  unfold numS
  rw[List.drop_eq_getElem_cons hlt,show i + 1 + k - i=k + 1 by omega,List.take_succ_cons,Option.some.inj h45]
theorem numC_l {i:Nat} (hi:i≤s.length) (h48i:s[i]?≠some 48):match litP s i with
    | .inl (er,p)=>Lag s (numC s true i).2 er p∧((numC s true i).1=0→(numC s true i).2=((p:Int),er,(p:Int)))
    | .inr (v,k)=>numC s true i=(v,(k:Int),0,0)∧v≠0:=by
  have hb:begT s true i≤s.length:=by
    unfold begT
    split
    · rename_i h; have:=(List.getElem?_eq_some_iff.1 h.2).1; omega
    · exact hi
  have hbe:begT s true i=i∨(begT s true i=i + 1∧s[i]? = some 45):=by
    unfold begT
    split
    · rename_i h; exact .inr ⟨rfl,h.2⟩
    · exact .inl rfl
  unfold numC litP
  generalize begT s true i=b at hb hbe
  have hd:=dN_le b hb
  by_cases h48:s[b]? = some 48
  · have hbi:¬ b=i:=fun e=>h48i (by rw[← e]; exact h48)
    have hA:¬ (0 < dN s b∧s[b]?≠some 48):=fun q=>q.2 h48
    have hB:¬ (s[b]? = some 48∧b=i):=fun q=>hbi q.2
    rw[if_pos h48,if_neg hA,if_neg hB]
    have hlt:=(List.getElem?_eq_some_iff.1 h48).1
    rw[errT_lt hlt]
    exact⟨⟨by decide,by omega,.inl rfl⟩,fun _=>rfl⟩
  · rw[if_neg h48]
    unfold numT
    by_cases h0:dN s b=0
    · have hA:¬ (0 < dN s b∧s[b]?≠some 48):=fun q=>by omega
      have hB:¬ (s[b]? = some 48∧b=i):=fun q=>h48 q.1
      rw[if_pos h0,if_neg hA,if_neg hB]
      have h1:=errT_ne s b
      cases he:errT s b with
      | mk x y=>
        rw[he] at h1
        simp only at h1 ⊢
        obtain⟨h1,rfl⟩:=h1
        exact⟨⟨h1,hb,.inl rfl⟩,fun _=>rfl⟩
    · have hA:0 < dN s b∧s[b]?≠some 48:=⟨by omega,h48⟩
      have hC:¬ (s[b]? = some 48∧2≤dN s b):=fun q=>h48 q.1
      rw[if_neg h0,if_pos hA,if_neg hC]
      have hval:∀ k,0 < k→k≤dN s b→k≤9→atoiV ((s.drop i).take (b + k - i))=(if b=i then (val (numS s b k):Int) else -(val (numS s b k):Int))∧0 < val (numS s b k):=fun k k0 k1 k2=>by
        obtain⟨q1,q2⟩:=numS_dig (s:=s) (i:=b) k1
        have hne:numS s b k≠[]:=fun q=>by rw[q] at q2; simp only[List.length_nil] at q2; omega
        refine⟨?_,numS_pos k0 k1 h48⟩
        rcases hbe with rfl | ⟨rfl,h45⟩
        · rw[if_pos rfl,show b + k - b=k by omega]
          exact atoi_pos (l:=numS s b k) q1 hne (by omega)
        · rw[if_neg (by omega),sign_take h45 k0]
          exact atoi_neg q1 hne (by omega)
      by_cases h2:10≤dN s b
      · rw[if_pos h2]
        simp only
        obtain⟨q1,q2⟩:=dN_lt (s:=s) (i:=b) (k:=9) (by omega)
        obtain⟨v1,v2⟩:=hval 9 (by omega) (by omega) (by omega)
        rw[show min (dN s b) 9=9 by omega]
        refine⟨⟨by decide,by omega,.inr ⟨rfl,rfl,q1,q2⟩⟩,fun h=>?_⟩
        rw[v1] at h
        split at h <;> omega
      · rw[if_neg h2]
        simp only
        obtain⟨v1,v2⟩:=hval (dN s b) (by omega) (by omega) (by omega)
        rw[show min (dN s b) 9=dN s b by omega,v1]
        refine⟨rfl,?_⟩
        split <;> omega
theorem litP_le {i:Nat} (hi:i≤s.length):(∀ e p,litP s i = .inl (e,p)→e≠0∧p≤s.length)∧∀ v k,litP s i = .inr (v,k)→i < k∧k≤s.length ∧ -1000000000 < v∧v < 1000000000:=by
  have hb:begT s true i≤s.length∧i≤begT s true i:=by
    unfold begT
    split
    · rename_i h; have:=(List.getElem?_eq_some_iff.1 h.2).1; omega
    · exact⟨hi,Nat.le_refl _⟩
  unfold litP
  generalize begT s true i=b at hb
  by_cases h48:s[b]? = some 48
  · rw[if_pos h48]
    exact⟨fun e p h=>by cases h; exact⟨by decide,hb.1⟩,fun v k h=>by cases h⟩
  · rw[if_neg h48]
    obtain⟨q1,q2⟩:=numT_le hb.1
    cases hn:numT s b with
    | inl e=>
      obtain⟨e,p⟩:=e
      exact⟨fun e' p' h=>by cases h; exact q1 e p hn,fun v k h=>by cases h⟩
    | inr r=>
      obtain⟨v,k⟩:=r
      obtain⟨r1,r2,r3,r4⟩:=q2 v k hn
      refine⟨fun e' p' h=>(by cases h),fun v' k' h=>?_⟩
      cases h
      refine⟨by omega,r2,?_,?_⟩
      · split <;> omega
      · split <;> omega
theorem dig24 (c:UInt8):((decide ((c.toNat:Int)≥48)) && (decide ((c.toNat:Int)≤57)))=isP 1 c:=by
  rw[Bool.eq_iff_iff,dP1_iff]
  simp only[Bool.and_eq_true,decide_eq_true_eq]
  omega
theorem numS_succ {i k:Nat} (h:i + k < s.length):numS s i (k + 1)=numS s i k ++ [s[i + k]]:=by
  unfold numS
  rw[List.take_succ_eq_append_getElem (by rw[List.length_drop]; omega),List.getElem_drop]
include hs in
theorem numR_loop {i:Nat} (hi:i≤s.length):∀ r k:Nat,k + r=dN s i→k≤9→(s[i]? = some 48→k≤1) →
    loopC (ref24_Reader_number_l1 s (i:Int) 0) (((i + k:Nat):Int),(val (numS s i k):Int))=some (if s[i]? = some 48∧2≤dN s i then Sum.inl (((i + 1:Nat):Int),10) else if 10≤dN s i then Sum.inl (((i + 9:Nat):Int),10) else Sum.inr (((i + dN s i:Nat):Int),(val (numS s i (dN s i)):Int)))
  | 0,k,e,h9,h1=>by
    have hk:k=dN s i:=by omega
    subst hk
    rw[if_neg fun q=>by have:=h1 q.1; omega,if_neg (by omega)]
    refine loopC_done ?_
    unfold ref24_Reader_number_l1
    simp only
    have hd:=dN_le i hi
    by_cases hlt:i + dN s i < s.length
    · have hend:=dN_end hlt
      rw[if_pos (by simp only[beq_self_eq_true,Bool.true_and,decide_eq_true_eq]; omega),idx_nat hlt]
      simp only[Option.bind_some]
      have h5:=dig24 s[i + dN s i]
      rw[hend,Bool.and_eq_false_iff] at h5
      by_cases h6:((s[i + dN s i].toNat:Int)≥48)
      · rw[if_pos (decide_eq_true h6)]
        rcases h5 with h5 | h5
        · rw[decide_eq_true h6] at h5; cases h5
        · rw[h5]
          simp only[Option.bind_some,Bool.false_eq_true,if_false]
      · rw[decide_eq_false h6]
        simp only[Bool.false_eq_true,if_false,Option.bind_some]
    · rw[if_neg (by simp only[beq_self_eq_true,Bool.true_and,decide_eq_true_eq]; omega)]
      simp only[Option.bind_some,Bool.false_eq_true,if_false]
  | r + 1,k,e,h9,h1=>by
    have hd:=dN_le i hi
    obtain⟨hlt,hdig⟩:=dN_lt (s:=s) (i:=i) (k:=k) (by omega)
    have hD:=dig24 s[i + k]
    rw[hdig,Bool.and_eq_true,decide_eq_true_eq,decide_eq_true_eq] at hD
    obtain⟨q1,q2⟩:=numS_dig (s:=s) (i:=i) (k:=k) (by omega)
    have hv:=val9 q1 (by omega)
    have hstep:ref24_Reader_number_l1 s (i:Int) 0 (((i + k:Nat):Int),(val (numS s i k):Int))=if k=9∨(k=1∧s[i]? = some 48) then some (.done (Sum.inl (((i + k:Nat):Int),10))) else some (.next (((i + (k + 1):Nat):Int),(val (numS s i (k + 1)):Int))):=by
      unfold ref24_Reader_number_l1
      simp only
      rw[if_pos (by simp only[beq_self_eq_true,Bool.true_and,decide_eq_true_eq]; omega),idx_nat hlt]
      simp only[Option.bind_some]
      rw[if_pos (decide_eq_true hD.1)]
      simp only[Option.bind_some]
      rw[if_pos (decide_eq_true hD.2),w64_id (x:=((i + k:Nat):Int) - (i:Int)) (by omega) (by omega)]
      have hstop:(if ((((i + k:Nat):Int) - (i:Int)) == 9)=true then some true else Option.bind (if (((i + k:Nat):Int) == (w64 ((i:Int) + 1)))=true then Option.bind (idx s i) (fun x69=>some (x69 == 48)) else some false:Option Bool) (fun x68=>some (false || x68)):Option Bool)=some (decide (k=9∨(k=1∧s[i]? = some 48))):=by
        by_cases h6:k=9
        · rw[if_pos (by rw[beq_iff_eq]; omega),decide_eq_true (.inl h6)]
        · rw[if_neg (by rw[beq_iff_eq]; omega),w64_n i (by omega)]
          by_cases h7:k=1
          · have hi2:i < s.length:=by omega
            rw[if_pos (by rw[beq_iff_eq]; omega),idx_nat hi2]
            simp only[Option.bind_some,Bool.false_or]
            have:=char_ne hi2 48
            rw[bne,Bool.not_inj_iff] at this
            rw[show (48:Int)=((48:UInt8).toNat:Int) from rfl,this]
            refine congrArg some ?_
            rw[Bool.eq_iff_iff,decide_eq_true_eq,decide_eq_true_eq]
            exact⟨fun q=>.inr ⟨h7,q⟩,fun q=>q.elim (fun z=>absurd z h6) fun z=>z.2⟩
          · rw[if_neg (by rw[beq_iff_eq]; omega)]
            simp only[Option.bind_some,Bool.false_or]
            rw[decide_eq_false (by rintro (q | q); exact h6 q; exact h7 q.1)]
      rw[hstop]
      simp only[Option.bind_some]
      by_cases h8:k=9∨(k=1∧s[i]? = some 48)
      · rw[if_pos (decide_eq_true h8),if_pos h8,none_ok24,errT_lt hlt]
        rfl
      · rw[if_neg (by simpa using h8),if_neg h8,numS_succ hlt,val_snoc,w64_n (i + k) (by omega)]
        have hw:IntKind.wrap .u8 ((s[i + k].toNat:Int) - 48)=(s[i + k].toNat:Int) - 48:=by
          simp only[IntKind.wrap,IntKind.signed,IntKind.bits]
          simp
          omega
        rw[hw,w64_id (x:=(s[i + k].toNat:Int) - 48) (by omega) (by omega),w64_id (x:=10 * (val (numS s i k):Int)) (by omega) (by omega),w64_id (by omega) (by omega)]
        have e2:10 * (val (numS s i k):Int) + ((s[i + k].toNat:Int) - 48)=((val (numS s i k) * 10 + (s[i + k].toNat - 48):Nat):Int):=by omega
        rw[e2]
        rfl
    by_cases h8:k=9∨(k=1∧s[i]? = some 48)
    · rw[if_pos h8] at hstep
      rw[loopC_done hstep]
      rcases h8 with h8 | ⟨h8,h10⟩
      · rw[if_neg fun q=>by have:=h1 q.1; omega,if_pos (by omega),h8]
      · rw[if_pos ⟨h10,by omega⟩,h8]
    · rw[if_neg h8] at hstep
      rw[loopC_next hstep]
      refine numR_loop hi r (k + 1) (by omega) (by omega) fun q=>?_
      have:=h1 q
      rcases Nat.eq_zero_or_pos k with h0 | h0
      · omega
      · exact absurd (.inr ⟨by omega,q⟩) h8
def rsR:(Int × Nat) ⊕ (Int × Nat)→Int × Int × Int
  | .inl (e,k)=>(0,(k:Int),e)
  | .inr (v,k)=>(v,(k:Int),0)
include hs in
theorem numR_eq {i:Nat} (hi:i≤s.length):ref24_Reader_number s i 0=some (rsR (numT s i)):=by
  unfold ref24_Reader_number
  have h:=numR_loop hs hi (dN s i) 0 (by omega) (by omega) (fun _=>by omega)
  rw[Nat.add_zero,show numS s i 0=[] by simp[numS],show ((val []:Nat):Int)=0 from rfl] at h
  rw[h]
  unfold numT
  simp only[Option.bind_some]
  by_cases h0:dN s i=0
  · rw[if_pos h0,if_neg (by omega),if_neg (by omega)]
    simp only
    rw[h0,Nat.add_zero,if_pos (by simp),none_ok24,show numS s i 0=[] by simp[numS]]
    have h1:=errT_ne s i
    cases he:errT s i with
    | mk a b=>
      rw[he] at h1
      simp only at h1 ⊢
      rw[h1.2]
      rfl
  · rw[if_neg h0]
    by_cases h1:s[i]? = some 48∧2≤dN s i
    · rw[if_pos h1,if_pos h1]; rfl
    · rw[if_neg h1,if_neg h1]
      by_cases h2:10≤dN s i
      · rw[if_pos h2,if_pos h2]; rfl
      · rw[if_neg h2,if_neg h2]
        simp only
        rw[if_neg (by rw[beq_iff_eq]; omega)]
        rfl
theorem numR_no {e:Int} (he:e≠0) (i:Int):ref24_Reader_number s i e=some (0,i,e):=by
  unfold ref24_Reader_number
  rw[loopC_done (t:=Sum.inr (i,0)) (by
    unfold ref24_Reader_number_l1
    simp only
    have:(e == 0)=false:=by simpa using he
    rw[this,Bool.false_and]
    simp only[Bool.false_eq_true,if_false,Option.bind_some])]
  simp only[Option.bind_some]
  rw[if_pos (by simp),none_no24 he]
  rfl
include hs in
theorem litR_eq {i:Nat} (hi:i≤s.length):ref24_Reader_literal s i 0=some (rsR (litP s i)):=by
  have hb:begT s true i≤s.length∧(begT s true i=i∨begT s true i=i + 1):=by
    unfold begT
    split
    · rename_i h; have:=(List.getElem?_eq_some_iff.1 h.2).1; omega
    · exact⟨hi,.inl rfl⟩
  have hsg:(Option.bind (ref24_Reader_is_s1fbc s i 0 45) (fun x16=>(if x16=true then some ((w64 ((i:Int) + 1)),(-1:Int)) else some ((i:Int),(1:Int)))):Option (Int × Int))=some ((begT s true i:Int),if begT s true i=i then 1 else -1):=by
    rw[show (45:Int)=((45:UInt8).toNat:Int) from rfl,is_ok24]
    simp only[Option.bind_some]
    unfold begT
    by_cases h:s[i]? = some 45
    · rw[if_pos (decide_eq_true h),if_pos ⟨rfl,h⟩,if_neg (by omega),w64_n i (by omega)]
    · rw[if_neg (by simpa using h),if_neg fun q=>h q.2,if_pos rfl]
  unfold ref24_Reader_literal
  rw[hsg]
  simp only[Option.bind_some]
  unfold litP
  generalize begT s true i=b at hb
  rw[show (48:Int)=((48:UInt8).toNat:Int) from rfl,is_ok24]
  simp only[Option.bind_some]
  by_cases h48:s[b]? = some 48
  · have hlt:=(List.getElem?_eq_some_iff.1 h48).1
    rw[if_pos (decide_eq_true h48),if_pos h48,none_ok24,errT_lt hlt]
    simp only[Option.bind_some]
    rw[numR_no (by decide)]
    simp only[Option.bind_some,Int.mul_zero]
    rfl
  · rw[if_neg (by simpa using h48),if_neg h48]
    simp only[Option.bind_some]
    rw[numR_eq hs hb.1]
    obtain⟨q1,q2⟩:=numT_le hb.1
    cases hn:numT s b with
    | inl e=>
      obtain⟨e,p⟩:=e
      simp only[rsR,Option.bind_some,Int.mul_zero]
      rfl
    | inr r=>
      obtain⟨v,k⟩:=r
      obtain⟨r1,r2,r3,r4⟩:=q2 v k hn
      simp only[rsR,Option.bind_some]
      by_cases he:b=i
      · rw[if_pos he,if_pos he,Int.one_mul,w64_id (by omega) (by omega)]
      · rw[if_neg he,if_neg he,show (-1:Int) * v = -v by omega,w64_id (by omega) (by omega)]
end
end Go.Vm
/- Plain laws of chapter 24: clauses and orders read. -/
namespace Go.Vm
open Go
def clauseT (s:Str):Nat→Nat→List Int→(Int × Nat) ⊕ (List Int × Nat)
  | 0,i,_=>.inl (11,i)
  | n + 1,i,acc=>if s[i]? = some 48 then (match mustT s [10] (i + 1) with
      | .inl e=>.inl e
      | .inr k=>.inr (acc,k))
    else match litP s i with
      | .inl e=>.inl e
      | .inr (x,k)=>match mustT s [32] k with
        | .inl e=>.inl e
        | .inr k2=>clauseT s n k2 (acc ++ [x])
def clausesT (s:Str) (n:Int):Nat→Nat→Int→List S_api_Clause→(Int × Nat) ⊕ (List S_api_Clause × Nat)
  | 0,i,_,_=>.inl (11,i)
  | m + 1,i,j,acc=>if j < n then (match clauseT s (s.length + 1) i [] with
      | .inl e=>.inl e
      | .inr (l,k)=>clausesT s n m k (j + 1) (acc ++ [S_api_Clause.mk l 0])) else .inr (acc,i)
def orderT (s:Str):Nat→Nat→List Int→(Int × Nat) ⊕ (List Int × Nat)
  | 0,i,_=>.inl (11,i)
  | n + 1,i,acc=>match mustT s [32] i with
    | .inl e=>.inl e
    | .inr k=>match litP s k with
      | .inl e=>.inl e
      | .inr (x,k2)=>if s[k2]? = some 10 then .inr (acc ++ [x],k2 + 1) else orderT s n k2 (acc ++ [x])
def stL {α:Type}:(Int × Nat) ⊕ (α × Nat)→Int × Int × Int
  | .inl (e,k)=>((k:Int),e,(k:Int))
  | .inr (_,k)=>((k:Int),0,0)
def stM {α:Type}:(Int × Nat) ⊕ (α × Nat)→Int × Int
  | .inl (e,k)=>((k:Int),e)
  | .inr (_,k)=>((k:Int),0)
section
variable {s:Str}
theorem must1 {c:UInt8} {i:Nat} (hi:i≤s.length):(∃ e,mustT s [c] i = .inl (e,i)∧e≠0∧errT s i=(e,i)∧s[i]?≠some c)∨(mustT s [c] i = .inr (i + 1)∧s[i]? = some c∧i < s.length):=by
  unfold mustT
  by_cases h:s[i]? = some c
  · rw[if_pos h]
    exact .inr ⟨rfl,h,(List.getElem?_eq_some_iff.1 h).1⟩
  · rw[if_neg h]
    have h1:=errT_ne s i
    refine .inl ⟨(errT s i).1,?_,h1.1,?_,h⟩
    · exact congrArg Sum.inl (Prod.ext rfl h1.2)
    · exact Prod.ext rfl h1.2
theorem clauseT_le:∀ (n i:Nat) (acc:List Int),s.length + 1 - i≤n→i≤s.length→(∀ e k,clauseT s n i acc = .inl (e,k)→e≠0∧k≤s.length)∧∀ l k,clauseT s n i acc = .inr (l,k)→i < k∧k≤s.length∧l.length≤acc.length + (k - i)
  | 0,i,acc,h,hi=>by omega
  | n + 1,i,acc,h,hi=>by
    unfold clauseT
    by_cases h48:s[i]? = some 48
    · rw[if_pos h48]
      have hlt:=(List.getElem?_eq_some_iff.1 h48).1
      rcases must1 (s:=s) (c:=10) (i:=i + 1) hlt with ⟨e,h1,h2,_⟩ | ⟨h1,_,h2⟩
      · rw[h1]
        exact⟨fun e' k q=>by cases q; exact⟨h2,by omega⟩,fun l k q=>by cases q⟩
      · rw[h1]
        exact⟨fun e' k q=>(by cases q),fun l k q=>by cases q; exact⟨by omega,by omega,by omega⟩⟩
    · rw[if_neg h48]
      obtain⟨q1,q2⟩:=litP_le hi
      cases hl:litP s i with
      | inl e=>
        obtain⟨e,p⟩:=e
        exact⟨fun e' k q=>by cases q; exact q1 e p hl,fun l k q=>by cases q⟩
      | inr r=>
        obtain⟨v,k⟩:=r
        obtain⟨r1,r2,_,_⟩:=q2 v k hl
        simp only
        rcases must1 (s:=s) (c:=32) (i:=k) r2 with ⟨e,h1,h2,_⟩ | ⟨h1,_,h2⟩
        · rw[h1]
          exact⟨fun e' k q=>by cases q; exact⟨h2,by omega⟩,fun l k q=>by cases q⟩
        · rw[h1]
          simp only
          obtain⟨g1,g2⟩:=clauseT_le n (k + 1) (acc ++ [v]) (by omega) h2
          refine⟨g1,fun l k' q=>?_⟩
          obtain⟨g3,g4,g5⟩:=g2 l k' q
          rw[List.length_append,List.length_singleton] at g5
          exact⟨by omega,g4,by omega⟩
theorem clause_no {e:Int} (he:e≠0) (i f:Int) (acc:List Int):loopC (cnf_reader_clause_l1 s) (i,e,f,acc)=some (i,e,f,acc):=by
  refine loopC_done ?_
  unfold cnf_reader_clause_l1 cnf_reader_ok_s6db9
  simp only[Option.bind_some]
  rw[if_neg (by simpa using he)]
theorem numC_0 {i:Nat} (h:s[i]? = some 48):numC s true i=(0,((i + 1:Nat):Int),0,0):=by
  have hb:begT s true i=i:=by
    unfold begT
    rw[if_neg (by rw[h]; rintro⟨_,q⟩; exact absurd (Option.some.inj q) (by decide))]
  unfold numC
  rw[hb]
  have hA:¬ (0 < dN s i∧s[i]?≠some 48):=fun q=>q.2 h
  have hB:s[i]? = some 48∧i=i:=⟨h,rfl⟩
  rw[if_neg hA,if_pos hB]
theorem clauseC (hs:s.length≤65536):∀ (n i:Nat) (acc:List Int),s.length + 1 - i≤n→i≤s.length→acc.length≤i →
    ∃ a b c l,loopC (cnf_reader_clause_l1 s) ((i:Int),0,0,acc)=some (a,b,c,l)∧cnf_reader_must s a b c [10]=some (stL (clauseT s n i acc))∧∀ l' k,clauseT s n i acc = .inr (l',k)→l=l'
  | 0,i,acc,h,hi,_=>by omega
  | n + 1,i,acc,h,hi,ha=>by
    unfold clauseT
    have hgo:∀ x:Int × Int × Int × Int,numC s true i=x→cnf_reader_clause_l1 s ((i:Int),0,0,acc)=(if (x.1 == 0)=true then some (.done (x.2.1,x.2.2.1,x.2.2.2,acc)) else Option.bind (app 8 acc [x.1]) (fun x73=>Option.bind (cnf_reader_must s x.2.1 x.2.2.1 x.2.2.2 [32]) (fun (x74,x75,x76)=>some (.next (x74,x75,x76,x73))))):=fun x hx=>by
      unfold cnf_reader_clause_l1 cnf_reader_ok_s6db9
      simp only[Option.bind_some]
      rw[if_pos (by decide),numC_eq hs true hi,hx]
      rfl
    by_cases h48:s[i]? = some 48
    · rw[if_pos h48]
      have hlt:=(List.getElem?_eq_some_iff.1 h48).1
      have h1:=hgo _ (numC_0 h48)
      simp only at h1
      rw[if_pos (by decide)] at h1
      refine⟨_,_,_,_,loopC_done h1,?_,fun l' k q=>?_⟩
      · rw[must_ok hs (by simp) hlt]
        cases mustT s [10] (i + 1) <;> rfl
      · cases hm:mustT s [10] (i + 1) with
        | inl e=>rw[hm] at q; cases q
        | inr k'=>rw[hm] at q; cases q; rfl
    · rw[if_neg h48]
      have hC:=numC_l hi h48
      obtain⟨q1,q2⟩:=litP_le hi
      cases hl:litP s i with
      | inl e=>
        obtain⟨er,p⟩:=e
        rw[hl] at hC
        simp only at hC ⊢
        obtain⟨hL,hz⟩:=hC
        have h1:=hgo _ rfl
        by_cases hx:(numC s true i).1=0
        · rw[if_pos (by rw[hx]; rfl),hz hx] at h1
          refine⟨_,_,_,_,loopC_done h1,?_,fun l' k q=>by cases q⟩
          rw[must_no hL.1]
          rfl
        · rw[if_neg (by simpa using hx),app_ok (by simp only[List.length_singleton]; omega) (by simp only[List.length_singleton]; omega),must_lag hs hL (by decide) (by simp)] at h1
          refine⟨(p:Int),er,(p:Int),acc ++ [(numC s true i).1],?_,?_,fun l' k q=>by cases q⟩
          · rw[loopC_next h1]
            exact clause_no hL.1 _ _ _
          · rw[must_no hL.1]
            rfl
      | inr r=>
        obtain⟨v,k⟩:=r
        rw[hl] at hC
        simp only at hC ⊢
        obtain⟨hC,hv⟩:=hC
        obtain⟨r1,r2,_,_⟩:=q2 v k hl
        have h1:=hgo _ hC
        rw[if_neg (by simpa using hv),app_ok (by simp only[List.length_singleton]; omega) (by simp only[List.length_singleton]; omega),must_ok hs (by simp) r2] at h1
        rcases must1 (s:=s) (c:=32) (i:=k) r2 with ⟨e,h2,h3,_⟩ | ⟨h2,_,h3⟩
        · rw[h2] at h1 ⊢
          refine⟨(k:Int),e,(k:Int),acc ++ [v],?_,?_,fun l' k q=>by cases q⟩
          · rw[loopC_next h1]
            exact clause_no h3 _ _ _
          · rw[must_no h3]
            rfl
        · rw[h2] at h1 ⊢
          obtain⟨a,b,c,l,g1,g2,g3⟩:=clauseC hs n (k + 1) (acc ++ [v]) (by omega) h3 (by rw[List.length_append,List.length_singleton]; omega)
          exact⟨a,b,c,l,by rw[loopC_next h1]; exact g1,g2,g3⟩
theorem clause_eq24 (hs:s.length≤65536) {i:Nat} (hi:i≤s.length):∃ l,cnf_reader_clause s i 0 0=some (l,(stL (clauseT s (s.length + 1) i [])).1,(stL (clauseT s (s.length + 1) i [])).2.1,(stL (clauseT s (s.length + 1) i [])).2.2)∧∀ l' k,clauseT s (s.length + 1) i [] = .inr (l',k)→l=l':=by
  obtain⟨a,b,c,l,h1,h2,h3⟩:=clauseC hs (s.length + 1) i [] (by omega) hi (Nat.zero_le _)
  refine⟨l,?_,h3⟩
  unfold cnf_reader_clause
  rw[h1]
  simp only[Option.bind_some]
  rw[h2]
  rfl
theorem clauses_no {n:Int} {e:Int} (he:e≠0) (i f j:Int) (acc:List S_api_Clause):loopC (cnf_Read_l1 s n) (i,e,f,acc,j)=some (i,e,f,acc):=by
  refine loopC_done ?_
  unfold cnf_Read_l1 cnf_reader_ok_s6db9
  have:(e == 0)=false:=by simpa using he
  simp only[this]
  split
  · simp only[Option.bind_some,Bool.false_eq_true,if_false]
  · simp only[Option.bind_some,Bool.false_eq_true,if_false]
theorem clausesC (hs:s.length≤65536) (n:Int):∀ (m i:Nat) (j:Int) (acc:List S_api_Clause),s.length + 1 - i≤m→i≤s.length→acc.length≤i→0≤j→j≤(i:Int) →
    ∃ cl,loopC (cnf_Read_l1 s n) ((i:Int),0,0,acc,j)=some ((stL (clausesT s n m i j acc)).1,(stL (clausesT s n m i j acc)).2.1,(stL (clausesT s n m i j acc)).2.2,cl)∧∀ c k,clausesT s n m i j acc = .inr (c,k)→cl=c
  | 0,i,j,acc,h,hi,_,_,_=>by omega
  | m + 1,i,j,acc,h,hi,ha,h0,hj=>by
    unfold clausesT
    by_cases hjn:j < n
    · rw[if_pos hjn]
      obtain⟨l,h1,h2⟩:=clause_eq24 hs hi
      obtain⟨q1,q2⟩:=clauseT_le (s:=s) (s.length + 1) i [] (by omega) hi
      have hgo:cnf_Read_l1 s n ((i:Int),0,0,acc,j)=some (.next ((stL (clauseT s (s.length + 1) i [])).1,(stL (clauseT s (s.length + 1) i [])).2.1,(stL (clauseT s (s.length + 1) i [])).2.2,acc ++ [S_api_Clause.mk l 0],j + 1)):=by
        unfold cnf_Read_l1 cnf_reader_ok_s6db9
        simp only
        rw[if_pos (decide_eq_true hjn)]
        simp only[Option.bind_some]
        rw[if_pos (by decide),h1]
        simp only[Option.bind_some]
        rw[app_ok (by simp only[List.length_singleton]; omega) (by simp only[List.length_singleton]; omega),w64_id (by omega) (by omega)]
        rfl
      cases hc:clauseT s (s.length + 1) i [] with
      | inl e=>
        obtain⟨e,p⟩:=e
        rw[hc] at hgo
        exact⟨_,by rw[loopC_next hgo]; exact clauses_no (q1 e p hc).1 _ _ _ _,fun c k q=>by cases q⟩
      | inr r=>
        obtain⟨l',k⟩:=r
        obtain⟨r1,r2,_⟩:=q2 l' k hc
        rw[h2 l' k hc,hc] at hgo
        obtain⟨cl,g1,g2⟩:=clausesC hs n m k (j + 1) (acc ++ [S_api_Clause.mk l' 0]) (by omega) r2 (by rw[List.length_append,List.length_singleton]; omega) (by omega) (by omega)
        exact⟨cl,by rw[loopC_next hgo]; exact g1,g2⟩
    · rw[if_neg hjn]
      refine⟨acc,loopC_done ?_,fun c k q=>by cases q; rfl⟩
      unfold cnf_Read_l1
      simp only
      rw[if_neg (by simpa using hjn)]
      simp only[Option.bind_some,Bool.false_eq_true,if_false]
      rfl
theorem litR_no {e:Int} (he:e≠0) (i:Int):ref24_Reader_literal s i e=some (0,i,e):=by
  unfold ref24_Reader_literal
  rw[is_no24 he]
  simp only[Option.bind_some,Bool.false_eq_true,if_false]
  rw[is_no24 he]
  simp only[Option.bind_some,Bool.false_eq_true,if_false]
  rw[numR_no he]
  simp only[Option.bind_some,Int.mul_zero]
  rfl
theorem clauseR_no {e:Int} (he:e≠0) (i:Int) (acc:List Int):loopC (ref24_Read_l1 s) (i,e,acc)=some (i,e,acc):=by
  refine loopC_done ?_
  unfold ref24_Read_l1
  simp only
  rw[if_neg (by simpa using he)]
  simp only[Option.bind_some,Bool.false_eq_true,if_false]
theorem clauseR (hs:s.length≤65536):∀ (n i:Nat) (acc:List Int),s.length + 1 - i≤n→i≤s.length→acc.length≤i →
    ∃ a b l,loopC (ref24_Read_l1 s) ((i:Int),0,acc)=some (a,b,l)∧ref24_Reader_all s a b [48,10]=some (stM (clauseT s n i acc))∧∀ l' k,clauseT s n i acc = .inr (l',k)→l=l'
  | 0,i,acc,h,hi,_=>by omega
  | n + 1,i,acc,h,hi,ha=>by
    unfold clauseT
    have hgo:ref24_Read_l1 s ((i:Int),0,acc)=(if s[i]? = some 48 then some (.done ((i:Int),0,acc)) else Option.bind (app 8 acc [(rsR (litP s i)).1]) (fun x111=>Option.bind (ref24_Reader_all s (rsR (litP s i)).2.1 (rsR (litP s i)).2.2 [32]) (fun (x112,x113)=>some (.next (x112,x113,x111))))):=by
      unfold ref24_Read_l1
      simp only
      rw[if_pos (by decide),show (48:Int)=((48:UInt8).toNat:Int) from rfl,is_ok24]
      simp only[Option.bind_some]
      by_cases h48:s[i]? = some 48
      · rw[if_pos h48,if_neg (by simp[h48])]
      · rw[if_neg h48,if_pos (by simp[h48]),litR_eq hs hi]
        rfl
    by_cases h48:s[i]? = some 48
    · rw[if_pos h48] at hgo ⊢
      refine⟨_,_,_,loopC_done hgo,?_,fun l' k q=>?_⟩
      · rw[all_ok24 hs (by simp) hi]
        have e:mustT s [48,10] i=mustT s [10] (i + 1):=by
          rw[mustT,if_pos h48]
        rw[e]
        cases mustT s [10] (i + 1) <;> rfl
      · cases hm:mustT s [10] (i + 1) with
        | inl e=>rw[hm] at q; cases q
        | inr k'=>rw[hm] at q; cases q; rfl
    · rw[if_neg h48] at hgo ⊢
      obtain⟨q1,q2⟩:=litP_le hi
      rw[app_ok (by simp only[List.length_singleton]; omega) (by simp only[List.length_singleton]; omega)] at hgo
      simp only[Option.bind_some] at hgo
      cases hl:litP s i with
      | inl e=>
        obtain⟨er,p⟩:=e
        have hne:=(q1 er p hl).1
        rw[hl] at hgo
        simp only[rsR] at hgo
        rw[all_no24 hne] at hgo
        refine⟨(p:Int),er,acc ++ [0],?_,?_,fun l' k q=>by cases q⟩
        · rw[loopC_next hgo]
          exact clauseR_no hne _ _
        · rw[all_no24 hne]
          rfl
      | inr r=>
        obtain⟨v,k⟩:=r
        obtain⟨r1,r2,_,_⟩:=q2 v k hl
        rw[hl] at hgo
        simp only[rsR] at hgo
        rw[all_ok24 hs (by simp) r2] at hgo
        simp only
        rcases must1 (s:=s) (c:=32) (i:=k) r2 with ⟨e,h2,h3,_⟩ | ⟨h2,_,h3⟩
        · rw[h2] at hgo ⊢
          refine⟨(k:Int),e,acc ++ [v],?_,?_,fun l' k q=>by cases q⟩
          · rw[loopC_next hgo]
            exact clauseR_no h3 _ _
          · rw[all_no24 h3]
            rfl
        · rw[h2] at hgo ⊢
          obtain⟨a,b,l,g1,g2,g3⟩:=clauseR hs n (k + 1) (acc ++ [v]) (by omega) h3 (by rw[List.length_append,List.length_singleton]; omega)
          exact⟨a,b,l,by rw[loopC_next hgo]; exact g1,g2,g3⟩
theorem clausesR_no {n:Int} {e:Int} (he:e≠0) (i j:Int) (acc:List S_api_Clause):loopC (ref24_Read_l2 s n) (i,e,acc,j)=some (i,e,acc):=by
  refine loopC_done ?_
  unfold ref24_Read_l2
  have:(e == 0)=false:=by simpa using he
  simp only
  rw[if_neg (by rw[this,Bool.and_false]; decide)]
theorem clausesR (hs:s.length≤65536) (n:Int):∀ (m i:Nat) (j:Int) (acc:List S_api_Clause),s.length + 1 - i≤m→i≤s.length→acc.length≤i→0≤j→j≤(i:Int) →
    ∃ cl,loopC (ref24_Read_l2 s n) ((i:Int),0,acc,j)=some ((stM (clausesT s n m i j acc)).1,(stM (clausesT s n m i j acc)).2,cl)∧∀ c k,clausesT s n m i j acc = .inr (c,k)→cl=c
  | 0,i,j,acc,h,hi,_,_,_=>by omega
  | m + 1,i,j,acc,h,hi,ha,h0,hj=>by
    unfold clausesT
    by_cases hjn:j < n
    · rw[if_pos hjn]
      obtain⟨a,b,l,h1,h2,h3⟩:=clauseR hs (s.length + 1) i [] (by omega) hi (Nat.zero_le _)
      obtain⟨q1,q2⟩:=clauseT_le (s:=s) (s.length + 1) i [] (by omega) hi
      have hgo:ref24_Read_l2 s n ((i:Int),0,acc,j)=some (.next ((stM (clauseT s (s.length + 1) i [])).1,(stM (clauseT s (s.length + 1) i [])).2,acc ++ [S_api_Clause.mk l 0],j + 1)):=by
        unfold ref24_Read_l2
        simp only
        rw[if_pos (by simp[hjn]),h1]
        simp only[Option.bind_some]
        rw[h2]
        simp only[Option.bind_some]
        rw[app_ok (by simp only[List.length_singleton]; omega) (by simp only[List.length_singleton]; omega),w64_id (by omega) (by omega)]
        rfl
      cases hc:clauseT s (s.length + 1) i [] with
      | inl e=>
        obtain⟨e,p⟩:=e
        rw[hc] at hgo
        exact⟨_,by rw[loopC_next hgo]; exact clausesR_no (q1 e p hc).1 _ _ _,fun c k q=>by cases q⟩
      | inr r=>
        obtain⟨l',k⟩:=r
        obtain⟨r1,r2,_⟩:=q2 l' k hc
        rw[h3 l' k hc,hc] at hgo
        obtain⟨cl,g1,g2⟩:=clausesR hs n m k (j + 1) (acc ++ [S_api_Clause.mk l' 0]) (by omega) r2 (by rw[List.length_append,List.length_singleton]; omega) (by omega) (by omega)
        exact⟨cl,by rw[loopC_next hgo]; exact g1,g2⟩
    · rw[if_neg hjn]
      refine⟨acc,loopC_done ?_,fun c k q=>by cases q; rfl⟩
      unfold ref24_Read_l2
      simp only
      rw[if_neg (by simp[hjn])]
      rfl
theorem order_no {e:Int} (he:e≠0) (i f:Int) (acc:List Int):loopC (cnf_reader_order_l1 s) (i,e,f,acc)=some (acc,i,e,f):=by
  refine loopC_done ?_
  unfold cnf_reader_order_l1 cnf_reader_ok_s6db9
  simp only[Option.bind_some]
  rw[if_neg (by simpa using he)]
theorem order_bad (hs:s.length≤65536) {i:Nat} (hi:i≤s.length) {e:Int} (hm:mustT s [32] i = .inl (e,i)) (he:e≠0) {acc:List Int} (ha:acc.length≤1000000):loopC (cnf_reader_order_l1 s) ((i:Int),0,0,acc)=some (acc ++ [0],(i:Int),e,(i:Int)):=by
  have hz:(e == 0)=false:=by simpa using he
  rw[loopC_next (y:=((i:Int),e,(i:Int),acc ++ [0])) (by
    unfold cnf_reader_order_l1 cnf_reader_ok_s6db9
    simp only[Option.bind_some]
    rw[if_pos (by decide),must_ok hs (by simp) hi,hm]
    simp only[stC,Option.bind_some]
    have hst:(Option.bind (cnf_reader_is_sb17f s (i:Int) e (i:Int) 48) (fun x112=>(if x112=true then Option.bind (cnf_reader_stuck s (i:Int) e (i:Int)) (fun (x113,x114)=>some (x113,x114)) else some (e,(i:Int)))):Option (Int × Int))=some (e,(i:Int)):=by
      rw[show (48:Int)=((48:UInt8).toNat:Int) from rfl,isc_ok,stuck_no he]
      simp only[Option.bind_some]
      split <;> rfl
    rw[hst]
    simp only[Option.bind_some]
    rw[num_no he]
    simp only[Option.bind_some]
    rw[app_ok (by simp only[List.length_singleton]; omega) (by simp only[List.length_singleton]; omega)]
    simp only[Option.bind_some,hz,Bool.false_eq_true,if_false])]
  exact order_no he _ _ _
theorem orderC (hs:s.length≤65536):∀ (n i:Nat) (acc:List Int),s.length + 1 - i≤n→i≤s.length→acc.length≤i →
    ∃ l,loopC (cnf_reader_order_l1 s) ((i:Int),0,0,acc)=some (l,(stL (orderT s n i acc)).1,(stL (orderT s n i acc)).2.1,(stL (orderT s n i acc)).2.2)∧∀ l' k,orderT s n i acc = .inr (l',k)→l=l'
  | 0,i,acc,h,hi,_=>by omega
  | n + 1,i,acc,h,hi,ha=>by
    unfold orderT
    rcases must1 (s:=s) (c:=32) (i:=i) hi with ⟨e,h1,h2,_⟩ | ⟨h1,_,h2⟩
    · rw[h1]
      exact⟨_,order_bad hs hi h1 h2 (by omega),fun l' k q=>by cases q⟩
    · rw[h1]
      simp only
      have hz:(i + 1:Nat)≤s.length:=h2
      obtain⟨q1,q2⟩:=litP_le hz
      have run:∀ (a:Int) (k:Nat) (c d:Int),(Option.bind (Option.bind (cnf_reader_is_sb17f s ((i + 1:Nat):Int) 0 0 48) (fun x112=>(if x112=true then Option.bind (cnf_reader_stuck s ((i + 1:Nat):Int) 0 0) (fun (x113,x114)=>some (x113,x114)) else some (0,0))):Option (Int × Int)) (fun (x110,x111)=>cnf_reader_number s ((i + 1:Nat):Int) x110 x111 true))=some (a,(k:Int),c,d) →
          cnf_reader_order_l1 s ((i:Int),0,0,acc)=some (if c=0∧s[k]? = some 10 then .done (acc ++ [a],w64 ((k:Int) + 1),c,d) else .next ((k:Int),c,d,acc ++ [a])):=fun a k c d hx=>by
        unfold cnf_reader_order_l1 cnf_reader_ok_s6db9
        simp only[Option.bind_some]
        rw[if_pos (by decide),must_ok hs (by simp) hi,h1]
        simp only[stC,Option.bind_some]
        cases hst:(Option.bind (cnf_reader_is_sb17f s ((i + 1:Nat):Int) 0 0 48) (fun x112=>(if x112=true then Option.bind (cnf_reader_stuck s ((i + 1:Nat):Int) 0 0) (fun (x113,x114)=>some (x113,x114)) else some (0,0))):Option (Int × Int)) with
        | none=>rw[hst] at hx; cases hx
        | some y=>
          obtain⟨y1,y2⟩:=y
          rw[hst] at hx
          simp only[Option.bind_some] at hx ⊢
          rw[hx]
          simp only[Option.bind_some]
          rw[app_ok (by simp only[List.length_singleton]; omega) (by simp only[List.length_singleton]; omega)]
          simp only[Option.bind_some]
          by_cases hc:c=0
          · subst hc
            rw[if_pos (by decide),show (10:Int)=((10:UInt8).toNat:Int) from rfl,isc_ok]
            simp only[Option.bind_some]
            by_cases h10:s[k]? = some 10
            · rw[if_pos (decide_eq_true h10),if_pos (by simp[h10])]
            · rw[if_neg (by simpa using h10),if_neg (by simp[h10])]
          · rw[if_neg (by simpa using hc)]
            simp only[Option.bind_some,Bool.false_eq_true,if_false]
            rw[if_neg fun q=>hc q.1]
      by_cases h48:s[i + 1]? = some 48
      · have hlt:=(List.getElem?_eq_some_iff.1 h48).1
        have hlp:litP s (i + 1) = .inl (10,i + 1):=by
          have hb:begT s true (i + 1)=i + 1:=by
            unfold begT
            rw[if_neg (by rw[h48]; rintro⟨_,q⟩; exact absurd (Option.some.inj q) (by decide))]
          unfold litP
          rw[hb,if_pos h48]
        have h3:=run 0 (i + 1) 10 ((i + 1:Nat):Int) (by
          rw[show (48:Int)=((48:UInt8).toNat:Int) from rfl,isc_ok]
          simp only[Option.bind_some]
          rw[if_pos (decide_eq_true h48),stuck_ok hz,errT_lt hlt]
          simp only[Option.bind_some]
          rw[num_no (by decide)])
        rw[if_neg (by simp)] at h3
        rw[hlp]
        refine⟨acc ++ [0],?_,fun l' k q=>by cases q⟩
        rw[loopC_next h3]
        exact order_no (by decide) _ _ _
      · have hC:=numC_l hz h48
        have hn:(Option.bind (Option.bind (cnf_reader_is_sb17f s ((i + 1:Nat):Int) 0 0 48) (fun x112=>(if x112=true then Option.bind (cnf_reader_stuck s ((i + 1:Nat):Int) 0 0) (fun (x113,x114)=>some (x113,x114)) else some (0,0))):Option (Int × Int)) (fun (x110,x111)=>cnf_reader_number s ((i + 1:Nat):Int) x110 x111 true))=some (numC s true (i + 1)):=by
          rw[show (48:Int)=((48:UInt8).toNat:Int) from rfl,isc_ok]
          simp only[Option.bind_some]
          rw[if_neg (by simpa using h48)]
          simp only[Option.bind_some]
          exact numC_eq hs true hz
        cases hl:litP s (i + 1) with
        | inl e=>
          obtain⟨er,p⟩:=e
          rw[hl] at hC
          simp only at hC ⊢
          obtain⟨⟨hne,hp,hL⟩,hv0⟩:=hC
          obtain⟨x,st⟩:∃ x st,numC s true (i + 1)=(x,st):=⟨_,_,rfl⟩
          obtain⟨st,hx⟩:=st
          rw[hx] at hL hn
          simp only at hL
          rcases hL with rfl | ⟨rfl,rfl,hlt,hd⟩
          · have h3:=run _ _ _ _ hn
            rw[if_neg fun q=>hne q.1] at h3
            refine⟨acc ++ [x],?_,fun l' k q=>by cases q⟩
            rw[loopC_next h3]
            exact order_no hne _ _ _
          · have h3:=run _ _ _ _ hn
            rw[if_neg (by
              rintro⟨_,q⟩
              rw[List.getElem?_eq_getElem hlt] at q
              rw[Option.some.inj q] at hd
              exact absurd hd (by decide))] at h3
            have hm:mustT s [32] p = .inl (10,p):=by
              unfold mustT
              rw[List.getElem?_eq_getElem hlt,if_neg (fun q=>by rw[Option.some.inj q] at hd; exact absurd hd (by decide)),errT_lt hlt]
            refine⟨acc ++ [x] ++ [0],?_,fun l' k q=>by cases q⟩
            rw[loopC_next h3]
            exact order_bad hs hp hm (by decide) (by rw[List.length_append,List.length_singleton]; omega)
        | inr r=>
          obtain⟨v,k⟩:=r
          rw[hl] at hC
          simp only at hC ⊢
          obtain⟨hC,hv⟩:=hC
          obtain⟨r1,r2,_,_⟩:=q2 v k hl
          rw[hC] at hn
          have h3:=run _ _ _ _ hn
          by_cases h10:s[k]? = some 10
          · have hlt:=(List.getElem?_eq_some_iff.1 h10).1
            rw[if_pos ⟨rfl,h10⟩,w64_n k (by omega)] at h3
            rw[if_pos h10]
            exact⟨_,loopC_done h3,fun l' k q=>by cases q; rfl⟩
          · rw[if_neg fun q=>h10 q.2] at h3
            rw[if_neg h10]
            obtain⟨l,g1,g2⟩:=orderC hs n k (acc ++ [v]) (by omega) r2 (by rw[List.length_append,List.length_singleton]; omega)
            exact⟨l,by rw[loopC_next h3]; exact g1,g2⟩
theorem orderR_no {e:Int} (he:e≠0) (i:Int) (acc:List Int) (b:Bool):loopC (ref24_Read_l3 s) (i,e,acc,b)=some (i,e,acc):=by
  refine loopC_done ?_
  unfold ref24_Read_l3
  simp only
  rw[if_neg (by simpa using he)]
  simp only[Option.bind_some,Bool.false_eq_true,if_false]
theorem orderR (hs:s.length≤65536):∀ (n i:Nat) (acc:List Int) (first:Bool),s.length + 1 - i≤n→i≤s.length→acc.length≤i→(first=true∨s[i]?≠some 10) →
    ∃ a b l,loopC (ref24_Read_l3 s) ((i:Int),0,acc,first)=some (a,b,l)∧ref24_Reader_all s a b [10]=some (stM (orderT s n i acc))∧∀ l' k,orderT s n i acc = .inr (l',k)→l=l'
  | 0,i,acc,first,h,hi,_,_=>by omega
  | n + 1,i,acc,first,h,hi,ha,hf=>by
    unfold orderT
    have hc:(if ((0:Int) == 0)=true then Option.bind (if first=true then some true else Option.bind (ref24_Reader_is_s1fbc s (i:Int) 0 10) (fun x186=>some (!x186)):Option Bool) (fun x185=>some (true && x185)) else some false:Option Bool)=some true:=by
      rw[if_pos (by decide)]
      cases first with
      | true=>rfl
      | false=>
        rw[if_neg (by decide),show (10:Int)=((10:UInt8).toNat:Int) from rfl,is_ok24]
        rcases hf with hf | hf
        · cases hf
        · simp[hf]
    have hgo:∀ (a:Int) (b:Int) (x:Int × Int × Int),ref24_Reader_all s (i:Int) 0 [32]=some (a,b)→ref24_Reader_literal s a b=some x→ref24_Read_l3 s ((i:Int),0,acc,first)=some (.next (x.2.1,x.2.2,acc ++ [x.1],false)):=fun a b x h1 h2=>by
      unfold ref24_Read_l3
      simp only
      rw[hc]
      simp only[Option.bind_some,if_true]
      rw[h1]
      simp only[Option.bind_some]
      rw[h2]
      simp only[Option.bind_some]
      rw[app_ok (by simp only[List.length_singleton]; omega) (by simp only[List.length_singleton]; omega)]
      rfl
    rcases must1 (s:=s) (c:=32) (i:=i) hi with ⟨e,h1,h2,_⟩ | ⟨h1,_,h2⟩
    · rw[h1]
      have h3:=hgo _ _ _ (by rw[all_ok24 hs (by simp) hi,h1]; rfl) (litR_no h2 _)
      refine⟨(i:Int),e,acc ++ [0],?_,?_,fun l' k q=>by cases q⟩
      · rw[loopC_next h3]
        exact orderR_no h2 _ _ _
      · rw[all_no24 h2]
        rfl
    · rw[h1]
      simp only
      obtain⟨q1,q2⟩:=litP_le (s:=s) (i:=i + 1) h2
      have h3:=hgo _ _ _ (by rw[all_ok24 hs (by simp) hi,h1]; rfl) (litR_eq hs (i:=i + 1) h2)
      cases hl:litP s (i + 1) with
      | inl e=>
        obtain⟨er,p⟩:=e
        have hne:=(q1 er p hl).1
        rw[hl] at h3
        refine⟨(p:Int),er,acc ++ [0],?_,?_,fun l' k q=>by cases q⟩
        · rw[loopC_next h3]
          exact orderR_no hne _ _ _
        · rw[all_no24 hne]
          rfl
      | inr r=>
        obtain⟨v,k⟩:=r
        obtain⟨r1,r2,_,_⟩:=q2 v k hl
        rw[hl] at h3
        simp only[rsR] at h3 ⊢
        by_cases h10:s[k]? = some 10
        · rw[if_pos h10]
          refine⟨(k:Int),0,acc ++ [v],?_,?_,fun l' k q=>by cases q; rfl⟩
          · rw[loopC_next h3]
            refine loopC_done ?_
            unfold ref24_Read_l3
            simp only
            rw[if_pos (by decide),if_neg (by decide),show (10:Int)=((10:UInt8).toNat:Int) from rfl,is_ok24,decide_eq_true h10]
            rfl
          · rw[all_ok24 hs (by simp) r2]
            unfold mustT
            rw[if_pos h10]
            rfl
        · rw[if_neg h10]
          obtain⟨a,b,l,g1,g2,g3⟩:=orderR hs n k (acc ++ [v]) false (by omega) r2 (by rw[List.length_append,List.length_singleton]; omega) (.inr h10)
          exact⟨a,b,l,by rw[loopC_next h3]; exact g1,g2,g3⟩
end
end Go.Vm
/- Plain laws of chapter 24: formulas read. -/
namespace Go.Vm
open Go
noncomputable def cnfTail (a0:Str) (x4:Int):(Int × Int × Int × List S_api_Clause)→Option (S_api_Formula × S_api_Fault):=(fun (x42,x43,x44,x45)=>Option.bind (Option.bind (cnf_reader_ok_s6db9 a0 x42 x43 x44) (fun x63=>(if (x63 && (decide (x42 < (List.length a0:Int))))=true then Option.bind (cnf_reader_order a0 x42 x43 x44) (fun (x64,x65,x66,x67)=>some (x65,x66,x67,x64)) else some (x42,x43,x44,[]))):Option (Int × Int × Int × List Int)) (fun (x59,x60,x61,x62)=>Option.bind (Option.bind (cnf_reader_ok_s6db9 a0 x59 x60 x61) (fun x73=>(if (x73 && (decide (x59 < (List.length a0:Int))))=true then Option.bind (cnf_reader_stuck a0 x59 x60 x61) (fun (x74,x75)=>some (x74,x75)) else some (x60,x61))):Option (Int × Int)) (fun (x71,x72)=>Option.bind (cnf_reader_ok_s6db9 a0 x59 x71 x72) (fun x76=>(if (!x76)=true then some ((S_api_Formula.mk 0 [] []),(S_api_Fault.mk x71 x72)) else Option.bind (cnf_Fit (S_api_Formula.mk x4 x45 x62)) (fun x77=>(if (!x77)=true then some ((S_api_Formula.mk 0 [] []),(S_api_Fault.mk 32 (List.length a0:Int))) else some ((S_api_Formula.mk x4 x45 x62),(S_api_Fault.mk 0 0)))))))))
noncomputable def refTail (a0:Str) (x3:Int):(Int × Int × List S_api_Clause)→Option (S_api_Formula × S_api_Fault):=(fun (x77,x78,x79)=>Option.bind ((if ((x78 == 0) && (decide (x77 < (List.length a0:Int))))=true then Option.bind (ref24_Reader_all a0 x77 x78 [99,32,111,114,100,101,114]) (fun (x152,x153)=>Option.bind (loopC (ref24_Read_l3 a0) (x152,x153,[],true)) (fun (x178,x179,x180)=>Option.bind (ref24_Reader_all a0 x178 x179 [10]) (fun (x193,x194)=>(if ((x194 == 0) && (decide (x193 < (List.length a0:Int))))=true then Option.bind (ref24_Reader_none a0 x193 x194) (fun x195=>some (x193,x195,x180)) else some (x193,x194,x180))))) else some (x77,x78,[])):Option (Int × Int × List Int)) (fun (x149,x150,x151)=>(if (x150 != 0)=true then some ((S_api_Formula.mk 0 [] []),(S_api_Fault.mk x150 x149)) else Option.bind (ref24_Fit (S_api_Formula.mk x3 x79 x151)) (fun x196=>(if (!x196)=true then some ((S_api_Formula.mk 0 [] []),(S_api_Fault.mk 32 (List.length a0:Int))) else some ((S_api_Formula.mk x3 x79 x151),(S_api_Fault.mk 0 0)))))))
theorem cnf_Read_u (a0:Str):cnf_Read a0=(if (decide ((List.length a0:Int) > 65536))=true then some ((S_api_Formula.mk 0 [] []),(S_api_Fault.mk 12 65536)) else Option.bind (cnf_reader_must a0 0 0 0 [112,32,99,110,102,32]) (fun (x1,x2,x3)=>Option.bind (cnf_reader_number a0 x1 x2 x3 false) (fun (x4,x5,x6,x7)=>Option.bind (cnf_reader_must a0 x5 x6 x7 [32]) (fun (x8,x9,x10)=>Option.bind (cnf_reader_number a0 x8 x9 x10 false) (fun (x11,x12,x13,x14)=>Option.bind (cnf_reader_must a0 x12 x13 x14 [10]) (fun (x15,x16,x17)=>Option.bind (loopC (cnf_Read_l1 a0 x11) (x15,x16,x17,[],0)) (cnfTail a0 x4))))))):=rfl
theorem ref24_Read_u (a0:Str):ref24_Read a0=(if (decide ((List.length a0:Int) > 65536))=true then some ((S_api_Formula.mk 0 [] []),(S_api_Fault.mk 12 65536)) else Option.bind (ref24_Reader_all a0 0 0 [112,32,99,110,102,32]) (fun (x1,x2)=>Option.bind (ref24_Reader_number a0 x1 x2) (fun (x3,x4,x5)=>Option.bind (ref24_Reader_all a0 x4 x5 [32]) (fun (x6,x7)=>Option.bind (ref24_Reader_number a0 x6 x7) (fun (x8,x9,x10)=>Option.bind (ref24_Reader_all a0 x9 x10 [10]) (fun (x11,x12)=>Option.bind (loopC (ref24_Read_l2 a0 x8) (x11,x12,[],0)) (refTail a0 x3))))))):=rfl
def ordS:Str:=[99,32,111,114,100,101,114]
def hdrS:Str:=[112,32,99,110,102,32]
def errR (e:Int × Nat):S_api_Formula × S_api_Fault:=(S_api_Formula.mk 0 [] [],S_api_Fault.mk e.1 (e.2:Int))
def tailT (s:Str) (i:Nat):(Int × Nat) ⊕ List Int:=
  if i < s.length then (match mustT s ordS i with
    | .inl e=>.inl e
    | .inr k=>match orderT s (s.length + 1) k [] with
      | .inl e=>.inl e
      | .inr (l,k2)=>if k2 < s.length then .inl (errT s k2) else .inr l) else .inr []
def endT (s:Str) (v:Int):(Int × Nat) ⊕ (List S_api_Clause × Nat)→S_api_Formula × S_api_Fault
  | .inl e=>errR e
  | .inr (cls,i)=>match tailT s i with
    | .inl e=>errR e
    | .inr l=>if fitF (S_api_Formula.mk v cls l)=true then (S_api_Formula.mk v cls l,S_api_Fault.mk 0 0) else (S_api_Formula.mk 0 [] [],S_api_Fault.mk 32 (s.length:Int))
def readT (s:Str):S_api_Formula × S_api_Fault:=
  if 65536 < s.length then (S_api_Formula.mk 0 [] [],S_api_Fault.mk 12 65536) else
  match mustT s hdrS 0 with
  | .inl e=>errR e
  | .inr i1=>match numT s i1 with
    | .inl e=>errR e
    | .inr (v,i2)=>match mustT s [32] i2 with
      | .inl e=>errR e
      | .inr i3=>match numT s i3 with
        | .inl e=>errR e
        | .inr (n,i4)=>match mustT s [10] i4 with
          | .inl e=>errR e
          | .inr i5=>endT s v (clausesT s n (s.length + 1) i5 0 [])
section
variable {s:Str}
theorem clausesT_le (n:Int):∀ (m i:Nat) (j:Int) (acc:List S_api_Clause),s.length + 1 - i≤m→i≤s.length→(∀ c∈acc,c.Lits.length≤s.length)→acc.length≤i →
    (∀ e k,clausesT s n m i j acc = .inl (e,k)→e≠0∧k≤s.length)∧∀ c k,clausesT s n m i j acc = .inr (c,k)→k≤s.length∧c.length≤s.length∧∀ d∈c,d.Lits.length≤s.length
  | 0,i,j,acc,h,hi,_,_=>by omega
  | m + 1,i,j,acc,h,hi,hb,ha=>by
    unfold clausesT
    by_cases hjn:j < n
    · rw[if_pos hjn]
      obtain⟨q1,q2⟩:=clauseT_le (s:=s) (s.length + 1) i [] (by omega) hi
      cases hc:clauseT s (s.length + 1) i [] with
      | inl e=>
        obtain⟨e,p⟩:=e
        exact⟨fun e' k q=>by cases q; exact q1 e p hc,fun c k q=>by cases q⟩
      | inr r=>
        obtain⟨l,k⟩:=r
        obtain⟨r1,r2,r3⟩:=q2 l k hc
        simp only[List.length_nil] at r3
        exact clausesT_le n m k (j + 1) (acc ++ [S_api_Clause.mk l 0]) (by omega) r2 (fun c hm=>by
          rcases List.mem_append.1 hm with hm | hm
          · exact hb c hm
          · rw[List.mem_singleton.1 hm]
            show l.length≤s.length
            omega) (by rw[List.length_append,List.length_singleton]; omega)
    · rw[if_neg hjn]
      exact⟨fun e k q=>(by cases q),fun c k q=>by cases q; exact⟨hi,by omega,hb⟩⟩
theorem orderT_le:∀ (n i:Nat) (acc:List Int),s.length + 1 - i≤n→i≤s.length→acc.length≤i→(∀ e k,orderT s n i acc = .inl (e,k)→e≠0∧k≤s.length)∧∀ l k,orderT s n i acc = .inr (l,k)→k≤s.length∧l.length≤s.length
  | 0,i,acc,h,hi,_=>by omega
  | n + 1,i,acc,h,hi,ha=>by
    unfold orderT
    rcases must1 (s:=s) (c:=32) (i:=i) hi with ⟨e,h1,h2,_⟩ | ⟨h1,_,h2⟩
    · rw[h1]
      exact⟨fun e' k q=>by cases q; exact⟨h2,hi⟩,fun l k q=>by cases q⟩
    · rw[h1]
      simp only
      obtain⟨q1,q2⟩:=litP_le (s:=s) (i:=i + 1) h2
      cases hl:litP s (i + 1) with
      | inl e=>
        obtain⟨e,p⟩:=e
        exact⟨fun e' k q=>by cases q; exact q1 e p hl,fun l k q=>by cases q⟩
      | inr r=>
        obtain⟨v,k⟩:=r
        obtain⟨r1,r2,_,_⟩:=q2 v k hl
        simp only
        by_cases h10:s[k]? = some 10
        · have hlt:=(List.getElem?_eq_some_iff.1 h10).1
          rw[if_pos h10]
          refine⟨fun e' k q=>(by cases q),fun l k' q=>?_⟩
          cases q
          exact⟨hlt,by rw[List.length_append,List.length_singleton]; omega⟩
        · rw[if_neg h10]
          exact orderT_le n k (acc ++ [v]) (by omega) r2 (by rw[List.length_append,List.length_singleton]; omega)
theorem tailC_err {e:Int} (he:e≠0) (k:Nat) (v:Int) (cl:List S_api_Clause):cnfTail s v ((k:Int),e,(k:Int),cl)=some (errR (e,k)):=by
  have hz:(e == 0)=false:=by simpa using he
  unfold cnfTail cnf_reader_ok_s6db9
  simp only[Option.bind_some,hz,Bool.false_and,Bool.false_eq_true,if_false,Bool.not_false,if_true]
  rfl
theorem tailR_err {e:Int} (he:e≠0) (k:Nat) (v:Int) (cl:List S_api_Clause):refTail s v ((k:Int),e,cl)=some (errR (e,k)):=by
  have hz:(e == 0)=false:=by simpa using he
  unfold refTail
  simp only[hz,Bool.false_and,Bool.false_eq_true,if_false,Option.bind_some]
  rw[if_pos (by simpa using he)]
  rfl
theorem bigR {v:Int} {cls:List S_api_Clause} {l:List Int} (hs:s.length≤65536) (hc:∀ d∈cls,d.Lits.length≤s.length) (hl:l.length≤s.length):BigF (S_api_Formula.mk v cls l):=
  ⟨fun c h=>Nat.le_trans (hc c h) (by omega),Nat.le_trans hl (by omega)⟩
theorem tailC (hs:s.length≤65536) {i:Nat} (hi:i≤s.length) (v:Int) {cl:List S_api_Clause} (hc:∀ d∈cl,d.Lits.length≤s.length):cnfTail s v ((i:Int),0,0,cl)=some (endT s v (.inr (cl,i))):=by
  unfold endT tailT
  simp only
  by_cases hlt:i < s.length
  · rw[if_pos hlt]
    have hm:=mustT_le ordS i hi
    have hord:∀ a b c,cnf_reader_must s (i:Int) 0 0 [99,32,111,114,100,101,114]=some (a,b,c)→cnf_reader_order s (i:Int) 0 0=Option.bind (loopC (cnf_reader_order_l1 s) (a,b,c,[])) (fun (x99,x100,x101,x102)=>some (x99,x100,x101,x102)):=fun a b c h=>by
      unfold cnf_reader_order
      rw[h]
      rfl
    have hmo:=must_ok hs (t:=ordS) (by decide) hi
    have key:∃ (st:(Int × Nat) ⊕ (List Int × Nat)) (l:List Int),cnf_reader_order s (i:Int) 0 0=some (l,(stL st).1,(stL st).2.1,(stL st).2.2)∧(∀ l' k,st = .inr (l',k)→l=l'∧k≤s.length∧l.length≤s.length)∧(∀ e k,st = .inl (e,k)→e≠0) ∧
        (match mustT s ordS i with
          | .inl e=>(.inl e:(Int × Nat) ⊕ List Int)
          | .inr k=>match orderT s (s.length + 1) k [] with
            | .inl e=>.inl e
            | .inr (l,k2)=>if k2 < s.length then .inl (errT s k2) else .inr l)=(match st with
          | .inl e=>.inl e
          | .inr (l,k2)=>if k2 < s.length then .inl (errT s k2) else .inr l):=by
      cases hmm:mustT s ordS i with
      | inl e=>
        obtain⟨e,k⟩:=e
        have he:=(hm.2 e k hmm).1
        rw[hmm] at hmo
        refine⟨.inl (e,k),[],?_,fun l' k q=>(by cases q),fun e' k' q=>by cases q; exact he,rfl⟩
        rw[hord _ _ _ hmo,order_no he]
        rfl
      | inr k=>
        obtain⟨_,hk⟩:=hm.1 k hmm
        rw[hmm] at hmo
        obtain⟨l,g1,g2⟩:=orderC hs (s.length + 1) k [] (by omega) hk (Nat.zero_le _)
        obtain⟨o1,o2⟩:=orderT_le (s:=s) (s.length + 1) k [] (by omega) hk (Nat.zero_le _)
        refine⟨orderT s (s.length + 1) k [],l,?_,fun l' k' q=>?_,fun e' k' q=>(o1 e' k' q).1,rfl⟩
        · rw[hord _ _ _ hmo]
          show Option.bind (loopC (cnf_reader_order_l1 s) ((k:Int),0,0,[])) _=_
          rw[g1]
          rfl
        · obtain⟨a1,a2⟩:=o2 l' k' q
          have:=g2 l' k' q
          exact⟨this,a1,by rw[this]; exact a2⟩
    obtain⟨st,l,k1,k2,k3,k4⟩:=key
    simp only[k4]
    cases st with
    | inl e=>
      obtain⟨e,k⟩:=e
      have he:=k3 e k rfl
      have hz:(e == 0)=false:=by simpa using he
      have k1:cnf_reader_order s (i:Int) 0 0=some (l,(k:Int),e,(k:Int)):=k1
      unfold cnfTail cnf_reader_ok_s6db9
      simp only[Option.bind_some]
      rw[if_pos (by simp[hlt]),k1]
      simp only[hz,Bool.false_and,Bool.false_eq_true,if_false,Option.bind_some,Bool.not_false,if_true]
      rfl
    | inr r=>
      obtain⟨l',k⟩:=r
      obtain⟨rfl,b1,b2⟩:=k2 l' k rfl
      have k1:cnf_reader_order s (i:Int) 0 0=some (l,(k:Int),0,0):=k1
      unfold cnfTail cnf_reader_ok_s6db9
      simp only[Option.bind_some]
      rw[if_pos (by simp[hlt]),k1]
      simp only[Option.bind_some]
      by_cases hk:k < s.length
      · have hg:(((0:Int) == 0) && (decide ((k:Int) < (s.length:Int))))=true:=by simp[hk]
        rw[if_pos hg,stuck_ok b1]
        simp only[if_pos hk]
        have h1:=errT_ne s k
        have hz:((errT s k).1 == 0)=false:=by simpa using h1.1
        simp only[Option.bind_some,hz,Bool.not_false,if_true]
        rfl
      · have hg:¬ (((0:Int) == 0) && (decide ((k:Int) < (s.length:Int))))=true:=by simp[hk]
        rw[if_neg hg]
        simp only[if_neg hk,Option.bind_some]
        rw[if_neg (by decide),cnf_Fit_eq _ (bigR hs hc b2)]
        simp only[Option.bind_some]
        cases fitF (S_api_Formula.mk v cl l) <;> rfl
  · rw[if_neg hlt]
    unfold cnfTail cnf_reader_ok_s6db9
    simp only[Option.bind_some]
    rw[if_neg (by simp[hlt])]
    simp only[Option.bind_some]
    rw[if_neg (by simp[hlt])]
    simp only[Option.bind_some]
    rw[if_neg (by decide),cnf_Fit_eq _ (bigR hs hc (Nat.zero_le _))]
    simp only[Option.bind_some]
    cases fitF (S_api_Formula.mk v cl []) <;> rfl
theorem tailR (hs:s.length≤65536) {i:Nat} (hi:i≤s.length) (v:Int) {cl:List S_api_Clause} (hc:∀ d∈cl,d.Lits.length≤s.length):refTail s v ((i:Int),0,cl)=some (endT s v (.inr (cl,i))):=by
  unfold endT tailT
  simp only
  by_cases hlt:i < s.length
  · rw[if_pos hlt]
    unfold refTail
    simp only
    rw[if_pos (by simp[hlt]),all_ok24 hs (by decide) hi]
    simp only[Option.bind_some]
    have hm:=mustT_le ordS i hi
    rw[show ([99,32,111,114,100,101,114]:Str)=ordS from rfl]
    cases hmm:mustT s ordS i with
    | inl e=>
      obtain⟨e,k⟩:=e
      have he:=(hm.2 e k hmm).1
      have hz:(e == 0)=false:=by simpa using he
      simp only[stR]
      rw[orderR_no he]
      simp only[Option.bind_some]
      rw[all_no24 he]
      simp only[Option.bind_some,hz,Bool.false_and,Bool.false_eq_true,if_false]
      rw[if_pos (by simpa using he)]
      rfl
    | inr k=>
      obtain⟨_,hk⟩:=hm.1 k hmm
      obtain⟨a,b,l,g1,g2,g3⟩:=orderR hs (s.length + 1) k [] true (by omega) hk (Nat.zero_le _) (.inl rfl)
      obtain⟨o1,o2⟩:=orderT_le (s:=s) (s.length + 1) k [] (by omega) hk (Nat.zero_le _)
      simp only[stR]
      rw[g1]
      simp only[Option.bind_some]
      rw[g2]
      cases ho:orderT s (s.length + 1) k [] with
      | inl e=>
        obtain⟨e,p⟩:=e
        have he:=(o1 e p ho).1
        have hz:(e == 0)=false:=by simpa using he
        simp only[stM,Option.bind_some,hz,Bool.false_and,Bool.false_eq_true,if_false]
        rw[if_pos (by simpa using he)]
        rfl
      | inr r=>
        obtain⟨l',k2⟩:=r
        obtain⟨b1,b2⟩:=o2 l' k2 ho
        have:=g3 l' k2 ho
        subst this
        simp only[stM,Option.bind_some]
        by_cases hk2:k2 < s.length
        · rw[if_pos (by simp[hk2]),if_pos hk2,none_ok24]
          have h1:=errT_ne s k2
          simp only[Option.bind_some]
          rw[if_pos (by simpa using h1.1)]
          unfold errR
          rw[h1.2]
        · rw[if_neg (by simp[hk2]),if_neg hk2]
          simp only[Option.bind_some]
          rw[if_neg (by decide),ref24_Fit_eq _ (bigR hs hc b2)]
          simp only[Option.bind_some]
          cases fitF (S_api_Formula.mk v cl l) <;> rfl
  · rw[if_neg hlt]
    unfold refTail
    simp only
    rw[if_neg (by simp[hlt])]
    simp only[Option.bind_some]
    rw[if_neg (by decide),ref24_Fit_eq _ (bigR hs hc (Nat.zero_le _))]
    simp only[Option.bind_some]
    cases fitF (S_api_Formula.mk v cl []) <;> rfl
theorem errC_0 {e:Int} (he:e≠0) (k:Nat) (v n:Int):Option.bind (loopC (cnf_Read_l1 s n) ((k:Int),e,(k:Int),[],0)) (cnfTail s v)=some (errR (e,k)):=by
  rw[clauses_no he]
  exact tailC_err he k v []
theorem errR_0 {e:Int} (he:e≠0) (k:Nat) (v n:Int):Option.bind (loopC (ref24_Read_l2 s n) ((k:Int),e,[],0)) (refTail s v)=some (errR (e,k)):=by
  rw[clausesR_no he]
  exact tailR_err he k v []
theorem cnf_Read_eq (s:Str):cnf_Read s=some (readT s):=by
  rw[cnf_Read_u]
  unfold readT
  by_cases hbig:65536 < s.length
  · rw[if_pos (by rw[decide_eq_true_eq]; omega),if_pos hbig]
  · have hs:s.length≤65536:=by omega
    have hm0:cnf_reader_must s 0 0 0 [112,32,99,110,102,32]=some (stC (mustT s hdrS 0)):=must_ok hs (t:=hdrS) (by decide) (Nat.zero_le s.length)
    have hmb:=mustT_le hdrS 0 (Nat.zero_le s.length)
    rw[if_neg (by rw[decide_eq_true_eq]; omega),if_neg hbig,hm0]
    simp only[Option.bind_some]
    cases h1:mustT s hdrS 0 with
    | inl e=>
      obtain⟨e,k⟩:=e
      have he:=(hmb.2 e k h1).1
      simp only[stC]
      rw[num_no he]
      simp only[Option.bind_some]
      rw[must_no he]
      simp only[Option.bind_some]
      rw[num_no he]
      simp only[Option.bind_some]
      rw[must_no he]
      exact errC_0 he k _ _
    | inr i1=>
      obtain⟨_,hi1⟩:=hmb.1 i1 h1
      simp only[stC]
      rw[numC_eq hs false hi1]
      have hu:=numC_u hi1
      have hnb:=numT_le hi1
      cases h2:numT s i1 with
      | inl e=>
        obtain⟨er,p⟩:=e
        rw[h2] at hu
        simp only at hu
        obtain⟨x,a,b,c,hx⟩:∃ x a b c,numC s false i1=(x,a,b,c):=⟨_,_,_,_,rfl⟩
        rw[hx] at hu ⊢
        simp only[Option.bind_some]
        rw[must_lag hs hu (c:=32) (by decide) (by simp)]
        simp only[Option.bind_some]
        rw[num_no hu.1]
        simp only[Option.bind_some]
        rw[must_no hu.1]
        exact errC_0 hu.1 p _ _
      | inr r=>
        obtain⟨v,i2⟩:=r
        obtain⟨_,hi2,_,_⟩:=hnb.2 v i2 h2
        rw[h2] at hu
        simp only at hu
        rw[hu]
        simp only[Option.bind_some]
        rw[must_ok hs (by simp) hi2]
        simp only[Option.bind_some]
        rcases must1 (s:=s) (c:=32) (i:=i2) hi2 with ⟨e,h3,he,_⟩ | ⟨h3,_,hi3⟩
        · rw[h3]
          simp only[stC]
          rw[num_no he]
          simp only[Option.bind_some]
          rw[must_no he]
          exact errC_0 he i2 _ _
        · rw[h3]
          simp only[stC]
          have hi3:i2 + 1≤s.length:=hi3
          rw[numC_eq hs false hi3]
          have hu:=numC_u hi3
          have hnb:=numT_le hi3
          cases h4:numT s (i2 + 1) with
          | inl e=>
            obtain⟨er,p⟩:=e
            rw[h4] at hu
            simp only at hu
            obtain⟨x,a,b,c,hx⟩:∃ x a b c,numC s false (i2 + 1)=(x,a,b,c):=⟨_,_,_,_,rfl⟩
            rw[hx] at hu ⊢
            simp only[Option.bind_some]
            rw[must_lag hs hu (c:=10) (by decide) (by simp)]
            exact errC_0 hu.1 p _ _
          | inr r=>
            obtain⟨n,i4⟩:=r
            obtain⟨_,hi4,_,_⟩:=hnb.2 n i4 h4
            rw[h4] at hu
            simp only at hu
            rw[hu]
            simp only[Option.bind_some]
            rw[must_ok hs (by simp) hi4]
            simp only[Option.bind_some]
            rcases must1 (s:=s) (c:=10) (i:=i4) hi4 with ⟨e,h5,he,_⟩ | ⟨h5,_,hi5⟩
            · rw[h5]
              exact errC_0 he i4 _ _
            · rw[h5]
              simp only[stC]
              have hi5:i4 + 1≤s.length:=hi5
              obtain⟨cl,g1,g2⟩:=clausesC hs n (s.length + 1) (i4 + 1) 0 [] (by omega) hi5 (Nat.zero_le _) (Int.le_refl _) (by omega)
              obtain⟨b1,b2⟩:=clausesT_le (s:=s) n (s.length + 1) (i4 + 1) 0 [] (by omega) hi5 (fun c hc=>by cases hc) (Nat.zero_le _)
              rw[g1]
              simp only[Option.bind_some]
              cases h6:clausesT s n (s.length + 1) (i4 + 1) 0 [] with
              | inl e=>
                obtain⟨e,k⟩:=e
                exact tailC_err (b1 e k h6).1 k v cl
              | inr r=>
                obtain⟨c,k⟩:=r
                obtain⟨b3,_,b5⟩:=b2 c k h6
                rw[g2 c k h6]
                exact tailC hs b3 v b5
theorem ref24_Read_eq (s:Str):ref24_Read s=some (readT s):=by
  rw[ref24_Read_u]
  unfold readT
  by_cases hbig:65536 < s.length
  · rw[if_pos (by rw[decide_eq_true_eq]; omega),if_pos hbig]
  · have hs:s.length≤65536:=by omega
    have hm0:ref24_Reader_all s 0 0 [112,32,99,110,102,32]=some (stR (mustT s hdrS 0)):=all_ok24 hs (t:=hdrS) (by decide) (Nat.zero_le s.length)
    have hmb:=mustT_le hdrS 0 (Nat.zero_le s.length)
    rw[if_neg (by rw[decide_eq_true_eq]; omega),if_neg hbig,hm0]
    simp only[Option.bind_some]
    cases h1:mustT s hdrS 0 with
    | inl e=>
      obtain⟨e,k⟩:=e
      have he:=(hmb.2 e k h1).1
      simp only[stR]
      rw[numR_no he]
      simp only[Option.bind_some]
      rw[all_no24 he]
      simp only[Option.bind_some]
      rw[numR_no he]
      simp only[Option.bind_some]
      rw[all_no24 he]
      exact errR_0 he k _ _
    | inr i1=>
      obtain⟨_,hi1⟩:=hmb.1 i1 h1
      simp only[stR]
      rw[numR_eq hs hi1]
      have hnb:=numT_le hi1
      cases h2:numT s i1 with
      | inl e=>
        obtain⟨er,p⟩:=e
        have he:=(hnb.1 er p h2).1
        simp only[rsR,Option.bind_some]
        rw[all_no24 he]
        simp only[Option.bind_some]
        rw[numR_no he]
        simp only[Option.bind_some]
        rw[all_no24 he]
        exact errR_0 he p _ _
      | inr r=>
        obtain⟨v,i2⟩:=r
        obtain⟨_,hi2,_,_⟩:=hnb.2 v i2 h2
        simp only[rsR,Option.bind_some]
        rw[all_ok24 hs (by simp) hi2]
        simp only[Option.bind_some]
        rcases must1 (s:=s) (c:=32) (i:=i2) hi2 with ⟨e,h3,he,_⟩ | ⟨h3,_,hi3⟩
        · rw[h3]
          simp only[stR]
          rw[numR_no he]
          simp only[Option.bind_some]
          rw[all_no24 he]
          exact errR_0 he i2 _ _
        · rw[h3]
          simp only[stR]
          have hi3:i2 + 1≤s.length:=hi3
          rw[numR_eq hs hi3]
          have hnb:=numT_le hi3
          cases h4:numT s (i2 + 1) with
          | inl e=>
            obtain⟨er,p⟩:=e
            have he:=(hnb.1 er p h4).1
            simp only[rsR,Option.bind_some]
            rw[all_no24 he]
            exact errR_0 he p _ _
          | inr r=>
            obtain⟨n,i4⟩:=r
            obtain⟨_,hi4,_,_⟩:=hnb.2 n i4 h4
            simp only[rsR,Option.bind_some]
            rw[all_ok24 hs (by simp) hi4]
            simp only[Option.bind_some]
            rcases must1 (s:=s) (c:=10) (i:=i4) hi4 with ⟨e,h5,he,_⟩ | ⟨h5,_,hi5⟩
            · rw[h5]
              exact errR_0 he i4 _ _
            · rw[h5]
              simp only[stR]
              have hi5:i4 + 1≤s.length:=hi5
              obtain⟨cl,g1,g2⟩:=clausesR hs n (s.length + 1) (i4 + 1) 0 [] (by omega) hi5 (Nat.zero_le _) (Int.le_refl _) (by omega)
              obtain⟨b1,b2⟩:=clausesT_le (s:=s) n (s.length + 1) (i4 + 1) 0 [] (by omega) hi5 (fun c hc=>by cases hc) (Nat.zero_le _)
              rw[g1]
              simp only[Option.bind_some]
              cases h6:clausesT s n (s.length + 1) (i4 + 1) 0 [] with
              | inl e=>
                obtain⟨e,k⟩:=e
                exact tailR_err (b1 e k h6).1 k v cl
              | inr r=>
                obtain⟨c,k⟩:=r
                obtain⟨b3,_,b5⟩:=b2 c k h6
                rw[g2 c k h6]
                exact tailR hs b3 v b5
theorem readT_big (s:Str):BigF (readT s).1∧(readT s).1.Clauses.length≤65536:=by
  have hz:BigF (S_api_Formula.mk 0 [] [])∧(S_api_Formula.mk 0 [] []).Clauses.length≤65536:=⟨⟨fun c hc=>(by cases hc),Nat.zero_le _⟩,Nat.zero_le _⟩
  unfold readT
  by_cases hbig:65536 < s.length
  · rw[if_pos hbig]; exact hz
  · have hs:s.length≤65536:=by omega
    rw[if_neg hbig]
    have hmb:=mustT_le hdrS 0 (Nat.zero_le s.length)
    cases h1:mustT s hdrS 0 with
    | inl e=>exact hz
    | inr i1=>
      obtain⟨_,hi1⟩:=hmb.1 i1 h1
      simp only
      cases h2:numT s i1 with
      | inl e=>exact hz
      | inr r=>
        obtain⟨v,i2⟩:=r
        obtain⟨_,hi2,_,_⟩:=(numT_le hi1).2 v i2 h2
        simp only
        rcases must1 (s:=s) (c:=32) (i:=i2) hi2 with ⟨e,h3,he,_⟩ | ⟨h3,_,hi3⟩
        · rw[h3]; exact hz
        · rw[h3]
          simp only
          have hi3:i2 + 1≤s.length:=hi3
          cases h4:numT s (i2 + 1) with
          | inl e=>exact hz
          | inr r=>
            obtain⟨n,i4⟩:=r
            obtain⟨_,hi4,_,_⟩:=(numT_le hi3).2 n i4 h4
            simp only
            rcases must1 (s:=s) (c:=10) (i:=i4) hi4 with ⟨e,h5,he,_⟩ | ⟨h5,_,hi5⟩
            · rw[h5]; exact hz
            · rw[h5]
              simp only
              have hi5:i4 + 1≤s.length:=hi5
              obtain⟨b1,b2⟩:=clausesT_le (s:=s) n (s.length + 1) (i4 + 1) 0 [] (by omega) hi5 (fun c hc=>by cases hc) (Nat.zero_le _)
              cases h6:clausesT s n (s.length + 1) (i4 + 1) 0 [] with
              | inl e=>exact hz
              | inr r=>
                obtain⟨c,k⟩:=r
                obtain⟨b3,b4,b5⟩:=b2 c k h6
                unfold endT
                simp only
                cases ht:tailT s k with
                | inl e=>exact hz
                | inr l=>
                  simp only
                  split
                  · refine⟨bigR hs b5 ?_,by show c.length≤65536; omega⟩
                    unfold tailT at ht
                    split at ht
                    · split at ht
                      · cases ht
                      · rename_i k' hk'
                        have hk2:=((mustT_le ordS k b3).1 k' hk').2
                        split at ht
                        · cases ht
                        · rename_i l' k2 ho
                          have:=((orderT_le (s:=s) (s.length + 1) k' [] (by omega) hk2 (Nat.zero_le _)).2 l' k2 ho).2
                          split at ht
                          · cases ht
                          · cases ht; exact this
                    · cases ht; exact Nat.zero_le _
                  · exact hz
end
end Go.Vm

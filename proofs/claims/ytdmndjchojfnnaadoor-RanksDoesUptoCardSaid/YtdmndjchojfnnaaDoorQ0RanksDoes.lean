/- The law RanksDoes, a part of its proof: what the functions that it reaches compute. -/
import Derived.WalkKit
import Derived.ProofKit
import Derived.OpenShut
import Derived.Below
import Derived.ChangeSame
import Derived.Deep.DeepHandedRow
import Derived.Carry
import Derived.Test.YtdmndjchojfnnaaDoorAx3334acc9
import Derived.Test.YtdmndjchojfnnaaDoorFx6bded6a8
import Derived.Shelf.Small.Strs
import Derived.Sort.Row
import Derived.Sort.Grow
import Derived.WalkSmall
import Derived.Test.YtdmndjchojfnnaaDoorDxfbc45b43
import Derived.Shelf.Sort.Plain
import Derived.Shelf.Slices.In.SortNone
import Derived.Shelf.Slices.CompactI
import Derived.Shelf.Strconv.Itoa3
import Derived.Shelf.Strings.OnBuilder
import Derived.Deep.Strs
import Derived.Test.YtdmndjchojfnnaaDoorCx161fa23a
import Derived.Lib.SlicesCompact
import Derived.Test.YtdmndjchojfnnaaDoorG0RanksDoes
import Derived.Test.YtdmndjchojfnnaaDoorW07RanksDoes
import Derived.Lib.Join
import Derived.Test.YtdmndjchojfnnaaDoorG1RanksDoes
/- What a row asks behind a call that has left all that was there as it was. -/
namespace Go.Vm
open Go Go.RowKit Go.WideShapes Go.ChangeShapes
theorem row_below {H:Type} {enc:TypeId × Value→H} {P:Program} {f:Func} {s:ChangeSpec} {apart fresh handsOn again:Bool} {W W':World} {args:Array Value} {v:Value} {ds gs:List (DataW H)} {before pa pv:List MemPlace}
    (hW:DataW.Whole enc P f.params.toList s.vars apart W args.toList ds gs before) (hb:Below W.heap.size W W') (hp:before=pa ++ pv)
    (hr:∀ (b:Nat) (sp:Nat→Bool) (hd:Bool),DataW.TrodAll enc P W' b sp hd f.resultTypes.toList (v.resultList f.resultTypes.size) (s.fn H (ds ++ gs)).results [])
    (ha:∀ sp:Nat→Bool,(∀ p∈before,sp p.block=true)→DataW.TrodAll enc P W' 0 sp true f.params.toList args.toList (s.fn H (ds ++ gs)).args pa)
    (hv:∀ sp:Nat→Bool,(∀ p∈before,sp p.block=true)→DataW.TrodVars enc P W' sp s.vars (s.fn H (ds ++ gs)).vars pv)
    (ho:∀ (j:Nat) (t:TypeId) (r:Value),f.resultTypes[j]? = some t→(v.resultList f.resultTypes.size)[j]? = some r→Value.okWide P W' .any 0 t r) :
    s.post enc P f apart fresh handsOn again W args v W':=by
  have small:∀ p∈before,decide (p.block < W.heap.size)=true:=fun p h=>decide_eq_true (hW.lt p h)
  refine⟨ds,gs,before,[],pa,pv,hW,hr _ _ _,ha (fun b=>decide (b < W.heap.size)) small,hv _ small,hb.frame _,fun _=>⟨ho,?_⟩⟩
  obtain⟨_,_,_,_,_,hz,hn⟩:=hW
  refine⟨_,_,([] ++ pa) ++ pv,⟨[] ++ pa,pv,trodAll_append (ha _ fun _ _=>rfl) (hr _ _ _),hv _ fun _ _=>rfl,rfl,fun b off hm=>?_,fun h=>?_⟩,?_⟩
  · have hm':MemPlace.cell b off∈before:=by rw[hp]; simpa using hm
    rw[hb.frozen (of_decide_eq_true (small _ hm'))]
    exact hz b off hm'
  · have:=hn h
    rw[hp] at this
    simpa using this
  · intro x hx _
    rw[hp]
    simpa using hx
end Go.Vm
/- From what a row lists of the library's tables to what the evaluator asks. -/
namespace Go.Vm
open Go
theorem tab_of_vars {P:Program} {W:World} {name:String} {k:IntKind} {zs:List Int} {g:Nat} {t e:TypeId} {n:Nat}
    (hg:P.globalNamed name=some g) (hty:(P.globals[g]?).map (·.type)=some t) (ht:P.underlying t=some (.array n e)) (he:P.underlying e=some (.int k)) (hce:P.cellsOf e=1) (hct:P.cellsOf t=n) :
    ∀ {laid:List (String × DataW Unit)} {ps:List MemPlace},DataW.LaidVars P W laid ps→(name,Lib.tabData k zs)∈laid→Lib.TabIs P W name k zs
  | [],_,_,hm=>by cases hm
  | (x,d) :: laid,ps,h,hm=>by
    obtain⟨g',t',cs,fuel,p,q,hg',ht',hvar,hd,hr,_⟩:=h
    rcases List.mem_cons.1 hm with hm | hm
    · cases hm
      obtain rfl:=Option.some.inj (hg.symm.trans hg')
      obtain rfl:=Option.some.inj (hty.symm.trans ht')
      unfold Lib.TabIs
      rw[hvar,← Lib.cells_of_tab ht he hce hct hd]
    · exact tab_of_vars hg hty ht he hce hct hr hm
theorem cells_of_tabIs {P:Program} {W:World} {name:String} {k:IntKind} {zs:List Int} {g:Nat} (h:Lib.TabIs P W name k zs) (hg:P.globalNamed name=some g) :
    g < W.heap.size∧∃ T fz,W.heap[g]? = some (.cells (zs.map fun z=>Value.int k z).toArray T fz):=by
  unfold Lib.TabIs World.var? at h
  rw[hg] at h
  simp only[Option.bind_some] at h
  split at h
  · rename_i cs T fz e
    cases h
    exact⟨(Array.getElem?_eq_some_iff.1 e).1,T,fz,e⟩
  · cases h
end Go.Vm
/- Functions that are taken for known: from what the shelf says of them. -/
set_option linter.unusedVariables false
set_option linter.unusedSimpArgs false
namespace Go.Vm
open Go Go.RowKit
theorem post_below {K:Cx} {base:Nat} {h:AHeap} (H:HRel K base h) {v:AV} {cv:Value} {w':World} (hb:Below K.w.heap.size K.w w') (hv:∀ K',VRel K' v cv):CallPost K base h K.c v (.returned cv) w':=by
  let K':Cx:={ K with w:=w' }
  have S:K.Step K':=⟨Nat.le_refl _,fun _ _=>rfl,hb.os,hb.tape,hb.output,hb.size,fun b h1 h2=>⟨hb.block b h1,h2⟩,rfl,fun l ⟨R,hR⟩=>⟨R,(hb.block l (by
    rcases Nat.lt_or_ge l K.w.heap.size with hlt | hge
    · exact hlt
    · rw[Array.getElem?_eq_none hge] at hR; cases hR)).trans hR⟩⟩
  exact⟨K',cv,rfl,rfl,S,H.step S (fun b hL=>hb.block b (H.bs b hL).2) rfl,rfl,hv K'⟩
def strsB:List (List AV)→Option (List ByteArray)
  | []=>some []
  | [.s (.string b)] :: rs=>(strsB rs).map fun l=>b :: l
  | _=>none
theorem strsB_ok:∀ {rows:List (List AV)} {l:List Str},strsOf rows=some l→∃ xs,strsB rows=some xs∧xs.map (·.data.toList)=l∧xs.length=rows.length
  | [],l,h=>by cases h; exact⟨[],rfl,rfl,rfl⟩
  | r :: rs,l,h=>by
    unfold strsOf at h
    split at h
    · rename_i e; cases e
    · rename_i b rs' e
      cases e
      obtain⟨l2,h1,rfl⟩:=Option.map_eq_some_iff.1 h
      obtain⟨xs,h2,h3,h4⟩:=strsB_ok h1
      exact⟨b :: xs,by simp only[strsB,h2,Option.map_some],by simp[h3],by simp[h4]⟩
    · cases h
theorem strs_cells {K:Cx} {b:Nat}:∀ {rows:List (List AV)} {xs:List ByteArray} {o:Nat},strsB rows=some xs→RRel K.frz b o 1 rows→∀ (j:Nat) x,xs[j]? = some x→K.w.cell? ⟨b,o + j,none⟩=some (.string x)∧b < K.w.heap.size
  | [],xs,o,h,_,j,x,hx=>by cases h; simp at hx
  | r :: rs,xs,o,h,hr,j,x,hx=>by
    unfold strsB at h
    split at h
    · rename_i e; cases e
    · rename_i b' rs' e
      cases e
      obtain⟨l2,h1,rfl⟩:=Option.map_eq_some_iff.1 h
      simp only[RRel] at hr
      obtain⟨_,hc,hrest⟩:=hr
      cases j with
      | zero=>
        simp only[List.getElem?_cons_zero,Option.some.injEq] at hx
        subst hx
        simp only[CRel,VRel,and_true] at hc
        obtain⟨v,h2,h3,h4,h5⟩:=hc
        subst h5
        exact⟨h3,h2.1⟩
      | succ j=>
        have:=strs_cells h1 hrest j x (by simpa using hx)
        rw[show o + (j + 1)=o + 1 + j by omega]
        exact this
    · cases h
theorem prim_join {P:Program} {g:FuncId} (h0:∀ (a:Option Addr) (c:Nat) (sep:ByteArray) (w:World),Calls P g #[.slice a 0 c,.string sep] w fun e w'=>e = .returned (.string ⟨#[]⟩)∧w' = w)
    (h1:∀ (bk o c:Nat) (xs:List ByteArray) (sep:ByteArray) (w:World),(∀ (j:Nat) x,xs[j]? = some x→w.cell? ⟨bk,o + j,none⟩=some (.string x))→bk < w.heap.size→xs.length≤140737488355328→xs.length≤c→(Lib.join (xs.map (·.data.toList)) sep.data.toList).length≤140737488355328 →
      Calls P g #[.slice (some ⟨bk,o,none⟩) xs.length c,.string sep] w fun e w'=>e = .returned (.string ⟨(Lib.join (xs.map (·.data.toList)) sep.data.toList).toArray⟩)∧Below w.heap.size w w') :
    ∀ args v,joinP args=some v→∀ (K:Cx) (base:Nat) (h:AHeap) (cargs:Array Value),HRel K base h→VRels K args cargs.toList→∀ N,CallsIn Fence.wide N P g cargs K.w (CallPost K base h K.c v):=fun args v hp K base h cargs H hr N=>by
  unfold joinP at hp
  split at hp
  · rename_i x sep
    split at hp
    · rename_i l hl
      split at hp
      · rename_i hbound
        cases hp
        obtain⟨cl,rfl⟩:∃ l:List Value,cargs=l.toArray:=⟨cargs.toList,by simp⟩
        match cl,hr with
        | [y,z],hr=>
          simp only[VRels] at hr
          obtain⟨hx,hz,_⟩:=hr
          simp only[VRel] at hz
          subst hz
          have empty:∀ (a:Option Addr) (c:Nat),l=[]→CallsIn Fence.wide N P g #[.slice a 0 c,.string sep] K.w (CallPost K base h K.c (.s (.string ⟨(Lib.join l sep.data.toList).toArray⟩))):=fun a c e=>by
            subst e
            refine callsIn_wide.2 ((h0 a c sep K.w).mono ?_)
            rintro e w' ⟨rfl,rfl⟩
            exact post_below H (Below.refl _ _) fun K'=>by simp[VRel,Lib.join_nil]
          unfold strRow at hl
          split at hl
          · cases hl
            simp only[VRel] at hx
            subst hx
            exact empty none 0 rfl
          · cases hl
            simp only[VRel] at hx
            obtain⟨A,rfl,_⟩:=hx
            exact empty A 0 rfl
          · rename_i rows
            obtain⟨xs,e1,e2,e3⟩:=strsB_ok hl
            simp only[VRel] at hx
            obtain⟨A,cap,rfl,_,hcap,hcells⟩:=hx
            rcases hcells with hc | ⟨b,o,rfl,hc⟩
            · subst hc
              have:l=[]:=by cases hl; rfl
              exact empty A cap this
            · cases hxs:xs with
              | nil=>
                rw[hxs] at e2 e3
                have hrl:rows.length=0:=e3.symm
                rw[hrl]
                exact empty _ cap e2.symm
              | cons x0 xs0=>
                have hb:b < K.w.heap.size:=(strs_cells e1 hc 0 x0 (by rw[hxs]; rfl)).2
                rw[← e2] at hbound ⊢
                rw[← e3] at hcap ⊢
                refine callsIn_wide.2 ((h1 b o cap xs sep K.w (fun j x hj=>(strs_cells e1 hc j x hj).1) hb (by have:=hbound.1; simp at this; omega) hcap hbound.2).mono ?_)
                rintro e w' ⟨rfl,hbl⟩
                exact post_below H hbl fun K'=>by simp[VRel]
          · cases hl
        | [],hr=>simp[VRels] at hr
        | [_],hr=>simp[VRels] at hr
        | _ :: _ :: _ :: _,hr=>simp[VRels] at hr
      · cases hp
    · cases hp
  · cases hp
theorem prim_lift {P:Program} {g:FuncId} {p:List AV→Option AV} (hf:∀ args v,p args=some v→∀ (K:Cx) (base:Nat) (h:AHeap) (cargs:Array Value),HRel K base h→VRels K args cargs.toList→∀ N,CallsIn Fence.wide N P g cargs K.w (CallPost K base h K.c v)) :
    ∀ args h n v h' n',liftM p args h n=some (v,h',n')→∀ (K:Cx) (base:Nat) (cargs:Array Value),HRel K base h→K.c=n→VRels K args cargs.toList→∀ N,CallsIn Fence.wide N P g cargs K.w (CallPost K base h' n' v):=fun args h n v h' n' hp K base cargs H hc hr N=>by
  unfold liftM at hp
  obtain⟨v2,h1,h2⟩:=Option.map_eq_some_iff.1 hp
  cases h2
  subst hc
  exact hf args v h1 K base h cargs H hr N
end Go.Vm
/- Rows that the library sorts: known functions that change memory. -/
namespace Go.Vm
open Go Go.RowKit Go.Sort
section
variable {α:Type}
theorem prim_sort [Inhabited α] {P:Program} {g:FuncId} {dec:AV→Option α} {enc:α→Value} {srt:List α→List α} (hd:∀ c x,dec c=some x→c = .s (enc x)) (hl:∀ zs,(srt zs).length=zs.length) (h1c:∀ x,(enc x).oneCell' = true)
    (h0:∀ (p:Option Addr) (cap:Nat) (w:World),Calls P g #[.slice p 0 cap] w fun e w'=>e = .returned (.tuple #[])∧w' = w)
    (h1:∀ (blk off cap:Nat) (zs:List α) (w:World),Holds enc w blk off zs.toArray→blk < w.heap.size→zs.length < 4611686018427387904→Calls P g #[.slice (some ⟨blk,off,none⟩) zs.length cap] w fun e w'=>e = .returned (.tuple #[])∧∃ n os,w' = grow (putRow enc (Sort.ahead w n) blk off (srt zs).toArray) os) :
    ∀ args h n v h' n',sortM dec enc srt args h n=some (v,h',n')→∀ (K:Cx) (base:Nat) (cargs:Array Value),HRel K base h→K.c=n→VRels K args cargs.toList→∀ N,CallsIn Fence.wide N P g cargs K.w (CallPost K base h' n' v):=fun args h n v h' n' hp K base cargs H hc hr N=>by
  subst hc
  obtain⟨cl,rfl⟩:∃ l:List Value,cargs=l.toArray:=⟨cargs.toList,by simp⟩
  have triv:∀ (p:Option Addr) (cap:Nat),CallsIn Fence.wide N P g #[.slice p 0 cap] K.w (CallPost K base h K.c (.tup [])):=fun p cap=>by
    refine callsIn_wide.2 ((h0 p cap K.w).mono ?_)
    rintro e w' ⟨rfl,rfl⟩
    exact post_below H (Below.refl _ _) fun K'=>by simp[VRel,VRels]
  match args,cl,hr,hp with
  | [x],[y],hr,hp=>
    simp only[VRels,and_true] at hr
    unfold sortM at hp
    split at hp
    · rename_i id off len e0
      cases e0
      simp only[VRel] at hr
      obtain⟨hlt,a,cap,rfl,e1,e2,e3⟩:=hr
      split at hp
      · rename_i hz
        cases hp
        subst hz
        exact triv _ _
      · rename_i hz
        split at hp
        · rename_i R hid
          split at hp
          · rename_i zs hzs
            split at hp
            · rename_i hb
              cases hp
              obtain⟨hb1,hb2⟩:=hb
              have hrow:=rowsD_ok hd hzs
              have ha:a=⟨(K.ι id).1,((K.ι id).2.1 + off) * 1,none⟩:=e3.resolve_left (by omega)
              subst ha
              rw[Nat.mul_one]
              obtain⟨arr,T,fz,o1,o2,o3,o4,o5⟩:=H.obj id _ hid
              have hR:off + len≤R.length:=by
                have:=congrArg List.length hrow
                simp only[List.length_take,List.length_drop,List.length_map] at this
                omega
              have hget:∀ j x,zs[j]? = some x→arr[(K.ι id).2.1 + off + j]? = some (enc x):=fun j x hj=>by
                have hj2:j < len:=by rw[← hb1]; exact (List.getElem?_eq_some_iff.1 hj).1
                have h2:R[off + j]? = some [AV.s (enc x)]:=by
                  have:=congrArg (fun l=>l[j]?) hrow
                  simp only[List.getElem?_map,hj,Option.map_some] at this
                  rw[List.getElem?_take_of_lt hj2,List.getElem?_drop] at this
                  exact this
                obtain⟨_,h3⟩:=o5 _ _ h2
                obtain⟨v,h4,h5,h6⟩:=h3 0 _ rfl
                simp only[VRel] at h6
                subst h6
                rw[← h4]
                congr 1
                omega
              have hH:Holds enc K.w (K.ι id).1 ((K.ι id).2.1 + off) zs.toArray:=fun j hj=>by
                have hj':j < zs.length:=by simpa using hj
                refine⟨?_,?_⟩
                · simp only[World.cell?,o1,Option.isSome_none,Bool.false_eq_true,if_false]
                  rw[hget j zs[j] (List.getElem?_eq_getElem hj')]
                  simp[hj']
                · simp only[World.frozen?,o1]
                  have hlt2:(K.ι id).2.1 + off + j < arr.size:=by
                    rw[o2]; omega
                  have:=o3 _ hlt2
                  simpa using this
              have hblk:(K.ι id).1 < K.w.heap.size:=(H.bs _ (H.L id _ hid)).2
              rw[← hb1]
              refine callsIn_wide.2 ((h1 _ _ cap zs K.w hH hblk (by omega)).mono ?_)
              rintro e w' ⟨rfl,nn,os,rfl⟩
              have hsz:(putRow enc (Sort.ahead K.w nn) (K.ι id).1 ((K.ι id).2.1 + off) (srt zs).toArray).heap.size=K.w.heap.size:=by simp[Sort.ahead]
              have hother:∀ b,b < K.w.heap.size→b≠(K.ι id).1→(grow (putRow enc (Sort.ahead K.w nn) (K.ι id).1 ((K.ι id).2.1 + off) (srt zs).toArray) os).heap[b]? = K.w.heap[b]?:=fun b h2 h3=>by
                rw[heap_grow_old _ _ (by rw[hsz]; exact h2)]
                simp[putRow,mapBlock,Sort.ahead,Array.getElem?_modify,Ne.symm h3]
              have hsame:(grow (putRow enc (Sort.ahead K.w nn) (K.ι id).1 ((K.ι id).2.1 + off) (srt zs).toArray) os).heap[(K.ι id).1]? = some (.cells (putCells enc ((K.ι id).2.1 + off) (srt zs).toArray arr) T fz):=by
                rw[heap_grow_old _ _ (by rw[hsz]; exact hblk)]
                simp[putRow,mapBlock,Sort.ahead,Array.getElem?_modify,o1,onCells]
              generalize hw':grow (putRow enc (Sort.ahead K.w nn) (K.ι id).1 ((K.ι id).2.1 + off) (srt zs).toArray) os=w' at hother hsame
              have hsz':K.w.heap.size≤w'.heap.size:=by
                rw[← hw']
                simp[grow,Sort.ahead]
              let K':Cx:={ K with w:=w' }
              have S:K.Step K':=by
                refine⟨Nat.le_refl _,fun _ _=>rfl,?_,?_,?_,hsz',fun b h2 h3=>⟨hother b h2 fun e=>h3 (by rw[e]; exact H.L id _ hid),h3⟩,rfl,fun l ⟨Lp,hLp⟩=>⟨Lp,?_⟩⟩
                · show w'.os=_; rw[← hw']; rfl
                · show w'.tape=_; rw[← hw']; rfl
                · show w'.output=_; rw[← hw']; rfl
                · refine (hother l (heap_lt_of hLp) fun e=>?_).trans hLp
                  rw[e,o1] at hLp
                  cases hLp
              have hput:∀ j,(putCells enc ((K.ι id).2.1 + off) (srt zs).toArray arr)[j]? = if (K.ι id).2.1 + off≤j∧j < (K.ι id).2.1 + off + len then ((srt zs)[j - ((K.ι id).2.1 + off)]?).map enc else arr[j]?:=fun j=>by
                have hq:(srt zs).length=len:=by rw[hl,hb1]
                unfold putCells
                rw[Array.getElem?_mapIdx]
                simp only[List.size_toArray,hq]
                by_cases hin:(K.ι id).2.1 + off≤j∧j < (K.ι id).2.1 + off + len
                · have hlt2:j < arr.size:=by rw[o2]; omega
                  have hlt3:j - ((K.ι id).2.1 + off) < (srt zs).length:=by omega
                  simp[hin,hlt2,hlt3]
                · simp only[if_neg hin]
                  cases arr[j]? <;> rfl
              refine⟨K',.tuple #[],rfl,rfl,S,?_,rfl,by simp[VRel,VRels]⟩
              refine H.put S id _ (fun j p hj hp=>⟨hother _ (H.bs _ (H.L j p hp)).2 (H.inj j id p _ hp hid hj),H.L j p hp⟩) (fun b hb=>⟨(H.bs b hb).1,Nat.lt_of_lt_of_le (H.bs b hb).2 hsz'⟩) (fun p hp=>?_)
              cases hp
              refine⟨H.lt id _ hid,H.L id _ hid,⟨_,T,fz,hsame,?_,?_,?_,fun i r hi=>?_⟩,fun j q hj hq=>H.inj j id q _ hq hid hj⟩
              · simp[putCells,o2,K']
              · intro i hi; exact o3 i (by simpa[putCells] using hi)
              · simp only[List.length_append,List.length_take,List.length_map,List.length_drop,hl]
                show _≤(K.ι id).2.2
                omega
              · show r.length=1∧CellsRel K' _ (((K.ι id).2.1 + i) * 1) r
                have hlm:(((srt zs).map fun x=>[AV.s (enc x)])).length=len:=by rw[List.length_map,hl,hb1]
                have hlt:(R.take off).length=off:=by rw[List.length_take]; omega
                by_cases hc1:i < off
                · rw[List.append_assoc,List.getElem?_append_left (by rw[hlt]; exact hc1),List.getElem?_take_of_lt hc1] at hi
                  obtain⟨g1,g2⟩:=o5 i r hi
                  refine⟨g1,fun j c hj=>?_⟩
                  have hj0:j=0:=by have:=(List.getElem?_eq_some_iff.1 hj).1; omega
                  subst hj0
                  obtain⟨v,g3,g4,g5⟩:=g2 0 c hj
                  refine⟨v,?_,g4,g5.mono S.le⟩
                  rw[hput,if_neg (by omega)]
                  exact g3
                · by_cases hc2:i < off + len
                  · rw[List.getElem?_append_left (by rw[List.length_append,hlt,hlm]; omega),List.getElem?_append_right (by omega),hlt,List.getElem?_map] at hi
                    obtain⟨x,hx1,rfl⟩:=Option.map_eq_some_iff.1 hi
                    refine⟨rfl,fun j c hj=>?_⟩
                    have hj0:j=0:=by have:=(List.getElem?_eq_some_iff.1 hj).1; simp at this; omega
                    subst hj0
                    simp only[List.getElem?_cons_zero,Option.some.injEq] at hj
                    subst hj
                    refine⟨enc x,?_,h1c x,by simp[VRel]⟩
                    rw[hput,if_pos (by omega),show ((K.ι id).2.1 + i) * 1 + 0 - ((K.ι id).2.1 + off)=i - off by omega,hx1]
                    rfl
                  · rw[List.getElem?_append_right (by rw[List.length_append,hlt,hlm]; omega),List.length_append,hlt,hlm,List.getElem?_drop,show off + zs.length + (i - (off + len))=i by omega] at hi
                    obtain⟨g1,g2⟩:=o5 i r hi
                    refine⟨g1,fun j c hj=>?_⟩
                    have hj0:j=0:=by have:=(List.getElem?_eq_some_iff.1 hj).1; omega
                    subst hj0
                    obtain⟨v,g3,g4,g5⟩:=g2 0 c hj
                    refine⟨v,?_,g4,g5.mono S.le⟩
                    rw[hput,if_neg (by omega)]
                    exact g3
            · cases hp
          · cases hp
        · cases hp
    · rename_i e0
      cases e0
      cases hp
      simp only[VRel] at hr
      subst hr
      exact triv _ _
    · rename_i e0
      cases e0
      cases hp
      simp only[VRel] at hr
      obtain⟨A,rfl,_⟩:=hr
      exact triv _ _
    · cases hp
  | [],_,_,hp=>simp[sortM] at hp
  | _ :: _ :: _,_,_,hp=>simp[sortM] at hp
  | [_],[],hr,_=>simp[VRels] at hr
  | [_],_ :: _ :: _,hr,_=>simp[VRels] at hr
end
end Go.Vm
/- Rows that the library compacts: known functions that change memory. -/
namespace Go.Vm
open Go Go.RowKit Go.Sort
section
variable {α:Type}
theorem prim_cpt [Inhabited α] {P:Program} {g:FuncId} {dec:AV→Option α} {enc:α→Value} {z:α} {cpt:List α→List α} (hd:∀ c x,dec c=some x→c = .s (enc x)) (hcl:∀ zs,(cpt zs).length≤zs.length) (h1c:∀ x,(enc x).oneCell' = true)
    (h0:∀ (p:Option Addr) (cap:Nat) (w:World),Calls P g #[.slice p 0 cap] w fun e w'=>e = .returned (.slice p 0 cap)∧w' = w)
    (h1:∀ (blk off cap:Nat) (zs:List α) (w:World),Holds enc w blk off zs.toArray→blk < w.heap.size→zs.length < 4611686018427387904→zs.length≤cap→Calls P g #[.slice (some ⟨blk,off,none⟩) zs.length cap] w fun e w'=>e = .returned (.slice (some ⟨blk,off,none⟩) (cpt zs).length cap)∧∃ n,w' = putRow enc (Sort.ahead w n) blk off (zfill z cpt zs).toArray) :
    ∀ args h n v h' n',cptM dec enc z cpt args h n=some (v,h',n')→∀ (K:Cx) (base:Nat) (cargs:Array Value),HRel K base h→K.c=n→VRels K args cargs.toList→∀ N,CallsIn Fence.wide N P g cargs K.w (CallPost K base h' n' v):=fun args h n v h' n' hp K base cargs H hc hr N=>by
  subst hc
  obtain⟨cl,rfl⟩:∃ l:List Value,cargs=l.toArray:=⟨cargs.toList,by simp⟩
  have hl:∀ zs,(zfill z cpt zs).length=zs.length:=fun zs=>zfill_len hcl zs
  have triv:∀ (p:Option Addr) (cap:Nat) (v:AV),VRel K v (.slice p 0 cap)→CallsIn Fence.wide N P g #[.slice p 0 cap] K.w (CallPost K base h K.c v):=fun p cap v hv=>by
    refine callsIn_wide.2 ((h0 p cap K.w).mono ?_)
    rintro e w' ⟨rfl,rfl⟩
    exact⟨K,_,rfl,rfl,Cx.Step.refl K,H,rfl,hv⟩
  match args,cl,hr,hp with
  | [x],[y],hr,hp=>
    simp only[VRels,and_true] at hr
    have hr0:=hr
    unfold cptM at hp
    split at hp
    · rename_i id off len e0
      cases e0
      simp only[VRel] at hr
      obtain⟨hlt,a,cap,rfl,e1,e2,e3⟩:=hr
      split at hp
      · rename_i hz
        cases hp
        subst hz
        exact triv _ _ _ hr0
      · rename_i hz
        split at hp
        · rename_i R hid
          split at hp
          · rename_i zs hzs
            split at hp
            · rename_i hb
              cases hp
              obtain⟨hb1,hb2⟩:=hb
              have hrow:=rowsD_ok hd hzs
              have ha:a=⟨(K.ι id).1,((K.ι id).2.1 + off) * 1,none⟩:=e3.resolve_left (by omega)
              subst ha
              rw[Nat.mul_one]
              obtain⟨arr,T,fz,o1,o2,o3,o4,o5⟩:=H.obj id _ hid
              have hR:off + len≤R.length:=by
                have:=congrArg List.length hrow
                simp only[List.length_take,List.length_drop,List.length_map] at this
                omega
              have hget:∀ j x,zs[j]? = some x→arr[(K.ι id).2.1 + off + j]? = some (enc x):=fun j x hj=>by
                have hj2:j < len:=by rw[← hb1]; exact (List.getElem?_eq_some_iff.1 hj).1
                have h2:R[off + j]? = some [AV.s (enc x)]:=by
                  have:=congrArg (fun l=>l[j]?) hrow
                  simp only[List.getElem?_map,hj,Option.map_some] at this
                  rw[List.getElem?_take_of_lt hj2,List.getElem?_drop] at this
                  exact this
                obtain⟨_,h3⟩:=o5 _ _ h2
                obtain⟨v,h4,h5,h6⟩:=h3 0 _ rfl
                simp only[VRel] at h6
                subst h6
                rw[← h4]
                congr 1
                omega
              have hH:Holds enc K.w (K.ι id).1 ((K.ι id).2.1 + off) zs.toArray:=fun j hj=>by
                have hj':j < zs.length:=by simpa using hj
                refine⟨?_,?_⟩
                · simp only[World.cell?,o1,Option.isSome_none,Bool.false_eq_true,if_false]
                  rw[hget j zs[j] (List.getElem?_eq_getElem hj')]
                  simp[hj']
                · simp only[World.frozen?,o1]
                  have hlt2:(K.ι id).2.1 + off + j < arr.size:=by
                    rw[o2]; omega
                  have:=o3 _ hlt2
                  simpa using this
              have hblk:(K.ι id).1 < K.w.heap.size:=(H.bs _ (H.L id _ hid)).2
              rw[← hb1]
              refine callsIn_wide.2 ((h1 _ _ cap zs K.w hH hblk (by omega) (by omega)).mono ?_)
              rintro e w' ⟨rfl,nn,rfl⟩
              have hsz:(putRow enc (Sort.ahead K.w nn) (K.ι id).1 ((K.ι id).2.1 + off) (zfill z cpt zs).toArray).heap.size=K.w.heap.size:=by simp[Sort.ahead]
              have hother:∀ b,b < K.w.heap.size→b≠(K.ι id).1→(putRow enc (Sort.ahead K.w nn) (K.ι id).1 ((K.ι id).2.1 + off) (zfill z cpt zs).toArray).heap[b]? = K.w.heap[b]?:=fun b h2 h3=>by
                simp[putRow,mapBlock,Sort.ahead,Array.getElem?_modify,Ne.symm h3]
              have hsame:(putRow enc (Sort.ahead K.w nn) (K.ι id).1 ((K.ι id).2.1 + off) (zfill z cpt zs).toArray).heap[(K.ι id).1]? = some (.cells (putCells enc ((K.ι id).2.1 + off) (zfill z cpt zs).toArray arr) T fz):=by
                simp[putRow,mapBlock,Sort.ahead,Array.getElem?_modify,o1,onCells]
              generalize hw':putRow enc (Sort.ahead K.w nn) (K.ι id).1 ((K.ι id).2.1 + off) (zfill z cpt zs).toArray=w' at hother hsame
              have hsz':K.w.heap.size≤w'.heap.size:=by
                rw[← hw']
                rw[hsz]; exact Nat.le_refl _
              let K':Cx:={ K with w:=w' }
              have S:K.Step K':=by
                refine⟨Nat.le_refl _,fun _ _=>rfl,?_,?_,?_,hsz',fun b h2 h3=>⟨hother b h2 fun e=>h3 (by rw[e]; exact H.L id _ hid),h3⟩,rfl,fun l ⟨Lp,hLp⟩=>⟨Lp,?_⟩⟩
                · show w'.os=_; rw[← hw']; rfl
                · show w'.tape=_; rw[← hw']; rfl
                · show w'.output=_; rw[← hw']; rfl
                · refine (hother l (heap_lt_of hLp) fun e=>?_).trans hLp
                  rw[e,o1] at hLp
                  cases hLp
              have hput:∀ j,(putCells enc ((K.ι id).2.1 + off) (zfill z cpt zs).toArray arr)[j]? = if (K.ι id).2.1 + off≤j∧j < (K.ι id).2.1 + off + len then ((zfill z cpt zs)[j - ((K.ι id).2.1 + off)]?).map enc else arr[j]?:=fun j=>by
                have hq:(zfill z cpt zs).length=len:=by rw[hl,hb1]
                unfold putCells
                rw[Array.getElem?_mapIdx]
                simp only[List.size_toArray,hq]
                by_cases hin:(K.ι id).2.1 + off≤j∧j < (K.ι id).2.1 + off + len
                · have hlt2:j < arr.size:=by rw[o2]; omega
                  have hlt3:j - ((K.ι id).2.1 + off) < (zfill z cpt zs).length:=by omega
                  simp[hin,hlt2,hlt3]
                · simp only[if_neg hin]
                  cases arr[j]? <;> rfl
              refine⟨K',_,rfl,rfl,S,?_,rfl,by simp only[VRel]; exact⟨hlt,_,cap,rfl,e1,by have:=hcl zs; omega,.inr (by rw[Nat.mul_one])⟩⟩
              refine H.put S id _ (fun j p hj hp=>⟨hother _ (H.bs _ (H.L j p hp)).2 (H.inj j id p _ hp hid hj),H.L j p hp⟩) (fun b hb=>⟨(H.bs b hb).1,Nat.lt_of_lt_of_le (H.bs b hb).2 hsz'⟩) (fun p hp=>?_)
              cases hp
              refine⟨H.lt id _ hid,H.L id _ hid,⟨_,T,fz,hsame,?_,?_,?_,fun i r hi=>?_⟩,fun j q hj hq=>H.inj j id q _ hq hid hj⟩
              · simp[putCells,o2,K']
              · intro i hi; exact o3 i (by simpa[putCells] using hi)
              · simp only[List.length_append,List.length_take,List.length_map,List.length_drop,hl]
                show _≤(K.ι id).2.2
                omega
              · show r.length=1∧CellsRel K' _ (((K.ι id).2.1 + i) * 1) r
                have hlm:(((zfill z cpt zs).map fun x=>[AV.s (enc x)])).length=len:=by rw[List.length_map,hl,hb1]
                have hlt:(R.take off).length=off:=by rw[List.length_take]; omega
                by_cases hc1:i < off
                · rw[List.append_assoc,List.getElem?_append_left (by rw[hlt]; exact hc1),List.getElem?_take_of_lt hc1] at hi
                  obtain⟨g1,g2⟩:=o5 i r hi
                  refine⟨g1,fun j c hj=>?_⟩
                  have hj0:j=0:=by have:=(List.getElem?_eq_some_iff.1 hj).1; omega
                  subst hj0
                  obtain⟨v,g3,g4,g5⟩:=g2 0 c hj
                  refine⟨v,?_,g4,g5.mono S.le⟩
                  rw[hput,if_neg (by omega)]
                  exact g3
                · by_cases hc2:i < off + len
                  · rw[List.getElem?_append_left (by rw[List.length_append,hlt,hlm]; omega),List.getElem?_append_right (by omega),hlt,List.getElem?_map] at hi
                    obtain⟨x,hx1,rfl⟩:=Option.map_eq_some_iff.1 hi
                    refine⟨rfl,fun j c hj=>?_⟩
                    have hj0:j=0:=by have:=(List.getElem?_eq_some_iff.1 hj).1; simp at this; omega
                    subst hj0
                    simp only[List.getElem?_cons_zero,Option.some.injEq] at hj
                    subst hj
                    refine⟨enc x,?_,h1c x,by simp[VRel]⟩
                    rw[hput,if_pos (by omega),show ((K.ι id).2.1 + i) * 1 + 0 - ((K.ι id).2.1 + off)=i - off by omega,hx1]
                    rfl
                  · rw[List.getElem?_append_right (by rw[List.length_append,hlt,hlm]; omega),List.length_append,hlt,hlm,List.getElem?_drop,show off + zs.length + (i - (off + len))=i by omega] at hi
                    obtain⟨g1,g2⟩:=o5 i r hi
                    refine⟨g1,fun j c hj=>?_⟩
                    have hj0:j=0:=by have:=(List.getElem?_eq_some_iff.1 hj).1; omega
                    subst hj0
                    obtain⟨v,g3,g4,g5⟩:=g2 0 c hj
                    refine⟨v,?_,g4,g5.mono S.le⟩
                    rw[hput,if_neg (by omega)]
                    exact g3
            · cases hp
          · cases hp
        · cases hp
    · rename_i e0
      cases e0
      cases hp
      simp only[VRel] at hr
      subst hr
      exact triv _ _ _ hr0
    · rename_i e0
      cases e0
      cases hp
      simp only[VRel] at hr
      obtain⟨A,rfl,_⟩:=hr
      exact triv _ _ _ hr0
    · cases hp
  | [],_,_,hp=>simp[cptM] at hp
  | _ :: _ :: _,_,_,hp=>simp[cptM] at hp
  | [_],[],hr,_=>simp[VRels] at hr
  | [_],_ :: _ :: _,hr,_=>simp[VRels] at hr
end
end Go.Vm
/- Numbers as texts: a known function that reads a table. -/
namespace Go.Vm
open Go Go.RowKit
theorem below_grow (w:World) (q:Nat) (os:Array Obj):Below w.heap.size w (Sort.grow (w.drewN q) os):=
  ⟨rfl,rfl,rfl,by simp[Sort.grow],fun i hi=>by
    show ((w.drewN q).heap ++ os)[i]? = _
    rw[Array.getElem?_append_left (by show i < w.heap.size; omega)]
    rfl⟩
theorem prim_itoa {P:Program} {g:FuncId} {b:Nat} (hn:P.globalNamed "internal/strconv.uint64pow10" = some b) (hb:(b,(Lib.pow10Tab.map fun z=>Value.int .u64 z).toArray)∈glb)
    (hc:∀ n:Int, -9223372036854775808≤n→n≤9223372036854775807→∀ w:World,Lib.TabIs P w "internal/strconv.uint64pow10" .u64 Lib.pow10Tab→Calls P g #[.int .i64 n] w fun e w'=>e = .returned (.string ⟨(Lib.itoa n).toArray⟩)∧∃ k os,w' = Sort.grow (w.drewN k) os) :
    ∀ args v,itoaP args=some v→∀ (K:Cx) (base:Nat) (h:AHeap) (cargs:Array Value),HRel K base h→VRels K args cargs.toList→∀ N,CallsIn Fence.wide N P g cargs K.w (CallPost K base h K.c v):=fun args v hp K base h cargs H hr N=>by
  unfold itoaP at hp
  split at hp
  · rename_i n
    split at hp
    · rename_i hw
      cases hp
      obtain⟨cl,rfl⟩:∃ l:List Value,cargs=l.toArray:=⟨cargs.toList,by simp⟩
      match cl,hr with
      | [x],hr=>
        simp only[VRels,VRel] at hr
        obtain⟨rfl,_⟩:=hr
        refine callsIn_wide.2 ((hc n hw.1 hw.2 K.w ?_).mono ?_)
        · obtain⟨_,T,fz,h2⟩:=H.gl _ hb
          unfold Lib.TabIs World.var?
          rw[hn]
          show (match K.w.heap[b]? with | some (.cells cs _ _)=>some cs | _=>none)=_
          rw[h2]
        · rintro e w' ⟨rfl,k,os,rfl⟩
          exact post_below H (below_grow _ _ _) fun K'=>by simp[VRel]
      | [],hr=>simp[VRels] at hr
      | _ :: _ :: _,hr=>simp[VRels] at hr
    · cases hp
  · cases hp
end Go.Vm
set_option maxRecDepth 100000
namespace Go.Proofs
open Go.Shelf
def Tryd.z156f:Nat→Nat
  | 156=>55
  | 165=>64
  | 166=>65
  | 169=>66
  | 240=>81
  | 241=>82
  | 276=>94
  | 277=>95
  | n=>n
def Tryd.z156t:Nat→Nat
  | 31=>57
  | 9=>9
  | 3=>3
  | 4=>4
  | 0=>0
  | 20=>20
  | 72=>74
  | 76=>78
  | 70=>71
  | 37=>72
  | 75=>77
  | 127=>97
  | 164=>109
  | 5=>5
  | 80=>80
  | n=>n
def Tryd.z156g:Nat→Nat
  | n=>n
def Tryd.z156r:Ren:=⟨Tryd.z156f,Tryd.z156t,Tryd.z156g⟩
theorem Tryd.z156:Lays.n156 Tryd.prog Tryd.z156r where
  mixed:=by kernel_rfl
  f156:=by kernel_rfl
  f165:=by kernel_rfl
  f166:=by kernel_rfl
  f169:=by kernel_rfl
  f240:=by kernel_rfl
  f241:=by kernel_rfl
  f276:=by kernel_rfl
  f277:=by kernel_rfl
  t0:=Tryd.underlying0
  a0:=Tryd.isAgg0
  z0:=Tryd.sizeOf0
  v0:=Tryd.zeroValue0
  t3:=Tryd.underlying3
  a3:=Tryd.isAgg3
  z3:=Tryd.sizeOf3
  v3:=Tryd.zeroValue3
  t4:=Tryd.underlying4
  a4:=Tryd.isAgg4
  z4:=Tryd.sizeOf4
  v4:=Tryd.zeroValue4
  t9:=Tryd.underlying9
  a9:=Tryd.isAgg9
  z9:=Tryd.sizeOf9
  v9:=Tryd.zeroValue9
  t20:=Tryd.underlying20
  a20:=Tryd.isAgg20
  z20:=Tryd.sizeOf20
  v20:=Tryd.zeroValue20
  t31:=Tryd.underlying57
  a31:=Tryd.isAgg57
  z31:=Tryd.sizeOf57
  v31:=Tryd.zeroValue57
  t37:=Tryd.underlying72
  a37:=Tryd.isAgg72
  z37:=Tryd.sizeOf72
  v37:=Tryd.zeroValue72
  t70:=Tryd.underlying71
  a70:=Tryd.isAgg71
  z70:=Tryd.sizeOf71
  v70:=Tryd.zeroValue71
  t72:=Tryd.underlying74
  a72:=Tryd.isAgg74
  z72:=Tryd.sizeOf74
  v72:=Tryd.zeroValue74
  t75:=Tryd.underlying77
  a75:=Tryd.isAgg77
  z75:=Tryd.sizeOf77
  v75:=Tryd.zeroValue77
  t76:=Tryd.underlying78
  a76:=Tryd.isAgg78
  z76:=Tryd.sizeOf78
  v76:=Tryd.zeroValue78
  t127:=Tryd.underlying97
  a127:=Tryd.isAgg97
  z127:=Tryd.sizeOf97
  v127:=Tryd.zeroValue97
  t164:=Tryd.underlying109
  a164:=Tryd.isAgg109
  z164:=Tryd.sizeOf109
  v164:=Tryd.zeroValue109
theorem Tryd.z156x:Builder.Extra Tryd.prog Tryd.z156r where
  sizeBuilder:=by kernel_rfl
  liesBuilder:=by kernel_rfl
  t5:=by kernel_rfl
  a5:=Tryd.isAgg5
  z5:=Tryd.sizeOf5
  v5:=Tryd.zeroValue5
  infoByte:=by kernel_rfl
  cellsByte:=by kernel_rfl
  sizeByte:=by kernel_rfl
  neB5:=by decide
def Tryd.z171f:Nat→Nat
  | 171=>54
  | 243=>63
  | 246=>80
  | 283=>90
  | 284=>91
  | 285=>92
  | 286=>93
  | 129=>79
  | 317=>97
  | 318=>98
  | 319=>99
  | 320=>100
  | 337=>101
  | 338=>102
  | n=>n
def Tryd.z171t:Nat→Nat
  | 3=>3
  | 9=>9
  | 2=>2
  | 4=>4
  | 171=>105
  | 0=>0
  | 53=>95
  | 37=>72
  | 5=>5
  | 173=>107
  | 212=>116
  | 51=>93
  | 20=>20
  | 213=>117
  | 46=>68
  | 232=>118
  | 233=>119
  | n=>n
def Tryd.z171g:Nat→Nat
  | 17=>0
  | 18=>2
  | 19=>3
  | n=>n
def Tryd.z171r:Ren:=⟨Tryd.z171f,Tryd.z171t,Tryd.z171g⟩
theorem Tryd.z171:LaysM.n171 Tryd.prog Tryd.z171r where
  mixed:=by kernel_rfl
  f129:=by kernel_rfl
  f171:=by kernel_rfl
  f243:=by kernel_rfl
  f246:=by kernel_rfl
  f283:=by kernel_rfl
  f284:=by kernel_rfl
  f285:=by kernel_rfl
  f286:=by kernel_rfl
  f317:=by kernel_rfl
  f318:=by kernel_rfl
  f319:=by kernel_rfl
  f320:=by kernel_rfl
  f337:=by kernel_rfl
  f338:=by kernel_rfl
  t0:=Tryd.underlying0
  a0:=Tryd.isAgg0
  z0:=Tryd.sizeOf0
  v0:=Tryd.zeroValue0
  t2:=Tryd.underlying2
  a2:=Tryd.isAgg2
  z2:=Tryd.sizeOf2
  v2:=Tryd.zeroValue2
  t3:=Tryd.underlying3
  a3:=Tryd.isAgg3
  z3:=Tryd.sizeOf3
  v3:=Tryd.zeroValue3
  t4:=Tryd.underlying4
  a4:=Tryd.isAgg4
  z4:=Tryd.sizeOf4
  v4:=Tryd.zeroValue4
  t5:=Tryd.underlying5
  a5:=Tryd.isAgg5
  z5:=Tryd.sizeOf5
  v5:=Tryd.zeroValue5
  t9:=Tryd.underlying9
  a9:=Tryd.isAgg9
  z9:=Tryd.sizeOf9
  v9:=Tryd.zeroValue9
  t20:=Tryd.underlying20
  a20:=Tryd.isAgg20
  z20:=Tryd.sizeOf20
  v20:=Tryd.zeroValue20
  t37:=Tryd.underlying72
  a37:=Tryd.isAgg72
  z37:=Tryd.sizeOf72
  v37:=Tryd.zeroValue72
  t46:=Tryd.underlying68
  a46:=Tryd.isAgg68
  z46:=Tryd.sizeOf68
  v46:=Tryd.zeroValue68
  t51:=Tryd.underlying93
  a51:=Tryd.isAgg93
  z51:=Tryd.sizeOf93
  v51:=Tryd.zeroValue93
  t53:=Tryd.underlying95
  a53:=Tryd.isAgg95
  z53:=Tryd.sizeOf95
  v53:=Tryd.zeroValue95
  t171:=Tryd.underlying105
  a171:=Tryd.isAgg105
  z171:=Tryd.sizeOf105
  v171:=Tryd.zeroValue105
  t173:=Tryd.underlying107
  a173:=Tryd.isAgg107
  z173:=Tryd.sizeOf107
  v173:=Tryd.zeroValue107
  t212:=Tryd.underlying116
  a212:=Tryd.isAgg116
  z212:=Tryd.sizeOf116
  v212:=Tryd.zeroValue116
  t213:=Tryd.underlying117
  a213:=Tryd.isAgg117
  z213:=Tryd.sizeOf117
  t232:=Tryd.underlying118
  a232:=Tryd.isAgg118
  z232:=Tryd.sizeOf118
  v232:=Tryd.zeroValue118
  t233:=Tryd.underlying119
  a233:=Tryd.isAgg119
  z233:=Tryd.sizeOf119
  v233:=Tryd.zeroValue119
  g17:=by kernel_rfl
  g18:=by kernel_rfl
  g19:=by kernel_rfl
  i0:=by kernel_rfl
  i2:=by kernel_rfl
  i3:=by kernel_rfl
  i4:=by kernel_rfl
  i5:=by kernel_rfl
  i9:=by kernel_rfl
  i20:=by kernel_rfl
  i37:=by kernel_rfl
  i46:=by kernel_rfl
  i51:=by kernel_rfl
  i53:=by kernel_rfl
  i171:=by kernel_rfl
  i173:=by kernel_rfl
  i212:=by kernel_rfl
  i232:=by kernel_rfl
  i233:=by kernel_rfl
  m17:=by kernel_rfl
  m18:=by kernel_rfl
  m19:=by kernel_rfl
def Tryd.z189f:Nat→Nat
  | 189=>46
  | 125=>59
  | 257=>58
  | 128=>78
  | 129=>79
  | 294=>69
  | 295=>70
  | 296=>71
  | 297=>72
  | 298=>73
  | 299=>74
  | 216=>75
  | 300=>76
  | 301=>77
  | 328=>84
  | 329=>85
  | 330=>86
  | 331=>87
  | 332=>88
  | 215=>89
  | 343=>96
  | n=>n
def Tryd.z189t:Nat→Nat
  | 28=>31
  | 3=>3
  | 46=>68
  | 0=>0
  | 51=>93
  | 53=>95
  | 4=>4
  | 183=>85
  | 182=>84
  | 131=>90
  | 5=>5
  | 9=>9
  | 218=>99
  | 222=>103
  | 228=>112
  | 229=>113
  | n=>n
def Tryd.z189g:Nat→Nat
  | n=>n
def Tryd.z189r:Ren:=⟨Tryd.z189f,Tryd.z189t,Tryd.z189g⟩
theorem Tryd.z189:Lays.n189 Tryd.prog Tryd.z189r where
  mixed:=by kernel_rfl
  f125:=by kernel_rfl
  f128:=by kernel_rfl
  f129:=by kernel_rfl
  f189:=by kernel_rfl
  f215:=by kernel_rfl
  f216:=by kernel_rfl
  f257:=by kernel_rfl
  f294:=by kernel_rfl
  f295:=by kernel_rfl
  f296:=by kernel_rfl
  f297:=by kernel_rfl
  f298:=by kernel_rfl
  f299:=by kernel_rfl
  f300:=by kernel_rfl
  f301:=by kernel_rfl
  f328:=by kernel_rfl
  f329:=by kernel_rfl
  f330:=by kernel_rfl
  f331:=by kernel_rfl
  f332:=by kernel_rfl
  f343:=by kernel_rfl
  t0:=Tryd.underlying0
  a0:=Tryd.isAgg0
  z0:=Tryd.sizeOf0
  v0:=Tryd.zeroValue0
  t3:=Tryd.underlying3
  a3:=Tryd.isAgg3
  z3:=Tryd.sizeOf3
  v3:=Tryd.zeroValue3
  t4:=Tryd.underlying4
  a4:=Tryd.isAgg4
  z4:=Tryd.sizeOf4
  v4:=Tryd.zeroValue4
  t5:=Tryd.underlying5
  a5:=Tryd.isAgg5
  z5:=Tryd.sizeOf5
  v5:=Tryd.zeroValue5
  t9:=Tryd.underlying9
  a9:=Tryd.isAgg9
  z9:=Tryd.sizeOf9
  v9:=Tryd.zeroValue9
  t28:=Tryd.underlying31
  a28:=Tryd.isAgg31
  z28:=Tryd.sizeOf31
  v28:=Tryd.zeroValue31
  t46:=Tryd.underlying68
  a46:=Tryd.isAgg68
  z46:=Tryd.sizeOf68
  v46:=Tryd.zeroValue68
  t51:=Tryd.underlying93
  a51:=Tryd.isAgg93
  z51:=Tryd.sizeOf93
  v51:=Tryd.zeroValue93
  t53:=Tryd.underlying95
  a53:=Tryd.isAgg95
  z53:=Tryd.sizeOf95
  v53:=Tryd.zeroValue95
  t131:=Tryd.underlying90
  a131:=Tryd.isAgg90
  z131:=Tryd.sizeOf90
  v131:=Tryd.zeroValue90
  t182:=Tryd.underlying84
  a182:=Tryd.isAgg84
  z182:=Tryd.sizeOf84
  v182:=Tryd.zeroValue84
  t183:=Tryd.underlying85
  a183:=Tryd.isAgg85
  z183:=Tryd.sizeOf85
  v183:=Tryd.zeroValue85
  t218:=Tryd.underlying99
  a218:=Tryd.isAgg99
  z218:=Tryd.sizeOf99
  v218:=Tryd.zeroValue99
  t222:=Tryd.underlying103
  a222:=Tryd.isAgg103
  z222:=Tryd.sizeOf103
  v222:=Tryd.zeroValue103
  t228:=Tryd.underlying112
  a228:=Tryd.isAgg112
  z228:=Tryd.sizeOf112
  v228:=Tryd.zeroValue112
  t229:=Tryd.underlying113
  a229:=Tryd.isAgg113
  z229:=Tryd.sizeOf113
  v229:=Tryd.zeroValue113
def Tryd.z20f:Nat→Nat
  | 20=>47
  | n=>n
def Tryd.z20t:Nat→Nat
  | 22=>31
  | 3=>3
  | 4=>4
  | 0=>0
  | n=>n
def Tryd.z20g:Nat→Nat
  | n=>n
def Tryd.z20r:Ren:=⟨Tryd.z20f,Tryd.z20t,Tryd.z20g⟩
theorem Tryd.z20:Lays2.n20 Tryd.prog Tryd.z20r where
  mixed:=by kernel_rfl
  f20:=by kernel_rfl
  t0:=Tryd.underlying0
  a0:=Tryd.isAgg0
  z0:=Tryd.sizeOf0
  v0:=Tryd.zeroValue0
  t3:=Tryd.underlying3
  a3:=Tryd.isAgg3
  z3:=Tryd.sizeOf3
  v3:=Tryd.zeroValue3
  t4:=Tryd.underlying4
  a4:=Tryd.isAgg4
  z4:=Tryd.sizeOf4
  v4:=Tryd.zeroValue4
  t22:=Tryd.underlying31
  a22:=Tryd.isAgg31
  z22:=Tryd.sizeOf31
  v22:=Tryd.zeroValue31
  i3:=by kernel_rfl
end Go.Proofs
namespace Go.Vm
open Go Go.RowKit Go.Proofs
def funcOk (fn:Func):Bool:=!(fn.name == "runtime.NumGoroutine") && (match fn.body with | some c=>codeOk c | none=>true)
theorem funcsOk:E.P.funcs.toList.all funcOk=true:=by kernel_rfl
theorem pk_strconv_Itoa:∀ args v,itoaP args=some v→∀ (K:Cx) (base:Nat) (h:AHeap) (cargs:Array Value),HRel K base h→VRels K args cargs.toList→∀ N,CallsIn Fence.wide N E.P 54 cargs K.w (CallPost K base h K.c v):=prim_itoa (b:=0) (by kernel_rfl) (by simp[glb]) (fun n h0 h1 w ht=>Go.Proofs.Any.strconv_Itoa Go.Proofs.Tryd.z171 n h0 h1 w ht)
theorem pk_strings_Join:∀ args v,joinP args=some v→∀ (K:Cx) (base:Nat) (h:AHeap) (cargs:Array Value),HRel K base h→VRels K args cargs.toList→∀ N,CallsIn Fence.wide N E.P 55 cargs K.w (CallPost K base h K.c v):=prim_join (fun a c sep w=>Go.Proofs.Any.strings_Join_none Go.Proofs.Tryd.z156 Go.Proofs.Tryd.z156x a c sep w) (fun bk o c xs sep w h1 h2 h3 h4 h5=>Go.Proofs.Any.strings_Join Go.Proofs.Tryd.z156 Go.Proofs.Tryd.z156x bk o c xs sep w h1 h2 h3 h4 h5)
theorem pk_slices_SortI:∀ args h n v h' n',sortIM args h n=some (v,h',n')→∀ (K:Cx) (base:Nat) (cargs:Array Value),HRel K base h→K.c=n→VRels K args cargs.toList→∀ N,CallsIn Fence.wide N E.P 46 cargs K.w (CallPost K base h' n' v):=prim_sort decI_ok sortI_len (fun _=>rfl) (fun p cap w=>Go.Proofs.Any.slices_Sort_int_none Go.Proofs.Tryd.z189 p cap w) (fun blk off cap zs w h1 h2 h3=>by
  rw[← sortI_eq]
  exact Go.Proofs.Any.slices_Sort_int Go.Proofs.Tryd.z189 blk off cap zs w h1 h2 h3)
theorem pk_slices_CompactI:∀ args h n v h' n',cptIM args h n=some (v,h',n')→∀ (K:Cx) (base:Nat) (cargs:Array Value),HRel K base h→K.c=n→VRels K args cargs.toList→∀ N,CallsIn Fence.wide N E.P 47 cargs K.w (CallPost K base h' n' v):=prim_cpt decI_ok compact_le (fun _=>rfl) (fun p cap w=>Go.Proofs.Any.slices_Compact_int_empty Go.Proofs.Tryd.z20 p cap w) (fun blk off cap zs w h1 h2 h3 h4=>Go.Proofs.Any.slices_Compact_int Go.Proofs.Tryd.z20 blk off cap zs w h1 (by omega) h4)
theorem envOk:EnvOk E:=by
  have key:∀ (f:FuncId) (fn:Func),E.P.funcs[f]? = some fn→funcOk fn=true:=fun f fn hf=>by
    have:=List.all_eq_true.1 funcsOk fn (by
      obtain⟨h1,h2⟩:=Array.getElem?_eq_some_iff.1 hf
      rw[← h2]
      simp)
    exact this
  refine⟨fun f fn hf=>?_,fun f fn c hf hc=>?_,fun g p hp=>?_,fun g p hp=>?_⟩
  · have:=key f fn hf
    unfold funcOk at this
    rw[Bool.and_eq_true] at this
    simpa using this.1
  · have:=key f fn hf
    unfold funcOk at this
    rw[Bool.and_eq_true,hc] at this
    exact this.2
  · simp only[E] at hp
    split at hp
    · rename_i hg
      subst hg
      cases hp
      exact⟨⟨Go.Proofs.Tryd.f54,by kernel_rfl,by kernel_rfl⟩,pk_strconv_Itoa⟩
    · skip
      cases hp
  · simp only[E] at hp
    split at hp
    · rename_i hg
      subst hg
      cases hp
      exact⟨⟨Go.Proofs.Tryd.f46,by kernel_rfl,by kernel_rfl⟩,pk_slices_SortI⟩
    · skip
      split at hp
      · rename_i hg
        subst hg
        cases hp
        exact⟨⟨Go.Proofs.Tryd.f47,by kernel_rfl,by kernel_rfl⟩,pk_slices_CompactI⟩
      · skip
        split at hp
        · rename_i hg
          subst hg
          cases hp
          exact⟨⟨Go.Proofs.Tryd.f55,by kernel_rfl,by kernel_rfl⟩,prim_lift pk_strings_Join⟩
        · skip
          cases hp
theorem law_true {g:FuncId} {vs vs':List AV} {m:Option Bool} (hc:Ct E g vs m (fun r=>bv r)) (hm:m=some true) (hp:E.prim g=none) (hpf:E.pf g=true) (hv:All2 (VLe Rn.nil) vs vs') (hs:snapL (snap AHeap.nil depth) vs' = some (vs',false)) (w:World) (hG:∀ q,q∈glb→q.1 < w.heap.size∧∃ T fz,w.heap[q.1]? = some (.cells q.2 T fz)) {cargs:Array Value}
    (hr:VRels { w:=w,ι:=fun _=>(0,0,0),L:=fun _=>False,X:=fun _=>False,c:=0 } vs' cargs.toList) :
    Calls E.P g cargs w fun e w'=>e = .returned (.bool true)∧w'.os=w.os∧w'.tape=w.tape∧w'.output=w.output∧w.heap.size≤w'.heap.size∧(∀ b,b < w.heap.size→w'.heap[b]? = w.heap[b]?):=by
  obtain⟨u,h1,h2⟩:=hc true hm vs' hv AHeap.nil 0
  have hu:=h2.s_inv
  subst hu
  unfold callFn at h1
  rw[hp] at h1
  simp only[hpf,if_true,hs] at h1
  cases hcl:(rinf E).call g vs' AHeap.nil 0 with
  | none=>rw[hcl] at h1; cases h1
  | some q=>
    obtain⟨v,h3,n3⟩:=q
    rw[hcl] at h1
    simp only at h1
    cases hsn:snap h3 depth v with
    | none=>rw[hsn] at h1; cases h1
    | some q2=>
      obtain⟨v',b2⟩:=q2
      rw[hsn] at h1
      simp only[Bool.false_and,Bool.false_eq_true,if_false,Option.some.injEq,Prod.mk.injEq] at h1
      obtain⟨k,hk⟩:=rinf_call.1 hcl
      have hpc:pcall E k g vs' = some (bv true):=by
        unfold pcall
        rw[hk]
        simp only[hsn,h1.1]
      refine (pcall_sound envOk (fun r=>drawOk_all r) hpc w hG hr).mono ?_
      rintro e w' ⟨cv,h4,h5,h6,h7,h8,h9,h10⟩
      simp only[VRel] at h10
      subst h10
      exact⟨h4,h5,h6,h7,h8,h9⟩
end Go.Vm
/- What a call reads, as Lean data: an argument's reading by shape gives a value of the evaluator. -/
namespace Go.Vm
open Go
structure BulkOk {H:Type} (f:DataW H→Nat) (g:List (DataW H)→Nat):Prop where
  nil:g []=0
  cons:∀ d r,g (d :: r)=f d + g r
  pos:∀ d,1≤f d
  str:∀ l,f (.lit (.string l))=l.length + 1
  slice:∀ e s,f (.slice e s)=g e + g s + 1
  agg:∀ p,f (.agg p)=g p + 1
theorem BulkOk.sum {H:Type} {f:DataW H→Nat} {g:List (DataW H)→Nat} (B:BulkOk f g):∀ l,g l=(l.map f).sum
  | []=>B.nil
  | d :: r=>by rw[B.cons,B.sum r]; rfl
def Kw (W:World):Cx:={ w:=W,ι:=fun _=>(0,0,0),L:=fun _=>False,X:=fun _=>False,c:=0 }
def simpC:AV→Bool
  | .s _=>true
  | .fsl ..=>true
  | .esl=>true
  | _=>false
theorem snap_simpC {h:AHeap} {k:Nat} {c:AV} (hc:simpC c=true):snap h k c=some (c,false):=by
  cases c <;> first | (cases k <;> rfl) | cases hc
theorem snapL_simpC {h:AHeap} {k:Nat}:∀ {cs:List AV},cs.all simpC=true→snapL (snap h k) cs=some (cs,false)
  | [],_=>rfl
  | c :: cs,hc=>by
    simp only[List.all_cons,Bool.and_eq_true] at hc
    simp only[snapL,snap_simpC hc.1,snapL_simpC hc.2,Bool.or_self]
def simpA:AV→Bool
  | .agg cs=>cs.all simpC
  | c=>simpC c
theorem snap_simpA {h:AHeap} {k:Nat} {c:AV} (hc:simpA c=true):snap h (k + 1) c=some (c,false):=by
  unfold simpA at hc
  split at hc
  · simp only[snap,snapL_simpC hc,Option.map_some]
  · exact snap_simpC hc
theorem snapL_nil' (h:AHeap):snapL (snap h depth) []=some ([],false):=rfl
theorem snapL_cons' {h:AHeap} {c:AV} {cs:List AV} (hc:simpA c=true) (hs:snapL (snap h depth) cs=some (cs,false)):snapL (snap h depth) (c :: cs)=some (c :: cs,false):=by
  have h1:snap h depth c=some (c,false):=snap_simpA hc
  simp only[snapL,h1,hs,Bool.or_self]
section
variable {H:Type} {P:Program} {f:DataW H→Nat} {g:List (DataW H)→Nat}
structure Rd (P:Program) (f:DataW H→Nat) (t:TypeId) (n:Nat) {α:Type} (en:α→List AV) (ok:α→Prop) (μ:α→Nat):Prop where
  read:∀ {enc:TypeId × Value→H} {W:World} {fuel:Nat} {cs:List Value} {d:DataW H} {pl:List MemPlace},DataW.trod enc P W 0 (fun _=>true) true fuel t cs=some (d,pl) →
    ∃ x a,VRels (Kw W) a cs∧All2 (VLe Rn.nil) (en x) a∧a.all simpC=true∧ok x∧μ x≤f d∧cs.length=n∧(∀ v∈cs,v.oneCell' = true)
theorem Rd.str (B:BulkOk f g) {t:TypeId} (ht:P.underlying t=some .string):Rd P f t 1 (fun x:Str=>[bs x]) (fun _=>True) (fun x=>x.length + 1) where
  read h:=by
    obtain⟨s,rfl,e,_⟩:=DataW.trod_string ht h
    obtain⟨rfl,rfl⟩:=Prod.mk.inj e
    exact⟨s.data.toList,[.s (.string s)],by simp[VRels,VRel],⟨VLe.s_refl _,trivial⟩,rfl,trivial,by rw[B.str]; exact Nat.le_refl _,rfl,by simp; rfl⟩
theorem Rd.int (B:BulkOk f g) {t:TypeId} {k:IntKind} (ht:P.underlying t=some (.int k)):Rd P f t 1 (fun x:Int=>[.s (.int k x)]) (fun x=>(Lit.int k x).wf=true) (fun _=>1) where
  read h:=by
    obtain⟨n,rfl,e,w⟩:=DataW.trod_int ht h
    obtain⟨rfl,rfl⟩:=Prod.mk.inj e
    exact⟨n,[.s (.int k n)],by simp[VRels,VRel],⟨VLe.s_refl _,trivial⟩,rfl,w,B.pos _,rfl,by simp; rfl⟩
theorem Rd.bool (B:BulkOk f g) {t:TypeId} (ht:P.underlying t=some .bool):Rd P f t 1 (fun x:Bool=>[bv x]) (fun _=>True) (fun _=>1) where
  read h:=by
    obtain⟨n,rfl,e⟩:=DataW.trod_bool ht h
    obtain⟨rfl,rfl⟩:=Prod.mk.inj e
    exact⟨n,[bv n],by simp[VRels,VRel],⟨VLe.s_refl _,trivial⟩,rfl,trivial,B.pos _,rfl,by simp; rfl⟩
theorem VRels.len {K:Cx}:∀ {a:List AV} {x:List Value},VRels K a x→a.length=x.length
  | [],[],_=>rfl
  | _ :: a,_ :: x,h=>by simp only[List.length_cons]; rw[VRels.len (a:=a) (x:=x) (by simp only[VRels] at h; exact h.2)]
  | [],_ :: _,h=>by simp[VRels] at h
  | _ :: _,[],h=>by simp[VRels] at h
theorem crel_rd {W:World} {b:Nat}:∀ {a:List AV} {cs:List Value} {o:Nat},VRels (Kw W) a cs→(∀ i,i < cs.length→W.cell? ⟨b,o + i,none⟩=cs[i]?)→(∀ v∈cs,v.oneCell' = true)→CRel (Kw W) b o a
  | [],_,_,_,_,_=>by simp[CRel]
  | c :: a,[],_,h,_,_=>by simp[VRels] at h
  | c :: a,v :: cs,o,h,hc,h1=>by
    simp only[VRels] at h
    have h0:=hc 0 (by simp)
    simp only[Nat.add_zero,List.getElem?_cons_zero] at h0
    refine⟨⟨v,⟨?_,id,id⟩,h0,h1 v List.mem_cons_self,h.1⟩,crel_rd h.2 (fun i hi=>?_) fun u hu=>h1 u (List.mem_cons_of_mem _ hu)⟩
    · unfold World.cell? at h0
      split at h0
      · rename_i e
        exact (Array.getElem?_eq_some_iff.1 e).1
      · cases h0
    · have:=hc (i + 1) (by simp; omega)
      rw[Nat.add_assoc,Nat.add_comm 1 i,this]
      rfl
theorem Rd.slice (B:BulkOk f g) {t e:TypeId} {n:Nat} {α:Type} {en:α→List AV} {ok:α→Prop} {μ:α→Nat} (R:Rd P f e n en ok μ) (ht:P.underlying t=some (.slice e)) (hn:P.cellsOf e=n) (h0:0 < n) :
    Rd P f t 1 (fun x:List α=>[.fsl n (x.map en)]) (fun x=>∀ y∈x,ok y) (fun x=>(x.map μ).sum + 1) where
  read {enc W fuel cs d pl} h:=by
    rcases Deep.open_slice ht h with ⟨rfl,e'⟩ | ⟨a,len,cap,m,k,D,Pl,rfl,_,hl,_,hm,e',hx⟩
    · obtain⟨rfl,rfl⟩:=Prod.mk.inj e'
      exact⟨[],[nilS],by simp[VRels,VRel],⟨VLe.fsl_iff.2 (.inr ⟨rfl,.inl rfl⟩),trivial⟩,rfl,by simp,by simpa using B.pos _,rfl,by simp; rfl⟩
    · obtain⟨rfl,rfl⟩:=Prod.mk.inj e'
      have hlm:len≤m:=by rw[hm]; simpa using hl
      subst hn
      have hspot:0 < len→a.spot=none:=fun hp=>by
        obtain⟨cs',h1,h2⟩:=hx 0 (by omega)
        obtain⟨_,hlen,hc⟩:=World.cells?_some h1
        have:=hc 0 h0
        rw[List.getElem?_eq_getElem (by omega)] at this
        simp only[Nat.zero_mul,Addr.add,if_true] at this
        unfold World.cell? at this
        split at this
        · split at this
          · cases this
          · rename_i q; simpa using q
        · cases this
      obtain⟨ab,ao,sp⟩:=a
      have key:∀ j i,i + j=len→∃ (xs:List α) (rows:List (List AV)),RRel (Kw W) ab (ao + i * P.cellsOf e) (P.cellsOf e) rows∧All2 (All2 (VLe Rn.nil)) (xs.map en) rows∧xs.length=j∧(∀ x∈xs,ok x)∧(xs.map μ).sum≤((List.range' i j).map fun q=>f (D q)).sum:=by
        intro j
        induction j with
        | zero=>intro i _; exact⟨[],[],by simp[RRel],trivial,rfl,by simp,by simp⟩
        | succ j ih=>
          intro i hij
          obtain rfl:sp=none:=hspot (by omega)
          obtain⟨xs,rows,r1,r0,r2,r3,r4⟩:=ih (i + 1) (by omega)
          obtain⟨cs',h1,h2⟩:=hx i (by omega)
          obtain⟨x,a,x1,x0,_,x2,x3,x4,x5⟩:=R.read h2
          obtain⟨_,hlen,hc⟩:=World.cells?_some h1
          refine⟨x :: xs,a :: rows,?_,⟨x0,r0⟩,by simp[r2],by simpa using ⟨x2,r3⟩,?_⟩
          · simp only[RRel]
            refine⟨by rw[x1.len,x4],crel_rd x1 (fun q hq=>?_) x5,?_⟩
            · have:=hc q (by omega)
              rw[WideShapes.add_plain,WideShapes.add_plain] at this
              exact this
            · rw[Nat.add_assoc,show i * P.cellsOf e + P.cellsOf e=(i + 1) * P.cellsOf e by rw[Nat.add_mul,Nat.one_mul]]
              exact r1
          · simp only[List.map_cons,List.sum_cons,List.range'_succ]
            omega
      obtain⟨xs,rows,r1,r0,r2,r3,r4⟩:=key len 0 (by omega)
      have rl:rows.length=len:=by rw[r0.length,List.length_map,r2]
      refine⟨xs,[.fsl (P.cellsOf e) rows],?_,⟨VLe.fsl_iff.2 (.inl ⟨rows,rfl,r0⟩),trivial⟩,rfl,r3,?_,rfl,by simp; rfl⟩
      · simp only[VRels,VRel,and_true,rl]
        refine⟨some ⟨ab,ao,sp⟩,cap,rfl,by simp,hl,?_⟩
        rcases Nat.eq_zero_or_pos len with hz | hp
        · left
          exact List.length_eq_zero_iff.1 (by omega)
        · right
          obtain rfl:sp=none:=hspot hp
          exact⟨ab,ao,rfl,by rw[Nat.zero_mul,Nat.add_zero] at r1; exact r1⟩
      · rw[B.slice,B.sum,List.map_map,List.range_eq_range']
        have:(List.map (f ∘ D) (List.range' 0 len)).sum=((List.range' 0 len).map fun q=>f (D q)).sum:=rfl
        omega
structure Rds (P:Program) (f:DataW H→Nat) (g:List (DataW H)→Nat) (fs:List Field) (o n:Nat) {α:Type} (en:α→List AV) (ok:α→Prop) (μ:α→Nat):Prop where
  read:∀ {enc:TypeId × Value→H} {W:World} {fuel:Nat} {cs:List Value} {xs:List (DataW H × List MemPlace)},xs.length=fs.length→o + n≤cs.length →
    (∀ (i:Nat) (fd:Field),fs[i]? = some fd→DataW.trod enc P W 0 (fun _=>true) true fuel fd.type ((cs.drop fd.offset).take (P.cellsOf fd.type))=xs[i]?) →
    ∃ x a,VRels (Kw W) a ((cs.drop o).take n)∧All2 (VLe Rn.nil) (en x) a∧a.all simpC=true∧ok x∧μ x≤g (xs.map (·.1))∧(∀ v∈(cs.drop o).take n,v.oneCell' = true)
theorem Rds.nil (o:Nat):Rds P f g [] o 0 (fun _:Unit=>[]) (fun _=>True) (fun _=>0) where
  read _ _ _:=⟨(),[],by simp[VRels],trivial,rfl,trivial,Nat.zero_le _,by simp⟩
theorem Rds.cons (B:BulkOk f g) {fd:Field} {fs:List Field} {o n1 n2:Nat} {α β:Type} {e1:α→List AV} {ok1:α→Prop} {μ1:α→Nat} {e2:β→List AV} {ok2:β→Prop} {μ2:β→Nat} (R1:Rd P f fd.type n1 e1 ok1 μ1) (R2:Rds P f g fs (o + n1) n2 e2 ok2 μ2) (ho:fd.offset=o) (hn:P.cellsOf fd.type=n1) :
    Rds P f g (fd :: fs) o (n1 + n2) (fun x:α × β=>e1 x.1 ++ e2 x.2) (fun x=>ok1 x.1∧ok2 x.2) (fun x=>μ1 x.1 + μ2 x.2) where
  read {enc W fuel cs xs} hl hc h:=by
    cases xs with
    | nil=>simp at hl
    | cons y xs=>
      have h0:=h 0 fd rfl
      simp only[List.getElem?_cons_zero,ho,hn] at h0
      obtain⟨x1,l1,a1,a0,az,a2,a3,a4,a5⟩:=R1.read (d:=y.1) (pl:=y.2) h0
      obtain⟨x2,l2,b1,b0,bz,b2,b3,b5⟩:=R2.read (enc:=enc) (W:=W) (fuel:=fuel) (cs:=cs) (xs:=xs) (by simpa using hl) (by omega) (fun i fd' h'=>by have:=h (i + 1) fd' (by simpa using h'); simpa using this)
      have e:(cs.drop o).take (n1 + n2)=(cs.drop o).take n1 ++ (cs.drop (o + n1)).take n2:=by rw[List.take_add,List.drop_drop]
      refine⟨(x1,x2),l1 ++ l2,?_,a0.append b0,by rw[List.all_append,az,bz]; rfl,⟨a2,b2⟩,?_,?_⟩
      · rw[e]; exact a1.append b1
      · simp only[List.map_cons]; rw[B.cons]; omega
      · rw[e]
        intro v hv
        rcases List.mem_append.1 hv with hv | hv
        · exact a5 v hv
        · exact b5 v hv
theorem Rd.struct (B:BulkOk f g) {t:TypeId} {fs:Array Field} {n:Nat} {α β:Type} {en:α→List AV} {ok:α→Prop} {μ:α→Nat} (R:Rds P f g fs.toList 0 n en ok μ) (ht:P.underlying t=some (.struct fs)) (hn:P.cellsOf t=n) (mk:α→β) (hs:∀ y,∃ x,mk x=y) {en':β→List AV} (he:∀ x,en' (mk x)=en x) {ok':β→Prop} (hk:∀ x,ok x→ok' (mk x)) {μ':β→Nat} (hm:∀ x,μ' (mk x)≤μ x + 1) :
    Rd P f t n en' ok' μ' where
  read {enc W fuel cs d pl} h:=by
    obtain⟨xs,k,_,e,hl,hx,hf⟩:=DataW.trod_struct ht h
    obtain⟨rfl,rfl⟩:=Prod.mk.inj e
    obtain⟨x,a,h1,h0,hz,h2,h3,h4⟩:=R.read (enc:=enc) (W:=W) (fuel:=k) (cs:=cs) (xs:=xs) (by simpa using hx) (by omega) (fun i fd h'=>hf i fd (by simpa using h'))
    rw[List.drop_zero,List.take_of_length_le (by omega)] at h1 h4
    refine⟨mk x,a,h1,by rw[he]; exact h0,hz,hk x h2,?_,by omega,h4⟩
    rw[B.agg]
    have:=hm x
    omega
theorem Rd.arg1 {t:TypeId} {α:Type} {c:α→AV} {ok:α→Prop} {μ:α→Nat} (R:Rd P f t 1 (fun x=>[c x]) ok μ) {enc:TypeId × Value→H} {W:World} {v:Value} {d:DataW H} {pl:List MemPlace} (hv:v.cells = #[v]) (h:DataW.Trod enc P W 0 (fun _=>true) true t v d pl) :
    ∃ x b,VRel (Kw W) b v∧ok x∧μ x≤f d∧VLe Rn.nil (c x) b∧simpA b=true:=by
  obtain⟨fuel,h⟩:=h
  obtain⟨x,a,h1,h0,hz,h2,h3,_⟩:=R.read h
  rw[hv] at h1
  match a,h0 with
  | [b],h0=>
    simp only[VRels,and_true] at h1
    simp only[List.all_cons,List.all_nil,Bool.and_true] at hz
    refine⟨x,b,h1,h2,h3,h0.1,?_⟩
    unfold simpA
    split
    · cases hz
    · exact hz
  | [],h0=>exact h0.elim
  | _ :: _ :: _,h0=>exact h0.2.elim
theorem cells_int {P:Program} {W:World} {r:Reach} {b:Nat} {t:TypeId} {k:IntKind} {v:Value} (ht:P.underlying t=some (.int k)) (h:Value.okWide P W r b t v):v.cells = #[v]:=by
  unfold Value.okWide Cell.okWide Cell.ok at h
  rw[ht] at h
  cases v <;> first | rfl | simp at h
theorem cells_slice {P:Program} {W:World} {r:Reach} {b:Nat} {t e:TypeId} {v:Value} (ht:P.underlying t=some (.slice e)) (h:Value.okWide P W r b t v):v.cells = #[v]:=by
  unfold Value.okWide Cell.okWide Cell.ok at h
  rw[ht] at h
  cases v <;> first | rfl | simp at h
theorem args_stay {enc:TypeId × Value→H} (hl:laidOutB P=true) {W W':World} (hb:RowKit.Below W.heap.size W W') {sp:Nat→Bool}:∀ {ts:List TypeId} {vs:List Value} {ds:List (DataW H)} {ps:List MemPlace},(∀ t∈ts,P.readableRec t=true∧t < P.types.size)→DataW.TrodAll enc P W 0 (fun _=>true) true ts vs ds ps→(∀ x∈ps,x.block < W.heap.size)→(∀ x∈ps,sp x.block=true) →
    DataW.TrodAll enc P W' 0 sp true ts vs ds ps
  | [],[],[],_,_,h,_,_=>h
  | t :: ts,v :: vs,d :: ds,ps,hr,h,h1,h2=>by
    obtain⟨p,q,h3,h4,rfl⟩:=h
    exact⟨p,q,WideElems.Trod_stays hl (hr t List.mem_cons_self).1 (hr t List.mem_cons_self).2 h3 (fun x hx=>hb.same (h1 x (List.mem_append_left _ hx))) (fun x hx=>h2 x (List.mem_append_left _ hx)),
      args_stay hl hb (fun u hu=>hr u (List.mem_cons_of_mem _ hu)) h4 (fun x hx=>h1 x (List.mem_append_right _ hx)) (fun x hx=>h2 x (List.mem_append_right _ hx)),rfl⟩
  | [],_ :: _,_,_,_,h,_,_=>h.elim
  | [],[],_ :: _,_,_,h,_,_=>h.elim
  | _ :: _,[],_,_,_,h,_,_=>h.elim
  | _ :: _,_ :: _,[],_,_,h,_,_=>h.elim
end
end Go.Vm
/- Plain laws: loops, numbers. -/
namespace Go.Vm
open Go
section
variable {σ τ:Type} {f:σ→Option (Step σ τ)}
theorem loopC_next {x y:σ} (h:f x=some (.next y)):loopC f x=loopC f y:=by rw[loopC_eq,h]; rfl
theorem loopC_done {x:σ} {t:τ} (h:f x=some (.done t)):loopC f x=some t:=by rw[loopC_eq,h]; rfl
theorem loopC_fun (I:σ→Prop) (μ:σ→Nat) (g:σ→τ) (h:∀ x,I x→f x=some (.done (g x))∨∃ y,f x=some (.next y)∧I y∧μ y < μ x∧g y=g x) {x:σ} (hx:I x):loopC f x=some (g x):=by
  have key:∀ n x,I x→μ x≤n→loopC f x=some (g x):=by
    intro n
    induction n with
    | zero=>
      intro x hx hn
      rcases h x hx with h1 | ⟨y,_,_,h3,_⟩
      · exact loopC_done h1
      · omega
    | succ n ih=>
      intro x hx hn
      rcases h x hx with h1 | ⟨y,h1,h2,h3,h4⟩
      · exact loopC_done h1
      · rw[loopC_next h1,ih y h2 (by omega),h4]
  exact key _ x hx (Nat.le_refl _)
theorem loopC_inv (I:σ→Prop) (μ:σ→Nat) (P:τ→Prop) (h:∀ x,I x→(∃ t,f x=some (.done t)∧P t)∨∃ y,f x=some (.next y)∧I y∧μ y < μ x) {x:σ} (hx:I x):∃ t,loopC f x=some t∧P t:=by
  have key:∀ n x,I x→μ x≤n→∃ t,loopC f x=some t∧P t:=by
    intro n
    induction n with
    | zero=>
      intro x hx hn
      rcases h x hx with ⟨t,h1,h2⟩ | ⟨y,_,_,h3⟩
      · exact⟨t,loopC_done h1,h2⟩
      · omega
    | succ n ih=>
      intro x hx hn
      rcases h x hx with ⟨t,h1,h2⟩ | ⟨y,h1,h2,h3⟩
      · exact⟨t,loopC_done h1,h2⟩
      · rw[loopC_next h1]
        exact ih y h2 (by omega)
  exact key _ x hx (Nat.le_refl _)
end
theorem w64_id {x:Int} (h1 : -9223372036854775808≤x) (h2:x≤9223372036854775807):w64 x=x:=i64_id h1 h2
theorem ixl_nat {α:Type} {l:List α} {i:Nat} (h:i < l.length):ixl l (i:Int)=some l[i]:=by
  unfold ixl
  rw[if_pos (by omega),Int.toNat_natCast,List.getElem?_eq_getElem h]
theorem subl_nat {α:Type} {l:List α} {i j:Nat} (h1:i≤j) (h2:j≤l.length):subl l (i:Int) (j:Int)=some ((l.drop i).take (j - i)):=by
  unfold subl
  rw[if_pos ⟨by omega,by omega,by omega⟩]
  rfl
theorem subl_take {α:Type} {l:List α} {j:Nat} (h:j≤l.length):subl l 0 (j:Int)=some (l.take j):=by
  have:=subl_nat (l:=l) (i:=0) (j:=j) (Nat.zero_le _) h
  simpa using this
theorem cat_ok {a b:Str} (h:a.length + b.length≤9223372036854775807):cat a b=some (a ++ b):=by
  unfold cat; rw[if_pos h]
theorem app_ok {α:Type} {b:Nat} {l m:List α} (h1:(l.length + m.length) * b≤140737488355328) (h2:l.length + m.length≤9223372036854775807):app b l m=some (l ++ m):=by
  unfold app; rw[if_pos ⟨h1,h2⟩]
end Go.Vm
/- Plain laws of chapter 7: sets of ranks, what the loops do. -/
namespace Go.Vm
open Go
abbrev Spans:=List S_api_Span
def addS (l:Spans) (a b:Int):Spans:=match l.getLast? with
  | some x=>if x.Hi=a then l.dropLast ++ [⟨x.Lo,b⟩] else l ++ [⟨a,b⟩]
  | none=>[⟨a,b⟩]
theorem addS_len (l:Spans) (a b:Int):(addS l a b).length≤l.length + 1:=by
  unfold addS
  split
  · split
    · simp only[List.length_append,List.length_dropLast,List.length_singleton]; omega
    · simp
  · simp
theorem foldI {α β:Type} {ws:List α} {F:(β × Int)→Option (Step (β × Int) β)} {st:β→α→β} (I:β→Nat→Prop) (h1:∀ b (i:Nat) (h:i < ws.length),I b i→F (b,(i:Int))=some (.next (st b ws[i],((i + 1:Nat):Int)))∧I (st b ws[i]) (i + 1)) (h2:∀ b,F (b,(ws.length:Int))=some (.done b)) {b:β} (hb:I b 0) :
    loopC F (b,0)=some (ws.foldl st b):=by
  have:=loopC_fun (f:=F) (fun x=>∃ i:Nat,x.2=i∧i≤ws.length∧I x.1 i) (fun x=>ws.length - x.2.toNat) (fun x=>(ws.drop x.2.toNat).foldl st x.1) (fun x hx=>by
    obtain⟨b,z⟩:=x
    obtain⟨i,e,hi,hI⟩:=hx
    simp only at e hI
    subst e
    simp only[Int.toNat_natCast]
    rcases Nat.lt_or_ge i ws.length with h | h
    · right
      obtain⟨g1,g2⟩:=h1 b i h hI
      refine⟨_,g1,⟨i + 1,rfl,h,g2⟩,by simp only[Int.toNat_natCast]; omega,?_⟩
      simp only[Int.toNat_natCast]
      rw[List.drop_eq_getElem_cons h,List.foldl_cons]
    · have:i=ws.length:=by omega
      subst this
      left
      rw[h2]
      simp) (x:=(b,0)) ⟨0,rfl,Nat.zero_le _,hb⟩
  simpa using this
theorem last_ixl {α:Type} {l:List α} (h:l≠[]) (hl:l.length≤1048576):ixl l (w64 ((l.length:Int) - 1))=l.getLast?∧Int.toNat (w64 ((l.length:Int) - 1))=l.length - 1∧(w64 ((l.length:Int) - 1))≥0:=by
  have hp:0 < l.length:=List.length_pos_iff.2 h
  rw[w64_id (by omega) (by omega)]
  have e:((l.length:Int) - 1)=((l.length - 1:Nat):Int):=by omega
  refine⟨?_,by omega,by omega⟩
  rw[e,ixl_nat (by omega),List.getLast?_eq_getElem?,List.getElem?_eq_getElem (by omega)]
theorem set_last {α:Type}:∀ (l:List α) (x:α),l≠[]→l.set (l.length - 1) x=l.dropLast ++ [x]
  | [],x,h=>absurd rfl h
  | [a],x,_=>rfl
  | a :: b :: l,x,_=>by
    have:=set_last (b :: l) x (by simp)
    simp only[List.length_cons,Nat.add_sub_cancel] at this ⊢
    rw[List.set_cons_succ,List.dropLast_cons_cons,List.cons_append,← this]
theorem ranks_add_eq (l:Spans) (a b:Int) (hl:l.length≤1048576):ranks_add_maa59 l a b=some (addS l a b):=by
  unfold ranks_add_maa59 addS
  by_cases hn:l=[]
  · subst hn
    have:w64 ((([]:Spans).length:Int) - 1) = -1:=by rw[w64_id (by simp) (by simp)]; rfl
    rw[this]
    rfl
  · obtain⟨h1,h2,h3⟩:=last_ixl hn hl
    rw[h1,h2,if_pos (by simpa using h3)]
    cases hg:l.getLast? with
    | none=>exact absurd (List.getLast?_eq_none_iff.1 hg) hn
    | some x=>
      simp only[Option.bind_some]
      by_cases hx:x.Hi=a
      · rw[if_pos hx,if_pos (by simp[hx]),set_last _ _ hn]
      · rw[if_neg hx,if_neg (by simpa using hx),app_ok (by simp; omega) (by simp; omega)]
        rfl
def spansI (xs:List Int):Spans:=xs.foldl (fun s x=>addS s x (x + 1)) []
def whereN (m:List Bool) (k:Nat):Spans:=(List.range k).foldl (fun s i=>if m.getD i false=true then addS s (i:Int) ((i:Int) + 1) else s) []
def trueI (m:List Bool) (k:Nat):List Int:=((List.range k).filter fun i=>m.getD i false).map fun i:Nat=>(i:Int)
theorem where_spans (m:List Bool) (k:Nat):whereN m k=spansI (trueI m k):=by
  unfold whereN spansI trueI
  rw[List.foldl_map,List.foldl_filter]
theorem w64_s (i:Nat) (h:i≤1048576):w64 ((i:Int) + 1)=((i + 1:Nat):Int):=by rw[w64_id (by omega) (by omega)]; rfl
theorem getD_of {m:List Bool} {i:Nat} (h:i < m.length):m.getD i false=m[i]:=by simp[List.getD,h]
theorem ref07_Where_eq (m:List Bool) (hm:m.length≤1048576):ref07_Where m=some (whereN m (min m.length 65536)):=by
  unfold ref07_Where
  generalize hk:min m.length 65536=k
  have:=foldI (ws:=List.range k) (F:=ref07_Where_l1 m) (st:=fun s i=>if m.getD i false=true then addS s (i:Int) ((i:Int) + 1) else s) (b:=[]) (fun b i=>b.length≤i) (fun b i h hI=>by
    simp only[List.length_range] at h
    unfold ref07_Where_l1
    simp only[]
    rw[if_pos (by simp; omega),ixl_nat (show i < m.length by omega)]
    simp only[Option.bind_some,List.getElem_range]
    rw[w64_s i (by omega),getD_of (by omega)]
    cases m[i]'(by omega) with
    | true=>
      have h1:=ranks_add_eq b (i:Int) ((i:Int) + 1) (by omega)
      unfold ranks_add_maa59 at h1
      have h2:=addS_len b (i:Int) ((i:Int) + 1)
      simp only[Bool.not_true,Bool.false_eq_true,if_false,if_true]
      change Option.bind (Option.bind _ fun x23=>(if x23=true then Option.bind _ fun (x25:S_api_Span)=>some (List.set b _ (S_api_Span.mk x25.Lo ((i:Int) + 1))) else Option.bind (app 16 b [S_api_Span.mk (i:Int) ((i:Int) + 1)]) fun x26=>some x26)) _=_∧_
      rw[h1]
      exact⟨rfl,by omega⟩
    | false=>exact⟨rfl,by simp; omega⟩) (fun b=>by
    unfold ref07_Where_l1
    simp only[]
    rw[List.length_range,if_neg (by simp; omega)]) (Nat.zero_le _)
  rw[this]
  rfl
theorem ref07_Same_refl (v:Spans) (hv:v.length≤1048576):ref07_Same v v=some true:=by
  unfold ref07_Same
  rw[if_neg (by simp)]
  have:=loopC_fun (f:=ref07_Same_l1 v v) (fun x=>∃ i:Nat,x=i∧i≤v.length) (fun x=>v.length - x.toNat) (fun _=>Sum.inr ()) (fun x hx=>by
    obtain⟨i,rfl,hi⟩:=hx
    unfold ref07_Same_l1
    rcases Nat.lt_or_ge i v.length with h | h
    · right
      rw[if_pos (by simpa using h),ixl_nat h]
      simp only[Option.bind_some,beq_self_eq_true,Bool.and_self,Bool.not_true,Bool.false_eq_true,if_false]
      rw[w64_s i (by omega)]
      exact⟨_,rfl,⟨i + 1,rfl,h⟩,by simp only[Int.toNat_natCast]; omega,by first | trivial | rfl⟩
    · left
      rw[if_neg (by simp; omega)]) (x:=0) ⟨0,rfl,Nat.zero_le _⟩
  rw[this]
  rfl
theorem fit_body (a0:Int) (a1:Spans):ranks_Fit_l1 a0 a1=ref07_Fit_l1 a0 a1:=by
  funext ⟨x,i⟩
  unfold ranks_Fit_l1 ref07_Fit_l1
  simp only[]
  split
  · cases ixl a1 i with
    | none=>rfl
    | some s=>
      simp only[Option.bind_some]
      by_cases h1:s.Lo < 0 <;> by_cases h2:s.Lo≤x <;> by_cases h3:s.Hi≤s.Lo <;> by_cases h4:s.Hi > a0 <;> simp[h1,h2,h3,h4] <;> omega
  · rfl
theorem all_same (n:Int):ranks_All n=ref07_All n:=by
  unfold ranks_All ref07_All ref07_bounded
  split
  · rfl
  · rename_i h
    have:1≤n:=by simpa using h
    simp only[Option.bind_some]
    rw[if_neg (show ¬ (0 > n) by omega)]
def boundN (n:Int):Nat:=(min n 65536).toNat
theorem ref07_bounded_eq (n:Int):ref07_bounded n=some (boundN n:Int):=by
  unfold ref07_bounded boundN
  congr 1
  split <;> split <;> omega
theorem strict_ext {a b:List Int} (ha:a.Pairwise (· < ·)) (hb:b.Pairwise (· < ·)) (h:∀ x,x∈a↔x∈b):a=b:=by
  have na:a.Nodup:=ha.imp fun h=>by omega
  have nb:b.Nodup:=hb.imp fun h=>by omega
  exact List.Perm.eq_of_pairwise (le:=(· < ·)) (fun x y _ _ h1 h2=>by omega) ha hb ((List.perm_ext_iff_of_nodup na nb).2 h)
theorem trueI_pw (m:List Bool) (k:Nat):(trueI m k).Pairwise (· < ·):=by
  unfold trueI
  rw[List.pairwise_map]
  exact (List.pairwise_lt_range.filter _).imp fun h=>by omega
theorem trueI_mem (m:List Bool) (k:Nat) (x:Int):x∈trueI m k↔∃ i:Nat,x=i∧i < k∧m.getD i false=true:=by
  unfold trueI
  simp only[List.mem_map,List.mem_filter,List.mem_range]
  constructor
  · rintro⟨i,⟨h1,h2⟩,rfl⟩; exact⟨i,rfl,h1,h2⟩
  · rintro⟨i,rfl,h1,h2⟩; exact⟨i,⟨h1,h2⟩,rfl⟩
end Go.Vm
/- Plain laws of chapter 7: sets of ranks are made. -/
namespace Go.Vm
open Go
theorem compact_ok {d:List Int} (hs:d.Pairwise (· ≤ ·)):(Lib.compact d).Pairwise (· < ·)∧∀ x,x∈Lib.compact d↔x∈d:=by
  have hget:∀ j,j < d.length→d.toArray[j]! = d.getD j 0:=fun j hj=>by simp[hj]
  have hle:∀ i j,i≤j→j < d.length→d.getD i 0≤d.getD j 0:=fun i j hij hj=>by
    rcases Nat.lt_or_ge i j with h | h
    · have:=List.pairwise_iff_getElem.1 hs i j (by omega) hj h
      simpa[List.getD,hj,show i < d.length by omega] using this
    · have:i=j:=by omega
      subst this; exact Int.le_refl _
  unfold Lib.compact Lib.compactUpTo
  constructor
  · rw[List.pairwise_map]
    refine (List.Pairwise.filter _ List.pairwise_lt_range).imp_of_mem fun {i j} hi hj hij=>?_
    simp only[List.mem_filter,List.mem_range] at hi hj
    have hk:=hj.2
    unfold Lib.keeps at hk
    simp only[decide_eq_true_eq] at hk
    rcases hk with hk | hk
    · omega
    · rw[hget j hj.1,hget (j - 1) (by omega)] at hk
      rw[hget i hi.1,hget j hj.1]
      have h1:=hle i (j - 1) (by omega) (by omega)
      have h2:=hle (j - 1) j (by omega) hj.1
      omega
  · intro x
    simp only[List.mem_map,List.mem_filter,List.mem_range]
    constructor
    · rintro⟨j,⟨h1,_⟩,rfl⟩
      rw[hget j h1]
      simp[List.getD,h1]
    · intro hx
      have key:∀ j,j < d.length→∃ i,(i < d.length∧Lib.keeps d.toArray i=true)∧d.toArray[i]! = d.getD j 0:=by
        intro j
        induction j with
        | zero=>
          intro h
          exact⟨0,⟨h,by simp[Lib.keeps]⟩,hget 0 h⟩
        | succ j ih=>
          intro h
          by_cases e:d.getD (j + 1) 0=d.getD j 0
          · obtain⟨i,h1,h2⟩:=ih (by omega)
            exact⟨i,h1,h2.trans e.symm⟩
          · refine⟨j + 1,⟨h,?_⟩,hget _ h⟩
            unfold Lib.keeps
            rw[decide_eq_true_eq,hget _ h,Nat.add_sub_cancel,hget j (by omega)]
            exact .inr e
      obtain⟨j,hj,rfl⟩:=List.getElem_of_mem hx
      obtain⟨i,h1,h2⟩:=key j hj
      exact⟨i,h1,by rw[h2]; simp[List.getD,hj]⟩
theorem trueI_len (m:List Bool) (k:Nat):(trueI m k).length≤k:=by
  unfold trueI
  rw[List.length_map]
  exact Nat.le_trans (List.length_filter_le _ _) (by simp)
theorem strict_len {xs:List Int} {k:Nat} (h:xs.Pairwise (· < ·)) (hx:∀ x∈xs,0≤x∧x < k):xs.length≤k:=by
  have:xs=trueI ((List.range k).map fun i:Nat=>decide ((i:Int)∈xs)) k:=strict_ext h (trueI_pw _ _) fun x=>by
    rw[trueI_mem]
    constructor
    · intro q
      have:=hx x q
      refine⟨x.toNat,by omega,by omega,?_⟩
      rw[getD_of (by simp; omega)]
      simp only[List.getElem_map,List.getElem_range,decide_eq_true_eq]
      rw[show ((x.toNat:Nat):Int)=x by omega]; exact q
    · rintro⟨i,rfl,h1,h2⟩
      rw[getD_of (by simpa using h1)] at h2
      simpa using h2
  rw[this]
  exact trueI_len _ _
end Go.Vm
/- Plain laws of chapter 7: sets of ranks, as what is in them. -/
namespace Go.Vm
open Go
def inS (s:Spans) (x:Int):Prop:=∃ y∈s,y.Lo≤x∧x < y.Hi
structure okS (n:Int) (s:Spans):Prop where
  el:∀ y∈s,0≤y.Lo∧y.Lo < y.Hi∧y.Hi≤n
  pw:s.Pairwise fun y z=>y.Hi < z.Lo
def chainB (last n:Int):Spans→Bool
  | []=>true
  | y :: s=>decide (last < y.Lo∧0≤y.Lo∧y.Lo < y.Hi∧y.Hi≤n) && chainB y.Hi n s
theorem chain_iff (n:Int):∀ (s:Spans) (last:Int), -1≤last→(chainB last n s=true↔(∀ y∈s,last < y.Lo)∧okS n s)
  | [],last,_=>by
    simp only[chainB,List.not_mem_nil,false_implies,implies_true,true_and,true_iff]
    exact⟨by simp,List.Pairwise.nil⟩
  | y :: s,last,hl=>by
    simp only[chainB,Bool.and_eq_true,decide_eq_true_eq]
    constructor
    · rintro⟨⟨h1,h2,h3,h4⟩,h5⟩
      obtain⟨k1,k2⟩:=(chain_iff n s y.Hi (by omega)).1 h5
      refine⟨fun z hz=>?_,fun z hz=>?_,List.pairwise_cons.2 ⟨k1,k2.pw⟩⟩
      · rcases List.mem_cons.1 hz with rfl | hz
        · exact h1
        · have:=k1 z hz; omega
      · rcases List.mem_cons.1 hz with rfl | hz
        · exact⟨h2,h3,h4⟩
        · exact k2.el z hz
    · rintro⟨h1,h2,h3⟩
      obtain⟨k1,k2⟩:=List.pairwise_cons.1 h3
      have:=h2 y (by simp)
      exact⟨⟨h1 y (by simp),this.1,this.2.1,this.2.2⟩,(chain_iff n s y.Hi (by omega)).2 ⟨k1,fun z hz=>h2 z (List.mem_cons_of_mem _ hz),k2⟩⟩
theorem ref07_Fit_eq (n:Int) (s:Spans) (hs:s.length≤1048576):∃ b,ref07_Fit n s=some b∧(b=true↔0≤n∧n≤65536∧okS n s):=by
  unfold ref07_Fit
  by_cases hn:n < 0∨n > 65536
  · rw[if_pos (by simpa using hn)]
    exact⟨false,rfl,⟨fun h=>(by cases h),fun h=>(by omega)⟩⟩
  · rw[if_neg (by simpa using hn)]
    have hloop:=loopC_fun (f:=ref07_Fit_l1 n s) (fun x=>∃ i:Nat,x.2=i∧i≤s.length) (fun x=>s.length - x.2.toNat) (fun x=>cond (chainB x.1 n (s.drop x.2.toNat)) (Sum.inr ()) (Sum.inl ())) (fun x hx=>by
      obtain⟨last,z⟩:=x
      obtain⟨i,e,hi⟩:=hx
      simp only at e
      subst e
      rw[← fit_body]
      unfold ranks_Fit_l1
      simp only[Int.toNat_natCast]
      rcases Nat.lt_or_ge i s.length with h | h
      · rw[if_pos (by simpa using h),ixl_nat h]
        simp only[Option.bind_some]
        rw[List.drop_eq_getElem_cons h]
        simp only[chainB]
        by_cases hc:last < s[i].Lo∧0≤s[i].Lo∧s[i].Lo < s[i].Hi∧s[i].Hi≤n
        · right
          rw[if_neg (by simp; omega),w64_s i (by omega)]
          refine⟨_,rfl,⟨i + 1,rfl,h⟩,by simp only[Int.toNat_natCast]; omega,?_⟩
          simp only[Int.toNat_natCast]
          rw[decide_eq_true hc,Bool.true_and]
        · left
          rw[if_pos (by simp; omega),decide_eq_false hc,Bool.false_and]
          rfl
      · have:i=s.length:=by omega
        subst this
        left
        rw[if_neg (by simp)]
        simp[chainB]) (x:=((-1:Int),(0:Int))) ⟨0,rfl,Nat.zero_le _⟩
    rw[hloop]
    simp only[Int.toNat_zero,List.drop_zero,Option.bind_some]
    have hc:=chain_iff n s (-1) (Int.le_refl _)
    cases hb:chainB (-1) n s with
    | true=>
      refine⟨true,rfl,?_⟩
      have:=hc.1 hb
      exact⟨fun _=>⟨by omega,by omega,this.2⟩,fun _=>rfl⟩
    | false=>
      refine⟨false,rfl,?_⟩
      constructor
      · intro h; cases h
      · rintro⟨_,_,h⟩
        rw[hc.2 ⟨fun y hy=>by have:=h.el y hy; omega,h⟩] at hb
        cases hb
theorem okS.tail {n:Int} {y:S_api_Span} {s:Spans} (h:okS n (y :: s)):okS n s:=⟨fun z hz=>h.el z (List.mem_cons_of_mem _ hz),(List.pairwise_cons.1 h.pw).2⟩
theorem inS_cons (y:S_api_Span) (s:Spans) (x:Int):inS (y :: s) x↔(y.Lo≤x∧x < y.Hi)∨inS s x:=by simp[inS]
theorem inS_nil (x:Int):¬ inS [] x:=by simp[inS]
theorem inS_app (s t:Spans) (x:Int):inS (s ++ t) x↔inS s x∨inS t x:=by
  simp only[inS,List.mem_append]
  constructor
  · rintro⟨y,h | h,k⟩
    · exact .inl ⟨y,h,k⟩
    · exact .inr ⟨y,h,k⟩
  · rintro (⟨y,h,k⟩ | ⟨y,h,k⟩)
    · exact⟨y,.inl h,k⟩
    · exact⟨y,.inr h,k⟩
theorem tail_gt {n:Int} {y:S_api_Span} {s:Spans} (h:okS n (y :: s)) {x:Int} (hx:inS s x):y.Hi < x:=by
  obtain⟨z,hz,h1,h2⟩:=hx
  have:=(List.pairwise_cons.1 h.pw).1 z hz
  omega
theorem okS_ext {n:Int}:∀ {s t:Spans},okS n s→okS n t→(∀ x,inS s x↔inS t x)→s=t
  | [],[],_,_,_=>rfl
  | [],z :: t,_,ht,h=>by
    have:=ht.el z (by simp)
    exact ((inS_nil z.Lo) ((h z.Lo).2 ((inS_cons z t z.Lo).2 (.inl ⟨Int.le_refl _,this.2.1⟩)))).elim
  | y :: s,[],hs,_,h=>by
    have:=hs.el y (by simp)
    exact ((inS_nil y.Lo) ((h y.Lo).1 ((inS_cons y s y.Lo).2 (.inl ⟨Int.le_refl _,this.2.1⟩)))).elim
  | y :: s,z :: t,hs,ht,h=>by
    have ey:=hs.el y (by simp)
    have ez:=ht.el z (by simp)
    have a1:z.Lo≤y.Lo:=by
      rcases (inS_cons z t y.Lo).1 ((h y.Lo).1 ((inS_cons y s y.Lo).2 (.inl ⟨Int.le_refl _,ey.2.1⟩))) with q | q
      · exact q.1
      · have:=tail_gt ht q; omega
    have a2:y.Lo≤z.Lo:=by
      rcases (inS_cons y s z.Lo).1 ((h z.Lo).2 ((inS_cons z t z.Lo).2 (.inl ⟨Int.le_refl _,ez.2.1⟩))) with q | q
      · exact q.1
      · have:=tail_gt hs q; omega
    have a3:¬ y.Hi < z.Hi:=fun hlt=>by
      rcases (inS_cons y s y.Hi).1 ((h y.Hi).2 ((inS_cons z t y.Hi).2 (.inl ⟨by omega,hlt⟩))) with q | q
      · omega
      · have:=tail_gt hs q; omega
    have a4:¬ z.Hi < y.Hi:=fun hlt=>by
      rcases (inS_cons z t z.Hi).1 ((h z.Hi).1 ((inS_cons y s z.Hi).2 (.inl ⟨by omega,hlt⟩))) with q | q
      · omega
      · have:=tail_gt ht q; omega
    have e:y=z:=by
      cases y; cases z
      simp only[S_api_Span.mk.injEq] at *
      exact⟨by omega,by omega⟩
    subst e
    congr 1
    refine okS_ext hs.tail ht.tail fun x=>?_
    constructor
    · intro q
      have:=tail_gt hs q
      rcases (inS_cons y t x).1 ((h x).1 ((inS_cons y s x).2 (.inr q))) with q2 | q2
      · omega
      · exact q2
    · intro q
      have:=tail_gt ht q
      rcases (inS_cons y s x).1 ((h x).2 ((inS_cons y t x).2 (.inr q))) with q2 | q2
      · omega
      · exact q2
theorem okS_len {n:Int} {s:Spans} (h:okS n s) (hn:n≤65536):s.length≤65536:=by
  have h1:(s.map (·.Lo)).Pairwise (· < ·):=by
    rw[List.pairwise_map]
    exact h.pw.imp_of_mem fun {y z} hy hz hyz=>by have:=h.el y hy; omega
  have:=strict_len h1 (k:=65536) fun x hx=>by
    obtain⟨y,hy,rfl⟩:=List.mem_map.1 hx
    have:=h.el y hy
    omega
  simpa using this
theorem inS_range {n:Int} {s:Spans} (h:okS n s) {x:Int} (hx:inS s x):0≤x∧x < n:=by
  obtain⟨y,hy,h1,h2⟩:=hx
  have:=h.el y hy
  omega
theorem okS_nil (n:Int):okS n []:=⟨by simp,List.Pairwise.nil⟩
theorem addS_nil (a b:Int):addS [] a b=[⟨a,b⟩]:=rfl
theorem addS_snoc (l:Spans) (x:S_api_Span) (a b:Int):addS (l ++ [x]) a b=if x.Hi=a then l ++ [⟨x.Lo,b⟩] else l ++ [x] ++ [⟨a,b⟩]:=by
  unfold addS
  rw[List.getLast?_append,List.getLast?_singleton]
  simp only[Option.some_or,List.dropLast_concat]
theorem addS_ok {n:Int} {l:Spans} (h:okS n l) {a b:Int} (hla:∀ y∈l,y.Hi≤a) (ha:0≤a) (hab:a < b) (hb:b≤n) :
    okS n (addS l a b)∧(∀ y∈addS l a b,y.Hi≤b)∧∀ x,inS (addS l a b) x↔inS l x∨(a≤x∧x < b):=by
  rcases List.eq_nil_or_concat l with rfl | ⟨l,z,rfl⟩
  · rw[addS_nil]
    refine⟨⟨fun y hy=>?_,List.pairwise_singleton _ _⟩,fun y hy=>?_,fun x=>?_⟩
    · simp only[List.mem_singleton] at hy; subst hy; exact⟨ha,hab,hb⟩
    · simp only[List.mem_singleton] at hy; subst hy; exact Int.le_refl _
    · rw[inS_cons]; simp[inS]
  · rw[List.concat_eq_append] at h hla ⊢
    rw[addS_snoc]
    have hz:=h.el z (by simp)
    have hza:=hla z (by simp)
    obtain⟨p1,_,p3⟩:=List.pairwise_append.1 h.pw
    split
    · rename_i e
      refine⟨⟨fun y hy=>?_,List.pairwise_append.2 ⟨p1,List.pairwise_singleton _ _,fun y hy w hw=>?_⟩⟩,fun y hy=>?_,fun x=>?_⟩
      · rcases List.mem_append.1 hy with hy | hy
        · exact h.el y (List.mem_append_left _ hy)
        · simp only[List.mem_singleton] at hy; subst hy; exact⟨hz.1,by show z.Lo < b; omega,hb⟩
      · simp only[List.mem_singleton] at hw; subst hw; exact p3 y hy z (by simp)
      · rcases List.mem_append.1 hy with hy | hy
        · have:=hla y (List.mem_append_left _ hy); omega
        · simp only[List.mem_singleton] at hy; subst hy; exact Int.le_refl _
      · rw[inS_app,inS_app,inS_cons,inS_cons]
        simp only[inS_nil,or_false]
        constructor
        · rintro (q | q)
          · exact .inl (.inl q)
          · by_cases hx:x < a
            · exact .inl (.inr ⟨q.1,by omega⟩)
            · exact .inr ⟨by omega,q.2⟩
        · rintro ((q | q) | q)
          · exact .inl q
          · exact .inr ⟨q.1,by show x < b; omega⟩
          · exact .inr ⟨by show z.Lo≤x; omega,q.2⟩
    · rename_i e
      refine⟨⟨fun y hy=>?_,List.pairwise_append.2 ⟨h.pw,List.pairwise_singleton _ _,fun y hy w hw=>?_⟩⟩,fun y hy=>?_,fun x=>?_⟩
      · rcases List.mem_append.1 hy with hy | hy
        · exact h.el y hy
        · simp only[List.mem_singleton] at hy; subst hy; exact⟨ha,hab,hb⟩
      · simp only[List.mem_singleton] at hw
        subst hw
        rcases List.mem_append.1 hy with hy | hy
        · have:=p3 y hy z (by simp)
          show y.Hi < a
          omega
        · simp only[List.mem_singleton] at hy; subst hy; show y.Hi < a; omega
      · rcases List.mem_append.1 hy with hy | hy
        · have:=hla y hy; omega
        · simp only[List.mem_singleton] at hy; subst hy; exact Int.le_refl _
      · rw[inS_app,inS_cons]
        simp only[inS_nil,or_false]
def foldAdd (ps:List (Int × Int)) (acc:Spans):Spans:=ps.foldl (fun s p=>addS s p.1 p.2) acc
theorem foldAdd_ok {n:Int}:∀ {ps:List (Int × Int)} {acc:Spans},okS n acc→(∀ y∈acc,∀ p∈ps,y.Hi≤p.1)→ps.Pairwise (fun p q=>p.2≤q.1)→(∀ p∈ps,0≤p.1∧p.1 < p.2∧p.2≤n) →
    okS n (foldAdd ps acc)∧∀ x,inS (foldAdd ps acc) x↔inS acc x∨∃ p∈ps,p.1≤x∧x < p.2
  | [],acc,h,_,_,_=>⟨h,fun x=>by simp[foldAdd]⟩
  | p :: ps,acc,h,hl,hp,he=>by
    obtain⟨p1,p2⟩:=List.pairwise_cons.1 hp
    have e:=he p (by simp)
    obtain⟨a1,a2,a3⟩:=addS_ok h (a:=p.1) (b:=p.2) (fun y hy=>hl y hy p (by simp)) e.1 e.2.1 e.2.2
    obtain⟨b1,b2⟩:=foldAdd_ok (ps:=ps) a1 (fun y hy q hq=>Int.le_trans (a2 y hy) (p1 q hq)) p2 (fun q hq=>he q (List.mem_cons_of_mem _ hq))
    refine⟨b1,fun x=>?_⟩
    show inS (foldAdd ps (addS acc p.1 p.2)) x↔_
    rw[b2,a3]
    simp only[List.mem_cons,exists_eq_or_imp,or_assoc]
theorem spansI_fold (xs:List Int):spansI xs=foldAdd (xs.map fun x=>(x,x + 1)) []:=by
  unfold spansI foldAdd
  rw[List.foldl_map]
theorem spansI_ok {n:Int} {xs:List Int} (h:xs.Pairwise (· < ·)) (hx:∀ x∈xs,0≤x∧x < n):okS n (spansI xs)∧∀ x,inS (spansI xs) x↔x∈xs:=by
  rw[spansI_fold]
  obtain⟨h1,h2⟩:=foldAdd_ok (n:=n) (ps:=xs.map fun x=>(x,x + 1)) (okS_nil n) (by simp) (by
    rw[List.pairwise_map]
    exact h.imp fun {a b} hab=>by show a + 1≤b; omega) (fun p hp=>by
    obtain⟨x,hx2,rfl⟩:=List.mem_map.1 hp
    have:=hx x hx2
    exact⟨this.1,by show x < x + 1; omega,by show x + 1≤n; omega⟩)
  refine⟨h1,fun x=>?_⟩
  rw[h2]
  simp only[inS_nil,false_or,List.mem_map]
  constructor
  · rintro⟨p,⟨y,hy,rfl⟩,k1,k2⟩
    have:y=x:=by simp only at k1 k2; omega
    subst this; exact hy
  · intro q; exact⟨(x,x + 1),⟨x,q,rfl⟩,Int.le_refl _,by show x < x + 1; omega⟩
def hasB (s:Spans) (x:Int):Bool:=s.any fun y=>decide (y.Lo≤x) && decide (x < y.Hi)
theorem hasB_iff (s:Spans) (x:Int):hasB s x=true↔inS s x:=by
  unfold hasB inS
  simp only[List.any_eq_true,Bool.and_eq_true,decide_eq_true_eq]
theorem hasB_congr {s t:Spans} {x y:Int} (h:inS s x↔inS t y):hasB s x=hasB t y:=by
  rw[Bool.eq_iff_iff,hasB_iff,hasB_iff]; exact h
theorem ranks_Has_eq (s:Spans) (x:Int) (hs:s.length≤1048576):ranks_Has s x=some (hasB s x):=by
  unfold ranks_Has slices_ContainsFunc_api_Span_api_Span_s6956 slices_IndexFunc_api_Span_api_Span_s6956
  obtain⟨t,h1,h2⟩:=loopC_inv (f:=slices_IndexFunc_api_Span_api_Span_s6956_l1 s x) (fun z=>∃ i:Nat,z=i∧i≤s.length∧hasB (s.take i) x=false) (fun z=>s.length - z.toNat)
    (fun t=>(t=Sum.inr ()∧hasB s x=false)∨∃ i:Nat,t=Sum.inl (i:Int)∧hasB s x=true) (fun z hz=>by
    obtain⟨i,rfl,hi,hall⟩:=hz
    unfold slices_IndexFunc_api_Span_api_Span_s6956_l1
    rcases Nat.lt_or_ge i s.length with h | h
    · rw[if_pos (by simpa using h),ixl_nat h]
      simp only[Option.bind_some]
      rw[show ranks_Has_1_s64b3 s[i] x=some (decide (s[i].Lo≤x) && decide (x < s[i].Hi)) from rfl]
      simp only[Option.bind_some]
      cases hd:(decide (s[i].Lo≤x) && decide (x < s[i].Hi)) with
      | true=>
        left
        refine⟨_,rfl,.inr ⟨i,rfl,?_⟩⟩
        unfold hasB
        exact List.any_eq_true.2 ⟨s[i],List.getElem_mem _,hd⟩
      | false=>
        right
        rw[if_neg (by simp),w64_s i (by omega)]
        refine⟨_,rfl,⟨i + 1,rfl,h,?_⟩,by simp only[Int.toNat_natCast]; omega⟩
        unfold hasB at hall ⊢
        rw[List.take_succ_eq_append_getElem h,List.any_append,hall]
        simp[hd]
    · left
      have:i=s.length:=by omega
      subst this
      rw[if_neg (by simp)]
      rw[List.take_length] at hall
      exact⟨_,rfl,.inl ⟨rfl,hall⟩⟩) (x:=0) ⟨0,rfl,Nat.zero_le _,by simp[hasB]⟩
  rw[h1]
  rcases h2 with ⟨rfl,h2⟩ | ⟨i,rfl,h2⟩
  · simp[h2]
  · simp[h2]
theorem span_eq (a b:S_api_Span):((a.Lo == b.Lo) && (a.Hi == b.Hi))=decide (a=b):=by
  cases a; cases b
  simp only[S_api_Span.mk.injEq,Bool.decide_and]
  rfl
def eqB:Spans→Spans→Bool
  | [],[]=>true
  | y :: s,z :: t=>decide (y=z) && eqB s t
  | _,_=>false
theorem eqB_iff:∀ s t:Spans,eqB s t=true↔s=t
  | [],[]=>by simp[eqB]
  | y :: s,z :: t=>by simp[eqB,eqB_iff s t]
  | [],_ :: _=>by simp[eqB]
  | _ :: _,[]=>by simp[eqB]
theorem ranks_Same_eq (s t:Spans) (hs:s.length≤1048576):ranks_Same s t=some (decide (s=t)):=by
  unfold ranks_Same slices_Equal_api_Span_api_Span
  by_cases hl:s.length=t.length
  · rw[if_neg (by simp[hl])]
    have:=loopC_fun (f:=slices_Equal_api_Span_api_Span_l1 s t) (fun x=>∃ i:Nat,x=i∧i≤s.length) (fun x=>s.length - x.toNat) (fun x=>cond (eqB (s.drop x.toNat) (t.drop x.toNat)) (Sum.inr ()) (Sum.inl ())) (fun x hx=>by
      obtain⟨i,rfl,hi⟩:=hx
      unfold slices_Equal_api_Span_api_Span_l1
      simp only[Int.toNat_natCast]
      rcases Nat.lt_or_ge i s.length with h | h
      · rw[if_pos (by simpa using h),ixl_nat h,ixl_nat (show i < t.length by omega)]
        simp only[Option.bind_some,span_eq]
        rw[List.drop_eq_getElem_cons h,List.drop_eq_getElem_cons (show i < t.length by omega)]
        simp only[eqB]
        by_cases e:s[i]=t[i]
        · right
          rw[if_neg (by simp[e]),w64_s i (by omega)]
          refine⟨_,rfl,⟨i + 1,rfl,h⟩,by simp only[Int.toNat_natCast]; omega,?_⟩
          simp only[Int.toNat_natCast,e,decide_true,Bool.true_and]
        · left
          rw[if_pos (by simp[e]),decide_eq_false e]
          rfl
      · left
        rw[if_neg (by simp; omega),List.drop_of_length_le h,List.drop_of_length_le (by omega)]
        rfl) (x:=0) ⟨0,rfl,Nat.zero_le _⟩
    rw[this]
    simp only[Int.toNat_zero,List.drop_zero,Option.bind_some]
    by_cases e:s=t
    · rw[(eqB_iff s t).2 e]; simp[e]
    · have:eqB s t=false:=by
        cases h:eqB s t with
        | true=>exact absurd ((eqB_iff s t).1 h) e
        | false=>rfl
      rw[this]; simp[e]
  · rw[if_pos (by simp only[bne_iff_ne,ne_eq]; omega)]
    have:s≠t:=fun e=>hl (by rw[e])
    simp[this]
end Go.Vm
/- Plain laws of chapter 7: what is kept of two sets, lists, counts. -/
namespace Go.Vm
open Go
theorem grow_eq (k:Nat) (hk:k≤2097152):slices_Grow_api_Span_api_Span (k:Int)=some []:=by
  unfold slices_Grow_api_Span_api_Span
  have e0:w64 (0 - 0)=0:=w64_id (by decide) (by decide)
  have e1:w64 ((k:Int) - 0)=(k:Int):=by rw[w64_id (by omega) (by omega)]; omega
  rw[if_neg (by simp)]
  simp only[Option.bind_some,e0,e1]
  by_cases h:k=0
  · subst h
    rw[if_neg (by simp)]
    rfl
  · rw[if_pos (by simp; omega)]
    have:growO 16 (S_api_Span.mk 0 0) (k:Int)=some (List.replicate k ⟨0,0⟩):=by
      unfold growO
      rw[if_pos ⟨by omega,by omega,by rw[Int.toNat_natCast]; omega⟩,Int.toNat_natCast]
    rw[this]
    simp only[Option.bind_some]
    rw[show subl (List.replicate k (S_api_Span.mk 0 0)) 0 0=some [] from by
      have:=subl_take (l:=List.replicate k (S_api_Span.mk 0 0)) (j:=0) (Nat.zero_le _)
      simpa using this]
    rfl
theorem concat_eq (a b:Spans) (ha:a.length≤1048576) (hb:b.length≤1048576):slices_Concat_api_Span_api_Span [a,b]=some (a ++ b):=by
  unfold slices_Concat_api_Span_api_Span
  have w1:w64 (0 + 1)=1:=w64_id (by decide) (by decide)
  have w2:w64 (1 + 1)=2:=w64_id (by decide) (by decide)
  have wa:w64 (0 + (a.length:Int))=(a.length:Int):=by rw[w64_id (by omega) (by omega)]; omega
  have wb:w64 ((a.length:Int) + (b.length:Int))=((a.length + b.length:Nat):Int):=by rw[w64_id (by omega) (by omega)]; omega
  have s1:slices_Concat_api_Span_api_Span_l1 [a,b] (0,0)=some (.next ((a.length:Int),1)):=by
    unfold slices_Concat_api_Span_api_Span_l1
    simp only[]
    rw[if_pos (by simp),show ixl [a,b] 0=some a from rfl]
    simp only[Option.bind_some,wa,w1]
    rw[if_neg (by simp)]
    rfl
  have s2:slices_Concat_api_Span_api_Span_l1 [a,b] ((a.length:Int),1)=some (.next (((a.length + b.length:Nat):Int),2)):=by
    unfold slices_Concat_api_Span_api_Span_l1
    simp only[]
    rw[if_pos (by simp),show ixl [a,b] 1=some b from rfl]
    simp only[Option.bind_some,wb,w2]
    rw[if_neg (by simp; omega)]
    rfl
  have s3:slices_Concat_api_Span_api_Span_l1 [a,b] (((a.length + b.length:Nat):Int),2)=some (.done ((a.length + b.length:Nat):Int)):=by
    unfold slices_Concat_api_Span_api_Span_l1
    simp only[]
    rw[if_neg (by simp)]
  rw[loopC_next s1,loopC_next s2,loopC_done s3]
  simp only[Option.bind_some]
  rw[grow_eq _ (by omega)]
  simp only[Option.bind_some]
  have t1:slices_Concat_api_Span_api_Span_l2 [a,b] ([],0)=some (.next (a,1)):=by
    unfold slices_Concat_api_Span_api_Span_l2
    simp only[]
    rw[if_pos (by simp),show ixl [a,b] 0=some a from rfl]
    simp only[Option.bind_some,w1]
    rw[app_ok (by simp; omega) (by simp; omega)]
    rfl
  have t2:slices_Concat_api_Span_api_Span_l2 [a,b] (a,1)=some (.next (a ++ b,2)):=by
    unfold slices_Concat_api_Span_api_Span_l2
    simp only[]
    rw[if_pos (by simp),show ixl [a,b] 1=some b from rfl]
    simp only[Option.bind_some,w2]
    rw[app_ok (by omega) (by omega)]
    rfl
  have t3:slices_Concat_api_Span_api_Span_l2 [a,b] (a ++ b,2)=some (.done (a ++ b)):=by
    unfold slices_Concat_api_Span_api_Span_l2
    simp only[]
    rw[if_neg (by simp)]
  rw[loopC_next t1,loopC_next t2,loopC_done t3]
  rfl
def cutL (s:Spans):List Int:=s.flatMap fun y=>[y.Lo,y.Hi]
theorem foldl_flat {α β:Type} (f:α→List β):∀ (l:List α) (acc:List β),l.foldl (fun s y=>s ++ f y) acc=acc ++ l.flatMap f
  | [],acc=>by simp
  | y :: l,acc=>by rw[List.foldl_cons,foldl_flat f l,List.flatMap_cons,List.append_assoc]
def sgmt:List Int→List (Int × Int)
  | []=>[]
  | [_]=>[]
  | x :: y :: l=>(x,y) :: sgmt (y :: l)
theorem sgmt_mem:∀ {c:List Int},c.Pairwise (· < ·)→∀ p∈sgmt c,p.1∈c∧p.2∈c∧p.1 < p.2∧∀ z∈c,z≤p.1∨p.2≤z
  | [],_,p,hp=>by cases hp
  | [_],_,p,hp=>by cases hp
  | x :: y :: l,h,p,hp=>by
    obtain⟨h1,h2⟩:=List.pairwise_cons.1 h
    simp only[sgmt] at hp
    rcases List.mem_cons.1 hp with rfl | hp
    · refine⟨by simp,by simp,h1 y (by simp),fun z hz=>?_⟩
      rcases List.mem_cons.1 hz with rfl | hz
      · exact .inl (Int.le_refl _)
      · rcases List.mem_cons.1 hz with rfl | hz
        · exact .inr (Int.le_refl _)
        · have:=(List.pairwise_cons.1 h2).1 z hz
          exact .inr (by show y≤z; omega)
    · obtain⟨k1,k2,k3,k4⟩:=sgmt_mem h2 p hp
      refine⟨List.mem_cons_of_mem _ k1,List.mem_cons_of_mem _ k2,k3,fun z hz=>?_⟩
      rcases List.mem_cons.1 hz with rfl | hz
      · have:=h1 p.1 k1; exact .inl (by omega)
      · exact k4 z hz
theorem sgmt_pw:∀ {c:List Int},c.Pairwise (· < ·)→(sgmt c).Pairwise fun p q=>p.2≤q.1
  | [],_=>List.Pairwise.nil
  | [_],_=>List.Pairwise.nil
  | x :: y :: l,h=>by
    obtain⟨h1,h2⟩:=List.pairwise_cons.1 h
    simp only[sgmt]
    refine List.pairwise_cons.2 ⟨fun q hq=>?_,sgmt_pw h2⟩
    obtain⟨k1,_⟩:=sgmt_mem h2 q hq
    rcases List.mem_cons.1 k1 with e | k1
    · show y≤q.1; omega
    · have:=(List.pairwise_cons.1 h2).1 _ k1
      show y≤q.1; omega
theorem sgmt_cover:∀ {c:List Int},c.Pairwise (· < ·)→∀ {u v x:Int},u∈c→v∈c→u≤x→x < v→∃ p∈sgmt c,p.1≤x∧x < p.2
  | [],_,u,v,x,hu,_,_,_=>by cases hu
  | [w],_,u,v,x,hu,hv,h1,h2=>by
    simp only[List.mem_singleton] at hu hv
    omega
  | w :: y :: l,h,u,v,x,hu,hv,h1,h2=>by
    obtain⟨p1,p2⟩:=List.pairwise_cons.1 h
    have hwy:=p1 y (by simp)
    by_cases hx:x < y
    · refine⟨(w,y),by simp[sgmt],?_,hx⟩
      rcases List.mem_cons.1 hu with rfl | hu
      · exact h1
      · have:=p1 u hu; show w≤x; omega
    · have hv2:v∈y :: l:=by
        rcases List.mem_cons.1 hv with rfl | hv
        · omega
        · exact hv
      obtain⟨p,k1,k2⟩:=sgmt_cover p2 (u:=y) (v:=v) (x:=x) (by simp) hv2 (by omega) h2
      exact⟨p,by simp only[sgmt]; exact List.mem_cons_of_mem _ k1,k2⟩
theorem sgmt_drop:∀ {c:List Int} {i:Nat} (h:i + 1 < c.length),sgmt (c.drop i)=(c[i]'(by omega),c[i + 1]) :: sgmt (c.drop (i + 1)):=fun {c i} h=>by
  rw[List.drop_eq_getElem_cons (show i < c.length by omega),List.drop_eq_getElem_cons h]
  rfl
theorem sgmt_end {c:List Int} {i:Nat} (h:c.length≤i + 1):sgmt (c.drop i)=[]:=by
  have:(c.drop i).length≤1:=by rw[List.length_drop]; omega
  match hc:c.drop i,this with
  | [],_=>rfl
  | [_],_=>rfl
  | _ :: _ :: _,h=>simp at h
def cutsOf (a b:Spans):List Int:=Lib.compact (sortI (cutL (a ++ b)))
def keptS (f:Bool→Bool→Bool) (a b:Spans):Spans:=foldAdd ((sgmt (cutsOf a b)).filter fun p=>f (hasB a p.1) (hasB b p.1)) []
noncomputable def L2g (g:Bool→Bool→Option Bool) (x1:Spans × Spans) (x15:List Int):(Int × Spans)→Option (Step (Int × Spans) Spans):=fun (x23,x24)=>(if (decide (x23 < (List.length x15:Int)))=true then Option.bind (ixl x15 (w64 (x23 - 1))) (fun x35=>Option.bind (ixl x15 x23) (fun x36=>Option.bind (ranks_Has x1.1 x35) (fun x37=>Option.bind (ranks_Has x1.2 x35) (fun x38=>Option.bind (Option.bind (g x37 x38) (fun x42=>(if x42=true then Option.bind (ranks_add_maa59 x24 x35 x36) (fun x43=>some x43) else some x24)):Option Spans) (fun x41=>some (Step.next ((w64 (x23 + 1)),x41))))))) else some (Step.done x24))
noncomputable def L1g (x2:Spans):(List Int × Int)→Option (Step (List Int × Int) (List Int)):=fun (x5,x6)=>(if (decide (x6 < (List.length x2:Int)))=true then Option.bind (ixl x2 x6) (fun x12=>Option.bind (app 8 x5 [x12.Lo,x12.Hi]) (fun x13=>some (Step.next (x13,(w64 (x6 + 1)))))) else some (Step.done x5))
noncomputable def keptG (g:Bool→Bool→Option Bool) (a0 a1:Spans):Option Spans:=Option.bind (ranks_stretches a0 a1) (fun x1=>Option.bind (slices_Concat_api_Span_api_Span [x1.1,x1.2]) (fun x2=>Option.bind (loopC (L1g x2) ([],0)) (fun x11=>Option.bind (slices_SortI x11) (fun x14=>Option.bind (slices_CompactI x14) (fun x15=>Option.bind (loopC (L2g g x1 x15) (1,[])) (fun x34=>some x34))))))
theorem cuts_pw (a b:Spans):(cutsOf a b).Pairwise (· < ·):=(compact_ok (sortI_pw _)).1
theorem cuts_mem (a b:Spans) (x:Int):x∈cutsOf a b↔∃ y,(y∈a∨y∈b)∧(x=y.Lo∨x=y.Hi):=by
  unfold cutsOf
  rw[(compact_ok (sortI_pw _)).2,(sortI_perm _).mem_iff]
  unfold cutL
  simp only[List.mem_flatMap,List.mem_append,List.mem_cons,List.not_mem_nil,or_false]
theorem cutL_len (s:Spans):(cutL s).length=2 * s.length:=by
  unfold cutL
  induction s with
  | nil=>rfl
  | cons y s ih=>rw[List.flatMap_cons,List.length_append,ih]; simp only[List.length_cons,List.length_nil]; omega
theorem cuts_len (a b:Spans):(cutsOf a b).length≤2 * (a.length + b.length):=by
  unfold cutsOf
  refine Nat.le_trans (compact_le _) ?_
  rw[sortI_len,cutL_len,List.length_append]
  exact Nat.le_refl _
theorem keptG_eq (f:Bool→Bool→Bool) (g:Bool→Bool→Option Bool) (hg:∀ x y,g x y=some (f x y)) (a b:Spans) (ha:a.length≤65536) (hb:b.length≤65536):keptG g a b=some (keptS f a b):=by
  unfold keptG
  rw[show ranks_stretches a b=some (a,b) from rfl]
  simp only[Option.bind_some]
  rw[concat_eq a b (by omega) (by omega)]
  simp only[Option.bind_some]
  have h1:=foldI (ws:=a ++ b) (F:=L1g (a ++ b)) (st:=fun s y=>s ++ [y.Lo,y.Hi]) (b:=[]) (fun b i=>b.length=2 * i) (fun c i h hI=>by
    have hl:(a ++ b).length≤131072:=by rw[List.length_append]; omega
    unfold L1g
    simp only[]
    rw[if_pos (by rw[decide_eq_true_eq]; omega),ixl_nat h]
    simp only[Option.bind_some]
    rw[app_ok (by simp only[List.length_cons,List.length_nil]; omega) (by simp only[List.length_cons,List.length_nil]; omega),w64_s i (by omega)]
    exact⟨rfl,by simp only[List.length_append,List.length_cons,List.length_nil]; omega⟩) (fun c=>by
    unfold L1g
    simp only[]
    rw[if_neg (by simp)]) rfl
  rw[h1]
  simp only[Option.bind_some]
  rw[foldl_flat (fun y:S_api_Span=>[y.Lo,y.Hi]),List.nil_append,show ((a ++ b).flatMap fun y:S_api_Span=>[y.Lo,y.Hi])=cutL (a ++ b) from rfl]
  have hcl:(cutL (a ++ b)).length≤262144:=by rw[cutL_len,List.length_append]; omega
  have hss:slices_SortI (cutL (a ++ b))=some (sortI (cutL (a ++ b))):=by
    unfold slices_SortI srtO
    rw[if_pos (by omega)]
  rw[hss]
  simp only[Option.bind_some]
  have hsl:=sortI_len (cutL (a ++ b))
  have hcc:slices_CompactI (sortI (cutL (a ++ b)))=some (cutsOf a b):=by
    unfold slices_CompactI cptO
    rw[if_pos (by omega)]
    rfl
  rw[hcc]
  simp only[Option.bind_some]
  have hlen:=cuts_len a b
  have h2:=loopC_fun (f:=L2g g (a,b) (cutsOf a b)) (fun x=>∃ i:Nat,x.1=((i + 1:Nat):Int)∧(i=0∨i < (cutsOf a b).length)∧x.2.length≤i) (fun x=>(cutsOf a b).length + 1 - x.1.toNat) (fun x=>foldAdd ((sgmt ((cutsOf a b).drop (x.1.toNat - 1))).filter fun p=>f (hasB a p.1) (hasB b p.1)) x.2) (fun x hx=>by
    obtain⟨z,acc⟩:=x
    obtain⟨i,e,hi,hacc⟩:=hx
    simp only at e hacc
    subst e
    unfold L2g
    simp only[Int.toNat_natCast,Nat.add_sub_cancel]
    rcases Nat.lt_or_ge (i + 1) (cutsOf a b).length with h | h
    · right
      rw[if_pos (by rw[decide_eq_true_eq]; omega)]
      have e1:w64 (((i + 1:Nat):Int) - 1)=(i:Int):=by rw[w64_id (by omega) (by omega)]; omega
      rw[e1,ixl_nat (show i < (cutsOf a b).length by omega),ixl_nat h]
      simp only[Option.bind_some]
      rw[ranks_Has_eq a _ (by omega),ranks_Has_eq b _ (by omega)]
      simp only[Option.bind_some,hg]
      rw[w64_s (i + 1) (by omega),sgmt_drop h]
      cases hf:f (hasB a ((cutsOf a b)[i]'(by omega))) (hasB b ((cutsOf a b)[i]'(by omega))) with
      | true=>
        rw[if_pos rfl,ranks_add_eq _ _ _ (by omega)]
        simp only[Option.bind_some]
        have:=addS_len acc ((cutsOf a b)[i]'(by omega)) ((cutsOf a b)[i + 1])
        refine⟨_,rfl,⟨i + 1,rfl,.inr h,by show (addS acc _ _).length≤i + 1; omega⟩,by simp only[Int.toNat_natCast]; omega,?_⟩
        simp only[Int.toNat_natCast,Nat.add_sub_cancel]
        rw[List.filter_cons_of_pos (by simpa using hf)]
        rfl
      | false=>
        rw[if_neg (by simp)]
        simp only[Option.bind_some]
        refine⟨_,rfl,⟨i + 1,rfl,.inr h,by show acc.length≤i + 1; omega⟩,by simp only[Int.toNat_natCast]; omega,?_⟩
        simp only[Int.toNat_natCast,Nat.add_sub_cancel]
        rw[List.filter_cons_of_neg (by simp[hf])]
    · left
      rw[if_neg (by simp; omega),sgmt_end h]
      rfl) (x:=((1:Int),([]:Spans))) ⟨0,rfl,.inl rfl,Nat.zero_le _⟩
  rw[h2]
  rfl
theorem keptS_ok {n:Int} (f:Bool→Bool→Bool) (hf:f false false=false) {a b:Spans} (ha:okS n a) (hb:okS n b):okS n (keptS f a b)∧∀ x,inS (keptS f a b) x↔f (hasB a x) (hasB b x)=true:=by
  have hpw:=cuts_pw a b
  have hma:∀ y∈a,y.Lo∈cutsOf a b∧y.Hi∈cutsOf a b:=fun y hy=>⟨(cuts_mem a b _).2 ⟨y,.inl hy,.inl rfl⟩,(cuts_mem a b _).2 ⟨y,.inl hy,.inr rfl⟩⟩
  have hmb:∀ y∈b,y.Lo∈cutsOf a b∧y.Hi∈cutsOf a b:=fun y hy=>⟨(cuts_mem a b _).2 ⟨y,.inr hy,.inl rfl⟩,(cuts_mem a b _).2 ⟨y,.inr hy,.inr rfl⟩⟩
  have nob:∀ (s:Spans),(∀ y∈s,y.Lo∈cutsOf a b∧y.Hi∈cutsOf a b)→∀ p∈sgmt (cutsOf a b),∀ x,p.1≤x→x < p.2→hasB s x=hasB s p.1:=fun s hs p hp x h1 h2=>by
    obtain⟨_,_,k3,k4⟩:=sgmt_mem hpw p hp
    refine hasB_congr ⟨?_,?_⟩
    · rintro⟨y,hy,q1,q2⟩
      refine⟨y,hy,?_,by omega⟩
      rcases k4 _ (hs y hy).1 with q | q <;> omega
    · rintro⟨y,hy,q1,q2⟩
      refine⟨y,hy,by omega,?_⟩
      rcases k4 _ (hs y hy).2 with q | q <;> omega
  have hrng:∀ z∈cutsOf a b,0≤z∧z≤n:=fun z hz=>by
    obtain⟨y,hy,e⟩:=(cuts_mem a b z).1 hz
    have:=hy.elim (ha.el y) (hb.el y)
    omega
  unfold keptS
  obtain⟨h1,h2⟩:=foldAdd_ok (n:=n) (ps:=(sgmt (cutsOf a b)).filter fun p=>f (hasB a p.1) (hasB b p.1)) (okS_nil n) (by simp) ((sgmt_pw hpw).filter _) (fun p hp=>by
    obtain⟨k1,k2,k3,_⟩:=sgmt_mem hpw p (List.mem_filter.1 hp).1
    have:=hrng _ k1
    have:=hrng _ k2
    omega)
  refine⟨h1,fun x=>?_⟩
  rw[h2]
  simp only[inS_nil,false_or,List.mem_filter]
  constructor
  · rintro⟨p,⟨k1,k2⟩,k3,k4⟩
    rw[nob a hma p k1 x k3 k4,nob b hmb p k1 x k3 k4]
    exact k2
  · intro q
    have:∃ y,(y∈a∨y∈b)∧y.Lo≤x∧x < y.Hi:=by
      cases e1:hasB a x with
      | true=>obtain⟨y,hy,k⟩:=(hasB_iff a x).1 e1; exact⟨y,.inl hy,k⟩
      | false=>
        cases e2:hasB b x with
        | true=>obtain⟨y,hy,k⟩:=(hasB_iff b x).1 e2; exact⟨y,.inr hy,k⟩
        | false=>rw[e1,e2,hf] at q; cases q
    obtain⟨y,hy,k1,k2⟩:=this
    have hc:=hy.elim (hma y) (hmb y)
    obtain⟨p,p1,p2,p3⟩:=sgmt_cover hpw hc.1 hc.2 k1 k2
    refine⟨p,⟨p1,?_⟩,p2,p3⟩
    rw[← nob a hma p p1 x p2 p3,← nob b hmb p p1 x p2 p3]
    exact q
def unionS:=keptS fun x y=>x || y
def meetS:=keptS fun x y=>x && y
def minusS:=keptS fun x y=>x && !y
theorem ranks_Union_eq (a b:Spans) (ha:a.length≤65536) (hb:b.length≤65536):ranks_Union a b=some (unionS a b):=by
  have:=keptG_eq (fun x y=>x || y) ranks_Union_1 (fun _ _=>rfl) a b ha hb
  unfold ranks_Union
  rw[show ranks_kept_s1155 a b=keptG ranks_Union_1 a b from rfl,this]
  rfl
theorem ranks_Meet_eq (a b:Spans) (ha:a.length≤65536) (hb:b.length≤65536):ranks_Meet a b=some (meetS a b):=by
  have:=keptG_eq (fun x y=>x && y) ranks_Meet_1 (fun _ _=>rfl) a b ha hb
  unfold ranks_Meet
  rw[show ranks_kept_sda67 a b=keptG ranks_Meet_1 a b from rfl,this]
  rfl
theorem ranks_Minus_eq (a b:Spans) (ha:a.length≤65536) (hb:b.length≤65536):ranks_Minus a b=some (minusS a b):=by
  have:=keptG_eq (fun x y=>x && !y) ranks_Minus_1 (fun _ _=>rfl) a b ha hb
  unfold ranks_Minus
  rw[show ranks_kept_scc6c a b=keptG ranks_Minus_1 a b from rfl,this]
  rfl
theorem union_ok {n:Int} {a b:Spans} (ha:okS n a) (hb:okS n b):okS n (unionS a b)∧∀ x,inS (unionS a b) x↔inS a x∨inS b x:=by
  obtain⟨h1,h2⟩:=keptS_ok (fun x y=>x || y) rfl ha hb
  exact⟨h1,fun x=>by rw[unionS,h2,Bool.or_eq_true,hasB_iff,hasB_iff]⟩
theorem meet_ok {n:Int} {a b:Spans} (ha:okS n a) (hb:okS n b):okS n (meetS a b)∧∀ x,inS (meetS a b) x↔inS a x∧inS b x:=by
  obtain⟨h1,h2⟩:=keptS_ok (fun x y=>x && y) rfl ha hb
  exact⟨h1,fun x=>by rw[meetS,h2,Bool.and_eq_true,hasB_iff,hasB_iff]⟩
theorem minus_ok {n:Int} {a b:Spans} (ha:okS n a) (hb:okS n b):okS n (minusS a b)∧∀ x,inS (minusS a b) x↔inS a x∧¬ inS b x:=by
  obtain⟨h1,h2⟩:=keptS_ok (fun x y=>x && !y) rfl ha hb
  exact⟨h1,fun x=>by rw[minusS,h2,Bool.and_eq_true,hasB_iff,Bool.not_eq_true',← hasB_iff b x,Bool.not_eq_true]⟩
def allN (n:Int):Spans:=if n < 1 then [] else [⟨0,boundN n⟩]
theorem ranks_All_eq (n:Int):ranks_All n=some (allN n):=by
  rw[all_same]
  unfold ref07_All allN
  by_cases h:n < 1
  · rw[if_pos (by simpa using h),if_pos h]
  · rw[if_neg (by simpa using h),if_neg h,ref07_bounded_eq]
    rfl
theorem all_ok {n:Int} (h0:0≤n) (h1:n≤65536):okS n (allN n)∧∀ x,inS (allN n) x↔0≤x∧x < n:=by
  have hb:(boundN n:Int)=n:=by unfold boundN; omega
  unfold allN
  split
  · exact⟨okS_nil n,fun x=>by simp only[inS_nil,false_iff]; omega⟩
  · refine⟨⟨fun y hy=>?_,List.pairwise_singleton _ _⟩,fun x=>?_⟩
    · simp only[List.mem_singleton] at hy
      subst hy
      exact⟨Int.le_refl _,by show 0 < (boundN n:Int); omega,by show (boundN n:Int)≤n; omega⟩
    · rw[inS_cons]
      simp only[inS_nil,or_false,hb]
def notS (n:Int) (a:Spans):Spans:=minusS (allN n) a
theorem ranks_Not_eq (n:Int) (a:Spans) (ha:a.length≤65536):ranks_Not n a=some (notS n a):=by
  unfold ranks_Not
  rw[ranks_All_eq]
  simp only[Option.bind_some]
  rw[ranks_Minus_eq _ _ (by unfold allN; split <;> simp) ha]
  rfl
theorem not_ok {n:Int} (h0:0≤n) (h1:n≤65536) {a:Spans} (ha:okS n a):okS n (notS n a)∧∀ x,inS (notS n a) x↔(0≤x∧x < n)∧¬ inS a x:=by
  obtain⟨k1,k2⟩:=all_ok h0 h1
  obtain⟨k3,k4⟩:=minus_ok k1 ha
  exact⟨k3,fun x=>by rw[notS,k4,k2]⟩
end Go.Vm
/- Plain laws of chapter 7: a set and its list are there and back. -/
namespace Go.Vm
open Go
def seqI (lo:Int) (m:Nat):List Int:=(List.range m).map fun i:Nat=>lo + i
def spanL (y:S_api_Span):List Int:=seqI y.Lo (y.Hi - y.Lo).toNat
def ranksL (s:Spans):List Int:=s.flatMap spanL
theorem seqI_len (lo:Int) (m:Nat):(seqI lo m).length=m:=by simp[seqI]
theorem seqI_pw (lo:Int) (m:Nat):(seqI lo m).Pairwise (· < ·):=by
  unfold seqI
  rw[List.pairwise_map]
  exact List.pairwise_lt_range.imp fun h=>by omega
theorem spanL_mem (y:S_api_Span) (x:Int):x∈spanL y↔y.Lo≤x∧x < y.Hi:=by
  unfold spanL seqI
  simp only[List.mem_map,List.mem_range]
  constructor
  · rintro⟨i,h,rfl⟩; omega
  · rintro⟨h1,h2⟩; exact⟨(x - y.Lo).toNat,by omega,by omega⟩
theorem ranksL_mem (s:Spans) (x:Int):x∈ranksL s↔inS s x:=by
  unfold ranksL inS
  simp only[List.mem_flatMap,spanL_mem]
theorem ranksL_pw {n:Int}:∀ {s:Spans},okS n s→(ranksL s).Pairwise (· < ·)
  | [],_=>List.Pairwise.nil
  | y :: s,h=>by
    unfold ranksL
    rw[List.flatMap_cons]
    refine List.pairwise_append.2 ⟨seqI_pw _ _,ranksL_pw h.tail,fun a ha b hb=>?_⟩
    have h1:=(spanL_mem y a).1 ha
    have h2:=tail_gt h ((ranksL_mem s b).1 hb)
    omega
theorem ranks_List_eq {n:Int} {s:Spans} (h:okS n s) (hn:n≤65536):ranks_List s=some (ranksL s):=by
  have hsl:=okS_len h hn
  unfold ranks_List
  have h1:=foldI (ws:=s) (F:=ranks_List_l2 s) (st:=fun acc y=>acc ++ spanL y) (b:=[]) (fun b i=>b.length≤i * 65536) (fun b i hi hI=>by
    have hy:=h.el s[i] (List.getElem_mem _)
    unfold ranks_List_l2
    simp only[]
    rw[if_pos (by simpa using hi),ixl_nat hi]
    simp only[Option.bind_some]
    have hw:w64 (s[i].Hi - s[i].Lo)=(((s[i].Hi - s[i].Lo).toNat:Nat):Int):=by rw[w64_id (by omega) (by omega)]; omega
    have h2:=loopC_fun (f:=ranks_List_l1 s[i]) (fun x=>∃ k:Nat,x.2=k∧k≤(s[i].Hi - s[i].Lo).toNat∧x.1.length≤i * 65536 + k) (fun x=>(s[i].Hi - s[i].Lo).toNat - x.2.toNat) (fun x=>x.1 ++ (seqI s[i].Lo (s[i].Hi - s[i].Lo).toNat).drop x.2.toNat) (fun x hx=>by
      obtain⟨acc,z⟩:=x
      obtain⟨k,e,hk,hacc⟩:=hx
      simp only at e hacc
      subst e
      unfold ranks_List_l1
      simp only[Int.toNat_natCast,hw]
      rcases Nat.lt_or_ge k (s[i].Hi - s[i].Lo).toNat with hlt | hge
      · right
        rw[if_pos (by rw[decide_eq_true_eq]; omega)]
        rw[show w64 (s[i].Lo + (k:Int))=s[i].Lo + (k:Int) from w64_id (by omega) (by omega),app_ok (by simp only[List.length_singleton]; omega) (by simp only[List.length_singleton]; omega),w64_s k (by omega)]
        refine⟨_,rfl,⟨k + 1,rfl,hlt,by simp only[List.length_append,List.length_singleton]; omega⟩,by simp only[Int.toNat_natCast]; omega,?_⟩
        simp only[Int.toNat_natCast]
        rw[List.drop_eq_getElem_cons (show k < (seqI s[i].Lo (s[i].Hi - s[i].Lo).toNat).length by rw[seqI_len]; exact hlt),List.append_assoc]
        congr 1
        simp[seqI]
      · left
        rw[if_neg (by rw[decide_eq_true_eq]; omega),List.drop_of_length_le (by rw[seqI_len]; exact hge),List.append_nil]) (x:=(b,(0:Int))) ⟨0,rfl,Nat.zero_le _,by simpa using hI⟩
    simp only[Int.toNat_zero,List.drop_zero] at h2
    rw[h2]
    simp only[Option.bind_some]
    rw[w64_s i (by omega)]
    refine⟨rfl,?_⟩
    show (b ++ spanL s[i]).length≤_
    have:=seqI_len s[i].Lo (s[i].Hi - s[i].Lo).toNat
    unfold spanL
    rw[List.length_append,this,Nat.succ_mul]
    omega) (fun b=>by
    unfold ranks_List_l2
    simp only[]
    rw[if_neg (by simp)]) (by simp)
  rw[h1,foldl_flat spanL,List.nil_append]
  rfl
theorem ranks_Count_eq {n:Int} {s:Spans} (h:okS n s) (hn:n≤65536):ranks_Count s=some ((ranksL s).length:Int):=by
  have hsl:=okS_len h hn
  unfold ranks_Count
  have h1:=foldI (ws:=s) (F:=ranks_Count_l1 s) (st:=fun (acc:Int) y=>acc + (y.Hi - y.Lo)) (b:=(0:Int)) (fun b i=>0≤b∧b≤(i:Int) * 65536) (fun b i hi hI=>by
    have hy:=h.el s[i] (List.getElem_mem _)
    unfold ranks_Count_l1
    simp only[]
    rw[if_pos (by simpa using hi),ixl_nat hi]
    simp only[Option.bind_some]
    rw[show w64 (s[i].Hi - s[i].Lo)=s[i].Hi - s[i].Lo from w64_id (by omega) (by omega),show w64 (b + (s[i].Hi - s[i].Lo))=b + (s[i].Hi - s[i].Lo) from w64_id (by omega) (by omega),w64_s i (by omega)]
    refine⟨rfl,by omega,?_⟩
    have:((i + 1:Nat):Int) * 65536=(i:Int) * 65536 + 65536:=by omega
    omega) (fun b=>by
    unfold ranks_Count_l1
    simp only[]
    rw[if_neg (by simp)]) (by simp)
  rw[h1]
  simp only[Option.bind_some]
  congr 1
  have key:∀ (t:Spans) (acc:Int),(∀ y∈t,y.Lo < y.Hi)→t.foldl (fun (acc:Int) y=>acc + (y.Hi - y.Lo)) acc=acc + ((ranksL t).length:Int):=by
    intro t
    induction t with
    | nil=>intro acc _; simp[ranksL]
    | cons y t ih=>
      intro acc ht
      rw[List.foldl_cons,ih _ (fun z hz=>ht z (List.mem_cons_of_mem _ hz))]
      have:=ht y (by simp)
      have e:(ranksL (y :: t)).length=(y.Hi - y.Lo).toNat + (ranksL t).length:=by
        unfold ranksL
        rw[List.flatMap_cons,List.length_append]
        congr 1
        exact seqI_len _ _
      rw[e]
      omega
  have:=key s 0 (fun y hy=>(h.el y hy).2.1)
  rw[this]
  omega
theorem span_len {s:List S_api_Span} (ms:((s.map fun y=>(1 + (1 + (0)) + 1)).sum + 1)≤1048576):s.length≤1048576:=by
  simp only[List.map_const',List.sum_replicate_nat] at ms; omega
end Go.Vm
/- Plain laws of chapter 7: the document's sets of ranks. -/
namespace Go.Vm
open Go
theorem ref07_Same_eq (s t:Spans) (hs:s.length≤1048576):ref07_Same s t=some (decide (s=t)):=by
  unfold ref07_Same
  by_cases hl:s.length=t.length
  · rw[if_neg (by simp[hl])]
    have:=loopC_fun (f:=ref07_Same_l1 s t) (fun x=>∃ i:Nat,x=i∧i≤s.length) (fun x=>s.length - x.toNat) (fun x=>cond (eqB (s.drop x.toNat) (t.drop x.toNat)) (Sum.inr ()) (Sum.inl ())) (fun x hx=>by
      obtain⟨i,rfl,hi⟩:=hx
      unfold ref07_Same_l1
      simp only[Int.toNat_natCast]
      rcases Nat.lt_or_ge i s.length with h | h
      · rw[if_pos (by simpa using h),ixl_nat h,ixl_nat (show i < t.length by omega)]
        simp only[Option.bind_some,span_eq]
        rw[List.drop_eq_getElem_cons h,List.drop_eq_getElem_cons (show i < t.length by omega)]
        simp only[eqB]
        by_cases e:s[i]=t[i]
        · right
          rw[if_neg (by simp[e]),w64_s i (by omega)]
          refine⟨_,rfl,⟨i + 1,rfl,h⟩,by simp only[Int.toNat_natCast]; omega,?_⟩
          simp only[Int.toNat_natCast,e,decide_true,Bool.true_and]
        · left
          rw[if_pos (by simp[e]),decide_eq_false e]
          rfl
      · left
        rw[if_neg (by simp; omega),List.drop_of_length_le h,List.drop_of_length_le (by omega)]
        rfl) (x:=0) ⟨0,rfl,Nat.zero_le _⟩
    rw[this]
    simp only[Int.toNat_zero,List.drop_zero,Option.bind_some]
    by_cases e:s=t
    · rw[(eqB_iff s t).2 e]; simp[e]
    · have:eqB s t=false:=by
        cases h:eqB s t with
        | true=>exact absurd ((eqB_iff s t).1 h) e
        | false=>rfl
      rw[this]; simp[e]
  · rw[if_pos (by simp; omega),decide_eq_false (fun e=>hl (by rw[e]))]
theorem ref07_end_eq {n:Int} {s:Spans} (h0:0≤n) (hn:n≤65536) (h:okS n s):∃ e:Nat,ref07_end s=some (e:Int)∧(e:Int)≤n∧∀ y∈s,y.Hi≤e:=by
  have hl:=okS_len h hn
  unfold ref07_end
  by_cases hs:s=[]
  · subst hs
    exact⟨0,rfl,h0,by simp⟩
  · obtain⟨p,y,rfl⟩:∃ p y,s=p ++ [y]:=⟨s.dropLast,s.getLast hs,(List.dropLast_concat_getLast hs).symm⟩
    rw[if_neg (by simp; omega),(last_ixl hs (by omega)).1]
    have hy:=h.el y (by simp)
    simp only[List.getLast?_append,List.getLast?_singleton,Option.some_or,Option.bind_some]
    refine⟨y.Hi.toNat,by congr 1; omega,by omega,fun z hz=>?_⟩
    rcases List.mem_append.1 hz with hz | hz
    · have:=(List.pairwise_append.1 h.pw).2.2 z hz y (by simp)
      omega
    · rw[List.mem_singleton.1 hz]; omega
theorem hasB_take (s:Spans) (j:Nat) (h:j < s.length) (x:Int):hasB (s.take (j + 1)) x=(hasB (s.take j) x || (decide (s[j].Lo≤x) && decide (x < s[j].Hi))):=by
  unfold hasB
  rw[List.take_succ_eq_append_getElem h,List.any_append]
  simp
theorem getD_set (m:List Bool) (c i:Nat) (b:Bool) (hi:i < m.length):(m.set c b).getD i false=if c=i then b else m.getD i false:=by
  rw[getD_of (by simpa using hi),getD_of hi,List.getElem_set]
theorem ref07_marks_eq {n:Int} {s:Spans} (hn:n≤65536) (h:okS n s) (k:Nat) (hk:k≤65536) (hm:∀ y∈s,y.Hi≤k):∃ m:List Bool,ref07_marks s k=some m∧m.length=k∧∀ i,i < k→m.getD i false=hasB s i:=by
  have hl:=okS_len h hn
  unfold ref07_marks
  have hmk:mkl 1 (false:Bool) (k:Int) (k:Int)=some (List.replicate k false):=by
    unfold mkl
    rw[if_pos (by omega),Int.toNat_natCast]
  rw[hmk]
  simp only[Option.bind_some]
  obtain⟨t,h1,h2,h3⟩:=loopC_inv (f:=ref07_marks_l2 s) (fun x=>∃ j:Nat,x.2=j∧j≤s.length∧x.1.length=k∧∀ i:Nat,i < k→x.1.getD i false=hasB (s.take j) i) (fun x=>s.length - x.2.toNat)
    (fun m=>m.length=k∧∀ i:Nat,i < k→m.getD i false=hasB s i) (fun x hx=>by
    obtain⟨m,z⟩:=x
    obtain⟨j,e,hj,g1,g2⟩:=hx
    simp only at e g1 g2
    subst e
    unfold ref07_marks_l2
    simp only[]
    rcases Nat.lt_or_ge j s.length with hlt | hge
    · right
      rw[if_pos (by simpa using hlt),ixl_nat hlt]
      simp only[Option.bind_some]
      have hy:=h.el s[j] (List.getElem_mem _)
      have hy2:=hm s[j] (List.getElem_mem _)
      obtain⟨t,k1,k2,k3⟩:=loopC_inv (f:=ref07_marks_l1 s (j:Int)) (fun x=>∃ c:Nat,x.2=c∧s[j].Lo≤c∧(c:Int)≤s[j].Hi∧x.1.length=k∧∀ i:Nat,i < k→x.1.getD i false=(hasB (s.take j) i || (decide (s[j].Lo≤i) && decide (i < c)))) (fun x=>s[j].Hi.toNat - x.2.toNat)
        (fun m=>m.length=k∧∀ i:Nat,i < k→m.getD i false=(hasB (s.take j) i || (decide (s[j].Lo≤i) && decide ((i:Int) < s[j].Hi)))) (fun x hx=>by
        obtain⟨m,z⟩:=x
        obtain⟨c,e,c1,c2,c3,c4⟩:=hx
        simp only at e c3 c4
        subst e
        unfold ref07_marks_l1
        simp only[]
        rw[ixl_nat hlt]
        simp only[Option.bind_some]
        by_cases hc:(c:Int) < s[j].Hi
        · right
          rw[if_pos (by simpa using hc),ixl_nat (show c < m.length by omega),w64_s c (by omega)]
          simp only[Option.bind_some,Int.toNat_natCast]
          refine⟨_,rfl,⟨c + 1,rfl,by omega,by omega,by simpa using c3,fun i hi=>?_⟩,by simp only[Int.toNat_natCast]; omega⟩
          rw[getD_set _ _ _ _ (by omega),c4 i hi]
          by_cases e:c=i
          · subst e
            rw[if_pos rfl,decide_eq_true c1,decide_eq_true (by omega)]
            simp
          · rw[if_neg e]
            congr 2
            rw[decide_eq_decide]
            omega
        · left
          rw[if_neg (by simpa using hc)]
          refine⟨_,rfl,c3,fun i hi=>?_⟩
          rw[c4 i hi]
          congr 2
          rw[decide_eq_decide]
          omega) (x:=(m,s[j].Lo)) ⟨s[j].Lo.toNat,by simp only; omega,by omega,by omega,g1,fun i hi=>by
            rw[g2 i hi]
            have:(decide (s[j].Lo≤(i:Int)) && decide (i < s[j].Lo.toNat))=false:=by
              rw[Bool.and_eq_false_iff,decide_eq_false_iff_not,decide_eq_false_iff_not]
              omega
            rw[this,Bool.or_false]⟩
      rw[k1]
      simp only[Option.bind_some]
      rw[w64_s j (by omega)]
      refine⟨_,rfl,⟨j + 1,rfl,hlt,k2,fun i hi=>?_⟩,by simp only[Int.toNat_natCast]; omega⟩
      rw[k3 i hi,hasB_take s j hlt]
    · left
      have:j=s.length:=by omega
      subst this
      rw[if_neg (by simp)]
      rw[List.take_length] at g2
      exact⟨_,rfl,g1,g2⟩) (x:=(List.replicate k false,(0:Int))) ⟨0,rfl,Nat.zero_le _,by simp,fun i hi=>by
        rw[getD_of (by simpa using hi)]
        simp[hasB]⟩
  rw[h1]
  exact⟨t,rfl,h2,h3⟩
def fB (a2 a3 a4 x y:Bool):Bool:=(x && !y && a2) || (x && y && a3) || (!x && y && a4)
theorem ref07_both_eq {n:Int} {a b:Spans} (h0:0≤n) (hn:n≤65536) (ha:okS n a) (hb:okS n b) (a2 a3 a4:Bool):∃ r,ref07_both a b a2 a3 a4=some r∧okS n r∧∀ x,inS r x↔fB a2 a3 a4 (hasB a x) (hasB b x)=true:=by
  obtain⟨e1,p1,p2,p3⟩:=ref07_end_eq h0 hn ha
  obtain⟨e2,q1,q2,q3⟩:=ref07_end_eq h0 hn hb
  unfold ref07_both
  rw[p1,q1]
  simp only[Option.bind_some]
  obtain⟨k,hk,hk1,hk2,hk3⟩:∃ k:Nat,(if (e2:Int) > (e1:Int) then (e2:Int) else (e1:Int))=(k:Int)∧e1≤k∧e2≤k∧(k:Int)≤n:=by
    by_cases h:e2 > e1
    · exact⟨e2,by rw[if_pos (by omega)],by omega,by omega,q2⟩
    · exact⟨e1,by rw[if_neg (by omega)],by omega,by omega,p2⟩
  rw[hk]
  obtain⟨ma,f1,f2,f3⟩:=ref07_marks_eq hn ha k (by omega) (fun y hy=>by have:=p3 y hy; omega)
  obtain⟨mb,g1,g2,g3⟩:=ref07_marks_eq hn hb k (by omega) (fun y hy=>by have:=q3 y hy; omega)
  rw[f1,g1]
  simp only[Option.bind_some]
  obtain⟨t,h1,h2,h3⟩:=loopC_inv (f:=ref07_both_l1 a2 a3 a4 e1 e2 mb) (fun x=>∃ j:Nat,x.2=j∧j≤k∧x.1.length=k∧∀ i:Nat,i < k→x.1.getD i false=if i < j then fB a2 a3 a4 (hasB a i) (hasB b i) else hasB a i) (fun x=>k - x.2.toNat)
    (fun m=>m.length=k∧∀ i:Nat,i < k→m.getD i false=fB a2 a3 a4 (hasB a i) (hasB b i)) (fun x hx=>by
    obtain⟨m,z⟩:=x
    obtain⟨j,e,hj,c1,c2⟩:=hx
    simp only at e c1 c2
    subst e
    unfold ref07_both_l1
    simp only[]
    rw[hk]
    rcases Nat.lt_or_ge j k with hlt | hge
    · right
      rw[if_pos (by simpa using hlt),ixl_nat (show j < m.length by omega),ixl_nat (show j < mb.length by omega)]
      have v1:m[j]'(by omega)=hasB a j:=by
        have:=c2 j hlt
        rw[getD_of (by omega),if_neg (Nat.lt_irrefl _)] at this
        exact this
      have v2:mb[j]'(by omega)=hasB b j:=by
        have:=g3 j hlt
        rw[getD_of (by omega)] at this
        exact this
      rw[v1,v2,w64_s j (by omega)]
      refine⟨(m.set j (fB a2 a3 a4 (hasB a j) (hasB b j)),((j + 1:Nat):Int)),?_,⟨j + 1,rfl,hlt,by simpa using c1,fun i hi=>?_⟩,by simp only[Int.toNat_natCast]; omega⟩
      · unfold fB
        cases hasB a j <;> cases hasB b j <;> cases a2 <;> cases a3 <;> cases a4 <;> simp
      · rw[getD_set _ _ _ _ (by omega),c2 i hi]
        by_cases e:j=i
        · subst e
          rw[if_pos rfl,if_pos (by omega)]
        · rw[if_neg e]
          by_cases hx:i < j
          · rw[if_pos hx,if_pos (by omega)]
          · rw[if_neg hx,if_neg (by omega)]
    · left
      have:j=k:=by omega
      subst this
      rw[if_neg (by simp)]
      exact⟨_,rfl,c1,fun i hi=>by rw[c2 i hi,if_pos hi]⟩) (x:=(ma,(0:Int))) ⟨0,rfl,Nat.zero_le _,f2,fun i hi=>by rw[f3 i hi,if_neg (by omega)]⟩
  rw[h1]
  simp only[Option.bind_some]
  rw[ref07_Where_eq t (by omega),where_spans,h2,show min k 65536=k by omega]
  obtain⟨w1,w2⟩:=spansI_ok (n:=n) (trueI_pw t k) (fun x hx=>by
    obtain⟨i,rfl,i1,i2⟩:=(trueI_mem _ _ _).1 hx
    omega)
  refine⟨_,rfl,w1,fun x=>?_⟩
  rw[w2,trueI_mem]
  constructor
  · rintro⟨i,rfl,i1,i2⟩
    rw[← h3 i i1]; exact i2
  · intro hx
    have hin:inS a x∨inS b x:=by
      rw[← hasB_iff a x,← hasB_iff b x]
      unfold fB at hx
      cases hA:hasB a x <;> cases hB:hasB b x <;> simp_all
    have hr:0≤x∧x < k:=by
      rcases hin with hin | hin
      · have r1:=inS_range ha hin
        obtain⟨y,hy,y1,y2⟩:=hin
        have:=p3 y hy
        omega
      · have r1:=inS_range hb hin
        obtain⟨y,hy,y1,y2⟩:=hin
        have:=q3 y hy
        omega
    refine⟨x.toNat,by omega,by omega,?_⟩
    rw[h3 _ (by omega),show ((x.toNat:Nat):Int)=x by omega]
    exact hx
theorem ref07_Has_eq (s:Spans) (x:Int) (hs:s.length≤1048576):ref07_Has s x=some (hasB s x):=by
  unfold ref07_Has
  obtain⟨t,h1,h2⟩:=loopC_inv (f:=ref07_Has_l1 s x) (fun z=>∃ i:Nat,z=i∧i≤s.length∧hasB (s.take i) x=false) (fun z=>s.length - z.toNat)
    (fun t=>(t=Sum.inr ()∧hasB s x=false)∨(t=Sum.inl ()∧hasB s x=true)) (fun z hz=>by
    obtain⟨i,rfl,hi,hall⟩:=hz
    unfold ref07_Has_l1
    rcases Nat.lt_or_ge i s.length with h | h
    · rw[if_pos (by simpa using h),ixl_nat h]
      simp only[Option.bind_some]
      have:(if (decide (x≥s[i].Lo))=true then some (decide (x < s[i].Hi)) else some false:Option Bool)=some (decide (s[i].Lo≤x) && decide (x < s[i].Hi)):=by
        by_cases e:s[i].Lo≤x
        · rw[if_pos (by simpa using e),decide_eq_true e,Bool.true_and]
        · rw[if_neg (by simpa using e),decide_eq_false e,Bool.false_and]
      rw[this]
      simp only[Option.bind_some]
      cases hd:(decide (s[i].Lo≤x) && decide (x < s[i].Hi)) with
      | true=>
        left
        refine⟨_,rfl,.inr ⟨rfl,?_⟩⟩
        unfold hasB
        exact List.any_eq_true.2 ⟨s[i],List.getElem_mem _,hd⟩
      | false=>
        right
        rw[if_neg (by simp),w64_s i (by omega)]
        refine⟨_,rfl,⟨i + 1,rfl,h,?_⟩,by simp only[Int.toNat_natCast]; omega⟩
        rw[hasB_take s i h,hall,hd]
        rfl
    · left
      have:i=s.length:=by omega
      subst this
      rw[if_neg (by simp)]
      rw[List.take_length] at hall
      exact⟨_,rfl,.inl ⟨rfl,hall⟩⟩) (x:=0) ⟨0,rfl,Nat.zero_le _,by simp[hasB]⟩
  rw[h1]
  rcases h2 with ⟨rfl,h2⟩ | ⟨rfl,h2⟩
  · simp[h2]
  · simp[h2]
theorem ref07_List_eq {n:Int} {s:Spans} (h:okS n s) (hn:n≤65536):ref07_List s=some (ranksL s):=by
  have hsl:=okS_len h hn
  unfold ref07_List
  have h1:=foldI (ws:=s) (F:=ref07_List_l2 s) (st:=fun acc y=>acc ++ spanL y) (b:=[]) (fun b i=>b.length≤i * 65536) (fun b i hi hI=>by
    have hy:=h.el s[i] (List.getElem_mem _)
    unfold ref07_List_l2
    simp only[]
    rw[if_pos (by simpa using hi),ixl_nat hi]
    simp only[Option.bind_some]
    have h2:=loopC_fun (f:=ref07_List_l1 s (i:Int)) (fun x=>∃ k:Nat,x.2=s[i].Lo + k∧k≤(s[i].Hi - s[i].Lo).toNat∧x.1.length≤i * 65536 + k) (fun x=>(s[i].Hi - x.2).toNat) (fun x=>x.1 ++ (seqI s[i].Lo (s[i].Hi - s[i].Lo).toNat).drop (x.2 - s[i].Lo).toNat) (fun x hx=>by
      obtain⟨acc,z⟩:=x
      obtain⟨k,e,hk,hacc⟩:=hx
      simp only at e hacc
      subst e
      unfold ref07_List_l1
      simp only[]
      rw[ixl_nat hi]
      simp only[Option.bind_some,show (s[i].Lo + (k:Int) - s[i].Lo).toNat=k by omega]
      rcases Nat.lt_or_ge k (s[i].Hi - s[i].Lo).toNat with hlt | hge
      · right
        rw[if_pos (by rw[decide_eq_true_eq]; omega)]
        rw[app_ok (by simp only[List.length_singleton]; omega) (by simp only[List.length_singleton]; omega),show w64 (s[i].Lo + (k:Int) + 1)=s[i].Lo + ((k + 1:Nat):Int) by rw[w64_id (by omega) (by omega)]; omega]
        refine⟨_,rfl,⟨k + 1,rfl,hlt,by simp only[List.length_append,List.length_singleton]; omega⟩,by simp only; omega,?_⟩
        simp only[show (s[i].Lo + ((k + 1:Nat):Int) - s[i].Lo).toNat=k + 1 by omega]
        rw[List.drop_eq_getElem_cons (show k < (seqI s[i].Lo (s[i].Hi - s[i].Lo).toNat).length by rw[seqI_len]; exact hlt),List.append_assoc]
        congr 1
        simp[seqI]
      · left
        rw[if_neg (by rw[decide_eq_true_eq]; omega),List.drop_of_length_le (by rw[seqI_len]; exact hge),List.append_nil]) (x:=(b,s[i].Lo)) ⟨0,by simp,Nat.zero_le _,by simpa using hI⟩
    simp only[Int.sub_self,Int.toNat_zero,List.drop_zero] at h2
    rw[h2]
    simp only[Option.bind_some]
    rw[w64_s i (by omega)]
    refine⟨rfl,?_⟩
    show (b ++ spanL s[i]).length≤_
    have:=seqI_len s[i].Lo (s[i].Hi - s[i].Lo).toNat
    unfold spanL
    rw[List.length_append,this,Nat.succ_mul]
    omega) (fun b=>by
    unfold ref07_List_l2
    simp only[]
    rw[if_neg (by simp)]) (by simp)
  rw[h1,foldl_flat spanL,List.nil_append]
  rfl
theorem law07_ints_refl (l:List Int) (hl:l.length≤9223372036854775806):law07_ints l l=some true:=by
  unfold law07_ints
  rw[if_neg (by simp)]
  have:=loopC_fun (f:=law07_ints_l1 l l) (fun x=>∃ i:Nat,x=i∧i≤l.length) (fun x=>l.length - x.toNat) (fun _=>Sum.inr ()) (fun x hx=>by
    obtain⟨i,rfl,hi⟩:=hx
    unfold law07_ints_l1
    rcases Nat.lt_or_ge i l.length with h | h
    · right
      rw[if_pos (by simpa using h),ixl_nat h]
      simp only[Option.bind_some]
      rw[if_neg (by simp),w64_id (by omega) (by omega)]
      exact⟨_,rfl,⟨i + 1,rfl,h⟩,by omega,by first | trivial | rfl⟩
    · left
      rw[if_neg (by simp; omega)]) (x:=0) ⟨0,rfl,Nat.zero_le _⟩
  rw[this]
  rfl
end Go.Vm
/- Plain laws of chapter 7: texts of sets; what is in both, in one of them, in neither. -/
namespace Go.Vm
open Go
theorem nDigits_le (u:Nat):Lib.nDigits u≤u + 1:=by
  induction u using Nat.strongRecOn with
  | _ u ih=>
    by_cases h:u < 10
    · rw[Lib.nDigits_small h]; omega
    · rw[Lib.nDigits_big h]
      have:=ih (u / 10) (by omega)
      omega
theorem itoa_ok {x:Int} (h0:0≤x) (h1:x≤65536):strconv_Itoa x=some (Lib.itoa x)∧(Lib.itoa x).length≤65537:=by
  unfold strconv_Itoa
  rw[if_pos (by omega)]
  refine⟨rfl,?_⟩
  unfold Lib.itoa
  rw[if_neg (by omega),Lib.decDigits_length]
  have:=nDigits_le x.toNat
  omega
def txS (y:S_api_Span):Str:=if y.Hi - y.Lo > 1 then Lib.itoa y.Lo ++ (45 :: Lib.itoa (y.Hi - 1)) else Lib.itoa y.Lo
theorem txS_len {n:Int} {s:Spans} (h:okS n s) (hn:n≤65536) {y:S_api_Span} (hy:y∈s):(txS y).length≤131076:=by
  have:=h.el y hy
  have a:=(itoa_ok (x:=y.Lo) (by omega) (by omega)).2
  have b:=(itoa_ok (x:=y.Hi - 1) (by omega) (by omega)).2
  unfold txS
  split
  · simp only[List.length_append,List.length_cons]; omega
  · omega
theorem jt_cons (x:Str) (r:List Str):Lib.joinTail [44] (x :: r)=44 :: (x ++ Lib.joinTail [44] r):=by simp[Lib.joinTail]
theorem jt_len:∀ (l:List Str),(∀ x∈l,x.length≤131076)→(Lib.joinTail [44] l).length≤l.length * 131077
  | [],_=>by simp[Lib.joinTail]
  | x :: l,h=>by
    rw[jt_cons]
    have h1:=h x (List.mem_cons_self ..)
    have h2:=jt_len l fun y hy=>h y (List.mem_cons_of_mem _ hy)
    simp only[List.length_cons,List.length_append]
    omega
theorem flat_one (s:Spans):s.flatMap (fun y=>[txS y])=s.map txS:=by
  induction s with
  | nil=>rfl
  | cons y s ih=>rw[List.flatMap_cons,ih]; rfl
def textS (s:Spans):Str:=if s=[] then [110,111,110,101] else Lib.join (s.map txS) [44]
theorem ranks_Text_eq {n:Int} {s:Spans} (h:okS n s) (hn:n≤65536):ranks_Text s=some (textS s):=by
  have hl:=okS_len h hn
  unfold ranks_Text textS
  by_cases hs:s=[]
  · subst hs; rfl
  rw[if_neg hs,if_neg (by have:=List.length_pos_iff.2 hs; simp; omega)]
  have h1:=foldI (ws:=s) (F:=ranks_Text_l1 s) (st:=fun acc y=>acc ++ [txS y]) (b:=[]) (fun b i=>b.length=i) (fun b i hi hI=>by
    have hy:=h.el s[i] (List.getElem_mem _)
    unfold ranks_Text_l1
    simp only[]
    rw[if_pos (by simpa using hi),ixl_nat hi]
    simp only[Option.bind_some]
    rw[(itoa_ok (x:=s[i].Lo) (by omega) (by omega)).1,show w64 (s[i].Hi - s[i].Lo)=s[i].Hi - s[i].Lo from w64_id (by omega) (by omega),show w64 (s[i].Hi - 1)=s[i].Hi - 1 from w64_id (by omega) (by omega),(itoa_ok (x:=s[i].Hi - 1) (by omega) (by omega)).1]
    simp only[Option.bind_some]
    have a:=(itoa_ok (x:=s[i].Lo) (by omega) (by omega)).2
    have b':=(itoa_ok (x:=s[i].Hi - 1) (by omega) (by omega)).2
    rw[cat_ok (a:=[45]) (by simp only[List.length_singleton]; omega)]
    simp only[Option.bind_some]
    rw[cat_ok (by simp only[List.length_append,List.length_singleton]; omega)]
    simp only[Option.bind_some]
    have:(if decide (s[i].Hi - s[i].Lo > 1)=true then some (Lib.itoa s[i].Lo ++ ([45] ++ Lib.itoa (s[i].Hi - 1))) else some (Lib.itoa s[i].Lo):Option Str)=some (txS s[i]):=by
      unfold txS
      by_cases e:s[i].Hi - s[i].Lo > 1
      · rw[if_pos (by simpa using e),if_pos e]; rfl
      · rw[if_neg (by simpa using e),if_neg e]
    rw[this]
    simp only[Option.bind_some]
    rw[app_ok (by simp only[List.length_singleton]; omega) (by simp only[List.length_singleton]; omega),w64_s i (by omega)]
    exact⟨rfl,by simp[hI]⟩) (fun b=>by
    unfold ranks_Text_l1
    simp only[]
    rw[if_neg (by simp)]) rfl
  rw[h1,show s.foldl (fun acc y=>acc ++ [txS y]) []=s.map txS by
    have:=foldl_flat (fun y=>[txS y]) s []
    rw[this,List.nil_append,flat_one]]
  simp only[Option.bind_some]
  unfold strings_Join
  obtain⟨y,r,rfl⟩:∃ y r,s=y :: r:=List.exists_cons_of_ne_nil hs
  rw[if_pos ⟨by simp only[List.length_map]; omega,by
    rw[List.map_cons,Lib.join_cons]
    have h2:=jt_len (r.map txS) (fun x hx=>by
      obtain⟨z,hz,rfl⟩:=List.mem_map.1 hx
      exact txS_len h hn (List.mem_cons_of_mem _ hz))
    have h3:=txS_len h hn (List.mem_cons_self (a:=y) (l:=r))
    simp only[List.length_map] at h2
    simp only[List.length_append]
    simp only[List.length_cons] at hl
    omega⟩]
  rfl
theorem ref07_Text_eq {n:Int} {s:Spans} (h:okS n s) (hn:n≤65536):ref07_Text s=some (textS s):=by
  have hl:=okS_len h hn
  unfold ref07_Text textS
  by_cases hs:s=[]
  · subst hs; rfl
  rw[if_neg hs,if_neg (by have:=List.length_pos_iff.2 hs; simp; omega)]
  have h1:=loopC_fun (f:=ref07_Text_l1 s) (fun x=>∃ i:Nat,x.2=i∧i≤s.length∧x.1.length≤i * 131077) (fun x=>s.length - x.2.toNat) (fun x=>if x.2=0 then x.1 ++ Lib.join (s.map txS) [44] else x.1 ++ Lib.joinTail [44] ((s.drop x.2.toNat).map txS)) (fun x hx=>by
    obtain⟨acc,z⟩:=x
    obtain⟨i,e,hi,hacc⟩:=hx
    simp only at e hacc
    subst e
    unfold ref07_Text_l1
    simp only[Int.toNat_natCast]
    rcases Nat.lt_or_ge i s.length with hlt | hge
    · right
      rw[if_pos (by simpa using hlt),ixl_nat hlt]
      simp only[Option.bind_some]
      have hy:=h.el s[i] (List.getElem_mem _)
      have a:=(itoa_ok (x:=s[i].Lo) (by omega) (by omega)).2
      have b':=(itoa_ok (x:=s[i].Hi - 1) (by omega) (by omega)).2
      have htl:=txS_len h hn (List.getElem_mem hlt)
      rw[(itoa_ok (x:=s[i].Lo) (by omega) (by omega)).1,show w64 (s[i].Lo + 1)=s[i].Lo + 1 from w64_id (by omega) (by omega),show w64 (s[i].Hi - 1)=s[i].Hi - 1 from w64_id (by omega) (by omega),(itoa_ok (x:=s[i].Hi - 1) (by omega) (by omega)).1]
      simp only[Option.bind_some]
      -- the separator
      obtain⟨acc2,k1,k2,k3⟩:∃ acc2:Str,(if decide ((i:Int) > 0)=true then Option.bind (cat acc [44]) (fun x42=>some x42) else some acc:Option Str)=some acc2∧acc2.length≤i * 131077 + 1∧acc2=if i=0 then acc else acc ++ [44]:=by
        by_cases e:i=0
        · subst e
          exact⟨acc,rfl,by omega,rfl⟩
        · rw[if_pos (by simp; omega),cat_ok (by simp only[List.length_singleton]; omega)]
          exact⟨_,rfl,by simp only[List.length_append,List.length_singleton]; omega,by rw[if_neg e]⟩
      rw[k1]
      simp only[Option.bind_some]
      rw[cat_ok (by omega)]
      simp only[Option.bind_some]
      rw[cat_ok (by simp only[List.length_append,List.length_singleton]; omega)]
      simp only[Option.bind_some]
      rw[cat_ok (by simp only[List.length_append,List.length_singleton]; omega)]
      simp only[Option.bind_some]
      have:(if decide (s[i].Hi > s[i].Lo + 1)=true then some (acc2 ++ Lib.itoa s[i].Lo ++ [45] ++ Lib.itoa (s[i].Hi - 1)) else some (acc2 ++ Lib.itoa s[i].Lo):Option Str)=some (acc2 ++ txS s[i]):=by
        unfold txS
        by_cases e:s[i].Hi - s[i].Lo > 1
        · rw[if_pos (by rw[decide_eq_true_eq]; omega),if_pos e]; simp
        · rw[if_neg (by rw[decide_eq_true_eq]; omega),if_neg e]
      rw[this]
      simp only[Option.bind_some]
      rw[w64_s i (by omega)]
      refine⟨_,rfl,⟨i + 1,rfl,hlt,by simp only[List.length_append]; omega⟩,by simp only[Int.toNat_natCast]; omega,?_⟩
      simp only[Int.toNat_natCast]
      rw[if_neg (by omega),k3]
      by_cases e:i=0
      · subst e
        rw[if_pos rfl,if_pos (show ((0:Nat):Int)=0 from rfl)]
        obtain⟨y,r,rfl⟩:∃ y r,s=y :: r:=List.exists_cons_of_ne_nil hs
        rw[List.map_cons,Lib.join_cons]
        simp
      · rw[if_neg e,if_neg (by omega),List.drop_eq_getElem_cons hlt,List.map_cons,jt_cons]
        simp
    · left
      have:i=s.length:=by omega
      subst this
      have:=List.length_pos_iff.2 hs
      rw[if_neg (by simp),if_neg (by omega),List.drop_of_length_le (Nat.le_refl _)]
      simp[Lib.joinTail]) (x:=(([]:Str),(0:Int))) ⟨0,rfl,Nat.zero_le _,by simp⟩
  rw[h1,if_pos rfl]
  rfl
theorem copied_eq (a:Spans) (h:a.length≤65536):law07_copied a=some a:=by
  unfold law07_copied
  rw[app_ok (by simp only[List.length_nil]; omega) (by simp only[List.length_nil]; omega)]
  rfl
theorem RanksDoes_true (n:Int) (a b:List S_api_Span) (x:Int) (_:(Lit.int .i64 n).wf=true) (_:∀ y∈a,((Lit.int .i64 y.Lo).wf=true)∧((Lit.int .i64 y.Hi).wf=true)∧True) (_:∀ y∈b,((Lit.int .i64 y.Lo).wf=true)∧((Lit.int .i64 y.Hi).wf=true)∧True) (_:(Lit.int .i64 x).wf=true)
    (ma:((a.map fun y=>(1 + (1 + (0)) + 1)).sum + 1)≤1048576) (mb:((b.map fun y=>(1 + (1 + (0)) + 1)).sum + 1)≤1048576):law07_RanksDoes n a b x=some true:=by
  obtain⟨fa,a1,a2⟩:=ref07_Fit_eq n a (span_len ma)
  obtain⟨fb,b1,b2⟩:=ref07_Fit_eq n b (span_len mb)
  have hno:(Option.bind (ranks_Same a b) fun x5=>Option.bind (ref07_Same a b) fun x6=>Option.bind (if (x5 == x6)=true then Option.bind law07_awake fun x9=>some x9 else some false:Option Bool) fun x8=>some x8)=some true:=by
    rw[ranks_Same_eq _ _ (span_len ma),ref07_Same_eq _ _ (span_len ma)]
    simp only[Option.bind_some,beq_self_eq_true,if_true]
    rfl
  unfold law07_RanksDoes
  rw[a1,b1]
  simp only[Option.bind_some]
  cases fa with
  | false=>exact hno
  | true=>
  cases fb with
  | false=>exact hno
  | true=>
  obtain⟨h0,hn,oa⟩:=a2.1 rfl
  obtain⟨_,_,ob⟩:=b2.1 rfl
  have la:=okS_len oa hn
  have lb:=okS_len ob hn
  simp only[Bool.not_true,Bool.false_eq_true,if_false,Option.bind_some]
  rw[copied_eq a la,copied_eq b lb]
  simp only[Option.bind_some]
  -- what the document says of two sets
  have doc:∀ (a2 a3 a4:Bool) (c d r:Spans),okS n c→okS n d→okS n r→(∀ x,inS r x↔fB a2 a3 a4 (hasB c x) (hasB d x)=true)→ref07_both c d a2 a3 a4=some r:=fun a2 a3 a4 c d r hc hd hr hx=>by
    obtain⟨r2,g1,g2,g3⟩:=ref07_both_eq h0 hn hc hd a2 a3 a4
    rw[g1,okS_ext g2 hr fun x=>by rw[g3,hx]]
  obtain⟨u1,u2⟩:=union_ok oa ob
  obtain⟨i1,i2⟩:=meet_ok oa ob
  obtain⟨d1,d2⟩:=minus_ok oa ob
  obtain⟨n1,n2⟩:=not_ok h0 hn oa
  have eU:ref07_Union a b=some (unionS a b):=by
    unfold ref07_Union
    rw[doc true true true a b _ oa ob u1 fun x=>by rw[u2,← hasB_iff,← hasB_iff]; unfold fB; cases hasB a x <;> cases hasB b x <;> simp]
    rfl
  have eM:ref07_Meet a b=some (meetS a b):=by
    unfold ref07_Meet
    rw[doc false true false a b _ oa ob i1 fun x=>by rw[i2,← hasB_iff,← hasB_iff]; unfold fB; cases hasB a x <;> cases hasB b x <;> simp]
    rfl
  have minus:∀ c d:Spans,okS n c→okS n d→ref07_Minus c d=some (minusS c d):=fun c d hc hd=>by
    obtain⟨d1,d2⟩:=minus_ok hc hd
    unfold ref07_Minus
    rw[doc true false false c d _ hc hd d1 fun x=>by rw[d2,← hasB_iff,← hasB_iff]; unfold fB; cases hasB c x <;> cases hasB d x <;> simp]
    rfl
  have eN:ref07_Not n a=some (notS n a):=by
    unfold ref07_Not
    rw[← all_same,ranks_All_eq]
    simp only[Option.bind_some]
    rw[minus _ _ (all_ok h0 hn).1 oa]
    rfl
  have lf:∀ {r:Spans},okS n r→r.length≤1048576:=fun h=>by have:=okS_len h hn; omega
  have eW:ranks_Within a b=some (((minusS a b).length:Int) == 0):=by
    unfold ranks_Within
    rw[ranks_Minus_eq a b la lb]
    rfl
  have eW2:ref07_Within a b=some (((minusS a b).length:Int) == 0):=by
    unfold ref07_Within
    rw[minus a b oa ob]
    rfl
  have eC:ref07_Count a=some ((ranksL a).length:Int):=by
    unfold ref07_Count
    rw[ref07_List_eq oa hn]
    rfl
  have hll:(ranksL a).length≤9223372036854775806:=by
    have:=strict_len (ranksL_pw oa) (k:=65536) (fun x hx=>by
      have:=inS_range oa ((ranksL_mem a x).1 hx)
      omega)
    omega
  rw[ranks_Union_eq a b la lb,eU]
  simp only[Option.bind_some]
  rw[ref07_Same_refl _ (lf u1)]
  simp only[Option.bind_some,if_true]
  rw[ranks_Meet_eq a b la lb,eM]
  simp only[Option.bind_some]
  rw[ref07_Same_refl _ (lf i1)]
  simp only[Option.bind_some,if_true]
  rw[ranks_Minus_eq a b la lb,minus a b oa ob]
  simp only[Option.bind_some]
  rw[ref07_Same_refl _ (lf d1)]
  simp only[Option.bind_some,if_true]
  rw[ranks_Not_eq n a la,eN]
  simp only[Option.bind_some]
  rw[ref07_Same_refl _ (lf n1)]
  simp only[Option.bind_some,if_true]
  rw[ranks_Has_eq a x (lf oa),ref07_Has_eq a x (lf oa)]
  simp only[Option.bind_some,beq_self_eq_true,if_true]
  rw[ranks_List_eq oa hn,ref07_List_eq oa hn]
  simp only[Option.bind_some]
  rw[law07_ints_refl _ hll]
  simp only[Option.bind_some,if_true]
  rw[ranks_Count_eq oa hn,eC]
  simp only[Option.bind_some,beq_self_eq_true,if_true]
  rw[eW,eW2]
  simp only[Option.bind_some,beq_self_eq_true,if_true]
  rw[ranks_Same_eq _ _ (lf oa),ref07_Same_eq _ _ (lf oa)]
  simp only[Option.bind_some,beq_self_eq_true,if_true]
  rw[ranks_Text_eq oa hn,ref07_Text_eq oa hn]
  simp only[Option.bind_some,beq_self_eq_true,if_true]
  rw[ref07_Same_refl _ (lf oa),ref07_Same_refl _ (lf ob)]
  rfl
end Go.Vm

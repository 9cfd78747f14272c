/- The law PropOrder, a part of its proof: what the functions that it reaches compute. -/
import Derived.WalkKit
import Derived.ProofKit
import Derived.OpenShut
import Derived.Below
import Derived.ChangeSame
import Derived.Deep.DeepHandedRow
import Derived.Carry
import Derived.Test.YtegkglnbjbaibaaFxc7473d97
import Derived.Lib.Join
import Derived.Lib.SlTrimSet
import Derived.Lib.IndexAny
import Derived.Shelf.Small.Strs
import Derived.Test.YtegkglnbjbaibaaDx2f8c66e6
import Derived.Shelf.SlLaysF
import Derived.Shelf.SlGeneric
import Derived.Sort.Row
import Derived.Sort.Grow
import Derived.Lib.SlicesCompact
import Derived.WalkSmall
import Derived.Shelf.SlSortCmp.NoneTotal
import Derived.Deep.Strs
import Derived.Test.YtegkglnbjbaibaaCx124366a9
import Derived.Test.YtegkglnbjbaibaaG0PropOrder
import Derived.Test.YtegkglnbjbaibaaW26PropOrder
import Derived.Test.YtegkglnbjbaibaaG1PropOrder
set_option linter.unusedVariables false
set_option linter.unusedSimpArgs false
/- What a row asks behind a call that has left all that was there as it was. -/
namespace Go.Vm
open Go Go.RowKit Go.WideShapes Go.ChangeShapes
theorem row_below {H:Type} {enc:TypeId × Value→H} {P:Program} {f:Func} {s:ChangeSpec} {apart fresh handsOn again:Bool} {W W':World} {args:Array Value} {v:Value} {ds gs:List (DataW H)} {before pa pv:List MemPlace}
    (hW:DataW.Whole enc P f.params.toList s.vars apart W args.toList ds gs before) (hb:Below W.heap.size W W') (hp:before=pa ++ pv)
    (hr:∀ (b:Nat) (sp:Nat→Bool) (hd:Bool),DataW.TrodAll enc P W' b sp hd f.resultTypes.toList (v.resultList f.resultTypes.size) (s.fn H (ds ++ gs)).results [])
    (ha:∀ sp:Nat→Bool,(∀ p∈before,sp p.block=true)→DataW.TrodAll enc P W' 0 sp true f.params.toList args.toList (s.fn H (ds ++ gs)).args pa)
    (hv:∀ sp:Nat→Bool,(∀ p∈before,sp p.block=true)→DataW.TrodVars enc P W' sp s.vars (s.fn H (ds ++ gs)).vars pv)
    (ho:∀ (j:Nat) (t:TypeId) (r:Value),f.resultTypes[j]? = some t→(v.resultList f.resultTypes.size)[j]? = some r→Value.okWide P W' .any 0 t r) :
    s.post enc P f apart fresh handsOn again W args v W':=by
  have small:∀ p∈before,decide (p.block < W.heap.size)=true:=fun p h=>decide_eq_true (hW.lt p h)
  refine⟨ds,gs,before,[],pa,pv,hW,hr _ _ _,ha (fun b=>decide (b < W.heap.size)) small,hv _ small,hb.frame _,fun _=>⟨ho,?_⟩⟩
  obtain⟨_,_,_,_,_,hz,hn⟩:=hW
  refine⟨_,_,([] ++ pa) ++ pv,⟨[] ++ pa,pv,trodAll_append (ha _ fun _ _=>rfl) (hr _ _ _),hv _ fun _ _=>rfl,rfl,fun b off hm=>?_,fun h=>?_⟩,?_⟩
  · have hm':MemPlace.cell b off∈before:=by rw[hp]; simpa using hm
    rw[hb.frozen (of_decide_eq_true (small _ hm'))]
    exact hz b off hm'
  · have:=hn h
    rw[hp] at this
    simpa using this
  · intro x hx _
    rw[hp]
    simpa using hx
end Go.Vm
/- Functions that are taken for known: from what the shelf says of them. -/
set_option linter.unusedVariables false
set_option linter.unusedSimpArgs false
namespace Go.Vm
open Go Go.RowKit
theorem post_below {K:Cx} {base:Nat} {h:AHeap} (H:HRel K base h) {v:AV} {cv:Value} {w':World} (hb:Below K.w.heap.size K.w w') (hv:∀ K',VRel K' v cv):CallPost K base h K.c v (.returned cv) w':=by
  let K':Cx:={ K with w:=w' }
  have S:K.Step K':=⟨Nat.le_refl _,fun _ _=>rfl,hb.os,hb.tape,hb.output,hb.size,fun b h1 h2=>⟨hb.block b h1,h2⟩,rfl,fun l ⟨R,hR⟩=>⟨R,(hb.block l (by
    rcases Nat.lt_or_ge l K.w.heap.size with hlt | hge
    · exact hlt
    · rw[Array.getElem?_eq_none hge] at hR; cases hR)).trans hR⟩⟩
  exact⟨K',cv,rfl,rfl,S,H.step S (fun b hL=>hb.block b (H.bs b hL).2) rfl,rfl,hv K'⟩
end Go.Vm
set_option maxRecDepth 100000
namespace Go.Proofs
open Go.Shelf
def Try.z6sff:Nat→Nat
  | 6=>16
  | 15=>31
  | 14=>30
  | 28=>48
  | 29=>49
  | 20=>40
  | 21=>41
  | 22=>42
  | 23=>43
  | 24=>44
  | 25=>45
  | 26=>46
  | 27=>47
  | 46=>53
  | 47=>54
  | 48=>55
  | 49=>56
  | 50=>57
  | 57=>58
  | n=>n
def Try.z6sft:Nat→Nat
  | 22=>23
  | 24=>3
  | 25=>39
  | 3=>3
  | 39=>57
  | 0=>0
  | 53=>77
  | 55=>79
  | 4=>4
  | 46=>70
  | 45=>69
  | 50=>74
  | 5=>5
  | 9=>9
  | 66=>84
  | 70=>88
  | 76=>90
  | 77=>91
  | n=>n
def Try.z6sfg:Nat→Nat
  | n=>n
def Try.z6sfr:Ren:=⟨Try.z6sff,Try.z6sft,Try.z6sfg⟩
theorem Try.z6sf:SlLaysF.n6 Try.prog Try.z6sfr where
  mixed:=by kernel_rfl
  f6:=Exists.intro "slices.SortFunc[[]int,int]" (And.intro (by decide) (by kernel_rfl))
  f14:=Exists.intro "slices.pdqsortCmpFunc[int]" (And.intro (by decide) (by kernel_rfl))
  f15:=by kernel_rfl
  f20:=Exists.intro "slices.insertionSortCmpFunc[int]" (And.intro (by decide) (by kernel_rfl))
  f21:=Exists.intro "slices.heapSortCmpFunc[int]" (And.intro (by decide) (by kernel_rfl))
  f22:=Exists.intro "slices.breakPatternsCmpFunc[int]" (And.intro (by decide) (by kernel_rfl))
  f23:=Exists.intro "slices.choosePivotCmpFunc[int]" (And.intro (by decide) (by kernel_rfl))
  f24:=Exists.intro "slices.reverseRangeCmpFunc[int]" (And.intro (by decide) (by kernel_rfl))
  f25:=Exists.intro "slices.partialInsertionSortCmpFunc[int]" (And.intro (by decide) (by kernel_rfl))
  f26:=Exists.intro "slices.partitionEqualCmpFunc[int]" (And.intro (by decide) (by kernel_rfl))
  f27:=Exists.intro "slices.partitionCmpFunc[int]" (And.intro (by decide) (by kernel_rfl))
  f28:=by kernel_rfl
  f29:=by kernel_rfl
  f46:=Exists.intro "slices.siftDownCmpFunc[int]" (And.intro (by decide) (by kernel_rfl))
  f47:=by kernel_rfl
  f48:=by kernel_rfl
  f49:=Exists.intro "slices.medianAdjacentCmpFunc[int]" (And.intro (by decide) (by kernel_rfl))
  f50:=Exists.intro "slices.medianCmpFunc[int]" (And.intro (by decide) (by kernel_rfl))
  f57:=Exists.intro "slices.order2CmpFunc[int]" (And.intro (by decide) (by kernel_rfl))
  t0:=Try.underlying0
  a0:=Try.isAgg0
  z0:=Try.sizeOf0
  v0:=Try.zeroValue0
  t3:=Try.underlying3
  a3:=Try.isAgg3
  z3:=Try.sizeOf3
  v3:=Try.zeroValue3
  t4:=Try.underlying4
  a4:=Try.isAgg4
  z4:=Try.sizeOf4
  v4:=Try.zeroValue4
  t5:=Try.underlying5
  a5:=Try.isAgg5
  z5:=Try.sizeOf5
  v5:=Try.zeroValue5
  t9:=Try.underlying9
  a9:=Try.isAgg9
  z9:=Try.sizeOf9
  v9:=Try.zeroValue9
  t22:=Try.underlying23
  a22:=Try.isAgg23
  z22:=Try.sizeOf23
  v22:=Try.zeroValue23
  a24:=Try.isAgg3
  z24:=Try.sizeOf3
  t25:=Try.underlying39
  a25:=Try.isAgg39
  z25:=Try.sizeOf39
  v25:=Try.zeroValue39
  t39:=Try.underlying57
  a39:=Try.isAgg57
  z39:=Try.sizeOf57
  v39:=Try.zeroValue57
  t45:=Try.underlying69
  a45:=Try.isAgg69
  z45:=Try.sizeOf69
  v45:=Try.zeroValue69
  t46:=Try.underlying70
  a46:=Try.isAgg70
  z46:=Try.sizeOf70
  v46:=Try.zeroValue70
  t50:=Try.underlying74
  a50:=Try.isAgg74
  z50:=Try.sizeOf74
  v50:=Try.zeroValue74
  t53:=Try.underlying77
  a53:=Try.isAgg77
  z53:=Try.sizeOf77
  v53:=Try.zeroValue77
  t55:=Try.underlying79
  a55:=Try.isAgg79
  z55:=Try.sizeOf79
  v55:=Try.zeroValue79
  t66:=Try.underlying84
  a66:=Try.isAgg84
  z66:=Try.sizeOf84
  v66:=Try.zeroValue84
  t70:=Try.underlying88
  a70:=Try.isAgg88
  z70:=Try.sizeOf88
  v70:=Try.zeroValue88
  t76:=Try.underlying90
  a76:=Try.isAgg90
  z76:=Try.sizeOf90
  v76:=Try.zeroValue90
  t77:=Try.underlying91
  a77:=Try.isAgg91
  z77:=Try.sizeOf91
  v77:=Try.zeroValue91
end Go.Proofs
/- Rows that the library sorts by a comparison that is handed on: known functions that change memory. -/
namespace Go.Vm
open Go Go.RowKit Go.Sort
section
variable {α:Type}
theorem prim_sortO [Inhabited α] {P:Program} {g gc:FuncId} {dec:AV→Option α} {enc:α→Value} {srt:List α→Option (List α)} (hd:∀ c x,dec c=some x→c = .s (enc x)) (hl:∀ zs zs',srt zs=some zs'→zs'.length=zs.length) (h1c:∀ x,(enc x).oneCell' = true)
    (h0:∀ (p:Option Addr) (cap:Nat) (w:World),Calls P g #[.slice p 0 cap,.func (.func gc) #[] #[]] w fun e w'=>e = .returned (.tuple #[])∧w' = w)
    (h1:∀ (blk off cap:Nat) (zs zs':List α) (w:World),srt zs=some zs'→zs≠[]→Holds enc w blk off zs.toArray→blk < w.heap.size→zs.length < 4611686018427387904→Calls P g #[.slice (some ⟨blk,off,none⟩) zs.length cap,.func (.func gc) #[] #[]] w fun e w'=>e = .returned (.tuple #[])∧∃ n os,w' = grow (putRow enc (Sort.ahead w n) blk off zs'.toArray) os) :
    ∀ args h n v h' n',sortOM gc dec enc srt args h n=some (v,h',n')→∀ (K:Cx) (base:Nat) (cargs:Array Value),HRel K base h→K.c=n→VRels K args cargs.toList→∀ N,CallsIn Fence.wide N P g cargs K.w (CallPost K base h' n' v):=fun args h n v h' n' hp K base cargs H hc hr N=>by
  subst hc
  obtain⟨cl,rfl⟩:∃ l:List Value,cargs=l.toArray:=⟨cargs.toList,by simp⟩
  have triv:∀ (p:Option Addr) (cap:Nat),CallsIn Fence.wide N P g #[.slice p 0 cap,.func (.func gc) #[] #[]] K.w (CallPost K base h K.c (.tup [])):=fun p cap=>by
    refine callsIn_wide.2 ((h0 p cap K.w).mono ?_)
    rintro e w' ⟨rfl,rfl⟩
    exact post_below H (Below.refl _ _) fun K'=>by simp[VRel,VRels]
  match args,cl,hr,hp with
  | [x,xf],[y,yf],hr,hp=>
    simp only[VRels,and_true] at hr
    obtain⟨hr,hrf⟩:=hr
    unfold sortOM at hp
    split at hp
    case h_2=>cases hp
    rename_i a0 f0 e00
    simp only[List.cons.injEq,and_true] at e00
    obtain⟨rfl,rfl⟩:=e00
    split at hp
    case isFalse=>cases hp
    rename_i hgc
    have hp2:=hp
    subst hgc
    have hp:=hp2
    clear hp2
    have hyf:yf = .func (.func f0) #[] #[]:=by
      simp only[VRel] at hrf
      obtain⟨cv,e1,e2⟩:=hrf
      obtain⟨l,rfl⟩:∃ l:List Value,cv=l.toArray:=⟨cv.toList,by simp⟩
      cases l with
      | nil=>exact e1
      | cons _ _=>simp[VRels] at e2
    subst hyf
    unfold sortOM1 at hp
    split at hp
    · rename_i id off len e0
      simp only[VRel] at hr
      obtain⟨hlt,a,cap,rfl,e1,e2,e3⟩:=hr
      split at hp
      · rename_i hz
        cases hp
        subst hz
        exact triv _ _
      · rename_i hz
        split at hp
        · rename_i R hid
          split at hp
          · rename_i zs hzs
            split at hp
            case h_2=>cases hp
            rename_i zs' hs
            split at hp
            · rename_i hb
              cases hp
              obtain⟨hb1,hb2⟩:=hb
              have hrow:=rowsD_ok hd hzs
              have ha:a=⟨(K.ι id).1,((K.ι id).2.1 + off) * 1,none⟩:=e3.resolve_left (by omega)
              subst ha
              rw[Nat.mul_one]
              obtain⟨arr,T,fz,o1,o2,o3,o4,o5⟩:=H.obj id _ hid
              have hR:off + len≤R.length:=by
                have:=congrArg List.length hrow
                simp only[List.length_take,List.length_drop,List.length_map] at this
                omega
              have hget:∀ j x,zs[j]? = some x→arr[(K.ι id).2.1 + off + j]? = some (enc x):=fun j x hj=>by
                have hj2:j < len:=by rw[← hb1]; exact (List.getElem?_eq_some_iff.1 hj).1
                have h2:R[off + j]? = some [AV.s (enc x)]:=by
                  have:=congrArg (fun l=>l[j]?) hrow
                  simp only[List.getElem?_map,hj,Option.map_some] at this
                  rw[List.getElem?_take_of_lt hj2,List.getElem?_drop] at this
                  exact this
                obtain⟨_,h3⟩:=o5 _ _ h2
                obtain⟨v,h4,h5,h6⟩:=h3 0 _ rfl
                simp only[VRel] at h6
                subst h6
                rw[← h4]
                congr 1
                omega
              have hH:Holds enc K.w (K.ι id).1 ((K.ι id).2.1 + off) zs.toArray:=fun j hj=>by
                have hj':j < zs.length:=by simpa using hj
                refine⟨?_,?_⟩
                · simp only[World.cell?,o1,Option.isSome_none,Bool.false_eq_true,if_false]
                  rw[hget j zs[j] (List.getElem?_eq_getElem hj')]
                  simp[hj']
                · simp only[World.frozen?,o1]
                  have hlt2:(K.ι id).2.1 + off + j < arr.size:=by
                    rw[o2]; omega
                  have:=o3 _ hlt2
                  simpa using this
              have hblk:(K.ι id).1 < K.w.heap.size:=(H.bs _ (H.L id _ hid)).2
              rw[← hb1]
              refine callsIn_wide.2 ((h1 _ _ cap zs zs' K.w hs (fun e=>hz (by rw[← hb1,e]; rfl)) hH hblk (by omega)).mono ?_)
              rintro e w' ⟨rfl,nn,os,rfl⟩
              have hsz:(putRow enc (Sort.ahead K.w nn) (K.ι id).1 ((K.ι id).2.1 + off) zs'.toArray).heap.size=K.w.heap.size:=by simp[Sort.ahead]
              have hother:∀ b,b < K.w.heap.size→b≠(K.ι id).1→(grow (putRow enc (Sort.ahead K.w nn) (K.ι id).1 ((K.ι id).2.1 + off) zs'.toArray) os).heap[b]? = K.w.heap[b]?:=fun b h2 h3=>by
                rw[heap_grow_old _ _ (by rw[hsz]; exact h2)]
                simp[putRow,mapBlock,Sort.ahead,Array.getElem?_modify,Ne.symm h3]
              have hsame:(grow (putRow enc (Sort.ahead K.w nn) (K.ι id).1 ((K.ι id).2.1 + off) zs'.toArray) os).heap[(K.ι id).1]? = some (.cells (putCells enc ((K.ι id).2.1 + off) zs'.toArray arr) T fz):=by
                rw[heap_grow_old _ _ (by rw[hsz]; exact hblk)]
                simp[putRow,mapBlock,Sort.ahead,Array.getElem?_modify,o1,onCells]
              generalize hw':grow (putRow enc (Sort.ahead K.w nn) (K.ι id).1 ((K.ι id).2.1 + off) zs'.toArray) os=w' at hother hsame
              have hsz':K.w.heap.size≤w'.heap.size:=by
                rw[← hw']
                simp[grow,Sort.ahead]
              let K':Cx:={ K with w:=w' }
              have S:K.Step K':=by
                refine⟨Nat.le_refl _,fun _ _=>rfl,?_,?_,?_,hsz',fun b h2 h3=>⟨hother b h2 fun e=>h3 (by rw[e]; exact H.L id _ hid),h3⟩,rfl,fun l ⟨Lp,hLp⟩=>⟨Lp,?_⟩⟩
                · show w'.os=_; rw[← hw']; rfl
                · show w'.tape=_; rw[← hw']; rfl
                · show w'.output=_; rw[← hw']; rfl
                · refine (hother l (heap_lt_of hLp) fun e=>?_).trans hLp
                  rw[e,o1] at hLp
                  cases hLp
              have hput:∀ j,(putCells enc ((K.ι id).2.1 + off) zs'.toArray arr)[j]? = if (K.ι id).2.1 + off≤j∧j < (K.ι id).2.1 + off + len then (zs'[j - ((K.ι id).2.1 + off)]?).map enc else arr[j]?:=fun j=>by
                have hq:zs'.length=len:=by rw[hl zs zs' hs,hb1]
                unfold putCells
                rw[Array.getElem?_mapIdx]
                simp only[List.size_toArray,hq]
                by_cases hin:(K.ι id).2.1 + off≤j∧j < (K.ι id).2.1 + off + len
                · have hlt2:j < arr.size:=by rw[o2]; omega
                  have hlt3:j - ((K.ι id).2.1 + off) < zs'.length:=by omega
                  simp[hin,hlt2,hlt3]
                · simp only[if_neg hin]
                  cases arr[j]? <;> rfl
              refine⟨K',.tuple #[],rfl,rfl,S,?_,rfl,by simp[VRel,VRels]⟩
              refine H.put S id _ (fun j p hj hp=>⟨hother _ (H.bs _ (H.L j p hp)).2 (H.inj j id p _ hp hid hj),H.L j p hp⟩) (fun b hb=>⟨(H.bs b hb).1,Nat.lt_of_lt_of_le (H.bs b hb).2 hsz'⟩) (fun p hp=>?_)
              cases hp
              refine⟨H.lt id _ hid,H.L id _ hid,⟨_,T,fz,hsame,?_,?_,?_,fun i r hi=>?_⟩,fun j q hj hq=>H.inj j id q _ hq hid hj⟩
              · simp[putCells,o2,K']
              · intro i hi; exact o3 i (by simpa[putCells] using hi)
              · simp only[List.length_append,List.length_take,List.length_map,List.length_drop,hl zs zs' hs]
                show _≤(K.ι id).2.2
                omega
              · show r.length=1∧CellsRel K' _ (((K.ι id).2.1 + i) * 1) r
                have hlm:((zs'.map fun x=>[AV.s (enc x)])).length=len:=by rw[List.length_map,hl zs zs' hs,hb1]
                have hlt:(R.take off).length=off:=by rw[List.length_take]; omega
                by_cases hc1:i < off
                · rw[List.append_assoc,List.getElem?_append_left (by rw[hlt]; exact hc1),List.getElem?_take_of_lt hc1] at hi
                  obtain⟨g1,g2⟩:=o5 i r hi
                  refine⟨g1,fun j c hj=>?_⟩
                  have hj0:j=0:=by have:=(List.getElem?_eq_some_iff.1 hj).1; omega
                  subst hj0
                  obtain⟨v,g3,g4,g5⟩:=g2 0 c hj
                  refine⟨v,?_,g4,g5.mono S.le⟩
                  rw[hput,if_neg (by omega)]
                  exact g3
                · by_cases hc2:i < off + len
                  · rw[List.getElem?_append_left (by rw[List.length_append,hlt,hlm]; omega),List.getElem?_append_right (by omega),hlt,List.getElem?_map] at hi
                    obtain⟨x,hx1,rfl⟩:=Option.map_eq_some_iff.1 hi
                    refine⟨rfl,fun j c hj=>?_⟩
                    have hj0:j=0:=by have:=(List.getElem?_eq_some_iff.1 hj).1; simp at this; omega
                    subst hj0
                    simp only[List.getElem?_cons_zero,Option.some.injEq] at hj
                    subst hj
                    refine⟨enc x,?_,h1c x,by simp[VRel]⟩
                    rw[hput,if_pos (by omega),show ((K.ι id).2.1 + i) * 1 + 0 - ((K.ι id).2.1 + off)=i - off by omega,hx1]
                    rfl
                  · rw[List.getElem?_append_right (by rw[List.length_append,hlt,hlm]; omega),List.length_append,hlt,hlm,List.getElem?_drop,show off + zs.length + (i - (off + len))=i by omega] at hi
                    obtain⟨g1,g2⟩:=o5 i r hi
                    refine⟨g1,fun j c hj=>?_⟩
                    have hj0:j=0:=by have:=(List.getElem?_eq_some_iff.1 hj).1; omega
                    subst hj0
                    obtain⟨v,g3,g4,g5⟩:=g2 0 c hj
                    refine⟨v,?_,g4,g5.mono S.le⟩
                    rw[hput,if_neg (by omega)]
                    exact g3
            · cases hp
          · cases hp
        · cases hp
    · cases hp
      simp only[VRel] at hr
      subst hr
      exact triv _ _
    · cases hp
      simp only[VRel] at hr
      obtain⟨A,rfl,_⟩:=hr
      exact triv _ _
    · cases hp
  | [],_,_,hp=>simp[sortOM] at hp
  | [_],_,_,hp=>simp[sortOM] at hp
  | _ :: _ :: _ :: _,_,_,hp=>simp[sortOM] at hp
  | [_,_],[],hr,_=>simp[VRels] at hr
  | [_,_],[_],hr,_=>simp[VRels] at hr
  | [_,_],_ :: _ :: _ :: _,hr,_=>simp[VRels] at hr
end
end Go.Vm
/- slices.SortFunc at rows whose elements are parted by the comparison: from the shelf's contract. -/
namespace Go.Vm
open Go Go.RowKit Go.Sort Go.Proofs Go.Shelf
section
variable {α:Type} [Inhabited α]
theorem att_get (zs:List α) (x0:{x // x∈zs}) (j:Nat) (hj:j < zs.length):((@getElem! (Array {x // x∈zs}) Nat {x // x∈zs} _ _ ⟨x0⟩ zs.attach.toArray j)).val=zs.toArray[j]!:=by
  letI i0:Inhabited {x // x∈zs}:=⟨x0⟩
  have h1:j < zs.attach.toArray.size:=by simpa using hj
  rw[getElem!_pos (zs.attach.toArray) j h1,getElem!_pos zs.toArray j (by simpa using hj)]
  simp
theorem putCells_val (enc:α→Value) {p:α→Prop} (i0:Inhabited {x // p x}) (l:List {x // p x}) (off:Nat) (c:Array Value) : @putCells {x // p x} i0 (fun x=>enc x.val) off l.toArray c=putCells enc off (l.map Subtype.val).toArray c:=by
  unfold putCells
  simp only[List.size_toArray,List.length_map]
  congr 1
  funext k x
  split
  · rename_i h
    have h1:k - off < l.length:=by omega
    rw[getElem!_pos (l.toArray) (k - off) (by simpa using h1),getElem!_pos ((l.map Subtype.val).toArray) (k - off) (by simpa using h1)]
    simp
  · rfl
theorem sortF_total {P:Program} {ρ:Ren} (L:SlLaysF.n6 P ρ) {enc:α→Value} (h1c:∀ x,(enc x).oneCell' = true) {cf:α→α→Int} {gc:Nat} (eg:∀ args w,(callFunc gc args).run P w = .ok (.enter gc args) w) (zs:List α) (hne:zs≠[]) (hsz:zs.length < 4611686018427387904)
    (irr:∀ x∈zs,¬ cf x x < 0) (tr:∀ x∈zs,∀ y∈zs,∀ z∈zs,cf x y < 0→cf y z < 0→cf x z < 0) (tot:∀ x∈zs,∀ y∈zs,¬ cf x y < 0→¬ cf y x < 0→x=y)
    (hc:∀ x∈zs,∀ y∈zs,∀ W,Calls P gc #[enc x,enc y] W fun e w'=>e = .returned (.int .i64 (cf x y))∧∃ q os',w' = grow (W.drewN q) os')
    (blk off cap:Nat) (w:World) (hH:Holds enc w blk off zs.toArray) (hblk:blk < w.heap.size) :
    Calls P (ρ.f 6) #[.slice (some ⟨blk,off,none⟩) zs.length cap,.func (.func gc) #[] #[]] w fun e w'=>e = .returned (.tuple #[])∧∃ n os,w' = grow (putRow enc (Sort.ahead w n) blk off (zs.mergeSort fun x y=>!decide (cf y x < 0)).toArray) os:=by
  obtain⟨x0,hx0⟩:∃ x,x∈zs:=List.exists_mem_of_ne_nil zs hne
  letI i0:Inhabited {x // x∈zs}:=⟨⟨x0,hx0⟩⟩
  have hT:∀ x y:{x // x∈zs},(ltOf fun a b:{x // x∈zs}=>cf a.val b.val) x y=false→(ltOf fun a b:{x // x∈zs}=>cf a.val b.val) y x=false→x=y:=fun x y h1 h2=>by
    unfold ltOf at h1 h2
    exact Subtype.ext (tot _ x.2 _ y.2 (of_decide_eq_false h1) (of_decide_eq_false h2))
  have hO:SWO (ltOf fun a b:{x // x∈zs}=>cf a.val b.val):={
    irrefl:=fun x=>decide_eq_false (irr _ x.2)
    trans:=fun x y z h1 h2=>decide_eq_true (tr _ x.2 _ y.2 _ z.2 (of_decide_eq_true h1) (of_decide_eq_true h2))
    ntrans:=fun x y z h1 h2=>by
      unfold ltOf at h1 h2 ⊢
      refine decide_eq_false fun h3=>?_
      by_cases h4:cf y.val x.val < 0
      · exact of_decide_eq_false h2 (tr _ y.2 _ x.2 _ z.2 h4 h3)
      · have e:=tot _ x.2 _ y.2 (of_decide_eq_false h1) h4
        have h3':cf x.val z.val < 0:=h3
        rw[e] at h3'
        exact of_decide_eq_false h2 h3' }
  have hd:zs.attach.toArray.size=zs.length:=by simp
  have hH':Holds (fun x:{x // x∈zs}=>enc x.val) w blk off zs.attach.toArray:=fun j hj=>by
    have hj':j < zs.length:=by simpa using hj
    have:=hH j (by simpa using hj')
    rw[← att_get zs ⟨x0,hx0⟩ j hj'] at this
    exact this
  have hcmp:CmpLays1 P gc #[] (fun x:{x // x∈zs}=>enc x.val) (fun a b=>cf a.val b.val) blk off zs.attach.toArray.size w:=fun m os dk hs x y=>by
    have:=hc x.val x.2 y.val y.2 (sortWorld (fun x:{x // x∈zs}=>enc x.val) w blk off m dk os)
    simpa using this
  have key:=Any.slices_SortFunc_total L (fun x:{x // x∈zs}=>enc x.val) (fun x=>h1c x.val) (fun a b=>cf a.val b.val) hO gc #[] blk off cap zs.attach.toArray w eg hcmp hH' hblk (by rw[hd]; exact hsz) hT
  rw[hd] at key
  refine key.mono ?_
  rintro e w' ⟨he,n,os,rfl⟩
  refine⟨he,n,os,?_⟩
  unfold sortWorld putRow
  congr 2
  funext c
  rw[putCells_val]
  congr 2
  have hm:=List.map_mergeSort (f:=Subtype.val) (l:=zs.attach) (r:=fun a b:{x // x∈zs}=>!ltOf (fun a b:{x // x∈zs}=>cf a.val b.val) b a) (s:=fun x y=>!decide (cf y x < 0)) (fun a _ b _=>rfl)
  rw[List.attach_map_subtype_val] at hm
  exact hm
end
theorem sf0 {P:Program} {ρ:Ren} (L:SlLaysF.n6 P ρ):SlLaysF0.n6 P ρ:={ L with }
theorem sortSz_h1 {P:Program} {ρ:Ren} (L:SlLaysF.n6 P ρ) {gc:Nat} (eg:∀ args w,(callFunc gc args).run P w = .ok (.enter gc args) w)
    (hc:∀ x y:Int, -4096≤x→x≤4096 → -4096≤y→y≤4096→∀ W,Calls P gc #[.int .i64 x,.int .i64 y] W fun e w'=>e = .returned (.int .i64 ((x.natAbs:Int) - y.natAbs))∧∃ q os',w' = Sort.grow (W.drewN q) os')
    {blk off cap:Nat} {zs zs':List Int} {w:World} (hs:srtSz zs=some zs') (hne:zs≠[]) (hH:Holds (Value.int .i64) w blk off zs.toArray) (hblk:blk < w.heap.size) (hsz:zs.length < 4611686018427387904) :
    Calls P (ρ.f 6) #[.slice (some ⟨blk,off,none⟩) zs.length cap,.func (.func gc) #[] #[]] w fun e w'=>e = .returned (.tuple #[])∧∃ n os,w' = grow (putRow (Value.int .i64) (Sort.ahead w n) blk off zs'.toArray) os:=by
  unfold srtSz at hs
  split at hs
  case isFalse=>cases hs
  rename_i hg
  cases hs
  obtain⟨hb,hn⟩:=hg
  have hb':∀ x∈zs, -4096≤x∧x≤4096:=fun x hx=>by
    have:=of_decide_eq_true (List.all_eq_true.1 hb x hx)
    omega
  refine sortF_total L (enc:=Value.int .i64) (cf:=fun x y=>(x.natAbs:Int) - y.natAbs) (fun _=>rfl) eg zs hne hsz (fun x _ h=>by omega) (fun x _ y _ z _ h1 h2=>by omega) (fun x hx y hy h1 h2=>?_) (fun x hx y hy W=>hc x y (hb' x hx).1 (hb' x hx).2 (hb' y hy).1 (hb' y hy).2 W) blk off cap w hH hblk
  have e:x.natAbs=y.natAbs:=by omega
  obtain⟨i,hi,rfl⟩:=List.mem_iff_getElem.1 hx
  obtain⟨j,hj,rfl⟩:=List.mem_iff_getElem.1 hy
  have hp:=List.pairwise_iff_getElem.1 (List.nodup_iff_pairwise_ne.1 hn)
  rcases Nat.lt_trichotomy i j with h | h | h
  · exact absurd (by rw[List.getElem_map,List.getElem_map]; exact e) (hp i j (by simpa using hi) (by simpa using hj) h)
  · subst h; rfl
  · exact absurd (by rw[List.getElem_map,List.getElem_map]; exact e.symm) (hp j i (by simpa using hj) (by simpa using hi) h)
end Go.Vm
namespace Go.Proofs
open Go Go.RowKit Go.Sort
theorem Try.size_calls (x:Int) (h1 : -4096≤x) (h2:x≤4096) (W:World):Calls Try.prog 18 #[.int .i64 x] W fun e w'=>e = .returned (.int .i64 (x.natAbs:Int))∧w' = W:=by
  have key:∀ z:Int,z=(x.natAbs:Int)→Value.int .i64 z=Value.int .i64 (x.natAbs:Int):=fun z h=>by rw[h]
  go_enter Try.func18,Try.ntmps18
  go_wp2
  all_goals (go_ret; exact⟨congrArg Ending.returned (key _ (by omega)),rfl⟩)
theorem Try.cmp_calls (x y:Int) (h1 : -4096≤x) (h2:x≤4096) (h3 : -4096≤y) (h4:y≤4096) (W:World):Calls Try.prog 17 #[.int .i64 x,.int .i64 y] W fun e w'=>e = .returned (.int .i64 ((x.natAbs:Int) - y.natAbs))∧∃ q os',w' = Sort.grow (W.drewN q) os':=by
  have hx:=fun W=>Try.size_calls x h1 h2 W
  have hy:=fun W=>Try.size_calls y h3 h4 W
  have e:IntKind.i64.wrap ((x.natAbs:Int) - y.natAbs)=(x.natAbs:Int) - y.natAbs:=IntWalk.i64_in _ (by omega)
  go_enter Try.func17,Try.ntmps17
  go_wp2_with (go_at_call 18; first | (refine (hx _).mono ?_; rintro e w' ⟨rfl,rfl⟩) | (refine (hy _).mono ?_; rintro e w' ⟨rfl,rfl⟩))
  go_ret
  exact⟨rfl,0,#[],(grow_empty _).symm⟩
end Go.Proofs
namespace Go.Vm
open Go Go.RowKit Go.Proofs
def funcOk (fn:Func):Bool:=!(fn.name == "runtime.NumGoroutine") && (match fn.body with | some c=>codeOk c | none=>true)
theorem funcsOk:E.P.funcs.toList.all funcOk=true:=by kernel_rfl
theorem pk_slices_SortFuncI:∀ args h n v h' n',(sortOM 17 decI (Value.int .i64) srtSz) args h n=some (v,h',n')→∀ (K:Cx) (base:Nat) (cargs:Array Value),HRel K base h→K.c=n→VRels K args cargs.toList→∀ N,CallsIn Fence.wide N E.P 16 cargs K.w (CallPost K base h' n' v):=prim_sortO decI_ok srtSz_len (fun _=>rfl) (fun p cap w=>Go.Proofs.AnyF.slices_SortFunc_none (sf0 Go.Proofs.Try.z6sf) p cap _ w) (fun blk off cap zs zs' w hs hne hH hb hl=>sortSz_h1 Go.Proofs.Try.z6sf (Go.Proofs.enters_of Go.Proofs.Try.func17 (by kernel_rfl) rfl) Go.Proofs.Try.cmp_calls hs hne hH hb hl)
theorem envOk:EnvOk E:=by
  have key:∀ (f:FuncId) (fn:Func),E.P.funcs[f]? = some fn→funcOk fn=true:=fun f fn hf=>by
    have:=List.all_eq_true.1 funcsOk fn (by
      obtain⟨h1,h2⟩:=Array.getElem?_eq_some_iff.1 hf
      rw[← h2]
      simp)
    exact this
  refine⟨fun f fn hf=>?_,fun f fn c hf hc=>?_,fun g p hp=>?_,fun g p hp=>?_⟩
  · have:=key f fn hf
    unfold funcOk at this
    rw[Bool.and_eq_true] at this
    simpa using this.1
  · have:=key f fn hf
    unfold funcOk at this
    rw[Bool.and_eq_true,hc] at this
    exact this.2
  · simp only[E] at hp
    cases hp
  · simp only[E] at hp
    split at hp
    · rename_i hg
      subst hg
      cases hp
      exact⟨⟨Go.Proofs.Try.f16,by kernel_rfl,by kernel_rfl⟩,pk_slices_SortFuncI⟩
    · skip
      cases hp
theorem law_true {g:FuncId} {vs vs':List AV} {m:Option Bool} (hc:Ct E g vs m (fun r=>bv r)) (hm:m=some true) (hp:E.prim g=none) (hpf:E.pf g=true) (hv:All2 (VLe Rn.nil) vs vs') (hs:snapL (snap AHeap.nil depth) vs' = some (vs',false)) (w:World) (hG:∀ q,q∈glb→q.1 < w.heap.size∧∃ T fz,w.heap[q.1]? = some (.cells q.2 T fz)) {cargs:Array Value}
    (hr:VRels { w:=w,ι:=fun _=>(0,0,0),L:=fun _=>False,X:=fun _=>False,c:=0 } vs' cargs.toList) :
    Calls E.P g cargs w fun e w'=>e = .returned (.bool true)∧w'.os=w.os∧w'.tape=w.tape∧w'.output=w.output∧w.heap.size≤w'.heap.size∧(∀ b,b < w.heap.size→w'.heap[b]? = w.heap[b]?):=by
  obtain⟨u,h1,h2⟩:=hc true hm vs' hv AHeap.nil 0
  have hu:=h2.s_inv
  subst hu
  unfold callFn at h1
  rw[hp] at h1
  simp only[hpf,if_true,hs] at h1
  cases hcl:(rinf E).call g vs' AHeap.nil 0 with
  | none=>rw[hcl] at h1; cases h1
  | some q=>
    obtain⟨v,h3,n3⟩:=q
    rw[hcl] at h1
    simp only at h1
    cases hsn:snap h3 depth v with
    | none=>rw[hsn] at h1; cases h1
    | some q2=>
      obtain⟨v',b2⟩:=q2
      rw[hsn] at h1
      simp only[Bool.false_and,Bool.false_eq_true,if_false,Option.some.injEq,Prod.mk.injEq] at h1
      obtain⟨k,hk⟩:=rinf_call.1 hcl
      have hpc:pcall E k g vs' = some (bv true):=by
        unfold pcall
        rw[hk]
        simp only[hsn,h1.1]
      refine (pcall_sound envOk (fun r=>drawOk_all r) hpc w hG hr).mono ?_
      rintro e w' ⟨cv,h4,h5,h6,h7,h8,h9,h10⟩
      simp only[VRel] at h10
      subst h10
      exact⟨h4,h5,h6,h7,h8,h9⟩
end Go.Vm
/- What a call reads, as Lean data: an argument's reading by shape gives a value of the evaluator. -/
namespace Go.Vm
open Go
structure BulkOk {H:Type} (f:DataW H→Nat) (g:List (DataW H)→Nat):Prop where
  nil:g []=0
  cons:∀ d r,g (d :: r)=f d + g r
  pos:∀ d,1≤f d
  str:∀ l,f (.lit (.string l))=l.length + 1
  slice:∀ e s,f (.slice e s)=g e + g s + 1
  agg:∀ p,f (.agg p)=g p + 1
theorem BulkOk.sum {H:Type} {f:DataW H→Nat} {g:List (DataW H)→Nat} (B:BulkOk f g):∀ l,g l=(l.map f).sum
  | []=>B.nil
  | d :: r=>by rw[B.cons,B.sum r]; rfl
def Kw (W:World):Cx:={ w:=W,ι:=fun _=>(0,0,0),L:=fun _=>False,X:=fun _=>False,c:=0 }
def simpC:AV→Bool
  | .s _=>true
  | .fsl ..=>true
  | .esl=>true
  | _=>false
theorem snap_simpC {h:AHeap} {k:Nat} {c:AV} (hc:simpC c=true):snap h k c=some (c,false):=by
  cases c <;> first | (cases k <;> rfl) | cases hc
theorem snapL_simpC {h:AHeap} {k:Nat}:∀ {cs:List AV},cs.all simpC=true→snapL (snap h k) cs=some (cs,false)
  | [],_=>rfl
  | c :: cs,hc=>by
    simp only[List.all_cons,Bool.and_eq_true] at hc
    simp only[snapL,snap_simpC hc.1,snapL_simpC hc.2,Bool.or_self]
def simpA:AV→Bool
  | .agg cs=>cs.all simpC
  | c=>simpC c
theorem snap_simpA {h:AHeap} {k:Nat} {c:AV} (hc:simpA c=true):snap h (k + 1) c=some (c,false):=by
  unfold simpA at hc
  split at hc
  · simp only[snap,snapL_simpC hc,Option.map_some]
  · exact snap_simpC hc
theorem snapL_nil' (h:AHeap):snapL (snap h depth) []=some ([],false):=rfl
theorem snapL_cons' {h:AHeap} {c:AV} {cs:List AV} (hc:simpA c=true) (hs:snapL (snap h depth) cs=some (cs,false)):snapL (snap h depth) (c :: cs)=some (c :: cs,false):=by
  have h1:snap h depth c=some (c,false):=snap_simpA hc
  simp only[snapL,h1,hs,Bool.or_self]
section
variable {H:Type} {P:Program} {f:DataW H→Nat} {g:List (DataW H)→Nat}
structure Rd (P:Program) (f:DataW H→Nat) (t:TypeId) (n:Nat) {α:Type} (en:α→List AV) (ok:α→Prop) (μ:α→Nat):Prop where
  read:∀ {enc:TypeId × Value→H} {W:World} {fuel:Nat} {cs:List Value} {d:DataW H} {pl:List MemPlace},DataW.trod enc P W 0 (fun _=>true) true fuel t cs=some (d,pl) →
    ∃ x a,VRels (Kw W) a cs∧All2 (VLe Rn.nil) (en x) a∧a.all simpC=true∧ok x∧μ x≤f d∧cs.length=n∧(∀ v∈cs,v.oneCell' = true)
theorem Rd.str (B:BulkOk f g) {t:TypeId} (ht:P.underlying t=some .string):Rd P f t 1 (fun x:Str=>[bs x]) (fun _=>True) (fun x=>x.length + 1) where
  read h:=by
    obtain⟨s,rfl,e,_⟩:=DataW.trod_string ht h
    obtain⟨rfl,rfl⟩:=Prod.mk.inj e
    exact⟨s.data.toList,[.s (.string s)],by simp[VRels,VRel],⟨VLe.s_refl _,trivial⟩,rfl,trivial,by rw[B.str]; exact Nat.le_refl _,rfl,by simp; rfl⟩
theorem Rd.int (B:BulkOk f g) {t:TypeId} {k:IntKind} (ht:P.underlying t=some (.int k)):Rd P f t 1 (fun x:Int=>[.s (.int k x)]) (fun x=>(Lit.int k x).wf=true) (fun _=>1) where
  read h:=by
    obtain⟨n,rfl,e,w⟩:=DataW.trod_int ht h
    obtain⟨rfl,rfl⟩:=Prod.mk.inj e
    exact⟨n,[.s (.int k n)],by simp[VRels,VRel],⟨VLe.s_refl _,trivial⟩,rfl,w,B.pos _,rfl,by simp; rfl⟩
theorem Rd.bool (B:BulkOk f g) {t:TypeId} (ht:P.underlying t=some .bool):Rd P f t 1 (fun x:Bool=>[bv x]) (fun _=>True) (fun _=>1) where
  read h:=by
    obtain⟨n,rfl,e⟩:=DataW.trod_bool ht h
    obtain⟨rfl,rfl⟩:=Prod.mk.inj e
    exact⟨n,[bv n],by simp[VRels,VRel],⟨VLe.s_refl _,trivial⟩,rfl,trivial,B.pos _,rfl,by simp; rfl⟩
theorem VRels.len {K:Cx}:∀ {a:List AV} {x:List Value},VRels K a x→a.length=x.length
  | [],[],_=>rfl
  | _ :: a,_ :: x,h=>by simp only[List.length_cons]; rw[VRels.len (a:=a) (x:=x) (by simp only[VRels] at h; exact h.2)]
  | [],_ :: _,h=>by simp[VRels] at h
  | _ :: _,[],h=>by simp[VRels] at h
theorem crel_rd {W:World} {b:Nat}:∀ {a:List AV} {cs:List Value} {o:Nat},VRels (Kw W) a cs→(∀ i,i < cs.length→W.cell? ⟨b,o + i,none⟩=cs[i]?)→(∀ v∈cs,v.oneCell' = true)→CRel (Kw W) b o a
  | [],_,_,_,_,_=>by simp[CRel]
  | c :: a,[],_,h,_,_=>by simp[VRels] at h
  | c :: a,v :: cs,o,h,hc,h1=>by
    simp only[VRels] at h
    have h0:=hc 0 (by simp)
    simp only[Nat.add_zero,List.getElem?_cons_zero] at h0
    refine⟨⟨v,⟨?_,id,id⟩,h0,h1 v List.mem_cons_self,h.1⟩,crel_rd h.2 (fun i hi=>?_) fun u hu=>h1 u (List.mem_cons_of_mem _ hu)⟩
    · unfold World.cell? at h0
      split at h0
      · rename_i e
        exact (Array.getElem?_eq_some_iff.1 e).1
      · cases h0
    · have:=hc (i + 1) (by simp; omega)
      rw[Nat.add_assoc,Nat.add_comm 1 i,this]
      rfl
theorem Rd.slice (B:BulkOk f g) {t e:TypeId} {n:Nat} {α:Type} {en:α→List AV} {ok:α→Prop} {μ:α→Nat} (R:Rd P f e n en ok μ) (ht:P.underlying t=some (.slice e)) (hn:P.cellsOf e=n) (h0:0 < n) :
    Rd P f t 1 (fun x:List α=>[.fsl n (x.map en)]) (fun x=>∀ y∈x,ok y) (fun x=>(x.map μ).sum + 1) where
  read {enc W fuel cs d pl} h:=by
    rcases Deep.open_slice ht h with ⟨rfl,e'⟩ | ⟨a,len,cap,m,k,D,Pl,rfl,_,hl,_,hm,e',hx⟩
    · obtain⟨rfl,rfl⟩:=Prod.mk.inj e'
      exact⟨[],[nilS],by simp[VRels,VRel],⟨VLe.fsl_iff.2 (.inr ⟨rfl,.inl rfl⟩),trivial⟩,rfl,by simp,by simpa using B.pos _,rfl,by simp; rfl⟩
    · obtain⟨rfl,rfl⟩:=Prod.mk.inj e'
      have hlm:len≤m:=by rw[hm]; simpa using hl
      subst hn
      have hspot:0 < len→a.spot=none:=fun hp=>by
        obtain⟨cs',h1,h2⟩:=hx 0 (by omega)
        obtain⟨_,hlen,hc⟩:=World.cells?_some h1
        have:=hc 0 h0
        rw[List.getElem?_eq_getElem (by omega)] at this
        simp only[Nat.zero_mul,Addr.add,if_true] at this
        unfold World.cell? at this
        split at this
        · split at this
          · cases this
          · rename_i q; simpa using q
        · cases this
      obtain⟨ab,ao,sp⟩:=a
      have key:∀ j i,i + j=len→∃ (xs:List α) (rows:List (List AV)),RRel (Kw W) ab (ao + i * P.cellsOf e) (P.cellsOf e) rows∧All2 (All2 (VLe Rn.nil)) (xs.map en) rows∧xs.length=j∧(∀ x∈xs,ok x)∧(xs.map μ).sum≤((List.range' i j).map fun q=>f (D q)).sum:=by
        intro j
        induction j with
        | zero=>intro i _; exact⟨[],[],by simp[RRel],trivial,rfl,by simp,by simp⟩
        | succ j ih=>
          intro i hij
          obtain rfl:sp=none:=hspot (by omega)
          obtain⟨xs,rows,r1,r0,r2,r3,r4⟩:=ih (i + 1) (by omega)
          obtain⟨cs',h1,h2⟩:=hx i (by omega)
          obtain⟨x,a,x1,x0,_,x2,x3,x4,x5⟩:=R.read h2
          obtain⟨_,hlen,hc⟩:=World.cells?_some h1
          refine⟨x :: xs,a :: rows,?_,⟨x0,r0⟩,by simp[r2],by simpa using ⟨x2,r3⟩,?_⟩
          · simp only[RRel]
            refine⟨by rw[x1.len,x4],crel_rd x1 (fun q hq=>?_) x5,?_⟩
            · have:=hc q (by omega)
              rw[WideShapes.add_plain,WideShapes.add_plain] at this
              exact this
            · rw[Nat.add_assoc,show i * P.cellsOf e + P.cellsOf e=(i + 1) * P.cellsOf e by rw[Nat.add_mul,Nat.one_mul]]
              exact r1
          · simp only[List.map_cons,List.sum_cons,List.range'_succ]
            omega
      obtain⟨xs,rows,r1,r0,r2,r3,r4⟩:=key len 0 (by omega)
      have rl:rows.length=len:=by rw[r0.length,List.length_map,r2]
      refine⟨xs,[.fsl (P.cellsOf e) rows],?_,⟨VLe.fsl_iff.2 (.inl ⟨rows,rfl,r0⟩),trivial⟩,rfl,r3,?_,rfl,by simp; rfl⟩
      · simp only[VRels,VRel,and_true,rl]
        refine⟨some ⟨ab,ao,sp⟩,cap,rfl,by simp,hl,?_⟩
        rcases Nat.eq_zero_or_pos len with hz | hp
        · left
          exact List.length_eq_zero_iff.1 (by omega)
        · right
          obtain rfl:sp=none:=hspot hp
          exact⟨ab,ao,rfl,by rw[Nat.zero_mul,Nat.add_zero] at r1; exact r1⟩
      · rw[B.slice,B.sum,List.map_map,List.range_eq_range']
        have:(List.map (f ∘ D) (List.range' 0 len)).sum=((List.range' 0 len).map fun q=>f (D q)).sum:=rfl
        omega
structure Rds (P:Program) (f:DataW H→Nat) (g:List (DataW H)→Nat) (fs:List Field) (o n:Nat) {α:Type} (en:α→List AV) (ok:α→Prop) (μ:α→Nat):Prop where
  read:∀ {enc:TypeId × Value→H} {W:World} {fuel:Nat} {cs:List Value} {xs:List (DataW H × List MemPlace)},xs.length=fs.length→o + n≤cs.length →
    (∀ (i:Nat) (fd:Field),fs[i]? = some fd→DataW.trod enc P W 0 (fun _=>true) true fuel fd.type ((cs.drop fd.offset).take (P.cellsOf fd.type))=xs[i]?) →
    ∃ x a,VRels (Kw W) a ((cs.drop o).take n)∧All2 (VLe Rn.nil) (en x) a∧a.all simpC=true∧ok x∧μ x≤g (xs.map (·.1))∧(∀ v∈(cs.drop o).take n,v.oneCell' = true)
theorem Rds.nil (o:Nat):Rds P f g [] o 0 (fun _:Unit=>[]) (fun _=>True) (fun _=>0) where
  read _ _ _:=⟨(),[],by simp[VRels],trivial,rfl,trivial,Nat.zero_le _,by simp⟩
theorem Rds.cons (B:BulkOk f g) {fd:Field} {fs:List Field} {o n1 n2:Nat} {α β:Type} {e1:α→List AV} {ok1:α→Prop} {μ1:α→Nat} {e2:β→List AV} {ok2:β→Prop} {μ2:β→Nat} (R1:Rd P f fd.type n1 e1 ok1 μ1) (R2:Rds P f g fs (o + n1) n2 e2 ok2 μ2) (ho:fd.offset=o) (hn:P.cellsOf fd.type=n1) :
    Rds P f g (fd :: fs) o (n1 + n2) (fun x:α × β=>e1 x.1 ++ e2 x.2) (fun x=>ok1 x.1∧ok2 x.2) (fun x=>μ1 x.1 + μ2 x.2) where
  read {enc W fuel cs xs} hl hc h:=by
    cases xs with
    | nil=>simp at hl
    | cons y xs=>
      have h0:=h 0 fd rfl
      simp only[List.getElem?_cons_zero,ho,hn] at h0
      obtain⟨x1,l1,a1,a0,az,a2,a3,a4,a5⟩:=R1.read (d:=y.1) (pl:=y.2) h0
      obtain⟨x2,l2,b1,b0,bz,b2,b3,b5⟩:=R2.read (enc:=enc) (W:=W) (fuel:=fuel) (cs:=cs) (xs:=xs) (by simpa using hl) (by omega) (fun i fd' h'=>by have:=h (i + 1) fd' (by simpa using h'); simpa using this)
      have e:(cs.drop o).take (n1 + n2)=(cs.drop o).take n1 ++ (cs.drop (o + n1)).take n2:=by rw[List.take_add,List.drop_drop]
      refine⟨(x1,x2),l1 ++ l2,?_,a0.append b0,by rw[List.all_append,az,bz]; rfl,⟨a2,b2⟩,?_,?_⟩
      · rw[e]; exact a1.append b1
      · simp only[List.map_cons]; rw[B.cons]; omega
      · rw[e]
        intro v hv
        rcases List.mem_append.1 hv with hv | hv
        · exact a5 v hv
        · exact b5 v hv
theorem Rd.struct (B:BulkOk f g) {t:TypeId} {fs:Array Field} {n:Nat} {α β:Type} {en:α→List AV} {ok:α→Prop} {μ:α→Nat} (R:Rds P f g fs.toList 0 n en ok μ) (ht:P.underlying t=some (.struct fs)) (hn:P.cellsOf t=n) (mk:α→β) (hs:∀ y,∃ x,mk x=y) {en':β→List AV} (he:∀ x,en' (mk x)=en x) {ok':β→Prop} (hk:∀ x,ok x→ok' (mk x)) {μ':β→Nat} (hm:∀ x,μ' (mk x)≤μ x + 1) :
    Rd P f t n en' ok' μ' where
  read {enc W fuel cs d pl} h:=by
    obtain⟨xs,k,_,e,hl,hx,hf⟩:=DataW.trod_struct ht h
    obtain⟨rfl,rfl⟩:=Prod.mk.inj e
    obtain⟨x,a,h1,h0,hz,h2,h3,h4⟩:=R.read (enc:=enc) (W:=W) (fuel:=k) (cs:=cs) (xs:=xs) (by simpa using hx) (by omega) (fun i fd h'=>hf i fd (by simpa using h'))
    rw[List.drop_zero,List.take_of_length_le (by omega)] at h1 h4
    refine⟨mk x,a,h1,by rw[he]; exact h0,hz,hk x h2,?_,by omega,h4⟩
    rw[B.agg]
    have:=hm x
    omega
theorem Rd.arg1 {t:TypeId} {α:Type} {c:α→AV} {ok:α→Prop} {μ:α→Nat} (R:Rd P f t 1 (fun x=>[c x]) ok μ) {enc:TypeId × Value→H} {W:World} {v:Value} {d:DataW H} {pl:List MemPlace} (hv:v.cells = #[v]) (h:DataW.Trod enc P W 0 (fun _=>true) true t v d pl) :
    ∃ x b,VRel (Kw W) b v∧ok x∧μ x≤f d∧VLe Rn.nil (c x) b∧simpA b=true:=by
  obtain⟨fuel,h⟩:=h
  obtain⟨x,a,h1,h0,hz,h2,h3,_⟩:=R.read h
  rw[hv] at h1
  match a,h0 with
  | [b],h0=>
    simp only[VRels,and_true] at h1
    simp only[List.all_cons,List.all_nil,Bool.and_true] at hz
    refine⟨x,b,h1,h2,h3,h0.1,?_⟩
    unfold simpA
    split
    · cases hz
    · exact hz
  | [],h0=>exact h0.elim
  | _ :: _ :: _,h0=>exact h0.2.elim
theorem cells_int {P:Program} {W:World} {r:Reach} {b:Nat} {t:TypeId} {k:IntKind} {v:Value} (ht:P.underlying t=some (.int k)) (h:Value.okWide P W r b t v):v.cells = #[v]:=by
  unfold Value.okWide Cell.okWide Cell.ok at h
  rw[ht] at h
  cases v <;> first | rfl | simp at h
theorem cells_slice {P:Program} {W:World} {r:Reach} {b:Nat} {t e:TypeId} {v:Value} (ht:P.underlying t=some (.slice e)) (h:Value.okWide P W r b t v):v.cells = #[v]:=by
  unfold Value.okWide Cell.okWide Cell.ok at h
  rw[ht] at h
  cases v <;> first | rfl | simp at h
theorem args_stay {enc:TypeId × Value→H} (hl:laidOutB P=true) {W W':World} (hb:RowKit.Below W.heap.size W W') {sp:Nat→Bool}:∀ {ts:List TypeId} {vs:List Value} {ds:List (DataW H)} {ps:List MemPlace},(∀ t∈ts,P.readableRec t=true∧t < P.types.size)→DataW.TrodAll enc P W 0 (fun _=>true) true ts vs ds ps→(∀ x∈ps,x.block < W.heap.size)→(∀ x∈ps,sp x.block=true) →
    DataW.TrodAll enc P W' 0 sp true ts vs ds ps
  | [],[],[],_,_,h,_,_=>h
  | t :: ts,v :: vs,d :: ds,ps,hr,h,h1,h2=>by
    obtain⟨p,q,h3,h4,rfl⟩:=h
    exact⟨p,q,WideElems.Trod_stays hl (hr t List.mem_cons_self).1 (hr t List.mem_cons_self).2 h3 (fun x hx=>hb.same (h1 x (List.mem_append_left _ hx))) (fun x hx=>h2 x (List.mem_append_left _ hx)),
      args_stay hl hb (fun u hu=>hr u (List.mem_cons_of_mem _ hu)) h4 (fun x hx=>h1 x (List.mem_append_right _ hx)) (fun x hx=>h2 x (List.mem_append_right _ hx)),rfl⟩
  | [],_ :: _,_,_,_,h,_,_=>h.elim
  | [],[],_ :: _,_,_,h,_,_=>h.elim
  | _ :: _,[],_,_,_,h,_,_=>h.elim
  | _ :: _,_ :: _,[],_,_,h,_,_=>h.elim
end
end Go.Vm
/- Plain laws: loops, numbers. -/
namespace Go.Vm
open Go
section
variable {σ τ:Type} {f:σ→Option (Step σ τ)}
theorem loopC_next {x y:σ} (h:f x=some (.next y)):loopC f x=loopC f y:=by rw[loopC_eq,h]; rfl
theorem loopC_done {x:σ} {t:τ} (h:f x=some (.done t)):loopC f x=some t:=by rw[loopC_eq,h]; rfl
theorem loopC_fun (I:σ→Prop) (μ:σ→Nat) (g:σ→τ) (h:∀ x,I x→f x=some (.done (g x))∨∃ y,f x=some (.next y)∧I y∧μ y < μ x∧g y=g x) {x:σ} (hx:I x):loopC f x=some (g x):=by
  have key:∀ n x,I x→μ x≤n→loopC f x=some (g x):=by
    intro n
    induction n with
    | zero=>
      intro x hx hn
      rcases h x hx with h1 | ⟨y,_,_,h3,_⟩
      · exact loopC_done h1
      · omega
    | succ n ih=>
      intro x hx hn
      rcases h x hx with h1 | ⟨y,h1,h2,h3,h4⟩
      · exact loopC_done h1
      · rw[loopC_next h1,ih y h2 (by omega),h4]
  exact key _ x hx (Nat.le_refl _)
theorem loopC_inv (I:σ→Prop) (μ:σ→Nat) (P:τ→Prop) (h:∀ x,I x→(∃ t,f x=some (.done t)∧P t)∨∃ y,f x=some (.next y)∧I y∧μ y < μ x) {x:σ} (hx:I x):∃ t,loopC f x=some t∧P t:=by
  have key:∀ n x,I x→μ x≤n→∃ t,loopC f x=some t∧P t:=by
    intro n
    induction n with
    | zero=>
      intro x hx hn
      rcases h x hx with ⟨t,h1,h2⟩ | ⟨y,_,_,h3⟩
      · exact⟨t,loopC_done h1,h2⟩
      · omega
    | succ n ih=>
      intro x hx hn
      rcases h x hx with ⟨t,h1,h2⟩ | ⟨y,h1,h2,h3⟩
      · exact⟨t,loopC_done h1,h2⟩
      · rw[loopC_next h1]
        exact ih y h2 (by omega)
  exact key _ x hx (Nat.le_refl _)
end
theorem w64_id {x:Int} (h1 : -9223372036854775808≤x) (h2:x≤9223372036854775807):w64 x=x:=i64_id h1 h2
theorem ixl_nat {α:Type} {l:List α} {i:Nat} (h:i < l.length):ixl l (i:Int)=some l[i]:=by
  unfold ixl
  rw[if_pos (by omega),Int.toNat_natCast,List.getElem?_eq_getElem h]
theorem subl_nat {α:Type} {l:List α} {i j:Nat} (h1:i≤j) (h2:j≤l.length):subl l (i:Int) (j:Int)=some ((l.drop i).take (j - i)):=by
  unfold subl
  rw[if_pos ⟨by omega,by omega,by omega⟩]
  rfl
theorem subl_drop {α:Type} {l:List α} {i:Nat} (h:i≤l.length):subl l (i:Int) (l.length:Int)=some (l.drop i):=by
  rw[subl_nat h (Nat.le_refl _),List.take_of_length_le (by simp)]
theorem app_ok {α:Type} {b:Nat} {l m:List α} (h1:(l.length + m.length) * b≤140737488355328) (h2:l.length + m.length≤9223372036854775807):app b l m=some (l ++ m):=by
  unfold app; rw[if_pos ⟨h1,h2⟩]
end Go.Vm
/- Plain laws of chapter 26: what follows by units. -/
namespace Go.Vm
open Go
theorem w64_n (i:Nat) (h:i≤9223372036854775806):w64 ((i:Int) + 1)=((i + 1:Nat):Int):=by rw[w64_id (by omega) (by omega)]; rfl
def goodB (x:Int):Bool:=decide (x≠0) && decide (-4096≤x) && decide (x≤4096)
theorem goodB_iff {x:Int}:goodB x=true↔x≠0 ∧ -4096≤x∧x≤4096:=by
  unfold goodB
  simp only[Bool.and_eq_true,decide_eq_true_eq,and_assoc]
theorem goodB_neg {x:Int} (h:goodB x=true):goodB (-x)=true:=by
  rw[goodB_iff] at h ⊢
  omega
theorem literal_eq (x:Int):prop_literal x=some (goodB x):=by
  unfold prop_literal
  congr 1
  rw[Bool.eq_iff_iff,goodB_iff]
  simp only[Bool.and_eq_true,decide_eq_true_eq,bne_iff_ne]
  omega
theorem size_eq26 {x:Int} (h:goodB x=true):prop_size x=some (x.natAbs:Int):=by
  rw[goodB_iff] at h
  unfold prop_size
  rw[w64_id (x:=0 - x) (by omega) (by omega)]
  congr 1
  split <;> omega
def tV (V:List Int) (x:Int):Int:=if x < 0 then - V.getD x.natAbs 0 else V.getD x.natAbs 0
structure Sheet (V:List Int):Prop where
  len:V.length=4097
  val:∀ k,V.getD k 0=0∨V.getD k 0=1∨V.getD k 0 = -1
theorem tV_neg (V:List Int) {x:Int} (h:x≠0):tV V (-x) = - tV V x:=by
  unfold tV
  rw[Int.natAbs_neg]
  by_cases hx:x < 0
  · rw[if_pos hx,if_neg (by omega)]; omega
  · rw[if_neg hx,if_pos (by omega)]
theorem tV_val {V:List Int} (h:Sheet V) (x:Int):tV V x=0∨tV V x=1∨tV V x = -1:=by
  have:=h.val x.natAbs
  unfold tV
  split <;> omega
theorem ixA_nat {α:Type} {m:Nat} {l:List α} {d:α} {k:Nat} (hl:l.length=m) (hk:k < m):ixA m l (k:Int)=some (l.getD k d):=by
  unfold ixA
  rw[if_pos hl,ixl_nat (by omega)]
  simp[List.getD,show k < l.length by omega]
theorem of_eq {V:List Int} (h:Sheet V) (l:List S_api_Deduced) {x:Int} (hx:goodB x=true):prop_sheet_of V l x=some (tV V x):=by
  unfold prop_sheet_of
  rw[size_eq26 hx]
  rw[goodB_iff] at hx
  simp only[Option.bind_some]
  rw[ixA_nat (d:=0) h.len (by omega)]
  simp only[Option.bind_some]
  have hv:=h.val x.natAbs
  rw[w64_id (x:=V.getD x.natAbs 0) (by omega) (by omega),w64_id (by omega) (by omega)]
  unfold tV
  by_cases hx0:x < 0
  · rw[if_pos (by simpa using hx0),if_pos hx0]; congr 1; omega
  · rw[if_neg (by simpa using hx0),if_neg hx0]
def upV (V:List Int) (x:Int):List Int:=V.set x.natAbs (if x < 0 then -1 else 1)
theorem upV_getD {V:List Int} (h:V.length=4097) {x:Int} (hx:goodB x=true) (k:Nat):(upV V x).getD k 0=if k=x.natAbs then (if x < 0 then -1 else 1) else V.getD k 0:=by
  rw[goodB_iff] at hx
  unfold upV
  rw[List.getD_eq_getElem?_getD,List.getD_eq_getElem?_getD,List.getElem?_set]
  by_cases e:x.natAbs=k
  · rw[if_pos e,if_pos (by omega),if_pos e.symm]; rfl
  · rw[if_neg e,if_neg (fun q=>e q.symm)]
theorem sheet_up {V:List Int} (h:Sheet V) {x:Int} (hx:goodB x=true):Sheet (upV V x):=by
  refine⟨by unfold upV; rw[List.length_set]; exact h.len,fun k=>?_⟩
  rw[upV_getD h.len hx]
  have:=h.val k
  split
  · split <;> omega
  · exact this
theorem tV_up {V:List Int} (h:V.length=4097) {x:Int} (hx:goodB x=true) (y:Int):tV (upV V x) y=if y=x then 1 else if y = -x then -1 else tV V y:=by
  have hx':=goodB_iff.1 hx
  unfold tV
  rw[upV_getD h hx]
  by_cases e1:y=x
  · subst e1
    rw[if_pos rfl,if_pos rfl]
    split <;> omega
  · rw[if_neg e1]
    by_cases e2:y = -x
    · have e3:y.natAbs=x.natAbs:=by omega
      rw[if_pos e2]
      simp only[e3,if_true]
      split <;> split <;> omega
    · have e3:¬ y.natAbs=x.natAbs:=by omega
      rw[if_neg e2]
      simp only[e3,if_false]
theorem set_eq26 {V:List Int} (h:Sheet V) {l:List S_api_Deduced} (hl:l.length≤1048576) {x:Int} (hx:goodB x=true) (r:Int):prop_sheet_set V l x r=some (upV V x,l ++ [⟨x,r⟩]):=by
  unfold prop_sheet_set
  rw[size_eq26 hx]
  have hx':=goodB_iff.1 hx
  simp only[Option.bind_some]
  rw[ixA_nat (d:=0) h.len (by omega)]
  simp only[Option.bind_some,Int.toNat_natCast]
  rw[ixA_nat (d:=0) (by rw[List.length_set]; exact h.len) (by omega)]
  simp only[Option.bind_some,List.set_set]
  have:(if decide (x < 0)=true then some (V.set x.natAbs (-1)) else some (V.set x.natAbs 1):Option (List Int))=some (upV V x):=by
    unfold upV
    by_cases e:x < 0
    · rw[if_pos (by simpa using e),if_pos e]
    · rw[if_neg (by simpa using e),if_neg e]
  rw[this]
  simp only[Option.bind_some]
  have hlen:lenA 4097 (upV V x)=some ():=by
    unfold lenA
    rw[if_pos (sheet_up h hx).len]
  rw[hlen]
  simp only[Option.bind_some]
  rw[app_ok (by simp only[List.length_singleton]; omega) (by simp only[List.length_singleton]; omega)]
  rfl
structure Board (V:List Int) (B:List Bool):Prop where
  len:B.length=8193
  is:∀ x,goodB x=true→B.getD (x + 4096).toNat false=decide (tV V x=1)
def upB (B:List Bool) (x:Int):List Bool:=List.set B (Int.toNat (w64 (x + 4096))) true
theorem board_up {V:List Int} {B:List Bool} (hS:Sheet V) (h:Board V B) {x:Int} (hx:goodB x=true) (h0:tV V x=0):Board (upV V x) (upB B x):=by
  have hx':=goodB_iff.1 hx
  have hw:w64 (x + 4096)=x + 4096:=w64_id (by omega) (by omega)
  refine⟨by unfold upB; rw[List.length_set]; exact h.len,fun y hy=>?_⟩
  have hy':=goodB_iff.1 hy
  have e1:(upB B x).getD (y + 4096).toNat false=if y=x then true else B.getD (y + 4096).toNat false:=by
    unfold upB
    rw[hw,List.getD_eq_getElem?_getD,List.getD_eq_getElem?_getD,List.getElem?_set]
    by_cases e:y=x
    · subst e
      have:=h.len
      rw[if_pos rfl,if_pos (by omega),if_pos rfl]; rfl
    · rw[if_neg (by omega),if_neg e]
  rw[e1,tV_up hS.len hx,h.is y hy]
  by_cases e:y=x
  · rw[if_pos e,if_pos e]; rfl
  · rw[if_neg e,if_neg e]
    by_cases e2:y = -x
    · rw[if_pos e2,e2,tV_neg V hx'.1,h0]; rfl
    · rw[if_neg e2]
def scanU (t:Int→Int):Int→List Int→Option Int
  | u,[]=>some u
  | u,x :: c=>if t x=0 then (if u≠0∧u≠x then none else scanU t x c) else scanU t u c
theorem scanU_cons (t:Int→Int) (u x:Int) (c:List Int):scanU t u (x :: c)=if t x=0 then (if u≠0∧u≠x then none else scanU t x c) else scanU t u c:=rfl
def trueB (V:List Int) (c:List Int):Bool:=c.any fun x=>!goodB x || decide (tV V x=1)
def clS (V:List Int) (c:List Int):Option Int:=if trueB V c=true then none else scanU (tV V) 0 c
theorem look_eq {V:List Int} (h:Sheet V) (l:List S_api_Deduced) (c:List Int) (hc:c.length≤1048576):prop_sheet_look V l c=some (match clS V c with | none=>(false,0) | some u=>(u == 0,u)):=by
  unfold prop_sheet_look
  have h1:=loopC_fun (f:=prop_sheet_look_l1 V l c) (fun x=>∃ i:Nat,x=i∧i≤c.length) (fun x=>c.length - x.toNat) (fun x=>cond (trueB V (c.drop x.toNat)) (Sum.inl ()) (Sum.inr ())) (fun x hx=>by
    obtain⟨i,rfl,hi⟩:=hx
    unfold prop_sheet_look_l1
    simp only[Int.toNat_natCast]
    rcases Nat.lt_or_ge i c.length with hlt | hge
    · rw[if_pos (by simpa using hlt),ixl_nat hlt]
      simp only[Option.bind_some,literal_eq]
      rw[List.drop_eq_getElem_cons hlt]
      unfold trueB
      simp only[List.any_cons]
      cases hg:goodB c[i] with
      | false=>
        left
        rfl
      | true=>
        simp only[Bool.not_true,Bool.false_eq_true,if_false,Bool.false_or]
        rw[of_eq h l hg]
        simp only[Option.bind_some]
        have hv:=tV_val h c[i]
        by_cases e:tV V c[i]=1
        · left
          rw[if_pos (by rw[decide_eq_true_eq]; omega),decide_eq_true e]
          rfl
        · right
          rw[if_neg (by rw[decide_eq_true_eq]; omega),decide_eq_false e,w64_n i (by omega)]
          refine⟨_,rfl,⟨i + 1,rfl,hlt⟩,by omega,?_⟩
          simp only[Int.toNat_natCast,Bool.false_or]
    · left
      rw[if_neg (by simp; omega),List.drop_of_length_le hge]
      rfl) (x:=0) ⟨0,rfl,Nat.zero_le _⟩
  rw[h1]
  simp only[Int.toNat_zero,List.drop_zero,Option.bind_some]
  unfold clS
  cases htb:trueB V c with
  | true=>rfl
  | false=>
    simp only[cond_false,Bool.false_eq_true,if_false]
    have hall:∀ x∈c,goodB x=true:=fun x hx=>by
      unfold trueB at htb
      have:=List.any_eq_false.1 htb x hx
      cases hg:goodB x with
      | true=>rfl
      | false=>simp[hg] at this
    have h2:=loopC_fun (f:=prop_sheet_look_l2 V l c) (fun x=>∃ i:Nat,x.2=i∧i≤c.length) (fun x=>c.length - x.2.toNat) (fun x=>(match scanU (tV V) x.1 (c.drop x.2.toNat) with | none=>Sum.inl () | some u=>Sum.inr u:Unit ⊕ Int)) (fun x hx=>by
      obtain⟨u,z⟩:=x
      obtain⟨i,e,hi⟩:=hx
      simp only at e
      subst e
      unfold prop_sheet_look_l2
      simp only[Int.toNat_natCast]
      rcases Nat.lt_or_ge i c.length with hlt | hge
      · rw[if_pos (by simpa using hlt),ixl_nat hlt]
        simp only[Option.bind_some]
        rw[of_eq h l (hall _ (List.getElem_mem _))]
        simp only[Option.bind_some]
        rw[List.drop_eq_getElem_cons hlt,w64_n i (by omega),scanU_cons]
        by_cases e:tV V c[i]=0
        · rw[if_pos e,e]
          by_cases e2:u≠0∧u≠c[i]
          · left
            rw[if_pos e2,if_pos (by simp[e2.1,e2.2])]
            rfl
          · right
            rw[if_neg e2,if_neg (by
              intro q
              simp only[Bool.and_eq_true,bne_iff_ne] at q
              exact e2 ⟨q.1.2,q.2⟩)]
            exact⟨_,rfl,⟨i + 1,rfl,hlt⟩,by simp only[Int.toNat_natCast]; omega,by simp only[Int.toNat_natCast]⟩
        · right
          have eb:(tV V c[i] == 0)=false:=by simpa using e
          rw[if_neg e,eb]
          exact⟨_,rfl,⟨i + 1,rfl,hlt⟩,by simp only[Int.toNat_natCast]; omega,by simp only[Int.toNat_natCast]⟩
      · left
        rw[if_neg (by simp; omega),List.drop_of_length_le hge]
        rfl) (x:=(0,(0:Int))) ⟨0,rfl,Nat.zero_le _⟩
    rw[h2]
    simp only[Int.toNat_zero,List.drop_zero,Option.bind_some]
    cases scanU (tV V) 0 c <;> rfl
end Go.Vm
/- Plain laws of chapter 26: the two runs are one. -/
namespace Go.Vm
open Go
theorem lenA_ok {α:Type} {m:Nat} {l:List α} (h:l.length=m):lenA m l=some ():=by
  unfold lenA
  rw[if_pos h]
theorem count_up {V:List Int} (h:Sheet V) {x:Int} (hx:goodB x=true) (h0:tV V x=0):(upV V x).count 0 + 1=V.count 0:=by
  have hx':=goodB_iff.1 hx
  have hk:x.natAbs < V.length:=by rw[h.len]; omega
  have hv:V.getD x.natAbs 0=0:=by
    unfold tV at h0
    split at h0 <;> omega
  have hv2:V[x.natAbs]=0:=by
    rw[List.getD_eq_getElem?_getD,List.getElem?_eq_getElem hk] at hv
    exact hv
  have hc:0 < V.count 0:=List.count_pos_iff.2 (hv2 ▸ List.getElem_mem hk)
  unfold upV
  rw[List.count_set hk,hv2]
  have:((if x < 0 then (-1:Int) else 1) == 0)=false:=by split <;> rfl
  rw[this]
  simp
  omega
structure Bth (V:List Int) (B:List Bool) (l:List S_api_Deduced):Prop where
  s:Sheet V
  b:Board V B
  n:l.length + V.count 0≤4097
theorem Bth.up {V:List Int} {B:List Bool} {l:List S_api_Deduced} (h:Bth V B l) {x r:Int} (hx:goodB x=true) (h0:tV V x=0):Bth (upV V x) (upB B x) (l ++ [⟨x,r⟩]):=
  ⟨sheet_up h.s hx,board_up h.s h.b hx h0,by
    have:=h.n
    have:=count_up h.s hx h0
    simp only[List.length_append,List.length_singleton]
    omega⟩
theorem bth0:Bth (List.replicate 4097 0) (List.replicate 8193 false) []:=by
  have hz:∀ k,(List.replicate 4097 (0:Int)).getD k 0=0:=fun k=>by
    rw[List.getD_eq_getElem?_getD,List.getElem?_replicate]
    split <;> rfl
  refine⟨⟨List.length_replicate,fun k=>.inl (hz k)⟩,⟨List.length_replicate,fun x hx=>?_⟩,by rw[List.count_replicate_self]; exact Nat.le_refl _⟩
  rw[List.getD_eq_getElem?_getD,List.getElem?_replicate]
  have:tV (List.replicate 4097 0) x=0:=by
    unfold tV
    rw[hz]
    split <;> rfl
  rw[this]
  split <;> rfl
end Go.Vm
/- Plain laws of chapter 26: PropRuns. -/
namespace Go.Vm
open Go
theorem few_eq (a:List (List Int)) (h:a.length≤1048576):law26_few a=some (a.take 60):=by
  unfold law26_few subl
  by_cases e:60 < (a.length:Int)
  · rw[if_pos e,if_pos (by omega)]
    simp
  · rw[if_neg e,if_pos (by omega)]
    simp only[Option.bind_some,Int.toNat_natCast,Int.toNat_zero,List.drop_zero,Nat.sub_zero,List.take_length]
    rw[List.take_of_length_le (by omega)]
theorem sub30 (a:List Int) (h:a.length≤1048576):subl a 0 (if 30 < (a.length:Int) then 30 else (a.length:Int))=some (a.take 30):=by
  unfold subl
  by_cases e:30 < (a.length:Int)
  · rw[if_pos e,if_pos (by omega)]
    simp
  · rw[if_neg e,if_pos (by omega)]
    simp only[Int.toNat_natCast,Int.toNat_zero,List.drop_zero,Nat.sub_zero,List.take_length]
    rw[List.take_of_length_le (by omega)]
theorem ints_refl26 (v:List Int) (hv:v.length≤1048576):ref26_Ints v v=some true:=by
  unfold ref26_Ints
  rw[if_neg (by simp)]
  have:=loopC_fun (f:=ref26_Ints_l1 v v) (fun x=>∃ i:Nat,x=i∧i≤v.length) (fun x=>v.length - x.toNat) (fun _=>Sum.inr ()) (fun x hx=>by
    obtain⟨i,rfl,hi⟩:=hx
    unfold ref26_Ints_l1
    rcases Nat.lt_or_ge i v.length with h | h
    · right
      rw[if_pos (by simpa using h),ixl_nat h]
      simp only[Option.bind_some]
      rw[if_neg (by simp),w64_n i (by omega)]
      exact⟨_,rfl,⟨i + 1,rfl,h⟩,by omega,by first | trivial | rfl⟩
    · left
      rw[if_neg (by simp; omega)]) (x:=0) ⟨0,rfl,Nat.zero_le _⟩
  rw[this]
  rfl
theorem lits_eq (v:List S_api_Deduced) (hv:v.length≤1048576):prop_Lits v=some (v.map fun d=>d.Lit):=by
  unfold prop_Lits
  have h1:=loopC_fun (f:=prop_Lits_l1 v) (fun x=>∃ i:Nat,x.2=i∧i≤v.length∧x.1.length=i) (fun x=>v.length - x.2.toNat) (fun x=>x.1 ++ (v.drop x.2.toNat).map fun d=>d.Lit) (fun x hx=>by
    obtain⟨acc,z⟩:=x
    obtain⟨i,e,hi,hacc⟩:=hx
    simp only at e hacc
    subst e
    unfold prop_Lits_l1
    simp only[Int.toNat_natCast]
    rcases Nat.lt_or_ge i v.length with h | h
    · right
      rw[if_pos (by simpa using h),ixl_nat h]
      simp only[Option.bind_some]
      rw[app_ok (by simp only[List.length_singleton]; omega) (by simp only[List.length_singleton]; omega),w64_n i (by omega)]
      refine⟨_,rfl,⟨i + 1,rfl,h,by simp[hacc]⟩,by simp only[Int.toNat_natCast]; omega,?_⟩
      simp only[Int.toNat_natCast]
      rw[List.drop_eq_getElem_cons h,List.map_cons,List.append_assoc]
      rfl
    · left
      rw[if_neg (by simp; omega),List.drop_of_length_le h]
      simp) (x:=(([]:List Int),(0:Int))) ⟨0,rfl,Nat.zero_le _,rfl⟩
  rw[h1]
  simp
theorem row_len {s:List (List Int)} (ms:((s.map fun y=>((y.map fun y=>1).sum + 1)).sum + 1)≤1048576):s.length≤1048576∧∀ c∈s,c.length≤1048576:=by
  have key:∀ s:List (List Int),s.length≤(s.map fun y=>((y.map fun y=>1).sum + 1)).sum∧∀ c∈s,c.length≤(s.map fun y=>((y.map fun y=>1).sum + 1)).sum:=by
    intro s
    induction s with
    | nil=>exact⟨Nat.le_refl _,fun c hc=>by cases hc⟩
    | cons x s ih=>
      have hx:(x.map fun _=>1).sum=x.length:=by simp[List.map_const',List.sum_replicate_nat]
      simp only[List.map_cons,List.sum_cons,List.length_cons,hx]
      refine⟨by have:=ih.1; omega,fun c hc=>?_⟩
      rcases List.mem_cons.1 hc with rfl | hc
      · omega
      · have:=ih.2 c hc
        omega
  obtain⟨h1,h2⟩:=key s
  exact⟨by omega,fun c hc=>by have:=h2 c hc; omega⟩
end Go.Vm
/- Plain laws of chapter 26: what a run tells, whole. -/
set_option linter.unusedSectionVars false
namespace Go.Vm
open Go
def valS:List S_api_Deduced→Int→Int
  | [],_=>0
  | d :: v,x=>if d.Lit=x then 1 else if d.Lit=w64 (0 - x) then -1 else valS v x
def rightS (cls:List (List Int)) (v:List S_api_Deduced) (d:S_api_Deduced):Bool:=
  goodB d.Lit && (valS v d.Lit == 0) && (d.Reason == -1 || (decide (0≤d.Reason) && decide (d.Reason < (cls.length:Int)) && (cls.getD d.Reason.toNat []).any (fun x=>d.Lit == x) && (cls.getD d.Reason.toNat []).all (fun x=>x == d.Lit || valS v x == -1)))
def rightA (cls:List (List Int)):List S_api_Deduced→List S_api_Deduced→Bool
  | _,[]=>true
  | v,d :: l=>rightS cls v d && rightA cls (v ++ [d]) l
theorem rightA_snoc (cls:List (List Int)):∀ (l v:List S_api_Deduced) (d:S_api_Deduced),rightA cls v (l ++ [d])=(rightA cls v l && rightS cls (v ++ l) d)
  | [],v,d=>by simp[rightA]
  | e :: l,v,d=>by
    simp only[List.cons_append,rightA]
    rw[rightA_snoc cls l (v ++ [e]) d,Bool.and_assoc,List.append_assoc]
    rfl
structure Link (V:List Int) (l:List S_api_Deduced):Prop where
  s:Sheet V
  t:∀ d∈l,goodB d.Lit=true∧tV V d.Lit=1
  u:∀ y,goodB y=true→tV V y=1→∃ d∈l,d.Lit=y
  n:(l.map fun d=>d.Lit.natAbs).Nodup
  c:l.length + V.count 0≤4097
theorem Link.up {V:List Int} {l:List S_api_Deduced} (h:Link V l) {x:Int} (hx:goodB x=true) (h0:tV V x=0) (r:Int):Link (upV V x) (l ++ [⟨x,r⟩]):=by
  have hx0:=(goodB_iff.1 hx).1
  have hne:∀ d∈l,d.Lit≠x∧d.Lit ≠ -x:=fun d hd=>by
    have ht:=(h.t d hd).2
    refine⟨fun e=>?_,fun e=>?_⟩
    · rw[e,h0] at ht; exact absurd ht (by decide)
    · rw[e,tV_neg V hx0,h0] at ht; exact absurd ht (by decide)
  refine⟨sheet_up h.s hx,fun d hd=>?_,fun y hy ht=>?_,?_,?_⟩
  · rcases List.mem_append.1 hd with hd | hd
    · obtain⟨g1,g2⟩:=h.t d hd
      obtain⟨n1,n2⟩:=hne d hd
      refine⟨g1,?_⟩
      rw[tV_up h.s.len hx,if_neg n1,if_neg n2]
      exact g2
    · rw[List.mem_singleton.1 hd]
      refine⟨hx,?_⟩
      rw[tV_up h.s.len hx,if_pos rfl]
  · rw[tV_up h.s.len hx] at ht
    split at ht
    · rename_i e
      exact⟨⟨x,r⟩,List.mem_append.2 (.inr (List.mem_singleton.2 rfl)),e.symm⟩
    · split at ht
      · exact absurd ht (by decide)
      · obtain⟨d,hd,e⟩:=h.u y hy ht
        exact⟨d,List.mem_append.2 (.inl hd),e⟩
  · rw[List.map_append,List.nodup_append]
    refine⟨h.n,by simp,fun a ha b hb=>?_⟩
    obtain⟨d,hd,rfl⟩:=List.mem_map.1 ha
    simp only[List.map_cons,List.map_nil,List.mem_singleton] at hb
    subst hb
    obtain⟨n1,n2⟩:=hne d hd
    omega
  · have:=h.c
    have:=count_up h.s hx h0
    simp only[List.length_append,List.length_singleton]
    omega
theorem w64_neg {x:Int} (h:goodB x=true):w64 (0 - x) = -x:=by
  have:=goodB_iff.1 h
  rw[w64_id (by omega) (by omega)]
  omega
theorem valS_mem {l:List S_api_Deduced} {x:Int}:(valS l x=1→∃ d∈l,d.Lit=x)∧(valS l x = -1→∃ d∈l,d.Lit=w64 (0 - x))∧(valS l x=0→∀ d∈l,d.Lit≠x∧d.Lit≠w64 (0 - x))∧(valS l x=1∨valS l x = -1∨valS l x=0):=by
  induction l with
  | nil=>
    refine⟨fun h=>?_,fun h=>?_,fun _ d hd=>(by cases hd),.inr (.inr rfl)⟩ <;> exact absurd h (by simp[valS])
  | cons d l ih=>
    unfold valS
    split
    · rename_i e
      refine⟨fun _=>⟨d,List.mem_cons_self ..,e⟩,fun h=>absurd h (by decide),fun h=>absurd h (by decide),.inl rfl⟩
    · rename_i e
      split
      · rename_i e2
        refine⟨fun h=>absurd h (by decide),fun _=>⟨d,List.mem_cons_self ..,e2⟩,fun h=>absurd h (by decide),.inr (.inl rfl)⟩
      · rename_i e2
        obtain⟨h1,h2,h3,h4⟩:=ih
        refine⟨fun h=>?_,fun h=>?_,fun h d' hd=>?_,h4⟩
        · obtain⟨d',hd,q⟩:=h1 h; exact⟨d',List.mem_cons_of_mem _ hd,q⟩
        · obtain⟨d',hd,q⟩:=h2 h; exact⟨d',List.mem_cons_of_mem _ hd,q⟩
        · rcases List.mem_cons.1 hd with rfl | hd
          · exact⟨e,e2⟩
          · exact h3 h d' hd
theorem valS_link {V:List Int} {l:List S_api_Deduced} (h:Link V l) {x:Int} (hx:goodB x=true):valS l x=tV V x:=by
  have hx0:=(goodB_iff.1 hx).1
  obtain⟨h1,h2,h3,h4⟩:=valS_mem (l:=l) (x:=x)
  rw[w64_neg hx] at h2 h3
  rcases h4 with e | e | e
  · obtain⟨d,hd,q⟩:=h1 e
    rw[e,← q,(h.t d hd).2]
  · obtain⟨d,hd,q⟩:=h2 e
    have:=(h.t d hd).2
    rw[q,tV_neg V hx0] at this
    omega
  · rw[e]
    rcases tV_val h.s x with t | t | t
    · exact t.symm
    · obtain⟨d,hd,q⟩:=h.u x hx t
      exact absurd q (h3 e d hd).1
    · obtain⟨d,hd,q⟩:=h.u (-x) (goodB_neg hx) (by rw[tV_neg V hx0,t]; rfl)
      exact absurd q (h3 e d hd).2
theorem scanU_inv {t:Int→Int}:∀ (c:List Int) (u v:Int),(∀ x∈c,x≠0)→scanU t u c=some v→(u≠0→v=u)∧(∀ x∈c,t x=0→x=v)∧(v=u∨(v∈c∧t v=0))
  | [],u,v,_,h=>by
    cases h
    exact⟨fun _=>rfl,fun x hx=>(by cases hx),.inl rfl⟩
  | y :: c,u,v,hz,h=>by
    rw[scanU_cons] at h
    have hr:=fun x hx=>hz x (List.mem_cons_of_mem y hx)
    have hy:=hz y (List.mem_cons_self ..)
    split at h
    · rename_i e
      split at h
      · cases h
      · rename_i e2
        obtain⟨h1,h2,h3⟩:=scanU_inv c y v hr h
        have hv:=h1 hy
        refine⟨fun hu=>?_,fun x hx ht=>?_,.inr ?_⟩
        · have:u=y:=Classical.byContradiction fun q=>e2 ⟨hu,q⟩
          rw[hv,this]
        · rcases List.mem_cons.1 hx with rfl | hx
          · exact hv.symm
          · exact h2 x hx ht
        · rw[hv]; exact⟨List.mem_cons_self ..,e⟩
    · rename_i e
      obtain⟨h1,h2,h3⟩:=scanU_inv c u v hr h
      refine⟨h1,fun x hx ht=>?_,?_⟩
      · rcases List.mem_cons.1 hx with rfl | hx
        · exact absurd ht e
        · exact h2 x hx ht
      · rcases h3 with h3 | ⟨h3,h4⟩
        · exact .inl h3
        · exact .inr ⟨List.mem_cons_of_mem _ h3,h4⟩
theorem clS_some {V:List Int} (hS:Sheet V) {c:List Int} {v:Int} (h:clS V c=some v):(∀ x∈c,goodB x=true)∧(∀ x∈c,x≠v→tV V x = -1)∧(v=0∨(v∈c∧tV V v=0)):=by
  unfold clS at h
  split at h
  · cases h
  · rename_i ht
    have hn:∀ x∈c,goodB x=true∧tV V x≠1:=fun x hx=>by
      unfold trueB at ht
      rw[List.any_eq_true] at ht
      have:¬((!goodB x || decide (tV V x=1))=true):=fun e=>ht ⟨x,hx,e⟩
      simpa using this
    obtain⟨h1,h2,h3⟩:=scanU_inv c 0 v (fun x hx=>(goodB_iff.1 (hn x hx).1).1) h
    refine⟨fun x hx=>(hn x hx).1,fun x hx hne=>?_,h3⟩
    have:=(hn x hx).2
    rcases tV_val hS x with e | e | e
    · exact absurd (h2 x hx e) hne
    · exact absurd e this
    · exact e
theorem step_spec {V:List Int} (hS:Sheet V) (l:List S_api_Deduced) (cls:List (List Int)) (hn:cls.length≤1048576) (hl:∀ c∈cls,c.length≤1048576) :
    (∃ (i:Nat) (r q:Int),loopC (prop_Run_l2 cls V l) (0, -1,0)=some (Sum.inl ((i:Int),r,q))∧∃ h:i < cls.length,clS V cls[i]=some 0) ∨
    (∃ q,loopC (prop_Run_l2 cls V l) (0, -1,0)=some (Sum.inr (-1,q))∧∀ c∈cls,clS V c=none) ∨
    ∃ (j:Nat) (q:Int),loopC (prop_Run_l2 cls V l) (0, -1,0)=some (Sum.inr ((j:Int),q))∧q≠0∧∃ h:j < cls.length,clS V cls[j]=some q:=by
  obtain⟨t,h1,h2⟩:=loopC_inv (f:=prop_Run_l2 cls V l) (fun x=>∃ i:Nat,x.1=(i:Int)∧i≤cls.length∧((x.2.1 = -1∧∀ c∈cls.take i,clS V c=none)∨∃ j:Nat,x.2.1=(j:Int)∧x.2.2≠0∧∃ h:j < cls.length,clS V cls[j]=some x.2.2)) (fun x=>cls.length - x.1.toNat)
    (fun t=>(∃ (i:Nat) (r q:Int),t=Sum.inl ((i:Int),r,q)∧∃ h:i < cls.length,clS V cls[i]=some 0)∨(∃ q,t=Sum.inr (-1,q)∧∀ c∈cls,clS V c=none)∨∃ (j:Nat) (q:Int),t=Sum.inr ((j:Int),q)∧q≠0∧∃ h:j < cls.length,clS V cls[j]=some q) (fun x hx=>by
    obtain⟨z,r,q⟩:=x
    obtain⟨i,e,hi,hok⟩:=hx
    simp only at e hok
    subst e
    unfold prop_Run_l2
    simp only[]
    rcases Nat.lt_or_ge i cls.length with hlt | hge
    · have hm:=List.getElem_mem hlt
      rw[if_pos (by simpa using hlt),ixl_nat hlt]
      simp only[Option.bind_some]
      rw[look_eq hS l _ (hl _ hm),w64_n i (by omega)]
      have tk:∀ c∈cls.take (i + 1),c∈cls.take i∨c=cls[i]:=fun c hc=>by
        rw[List.take_succ_eq_append_getElem hlt] at hc
        rcases List.mem_append.1 hc with hc | hc
        · exact .inl hc
        · exact .inr (List.mem_singleton.1 hc)
      cases hcs:clS V cls[i] with
      | none=>
        right
        refine⟨(((i + 1:Nat):Int),r,q),rfl,⟨i + 1,rfl,hlt,?_⟩,by simp only[Int.toNat_natCast]; omega⟩
        rcases hok with ⟨k1,k2⟩ | hok
        · refine .inl ⟨k1,fun c hc=>?_⟩
          rcases tk c hc with hc | rfl
          · exact k2 c hc
          · exact hcs
        · exact .inr hok
      | some v=>
        by_cases hv:v=0
        · subst hv
          left
          simp only[Option.bind_some,beq_self_eq_true,Bool.true_or,if_true,lenA_ok hS.len]
          exact⟨_,rfl,.inl ⟨i,r,q,rfl,hlt,hcs⟩⟩
        · right
          have hu:(v == 0)=false:=by simpa using hv
          have hu2:(v != 0)=true:=by simpa using hv
          simp only[Option.bind_some,hu,hu2,Bool.false_or,if_true,Bool.false_eq_true,if_false]
          rcases hok with ⟨k1,k2⟩ | ⟨j,k1,k2,k3⟩
          · subst k1
            exact⟨(((i + 1:Nat):Int),(i:Int),v),by simp,⟨i + 1,rfl,hlt,.inr ⟨i,rfl,hv,hlt,hcs⟩⟩,by simp only[Int.toNat_natCast]; omega⟩
          · subst k1
            have:decide ((j:Int) < 0)=false:=by rw[decide_eq_false_iff_not]; omega
            exact⟨(((i + 1:Nat):Int),(j:Int),q),by simp[this],⟨i + 1,rfl,hlt,.inr ⟨j,rfl,k2,k3⟩⟩,by simp only[Int.toNat_natCast]; omega⟩
    · left
      rw[if_neg (by simp; omega)]
      refine⟨_,rfl,?_⟩
      rcases hok with ⟨k1,k2⟩ | ⟨j,k1,k2,k3⟩
      · subst k1
        rw[List.take_of_length_le hge] at k2
        exact .inr (.inl ⟨q,rfl,k2⟩)
      · subst k1
        exact .inr (.inr ⟨j,q,rfl,k2,k3⟩)) (x:=((0:Int),(-1:Int),(0:Int))) ⟨0,rfl,Nat.zero_le _,.inl ⟨rfl,fun c hc=>by simp at hc⟩⟩
  rcases h2 with ⟨i,r,q,rfl,h2⟩ | ⟨q,rfl,h2⟩ | ⟨j,q,rfl,h2⟩
  · exact .inl ⟨i,r,q,h1,h2⟩
  · exact .inr (.inl ⟨q,h1,h2⟩)
  · exact .inr (.inr ⟨j,q,h1,h2⟩)
theorem clS_right {V:List Int} {l:List S_api_Deduced} (h:Link V l) {cls:List (List Int)} {j:Nat} {q:Int} (hj:j < cls.length) (hq:q≠0) (hc:clS V cls[j]=some q):goodB q=true∧tV V q=0∧rightS cls l ⟨q,(j:Int)⟩=true:=by
  obtain⟨h1,h2,h3⟩:=clS_some h.s hc
  obtain⟨h4,h5⟩:=h3.resolve_left hq
  have hg:=h1 q h4
  refine⟨hg,h5,?_⟩
  have hd:cls.getD (j:Int).toNat []=cls[j]:=by simp[List.getD,hj]
  unfold rightS
  rw[hd]
  simp only[hg,valS_link h hg,h5,Bool.true_and,beq_self_eq_true,Bool.or_eq_true,Bool.and_eq_true,decide_eq_true_eq]
  refine .inr ⟨⟨⟨by omega,by omega⟩,?_⟩,?_⟩
  · rw[List.any_eq_true]; exact⟨q,h4,by simp⟩
  · rw[List.all_eq_true]
    intro x hx
    by_cases e:x=q
    · simp[e]
    · simp[valS_link h (h1 x hx),h2 x hx e]
end Go.Vm
/- Plain laws of chapter 26: what a run tells, whole. -/
namespace Go.Vm
open Go
theorem link0:Link (List.replicate 4097 0) []:=by
  have hz:∀ k,(List.replicate 4097 (0:Int)).getD k 0=0:=fun k=>by
    rw[List.getD_eq_getElem?_getD,List.getElem?_replicate]
    split <;> rfl
  refine⟨bth0.s,fun d hd=>(by cases hd),fun y hy ht=>?_,by simp,?_⟩
  · have:tV (List.replicate 4097 0) y=0:=by
      unfold tV
      rw[hz]
      split <;> rfl
    rw[this] at ht
    exact absurd ht (by decide)
  · have:=bth0.n
    exact this
theorem right_given {V:List Int} {l:List S_api_Deduced} (h:Link V l) (cls:List (List Int)) {x:Int} (hx:goodB x=true) (h0:tV V x=0):rightS cls l ⟨x, -1⟩=true:=by
  unfold rightS
  simp[hx,valS_link h hx,h0]
theorem assume_spec (cls:List (List Int)) (a:List Int) (ha:a.length≤1048576) {V:List Int} {l:List S_api_Deduced} (h:Link V l) (hr:rightA cls [] l=true) (W:List Int) (hw:∀ y,goodB y=true→tV V y=1→tV W y=1) :
    ∃ t,loopC (prop_Run_l1 a) (V,l,0)=some t∧((∃ l',t=Sum.inl l'∧l'.length≤4097∧rightA cls [] l' = true∧¬(∀ x∈a,goodB x=true→tV W x=1))∨∃ V' l',t=Sum.inr (V',l')∧Link V' l'∧rightA cls [] l' = true∧(∀ x∈a,goodB x=true→tV V' x=1)∧((∀ x∈a,goodB x=true→tV W x=1)→∀ y,goodB y=true→tV V' y=1→tV W y=1)):=by
  refine loopC_inv (f:=prop_Run_l1 a) (fun p=>∃ i:Nat,p.2.2=(i:Int)∧i≤a.length∧Link p.1 p.2.1∧rightA cls [] p.2.1=true∧(∀ x∈a.take i,goodB x=true→tV p.1 x=1)∧((∀ x∈a,goodB x=true→tV W x=1)→∀ y,goodB y=true→tV p.1 y=1→tV W y=1)) (fun p=>a.length - p.2.2.toNat) _ (fun p hI=>?_) (x:=(V,l,(0:Int))) ⟨0,rfl,Nat.zero_le _,h,hr,fun x hx=>by simp at hx,fun _=>hw⟩
  obtain⟨V,l,z⟩:=p
  obtain⟨i,e,hi,hL,hR,hA,hW⟩:=hI
  simp only at e hL hR hA hW
  subst e
  have hn4:=hL.c
  unfold prop_Run_l1
  simp only[]
  rcases Nat.lt_or_ge i a.length with hlt | hge
  · have tk:∀ x∈a.take (i + 1),x∈a.take i∨x=a[i]:=fun c hc=>by
      rw[List.take_succ_eq_append_getElem hlt] at hc
      rcases List.mem_append.1 hc with hc | hc
      · exact .inl hc
      · exact .inr (List.mem_singleton.1 hc)
    rw[if_pos (by simpa using hlt),ixl_nat hlt]
    simp only[Option.bind_some,literal_eq]
    rw[w64_n i (by omega)]
    cases hg:goodB a[i] with
    | false=>
      right
      refine⟨(V,l,((i + 1:Nat):Int)),rfl,⟨i + 1,rfl,hlt,hL,hR,fun x hx hgx=>?_,hW⟩,by simp only[Int.toNat_natCast]; omega⟩
      rcases tk x hx with hx | rfl
      · exact hA x hx hgx
      · rw[hg] at hgx; cases hgx
    | true=>
      have hg':=goodB_iff.1 hg
      simp only[Bool.not_true,Bool.false_eq_true,if_false]
      rw[of_eq hL.s l hg]
      simp only[Option.bind_some]
      rcases tV_val hL.s a[i] with e | e | e
      · right
        rw[e,set_eq26 hL.s (by omega) hg]
        refine⟨(upV V a[i],l ++ [⟨a[i], -1⟩],((i + 1:Nat):Int)),rfl,⟨i + 1,rfl,hlt,hL.up hg e _,?_,fun x hx hgx=>?_,fun hall y hy ht=>?_⟩,by simp only[Int.toNat_natCast]; omega⟩
        · rw[rightA_snoc,hR,List.nil_append,right_given hL cls hg e]
          rfl
        · rw[tV_up hL.s.len hg]
          rcases tk x hx with hx | rfl
          · have:=hA x hx hgx
            split
            · rfl
            · rw[if_neg (fun q=>by rw[q,tV_neg V hg'.1,e] at this; exact absurd this (by decide))]
              exact this
          · rw[if_pos rfl]
        · rw[tV_up hL.s.len hg] at ht
          split at ht
          · rename_i q; rw[q]; exact hall _ (List.getElem_mem hlt) hg
          · split at ht
            · exact absurd ht (by decide)
            · exact hW hall y hy ht
      · right
        rw[e]
        refine⟨(V,l,((i + 1:Nat):Int)),rfl,⟨i + 1,rfl,hlt,hL,hR,fun x hx hgx=>?_,hW⟩,by simp only[Int.toNat_natCast]; omega⟩
        rcases tk x hx with hx | rfl
        · exact hA x hx hgx
        · exact e
      · left
        rw[e,lenA_ok hL.s.len]
        refine⟨Sum.inl l,rfl,.inl ⟨l,rfl,by omega,hR,fun hall=>?_⟩⟩
        have h1:=hall _ (List.getElem_mem hlt) hg
        have h2:=hW hall (-a[i]) (goodB_neg hg) (by rw[tV_neg V hg'.1,e]; rfl)
        rw[tV_neg W hg'.1,h1] at h2
        exact absurd h2 (by decide)
  · left
    rw[if_neg (by simp; omega)]
    rw[List.take_of_length_le hge] at hA
    exact⟨_,rfl,.inr ⟨V,l,rfl,hL,hR,hA,hW⟩⟩
theorem main_spec (cls:List (List Int)) (hn:cls.length≤1048576) (hl:∀ c∈cls,c.length≤1048576) (a:List Int) {V:List Int} {l:List S_api_Deduced} (h:Link V l) (hr:rightA cls [] l=true) (hA:∀ x∈a,goodB x=true→tV V x=1) (W:List Int) (hS:Sheet W) :
    ∃ t,loopC (prop_Run_l3 cls) (V,l)=some t∧((∃ (l':List S_api_Deduced) (i:Nat),t=Sum.inl (l',(i:Int))∧l'.length≤4097∧rightA cls [] l' = true∧¬((∀ y,goodB y=true→tV V y=1→tV W y=1)∧∀ c∈cls,clS W c=none))∨∃ V' l',t=Sum.inr (V',l')∧Link V' l'∧rightA cls [] l' = true∧(∀ x∈a,goodB x=true→tV V' x=1)∧(∀ c∈cls,clS V' c=none)∧(((∀ y,goodB y=true→tV V y=1→tV W y=1)∧∀ c∈cls,clS W c=none)→∀ y,goodB y=true→tV V' y=1→tV W y=1)):=by
  refine loopC_inv (f:=prop_Run_l3 cls) (fun p=>Link p.1 p.2∧rightA cls [] p.2=true∧(∀ x∈a,goodB x=true→tV p.1 x=1)∧(((∀ y,goodB y=true→tV V y=1→tV W y=1)∧∀ c∈cls,clS W c=none)→∀ y,goodB y=true→tV p.1 y=1→tV W y=1)) (fun p=>p.1.count 0) _ (fun p hI=>?_) (x:=(V,l)) ⟨h,hr,hA,fun q=>q.1⟩
  obtain⟨U,l⟩:=p
  obtain⟨hL,hR,hA,hW⟩:=hI
  simp only at hL hR hA hW
  have hn4:=hL.c
  -- what is false by the sheet is false by the other one
  have neg:((∀ y,goodB y=true→tV V y=1→tV W y=1)∧∀ c∈cls,clS W c=none)→∀ y,goodB y=true→tV U y = -1→tV W y = -1:=fun q y hy ht=>by
    have hy0:=(goodB_iff.1 hy).1
    have:=hW q (-y) (goodB_neg hy) (by rw[tV_neg U hy0,ht]; rfl)
    rw[tV_neg W hy0] at this
    omega
  -- a clause that tells v: it tells by the other one too, or v is true there
  have tells:((∀ y,goodB y=true→tV V y=1→tV W y=1)∧∀ c∈cls,clS W c=none)→∀ (c:List Int) (v:Int),c∈cls→clS U c=some v→v≠0∧tV W v=1:=fun q c v hc hcs=>by
    obtain⟨h1,h2,h3⟩:=clS_some hL.s hcs
    have hw:=q.2 c hc
    by_cases ht:v≠0∧tV W v=1
    · exact ht
    · exfalso
      have nt:trueB W c=false:=by
        unfold trueB
        rw[List.any_eq_false]
        intro x hx
        rw[h1 x hx]
        simp only[Bool.not_true,Bool.false_or,decide_eq_true_eq]
        by_cases e:x=v
        · rw[e]
          have hv0:v≠0:=by rw[← e]; exact (goodB_iff.1 (h1 x hx)).1
          exact fun k=>ht ⟨hv0,k⟩
        · rw[neg q x (h1 x hx) (h2 x hx e)]
          decide
      have sc:∀ (c:List Int) (u:Int),(∀ x∈c,x≠v→tV W x = -1)→(u=0∨u=v)→scanU (tV W) u c≠none:=by
        intro c
        induction c with
        | nil=>intro u _ _; simp[scanU]
        | cons x c ih=>
          intro u hx hu
          rw[scanU_cons]
          have hr:=fun z hz=>hx z (List.mem_cons_of_mem _ hz)
          split
          · rename_i e0
            have:x=v:=Classical.byContradiction fun k=>by
              rw[hx x (List.mem_cons_self ..) k] at e0
              exact absurd e0 (by decide)
            rw[if_neg (by rcases hu with hu | hu <;> (rw[hu]; simp[this]))]
            exact ih x hr (.inr this)
          · exact ih u hr hu
      unfold clS at hw
      rw[nt] at hw
      simp only[Bool.false_eq_true,if_false] at hw
      exact sc c 0 (fun x hx hne=>neg q x (h1 x hx) (h2 x hx hne)) (.inl rfl) hw
  unfold prop_Run_l3
  simp only[]
  rw[show prop_sheet_counts U l cls=some () from rfl]
  simp only[Option.bind_some]
  rcases step_spec hL.s l cls hn hl with ⟨i,r,q,h1,hi,h2⟩ | ⟨q,h1,h2⟩ | ⟨j,q,h1,h2,hj,h3⟩
  · left
    rw[h1]
    simp only[Option.bind_some]
    exact⟨_,rfl,.inl ⟨l,i,rfl,by omega,hR,fun k=>(tells k _ 0 (List.getElem_mem hi) h2).1 rfl⟩⟩
  · left
    rw[h1]
    simp only[Option.bind_some]
    exact⟨_,rfl,.inr ⟨U,l,rfl,hL,hR,hA,h2,hW⟩⟩
  · right
    obtain⟨g1,g2,g3⟩:=clS_right hL hj h2 h3
    have hd:decide ((j:Int) < 0)=false:=by rw[decide_eq_false_iff_not]; omega
    rw[h1]
    simp only[Option.bind_some,hd,Bool.false_eq_true,if_false]
    rw[set_eq26 hL.s (by omega) g1]
    have hq0:=(goodB_iff.1 g1).1
    refine⟨(upV U q,l ++ [⟨q,(j:Int)⟩]),rfl,⟨hL.up g1 g2 _,?_,fun x hx hgx=>?_,fun hall y hy ht=>?_⟩,?_⟩
    · rw[rightA_snoc,hR,List.nil_append,g3]
      rfl
    · have:=hA x hx hgx
      rw[tV_up hL.s.len g1]
      split
      · rfl
      · rw[if_neg (fun e=>by rw[e,tV_neg U hq0,g2] at this; exact absurd this (by decide))]
        exact this
    · rw[tV_up hL.s.len g1] at ht
      split at ht
      · rename_i e; rw[e]; exact (tells hall _ q (List.getElem_mem hj) h3).2
      · split at ht
        · exact absurd ht (by decide)
        · exact hW hall y hy ht
    · have:=count_up hL.s g1 g2
      simp only
      omega
theorem run_spec (cls:List (List Int)) (a:List Int) (hn:cls.length≤1048576) (hl:∀ c∈cls,c.length≤1048576) (ha:a.length≤1048576) (W:List Int) (hS:Sheet W) :
    ∃ (l:List S_api_Deduced) (k:Int),prop_Run cls a=some (l,k)∧l.length≤4097∧rightA cls [] l=true ∧
      ((k ≠ -1∧¬((∀ x∈a,goodB x=true→tV W x=1)∧∀ c∈cls,clS W c=none)) ∨
       (k = -1∧∃ V,Link V l∧(∀ x∈a,goodB x=true→tV V x=1)∧(∀ c∈cls,clS V c=none)∧(((∀ x∈a,goodB x=true→tV W x=1)∧∀ c∈cls,clS W c=none)→∀ y,goodB y=true→tV V y=1→tV W y=1))):=by
  have gen:∀ V0,Link V0 []→(∀ y,goodB y=true→tV V0 y=1→tV W y=1)→∃ t,loopC (prop_Run_l1 a) (V0,[],0)=some t∧((∃ l',t=Sum.inl l'∧l'.length≤4097∧rightA cls [] l' = true∧¬(∀ x∈a,goodB x=true→tV W x=1))∨∃ V' l',t=Sum.inr (V',l')∧Link V' l'∧rightA cls [] l' = true∧(∀ x∈a,goodB x=true→tV V' x=1)∧((∀ x∈a,goodB x=true→tV W x=1)→∀ y,goodB y=true→tV V' y=1→tV W y=1)):=
    fun V0 h0 hw=>assume_spec cls a ha h0 rfl W hw
  obtain⟨t,h1,h2⟩:=gen _ link0 (fun y hy ht=>by obtain⟨d,hd,_⟩:=link0.u y hy ht; cases hd)
  unfold prop_Run
  rw[h1]
  simp only[Option.bind_some]
  rcases h2 with ⟨l',rfl,h2,h3,h4⟩ | ⟨V,l,rfl,hL,hR,hA,hW⟩
  · exact⟨l', -2,rfl,h2,h3,.inl ⟨by decide,fun q=>h4 q.1⟩⟩
  · simp only[]
    obtain⟨t,k1,k2⟩:=main_spec cls hn hl a hL hR hA W hS
    rw[k1]
    simp only[Option.bind_some]
    rcases k2 with ⟨l',i,rfl,k3,k4,k5⟩ | ⟨V',l',rfl,g1,g2,g3,g4,g5⟩
    · exact⟨l',(i:Int),rfl,k3,k4,.inl ⟨by omega,fun q=>k5 ⟨hW q.1,q.2⟩⟩⟩
    · simp only[lenA_ok g1.s.len,Option.bind_some]
      have:=g1.c
      exact⟨l', -1,rfl,by omega,g2,.inr ⟨rfl,V',g1,g3,g4,fun q=>g5 ⟨hW q.1,q.2⟩⟩⟩
end Go.Vm
/- Plain laws of chapter 26: whether what is told is right, and all that follows. -/
namespace Go.Vm
open Go
theorem value_eq (v:List S_api_Deduced) (hv:v.length≤1048576) (x:Int):prop_Value v x=some (valS v x):=by
  unfold prop_Value
  have h1:=loopC_fun (f:=prop_Value_l1 v x) (fun z=>∃ i:Nat,z=i∧i≤v.length) (fun z=>v.length - z.toNat) (fun z=>if valS (v.drop z.toNat) x=0 then Sum.inr () else Sum.inl (valS (v.drop z.toNat) x)) (fun z hz=>by
    obtain⟨i,rfl,hi⟩:=hz
    unfold prop_Value_l1
    simp only[Int.toNat_natCast]
    rcases Nat.lt_or_ge i v.length with h | h
    · rw[if_pos (by simpa using h),ixl_nat h,List.drop_eq_getElem_cons h]
      simp only[Option.bind_some]
      by_cases e1:v[i].Lit=x
      · left
        simp[e1,valS]
      · have e1':(v[i].Lit == x)=false:=by simpa using e1
        rw[e1']
        by_cases e2:v[i].Lit=w64 (0 - x)
        · left
          have e2':(v[i].Lit == w64 (0 - x))=true:=by simpa using e2
          have hv2:valS (v[i] :: v.drop (i + 1)) x = -1:=by unfold valS; rw[if_neg e1,if_pos e2]
          rw[e2',hv2]
          rfl
        · right
          have e2':(v[i].Lit == w64 (0 - x))=false:=by simpa using e2
          have hv2:valS (v[i] :: v.drop (i + 1)) x=valS (v.drop (i + 1)) x:=by conv=>lhs; unfold valS; rw[if_neg e1,if_neg e2]
          rw[e2',hv2,w64_n i (by omega)]
          exact⟨_,rfl,⟨i + 1,rfl,h⟩,by omega,rfl⟩
    · left
      rw[if_neg (by simp; omega),List.drop_of_length_le h]
      rfl) (x:=0) ⟨0,rfl,Nat.zero_le _⟩
  rw[h1]
  simp only[Int.toNat_zero,List.drop_zero,Option.bind_some]
  by_cases e:valS v x=0
  · rw[if_pos e,e]
  · rw[if_neg e]
theorem contains_eq26 (c:List Int) (hc:c.length≤1048576) (x:Int):slices_Contains_int_int c x=some (c.any fun y=>x == y):=by
  unfold slices_Contains_int_int slices_Index_int_int
  obtain⟨t,h1,h2⟩:=loopC_inv (f:=slices_Index_int_int_l1 c x) (fun z=>∃ i:Nat,z=i∧i≤c.length∧∀ y∈c.take i,(x == y)=false) (fun z=>c.length - z.toNat) (fun t=>(∃ i:Nat,t=Sum.inl (i:Int)∧c.any (fun y=>x == y)=true)∨(t=Sum.inr ()∧c.any (fun y=>x == y)=false)) (fun z hz=>by
    obtain⟨i,rfl,hi,hall⟩:=hz
    unfold slices_Index_int_int_l1
    rcases Nat.lt_or_ge i c.length with h | h
    · rw[if_pos (by simpa using h),ixl_nat h]
      simp only[Option.bind_some]
      cases e:(x == c[i]) with
      | true=>
        left
        exact⟨_,rfl,.inl ⟨i,rfl,List.any_eq_true.2 ⟨_,List.getElem_mem h,e⟩⟩⟩
      | false=>
        right
        rw[w64_n i (by omega)]
        refine⟨_,rfl,⟨i + 1,rfl,h,fun y hy=>?_⟩,by omega⟩
        rw[List.take_succ_eq_append_getElem h] at hy
        rcases List.mem_append.1 hy with hy | hy
        · exact hall y hy
        · rw[List.mem_singleton.1 hy]; exact e
    · left
      rw[if_neg (by simp; omega)]
      rw[List.take_of_length_le h] at hall
      exact⟨_,rfl,.inr ⟨rfl,List.any_eq_false.2 fun y hy=>by rw[hall y hy]; decide⟩⟩) (x:=0) ⟨0,rfl,Nat.zero_le _,fun y hy=>by simp at hy⟩
  rw[h1]
  rcases h2 with ⟨i,rfl,h2⟩ | ⟨rfl,h2⟩
  · rw[h2]
    simp
  · rw[h2]
    rfl
theorem cfunc_eq (c:List Int) (hc:c.length≤1048576) (x r:Int) (v:List S_api_Deduced) (hv:v.length≤1048576):slices_ContainsFunc_int_int_sac78 c x r v=some (c.any fun y=>y != x && valS v y != -1):=by
  unfold slices_ContainsFunc_int_int_sac78 slices_IndexFunc_int_int_sac78
  have hr:∀ y,prop_right_1_s246a y x r v=some (y != x && valS v y != -1):=fun y=>by
    unfold prop_right_1_s246a
    rw[value_eq v hv]
    cases e:(y != x) <;> rfl
  obtain⟨t,h1,h2⟩:=loopC_inv (f:=slices_IndexFunc_int_int_sac78_l1 c x r v) (fun z=>∃ i:Nat,z=i∧i≤c.length∧∀ y∈c.take i,(y != x && valS v y != -1)=false) (fun z=>c.length - z.toNat) (fun t=>(∃ i:Nat,t=Sum.inl (i:Int)∧c.any (fun y=>y != x && valS v y != -1)=true)∨(t=Sum.inr ()∧c.any (fun y=>y != x && valS v y != -1)=false)) (fun z hz=>by
    obtain⟨i,rfl,hi,hall⟩:=hz
    unfold slices_IndexFunc_int_int_sac78_l1
    rcases Nat.lt_or_ge i c.length with h | h
    · rw[if_pos (by simpa using h),ixl_nat h]
      simp only[Option.bind_some,hr]
      cases e:(c[i] != x && valS v c[i] != -1) with
      | true=>
        left
        exact⟨_,rfl,.inl ⟨i,rfl,List.any_eq_true.2 ⟨_,List.getElem_mem h,e⟩⟩⟩
      | false=>
        right
        rw[w64_n i (by omega)]
        refine⟨_,rfl,⟨i + 1,rfl,h,fun y hy=>?_⟩,by omega⟩
        rw[List.take_succ_eq_append_getElem h] at hy
        rcases List.mem_append.1 hy with hy | hy
        · exact hall y hy
        · rw[List.mem_singleton.1 hy]; exact e
    · left
      rw[if_neg (by simp; omega)]
      rw[List.take_of_length_le h] at hall
      exact⟨_,rfl,.inr ⟨rfl,List.any_eq_false.2 fun y hy=>by rw[hall y hy]; decide⟩⟩) (x:=0) ⟨0,rfl,Nat.zero_le _,fun y hy=>by simp at hy⟩
  rw[h1]
  rcases h2 with ⟨i,rfl,h2⟩ | ⟨rfl,h2⟩
  · rw[h2]
    simp
  · rw[h2]
    rfl
theorem not_any_all (c:List Int) (x:Int) (v:List S_api_Deduced):(!(c.any fun y=>y != x && valS v y != -1))=c.all fun y=>y == x || valS v y == -1:=by
  rw[List.not_any_eq_all_not]
  congr 1
  funext y
  simp[bne]
theorem pright_eq (cls:List (List Int)) (hn:cls.length≤1048576) (hl:∀ c∈cls,c.length≤1048576) (v:List S_api_Deduced) (hv:v.length≤1048576) (d:S_api_Deduced):prop_right cls v d=some (rightS cls v d):=by
  unfold prop_right rightS
  simp only[literal_eq,Option.bind_some,value_eq v hv]
  cases goodB d.Lit with
  | false=>rfl
  | true=>
    by_cases h0:valS v d.Lit=0
    · by_cases hr:d.Reason = -1
      · simp[h0,hr]
      · by_cases hb:0≤d.Reason∧d.Reason < (cls.length:Int)
        · obtain⟨j,hj⟩:∃ j:Nat,d.Reason=j:=⟨d.Reason.toNat,by omega⟩
          have hjl:j < cls.length:=by omega
          have hm:=hl _ (List.getElem_mem hjl)
          rw[hj] at hr ⊢
          have e1:((j:Int) == -1)=false:=beq_eq_false_iff_ne.2 hr
          have e2:decide ((j:Int) < 0)=false:=by rw[decide_eq_false_iff_not]; omega
          have e3:decide ((j:Int)≥(cls.length:Int))=false:=by rw[decide_eq_false_iff_not]; omega
          have e4:decide ((0:Int)≤(j:Int))=true:=by rw[decide_eq_true_eq]; omega
          have e5:decide ((j:Int) < (cls.length:Int))=true:=by rw[decide_eq_true_eq]; omega
          have hd:cls.getD (j:Int).toNat []=cls[j]:=by simp[List.getD,hjl]
          rw[hd,e1,e2,e3,e4,e5,ixl_nat hjl]
          simp only[Option.bind_some,contains_eq26 _ hm,cfunc_eq _ hm _ _ v hv,not_any_all]
          simp only[h0,Bool.not_true,Bool.false_eq_true,if_false,Option.bind_some,bne_self_eq_false,Bool.or_self,Bool.true_and,beq_self_eq_true,Bool.false_or]
          cases (cls[j].any fun y=>d.Lit == y) <;> rfl
        · have e1:(d.Reason == -1)=false:=by simpa using hr
          have e2:(decide (d.Reason < 0) || decide (d.Reason≥(cls.length:Int)))=true:=by
            rw[Bool.or_eq_true,decide_eq_true_eq,decide_eq_true_eq]; omega
          have e3:(decide (0≤d.Reason) && decide (d.Reason < (cls.length:Int)))=false:=by
            rw[Bool.and_eq_false_iff,decide_eq_false_iff_not,decide_eq_false_iff_not]; omega
          rw[e1,e2,e3]
          simp[h0]
    · have e:(valS v d.Lit == 0)=false:=by simpa using h0
      have e':(valS v d.Lit != 0)=true:=bne_iff_ne.2 h0
      simp only[Bool.not_true,Bool.false_eq_true,if_false,Option.bind_some,e,e',if_true,Bool.and_false,Bool.false_and]
theorem Right_eq (cls:List (List Int)) (hn:cls.length≤1048576) (hl:∀ c∈cls,c.length≤1048576) (l:List S_api_Deduced) (hv:l.length≤1048576):prop_Right cls l=some (rightA cls [] l):=by
  unfold prop_Right
  have h1:=loopC_fun (f:=prop_Right_l1 cls l) (fun z=>∃ i:Nat,z=i∧i≤l.length) (fun z=>l.length - z.toNat) (fun z=>cond (rightA cls (l.take z.toNat) (l.drop z.toNat)) (Sum.inr ()) (Sum.inl ())) (fun z hz=>by
    obtain⟨i,rfl,hi⟩:=hz
    unfold prop_Right_l1
    simp only[Int.toNat_natCast]
    rcases Nat.lt_or_ge i l.length with h | h
    · rw[if_pos (by simpa using h),ixl_nat h,show (0:Int)=((0:Nat):Int) from rfl,subl_nat (Nat.zero_le _) hi,List.drop_zero,Nat.sub_zero]
      simp only[Option.bind_some]
      rw[pright_eq cls hn hl _ (by rw[List.length_take]; omega),List.drop_eq_getElem_cons h]
      simp only[Option.bind_some,rightA]
      cases e:rightS cls (l.take i) l[i] with
      | false=>left; rfl
      | true=>
        right
        rw[w64_n i (by omega)]
        refine⟨_,rfl,⟨i + 1,rfl,h⟩,by omega,?_⟩
        simp only[Int.toNat_natCast,Bool.true_and]
        rw[List.take_succ_eq_append_getElem h]
    · left
      rw[if_neg (by simp; omega),List.drop_of_length_le h]
      rfl) (x:=0) ⟨0,rfl,Nat.zero_le _⟩
  rw[h1]
  simp only[Int.toNat_zero,List.drop_zero,List.take_zero,Option.bind_some]
  cases rightA cls [] l <;> rfl
end Go.Vm
/- Plain laws of chapter 26: all that follows, in its order. -/
namespace Go.Vm
open Go
theorem abs_eq26 {x:Int} (h:goodB x=true):ref26_abs x=some (x.natAbs:Int):=by
  have:=goodB_iff.1 h
  unfold ref26_abs
  by_cases e:x < 0
  · rw[if_pos (by simpa using e),w64_id (by omega) (by omega)]
    congr 1
    omega
  · rw[if_neg (by simpa using e)]
    congr 1
    omega
def szR (a b:Int):Prop:=a.natAbs≤b.natAbs
theorem close_in (v:List S_api_Deduced) (out:List Int) (hout:∀ x∈out,goodB x=true) (hl:out.length≤1048576) (i:Nat) (hi:i < v.length) (hg:goodB v[i].Lit=true) :
    ∃ k:Nat,loopC (ref26_Close_l1 v out (i:Int)) (out.length:Int)=some (k:Int)∧k≤out.length∧(∀ x∈out.drop k,szR v[i].Lit x)∧∀ h:0 < k,∃ h2:k - 1 < out.length,szR out[k - 1] v[i].Lit:=by
  obtain⟨t,h1,k,rfl,h2⟩:=loopC_inv (f:=ref26_Close_l1 v out (i:Int)) (fun z=>∃ k:Nat,z=k∧k≤out.length∧∀ x∈out.drop k,szR v[i].Lit x) (fun z=>z.toNat) (fun t=>∃ k:Nat,t=(k:Int)∧k≤out.length∧(∀ x∈out.drop k,szR v[i].Lit x)∧∀ h:0 < k,∃ h2:k - 1 < out.length,szR out[k - 1] v[i].Lit) (fun z hz=>by
    obtain⟨k,rfl,hk,hd⟩:=hz
    unfold ref26_Close_l1
    rcases k with _ | m
    · left
      simp only[Int.natCast_zero,gt_iff_lt,Int.lt_irrefl,decide_false,Bool.false_eq_true,if_false,Option.bind_some]
      exact⟨_,rfl,0,rfl,Nat.zero_le _,hd,fun h=>absurd h (Nat.lt_irrefl 0)⟩
    · have hm:m < out.length:=hk
      have e1:decide (((m + 1:Nat):Int) > 0)=true:=by rw[decide_eq_true_eq]; omega
      have e2:w64 (((m + 1:Nat):Int) - 1)=(m:Int):=by rw[w64_id (by omega) (by omega)]; omega
      rw[e1,e2]
      simp only[if_true,ixl_nat hm,ixl_nat hi,Option.bind_some,abs_eq26 (hout _ (List.getElem_mem hm)),abs_eq26 hg]
      by_cases e:(out[m].natAbs:Int) > (v[i].Lit.natAbs:Int)
      · right
        rw[decide_eq_true e]
        refine⟨(m:Int),rfl,⟨m,rfl,by omega,fun x hx=>?_⟩,by simp only[Int.toNat_natCast]; omega⟩
        rw[List.drop_eq_getElem_cons hm] at hx
        rcases List.mem_cons.1 hx with rfl | hx
        · unfold szR; omega
        · exact hd x hx
      · left
        rw[decide_eq_false e]
        refine⟨_,rfl,m + 1,rfl,hk,hd,fun _=>⟨hm,?_⟩⟩
        show out[m].natAbs≤_
        omega) (x:=(out.length:Int)) ⟨out.length,rfl,Nat.le_refl _,fun x hx=>by simp at hx⟩
  exact⟨k,h1,h2⟩
theorem ins_pw {out:List Int} (hp:out.Pairwise szR) {x:Int} {k:Nat} (hd:∀ y∈out.drop k,szR x y) (ht:∀ h:0 < k,∃ h2:k - 1 < out.length,szR out[k - 1] x):(out.take k ++ [x] ++ out.drop k).Pairwise szR:=by
  have hp':=hp
  rw[← List.take_append_drop k out] at hp'
  obtain⟨p1,p2,p3⟩:=List.pairwise_append.1 hp'
  have hx:∀ y∈out.take k,szR y x:=fun y hy=>by
    obtain⟨j,hj,rfl⟩:=List.mem_iff_getElem.1 hy
    rw[List.getElem_take]
    rw[List.length_take] at hj
    obtain⟨h2,h3⟩:=ht (by omega)
    by_cases e:j=k - 1
    · subst e; exact h3
    · have:=List.pairwise_iff_getElem.1 hp j (k - 1) (by omega) h2 (by omega)
      exact Nat.le_trans this h3
  rw[List.append_assoc]
  refine List.pairwise_append.2 ⟨p1,?_,fun a ha b hb=>?_⟩
  · exact List.pairwise_append.2 ⟨List.pairwise_singleton _ _,p2,fun a ha b hb=>by rw[List.mem_singleton.1 ha]; exact hd b hb⟩
  · rcases List.mem_append.1 hb with hb | hb
    · rw[List.mem_singleton.1 hb]; exact hx a ha
    · exact p3 a ha b hb
theorem close_loop (v:List S_api_Deduced) (hv:v.length≤4097) (hg:∀ d∈v,goodB d.Lit=true):∃ out,loopC (ref26_Close_l2 v) ([],0)=some out∧out.Perm (v.map fun d=>d.Lit)∧out.Pairwise szR:=by
  obtain⟨t,h1,h2⟩:=loopC_inv (f:=ref26_Close_l2 v) (fun z=>∃ i:Nat,z.2=(i:Int)∧i≤v.length∧z.1.Perm ((v.take i).map fun d=>d.Lit)∧z.1.Pairwise szR) (fun z=>v.length - z.2.toNat) (fun out=>out.Perm (v.map fun d=>d.Lit)∧out.Pairwise szR) (fun z hz=>by
    obtain⟨out,z⟩:=z
    obtain⟨i,e,hi,hp,hs⟩:=hz
    simp only at e hp hs
    subst e
    have hol:out.length=i:=by
      rw[hp.length_eq,List.length_map,List.length_take]
      omega
    unfold ref26_Close_l2
    simp only[]
    rcases Nat.lt_or_ge i v.length with h | h
    · right
      have hog:∀ x∈out,goodB x=true:=fun x hx=>by
        obtain⟨d,hd,rfl⟩:=List.mem_map.1 (hp.mem_iff.1 hx)
        exact hg d (List.mem_of_mem_take hd)
      obtain⟨k,c1,c2,c3,c4⟩:=close_in v out hog (by omega) i h (hg _ (List.getElem_mem h))
      rw[if_pos (by simpa using h),c1]
      simp only[Option.bind_some]
      rw[show (0:Int)=((0:Nat):Int) from rfl,subl_nat (Nat.zero_le _) c2,List.drop_zero,Nat.sub_zero,ixl_nat h,subl_drop c2]
      simp only[Option.bind_some]
      have htk:(out.take k).length≤i:=by rw[List.length_take]; omega
      have hdr:(out.drop k).length≤i:=by rw[List.length_drop]; omega
      rw[app_ok (l:=[]) (by simp only[List.length_nil]; omega) (by simp only[List.length_nil]; omega)]
      simp only[Option.bind_some,List.nil_append]
      rw[app_ok (by simp only[List.length_singleton]; omega) (by simp only[List.length_singleton]; omega)]
      simp only[Option.bind_some]
      rw[app_ok (by simp only[List.length_append,List.length_singleton]; omega) (by simp only[List.length_append,List.length_singleton]; omega),w64_n i (by omega)]
      refine⟨_,rfl,⟨i + 1,rfl,h,?_,ins_pw hs c3 c4⟩,by simp only[Int.toNat_natCast]; omega⟩
      rw[List.take_succ_eq_append_getElem h,List.map_append,List.append_assoc]
      refine (List.perm_middle (l₁:=out.take k) (a:=v[i].Lit) (l₂:=out.drop k)).trans ?_
      rw[List.take_append_drop]
      exact (hp.cons _).trans (List.perm_append_singleton _ _).symm
    · left
      have:i=v.length:=by omega
      subst this
      rw[if_neg (by simp)]
      rw[List.take_length] at hp
      exact⟨_,rfl,hp,hs⟩) (x:=(([]:List Int),(0:Int))) ⟨0,rfl,Nat.zero_le _,by simp,List.Pairwise.nil⟩
  exact⟨t,h1,h2⟩
theorem srt_unique {m out:List Int} (hg:∀ x∈m,goodB x=true) (hn:(m.map Int.natAbs).Nodup) (hp:out.Perm m) (hs:out.Pairwise szR):srtSz m=some out:=by
  unfold srtSz
  rw[if_pos ⟨List.all_eq_true.2 fun x hx=>by have:=goodB_iff.1 (hg x hx); rw[decide_eq_true_eq]; omega,hn⟩]
  congr 1
  have hpw:=List.pairwise_mergeSort (le:=fun x y:Int=>!decide ((y.natAbs:Int) - x.natAbs < 0)) (fun a b c h1 h2=>by
    simp only[Bool.not_eq_true',decide_eq_false_iff_not] at *
    omega) (fun a b=>by
    simp only[Bool.or_eq_true,Bool.not_eq_true',decide_eq_false_iff_not]
    omega) m
  refine List.Perm.eq_of_pairwise (le:=szR) (fun a b ha hb h1 h2=>?_) (hpw.imp fun h=>?_) hs ((List.mergeSort_perm m _).trans hp.symm)
  · have ha':=(List.mergeSort_perm m _).mem_iff.1 ha
    have hb':=hp.mem_iff.1 hb
    have e:a.natAbs=b.natAbs:=Nat.le_antisymm h1 h2
    obtain⟨i,hi,rfl⟩:=List.mem_iff_getElem.1 ha'
    obtain⟨j,hj,rfl⟩:=List.mem_iff_getElem.1 hb'
    have hp:=List.pairwise_iff_getElem.1 (List.nodup_iff_pairwise_ne.1 hn)
    rcases Nat.lt_trichotomy i j with h | h | h
    · exact absurd (by rw[List.getElem_map,List.getElem_map]; exact e) (hp i j (by simpa using hi) (by simpa using hj) h)
    · subst h; rfl
    · exact absurd (by rw[List.getElem_map,List.getElem_map]; exact e.symm) (hp j i (by simpa using hj) (by simpa using hi) h)
  · simp only[Bool.not_eq_true',decide_eq_false_iff_not] at h
    unfold szR
    omega
theorem pclose_of {cls:List (List Int)} {a:List Int} {l:List S_api_Deduced} {V:List Int} (hr:prop_Run cls a=some (l, -1)) (h:Link V l) {out:List Int} (hp:out.Perm (l.map fun d=>d.Lit)) (hs:out.Pairwise szR):prop_Close cls a=some (out,true):=by
  have hc:=h.c
  unfold prop_Close
  rw[hr]
  simp only[Option.bind_some]
  rw[if_neg (by decide),lits_eq l (by omega)]
  simp only[Option.bind_some]
  unfold slices_SortFuncI srtOO
  rw[if_pos (by rw[List.length_map]; omega),srt_unique (fun x hx=>by
    obtain⟨d,hd,rfl⟩:=List.mem_map.1 hx
    exact (h.t d hd).1) (by rw[List.map_map]; exact h.n) hp hs]
  rfl
theorem pclose_no {cls:List (List Int)} {a:List Int} {l:List S_api_Deduced} {k:Int} (hr:prop_Run cls a=some (l,k)) (hk:k ≠ -1):prop_Close cls a=some ([],false):=by
  unfold prop_Close
  rw[hr]
  simp only[Option.bind_some]
  rw[if_pos (bne_iff_ne.2 hk)]
end Go.Vm
/- Plain laws of chapter 26: the order of clauses plays no part. -/
namespace Go.Vm
open Go
def Sat26 (cls:List (List Int)) (a:List Int) (W:List Int):Prop:=(∀ x∈a,goodB x=true→tV W x=1)∧∀ c∈cls,clS W c=none
theorem close_full (cls:List (List Int)) (a:List Int) (hn:cls.length≤1048576) (hl:∀ c∈cls,c.length≤1048576) (ha:a.length≤1048576) :
    ∃ out ok,prop_Close cls a=some (out,ok)∧out.length≤4097∧((ok=false∧out=[]∧∀ W,Sheet W→¬Sat26 cls a W) ∨
      (ok=true∧∃ V,Sheet V∧Sat26 cls a V∧(∀ y,y∈out↔goodB y=true∧tV V y=1)∧(out.map Int.natAbs).Nodup∧out.Pairwise szR∧∀ W,Sheet W→Sat26 cls a W→∀ y,goodB y=true→tV V y=1→tV W y=1)):=by
  obtain⟨l,k,h1,h2,h3,h4⟩:=run_spec cls a hn hl ha (List.replicate 4097 0) link0.s
  rcases h4 with ⟨h5,_⟩ | ⟨rfl,V,hL,g1,g2,_⟩
  · refine⟨[],false,pclose_no h1 h5,Nat.zero_le _,.inl ⟨rfl,rfl,fun W hS hs=>?_⟩⟩
    obtain⟨l',k',q1,q2,q3,q4⟩:=run_spec cls a hn hl ha W hS
    rw[h1] at q1
    cases q1
    rcases q4 with ⟨_,q5⟩ | ⟨q5,_⟩
    · exact q5 hs
    · exact h5 q5
  · obtain⟨out,c1,c2,c3⟩:=close_loop l h2 fun d hd=>(hL.t d hd).1
    refine⟨out,true,pclose_of h1 hL c2 c3,by rw[c2.length_eq,List.length_map]; exact h2,.inr ⟨rfl,V,hL.s,⟨g1,g2⟩,fun y=>⟨fun hy=>?_,fun hy=>?_⟩,?_,c3,fun W hS hs y hy ht=>?_⟩⟩
    · obtain⟨d,hd,rfl⟩:=List.mem_map.1 (c2.mem_iff.1 hy)
      exact hL.t d hd
    · obtain⟨d,hd,e⟩:=hL.u y hy.1 hy.2
      exact c2.mem_iff.2 (List.mem_map.2 ⟨d,hd,e⟩)
    · refine ((c2.map Int.natAbs).nodup_iff).2 ?_
      rw[List.map_map]
      exact hL.n
    · obtain⟨l',k',q1,q2,q3,q4⟩:=run_spec cls a hn hl ha W hS
      rw[h1] at q1
      cases q1
      rcases q4 with ⟨q5,_⟩ | ⟨_,V',q6,_,_,q7⟩
      · exact absurd rfl q5
      · obtain⟨d,hd,e⟩:=hL.u y hy ht
        exact q7 hs y hy (by rw[← e]; exact (q6.t d hd).2)
theorem sorted_same {o1 o2:List Int} (hg:∀ y∈o1,goodB y=true) (hm:∀ y,y∈o1↔y∈o2) (n1:(o1.map Int.natAbs).Nodup) (n2:(o2.map Int.natAbs).Nodup) (s1:o1.Pairwise szR) (s2:o2.Pairwise szR):o1=o2:=by
  have m1:o1.Nodup:=(List.pairwise_map.1 (List.nodup_iff_pairwise_ne.1 n1)).imp fun h e=>h (by rw[e])
  have m2:o2.Nodup:=(List.pairwise_map.1 (List.nodup_iff_pairwise_ne.1 n2)).imp fun h e=>h (by rw[e])
  have hp:o2.Perm o1:=(List.perm_ext_iff_of_nodup m2 m1).2 fun y=>(hm y).symm
  have h1:=srt_unique hg n1 (List.Perm.refl o1) s1
  have h2:=srt_unique hg n1 hp s2
  rw[h1] at h2
  exact Option.some.inj h2
theorem back_eq (cls:List (List Int)) (hn:cls.length≤1048576):loopC (law26_PropOrder_l1 cls) ([],w64 ((cls.length:Int) - 1))=some cls.reverse:=by
  have h1:=loopC_fun (f:=law26_PropOrder_l1 cls) (fun x=>∃ k:Nat,x.2=(k:Int) - 1∧k≤cls.length∧x.1.length + k=cls.length) (fun x=>(x.2 + 1).toNat) (fun x=>x.1 ++ (cls.take (x.2 + 1).toNat).reverse) (fun x hx=>by
    obtain⟨acc,z⟩:=x
    obtain⟨k,e,hk,hacc⟩:=hx
    simp only at e hacc
    subst e
    unfold law26_PropOrder_l1
    simp only[]
    rcases k with _ | m
    · left
      rw[if_neg (by simp)]
      simp
    · right
      have hm:m < cls.length:=hk
      have e1:(((m + 1:Nat):Int) - 1)=(m:Int):=by omega
      rw[e1,if_pos (by rw[decide_eq_true_eq]; omega),ixl_nat hm]
      simp only[Option.bind_some]
      rw[app_ok (by simp only[List.length_singleton]; omega) (by simp only[List.length_singleton]; omega),w64_id (x:=(m:Int) - 1) (by omega) (by omega)]
      refine⟨_,rfl,⟨m,rfl,by omega,by simp only[List.length_append,List.length_singleton]; omega⟩,by simp only; omega,?_⟩
      simp only[show ((m:Int) - 1 + 1).toNat=m by omega,show ((m:Int) + 1).toNat=m + 1 by omega]
      rw[List.take_succ_eq_append_getElem hm,List.reverse_append,List.append_assoc]
      rfl) (x:=(([]:List (List Int)),(cls.length:Int) - 1)) ⟨cls.length,rfl,Nat.le_refl _,by simp⟩
  rw[w64_id (by omega) (by omega),h1]
  simp
theorem found_eq (z:List Int) (hz:z.length≤1048576) (lit:Int) (b:Bool):loopC (law26_PropOrder_l2 z lit) (b,0)=some (b || z.any fun y=>y == lit):=by
  have h1:=loopC_fun (f:=law26_PropOrder_l2 z lit) (fun x=>∃ i:Nat,x.2=(i:Int)∧i≤z.length) (fun x=>z.length - x.2.toNat) (fun x=>x.1 || (z.drop x.2.toNat).any fun y=>y == lit) (fun x hx=>by
    obtain⟨b,t⟩:=x
    obtain⟨i,e,hi⟩:=hx
    simp only at e
    subst e
    unfold law26_PropOrder_l2
    simp only[Int.toNat_natCast]
    rcases Nat.lt_or_ge i z.length with h | h
    · right
      rw[if_pos (by simpa using h),ixl_nat h]
      simp only[Option.bind_some]
      rw[w64_n i (by omega)]
      refine⟨_,rfl,⟨i + 1,rfl,h⟩,by simp only[Int.toNat_natCast]; omega,?_⟩
      simp only[Int.toNat_natCast]
      rw[List.drop_eq_getElem_cons h,List.any_cons,Bool.or_assoc]
    · left
      rw[if_neg (by simp; omega),List.drop_of_length_le h]
      simp) (x:=(b,(0:Int))) ⟨0,rfl,Nat.zero_le _⟩
  rw[h1]
  simp
theorem all_found (x z:List Int) (hx:x.length≤1048576) (hz:z.length≤1048576) (too:Bool) (h:too=true→∀ y∈x,y∈z):loopC (law26_PropOrder_l3 x z too) 0=some (Sum.inr ()):=by
  have h1:=loopC_fun (f:=law26_PropOrder_l3 x z too) (fun t=>∃ i:Nat,t=(i:Int)∧i≤x.length) (fun t=>x.length - t.toNat) (fun t=>Sum.inr ()) (fun t ht=>by
    obtain⟨i,rfl,hi⟩:=ht
    unfold law26_PropOrder_l3
    rcases Nat.lt_or_ge i x.length with hlt | hge
    · right
      rw[if_pos (by simpa using hlt),ixl_nat hlt]
      simp only[Option.bind_some]
      rw[found_eq z hz]
      have:(!too || z.any fun y=>y == x[i])=true:=by
        cases ht:too with
        | false=>rfl
        | true=>
          rw[Bool.not_true,Bool.false_or,List.any_eq_true]
          exact⟨x[i],h ht _ (List.getElem_mem hlt),by simp⟩
      rw[this]
      simp only[Option.bind_some,Bool.not_true,Bool.false_eq_true,if_false]
      rw[w64_n i (by omega)]
      exact⟨_,rfl,⟨i + 1,rfl,hlt⟩,by omega,trivial⟩
    · left
      rw[if_neg (by simp; omega)]) (x:=0) ⟨0,rfl,Nat.zero_le _⟩
  exact h1
theorem PropOrder_true (a0:List (List Int)) (a1:List Int) (a2:Int) (_:∀ c∈a0,∀ y∈c,(Lit.int .i64 y).wf=true) (_:∀ y∈a1,(Lit.int .i64 y).wf=true) (_:(Lit.int .i64 a2).wf=true)
    (m0:((a0.map fun y=>((y.map fun y=>1).sum + 1)).sum + 1)≤1048576) (m1:((a1.map fun y=>1).sum + 1)≤1048576):law26_PropOrder a0 a1 a2=some true:=by
  obtain⟨l0,c0⟩:=row_len m0
  have l1:a1.length≤1048576:=by simp only[List.map_const',List.sum_replicate_nat] at m1; omega
  unfold law26_PropOrder
  rw[few_eq a0 l0,sub30 a1 l1]
  simp only[Option.bind_some]
  have hn:(a0.take 60).length≤60:=by rw[List.length_take]; omega
  have hl:∀ c∈a0.take 60,c.length≤1048576:=fun c hc=>c0 c (List.mem_of_mem_take hc)
  have ha:(a1.take 30).length≤30:=by rw[List.length_take]; omega
  generalize a0.take 60=cls at hn hl ⊢
  generalize a1.take 30=a at ha ⊢
  obtain⟨l,k,h1,h2,h3,_⟩:=run_spec cls a (by omega) hl (by omega) (List.replicate 4097 0) link0.s
  rw[h1]
  simp only[Option.bind_some]
  rw[Right_eq cls (by omega) hl l (by omega),h3]
  simp only[Option.bind_some,Bool.not_true,Bool.false_eq_true,if_false]
  rw[back_eq cls (by omega)]
  simp only[Option.bind_some]
  have hl2:∀ c∈cls.reverse,c.length≤1048576:=fun c hc=>hl c (List.mem_reverse.1 hc)
  obtain⟨x,ok,x1,x2,x3⟩:=close_full cls a (by omega) hl (by omega)
  obtain⟨y,is,y1,y2,y3⟩:=close_full cls.reverse a (by rw[List.length_reverse]; omega) hl2 (by omega)
  obtain⟨z,too,z1,z2,z3⟩:=close_full cls (a ++ [a2]) (by omega) hl (by simp only[List.length_append,List.length_singleton]; omega)
  have r1:∀ c a,prop_Close_m2d81 c a=prop_Close c a:=fun _ _=>rfl
  have r2:∀ c a,prop_Close_m8296 c a=prop_Close c a:=fun _ _=>rfl
  have bs:∀ W,Sat26 cls.reverse a W↔Sat26 cls a W:=fun W=>⟨fun h=>⟨h.1,fun c hc=>h.2 c (List.mem_reverse.2 hc)⟩,fun h=>⟨h.1,fun c hc=>h.2 c (List.mem_reverse.1 hc)⟩⟩
  have ms:∀ W,Sat26 cls (a ++ [a2]) W→Sat26 cls a W:=fun W h=>⟨fun q hq=>h.1 q (List.mem_append_left _ hq),h.2⟩
  rw[x1]
  simp only[Option.bind_some]
  rw[r1,y1]
  simp only[Option.bind_some]
  rw[app_ok (l:=[]) (by simp only[List.length_nil]; omega) (by simp only[List.length_nil]; omega)]
  simp only[Option.bind_some,List.nil_append]
  rw[app_ok (by simp only[List.length_singleton]; omega) (by simp only[List.length_singleton]; omega)]
  simp only[Option.bind_some]
  rw[r2,z1]
  simp only[Option.bind_some]
  have same:x=y∧ok=is:=by
    rcases x3 with ⟨rfl,rfl,x4⟩ | ⟨rfl,V,vs,v1,v2,v3,v4,v5⟩
    · rcases y3 with ⟨rfl,rfl,y4⟩ | ⟨rfl,U,us,u1,_⟩
      · exact⟨rfl,rfl⟩
      · exact absurd ((bs U).1 u1) (x4 U us)
    · rcases y3 with ⟨rfl,rfl,y4⟩ | ⟨rfl,U,us,u1,u2,u3,u4,u5⟩
      · exact absurd ((bs V).2 v1) (y4 V vs)
      · refine⟨sorted_same (fun q hq=>((v2 q).1 hq).1) (fun q=>?_) v3 u3 v4 u4,rfl⟩
        rw[v2,u2]
        exact⟨fun h=>⟨h.1,v5 U us ((bs U).1 u1) q h.1 h.2⟩,fun h=>⟨h.1,u5 V vs ((bs V).2 v1) q h.1 h.2⟩⟩
  obtain⟨rfl,rfl⟩:=same
  have sub:too=true→ok=true∧∀ q∈x,q∈z:=fun ht=>by
    rcases z3 with ⟨rfl,_⟩ | ⟨_,T,ts,t1,t2,t3,t4,t5⟩
    · cases ht
    · rcases x3 with ⟨rfl,rfl,x4⟩ | ⟨rfl,V,vs,v1,v2,v3,v4,v5⟩
      · exact absurd (ms T t1) (x4 T ts)
      · refine⟨rfl,fun q hq=>?_⟩
        rw[t2]
        obtain⟨g1,g2⟩:=(v2 q).1 hq
        exact⟨g1,v5 T ts (ms T t1) q g1 g2⟩
  rw[ints_refl26 x (by omega)]
  simp only[Option.bind_some,Bool.not_true,Bool.false_or,beq_self_eq_true]
  rw[if_neg (by
    rw[Bool.and_eq_true,Bool.not_eq_true']
    rintro⟨e1,e2⟩
    rw[(sub e1).1] at e2
    cases e2),all_found x z (by omega) (by omega) too fun h=>(sub h).2]
  rfl
end Go.Vm

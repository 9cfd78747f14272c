/- The law RupChecks, a part of its proof: what the functions that it reaches compute. -/
import Derived.WalkKit
import Derived.ProofKit
import Derived.OpenShut
import Derived.Below
import Derived.ChangeSame
import Derived.Deep.DeepHandedRow
import Derived.Carry
import Derived.Test.YteaakndjbedilaaGreatDoorAxf570a4cb
import Derived.Test.YteaakndjbedilaaGreatDoorDx51abfb86
import Derived.Shelf.Small.Strs
import Derived.Shelf.Strconv.Itoa3
import Derived.Shelf.Strconv.ErrVarAll
import Derived.Shelf.Strconv.AppendUint10
import Derived.Shelf.SlLaysF
import Derived.Shelf.SlGeneric
import Derived.Test.YteaakndjbedilaaGreatDoorH0RupChecks
import Derived.Test.YteaakndjbedilaaGreatDoorFx2dd28047
import Derived.Shelf.Strings.Builder1
import Derived.Lib.FrozenHead
import Derived.Maps.AppendAt
import Derived.Deep.Strs
import Derived.Lib.Bytealg
import Derived.Test.YteaakndjbedilaaGreatDoorG0RupChecks
import Derived.Test.YteaakndjbedilaaGreatDoorW29RupChecks
import Derived.Lib.SlicesCompact
import Derived.Test.YteaakndjbedilaaGreatDoorG1RupChecks
set_option linter.unusedVariables false
set_option linter.unusedSimpArgs false
/- What a row asks behind a call that has left all that was there as it was. -/
namespace Go.Vm
open Go Go.RowKit Go.WideShapes Go.ChangeShapes
theorem row_below {H:Type} {enc:TypeId × Value→H} {P:Program} {f:Func} {s:ChangeSpec} {apart fresh handsOn again:Bool} {W W':World} {args:Array Value} {v:Value} {ds gs:List (DataW H)} {before pa pv:List MemPlace}
    (hW:DataW.Whole enc P f.params.toList s.vars apart W args.toList ds gs before) (hb:Below W.heap.size W W') (hp:before=pa ++ pv)
    (hr:∀ (b:Nat) (sp:Nat→Bool) (hd:Bool),DataW.TrodAll enc P W' b sp hd f.resultTypes.toList (v.resultList f.resultTypes.size) (s.fn H (ds ++ gs)).results [])
    (ha:∀ sp:Nat→Bool,(∀ p∈before,sp p.block=true)→DataW.TrodAll enc P W' 0 sp true f.params.toList args.toList (s.fn H (ds ++ gs)).args pa)
    (hv:∀ sp:Nat→Bool,(∀ p∈before,sp p.block=true)→DataW.TrodVars enc P W' sp s.vars (s.fn H (ds ++ gs)).vars pv)
    (ho:∀ (j:Nat) (t:TypeId) (r:Value),f.resultTypes[j]? = some t→(v.resultList f.resultTypes.size)[j]? = some r→Value.okWide P W' .any 0 t r) :
    s.post enc P f apart fresh handsOn again W args v W':=by
  have small:∀ p∈before,decide (p.block < W.heap.size)=true:=fun p h=>decide_eq_true (hW.lt p h)
  refine⟨ds,gs,before,[],pa,pv,hW,hr _ _ _,ha (fun b=>decide (b < W.heap.size)) small,hv _ small,hb.frame _,fun _=>⟨ho,?_⟩⟩
  obtain⟨_,_,_,_,_,hz,hn⟩:=hW
  refine⟨_,_,([] ++ pa) ++ pv,⟨[] ++ pa,pv,trodAll_append (ha _ fun _ _=>rfl) (hr _ _ _),hv _ fun _ _=>rfl,rfl,fun b off hm=>?_,fun h=>?_⟩,?_⟩
  · have hm':MemPlace.cell b off∈before:=by rw[hp]; simpa using hm
    rw[hb.frozen (of_decide_eq_true (small _ hm'))]
    exact hz b off hm'
  · have:=hn h
    rw[hp] at this
    simpa using this
  · intro x hx _
    rw[hp]
    simpa using hx
end Go.Vm
/- From what a row lists of the library's tables to what the evaluator asks. -/
namespace Go.Vm
open Go
theorem tab_of_vars {P:Program} {W:World} {name:String} {k:IntKind} {zs:List Int} {g:Nat} {t e:TypeId} {n:Nat}
    (hg:P.globalNamed name=some g) (hty:(P.globals[g]?).map (·.type)=some t) (ht:P.underlying t=some (.array n e)) (he:P.underlying e=some (.int k)) (hce:P.cellsOf e=1) (hct:P.cellsOf t=n) :
    ∀ {laid:List (String × DataW Unit)} {ps:List MemPlace},DataW.LaidVars P W laid ps→(name,Lib.tabData k zs)∈laid→Lib.TabIs P W name k zs
  | [],_,_,hm=>by cases hm
  | (x,d) :: laid,ps,h,hm=>by
    obtain⟨g',t',cs,fuel,p,q,hg',ht',hvar,hd,hr,_⟩:=h
    rcases List.mem_cons.1 hm with hm | hm
    · cases hm
      obtain rfl:=Option.some.inj (hg.symm.trans hg')
      obtain rfl:=Option.some.inj (hty.symm.trans ht')
      unfold Lib.TabIs
      rw[hvar,← Lib.cells_of_tab ht he hce hct hd]
    · exact tab_of_vars hg hty ht he hce hct hr hm
theorem cells_of_tabIs {P:Program} {W:World} {name:String} {k:IntKind} {zs:List Int} {g:Nat} (h:Lib.TabIs P W name k zs) (hg:P.globalNamed name=some g) :
    g < W.heap.size∧∃ cs T fz,W.heap[g]? = some (.cells cs T fz)∧cs=(zs.map fun z=>Value.int k z).toArray:=by
  unfold Lib.TabIs World.var? at h
  rw[hg] at h
  simp only[Option.bind_some] at h
  split at h
  · rename_i cs T fz e
    cases h
    exact⟨(Array.getElem?_eq_some_iff.1 e).1,_,T,fz,e,rfl⟩
  · cases h
theorem iface_of_trod {P:Program} {w:World} {fuel:Nat} {t:TypeId} {cs:List Value} {ms:Array (String × TypeId)} {nm:String} {d:DataW Unit} {p:List MemPlace} (ht:P.underlying t=some (.interface ms))
    (h:DataW.trod (fun _=>()) P w 0 (fun _=>true) false fuel t cs=some (.iface nm d,p)):∃ u v,cs=[.iface u v]:=by
  cases fuel with
  | zero=>simp[DataW.trod] at h
  | succ fuel=>
    unfold DataW.trod at h
    rw[ht] at h
    match cs,h with
    | [.iface u v],_=>exact⟨u,v,rfl⟩
    | [.nilIface],h=>simp at h
theorem iface_of_vars {P:Program} {W:World} {name nm:String} {g:Nat} {t:TypeId} {ms:Array (String × TypeId)} {dd:DataW Unit}
    (hg:P.globalNamed name=some g) (hty:(P.globals[g]?).map (·.type)=some t) (ht:P.underlying t=some (.interface ms)) :
    ∀ {laid:List (String × DataW Unit)} {ps:List MemPlace},DataW.LaidVars P W laid ps→(name,DataW.iface nm dd)∈laid→g < W.heap.size∧∃ cs T fz,W.heap[g]? = some (.cells cs T fz)∧∃ tp p,cs = #[.iface tp p]
  | [],_,_,hm=>by cases hm
  | (x,d) :: laid,ps,h,hm=>by
    obtain⟨g',t',cs,fuel,p,q,hg',ht',hvar,hd,hr,_⟩:=h
    rcases List.mem_cons.1 hm with hm | hm
    · cases hm
      obtain rfl:=Option.some.inj (hg.symm.trans hg')
      obtain rfl:=Option.some.inj (hty.symm.trans ht')
      obtain⟨u,v,e⟩:=iface_of_trod ht hd
      unfold World.var? at hvar
      rw[hg] at hvar
      simp only[Option.bind_some] at hvar
      split at hvar
      · rename_i cs' T fz e2
        cases hvar
        exact⟨(Array.getElem?_eq_some_iff.1 e2).1,_,T,fz,e2,u,v,by apply Array.ext'; rw[e]⟩
      · cases hvar
    · exact iface_of_vars hg hty ht hr hm
end Go.Vm
set_option maxRecDepth 100000
namespace Go.Proofs
open Go.Shelf
def Tryz.z213f:Nat→Nat
  | 213=>76
  | 265=>91
  | n=>n
def Tryz.z213t:Nat→Nat
  | 9=>9
  | 3=>3
  | n=>n
def Tryz.z213g:Nat→Nat
  | n=>n
def Tryz.z213r:Ren:=⟨Tryz.z213f,Tryz.z213t,Tryz.z213g⟩
theorem Tryz.z213:Lays.n213 Tryz.prog Tryz.z213r where
  mixed:=by kernel_rfl
  f213:=by kernel_rfl
  f265:=by kernel_rfl
  t3:=Tryz.underlying3
  a3:=Tryz.isAgg3
  z3:=Tryz.sizeOf3
  v3:=Tryz.zeroValue3
  t9:=Tryz.underlying9
  a9:=Tryz.isAgg9
  z9:=Tryz.sizeOf9
  v9:=Tryz.zeroValue9
def Tryz.z137f:Nat→Nat
  | 137=>108
  | 217=>112
  | 266=>113
  | n=>n
def Tryz.z137t:Nat→Nat
  | 9=>9
  | 5=>5
  | 3=>3
  | n=>n
def Tryz.z137g:Nat→Nat
  | n=>n
def Tryz.z137r:Ren:=⟨Tryz.z137f,Tryz.z137t,Tryz.z137g⟩
theorem Tryz.z137:Lays.n137 Tryz.prog Tryz.z137r where
  mixed:=by kernel_rfl
  f137:=by kernel_rfl
  f217:=by kernel_rfl
  f266:=by kernel_rfl
  t3:=Tryz.underlying3
  a3:=Tryz.isAgg3
  z3:=Tryz.sizeOf3
  v3:=Tryz.zeroValue3
  t5:=Tryz.underlying5
  a5:=Tryz.isAgg5
  z5:=Tryz.sizeOf5
  v5:=Tryz.zeroValue5
  t9:=Tryz.underlying9
  a9:=Tryz.isAgg9
  z9:=Tryz.sizeOf9
  v9:=Tryz.zeroValue9
def Tryz.z171f:Nat→Nat
  | 171=>55
  | 243=>69
  | 246=>77
  | 283=>83
  | 284=>84
  | 285=>85
  | 286=>86
  | 129=>50
  | 317=>95
  | 318=>96
  | 319=>97
  | 320=>98
  | 337=>104
  | 338=>105
  | n=>n
def Tryz.z171t:Nat→Nat
  | 3=>3
  | 9=>9
  | 2=>2
  | 4=>4
  | 171=>113
  | 0=>0
  | 53=>80
  | 37=>65
  | 5=>5
  | 173=>115
  | 212=>130
  | 51=>78
  | 20=>20
  | 213=>131
  | 46=>57
  | 232=>143
  | 233=>144
  | n=>n
def Tryz.z171g:Nat→Nat
  | 17=>3
  | 18=>4
  | 19=>5
  | n=>n
def Tryz.z171r:Ren:=⟨Tryz.z171f,Tryz.z171t,Tryz.z171g⟩
theorem Tryz.z171:LaysM.n171 Tryz.prog Tryz.z171r where
  mixed:=by kernel_rfl
  f129:=by kernel_rfl
  f171:=by kernel_rfl
  f243:=by kernel_rfl
  f246:=by kernel_rfl
  f283:=by kernel_rfl
  f284:=by kernel_rfl
  f285:=by kernel_rfl
  f286:=by kernel_rfl
  f317:=by kernel_rfl
  f318:=by kernel_rfl
  f319:=by kernel_rfl
  f320:=by kernel_rfl
  f337:=by kernel_rfl
  f338:=by kernel_rfl
  t0:=Tryz.underlying0
  a0:=Tryz.isAgg0
  z0:=Tryz.sizeOf0
  v0:=Tryz.zeroValue0
  t2:=Tryz.underlying2
  a2:=Tryz.isAgg2
  z2:=Tryz.sizeOf2
  v2:=Tryz.zeroValue2
  t3:=Tryz.underlying3
  a3:=Tryz.isAgg3
  z3:=Tryz.sizeOf3
  v3:=Tryz.zeroValue3
  t4:=Tryz.underlying4
  a4:=Tryz.isAgg4
  z4:=Tryz.sizeOf4
  v4:=Tryz.zeroValue4
  t5:=Tryz.underlying5
  a5:=Tryz.isAgg5
  z5:=Tryz.sizeOf5
  v5:=Tryz.zeroValue5
  t9:=Tryz.underlying9
  a9:=Tryz.isAgg9
  z9:=Tryz.sizeOf9
  v9:=Tryz.zeroValue9
  t20:=Tryz.underlying20
  a20:=Tryz.isAgg20
  z20:=Tryz.sizeOf20
  v20:=Tryz.zeroValue20
  t37:=Tryz.underlying65
  a37:=Tryz.isAgg65
  z37:=Tryz.sizeOf65
  v37:=Tryz.zeroValue65
  t46:=Tryz.underlying57
  a46:=Tryz.isAgg57
  z46:=Tryz.sizeOf57
  v46:=Tryz.zeroValue57
  t51:=Tryz.underlying78
  a51:=Tryz.isAgg78
  z51:=Tryz.sizeOf78
  v51:=Tryz.zeroValue78
  t53:=Tryz.underlying80
  a53:=Tryz.isAgg80
  z53:=Tryz.sizeOf80
  v53:=Tryz.zeroValue80
  t171:=Tryz.underlying113
  a171:=Tryz.isAgg113
  z171:=Tryz.sizeOf113
  v171:=Tryz.zeroValue113
  t173:=Tryz.underlying115
  a173:=Tryz.isAgg115
  z173:=Tryz.sizeOf115
  v173:=Tryz.zeroValue115
  t212:=Tryz.underlying130
  a212:=Tryz.isAgg130
  z212:=Tryz.sizeOf130
  v212:=Tryz.zeroValue130
  t213:=Tryz.underlying131
  a213:=Tryz.isAgg131
  z213:=Tryz.sizeOf131
  t232:=Tryz.underlying143
  a232:=Tryz.isAgg143
  z232:=Tryz.sizeOf143
  v232:=Tryz.zeroValue143
  t233:=Tryz.underlying144
  a233:=Tryz.isAgg144
  z233:=Tryz.sizeOf144
  v233:=Tryz.zeroValue144
  g17:=by kernel_rfl
  g18:=by kernel_rfl
  g19:=by kernel_rfl
  i0:=by kernel_rfl
  i2:=by kernel_rfl
  i3:=by kernel_rfl
  i4:=by kernel_rfl
  i5:=by kernel_rfl
  i9:=by kernel_rfl
  i20:=by kernel_rfl
  i37:=by kernel_rfl
  i46:=by kernel_rfl
  i51:=by kernel_rfl
  i53:=by kernel_rfl
  i171:=by kernel_rfl
  i173:=by kernel_rfl
  i212:=by kernel_rfl
  i232:=by kernel_rfl
  i233:=by kernel_rfl
  m17:=by kernel_rfl
  m18:=by kernel_rfl
  m19:=by kernel_rfl
def Tryz.z172f:Nat→Nat
  | 172=>56
  | 244=>70
  | 245=>71
  | 247=>78
  | 279=>79
  | 280=>80
  | 281=>81
  | 282=>82
  | 287=>92
  | 316=>93
  | 171=>55
  | 205=>94
  | 321=>102
  | 322=>103
  | 243=>69
  | 246=>77
  | 283=>83
  | 284=>84
  | 285=>85
  | 286=>86
  | 129=>50
  | 317=>95
  | 318=>96
  | 319=>97
  | 320=>98
  | 337=>104
  | 338=>105
  | n=>n
def Tryz.z172t:Nat→Nat
  | 9=>9
  | 3=>3
  | 75=>87
  | 76=>88
  | 4=>4
  | 5=>5
  | 167=>107
  | 37=>65
  | 0=>0
  | 85=>108
  | 2=>2
  | 168=>110
  | 53=>80
  | 175=>124
  | 46=>57
  | 210=>127
  | 127=>138
  | 145=>141
  | 143=>139
  | 21=>21
  | 171=>113
  | 173=>115
  | 212=>130
  | 51=>78
  | 20=>20
  | 213=>131
  | 232=>143
  | 233=>144
  | 80=>151
  | n=>n
def Tryz.z172g:Nat→Nat
  | 15=>1
  | 16=>2
  | 17=>3
  | 18=>4
  | 19=>5
  | n=>n
def Tryz.z172r:Ren:=⟨Tryz.z172f,Tryz.z172t,Tryz.z172g⟩
theorem Tryz.z172:LaysC.n172 Tryz.prog Tryz.z172r where
  mixed:=by kernel_rfl
  f129:=by kernel_rfl
  f171:=by kernel_rfl
  f172:=by kernel_rfl
  f205:=by kernel_rfl
  f243:=by kernel_rfl
  f244:=by kernel_rfl
  f245:=by kernel_rfl
  f246:=by kernel_rfl
  f247:=by kernel_rfl
  f279:=by kernel_rfl
  f280:=by kernel_rfl
  f281:=by kernel_rfl
  f282:=by kernel_rfl
  f283:=by kernel_rfl
  f284:=by kernel_rfl
  f285:=by kernel_rfl
  f286:=by kernel_rfl
  f287:=by kernel_rfl
  f316:=by kernel_rfl
  f317:=by kernel_rfl
  f318:=by kernel_rfl
  f319:=by kernel_rfl
  f320:=by kernel_rfl
  f321:=by kernel_rfl
  f322:=by kernel_rfl
  f337:=by kernel_rfl
  f338:=by kernel_rfl
  t0:=Tryz.underlying0
  a0:=Tryz.isAgg0
  z0:=Tryz.sizeOf0
  v0:=Tryz.zeroValue0
  t2:=Tryz.underlying2
  a2:=Tryz.isAgg2
  z2:=Tryz.sizeOf2
  v2:=Tryz.zeroValue2
  t3:=Tryz.underlying3
  a3:=Tryz.isAgg3
  z3:=Tryz.sizeOf3
  v3:=Tryz.zeroValue3
  t4:=Tryz.underlying4
  a4:=Tryz.isAgg4
  z4:=Tryz.sizeOf4
  v4:=Tryz.zeroValue4
  t5:=Tryz.underlying5
  a5:=Tryz.isAgg5
  z5:=Tryz.sizeOf5
  v5:=Tryz.zeroValue5
  t9:=Tryz.underlying9
  a9:=Tryz.isAgg9
  z9:=Tryz.sizeOf9
  v9:=Tryz.zeroValue9
  t20:=Tryz.underlying20
  a20:=Tryz.isAgg20
  z20:=Tryz.sizeOf20
  v20:=Tryz.zeroValue20
  t21:=Tryz.underlying21
  a21:=Tryz.isAgg21
  z21:=Tryz.sizeOf21
  v21:=Tryz.zeroValue21
  t37:=Tryz.underlying65
  a37:=Tryz.isAgg65
  z37:=Tryz.sizeOf65
  v37:=Tryz.zeroValue65
  t46:=Tryz.underlying57
  a46:=Tryz.isAgg57
  z46:=Tryz.sizeOf57
  v46:=Tryz.zeroValue57
  t51:=Tryz.underlying78
  a51:=Tryz.isAgg78
  z51:=Tryz.sizeOf78
  v51:=Tryz.zeroValue78
  t53:=Tryz.underlying80
  a53:=Tryz.isAgg80
  z53:=Tryz.sizeOf80
  v53:=Tryz.zeroValue80
  t75:=Tryz.underlying87
  a75:=Tryz.isAgg87
  z75:=Tryz.sizeOf87
  v75:=Tryz.zeroValue87
  t76:=Tryz.underlying88
  a76:=Tryz.isAgg88
  z76:=Tryz.sizeOf88
  v76:=Tryz.zeroValue88
  t85:=Tryz.underlying108
  a85:=Tryz.isAgg108
  z85:=Tryz.sizeOf108
  v85:=Tryz.zeroValue108
  t127:=Tryz.underlying138
  a127:=Tryz.isAgg138
  z127:=Tryz.sizeOf138
  v127:=Tryz.zeroValue138
  t143:=Tryz.underlying139
  a143:=Tryz.isAgg139
  z143:=Tryz.sizeOf139
  v143:=Tryz.zeroValue139
  t145:=Tryz.underlying141
  a145:=Tryz.isAgg141
  z145:=Tryz.sizeOf141
  v145:=Tryz.zeroValue141
  t167:=Tryz.underlying107
  a167:=Tryz.isAgg107
  z167:=Tryz.sizeOf107
  v167:=Tryz.zeroValue107
  t168:=Tryz.underlying110
  a168:=Tryz.isAgg110
  z168:=Tryz.sizeOf110
  v168:=Tryz.zeroValue110
  t171:=Tryz.underlying113
  a171:=Tryz.isAgg113
  z171:=Tryz.sizeOf113
  v171:=Tryz.zeroValue113
  t173:=Tryz.underlying115
  a173:=Tryz.isAgg115
  z173:=Tryz.sizeOf115
  v173:=Tryz.zeroValue115
  t175:=Tryz.underlying124
  a175:=Tryz.isAgg124
  z175:=Tryz.sizeOf124
  v175:=Tryz.zeroValue124
  t210:=Tryz.underlying127
  a210:=Tryz.isAgg127
  z210:=Tryz.sizeOf127
  v210:=Tryz.zeroValue127
  t212:=Tryz.underlying130
  a212:=Tryz.isAgg130
  z212:=Tryz.sizeOf130
  v212:=Tryz.zeroValue130
  t213:=Tryz.underlying131
  a213:=Tryz.isAgg131
  z213:=Tryz.sizeOf131
  t232:=Tryz.underlying143
  a232:=Tryz.isAgg143
  z232:=Tryz.sizeOf143
  v232:=Tryz.zeroValue143
  t233:=Tryz.underlying144
  a233:=Tryz.isAgg144
  z233:=Tryz.sizeOf144
  v233:=Tryz.zeroValue144
  g15:=by kernel_rfl
  g16:=by kernel_rfl
  g17:=by kernel_rfl
  g18:=by kernel_rfl
  g19:=by kernel_rfl
  t80:=Tryz.underlying151
  a80:=Tryz.isAgg151
  z80:=Tryz.sizeOf151
  v80:=Tryz.zeroValue151
  i0:=by kernel_rfl
  i2:=by kernel_rfl
  i3:=by kernel_rfl
  i4:=by kernel_rfl
  i5:=by kernel_rfl
  i9:=by kernel_rfl
  i20:=by kernel_rfl
  i21:=by kernel_rfl
  i37:=by kernel_rfl
  i46:=by kernel_rfl
  i51:=by kernel_rfl
  i53:=by kernel_rfl
  i75:=by kernel_rfl
  i76:=by kernel_rfl
  i80:=by kernel_rfl
  i85:=by kernel_rfl
  i127:=by kernel_rfl
  i143:=by kernel_rfl
  i145:=by kernel_rfl
  i167:=by kernel_rfl
  i168:=by kernel_rfl
  i171:=by kernel_rfl
  i173:=by kernel_rfl
  i175:=by kernel_rfl
  i210:=by kernel_rfl
  i212:=by kernel_rfl
  i232:=by kernel_rfl
  i233:=by kernel_rfl
  m15:=by kernel_rfl
  m16:=by kernel_rfl
  m17:=by kernel_rfl
  m18:=by kernel_rfl
  m19:=by kernel_rfl
  c0:=by kernel_rfl
  c2:=by kernel_rfl
  c3:=by kernel_rfl
  c4:=by kernel_rfl
  c5:=by kernel_rfl
  c9:=by kernel_rfl
  c20:=by kernel_rfl
  c21:=by kernel_rfl
  c37:=by kernel_rfl
  c46:=by kernel_rfl
  c51:=by kernel_rfl
  c53:=by kernel_rfl
  c75:=by kernel_rfl
  c76:=by kernel_rfl
  c80:=by kernel_rfl
  c85:=by kernel_rfl
  c127:=by kernel_rfl
  c143:=by kernel_rfl
  c145:=by kernel_rfl
  c167:=by kernel_rfl
  c168:=by kernel_rfl
  c171:=by kernel_rfl
  c173:=by kernel_rfl
  c175:=by kernel_rfl
  c210:=by kernel_rfl
  c212:=by kernel_rfl
  c213:=by kernel_rfl
  c232:=by kernel_rfl
  c233:=by kernel_rfl
def Tryz.z288f:Nat→Nat
  | 288=>72
  | 283=>83
  | 284=>84
  | 285=>85
  | 286=>86
  | 129=>50
  | 317=>95
  | 318=>96
  | 319=>97
  | 320=>98
  | 337=>104
  | 338=>105
  | n=>n
def Tryz.z288t:Nat→Nat
  | 37=>65
  | 53=>80
  | 3=>3
  | 4=>4
  | 9=>9
  | 171=>113
  | 0=>0
  | 173=>115
  | 212=>130
  | 51=>78
  | 5=>5
  | 20=>20
  | 213=>131
  | 46=>57
  | 232=>143
  | 233=>144
  | n=>n
def Tryz.z288g:Nat→Nat
  | 17=>3
  | 18=>4
  | 19=>5
  | n=>n
def Tryz.z288r:Ren:=⟨Tryz.z288f,Tryz.z288t,Tryz.z288g⟩
theorem Tryz.z288:LaysM.n288 Tryz.prog Tryz.z288r where
  mixed:=by kernel_rfl
  f129:=by kernel_rfl
  f283:=by kernel_rfl
  f284:=by kernel_rfl
  f285:=by kernel_rfl
  f286:=by kernel_rfl
  f288:=by kernel_rfl
  f317:=by kernel_rfl
  f318:=by kernel_rfl
  f319:=by kernel_rfl
  f320:=by kernel_rfl
  f337:=by kernel_rfl
  f338:=by kernel_rfl
  t0:=Tryz.underlying0
  a0:=Tryz.isAgg0
  z0:=Tryz.sizeOf0
  v0:=Tryz.zeroValue0
  t3:=Tryz.underlying3
  a3:=Tryz.isAgg3
  z3:=Tryz.sizeOf3
  v3:=Tryz.zeroValue3
  t4:=Tryz.underlying4
  a4:=Tryz.isAgg4
  z4:=Tryz.sizeOf4
  v4:=Tryz.zeroValue4
  t5:=Tryz.underlying5
  a5:=Tryz.isAgg5
  z5:=Tryz.sizeOf5
  v5:=Tryz.zeroValue5
  t9:=Tryz.underlying9
  a9:=Tryz.isAgg9
  z9:=Tryz.sizeOf9
  v9:=Tryz.zeroValue9
  t20:=Tryz.underlying20
  a20:=Tryz.isAgg20
  z20:=Tryz.sizeOf20
  v20:=Tryz.zeroValue20
  t37:=Tryz.underlying65
  a37:=Tryz.isAgg65
  z37:=Tryz.sizeOf65
  v37:=Tryz.zeroValue65
  t46:=Tryz.underlying57
  a46:=Tryz.isAgg57
  z46:=Tryz.sizeOf57
  v46:=Tryz.zeroValue57
  t51:=Tryz.underlying78
  a51:=Tryz.isAgg78
  z51:=Tryz.sizeOf78
  v51:=Tryz.zeroValue78
  t53:=Tryz.underlying80
  a53:=Tryz.isAgg80
  z53:=Tryz.sizeOf80
  v53:=Tryz.zeroValue80
  t171:=Tryz.underlying113
  a171:=Tryz.isAgg113
  z171:=Tryz.sizeOf113
  v171:=Tryz.zeroValue113
  t173:=Tryz.underlying115
  a173:=Tryz.isAgg115
  z173:=Tryz.sizeOf115
  v173:=Tryz.zeroValue115
  t212:=Tryz.underlying130
  a212:=Tryz.isAgg130
  z212:=Tryz.sizeOf130
  v212:=Tryz.zeroValue130
  t213:=Tryz.underlying131
  a213:=Tryz.isAgg131
  z213:=Tryz.sizeOf131
  t232:=Tryz.underlying143
  a232:=Tryz.isAgg143
  z232:=Tryz.sizeOf143
  v232:=Tryz.zeroValue143
  t233:=Tryz.underlying144
  a233:=Tryz.isAgg144
  z233:=Tryz.sizeOf144
  v233:=Tryz.zeroValue144
  g17:=by kernel_rfl
  g18:=by kernel_rfl
  g19:=by kernel_rfl
  i0:=by kernel_rfl
  i3:=by kernel_rfl
  i4:=by kernel_rfl
  i5:=by kernel_rfl
  i9:=by kernel_rfl
  i20:=by kernel_rfl
  i37:=by kernel_rfl
  i46:=by kernel_rfl
  i51:=by kernel_rfl
  i53:=by kernel_rfl
  i171:=by kernel_rfl
  i173:=by kernel_rfl
  i212:=by kernel_rfl
  i232:=by kernel_rfl
  i233:=by kernel_rfl
  m17:=by kernel_rfl
  m18:=by kernel_rfl
  m19:=by kernel_rfl
def Tryz.z6sff:Nat→Nat
  | 6=>17
  | 15=>30
  | 14=>29
  | 28=>49
  | 29=>50
  | 20=>41
  | 21=>42
  | 22=>43
  | 23=>44
  | 24=>45
  | 25=>46
  | 26=>47
  | 27=>48
  | 46=>60
  | 47=>61
  | 48=>62
  | 49=>63
  | 50=>64
  | 57=>73
  | n=>n
def Tryz.z6sft:Nat→Nat
  | 22=>23
  | 24=>3
  | 25=>39
  | 3=>3
  | 39=>57
  | 0=>0
  | 53=>78
  | 55=>80
  | 4=>4
  | 46=>71
  | 45=>70
  | 50=>75
  | 5=>5
  | 9=>9
  | 66=>92
  | 70=>96
  | 76=>102
  | 77=>103
  | n=>n
def Tryz.z6sfg:Nat→Nat
  | n=>n
def Tryz.z6sfr:Ren:=⟨Tryz.z6sff,Tryz.z6sft,Tryz.z6sfg⟩
theorem Tryz.z6sf:SlLaysF.n6 Tryz.prog Tryz.z6sfr where
  mixed:=by kernel_rfl
  f6:=Exists.intro "slices.SortFunc[[]int,int]" (And.intro (by decide) (by kernel_rfl))
  f14:=Exists.intro "slices.pdqsortCmpFunc[int]" (And.intro (by decide) (by kernel_rfl))
  f15:=by kernel_rfl
  f20:=Exists.intro "slices.insertionSortCmpFunc[int]" (And.intro (by decide) (by kernel_rfl))
  f21:=Exists.intro "slices.heapSortCmpFunc[int]" (And.intro (by decide) (by kernel_rfl))
  f22:=Exists.intro "slices.breakPatternsCmpFunc[int]" (And.intro (by decide) (by kernel_rfl))
  f23:=Exists.intro "slices.choosePivotCmpFunc[int]" (And.intro (by decide) (by kernel_rfl))
  f24:=Exists.intro "slices.reverseRangeCmpFunc[int]" (And.intro (by decide) (by kernel_rfl))
  f25:=Exists.intro "slices.partialInsertionSortCmpFunc[int]" (And.intro (by decide) (by kernel_rfl))
  f26:=Exists.intro "slices.partitionEqualCmpFunc[int]" (And.intro (by decide) (by kernel_rfl))
  f27:=Exists.intro "slices.partitionCmpFunc[int]" (And.intro (by decide) (by kernel_rfl))
  f28:=by kernel_rfl
  f29:=by kernel_rfl
  f46:=Exists.intro "slices.siftDownCmpFunc[int]" (And.intro (by decide) (by kernel_rfl))
  f47:=by kernel_rfl
  f48:=by kernel_rfl
  f49:=Exists.intro "slices.medianAdjacentCmpFunc[int]" (And.intro (by decide) (by kernel_rfl))
  f50:=Exists.intro "slices.medianCmpFunc[int]" (And.intro (by decide) (by kernel_rfl))
  f57:=Exists.intro "slices.order2CmpFunc[int]" (And.intro (by decide) (by kernel_rfl))
  t0:=Tryz.underlying0
  a0:=Tryz.isAgg0
  z0:=Tryz.sizeOf0
  v0:=Tryz.zeroValue0
  t3:=Tryz.underlying3
  a3:=Tryz.isAgg3
  z3:=Tryz.sizeOf3
  v3:=Tryz.zeroValue3
  t4:=Tryz.underlying4
  a4:=Tryz.isAgg4
  z4:=Tryz.sizeOf4
  v4:=Tryz.zeroValue4
  t5:=Tryz.underlying5
  a5:=Tryz.isAgg5
  z5:=Tryz.sizeOf5
  v5:=Tryz.zeroValue5
  t9:=Tryz.underlying9
  a9:=Tryz.isAgg9
  z9:=Tryz.sizeOf9
  v9:=Tryz.zeroValue9
  t22:=Tryz.underlying23
  a22:=Tryz.isAgg23
  z22:=Tryz.sizeOf23
  v22:=Tryz.zeroValue23
  a24:=Tryz.isAgg3
  z24:=Tryz.sizeOf3
  t25:=Tryz.underlying39
  a25:=Tryz.isAgg39
  z25:=Tryz.sizeOf39
  v25:=Tryz.zeroValue39
  t39:=Tryz.underlying57
  a39:=Tryz.isAgg57
  z39:=Tryz.sizeOf57
  v39:=Tryz.zeroValue57
  t45:=Tryz.underlying70
  a45:=Tryz.isAgg70
  z45:=Tryz.sizeOf70
  v45:=Tryz.zeroValue70
  t46:=Tryz.underlying71
  a46:=Tryz.isAgg71
  z46:=Tryz.sizeOf71
  v46:=Tryz.zeroValue71
  t50:=Tryz.underlying75
  a50:=Tryz.isAgg75
  z50:=Tryz.sizeOf75
  v50:=Tryz.zeroValue75
  t53:=Tryz.underlying78
  a53:=Tryz.isAgg78
  z53:=Tryz.sizeOf78
  v53:=Tryz.zeroValue78
  t55:=Tryz.underlying80
  a55:=Tryz.isAgg80
  z55:=Tryz.sizeOf80
  v55:=Tryz.zeroValue80
  t66:=Tryz.underlying92
  a66:=Tryz.isAgg92
  z66:=Tryz.sizeOf92
  v66:=Tryz.zeroValue92
  t70:=Tryz.underlying96
  a70:=Tryz.isAgg96
  z70:=Tryz.sizeOf96
  v70:=Tryz.zeroValue96
  t76:=Tryz.underlying102
  a76:=Tryz.isAgg102
  z76:=Tryz.sizeOf102
  v76:=Tryz.zeroValue102
  t77:=Tryz.underlying103
  a77:=Tryz.isAgg103
  z77:=Tryz.sizeOf103
  v77:=Tryz.zeroValue103
end Go.Proofs
set_option linter.unusedVariables false
set_option linter.unusedSimpArgs false
namespace Go.Proofs
open Go Go.RowKit Go.Sort
theorem Tryz.size_calls (x:Int) (h1 : -4096≤x) (h2:x≤4096) (W:World):Calls Tryz.prog 19 #[.int .i64 x] W fun e w'=>e = .returned (.int .i64 (x.natAbs:Int))∧w' = W:=by
  have key:∀ z:Int,z=(x.natAbs:Int)→Value.int .i64 z=Value.int .i64 (x.natAbs:Int):=fun z h=>by rw[h]
  go_enter Tryz.func19,Tryz.ntmps19
  go_wp2
  all_goals (go_ret; exact⟨congrArg Ending.returned (key _ (by omega)),rfl⟩)
theorem Tryz.cmp_calls (x y:Int) (h1 : -4096≤x) (h2:x≤4096) (h3 : -4096≤y) (h4:y≤4096) (W:World):Calls Tryz.prog 18 #[.int .i64 x,.int .i64 y] W fun e w'=>e = .returned (.int .i64 ((x.natAbs:Int) - y.natAbs))∧∃ q os',w' = Sort.grow (W.drewN q) os':=by
  have hx:=fun W=>Tryz.size_calls x h1 h2 W
  have hy:=fun W=>Tryz.size_calls y h3 h4 W
  have e:IntKind.i64.wrap ((x.natAbs:Int) - y.natAbs)=(x.natAbs:Int) - y.natAbs:=IntWalk.i64_in _ (by omega)
  have e2:IntKind.i64.wrap (x - y)=x - y:=IntWalk.i64_in _ (by omega)
  go_enter Tryz.func18,Tryz.ntmps18
  go_wp2_with (go_at_call 19; first | (refine (hx _).mono ?_; rintro e w' ⟨rfl,rfl⟩) | (refine (hy _).mono ?_; rintro e w' ⟨rfl,rfl⟩))
  go_ret
  exact⟨rfl,0,#[],(grow_empty _).symm⟩
end Go.Proofs
namespace Go.Vm
open Go Go.RowKit Go.Proofs
def funcOk (fn:Func):Bool:=!(fn.name == "runtime.NumGoroutine") && (match fn.body with | some c=>codeOk c | none=>true)
theorem funcsOk:E0.P.funcs.toList.all funcOk=true:=by kernel_rfl
theorem pk_bytealg_CompareString:∀ args v,cmpP args=some v→∀ (K:Cx) (base:Nat) (h:AHeap) (cargs:Array Value),HRel K base h→VRels K args cargs.toList→∀ N,CallsIn Fence.wide N E0.P 76 cargs K.w (CallPost K base h K.c v):=prim_ss fun args v hv=>by
  unfold cmpP at hv
  split at hv
  · rename_i a b
    cases hv
    exact⟨a,b,_,rfl,rfl,fun w=>(Go.Proofs.Any.bytealg_CompareString Go.Proofs.Tryz.z213 a b w).mono fun e w' ⟨h1,h2⟩=>⟨h1,h2 ▸ Below.refl _ _⟩⟩
  · cases hv
theorem pk_strings_IndexByte:∀ args v,ixbP args=some v→∀ (K:Cx) (base:Nat) (h:AHeap) (cargs:Array Value),HRel K base h→VRels K args cargs.toList→∀ N,CallsIn Fence.wide N E0.P 108 cargs K.w (CallPost K base h K.c v):=prim_si fun args v hv=>by
  unfold ixbP at hv
  split at hv
  · rename_i a c
    cases hv
    exact⟨a,.u8,c,_,rfl,rfl,fun w=>(Go.Proofs.Any.strings_IndexByte Go.Proofs.Tryz.z137 a c w).mono fun e w' ⟨h1,h2⟩=>⟨h1,h2 ▸ Below.refl _ _⟩⟩
  · cases hv
theorem pk_strconv_Itoa:∀ args v,itoaP args=some v→∀ (K:Cx) (base:Nat) (h:AHeap) (cargs:Array Value),HRel K base h→VRels K args cargs.toList→∀ N,CallsIn Fence.wide N E0.P 55 cargs K.w (CallPost K base h K.c v):=prim_itoa (b:=3) (by kernel_rfl) (List.mem_of_getElem? (i:=0) rfl) (fun n h0 h1 w ht=>Go.Proofs.Any.strconv_Itoa Go.Proofs.Tryz.z171 n h0 h1 w ht)
theorem pk_strconv_Atoi:∀ args v,atoiP args=some v→∀ (K:Cx) (base:Nat) (h:AHeap) (cargs:Array Value),HRel K base h→VRels K args cargs.toList→∀ N,CallsIn Fence.wide N E0.P 56 cargs K.w (CallPost K base h K.c v):=prim_atoi Go.Proofs.Tryz.z172 (b1:=1) (b2:=2) (by kernel_rfl) (List.mem_of_getElem? (i:=1) rfl) (by kernel_rfl) (List.mem_of_getElem? (i:=2) rfl)
theorem pk_slices_SortFuncI:∀ args h n v h' n',(sortOM 18 decI (Value.int .i64) srtSz) args h n=some (v,h',n')→∀ (K:Cx) (base:Nat) (cargs:Array Value),HRel K base h→K.c=n→VRels K args cargs.toList→∀ N,CallsIn Fence.wide N E0.P 17 cargs K.w (CallPost K base h' n' v):=prim_sortO decI_ok srtSz_len (fun _=>rfl) (fun p cap w=>Go.Proofs.AnyF.slices_SortFunc_none (sf0 Go.Proofs.Tryz.z6sf) p cap _ w) (fun blk off cap zs zs' w hs hne hH hb hl=>sortSz_h1 Go.Proofs.Tryz.z6sf (Go.Proofs.enters_of Go.Proofs.Tryz.func18 (by kernel_rfl) rfl) Go.Proofs.Tryz.cmp_calls hs hne hH hb hl)
theorem pk_strconv_AppendUint:∀ args h n v h' n',(appUM Go.Proofs.Tryz.prog 5) args h n=some (v,h',n')→∀ (K:Cx) (base:Nat) (cargs:Array Value),HRel K base h→K.c=n→VRels K args cargs.toList→∀ N,CallsIn Fence.wide N E0.P 72 cargs K.w (CallPost K base h' n' v):=prim_appU Go.Proofs.Tryz.z288 (b:=3) (by kernel_rfl) (List.mem_of_getElem? (i:=0) rfl)
theorem envOk0:EnvOk E0:=by
  have key:∀ (f:FuncId) (fn:Func),E0.P.funcs[f]? = some fn→funcOk fn=true:=fun f fn hf=>by
    have:=List.all_eq_true.1 funcsOk fn (by
      obtain⟨h1,h2⟩:=Array.getElem?_eq_some_iff.1 hf
      rw[← h2]
      simp)
    exact this
  refine⟨fun f fn hf=>?_,fun f fn c hf hc=>?_,fun g p hp=>?_,fun g p hp=>?_⟩
  · have:=key f fn hf
    unfold funcOk at this
    rw[Bool.and_eq_true] at this
    simpa using this.1
  · have:=key f fn hf
    unfold funcOk at this
    rw[Bool.and_eq_true,hc] at this
    exact this.2
  · simp only[E0] at hp
    split at hp
    · rename_i hg
      subst hg
      cases hp
      exact⟨⟨Go.Proofs.Tryz.f76,by kernel_rfl,by kernel_rfl⟩,pk_bytealg_CompareString⟩
    · skip
      split at hp
      · rename_i hg
        subst hg
        cases hp
        exact⟨⟨Go.Proofs.Tryz.f108,by kernel_rfl,by kernel_rfl⟩,pk_strings_IndexByte⟩
      · skip
        split at hp
        · rename_i hg
          subst hg
          cases hp
          exact⟨⟨Go.Proofs.Tryz.f55,by kernel_rfl,by kernel_rfl⟩,pk_strconv_Itoa⟩
        · skip
          split at hp
          · rename_i hg
            subst hg
            cases hp
            exact⟨⟨Go.Proofs.Tryz.f56,by kernel_rfl,by kernel_rfl⟩,pk_strconv_Atoi⟩
          · skip
            cases hp
  · simp only[E0] at hp
    split at hp
    · rename_i hg
      subst hg
      cases hp
      exact⟨⟨Go.Proofs.Tryz.f17,by kernel_rfl,by kernel_rfl⟩,pk_slices_SortFuncI⟩
    · skip
      split at hp
      · rename_i hg
        subst hg
        cases hp
        exact⟨⟨Go.Proofs.Tryz.f72,by kernel_rfl,by kernel_rfl⟩,pk_strconv_AppendUint⟩
      · skip
        cases hp
end Go.Vm
/- Keys collected in any order, and sorted. -/
namespace Go.Vm
open Go Go.Maps
theorem srtSz_perm {a b zs:List Int} (h:srtSz a=some zs) (hp:b.Perm a):srtSz b=some zs:=by
  unfold srtSz at h ⊢
  split at h
  case isFalse=>cases h
  rename_i hg
  obtain⟨h1,h2⟩:=hg
  cases h
  have g1:(b.all fun x=>decide (x.natAbs≤4096))=true:=List.all_eq_true.2 fun x hx=>List.all_eq_true.1 h1 x (hp.mem_iff.1 hx)
  have g2:(b.map Int.natAbs).Nodup:=(hp.map Int.natAbs).nodup_iff.2 h2
  rw[if_pos ⟨g1,g2⟩]
  refine congrArg some ?_
  have tr:∀ x y z:Int,(!decide ((y.natAbs:Int) - x.natAbs < 0))=true→(!decide ((z.natAbs:Int) - y.natAbs < 0))=true→(!decide ((z.natAbs:Int) - x.natAbs < 0))=true:=fun x y z q1 q2=>by
    simp only[Bool.not_eq_true',decide_eq_false_iff_not] at *
    omega
  have to:∀ x y:Int,((!decide ((y.natAbs:Int) - x.natAbs < 0)) || (!decide ((x.natAbs:Int) - y.natAbs < 0)))=true:=fun x y=>by
    simp only[Bool.or_eq_true,Bool.not_eq_true',decide_eq_false_iff_not]
    omega
  refine List.Perm.eq_of_pairwise (le:=fun x y=>(!decide ((y.natAbs:Int) - x.natAbs < 0))=true) (fun x y hx hy q1 q2=>?_) (List.pairwise_mergeSort tr to b) (List.pairwise_mergeSort tr to a) (((List.mergeSort_perm b _).trans hp).trans (List.mergeSort_perm a _).symm)
  have hx:=hp.mem_iff.1 ((List.mergeSort_perm b _).mem_iff.1 hx)
  have hy:=(List.mergeSort_perm a _).mem_iff.1 hy
  simp only[Bool.not_eq_true',decide_eq_false_iff_not] at q1 q2
  have e:x.natAbs=y.natAbs:=by omega
  obtain⟨i,hi,rfl⟩:=List.mem_iff_getElem.1 hx
  obtain⟨j,hj,rfl⟩:=List.mem_iff_getElem.1 hy
  have hpw:=List.pairwise_iff_getElem.1 (List.nodup_iff_pairwise_ne.1 h2)
  rcases Nat.lt_trichotomy i j with h | h | h
  · exact absurd (by rw[List.getElem_map,List.getElem_map]; exact e) (hpw i j (by simpa using hi) (by simpa using hj) h)
  · subst h; rfl
  · exact absurd (by rw[List.getElem_map,List.getElem_map]; exact e.symm) (hpw j i (by simpa using hj) (by simpa using hi) h)
structure EntsOf (l:List (Int × Int)) (es:Array MapEntry):Prop where
  size:es.size=l.length
  get:∀ (i:Nat) (p:Int × Int),l[i]? = some p→es[i]? = some ⟨.int .i64 p.1,.int .i64 p.2,i⟩
variable {l:List (Int × Int)} {es:Array MapEntry} {seen:Array Nat}
theorem EntsOf.at (h:EntsOf l es) {i:Nat} (hi:i < es.toList.length):∃ p,l[i]? = some p∧es.toList[i]=⟨.int .i64 p.1,.int .i64 p.2,i⟩:=by
  have hi2:i < es.size:=by simpa using hi
  have hl:i < l.length:=by rw[← h.size]; exact hi2
  have h1:=h.get i l[i] (List.getElem?_eq_getElem hl)
  refine⟨l[i],List.getElem?_eq_getElem hl,?_⟩
  rw[Array.getElem?_eq_getElem hi2] at h1
  rw[Array.getElem_toList]
  exact Option.some.inj h1
theorem EntsOf.mem (h:EntsOf l es) {x:MapEntry} (hx:x∈es.toList):∃ p,l[x.born]? = some p∧x=⟨.int .i64 p.1,.int .i64 p.2,x.born⟩:=by
  obtain⟨i,hi,rfl⟩:=List.getElem_of_mem hx
  obtain⟨p,h1,h2⟩:=h.at hi
  rw[h2]
  exact⟨p,h1,rfl⟩
theorem EntsOf.hold (h:EntsOf l es):∀ x∈es.toList,x.born < es.size:=fun x hx=>by
  obtain⟨p,h1,_⟩:=h.mem hx
  rw[h.size]
  exact (List.getElem?_eq_some_iff.1 h1).1
theorem EntsOf.kv (h:EntsOf l es):∀ x∈es.toList,∃ p q:Int,x.key = .int .i64 p∧x.val = .int .i64 q:=fun x hx=>by
  obtain⟨p,_,h2⟩:=h.mem hx
  rw[h2]
  exact⟨p.1,p.2,rfl,rfl⟩
theorem EntsOf.borns (h:EntsOf l es):es.toList.map (·.born)=List.range es.size:=by
  refine List.ext_getElem (by simp) fun i h1 h2=>?_
  obtain⟨p,_,e⟩:=h.at (i:=i) (by simpa using h1)
  rw[List.getElem_map,e,List.getElem_range]
theorem EntsOf.nodup (h:EntsOf l es):(es.toList.map (·.born)).Nodup:=by
  rw[h.borns]
  exact List.nodup_range
def pickM (p:Int × Int):Option Int:=if p.2 > 0 then some p.1 else none
def colS (l:List (Int × Int)) (seen:List Nat):List Int:=seen.filterMap fun i=>(l[i]?).bind pickM
theorem colS_snoc (l:List (Int × Int)) (s:List Nat) {i:Nat} {p q:Int} (h:l[i]? = some (p,q)):colS l (s ++ [i])=if q > 0 then colS l s ++ [p] else colS l s:=by
  unfold colS
  rw[List.filterMap_append]
  by_cases hq:q > 0
  · rw[if_pos hq]; simp[h,pickM,hq]
  · rw[if_neg hq]; simp[h,pickM,hq]
theorem colS_all (l:List (Int × Int)):colS l (List.range l.length)=keysM l:=by
  have e:(List.range l.length).map (fun i=>l[i]?)=l.map some:=by
    refine List.ext_getElem (by simp) fun i h1 h2=>?_
    have hi:i < l.length:=by simpa using h2
    simp[hi]
  have e2:colS l (List.range l.length)=((List.range l.length).map (fun i=>l[i]?)).filterMap fun o=>o.bind pickM:=by
    unfold colS
    rw[List.filterMap_map]
    rfl
  rw[e2,e,List.filterMap_map]
  rfl
theorem EntsOf.left (h:EntsOf l es) {x:MapEntry} {p q:Int} (hx:x∈(leftOf es seen).toList) (hp:x.key = .int .i64 p) (hq:x.val = .int .i64 q):l[x.born]? = some (p,q)∧x.born∉seen.toList∧x.born < es.size:=by
  obtain⟨h1,h2⟩:=mem_left hx
  obtain⟨z,h3,h4⟩:=h.mem h1
  rw[h4] at hp hq
  simp only[Value.int.injEq,true_and] at hp hq
  refine⟨?_,fun hm=>?_,h.hold x h1⟩
  · rw[h3,← hp,← hq]
  · have:seen.contains x.born=true:=by simpa using hm
    rw[this] at h2
    cases h2
theorem EntsOf.perm (h:EntsOf l es) (h0:(leftOf es seen).size=0) (hn:seen.toList.Nodup) (hlt:∀ i∈seen.toList,i < es.size):(colS l seen.toList).Perm (keysM l):=by
  rw[← colS_all]
  refine List.Perm.filterMap _ ((List.perm_ext_iff_of_nodup hn List.nodup_range).2 fun i=>?_)
  rw[List.mem_range,← h.size]
  refine⟨hlt i,fun hi=>?_⟩
  have hi2:i < es.toList.length:=by simpa using hi
  obtain⟨p,_,e⟩:=h.at hi2
  have:=all_seen es seen h0 es.toList[i] (List.getElem_mem hi2)
  rw[e] at this
  simpa using this
theorem push_nodup {i:Nat} (hn:seen.toList.Nodup) (hi:i∉seen.toList):(seen.push i).toList.Nodup:=by
  rw[Array.toList_push,List.nodup_append]
  exact⟨hn,by simp,fun x hx y hy e=>hi (by
    rw[List.mem_singleton] at hy
    rw[← hy,← e]; exact hx)⟩
theorem push_lt {i n:Nat} (hlt:∀ j∈seen.toList,j < n) (hi:i < n):∀ j∈(seen.push i).toList,j < n:=fun j hj=>by
  rw[Array.toList_push,List.mem_append,List.mem_singleton] at hj
  rcases hj with hj | rfl
  · exact hlt j hj
  · exact hi
theorem nodup_lt:∀ (n:Nat) (l:List Nat),l.Nodup→(∀ i∈l,i < n)→l.length≤n
  | 0,l,_,h=>by
    cases l with
    | nil=>exact Nat.le_refl _
    | cons a l=>exact absurd (h a List.mem_cons_self) (Nat.not_lt_zero _)
  | n + 1,l,hn,h=>by
    by_cases hm:n∈l
    · have h1:=nodup_lt n (l.erase n) (hn.erase n) fun i hi=>by
        have:=h i (List.mem_of_mem_erase hi)
        have:=((hn.mem_erase_iff).1 hi).1
        omega
      rw[List.length_erase_of_mem hm] at h1
      omega
    · have h1:=nodup_lt n l hn fun i hi=>by
        have:=h i hi
        have:i≠n:=fun e=>hm (e ▸ hi)
        omega
      omega
theorem row_apart {w:World} {base n sz b r:Nat} {e:TypeId} {v:Value} {xs:List Value} (h:w.ownsRow base e sz v n xs) (hr:rangesR w b r es seen):some r≠v.ownBlock∧some b≠v.ownBlock:=by
  rcases h.2 with ⟨hv,_⟩ | ⟨g,cap,cur,hv,hbase,hcell,_⟩
  · rw[hv]
    exact⟨fun e=>(by cases e),fun e=>(by cases e)⟩
  · rw[hv]
    refine⟨fun e=>?_,fun e=>?_⟩
    · cases e
      obtain⟨_,c0,_,hi⟩:=hr
      rw[hcell] at hi
      cases hi
    · cases e
      rw[hr.1] at hcell
      cases hcell
end Go.Vm
/- The walk of a function that ranges over a map and sorts the keys. -/
namespace Go.Proofs
open Go Go.RowKit Go.Sort Go.Maps Go.Vm
set_option maxHeartbeats 1000000 in
theorem Tryz.coll_bad {c1 c2:Value} {w:World} {R:World→Nat→Prop}
    (hu:Calls Tryz.prog 16 #[c1,c2] w fun e w'=>∃ bm,e = .returned (.tuple #[.map (some bm),.bool true])∧R w' bm) :
    Calls Tryz.prog 6 #[c1,c2] w fun e w'=>∃ bm,R w' bm∧e = .returned (.tuple #[.slice none 0 0,.bool true]):=by
  go_enter Tryz.func6,Tryz.ntmps6
  go_wp2_with (go_at_call 16; refine hu.mono ?_; rintro e w1 ⟨bm,rfl,hr⟩)
  go_ret2
  exact⟨bm,hr,rfl⟩
set_option maxHeartbeats 2000000 in
theorem Tryz.coll_good {l:List (Int × Int)} {zs:List Int} {c1 c2:Value} {w:World} {R:World→Nat→Prop} (hl:l.length≤1000000000)
    (hu:Calls Tryz.prog 16 #[c1,c2] w fun e w'=>∃ bm,e = .returned (.tuple #[.map (some bm),.bool false])∧R w' bm)
    (hR:∀ w' bm,R w' bm→∃ es,w'.heap[bm]? = some (.map es es.size)∧EntsOf l es)
    (hs:keysM l≠[]→srtSz (keysM l)=some zs) :
    Calls Tryz.prog 6 #[c1,c2] w fun e w'=>∃ w1 bm v,R w1 bm∧e = .returned (.tuple #[v,.bool false])∧Below w1.heap.size w1 w' ∧
      ((keysM l=[]∧v = .slice none 0 0)∨(keysM l≠[]∧w'.ownsRow w1.heap.size 3 1 v zs.length (zs.map (Value.int .i64)))):=by
  obtain⟨i0,hi,hz0,hz1,hz2⟩:=info_parts (P:=Tryz.prog) (e:=3) (z:=.int .i64 0) (size:=1) (bytes:=8) (by kernel_rfl)
  have huS:Tryz.prog.underlying 23=some (.slice 3):=by kernel_rfl
  have huM:Tryz.prog.underlying 34=some (.map 3 3):=by kernel_rfl
  go_enter Tryz.func6,Tryz.ntmps6
  go_wp2_with (first
    | (go_at_call 16; refine hu.mono ?_; rintro e w1 ⟨bm,rfl,hr⟩; obtain⟨es,hb,hE⟩:=hR w1 bm hr)
    | (at_range; refine wpList_range_raw rfl _ 34 3 3 rfl huM bm es rfl hb ?_; intro w0 hrg0 hg0 hs0)
    | go_in)
  go_frame
  have hbs:bm < w1.heap.size:=(Array.getElem?_eq_some_iff.1 hb).1
  go_loopw [8] (fun v wr=>∃ seen:Array Nat,rangesR wr bm w1.heap.size es seen∧seen.toList.Nodup∧(∀ i∈seen.toList,i < es.size) ∧
      wr.ownsRow w1.heap.size 3 1 v (colS l seen.toList).length ((colS l seen.toList).map (Value.int .i64))∧(colS l seen.toList=[]→v = .slice none 0 0)∧(colS l seen.toList).length≤seen.toList.length∧Below w1.heap.size w1 wr)
    (fun _ wr=>wr.rangeLeft bm w1.heap.size)
  case atStart=>
    exact⟨#[],hrg0,by simp,by simp,⟨rfl,.inl ⟨rfl,rfl⟩⟩,fun _=>rfl,by simp[colS],(Below.refl _ _).grown hg0 (Nat.le_refl _) (fun j hj=>by cases hj)⟩
  case round=>
    obtain⟨seen,hrg,hnd,hlt,hrow,hnil,hcl,hbe⟩:=hrel
    go_wp2_with (first
      | (at_next; refine wpList_next_raw rfl _ rfl bm w1.heap.size es seen hE.hold hE.nodup hE.kv rfl hrg ?_ ?_)
      | go_in)
    · intro h0
      have h0:(leftOf es seen).size=0:=by simp[h0]
      have hperm:=hE.perm h0 hnd hlt
      by_cases hk:keysM l=[]
      · have hc:colS l seen.toList=[]:=by
          rw[hk] at hperm
          exact hperm.eq_nil
        have hv:=hnil hc
        subst hv
        have hc:=AnyF.slices_SortFunc_none (sf0 Tryz.z6sf) none 0 (.func (.func 18) #[] #[]) wr
        go_wp2_with (go_at_call 17; refine hc.mono ?_; rintro e w' ⟨rfl,rfl⟩)
        go_ret2
        exact⟨w1,bm,_,hr,rfl,hbe,.inl ⟨hk,rfl⟩⟩
      · have hs':=srtSz_perm (hs hk) hperm
        have hne:colS l seen.toList≠[]:=fun e=>hk (by rw[e] at hperm; exact hperm.symm.eq_nil)
        rcases hrow.2 with ⟨_,hn0⟩ | ⟨g,cap,cur,rfl,hbase,hcell,h1,h2,h3,h4⟩
        · exact absurd (List.eq_nil_of_length_eq_zero hn0) hne
        have hgl:g < wr.heap.size:=(Array.getElem?_eq_some_iff.1 hcell).1
        have hH:Holds (Value.int .i64) wr g 0 (colS l seen.toList).toArray:=holds_of_blockI hcell (by simpa using h4)
        have hlen:(colS l seen.toList).length≤1000000000:=by
          have:=hperm.length_eq
          have:=List.length_filterMap_le (fun p:Int × Int=>if p.2 > 0 then some p.1 else none) l
          unfold keysM at *
          omega
        have hc:=sortSz_h1 Tryz.z6sf (enters_of Tryz.func18 (by kernel_rfl) rfl) Tryz.cmp_calls hs' hne hH hgl (cap:=cap) (by omega)
        go_wp2_with (go_at_call 17; refine hc.mono ?_; rintro e w' ⟨rfl,nn,os,rfl⟩)
        go_ret2
        have hzl:=srtSz_len _ _ hs'
        refine⟨w1,bm,_,hr,rfl,hbe.grown (grownBy_sortedI _) hbe.size (fun j hj=>by cases hj; exact hbase),.inr ⟨hk,?_⟩⟩
        rw[hzl]
        exact ownsRow_sortedI hzl hbase hcell h1 h2 h3
    · intro x p q w2 hx hp hq hrg2 hg2 hs2 hen
      have hx:x∈(leftOf es seen).toList:=by simpa using hx
      obtain⟨hat,hnew,hxl⟩:=hE.left hx hp hq
      have hsh:=left_shrinks es seen x hx
      have hrow2:=hrow.kept hg2 (Or.inr (row_apart hrow hrg).1.symm)
      have hsz:(colS l seen.toList).length + 1≤1000000001:=by
        have h5:=nodup_lt es.size seen.toList hnd hlt
        rw[hE.size] at h5
        omega
      clear hs2
      go_wp2_with (first
        | (at_builtin; refine wpList_append_own _ rfl _ _ 23 rfl w1.heap.size 3 i0 (.int .i64 0) 1 8 huS hi hz0 hz1 hz2 rfl (by decide) _ _ _ rfl (hrow2.alloc _) ⟨w2.heap.size,0,none⟩ 1 1 [Value.int .i64 p] rfl rfl (cell_one_new _ _ _) (by simp[Value.oneCell']) (by unfold maxLen at *; omega) (by omega) (by have:=hbe.size; have:=hg2.size; simp; omega) ?_; intro v' w3 hown' hg3 hnil3; go_frame)
        | go_in)
      · have hq0:q > 0:=by assumption
        have e:colS l (seen.push x.born).toList=colS l seen.toList ++ [p]:=by
          rw[Array.toList_push,colS_snoc l seen.toList hat,if_pos hq0]
        have hap:=row_apart hrow2 hrg2
        have hrg3:=(hrg2.kept (World.grownBy_alloc w2 (.cells #[Value.int .i64 p] 3) none) (by simp) (by simp)).kept (row:=(_:Value).ownBlock) hg3 hap.2 hap.1
        refine⟨⟨seen.push x.born,hrg3,push_nodup hnd hnew,push_lt hlt hxl,?_,?_,?_,?_⟩,?_⟩
        · rw[e,List.length_append,List.map_append]; exact hown'
        · rw[e]; intro h; simp at h
        · rw[e,Array.toList_push,List.length_append,List.length_append]; exact Nat.add_le_add_right hcl 1
        · exact ((hbe.grown hg2 hbe.size (fun j hj=>by cases hj; exact Nat.le_refl _)).alloc (by have:=hbe.size; have:=hg2.size; omega) _).grown hg3 (by have:=hbe.size; have:=hg2.size; simp; omega) (fun j hj=>(hrow2.lt j hj).1)
        · rw[hrg3.left,hrg.left]; exact hsh
      · have hq1:q≤0:=by assumption
        have hq0:¬ q > 0:=by omega
        have e:colS l (seen.push x.born).toList=colS l seen.toList:=by
          rw[Array.toList_push,colS_snoc l seen.toList hat,if_neg hq0]
        refine⟨⟨seen.push x.born,hrg2,push_nodup hnd hnew,push_lt hlt hxl,?_,?_,?_,?_⟩,?_⟩
        · rw[e]; exact hrow2
        · rw[e]; exact hnil
        · rw[e,Array.toList_push,List.length_append]; omega
        · exact hbe.grown hg2 hbe.size (fun j hj=>by cases hj; exact Nat.le_refl _)
        · rw[hrg2.left,hrg.left]; exact hsh
end Go.Proofs
namespace Go.Vm
open Go Go.RowKit Go.Sort Go.Maps Go.Proofs
theorem decE_inv:∀ {es:List (Value × AV)} {l:List (Int × Int)},decE es=some l→es=oM l
  | [],l,h=>by cases h; rfl
  | (.int .i64 x,.s (.int .i64 c)) :: es,l,h=>by
    simp only[decE] at h
    obtain⟨l2,h1,rfl⟩:=Option.map_eq_some_iff.1 h
    rw[decE_inv h1]
    rfl
def Mid (K:Cx) (base:Nat) (h1:AHeap) (n1 id:Nat) (w:World) (bm:Nat):Prop:=∃ K1:Cx,K1.w=w∧K.Step K1∧HRel K1 base h1∧K1.c=n1∧(K1.ι id).1=bm
theorem mid_of {P:Program} {f:FuncId} {cargs:Array Value} {K:Cx} {base:Nat} {h1:AHeap} {n1 id:Nat} {b:Bool} (hu:CallsIn Fence.wide 0 P f cargs K.w (CallPost K base h1 n1 (.tup [.mp id,.s (.bool b)]))) :
    Calls P f cargs K.w fun e w'=>∃ bm,e = .returned (.tuple #[.map (some bm),.bool b])∧Mid K base h1 n1 id w' bm:=by
  refine (callsIn_wide.1 hu).mono ?_
  rintro e w' ⟨K1,cv,rfl,rfl,S,H,hn,hv⟩
  simp only[VRel] at hv
  obtain⟨vs,rfl,hv⟩:=hv
  obtain⟨vl,rfl⟩:∃ l:List Value,vs=l.toArray:=⟨vs.toList,by simp⟩
  match vl,hv with
  | [v1,v2],hv=>
    simp only[VRels,VRel,and_true] at hv
    obtain⟨⟨_,rfl⟩,rfl⟩:=hv
    exact⟨_,rfl,K1,rfl,S,H,hn,rfl⟩
  | [],hv=>simp[VRels] at hv
  | [_],hv=>simp[VRels] at hv
  | _ :: _ :: _ :: _,hv=>simp[VRels] at hv
theorem ents_of {K1:Cx} {base:Nat} {h1:AHeap} (H:HRel K1 base h1) {id:Nat} {l:List (Int × Int)} (hid:h1 id=some (.map (oM l))):∃ es,K1.w.heap[(K1.ι id).1]? = some (.map es es.size)∧EntsOf l es:=by
  obtain⟨ms,e1,e2,e3⟩:=H.obj id _ hid
  have hl:(oM l).length=l.length:=by simp[oM]
  refine⟨ms,by rw[e1,e2],by rw[e2,hl],fun i p hi=>?_⟩
  obtain⟨v,e4,e5⟩:=e3 i (kvI p.1,iv p.2) (by simp[oM,hi])
  simp only[VRel] at e5
  subst e5
  exact e4
theorem prim_coll:∀ args h n v h' n',collM E0 16 srtSz args h n=some (v,h',n')→∀ (K:Cx) (base:Nat) (cargs:Array Value),HRel K base h→K.c=n→VRels K args cargs.toList→∀ N,CallsIn Fence.wide N E0.P 6 cargs K.w (CallPost K base h' n' v):=fun args h n v h' n' hp K base cargs H hc hr N=>by
  unfold collM at hp
  refine callsIn_wide.2 ?_
  split at hp
  case isFalse=>cases hp
  rename_i h2
  obtain⟨c1,c2,rfl⟩:∃ c1 c2,cargs = #[c1,c2]:=by
    have hl:=hr.length
    rw[h2] at hl
    obtain⟨cl,rfl⟩:∃ l:List Value,cargs=l.toArray:=⟨cargs.toList,by simp⟩
    match cl,hl with
    | [c1,c2],_=>exact⟨c1,c2,rfl⟩
    | [],hl=>simp at hl
    | [_],hl=>simp at hl
    | _ :: _ :: _ :: _,hl=>simp at hl
  split at hp
  · rename_i id h1 n1 hcall
    cases hp
    have hu:=rinf_sound envOk0 hcall K base #[c1,c2] H hc hr 0
    refine (Tryz.coll_bad (mid_of hu)).mono ?_
    rintro e w' ⟨bm,⟨K1,rfl,S,H1,hn,_⟩,rfl⟩
    exact⟨K1,_,rfl,rfl,S,H1,hn,by simp[VRel,VRels]⟩
  · rename_i id h1 n1 hcall
    have hu:=rinf_sound envOk0 hcall K base #[c1,c2] H hc hr 0
    split at hp
    case h_2=>cases hp
    rename_i es hid
    split at hp
    case h_2=>cases hp
    rename_i l hdec
    have he:=decE_inv hdec
    subst he
    split at hp
    case isFalse=>cases hp
    rename_i hlen
    have hR:∀ w' bm,Mid K base h1 n1 id w' bm→∃ es,w'.heap[bm]? = some (.map es es.size)∧EntsOf l es:=fun w' bm ⟨K1,e1,S,H1,hn,e2⟩=>by
      subst e1
      subst e2
      exact ents_of H1 hid
    split at hp
    · rename_i hnil
      cases hp
      refine (Tryz.coll_good (zs:=[]) hlen (mid_of hu) hR (fun hne=>absurd hnil hne)).mono ?_
      rintro e w' ⟨w1,bm,v,⟨K1,rfl,S,H1,hn,_⟩,rfl,hB,hv⟩
      obtain⟨S2,H2⟩:=cx_grow H1 hB
      rcases hv with ⟨_,rfl⟩ | ⟨hne,_⟩
      · exact⟨{ K1 with w:=w' },_,rfl,rfl,S.trans S2,H2,hn,by simp[VRel,VRels]⟩
      · exact absurd hnil hne
    · rename_i hne
      split at hp
      case h_2=>cases hp
      rename_i zs hs
      cases hp
      refine (Tryz.coll_good hlen (mid_of hu) hR (fun _=>hs)).mono ?_
      rintro e w' ⟨w1,bm,v,⟨K1,rfl,S,H1,hn,_⟩,rfl,hB,hv⟩
      rcases hv with ⟨hnil,_⟩ | ⟨_,hrow⟩
      · exact absurd hnil hne
      · have hz:zs≠[]:=fun e=>hne (List.eq_nil_of_length_eq_zero (by rw[← srtSz_len _ _ hs,e]; rfl))
        obtain⟨K2,rfl,S2,H2,hc2,hv2⟩:=cx_row H1 hB hz hrow
        rw[hn] at H2 hc2 hv2
        exact⟨K2,_,rfl,rfl,S.trans S2,H2,hc2,by
          simp only[VRel]
          exact⟨_,rfl,by simp only[VRels,and_true]; exact⟨hv2,by simp[VRel]⟩⟩⟩
  · cases hp
end Go.Vm
/- The seat's evaluator is right. -/
namespace Go.Vm
open Go Go.RowKit Go.Proofs
theorem envOk:EnvOk E:=by
  refine EnvOk.ext envOk0 rfl rfl fun g p hp=>?_
  dsimp only [E] at hp
  by_cases hg15:g=15
  · subst hg15
    have hp:some _=some p:=hp
    rw[← Option.some.inj hp]
    exact .inr ⟨⟨Go.Proofs.Tryz.f15,by kernel_rfl,by kernel_rfl⟩,fun _ _ _ _ _ _ h=>rinf_sound envOk0 h⟩
  rw[if_neg hg15] at hp
  by_cases hg16:g=16
  · subst hg16
    have hp:some _=some p:=hp
    rw[← Option.some.inj hp]
    exact .inr ⟨⟨Go.Proofs.Tryz.f16,by kernel_rfl,by kernel_rfl⟩,fun _ _ _ _ _ _ h=>rinf_sound envOk0 h⟩
  rw[if_neg hg16] at hp
  by_cases hg22:g=22
  · subst hg22
    have hp:some _=some p:=hp
    rw[← Option.some.inj hp]
    exact .inr ⟨⟨Go.Proofs.Tryz.f22,by kernel_rfl,by kernel_rfl⟩,fun _ _ _ _ _ _ h=>rinf_sound envOk0 h⟩
  rw[if_neg hg22] at hp
  by_cases hg27:g=27
  · subst hg27
    have hp:some _=some p:=hp
    rw[← Option.some.inj hp]
    exact .inr ⟨⟨Go.Proofs.Tryz.f27,by kernel_rfl,by kernel_rfl⟩,fun _ _ _ _ _ _ h=>rinf_sound envOk0 h⟩
  rw[if_neg hg27] at hp
  by_cases hg28:g=28
  · subst hg28
    have hp:some _=some p:=hp
    rw[← Option.some.inj hp]
    exact .inr ⟨⟨Go.Proofs.Tryz.f28,by kernel_rfl,by kernel_rfl⟩,fun _ _ _ _ _ _ h=>rinf_sound envOk0 h⟩
  rw[if_neg hg28] at hp
  by_cases hg38:g=38
  · subst hg38
    have hp:some _=some p:=hp
    rw[← Option.some.inj hp]
    exact .inr ⟨⟨Go.Proofs.Tryz.f38,by kernel_rfl,by kernel_rfl⟩,fun _ _ _ _ _ _ h=>rinf_sound envOk0 h⟩
  rw[if_neg hg38] at hp
  by_cases hg39:g=39
  · subst hg39
    have hp:some _=some p:=hp
    rw[← Option.some.inj hp]
    exact .inr ⟨⟨Go.Proofs.Tryz.f39,by kernel_rfl,by kernel_rfl⟩,fun _ _ _ _ _ _ h=>rinf_sound envOk0 h⟩
  rw[if_neg hg39] at hp
  by_cases hg40:g=40
  · subst hg40
    have hp:some _=some p:=hp
    rw[← Option.some.inj hp]
    exact .inr ⟨⟨Go.Proofs.Tryz.f40,by kernel_rfl,by kernel_rfl⟩,fun _ _ _ _ _ _ h=>rinf_sound envOk0 h⟩
  rw[if_neg hg40] at hp
  by_cases hg58:g=58
  · subst hg58
    have hp:some _=some p:=hp
    rw[← Option.some.inj hp]
    exact .inr ⟨⟨Go.Proofs.Tryz.f58,by kernel_rfl,by kernel_rfl⟩,fun _ _ _ _ _ _ h=>rinf_sound envOk0 h⟩
  rw[if_neg hg58] at hp
  by_cases hg59:g=59
  · subst hg59
    have hp:some _=some p:=hp
    rw[← Option.some.inj hp]
    exact .inr ⟨⟨Go.Proofs.Tryz.f59,by kernel_rfl,by kernel_rfl⟩,fun _ _ _ _ _ _ h=>rinf_sound envOk0 h⟩
  rw[if_neg hg59] at hp
  by_cases hg6:g=6
  · subst hg6
    have hp:some _=some p:=hp
    rw[← Option.some.inj hp]
    exact .inr ⟨⟨Go.Proofs.Tryz.f6,by kernel_rfl,by kernel_rfl⟩,prim_coll⟩
  rw[if_neg hg6] at hp
  exact .inl hp
theorem law_true {g:FuncId} {vs vs':List AV} {m:Option Bool} (hc:Ct E g vs m (fun r=>bv r)) (hm:m=some true) (hp:E.prim g=none) (hpf:E.pf g=true) (hv:All2 (VLe Rn.nil) vs vs') (hs:snapL (snap AHeap.nil depth) vs' = some (vs',false)) (w:World) (hG:∀ q,q∈glb→q.1 < w.heap.size∧∃ cs T fz,w.heap[q.1]? = some (.cells cs T fz)∧q.2 cs) {cargs:Array Value}
    (hr:VRels { w:=w,ι:=fun _=>(0,0,0),L:=fun _=>False,X:=fun _=>False,c:=0 } vs' cargs.toList) :
    Calls E.P g cargs w fun e w'=>e = .returned (.bool true)∧w'.os=w.os∧w'.tape=w.tape∧w'.output=w.output∧w.heap.size≤w'.heap.size∧(∀ b,b < w.heap.size→w'.heap[b]? = w.heap[b]?):=by
  obtain⟨u,h1,h2⟩:=hc true hm vs' hv AHeap.nil 0
  have hu:=h2.s_inv
  subst hu
  unfold callFn at h1
  rw[hp] at h1
  simp only[hpf,if_true,hs] at h1
  cases hcl:(rinf E).call g vs' AHeap.nil 0 with
  | none=>rw[hcl] at h1; cases h1
  | some q=>
    obtain⟨v,h3,n3⟩:=q
    rw[hcl] at h1
    simp only at h1
    cases hsn:snap h3 depth v with
    | none=>rw[hsn] at h1; cases h1
    | some q2=>
      obtain⟨v',b2⟩:=q2
      rw[hsn] at h1
      simp only[Bool.false_and,Bool.false_eq_true,if_false,Option.some.injEq,Prod.mk.injEq] at h1
      obtain⟨k,hk⟩:=rinf_call.1 hcl
      have hpc:pcall E k g vs' = some (bv true):=by
        unfold pcall
        rw[hk]
        simp only[hsn,h1.1]
      refine (pcall_sound envOk (fun r=>drawOk_all r) hpc w hG hr).mono ?_
      rintro e w' ⟨cv,h4,h5,h6,h7,h8,h9,h10⟩
      simp only[VRel] at h10
      subst h10
      exact⟨h4,h5,h6,h7,h8,h9⟩
end Go.Vm
/- What a call reads, as Lean data: an argument's reading by shape gives a value of the evaluator. -/
namespace Go.Vm
open Go
structure BulkOk {H:Type} (f:DataW H→Nat) (g:List (DataW H)→Nat):Prop where
  nil:g []=0
  cons:∀ d r,g (d :: r)=f d + g r
  pos:∀ d,1≤f d
  str:∀ l,f (.lit (.string l))=l.length + 1
  slice:∀ e s,f (.slice e s)=g e + g s + 1
  agg:∀ p,f (.agg p)=g p + 1
theorem BulkOk.sum {H:Type} {f:DataW H→Nat} {g:List (DataW H)→Nat} (B:BulkOk f g):∀ l,g l=(l.map f).sum
  | []=>B.nil
  | d :: r=>by rw[B.cons,B.sum r]; rfl
def Kw (W:World):Cx:={ w:=W,ι:=fun _=>(0,0,0),L:=fun _=>False,X:=fun _=>False,c:=0 }
def simpC:AV→Bool
  | .s _=>true
  | .fsl ..=>true
  | .esl=>true
  | _=>false
theorem snap_simpC {h:AHeap} {k:Nat} {c:AV} (hc:simpC c=true):snap h k c=some (c,false):=by
  cases c <;> first | (cases k <;> rfl) | cases hc
theorem snapL_simpC {h:AHeap} {k:Nat}:∀ {cs:List AV},cs.all simpC=true→snapL (snap h k) cs=some (cs,false)
  | [],_=>rfl
  | c :: cs,hc=>by
    simp only[List.all_cons,Bool.and_eq_true] at hc
    simp only[snapL,snap_simpC hc.1,snapL_simpC hc.2,Bool.or_self]
def simpA:AV→Bool
  | .agg cs=>cs.all simpC
  | c=>simpC c
theorem snap_simpA {h:AHeap} {k:Nat} {c:AV} (hc:simpA c=true):snap h (k + 1) c=some (c,false):=by
  unfold simpA at hc
  split at hc
  · simp only[snap,snapL_simpC hc,Option.map_some]
  · exact snap_simpC hc
theorem snapL_nil' (h:AHeap):snapL (snap h depth) []=some ([],false):=rfl
theorem snapL_cons' {h:AHeap} {c:AV} {cs:List AV} (hc:simpA c=true) (hs:snapL (snap h depth) cs=some (cs,false)):snapL (snap h depth) (c :: cs)=some (c :: cs,false):=by
  have h1:snap h depth c=some (c,false):=snap_simpA hc
  simp only[snapL,h1,hs,Bool.or_self]
section
variable {H:Type} {P:Program} {f:DataW H→Nat} {g:List (DataW H)→Nat}
structure Rd (P:Program) (f:DataW H→Nat) (t:TypeId) (n:Nat) {α:Type} (en:α→List AV) (ok:α→Prop) (μ:α→Nat):Prop where
  read:∀ {enc:TypeId × Value→H} {W:World} {fuel:Nat} {cs:List Value} {d:DataW H} {pl:List MemPlace},DataW.trod enc P W 0 (fun _=>true) true fuel t cs=some (d,pl) →
    ∃ x a,VRels (Kw W) a cs∧All2 (VLe Rn.nil) (en x) a∧a.all simpC=true∧ok x∧μ x≤f d∧cs.length=n∧(∀ v∈cs,v.oneCell' = true)
theorem Rd.str (B:BulkOk f g) {t:TypeId} (ht:P.underlying t=some .string):Rd P f t 1 (fun x:Str=>[bs x]) (fun _=>True) (fun x=>x.length + 1) where
  read h:=by
    obtain⟨s,rfl,e,_⟩:=DataW.trod_string ht h
    obtain⟨rfl,rfl⟩:=Prod.mk.inj e
    exact⟨s.data.toList,[.s (.string s)],by simp[VRels,VRel],⟨VLe.s_refl _,trivial⟩,rfl,trivial,by rw[B.str]; exact Nat.le_refl _,rfl,by simp; rfl⟩
theorem Rd.int (B:BulkOk f g) {t:TypeId} {k:IntKind} (ht:P.underlying t=some (.int k)):Rd P f t 1 (fun x:Int=>[.s (.int k x)]) (fun x=>(Lit.int k x).wf=true) (fun _=>1) where
  read h:=by
    obtain⟨n,rfl,e,w⟩:=DataW.trod_int ht h
    obtain⟨rfl,rfl⟩:=Prod.mk.inj e
    exact⟨n,[.s (.int k n)],by simp[VRels,VRel],⟨VLe.s_refl _,trivial⟩,rfl,w,B.pos _,rfl,by simp; rfl⟩
theorem Rd.bool (B:BulkOk f g) {t:TypeId} (ht:P.underlying t=some .bool):Rd P f t 1 (fun x:Bool=>[bv x]) (fun _=>True) (fun _=>1) where
  read h:=by
    obtain⟨n,rfl,e⟩:=DataW.trod_bool ht h
    obtain⟨rfl,rfl⟩:=Prod.mk.inj e
    exact⟨n,[bv n],by simp[VRels,VRel],⟨VLe.s_refl _,trivial⟩,rfl,trivial,B.pos _,rfl,by simp; rfl⟩
theorem VRels.len {K:Cx}:∀ {a:List AV} {x:List Value},VRels K a x→a.length=x.length
  | [],[],_=>rfl
  | _ :: a,_ :: x,h=>by simp only[List.length_cons]; rw[VRels.len (a:=a) (x:=x) (by simp only[VRels] at h; exact h.2)]
  | [],_ :: _,h=>by simp[VRels] at h
  | _ :: _,[],h=>by simp[VRels] at h
theorem crel_rd {W:World} {b:Nat}:∀ {a:List AV} {cs:List Value} {o:Nat},VRels (Kw W) a cs→(∀ i,i < cs.length→W.cell? ⟨b,o + i,none⟩=cs[i]?)→(∀ v∈cs,v.oneCell' = true)→CRel (Kw W) b o a
  | [],_,_,_,_,_=>by simp[CRel]
  | c :: a,[],_,h,_,_=>by simp[VRels] at h
  | c :: a,v :: cs,o,h,hc,h1=>by
    simp only[VRels] at h
    have h0:=hc 0 (by simp)
    simp only[Nat.add_zero,List.getElem?_cons_zero] at h0
    refine⟨⟨v,⟨?_,id,id⟩,h0,h1 v List.mem_cons_self,h.1⟩,crel_rd h.2 (fun i hi=>?_) fun u hu=>h1 u (List.mem_cons_of_mem _ hu)⟩
    · unfold World.cell? at h0
      split at h0
      · rename_i e
        exact (Array.getElem?_eq_some_iff.1 e).1
      · cases h0
    · have:=hc (i + 1) (by simp; omega)
      rw[Nat.add_assoc,Nat.add_comm 1 i,this]
      rfl
theorem Rd.slice (B:BulkOk f g) {t e:TypeId} {n:Nat} {α:Type} {en:α→List AV} {ok:α→Prop} {μ:α→Nat} (R:Rd P f e n en ok μ) (ht:P.underlying t=some (.slice e)) (hn:P.cellsOf e=n) (h0:0 < n) :
    Rd P f t 1 (fun x:List α=>[.fsl n (x.map en)]) (fun x=>∀ y∈x,ok y) (fun x=>(x.map μ).sum + 1) where
  read {enc W fuel cs d pl} h:=by
    rcases Deep.open_slice ht h with ⟨rfl,e'⟩ | ⟨a,len,cap,m,k,D,Pl,rfl,_,hl,_,hm,e',hx⟩
    · obtain⟨rfl,rfl⟩:=Prod.mk.inj e'
      exact⟨[],[nilS],by simp[VRels,VRel],⟨VLe.fsl_iff.2 (.inr ⟨rfl,.inl rfl⟩),trivial⟩,rfl,by simp,by simpa using B.pos _,rfl,by simp; rfl⟩
    · obtain⟨rfl,rfl⟩:=Prod.mk.inj e'
      have hlm:len≤m:=by rw[hm]; simpa using hl
      subst hn
      have hspot:0 < len→a.spot=none:=fun hp=>by
        obtain⟨cs',h1,h2⟩:=hx 0 (by omega)
        obtain⟨_,hlen,hc⟩:=World.cells?_some h1
        have:=hc 0 h0
        rw[List.getElem?_eq_getElem (by omega)] at this
        simp only[Nat.zero_mul,Addr.add,if_true] at this
        unfold World.cell? at this
        split at this
        · split at this
          · cases this
          · rename_i q; simpa using q
        · cases this
      obtain⟨ab,ao,sp⟩:=a
      have key:∀ j i,i + j=len→∃ (xs:List α) (rows:List (List AV)),RRel (Kw W) ab (ao + i * P.cellsOf e) (P.cellsOf e) rows∧All2 (All2 (VLe Rn.nil)) (xs.map en) rows∧xs.length=j∧(∀ x∈xs,ok x)∧(xs.map μ).sum≤((List.range' i j).map fun q=>f (D q)).sum:=by
        intro j
        induction j with
        | zero=>intro i _; exact⟨[],[],by simp[RRel],trivial,rfl,by simp,by simp⟩
        | succ j ih=>
          intro i hij
          obtain rfl:sp=none:=hspot (by omega)
          obtain⟨xs,rows,r1,r0,r2,r3,r4⟩:=ih (i + 1) (by omega)
          obtain⟨cs',h1,h2⟩:=hx i (by omega)
          obtain⟨x,a,x1,x0,_,x2,x3,x4,x5⟩:=R.read h2
          obtain⟨_,hlen,hc⟩:=World.cells?_some h1
          refine⟨x :: xs,a :: rows,?_,⟨x0,r0⟩,by simp[r2],by simpa using ⟨x2,r3⟩,?_⟩
          · simp only[RRel]
            refine⟨by rw[x1.len,x4],crel_rd x1 (fun q hq=>?_) x5,?_⟩
            · have:=hc q (by omega)
              rw[WideShapes.add_plain,WideShapes.add_plain] at this
              exact this
            · rw[Nat.add_assoc,show i * P.cellsOf e + P.cellsOf e=(i + 1) * P.cellsOf e by rw[Nat.add_mul,Nat.one_mul]]
              exact r1
          · simp only[List.map_cons,List.sum_cons,List.range'_succ]
            omega
      obtain⟨xs,rows,r1,r0,r2,r3,r4⟩:=key len 0 (by omega)
      have rl:rows.length=len:=by rw[r0.length,List.length_map,r2]
      refine⟨xs,[.fsl (P.cellsOf e) rows],?_,⟨VLe.fsl_iff.2 (.inl ⟨rows,rfl,r0⟩),trivial⟩,rfl,r3,?_,rfl,by simp; rfl⟩
      · simp only[VRels,VRel,and_true,rl]
        refine⟨some ⟨ab,ao,sp⟩,cap,rfl,by simp,hl,?_⟩
        rcases Nat.eq_zero_or_pos len with hz | hp
        · left
          exact List.length_eq_zero_iff.1 (by omega)
        · right
          obtain rfl:sp=none:=hspot hp
          exact⟨ab,ao,rfl,by rw[Nat.zero_mul,Nat.add_zero] at r1; exact r1⟩
      · rw[B.slice,B.sum,List.map_map,List.range_eq_range']
        have:(List.map (f ∘ D) (List.range' 0 len)).sum=((List.range' 0 len).map fun q=>f (D q)).sum:=rfl
        omega
structure Rds (P:Program) (f:DataW H→Nat) (g:List (DataW H)→Nat) (fs:List Field) (o n:Nat) {α:Type} (en:α→List AV) (ok:α→Prop) (μ:α→Nat):Prop where
  read:∀ {enc:TypeId × Value→H} {W:World} {fuel:Nat} {cs:List Value} {xs:List (DataW H × List MemPlace)},xs.length=fs.length→o + n≤cs.length →
    (∀ (i:Nat) (fd:Field),fs[i]? = some fd→DataW.trod enc P W 0 (fun _=>true) true fuel fd.type ((cs.drop fd.offset).take (P.cellsOf fd.type))=xs[i]?) →
    ∃ x a,VRels (Kw W) a ((cs.drop o).take n)∧All2 (VLe Rn.nil) (en x) a∧a.all simpC=true∧ok x∧μ x≤g (xs.map (·.1))∧(∀ v∈(cs.drop o).take n,v.oneCell' = true)
theorem Rds.nil (o:Nat):Rds P f g [] o 0 (fun _:Unit=>[]) (fun _=>True) (fun _=>0) where
  read _ _ _:=⟨(),[],by simp[VRels],trivial,rfl,trivial,Nat.zero_le _,by simp⟩
theorem Rds.cons (B:BulkOk f g) {fd:Field} {fs:List Field} {o n1 n2:Nat} {α β:Type} {e1:α→List AV} {ok1:α→Prop} {μ1:α→Nat} {e2:β→List AV} {ok2:β→Prop} {μ2:β→Nat} (R1:Rd P f fd.type n1 e1 ok1 μ1) (R2:Rds P f g fs (o + n1) n2 e2 ok2 μ2) (ho:fd.offset=o) (hn:P.cellsOf fd.type=n1) :
    Rds P f g (fd :: fs) o (n1 + n2) (fun x:α × β=>e1 x.1 ++ e2 x.2) (fun x=>ok1 x.1∧ok2 x.2) (fun x=>μ1 x.1 + μ2 x.2) where
  read {enc W fuel cs xs} hl hc h:=by
    cases xs with
    | nil=>simp at hl
    | cons y xs=>
      have h0:=h 0 fd rfl
      simp only[List.getElem?_cons_zero,ho,hn] at h0
      obtain⟨x1,l1,a1,a0,az,a2,a3,a4,a5⟩:=R1.read (d:=y.1) (pl:=y.2) h0
      obtain⟨x2,l2,b1,b0,bz,b2,b3,b5⟩:=R2.read (enc:=enc) (W:=W) (fuel:=fuel) (cs:=cs) (xs:=xs) (by simpa using hl) (by omega) (fun i fd' h'=>by have:=h (i + 1) fd' (by simpa using h'); simpa using this)
      have e:(cs.drop o).take (n1 + n2)=(cs.drop o).take n1 ++ (cs.drop (o + n1)).take n2:=by rw[List.take_add,List.drop_drop]
      refine⟨(x1,x2),l1 ++ l2,?_,a0.append b0,by rw[List.all_append,az,bz]; rfl,⟨a2,b2⟩,?_,?_⟩
      · rw[e]; exact a1.append b1
      · simp only[List.map_cons]; rw[B.cons]; omega
      · rw[e]
        intro v hv
        rcases List.mem_append.1 hv with hv | hv
        · exact a5 v hv
        · exact b5 v hv
theorem Rd.struct (B:BulkOk f g) {t:TypeId} {fs:Array Field} {n:Nat} {α β:Type} {en:α→List AV} {ok:α→Prop} {μ:α→Nat} (R:Rds P f g fs.toList 0 n en ok μ) (ht:P.underlying t=some (.struct fs)) (hn:P.cellsOf t=n) (mk:α→β) (hs:∀ y,∃ x,mk x=y) {en':β→List AV} (he:∀ x,en' (mk x)=en x) {ok':β→Prop} (hk:∀ x,ok x→ok' (mk x)) {μ':β→Nat} (hm:∀ x,μ' (mk x)≤μ x + 1) :
    Rd P f t n en' ok' μ' where
  read {enc W fuel cs d pl} h:=by
    obtain⟨xs,k,_,e,hl,hx,hf⟩:=DataW.trod_struct ht h
    obtain⟨rfl,rfl⟩:=Prod.mk.inj e
    obtain⟨x,a,h1,h0,hz,h2,h3,h4⟩:=R.read (enc:=enc) (W:=W) (fuel:=k) (cs:=cs) (xs:=xs) (by simpa using hx) (by omega) (fun i fd h'=>hf i fd (by simpa using h'))
    rw[List.drop_zero,List.take_of_length_le (by omega)] at h1 h4
    refine⟨mk x,a,h1,by rw[he]; exact h0,hz,hk x h2,?_,by omega,h4⟩
    rw[B.agg]
    have:=hm x
    omega
theorem Rd.arg1 {t:TypeId} {α:Type} {c:α→AV} {ok:α→Prop} {μ:α→Nat} (R:Rd P f t 1 (fun x=>[c x]) ok μ) {enc:TypeId × Value→H} {W:World} {v:Value} {d:DataW H} {pl:List MemPlace} (hv:v.cells = #[v]) (h:DataW.Trod enc P W 0 (fun _=>true) true t v d pl) :
    ∃ x b,VRel (Kw W) b v∧ok x∧μ x≤f d∧VLe Rn.nil (c x) b∧simpA b=true:=by
  obtain⟨fuel,h⟩:=h
  obtain⟨x,a,h1,h0,hz,h2,h3,_⟩:=R.read h
  rw[hv] at h1
  match a,h0 with
  | [b],h0=>
    simp only[VRels,and_true] at h1
    simp only[List.all_cons,List.all_nil,Bool.and_true] at hz
    refine⟨x,b,h1,h2,h3,h0.1,?_⟩
    unfold simpA
    split
    · cases hz
    · exact hz
  | [],h0=>exact h0.elim
  | _ :: _ :: _,h0=>exact h0.2.elim
theorem cells_slice {P:Program} {W:World} {r:Reach} {b:Nat} {t e:TypeId} {v:Value} (ht:P.underlying t=some (.slice e)) (h:Value.okWide P W r b t v):v.cells = #[v]:=by
  unfold Value.okWide Cell.okWide Cell.ok at h
  rw[ht] at h
  cases v <;> first | rfl | simp at h
theorem args_stay {enc:TypeId × Value→H} (hl:laidOutB P=true) {W W':World} (hb:RowKit.Below W.heap.size W W') {sp:Nat→Bool}:∀ {ts:List TypeId} {vs:List Value} {ds:List (DataW H)} {ps:List MemPlace},(∀ t∈ts,P.readableRec t=true∧t < P.types.size)→DataW.TrodAll enc P W 0 (fun _=>true) true ts vs ds ps→(∀ x∈ps,x.block < W.heap.size)→(∀ x∈ps,sp x.block=true) →
    DataW.TrodAll enc P W' 0 sp true ts vs ds ps
  | [],[],[],_,_,h,_,_=>h
  | t :: ts,v :: vs,d :: ds,ps,hr,h,h1,h2=>by
    obtain⟨p,q,h3,h4,rfl⟩:=h
    exact⟨p,q,WideElems.Trod_stays hl (hr t List.mem_cons_self).1 (hr t List.mem_cons_self).2 h3 (fun x hx=>hb.same (h1 x (List.mem_append_left _ hx))) (fun x hx=>h2 x (List.mem_append_left _ hx)),
      args_stay hl hb (fun u hu=>hr u (List.mem_cons_of_mem _ hu)) h4 (fun x hx=>h1 x (List.mem_append_right _ hx)) (fun x hx=>h2 x (List.mem_append_right _ hx)),rfl⟩
  | [],_ :: _,_,_,_,h,_,_=>h.elim
  | [],[],_ :: _,_,_,h,_,_=>h.elim
  | _ :: _,[],_,_,_,h,_,_=>h.elim
  | _ :: _,_ :: _,[],_,_,h,_,_=>h.elim
end
end Go.Vm
/- Plain laws: loops, numbers. -/
namespace Go.Vm
open Go
section
variable {σ τ:Type} {f:σ→Option (Step σ τ)}
theorem loopC_next {x y:σ} (h:f x=some (.next y)):loopC f x=loopC f y:=by rw[loopC_eq,h]; rfl
theorem loopC_done {x:σ} {t:τ} (h:f x=some (.done t)):loopC f x=some t:=by rw[loopC_eq,h]; rfl
theorem loopC_fun (I:σ→Prop) (μ:σ→Nat) (g:σ→τ) (h:∀ x,I x→f x=some (.done (g x))∨∃ y,f x=some (.next y)∧I y∧μ y < μ x∧g y=g x) {x:σ} (hx:I x):loopC f x=some (g x):=by
  have key:∀ n x,I x→μ x≤n→loopC f x=some (g x):=by
    intro n
    induction n with
    | zero=>
      intro x hx hn
      rcases h x hx with h1 | ⟨y,_,_,h3,_⟩
      · exact loopC_done h1
      · omega
    | succ n ih=>
      intro x hx hn
      rcases h x hx with h1 | ⟨y,h1,h2,h3,h4⟩
      · exact loopC_done h1
      · rw[loopC_next h1,ih y h2 (by omega),h4]
  exact key _ x hx (Nat.le_refl _)
theorem loopC_inv (I:σ→Prop) (μ:σ→Nat) (P:τ→Prop) (h:∀ x,I x→(∃ t,f x=some (.done t)∧P t)∨∃ y,f x=some (.next y)∧I y∧μ y < μ x) {x:σ} (hx:I x):∃ t,loopC f x=some t∧P t:=by
  have key:∀ n x,I x→μ x≤n→∃ t,loopC f x=some t∧P t:=by
    intro n
    induction n with
    | zero=>
      intro x hx hn
      rcases h x hx with ⟨t,h1,h2⟩ | ⟨y,_,_,h3⟩
      · exact⟨t,loopC_done h1,h2⟩
      · omega
    | succ n ih=>
      intro x hx hn
      rcases h x hx with ⟨t,h1,h2⟩ | ⟨y,h1,h2,h3⟩
      · exact⟨t,loopC_done h1,h2⟩
      · rw[loopC_next h1]
        exact ih y h2 (by omega)
  exact key _ x hx (Nat.le_refl _)
end
theorem w64_id {x:Int} (h1 : -9223372036854775808≤x) (h2:x≤9223372036854775807):w64 x=x:=i64_id h1 h2
theorem ixl_nat {α:Type} {l:List α} {i:Nat} (h:i < l.length):ixl l (i:Int)=some l[i]:=by
  unfold ixl
  rw[if_pos (by omega),Int.toNat_natCast,List.getElem?_eq_getElem h]
theorem app_ok {α:Type} {b:Nat} {l m:List α} (h1:(l.length + m.length) * b≤140737488355328) (h2:l.length + m.length≤9223372036854775807):app b l m=some (l ++ m):=by
  unfold app; rw[if_pos ⟨h1,h2⟩]
end Go.Vm
/- Plain laws of chapter 26: what follows by units. -/
namespace Go.Vm
open Go
theorem w64_n (i:Nat) (h:i≤9223372036854775806):w64 ((i:Int) + 1)=((i + 1:Nat):Int):=by rw[w64_id (by omega) (by omega)]; rfl
def goodB (x:Int):Bool:=decide (x≠0) && decide (-4096≤x) && decide (x≤4096)
theorem goodB_iff {x:Int}:goodB x=true↔x≠0 ∧ -4096≤x∧x≤4096:=by
  unfold goodB
  simp only[Bool.and_eq_true,decide_eq_true_eq,and_assoc]
theorem goodB_neg {x:Int} (h:goodB x=true):goodB (-x)=true:=by
  rw[goodB_iff] at h ⊢
  omega
def tV (V:List Int) (x:Int):Int:=if x < 0 then - V.getD x.natAbs 0 else V.getD x.natAbs 0
structure Sheet (V:List Int):Prop where
  len:V.length=4097
  val:∀ k,V.getD k 0=0∨V.getD k 0=1∨V.getD k 0 = -1
theorem tV_neg (V:List Int) {x:Int} (h:x≠0):tV V (-x) = - tV V x:=by
  unfold tV
  rw[Int.natAbs_neg]
  by_cases hx:x < 0
  · rw[if_pos hx,if_neg (by omega)]; omega
  · rw[if_neg hx,if_pos (by omega)]
def upV (V:List Int) (x:Int):List Int:=V.set x.natAbs (if x < 0 then -1 else 1)
theorem upV_getD {V:List Int} (h:V.length=4097) {x:Int} (hx:goodB x=true) (k:Nat):(upV V x).getD k 0=if k=x.natAbs then (if x < 0 then -1 else 1) else V.getD k 0:=by
  rw[goodB_iff] at hx
  unfold upV
  rw[List.getD_eq_getElem?_getD,List.getD_eq_getElem?_getD,List.getElem?_set]
  by_cases e:x.natAbs=k
  · rw[if_pos e,if_pos (by omega),if_pos e.symm]; rfl
  · rw[if_neg e,if_neg (fun q=>e q.symm)]
theorem tV_up {V:List Int} (h:V.length=4097) {x:Int} (hx:goodB x=true) (y:Int):tV (upV V x) y=if y=x then 1 else if y = -x then -1 else tV V y:=by
  have hx':=goodB_iff.1 hx
  unfold tV
  rw[upV_getD h hx]
  by_cases e1:y=x
  · subst e1
    rw[if_pos rfl,if_pos rfl]
    split <;> omega
  · rw[if_neg e1]
    by_cases e2:y = -x
    · have e3:y.natAbs=x.natAbs:=by omega
      rw[if_pos e2]
      simp only[e3,if_true]
      split <;> split <;> omega
    · have e3:¬ y.natAbs=x.natAbs:=by omega
      rw[if_neg e2]
      simp only[e3,if_false]
end Go.Vm
/- Plain laws of chapter 26: what a run tells, whole. -/
set_option linter.unusedSectionVars false
namespace Go.Vm
open Go
theorem w64_neg {x:Int} (h:goodB x=true):w64 (0 - x) = -x:=by
  have:=goodB_iff.1 h
  rw[w64_id (by omega) (by omega)]
  omega
end Go.Vm
/- Plain laws of chapter 26: whether what is told is right, and all that follows. -/
namespace Go.Vm
open Go
theorem contains_eq26 (c:List Int) (hc:c.length≤1048576) (x:Int):slices_Contains_int_int c x=some (c.any fun y=>x == y):=by
  unfold slices_Contains_int_int slices_Index_int_int
  obtain⟨t,h1,h2⟩:=loopC_inv (f:=slices_Index_int_int_l1 c x) (fun z=>∃ i:Nat,z=i∧i≤c.length∧∀ y∈c.take i,(x == y)=false) (fun z=>c.length - z.toNat) (fun t=>(∃ i:Nat,t=Sum.inl (i:Int)∧c.any (fun y=>x == y)=true)∨(t=Sum.inr ()∧c.any (fun y=>x == y)=false)) (fun z hz=>by
    obtain⟨i,rfl,hi,hall⟩:=hz
    unfold slices_Index_int_int_l1
    rcases Nat.lt_or_ge i c.length with h | h
    · rw[if_pos (by simpa using h),ixl_nat h]
      simp only[Option.bind_some]
      cases e:(x == c[i]) with
      | true=>
        left
        exact⟨_,rfl,.inl ⟨i,rfl,List.any_eq_true.2 ⟨_,List.getElem_mem h,e⟩⟩⟩
      | false=>
        right
        rw[w64_n i (by omega)]
        refine⟨_,rfl,⟨i + 1,rfl,h,fun y hy=>?_⟩,by omega⟩
        rw[List.take_succ_eq_append_getElem h] at hy
        rcases List.mem_append.1 hy with hy | hy
        · exact hall y hy
        · rw[List.mem_singleton.1 hy]; exact e
    · left
      rw[if_neg (by simp; omega)]
      rw[List.take_of_length_le h] at hall
      exact⟨_,rfl,.inr ⟨rfl,List.any_eq_false.2 fun y hy=>by rw[hall y hy]; decide⟩⟩) (x:=0) ⟨0,rfl,Nat.zero_le _,fun y hy=>by simp at hy⟩
  rw[h1]
  rcases h2 with ⟨i,rfl,h2⟩ | ⟨rfl,h2⟩
  · rw[h2]
    simp
  · rw[h2]
    rfl
end Go.Vm
/- Plain laws of chapter 29: what units tell, over a map of which literals are true. -/
namespace Go.Vm
open Go
theorem rliteral_eq (x:Int):rup_literal x=some (goodB x):=by
  unfold rup_literal
  congr 1
  rw[Bool.eq_iff_iff,goodB_iff]
  simp
  omega
theorem mget_mput (s:List (Int × Int)) (k v k':Int):mget (mput s k v) k' = if k' = k then v else mget s k':=by
  induction s with
  | nil=>
    simp only[mput,mget]
    by_cases h:k=k'
    · rw[if_pos h,if_pos h.symm]
    · rw[if_neg h,if_neg fun q=>h q.symm]
  | cons e s ih=>
    simp only[mput]
    by_cases h:e.1=k
    · rw[if_pos h]
      simp only[mget]
      by_cases h2:k=k'
      · rw[if_pos h2,if_pos h2.symm]
      · rw[if_neg h2,if_neg fun q=>h2 q.symm,if_neg fun q=>h2 (h.symm.trans q)]
    · rw[if_neg h]
      simp only[mget]
      by_cases h2:e.1=k'
      · rw[if_pos h2,if_pos h2,if_neg fun q=>h (h2.trans q)]
      · rw[if_neg h2,if_neg h2,ih]
theorem mget_mem {s:List (Int × Int)} {k:Int}:mget s k=0∨(k,mget s k)∈s:=by
  induction s with
  | nil=>exact .inl rfl
  | cons e s ih=>
    simp only[mget]
    split
    · rename_i h
      subst h
      exact .inr (List.mem_cons_self ..)
    · rcases ih with h | h
      · exact .inl h
      · exact .inr (List.mem_cons_of_mem e h)
theorem mem_mput {s:List (Int × Int)} {k v:Int} {e:Int × Int} (h:e∈mput s k v):e=(k,v)∨e∈s:=by
  induction s with
  | nil=>exact .inl (List.mem_singleton.1 h)
  | cons f s ih=>
    simp only[mput] at h
    split at h
    · rcases List.mem_cons.1 h with h | h
      · exact .inl h
      · exact .inr (List.mem_cons_of_mem f h)
    · rcases List.mem_cons.1 h with h | h
      · exact .inr (h ▸ List.mem_cons_self ..)
      · rcases ih h with h | h
        · exact .inl h
        · exact .inr (List.mem_cons_of_mem f h)
def openN (s:List (Int × Int)):Nat:=((List.range 8193).map fun i:Nat=>(i:Int) - 4096).countP fun x=>decide (mget s x≤0)
theorem countP_lt {α:Type} {p q:α→Bool}:∀ (l:List α),(∀ x∈l,p x=true→q x=true)→(∃ x∈l,q x=true∧p x=false)→l.countP p < l.countP q
  | [],_,⟨x,h,_⟩=>by cases h
  | y :: l,h,⟨x,hx,h1,h2⟩=>by
    have hl:=fun x hx=>h x (List.mem_cons_of_mem y hx)
    have hle:l.countP p≤l.countP q:=List.countP_mono_left hl
    by_cases e:q y=true∧p y=false
    · rw[List.countP_cons_of_pos e.1,List.countP_cons_of_neg (by simp[e.2])]
      omega
    · have hx2:∃ x∈l,q x=true∧p x=false:=by
        rcases List.mem_cons.1 hx with rfl | hx
        · exact absurd ⟨h1,h2⟩ e
        · exact⟨x,hx,h1,h2⟩
      have ih:=countP_lt l hl hx2
      rw[List.countP_cons,List.countP_cons]
      have:=h y (List.mem_cons_self ..)
      cases hp:p y with
      | true=>rw[this hp]; omega
      | false=>
        cases hq:q y with
        | true=>exact absurd ⟨hq,hp⟩ e
        | false=>omega
theorem openN_lt {s:List (Int × Int)} {k v:Int} (hk:goodB k=true) (h0:mget s k≤0) (hv:0 < v):openN (mput s k v) < openN s:=by
  have:=goodB_iff.1 hk
  refine countP_lt _ (fun x _ h=>?_) ⟨k,List.mem_map.2 ⟨(k + 4096).toNat,List.mem_range.2 (by omega),by omega⟩,decide_eq_true h0,?_⟩
  · rw[mget_mput] at h
    split at h
    · simp only[decide_eq_true_eq] at h; omega
    · exact h
  · rw[mget_mput,if_pos rfl,decide_eq_false_iff_not]
    omega
def Truths (C:Prop) (M:Int→Bool) (B:Int) (s:List (Int × Int)):Prop:=∀ e∈s,goodB e.1=true∧(C→M e.1=true)∧0 < e.2∧e.2≤B
section
variable {C:Prop} {M:Int→Bool} {B:Int} {s:List (Int × Int)}
theorem Truths.le (h:Truths C M B s) (k:Int) (hB:0≤B):0≤mget s k∧mget s k≤B:=by
  rcases mget_mem (s:=s) (k:=k) with e | e
  · omega
  · have:=h _ e
    simp only at this
    omega
theorem Truths.pos (h:Truths C M B s) {k:Int} (hk:0 < mget s k):goodB k=true∧(C→M k=true):=by
  rcases mget_mem (s:=s) (k:=k) with e | e
  · omega
  · exact⟨(h _ e).1,(h _ e).2.1⟩
theorem Truths.put (h:Truths C M B s) {k v B':Int} (hk:goodB k=true) (hM:C→M k=true) (hv:0 < v) (hB:v≤B') (hB2:B≤B'):Truths C M B' (mput s k v):=fun e he=>by
  rcases mem_mput he with rfl | he
  · exact⟨hk,hM,hv,hB⟩
  · obtain⟨h1,h2,h3,h4⟩:=h e he
    exact⟨h1,h2,h3,Int.le_trans h4 hB2⟩
theorem isTrue_eq (s:List (Int × Int)) (k:Int):rup_sheet_isTrue s k=some (decide (mget s k > 0)):=rfl
theorem skip_eq (s:List (Int × Int)) (c:List Int) (hc:c.length≤1048576):slices_ContainsFunc_int_int_se3d8 c s=some (c.any fun x=>!goodB x || decide (mget s x > 0)):=by
  unfold slices_ContainsFunc_int_int_se3d8 slices_IndexFunc_int_int_se3d8
  obtain⟨t,h1,h2⟩:=loopC_inv (f:=slices_IndexFunc_int_int_se3d8_l1 c s) (fun z=>∃ i:Nat,z=i∧i≤c.length∧∀ y∈c.take i,(!goodB y || decide (mget s y > 0))=false) (fun z=>c.length - z.toNat)
    (fun t=>(∃ i:Nat,∃ h:i < c.length,t=Sum.inl (i:Int)∧(!goodB c[i] || decide (mget s c[i] > 0))=true)∨(t=Sum.inr ()∧∀ y∈c,(!goodB y || decide (mget s y > 0))=false)) (fun z hz=>by
    obtain⟨i,rfl,hi,hall⟩:=hz
    unfold slices_IndexFunc_int_int_se3d8_l1
    rcases Nat.lt_or_ge i c.length with hlt | hge
    · have ev:rup_sheet_open_1_1_s467c c[i] s=some (!goodB c[i] || decide (mget s c[i] > 0)):=by
        unfold rup_sheet_open_1_1_s467c
        simp only[rliteral_eq,Option.bind_some,isTrue_eq]
        cases goodB c[i] <;> rfl
      rw[if_pos (by simpa using hlt),ixl_nat hlt]
      simp only[Option.bind_some,ev]
      cases e:(!goodB c[i] || decide (mget s c[i] > 0)) with
      | true=>exact .inl ⟨_,rfl,.inl ⟨i,hlt,rfl,e⟩⟩
      | false=>
        right
        simp only[Bool.false_eq_true,if_false]
        rw[w64_n i (by omega)]
        refine⟨_,rfl,⟨i + 1,rfl,hlt,fun y hy=>?_⟩,by omega⟩
        rw[List.take_succ_eq_append_getElem hlt] at hy
        rcases List.mem_append.1 hy with hy | hy
        · exact hall y hy
        · rw[List.mem_singleton.1 hy]; exact e
    · left
      have:i=c.length:=by omega
      subst this
      rw[List.take_length] at hall
      rw[if_neg (by simp)]
      exact⟨_,rfl,.inr ⟨rfl,hall⟩⟩) (x:=0) ⟨0,rfl,Nat.zero_le _,by simp⟩
  rw[h1]
  rcases h2 with ⟨i,h,rfl,e⟩ | ⟨rfl,e⟩
  · simp only[Option.bind_some]
    rw[decide_eq_true (by omega),List.any_eq_true.2 ⟨_,List.getElem_mem h,e⟩]
  · simp only[Option.bind_some]
    rw[List.any_eq_false.2 fun y hy=>by rw[e y hy]; decide]
    rfl
end
end Go.Vm
/- Plain laws of chapter 29: what units tell, and the checker's own way to it. -/
namespace Go.Vm
open Go
inductive Der (cls:List (List Int)) (a:List Int):Int→Prop
  | asm {x:Int}:x∈a→goodB x=true→Der cls a x
  | unt {c:List Int} {x:Int}:c∈cls→(∀ y∈c,goodB y=true)→x∈c→(∀ y∈c,y≠x→Der cls a (-y))→Der cls a x
def Clash (cls:List (List Int)) (a:List Int):Prop:=(∃ x,Der cls a x∧Der cls a (-x))∨∃ c∈cls,(∀ y∈c,goodB y=true)∧∀ y∈c,Der cls a (-y)
theorem Der.good {cls:List (List Int)} {a:List Int} {x:Int} (h:Der cls a x):goodB x=true:=by
  cases h with
  | asm _ h=>exact h
  | unt _ h1 h2 _=>exact h1 _ h2
theorem Der.mono {cls cls':List (List Int)} {a:List Int} (hc:∀ c∈cls,c∈cls') {x:Int} (h:Der cls a x):Der cls' a x:=by
  induction h with
  | asm h1 h2=>exact .asm h1 h2
  | unt h1 h2 h3 _ ih=>exact .unt (hc _ h1) h2 h3 ih
theorem Clash.mono {cls cls':List (List Int)} {a:List Int} (hc:∀ c∈cls,c∈cls') (h:Clash cls a):Clash cls' a:=by
  rcases h with ⟨x,h1,h2⟩ | ⟨c,h1,h2,h3⟩
  · exact .inl ⟨x,h1.mono hc,h2.mono hc⟩
  · exact .inr ⟨c,hc c h1,h2,fun y hy=>(h3 y hy).mono hc⟩
def ClosedT (T:Int→Prop) (c:List Int):Prop:=(∃ y∈c,goodB y=false)∨(∃ y∈c,T y)∨∃ x∈c,∃ y∈c,x≠y∧¬ T (-x)∧¬ T (-y)
theorem fix_der {cls:List (List Int)} {a:List Int} {T:Int→Prop} (h2:∀ x∈a,goodB x=true→T x) (h3:∀ x,T x→¬ T (-x)) (h4:∀ c∈cls,ClosedT T c):(∀ x,Der cls a x→T x)∧¬ Clash cls a:=by
  have key:∀ x,Der cls a x→T x:=fun x h=>by
    induction h with
    | asm h1 h5=>exact h2 _ h1 h5
    | @unt c x h1 h5 h6 _ ih=>
      rcases h4 c h1 with ⟨y,hy,e⟩ | ⟨y,hy,ht⟩ | ⟨u,hu,v,hv,hne,nu,nv⟩
      · rw[h5 y hy] at e; cases e
      · by_cases e:y=x
        · rw[← e]; exact ht
        · exact absurd (ih y hy e) (h3 y ht)
      · by_cases e:u=x
        · exact absurd (ih v hv fun e2=>hne (by rw[e,e2])) nv
        · exact absurd (ih u hu e) nu
  refine⟨key,?_⟩
  rintro (⟨x,q1,q2⟩ | ⟨c,q1,q2,q3⟩)
  · exact h3 x (key _ q1) (key _ q2)
  · rcases h4 c q1 with ⟨y,hy,e⟩ | ⟨y,hy,ht⟩ | ⟨u,hu,v,hv,hne,nu,nv⟩
    · rw[q2 y hy] at e; cases e
    · exact h3 y ht (key _ (q3 y hy))
    · exact nu (key _ (q3 u hu))
def Tells (cls:List (List Int)) (a:List Int) (b:Bool) (T:Int→Prop):Prop:=(b=true→Clash cls a)∧(b=false→¬ Clash cls a∧∀ x,T x↔Der cls a x)
theorem Tells.same {cls:List (List Int)} {a:List Int} {b b':Bool} {T T':Int→Prop} (h:Tells cls a b T) (h':Tells cls a b' T'):b=b'∧(b=false→∀ x,T x↔T' x):=by
  have e:b=b':=by
    cases b <;> cases b'
    · rfl
    · exact absurd (h'.1 rfl) (h.2 rfl).1
    · exact absurd (h.1 rfl) (h'.2 rfl).1
    · rfl
  subst e
  exact⟨rfl,fun hb x=>((h.2 hb).2 x).trans ((h'.2 hb).2 x).symm⟩
theorem opp_ne {x:Int} (h:goodB x=true) : -x≠x:=by
  have:=goodB_iff.1 h
  omega
structure ShOk (cls:List (List Int)) (a:List Int) (B:Int) (s:List (Int × Int)):Prop where
  t:∀ e∈s,goodB e.1=true∧Der cls a e.1∧0 < e.2∧e.2≤B
  n:(s.map (·.1)).Nodup
  o:∀ x,0 < mget s x→¬ 0 < mget s (-x)
section
variable {cls:List (List Int)} {a:List Int} {B:Int} {s:List (Int × Int)}
theorem ShOk.le (h:ShOk cls a B s) (k:Int) (hB:0≤B):0≤mget s k∧mget s k≤B:=by
  rcases mget_mem (s:=s) (k:=k) with e | e
  · omega
  · have:=h.t _ e
    simp only at this
    omega
theorem ShOk.pos (h:ShOk cls a B s) {k:Int} (hk:0 < mget s k):goodB k=true∧Der cls a k:=by
  rcases mget_mem (s:=s) (k:=k) with e | e
  · omega
  · exact⟨(h.t _ e).1,(h.t _ e).2.1⟩
theorem mput_keys (s:List (Int × Int)) (k v:Int):((mput s k v).map (·.1))=if k∈s.map (·.1) then s.map (·.1) else s.map (·.1) ++ [k]:=by
  induction s with
  | nil=>simp[mput]
  | cons e s ih=>
    simp only[mput]
    by_cases h:e.1=k
    · rw[if_pos h]
      simp[h]
    · rw[if_neg h,List.map_cons,ih]
      have h':¬ k=e.1:=fun q=>h q.symm
      by_cases hm:k∈s.map (·.1)
      · rw[if_pos hm,if_pos (by rw[List.map_cons]; exact List.mem_cons_of_mem _ hm),List.map_cons]
      · rw[if_neg hm,if_neg (by rw[List.map_cons,List.mem_cons]; rintro (q | q); exact h' q; exact hm q),List.map_cons,List.cons_append]
theorem mget_key {s:List (Int × Int)} {k:Int} (h:k∈s.map (·.1)):(k,mget s k)∈s:=by
  induction s with
  | nil=>cases h
  | cons e s ih=>
    simp only[mget]
    by_cases q:e.1=k
    · rw[if_pos q,← q]
      exact List.mem_cons_self
    · rw[if_neg q]
      rw[List.map_cons,List.mem_cons] at h
      rcases h with h | h
      · exact absurd h.symm q
      · exact List.mem_cons_of_mem _ (ih h)
theorem ShOk.put (h:ShOk cls a B s) {k v B':Int} (hk:goodB k=true) (hD:Der cls a k) (hv:0 < v) (hB:v≤B') (hB2:B≤B') (hn:¬ 0 < mget s (-k)):ShOk cls a B' (mput s k v):=by
  refine⟨fun e he=>?_,?_,fun x hx hy=>?_⟩
  · rcases mem_mput he with rfl | he
    · exact⟨hk,hD,hv,hB⟩
    · obtain⟨h1,h2,h3,h4⟩:=h.t e he
      exact⟨h1,h2,h3,Int.le_trans h4 hB2⟩
  · rw[mput_keys]
    split
    · exact h.n
    · rename_i hm
      rw[List.nodup_append]
      exact⟨h.n,by simp,fun x hx y hy e=>hm (by rw[List.mem_singleton] at hy; rw[← hy,← e]; exact hx)⟩
  · rw[mget_mput] at hx hy
    have ho:=opp_ne hk
    by_cases e:x=k
    · rw[e] at hy
      rw[if_neg ho] at hy
      exact hn hy
    · rw[if_neg e] at hx
      by_cases e2 : -x=k
      · rw[← e2,Int.neg_neg] at hn
        exact hn hx
      · rw[if_neg e2] at hy
        exact h.o x hx hy
theorem ShOk.new_len (h:ShOk cls a B s) {k v:Int} (h0:¬ 0 < mget s k):(mput s k v).length=s.length + 1:=by
  have hk:k∉s.map (·.1):=fun hk=>h0 (h.t _ (mget_key hk)).2.2.1
  have:=congrArg List.length (mput_keys s k v)
  rw[if_neg hk] at this
  simpa using this
theorem ShOk.small (h:ShOk cls a B s):s.length≤8193:=by
  have h1:=nodup_lt 8193 ((s.map (·.1)).map fun x=>(x + 4096).toNat) (by
    refine List.pairwise_map.2 ((List.pairwise_iff_getElem.2 fun i j hi hj hij=>?_):List.Pairwise _ (s.map (·.1)))
    have hp:=List.pairwise_iff_getElem.1 (List.nodup_iff_pairwise_ne.1 h.n) i j hi hj hij
    have gi:∀ i (hi:i < (s.map (·.1)).length),goodB (s.map (·.1))[i]=true:=fun i hi=>by
      rw[List.getElem_map]
      exact (h.t _ (List.getElem_mem _)).1
    have g1:=goodB_iff.1 (gi i hi)
    have g2:=goodB_iff.1 (gi j hj)
    omega) (fun i hi=>by
    obtain⟨x,hx,rfl⟩:=List.mem_map.1 hi
    obtain⟨e,he,rfl⟩:=List.mem_map.1 hx
    have:=goodB_iff.1 (h.t e he).1
    omega)
  simpa using h1
theorem assume_tells (a:List Int) (ha:a.length≤1048576) :
    ∃ t,loopC (rup_units_l1 a) ([],0)=some t∧((∃ s,t=Sum.inl s∧Clash cls a)∨∃ s,t=Sum.inr s∧ShOk cls a 1048576 s∧∀ x∈a,goodB x=true→0 < mget s x):=by
  refine loopC_inv (f:=rup_units_l1 a) (fun x=>∃ i:Nat,x.2=(i:Int)∧i≤a.length∧ShOk cls a (i:Int) x.1∧∀ y∈a.take i,goodB y=true→0 < mget x.1 y) (fun x=>a.length - x.2.toNat) _ (fun x hx=>?_) (x:=(([]:List (Int × Int)),(0:Int))) ⟨0,rfl,Nat.zero_le _,⟨fun e he=>(nomatch he),List.nodup_nil,fun x hx=>absurd hx (by simp[mget])⟩,by simp⟩
  obtain⟨s,z⟩:=x
  obtain⟨i,e,hi,hT,hall⟩:=hx
  simp only at e hT hall
  subst e
  unfold rup_units_l1
  simp only[]
  rcases Nat.lt_or_ge i a.length with hlt | hge
  · rw[if_pos (by simpa using hlt),ixl_nat hlt]
    simp only[Option.bind_some,rliteral_eq,w64_n i (by omega)]
    have hmem:=List.getElem_mem hlt
    cases hg:goodB a[i] with
    | false=>
      right
      refine⟨(s,((i + 1:Nat):Int)),rfl,⟨i + 1,rfl,hlt,⟨fun e he=>?_,hT.n,hT.o⟩,fun y hy hgy=>?_⟩,by simp only[Int.toNat_natCast]; omega⟩
      · obtain⟨h1,h2,h3,h4⟩:=hT.t e he
        exact⟨h1,h2,h3,by omega⟩
      · rw[List.take_succ_eq_append_getElem hlt] at hy
        rcases List.mem_append.1 hy with hy | hy
        · exact hall y hy hgy
        · rw[List.mem_singleton.1 hy,hg] at hgy; cases hgy
    | true=>
      simp only[Bool.not_true,Bool.false_eq_true,if_false,w64_neg hg,isTrue_eq,Option.bind_some]
      have hD:Der cls a a[i]:=.asm hmem hg
      by_cases hp:mget s (-a[i]) > 0
      · left
        simp only[decide_eq_true hp,if_true,Option.bind_some]
        exact⟨_,rfl,.inl ⟨s,rfl,.inl ⟨_,hD,(hT.pos hp).2⟩⟩⟩
      · right
        simp only[decide_eq_false hp,Bool.false_eq_true,if_false,Option.bind_some]
        have hle:=hT.le a[i] (by omega)
        have hw:w64 (mget s a[i] + 1)=mget s a[i] + 1:=w64_id (by omega) (by omega)
        rw[hw]
        refine⟨(mput s a[i] (mget s a[i] + 1),((i + 1:Nat):Int)),rfl,⟨i + 1,rfl,hlt,hT.put hg hD (by omega) (by omega) (by omega) hp,fun y hy hgy=>?_⟩,by simp only[Int.toNat_natCast]; omega⟩
        rw[mget_mput]
        split
        · omega
        · rename_i hne
          rw[List.take_succ_eq_append_getElem hlt] at hy
          rcases List.mem_append.1 hy with hy | hy
          · exact hall y hy hgy
          · exact absurd (List.mem_singleton.1 hy) hne
  · left
    have:i=a.length:=by omega
    subst this
    rw[List.take_length] at hall
    rw[if_neg (by simp)]
    refine⟨_,rfl,.inr ⟨s,rfl,⟨fun e he=>?_,hT.n,hT.o⟩,hall⟩⟩
    obtain⟨h1,h2,h3,h4⟩:=hT.t e he
    exact⟨h1,h2,h3,by omega⟩
theorem left_tells (s:List (Int × Int)) (c:List Int) (hc:c.length≤1048576) (hg:∀ x∈c,goodB x=true) :
    ∃ r,loopC (rup_units_l2 s c) ([],0)=some r∧r.Nodup∧(∀ x∈r,x∈c∧¬ mget s (-x) > 0)∧∀ y∈c,¬ mget s (-y) > 0→y∈r:=by
  obtain⟨t,h1,h2⟩:=loopC_inv (f:=rup_units_l2 s c) (fun x=>∃ i:Nat,x.2=(i:Int)∧i≤c.length∧x.1.length≤i∧x.1.Nodup∧(∀ w∈x.1,w∈c∧¬ mget s (-w) > 0)∧∀ y∈c.take i,¬ mget s (-y) > 0→y∈x.1) (fun x=>c.length - x.2.toNat)
    (fun r=>r.Nodup∧(∀ x∈r,x∈c∧¬ mget s (-x) > 0)∧∀ y∈c,¬ mget s (-y) > 0→y∈r) (fun x hx=>by
    obtain⟨r,z⟩:=x
    obtain⟨i,e,hi,hr,hnd,hm,hall⟩:=hx
    simp only at e hr hnd hm hall
    subst e
    unfold rup_units_l2
    simp only[]
    rcases Nat.lt_or_ge i c.length with hlt | hge
    · right
      have hci:=List.getElem_mem hlt
      rw[if_pos (by simpa using hlt),ixl_nat hlt]
      simp only[Option.bind_some,w64_neg (hg _ hci),isTrue_eq,contains_eq26 r (by omega),w64_n i (by omega)]
      by_cases hp:mget s (-c[i]) > 0
      · simp only[decide_eq_true hp,Bool.not_true,Bool.false_eq_true,if_false,Option.bind_some]
        refine⟨(r,((i + 1:Nat):Int)),rfl,⟨i + 1,rfl,hlt,Nat.le_succ_of_le hr,hnd,hm,fun y hy hn=>?_⟩,by simp only[Int.toNat_natCast]; omega⟩
        rw[List.take_succ_eq_append_getElem hlt] at hy
        rcases List.mem_append.1 hy with hy | hy
        · exact hall y hy hn
        · rw[List.mem_singleton.1 hy] at hn; exact absurd hp hn
      · simp only[decide_eq_false hp,Bool.not_false,if_true,Option.bind_some]
        cases hq:r.any (fun y=>c[i] == y) with
        | true=>
          simp only[Bool.not_true,Bool.false_eq_true,if_false,Option.bind_some]
          refine⟨(r,((i + 1:Nat):Int)),rfl,⟨i + 1,rfl,hlt,Nat.le_succ_of_le hr,hnd,hm,fun y hy hn=>?_⟩,by simp only[Int.toNat_natCast]; omega⟩
          rw[List.take_succ_eq_append_getElem hlt] at hy
          rcases List.mem_append.1 hy with hy | hy
          · exact hall y hy hn
          · rw[List.mem_singleton.1 hy]
            obtain⟨x,hx,he⟩:=List.any_eq_true.1 hq
            rw[eq_of_beq he]
            exact hx
        | false=>
          simp only[Bool.not_false,if_true,Option.bind_some]
          rw[app_ok (by simp only[List.length_singleton]; omega) (by simp only[List.length_singleton]; omega)]
          refine⟨(r ++ [c[i]],((i + 1:Nat):Int)),rfl,⟨i + 1,rfl,hlt,by simp only[List.length_append,List.length_singleton]; omega,?_,fun x hx=>?_,fun y hy hn=>?_⟩,by simp only[Int.toNat_natCast]; omega⟩
          · rw[List.nodup_append]
            refine⟨hnd,by simp,fun x hx y hy e=>?_⟩
            rw[List.mem_singleton] at hy
            have:=List.any_eq_false.1 hq x hx
            rw[e,hy] at this
            exact this (by simp)
          · rcases List.mem_append.1 hx with hx | hx
            · exact hm x hx
            · rw[List.mem_singleton.1 hx]; exact⟨hci,hp⟩
          · rw[List.take_succ_eq_append_getElem hlt] at hy
            rcases List.mem_append.1 hy with hy | hy
            · exact List.mem_append_left _ (hall y hy hn)
            · exact List.mem_append_right _ hy
    · left
      have:i=c.length:=by omega
      subst this
      rw[List.take_length] at hall
      rw[if_neg (by simp)]
      exact⟨_,rfl,hnd,hm,hall⟩) (x:=(([]:List Int),(0:Int))) ⟨0,rfl,Nat.zero_le _,Nat.le_refl _,List.nodup_nil,(fun x hx=>nomatch hx),by simp⟩
  exact⟨t,h1,h2⟩
theorem pass_tells (hn:cls.length≤1048576) (hl:∀ c∈cls,c.length≤1048576) (hB1:1≤B) (hT:ShOk cls a B s) :
    ∃ t,loopC (rup_units_l3 cls) (s,0)=some t∧((∃ s',t=Sum.inl s'∧Clash cls a)∨∃ s',t=Sum.inr s'∧ShOk cls a B s'∧(∀ x,0 < mget s x→0 < mget s' x)∧((s' = s∧∀ c∈cls,ClosedT (fun x=>0 < mget s x) c)∨(s.length < s'.length∧openN s' < openN s))):=by
  refine loopC_inv (f:=rup_units_l3 cls) (fun x=>∃ i:Nat,x.2=(i:Int)∧i≤cls.length∧ShOk cls a B x.1∧(∀ y,0 < mget s y→0 < mget x.1 y)∧((x.1=s∧∀ c∈cls.take i,ClosedT (fun x=>0 < mget s x) c)∨(s.length < x.1.length∧openN x.1 < openN s))) (fun x=>cls.length - x.2.toNat) _ (fun x hx=>?_) (x:=(s,(0:Int))) ⟨0,rfl,Nat.zero_le _,hT,fun _ h=>h,.inl ⟨rfl,by simp⟩⟩
  obtain⟨u,z⟩:=x
  obtain⟨i,e,hi,hU,hmo,hm⟩:=hx
  simp only at e hU hmo hm
  subst e
  unfold rup_units_l3
  simp only[]
  rcases Nat.lt_or_ge i cls.length with hlt | hge
  · have hci:=List.getElem_mem hlt
    have hcl:=hl _ hci
    have stay:ClosedT (fun x=>0 < mget u x) cls[i]→∃ y,(some (Step.next (u,((i + 1:Nat):Int))):Option (Step (List (Int × Int) × Int) ((List (Int × Int)) ⊕ (List (Int × Int)))))=some (.next y)∧(∃ i:Nat,y.2=(i:Int)∧i≤cls.length∧ShOk cls a B y.1∧(∀ z,0 < mget s z→0 < mget y.1 z)∧((y.1=s∧∀ c∈cls.take i,ClosedT (fun x=>0 < mget s x) c)∨(s.length < y.1.length∧openN y.1 < openN s)))∧cls.length - y.2.toNat < cls.length - (i:Int).toNat:=fun hcl=>
      ⟨(u,((i + 1:Nat):Int)),rfl,⟨i + 1,rfl,hlt,hU,hmo,by
        rcases hm with ⟨e,hc⟩ | hm
        · left
          refine⟨e,fun c hc'=>?_⟩
          rw[List.take_succ_eq_append_getElem hlt] at hc'
          rcases List.mem_append.1 hc' with h | h
          · exact hc c h
          · rw[List.mem_singleton.1 h,← e]; exact hcl
        · exact .inr hm⟩,by simp only[Int.toNat_natCast]; omega⟩
    rw[if_pos (by simpa using hlt),ixl_nat hlt]
    simp only[Option.bind_some,skip_eq u _ hcl,w64_n i (by omega)]
    cases hs:cls[i].any (fun x=>!goodB x || decide (mget u x > 0)) with
    | true=>
      right
      obtain⟨y,hy,h1⟩:=List.any_eq_true.1 hs
      have hcc:ClosedT (fun x=>0 < mget u x) cls[i]:=by
        rw[Bool.or_eq_true] at h1
        rcases h1 with h1 | h1
        · exact .inl ⟨y,hy,by simpa using h1⟩
        · exact .inr (.inl ⟨y,hy,by simpa using h1⟩)
      simpa using stay hcc
    | false=>
      simp only[Bool.false_eq_true,if_false]
      have hf:=List.any_eq_false.1 hs
      have hg:∀ x∈cls[i],goodB x=true:=fun x hx=>by
        have:=hf x hx
        cases hg:goodB x with
        | true=>rfl
        | false=>rw[hg] at this; exact absurd rfl this
      have hnt:∀ x∈cls[i],¬ 0 < mget u x:=fun x hx hp=>by
        have:=hf x hx
        rw[decide_eq_true hp,Bool.or_true] at this
        exact this rfl
      obtain⟨r,r1,r2,r3,r4⟩:=left_tells u _ hcl hg
      rw[r1]
      have hfalse:∀ y∈cls[i],y∉r→Der cls a (-y):=fun y hy hr=>by
        by_cases hp:mget u (-y) > 0
        · exact (hU.pos hp).2
        · exact absurd (r4 y hy hp) hr
      simp only[Option.bind_some]
      match r,r2,r3,r4,hfalse with
      | [],_,_,_,hfalse=>
        left
        exact⟨_,rfl,.inl ⟨_,rfl,.inr ⟨cls[i],hci,hg,fun y hy=>hfalse y hy (by simp)⟩⟩⟩
      | [x],_,r3,_,hfalse=>
        obtain⟨hxc,hxn⟩:=r3 x (List.mem_singleton.2 rfl)
        have hgx:=hg x hxc
        have hD:Der cls a x:=.unt hci hg hxc fun y hy hne=>hfalse y hy fun h=>hne (List.mem_singleton.1 h)
        have hp:=hnt x hxc
        have e0:ixl [x] 0=some x:=rfl
        have l0:((([x]:List Int).length:Int) == 0)=false:=rfl
        have l1:((([x]:List Int).length:Int) == 1)=true:=rfl
        rw[e0]
        simp only[l0,l1,Bool.false_eq_true,if_false,if_true,Option.bind_some,isTrue_eq]
        right
        have hb:=hU.le x (by omega)
        simp only[decide_eq_false hp,Bool.not_false,if_true,Option.bind_some]
        rw[show mget u x=0 by omega,w64_id (x:=0 + 1) (by omega) (by omega)]
        refine⟨(mput u x (0 + 1),((i + 1:Nat):Int)),rfl,⟨i + 1,rfl,hlt,hU.put hgx hD (by omega) (by omega) (Int.le_refl _) hxn,fun y hy=>?_,.inr ?_⟩,by simp only[Int.toNat_natCast]; omega⟩
        · rw[mget_mput]
          split
          · omega
          · exact hmo y hy
        · have h1:=openN_lt (v:=0 + 1) hgx (by omega:mget u x≤0) (by omega)
          have h2:=hU.new_len (v:=0 + 1) hp
          simp only
          rcases hm with ⟨rfl,_⟩ | ⟨hm1,hm2⟩
          · exact⟨by omega,h1⟩
          · exact⟨by omega,Nat.lt_trans h1 hm2⟩
      | x :: y :: r,r2,r3,_,_=>
        right
        have l0:(((x :: y :: r:List Int).length:Int) == 0)=false:=by
          rw[beq_eq_false_iff_ne]; simp only[List.length_cons]; omega
        have l1:(((x :: y :: r:List Int).length:Int) == 1)=false:=by
          rw[beq_eq_false_iff_ne]; simp only[List.length_cons]; omega
        simp only[l0,l1,Bool.false_eq_true,if_false,Option.bind_some]
        refine stay (.inr (.inr ⟨x,(r3 x (by simp)).1,y,(r3 y (by simp)).1,fun e=>?_,(r3 x (by simp)).2,(r3 y (by simp)).2⟩))
        rw[List.nodup_cons] at r2
        exact r2.1 (by rw[e]; simp)
  · left
    have:i=cls.length:=by omega
    subst this
    rw[List.take_length] at hm
    rw[if_neg (by simp)]
    exact⟨_,rfl,.inr ⟨u,rfl,hU,hmo,hm⟩⟩
theorem units_tells (cls:List (List Int)) (a:List Int) (hn:cls.length≤1048576) (hl:∀ c∈cls,c.length≤1048576) (ha:a.length≤1048576) :
    ∃ s b,rup_units cls a=some (s,b)∧Tells cls a b (fun x=>0 < mget s x)∧(b=false→ShOk cls a 1048576 s):=by
  unfold rup_units
  obtain⟨t,h1,h2⟩:=assume_tells (cls:=cls) a ha
  rw[h1]
  simp only[Option.bind_some]
  rcases h2 with ⟨s,rfl,hc⟩ | ⟨s,rfl,hT,hA⟩
  · exact⟨s,true,rfl,⟨fun _=>hc,fun h=>by cases h⟩,fun h=>by cases h⟩
  · obtain⟨t,k1,k2⟩:=loopC_inv (f:=rup_units_l4 cls) (fun x=>ShOk cls a 1048576 x∧∀ y∈a,goodB y=true→0 < mget x y) openN (fun t=>Tells cls a t.2 (fun x=>0 < mget t.1 x)∧(t.2=false→ShOk cls a 1048576 t.1)) (fun x hx=>by
      obtain⟨hx,hA⟩:=hx
      unfold rup_units_l4
      rw[show rup_sheet_open x cls=some () from rfl]
      simp only[Option.bind_some]
      obtain⟨t,h1,h2⟩:=pass_tells hn hl (by decide) hx
      rw[h1]
      simp only[Option.bind_some]
      rcases h2 with ⟨s',rfl,hc⟩ | ⟨s',rfl,hT,hmo,hm⟩
      · exact .inl ⟨_,rfl,⟨fun _=>hc,fun h=>by cases h⟩,fun h=>by cases h⟩
      · rcases hm with ⟨rfl,hcl⟩ | ⟨hm1,hm2⟩
        · left
          refine⟨(s',false),by simp,⟨fun h=>(by cases h),fun _=>?_⟩,fun _=>hT⟩
          obtain⟨f1,f2⟩:=fix_der (T:=fun x=>0 < mget s' x) hA hT.o hcl
          exact⟨f2,fun y=>⟨fun hy=>(hT.pos hy).2,f1 y⟩⟩
        · right
          refine⟨s',?_,⟨hT,fun y hy hg=>hmo y (hA y hy hg)⟩,hm2⟩
          have:((s'.length:Int) == (x.length:Int))=false:=by rw[beq_eq_false_iff_ne]; omega
          simp[this]) ⟨hT,hA⟩
    simp only[]
    rw[k1]
    obtain⟨s',b⟩:=t
    exact⟨s',b,rfl,k2⟩
end
end Go.Vm
/- Plain laws of chapter 26: all that follows, in its order. -/
namespace Go.Vm
open Go
def szR (a b:Int):Prop:=a.natAbs≤b.natAbs
theorem srt_unique {m out:List Int} (hg:∀ x∈m,goodB x=true) (hn:(m.map Int.natAbs).Nodup) (hp:out.Perm m) (hs:out.Pairwise szR):srtSz m=some out:=by
  unfold srtSz
  rw[if_pos ⟨List.all_eq_true.2 fun x hx=>by have:=goodB_iff.1 (hg x hx); rw[decide_eq_true_eq]; omega,hn⟩]
  congr 1
  have hpw:=List.pairwise_mergeSort (le:=fun x y:Int=>!decide ((y.natAbs:Int) - x.natAbs < 0)) (fun a b c h1 h2=>by
    simp only[Bool.not_eq_true',decide_eq_false_iff_not] at *
    omega) (fun a b=>by
    simp only[Bool.or_eq_true,Bool.not_eq_true',decide_eq_false_iff_not]
    omega) m
  refine List.Perm.eq_of_pairwise (le:=szR) (fun a b ha hb h1 h2=>?_) (hpw.imp fun h=>?_) hs ((List.mergeSort_perm m _).trans hp.symm)
  · have ha':=(List.mergeSort_perm m _).mem_iff.1 ha
    have hb':=hp.mem_iff.1 hb
    have e:a.natAbs=b.natAbs:=Nat.le_antisymm h1 h2
    obtain⟨i,hi,rfl⟩:=List.mem_iff_getElem.1 ha'
    obtain⟨j,hj,rfl⟩:=List.mem_iff_getElem.1 hb'
    have hp:=List.pairwise_iff_getElem.1 (List.nodup_iff_pairwise_ne.1 hn)
    rcases Nat.lt_trichotomy i j with h | h | h
    · exact absurd (by rw[List.getElem_map,List.getElem_map]; exact e) (hp i j (by simpa using hi) (by simpa using hj) h)
    · subst h; rfl
    · exact absurd (by rw[List.getElem_map,List.getElem_map]; exact e.symm) (hp j i (by simpa using hj) (by simpa using hi) h)
  · simp only[Bool.not_eq_true',decide_eq_false_iff_not] at h
    unfold szR
    omega
end Go.Vm
/- Plain laws of chapter 26: the order of clauses plays no part. -/
namespace Go.Vm
open Go
theorem sorted_same {o1 o2:List Int} (hg:∀ y∈o1,goodB y=true) (hm:∀ y,y∈o1↔y∈o2) (n1:(o1.map Int.natAbs).Nodup) (n2:(o2.map Int.natAbs).Nodup) (s1:o1.Pairwise szR) (s2:o2.Pairwise szR):o1=o2:=by
  have m1:o1.Nodup:=(List.pairwise_map.1 (List.nodup_iff_pairwise_ne.1 n1)).imp fun h e=>h (by rw[e])
  have m2:o2.Nodup:=(List.pairwise_map.1 (List.nodup_iff_pairwise_ne.1 n2)).imp fun h e=>h (by rw[e])
  have hp:o2.Perm o1:=(List.perm_ext_iff_of_nodup m2 m1).2 fun y=>(hm y).symm
  have h1:=srt_unique hg n1 (List.Perm.refl o1) s1
  have h2:=srt_unique hg n1 hp s2
  rw[h1] at h2
  exact Option.some.inj h2
end Go.Vm
/- Plain laws of chapter 29: units, sorted; steps; RupMore. -/
namespace Go.Vm
open Go
theorem keysM_eq {s:List (Int × Int)} (h:∀ e∈s,0 < e.2):keysM s=s.map (·.1):=by
  induction s with
  | nil=>rfl
  | cons e s ih=>
    have h1:=h e List.mem_cons_self
    unfold keysM at ih ⊢
    rw[List.filterMap_cons,if_pos h1]
    simp only
    rw[ih fun e he=>h e (List.mem_cons_of_mem _ he),List.map_cons]
section
variable {cls:List (List Int)} {a:List Int} {s:List (Int × Int)}
theorem ShOk.keys (h:ShOk cls a 1048576 s):keysM s=s.map (·.1)∧(∀ x,x∈s.map (·.1)↔0 < mget s x)∧((s.map (·.1)).map Int.natAbs).Nodup∧∀ x∈s.map (·.1),goodB x=true:=by
  have hm:∀ x,x∈s.map (·.1)↔0 < mget s x:=fun x=>⟨fun hx=>(h.t _ (mget_key hx)).2.2.1,fun hx=>by
    rcases mget_mem (s:=s) (k:=x) with e | e
    · omega
    · exact List.mem_map.2 ⟨_,e,rfl⟩⟩
  refine⟨keysM_eq fun e he=>(h.t e he).2.2.1,hm,?_,fun x hx=>?_⟩
  · refine List.pairwise_map.2 (List.pairwise_iff_getElem.2 fun i j hi hj hij=>fun e=>?_)
    have hp:=List.pairwise_iff_getElem.1 (List.nodup_iff_pairwise_ne.1 h.n) i j hi hj hij
    have h1:=(hm _).1 (List.getElem_mem hi)
    have h2:=(hm _).1 (List.getElem_mem hj)
    have h3:(s.map (·.1))[j] = -(s.map (·.1))[i]:=by omega
    rw[h3] at h2
    exact h.o _ h1 h2
  · obtain⟨e,he,rfl⟩:=List.mem_map.1 hx
    exact (h.t e he).1
end
theorem srt_some {m:List Int} (hg:∀ x∈m,goodB x=true) (hn:(m.map Int.natAbs).Nodup):∃ out,srtSz m=some out∧out.Perm m∧out.Pairwise szR:=by
  unfold srtSz
  rw[if_pos ⟨List.all_eq_true.2 fun x hx=>by have:=goodB_iff.1 (hg x hx); rw[decide_eq_true_eq]; omega,hn⟩]
  have hpw:=List.pairwise_mergeSort (le:=fun x y:Int=>!decide ((y.natAbs:Int) - x.natAbs < 0)) (fun a b c h1 h2=>by
    simp only[Bool.not_eq_true',decide_eq_false_iff_not] at *
    omega) (fun a b=>by
    simp only[Bool.or_eq_true,Bool.not_eq_true',decide_eq_false_iff_not]
    omega) m
  refine⟨_,rfl,List.mergeSort_perm m _,hpw.imp fun h=>?_⟩
  simp only[Bool.not_eq_true',decide_eq_false_iff_not] at h
  unfold szR
  omega
structure UnitsAre (cls:List (List Int)) (a:List Int) (l:List Int) (b:Bool):Prop where
  bad:b=true↔Clash cls a
  nil:b=true→l=[]
  mem:b=false→∀ x,x∈l↔Der cls a x
  ab:(l.map Int.natAbs).Nodup
  pw:l.Pairwise szR
  len:l.length≤8193
theorem UnitsAre.good {cls:List (List Int)} {a:List Int} {l:List Int} {b:Bool} (h:UnitsAre cls a l b):∀ x∈l,goodB x=true:=fun x hx=>by
  cases b with
  | true=>rw[h.nil rfl] at hx; cases hx
  | false=>exact ((h.mem rfl x).1 hx).good
theorem UnitsAre.same {cls:List (List Int)} {a:List Int} {l l':List Int} {b b':Bool} (h:UnitsAre cls a l b) (h':UnitsAre cls a l' b'):l=l'∧b=b':=by
  have e:b=b':=by rw[Bool.eq_iff_iff,h.bad,h'.bad]
  subst e
  refine⟨?_,rfl⟩
  cases b with
  | true=>rw[h.nil rfl,h'.nil rfl]
  | false=>exact sorted_same h.good (fun y=>(h.mem rfl y).trans (h'.mem rfl y).symm) h.ab h'.ab h.pw h'.pw
theorem tells_bad {cls:List (List Int)} {a:List Int} {b:Bool} {T:Int→Prop} (h:Tells cls a b T):b=true↔Clash cls a:=by
  refine⟨h.1,fun hc=>?_⟩
  cases b with
  | true=>rfl
  | false=>exact absurd hc (h.2 rfl).1
theorem rUnits_are (cls:List (List Int)) (a:List Int) (hn:cls.length≤1048576) (hl:∀ c∈cls,c.length≤1048576) (ha:a.length≤1048576):∃ l b,rup_Units cls a=some (l,b)∧UnitsAre cls a l b:=by
  obtain⟨s,b,h1,h2,h3⟩:=units_tells cls a hn hl ha
  unfold rup_Units
  rw[h1]
  simp only[Option.bind_some]
  unfold collR
  cases b with
  | true=>exact⟨[],true,by rw[if_pos rfl],⟨tells_bad h2,fun _=>rfl,fun h=>(by cases h),by simp,List.Pairwise.nil,by simp⟩⟩
  | false=>
    have hs:=h3 rfl
    obtain⟨k1,k2,k3,k4⟩:=hs.keys
    have k5:=hs.small
    obtain⟨out,o1,o2,o3⟩:=srt_some k4 k3
    have fin:UnitsAre cls a out false:=⟨tells_bad h2,fun h=>(by cases h),fun _ x=>by rw[o2.mem_iff,k2 x]; exact (h2.2 rfl).2 x,((o2.map Int.natAbs).nodup_iff).2 k3,o3,by rw[o2.length_eq,List.length_map]; exact k5⟩
    rw[if_neg (by decide),if_pos (by omega),k1]
    by_cases hk:s.map (·.1)=[]
    · rw[if_pos hk]
      refine⟨[],false,rfl,?_⟩
      rw[hk] at o2
      rw[← o2.eq_nil]
      exact fin
    · rw[if_neg hk,o1]
      exact⟨out,false,rfl,fin⟩
theorem neg_row (c:List Int) (hc:c.length≤1048576):loopC (rup_Step_l1 c) ([],0)=some (if c.all goodB=true then Sum.inr (c.map fun y=> -y) else Sum.inl ()):=by
  obtain⟨t,h1,h2⟩:=loopC_inv (f:=rup_Step_l1 c) (fun x=>∃ i:Nat,x.2=(i:Int)∧i≤c.length∧x.1=(c.take i).map (fun y=> -y)∧∀ y∈c.take i,goodB y=true) (fun x=>c.length - x.2.toNat) (fun t=>t=if c.all goodB=true then Sum.inr (c.map fun y=> -y) else Sum.inl ()) (fun x hx=>by
    obtain⟨l,z⟩:=x
    obtain⟨i,e,hi,hll,hg⟩:=hx
    simp only at e hll
    subst e
    unfold rup_Step_l1
    simp only[]
    rcases Nat.lt_or_ge i c.length with h | h
    · rw[if_pos (by simpa using h),ixl_nat h]
      simp only[Option.bind_some,rliteral_eq]
      cases hgi:goodB c[i] with
      | false=>
        left
        refine⟨_,rfl,?_⟩
        rw[if_neg fun q=>by rw[List.all_eq_true.1 q _ (List.getElem_mem h)] at hgi; cases hgi]
      | true=>
        right
        simp only[Bool.not_true,Bool.false_eq_true,if_false]
        rw[w64_neg hgi,app_ok (by rw[hll]; simp only[List.length_singleton,List.length_map,List.length_take]; omega) (by rw[hll]; simp only[List.length_singleton,List.length_map,List.length_take]; omega),w64_n i (by omega)]
        refine⟨(l ++ [-c[i]],((i + 1:Nat):Int)),rfl,⟨i + 1,rfl,h,?_,fun y hy=>?_⟩,by simp only[Int.toNat_natCast]; omega⟩
        · simp only
          rw[hll,List.take_succ_eq_append_getElem h,List.map_append]
          rfl
        · rw[List.take_succ_eq_append_getElem h] at hy
          rcases List.mem_append.1 hy with hy | hy
          · exact hg y hy
          · rw[List.mem_singleton.1 hy]; exact hgi
    · left
      have:i=c.length:=by omega
      subst this
      rw[List.take_length] at hg hll
      rw[if_neg (by simp)]
      refine⟨_,rfl,?_⟩
      rw[if_pos (List.all_eq_true.2 hg),hll]) (x:=(([]:List Int),(0:Int))) ⟨0,rfl,Nat.zero_le _,rfl,by simp⟩
  rw[h1,h2]
theorem m8296_eq (a0:List (List Int)) (a1:List Int):rup_units_m8296 a0 a1=rup_units a0 a1:=rfl
def StepIs (cls:List (List Int)) (c:List Int) (b:Bool):Prop:=b=true↔(c.all goodB=true∧Clash cls (c.map fun y=> -y))
theorem StepIs.same {cls:List (List Int)} {c:List Int} {b b':Bool} (h:StepIs cls c b) (h':StepIs cls c b'):b=b':=by
  rw[Bool.eq_iff_iff]
  exact Iff.trans h h'.symm
theorem rStep_is (cls:List (List Int)) (c:List Int) (hn:cls.length≤1048576) (hl:∀ c∈cls,c.length≤1048576) (hc:c.length≤1048576):∃ b,rup_Step cls c=some b∧StepIs cls c b:=by
  unfold rup_Step
  rw[neg_row c hc]
  simp only[Option.bind_some]
  by_cases hg:c.all goodB=true
  · rw[if_pos hg]
    simp only
    obtain⟨s,b,h1,h2,_⟩:=units_tells cls (c.map fun y=> -y) hn hl (by simpa using hc)
    rw[m8296_eq,h1]
    exact⟨b,rfl,(tells_bad h2).trans ⟨fun h=>⟨hg,h⟩,fun h=>h.2⟩⟩
  · rw[if_neg hg]
    exact⟨false,rfl,⟨fun h=>(by cases h),fun h=>absurd h.1 hg⟩⟩
theorem few29 (l:List (List Int)) (hl:l.length≤1048576):law29_few l=some (l.take 30):=by
  unfold law29_few subl
  by_cases e:30 < (l.length:Int)
  · rw[if_pos e,if_pos (by omega)]
    simp
  · rw[if_neg e,if_pos (by omega)]
    simp only[Option.bind_some,Int.toNat_natCast,Int.toNat_zero,List.drop_zero,Nat.sub_zero,List.take_length]
    rw[List.take_of_length_le (by omega)]
theorem sub29 (l:List Int) (hl:l.length≤1048576):subl l 0 (if 30 < (List.length l:Int) then 30 else (List.length l:Int))=some (l.take 30):=by
  unfold subl
  by_cases e:30 < (l.length:Int)
  · rw[if_pos e,if_pos (by omega)]
    simp
  · rw[if_neg e,if_pos (by omega)]
    simp only[Int.toNat_natCast,Int.toNat_zero,List.drop_zero,Nat.sub_zero,List.take_length]
    rw[List.take_of_length_le (by omega)]
theorem sum29 {α:Type}:∀ l:List α,(l.map fun _=>1).sum=l.length
  | []=>rfl
  | _ :: l=>by rw[List.map_cons,List.sum_cons,sum29 l,List.length_cons]; omega
theorem rows29 {p:List (List Int)} (m0:((p.map fun y=>((y.map fun y=>1).sum + 1)).sum + 1)≤1048576):p.length≤1048576∧∀ c∈p,c.length≤1048576:=by
  have key:∀ q:List (List Int),q.length≤(q.map fun y=>((y.map fun y=>1).sum + 1)).sum∧∀ c∈q,c.length≤(q.map fun y=>((y.map fun y=>1).sum + 1)).sum:=by
    intro q
    induction q with
    | nil=>exact⟨Nat.le_refl _,fun c hc=>by cases hc⟩
    | cons d q ih=>
      rw[List.map_cons,List.sum_cons,List.length_cons]
      have hd:∀ l:List Int,(l.map fun _=>1).sum=l.length:=sum29
      refine⟨by omega,fun c hc=>?_⟩
      rcases List.mem_cons.1 hc with rfl | hc
      · have:=hd c; omega
      · have:=ih.2 c hc; omega
  have:=key p
  exact⟨by omega,fun c hc=>by have:=this.2 c hc; omega⟩
end Go.Vm
/- Plain laws of chapter 26: what a run tells is true wherever the clauses and what is assumed are. -/
namespace Go.Vm
open Go
def smallB (x:Int):Prop:=x≠0 ∧ -30≤x∧x≤30
theorem small_good {x:Int} (h:smallB x):goodB x=true:=goodB_iff.2 ⟨h.1,by have:=h.2; omega,by have:=h.2; omega⟩
section
variable {is:Int→Bool} (hneg:∀ x,smallB x→is (-x) = !is x)
include hneg
def TrueBy (is:Int→Bool) (V:List Int):Prop:=∀ y,goodB y=true→tV V y=1→smallB y∧is y=true
theorem not_false {V:List Int} (hI:TrueBy is V) {y:Int} (hy:smallB y) (h1:is y=true):tV V y ≠ -1:=fun e=>by
  have h2:tV V (-y)=1:=by rw[tV_neg V hy.1,e]; rfl
  have:=(hI (-y) (goodB_neg (small_good hy)) h2).2
  rw[hneg y hy,h1] at this
  cases this
theorem TrueBy.up {V:List Int} (hS:Sheet V) (hI:TrueBy is V) {x:Int} (hx:smallB x) (h1:is x=true):TrueBy is (upV V x):=fun y hy ht=>by
  rw[tV_up hS.len (small_good hx)] at ht
  split at ht
  · rename_i e; rw[e]; exact⟨hx,h1⟩
  · split at ht
    · omega
    · exact hI y hy ht
end
end Go.Vm
/- Plain laws of chapter 24: rows gone through; a clause cleaned. -/
namespace Go.Vm
open Go
theorem walkB {F:Int→Option (Step Int (Unit ⊕ Unit))} {n:Nat} {p:Nat→Bool} (hn:n≤1048576) (h1:∀ i:Nat,i < n→(∀ j,j < i→p j=true)→F (i:Int)=if p i=true then some (.next ((i + 1:Nat):Int)) else some (.done (Sum.inl ()))) (h2:F (n:Int)=some (.done (Sum.inr ()))) :
    loopC F 0=some (if (List.range n).all p=true then Sum.inr () else Sum.inl ()):=by
  have:=loopC_fun (f:=F) (fun x=>∃ i:Nat,x=(i:Int)∧i≤n∧∀ j,j < i→p j=true) (fun x=>n - x.toNat) (fun _=>if (List.range n).all p=true then Sum.inr () else Sum.inl ()) (fun x hx=>by
    obtain⟨i,rfl,hi,hp⟩:=hx
    rcases Nat.lt_or_ge i n with h | h
    · cases e:p i with
      | true=>
        right
        refine⟨_,by rw[h1 i h hp,e,if_pos rfl],⟨i + 1,rfl,h,fun j hj=>?_⟩,by omega,rfl⟩
        rcases Nat.lt_or_ge j i with g | g
        · exact hp j g
        · rw[show j=i by omega]; exact e
      | false=>
        left
        rw[h1 i h hp,e,if_neg (by decide),if_neg]
        intro q
        have:=List.all_eq_true.1 q i (List.mem_range.2 h)
        rw[e] at this
        cases this
    · left
      have:i=n:=by omega
      subst this
      rw[h2,if_pos]
      exact List.all_eq_true.2 fun j hj=>hp j (List.mem_range.1 hj)) (x:=(0:Int)) ⟨0,rfl,Nat.zero_le _,fun j hj=>absurd hj (Nat.not_lt_zero _)⟩
  exact this
theorem range_all {l:List Int} {p:Int→Bool}:(List.range l.length).all (fun i=>p (l.getD i 0))=l.all p:=by
  rw[Bool.eq_iff_iff,List.all_eq_true,List.all_eq_true]
  constructor
  · intro h x hx
    obtain⟨i,hi,rfl⟩:=List.getElem_of_mem hx
    have:=h i (List.mem_range.2 hi)
    simpa[List.getD,hi] using this
  · intro h i hi
    have hi:=List.mem_range.1 hi
    have:=h l[i] (List.getElem_mem hi)
    simpa[List.getD,hi] using this
theorem getD_get {l:List Int} {i:Nat} (h:i < l.length):l.getD i 0=l[i]:=by simp[List.getD,h]
end Go.Vm
/- Plain laws of chapter 29: the document's way to what units tell; RupChecks. -/
namespace Go.Vm
open Go
def mk29 (m:List Bool) (x:Int):Bool:=m.getD (x + 4096).toNat false
theorem lit29 (x:Int):ref29_Lit x=some (goodB x):=by
  unfold ref29_Lit
  have hg:(((x != 0) && (decide (x≥(-4096)))) && (decide (x≤4096)))=goodB x:=by
    rw[Bool.eq_iff_iff]
    simp[goodB]
  rw[hg]
theorem lits29 (c:List Int) (hc:c.length≤1048576):ref29_Lits c=some (c.all goodB):=by
  unfold ref29_Lits
  rw[walkB (F:=ref29_Lits_l1 c) (p:=fun i=>goodB (c.getD i 0)) hc (fun i h _=>by
    unfold ref29_Lits_l1
    rw[if_pos (by simpa using h),ixl_nat h,getD_get h]
    simp only[Option.bind_some,lit29]
    rw[w64_n i (by omega)]
    cases goodB c[i] <;> rfl) (by
    unfold ref29_Lits_l1
    rw[if_neg (by simp)]),range_all (p:=goodB)]
  cases c.all goodB <;> rfl
section
variable {cls:List (List Int)} {a:List Int} {m:List Bool}
theorem is29 (hm:m.length=8193) {x:Int} (hx:goodB x=true):ref29_marks_is m x=some (mk29 m x):=by
  have:=goodB_iff.1 hx
  obtain⟨k,hk⟩:∃ k:Nat,x + 4096=(k:Int):=⟨(x + 4096).toNat,by omega⟩
  have hlt:k < m.length:=by omega
  unfold ref29_marks_is mk29
  rw[w64_id (by omega) (by omega),hk,ixl_nat hlt,Int.toNat_natCast]
  simp[hlt]
theorem set29 (hm:m.length=8193) {x:Int} (hx:goodB x=true):ref29_marks_set m x=some ():=by
  have:=goodB_iff.1 hx
  unfold ref29_marks_set
  rw[w64_id (by omega) (by omega),show x + 4096=((x + 4096).toNat:Int) by omega,ixl_nat (by omega)]
  rfl
theorem at29 {x:Int} (hx:goodB x=true):Int.toNat (w64 (x + 4096))=(x + 4096).toNat:=by
  have:=goodB_iff.1 hx
  rw[w64_id (by omega) (by omega)]
theorem mk29_set (hm:m.length=8193) {k x:Int} (hk:goodB k=true) (hx:goodB x=true):mk29 (m.set (k + 4096).toNat true) x=if x=k then true else mk29 m x:=by
  have:=goodB_iff.1 hk
  have:=goodB_iff.1 hx
  unfold mk29
  rw[List.getD_eq_getElem?_getD,List.getElem?_set]
  by_cases e:x=k
  · subst e
    rw[if_pos rfl,if_pos (by omega),if_pos rfl]
    rfl
  · rw[if_neg (by omega),if_neg e,List.getD_eq_getElem?_getD]
structure MkOk (cls:List (List Int)) (a:List Int) (m:List Bool):Prop where
  len:m.length=8193
  t:∀ x,goodB x=true→mk29 m x=true→Der cls a x
  o:∀ x,goodB x=true→mk29 m x=true→mk29 m (-x)=false
def TM (m:List Bool) (x:Int):Prop:=goodB x=true∧mk29 m x=true
def cntM (m:List Bool):Nat:=m.countP fun b=>!b
theorem MkOk.put (h:MkOk cls a m) {k:Int} (hk:goodB k=true) (hD:Der cls a k) (hn:mk29 m (-k)=false):MkOk cls a (m.set (k + 4096).toNat true):=by
  refine⟨by rw[List.length_set]; exact h.len,fun x hx hm=>?_,fun x hx hm=>?_⟩
  · rw[mk29_set h.len hk hx] at hm
    split at hm
    · rename_i e; rw[e]; exact hD
    · exact h.t x hx hm
  · rw[mk29_set h.len hk hx] at hm
    rw[mk29_set h.len hk (goodB_neg hx)]
    have ho:=opp_ne hk
    by_cases e:x=k
    · rw[e,if_neg ho]; exact hn
    · rw[if_neg e] at hm
      rw[if_neg fun e2=>?_]
      · exact h.o x hx hm
      · rw[← e2,Int.neg_neg,hm] at hn
        cases hn
theorem cntM_put (hm:m.length=8193) {k:Int} (hk:goodB k=true) (hn:mk29 m k=false):cntM (m.set (k + 4096).toNat true) < cntM m:=by
  have:=goodB_iff.1 hk
  have hlt:(k + 4096).toNat < m.length:=by omega
  have hf:m[(k + 4096).toNat]=false:=by
    unfold mk29 at hn
    rw[List.getD_eq_getElem?_getD,List.getElem?_eq_getElem hlt] at hn
    exact hn
  unfold cntM
  rw[List.countP_set hlt,hf]
  have:0 < List.countP (fun b=>!b) m:=List.countP_pos_iff.2 ⟨_,List.getElem_mem hlt,by rw[hf]; rfl⟩
  simp
  omega
theorem assume29 (a:List Int) (ha:a.length≤1048576) :
    ∃ t,loopC (ref29_units_l1 a) (List.replicate 8193 false,0)=some t∧((∃ s,t=Sum.inl s∧Clash cls a)∨∃ s,t=Sum.inr s∧MkOk cls a s∧∀ x∈a,goodB x=true→mk29 s x=true):=by
  refine loopC_inv (f:=ref29_units_l1 a) (fun x=>∃ i:Nat,x.2=(i:Int)∧i≤a.length∧MkOk cls a x.1∧∀ y∈a.take i,goodB y=true→mk29 x.1 y=true) (fun x=>a.length - x.2.toNat) _ (fun x hx=>?_) (x:=(List.replicate 8193 false,(0:Int))) ⟨0,rfl,Nat.zero_le _,⟨List.length_replicate,fun x hx hm=>?_,fun x hx hm=>?_⟩,fun y hy=>absurd hy (by rw[List.take_zero]; exact List.not_mem_nil)⟩
  · obtain⟨s,z⟩:=x
    obtain⟨i,e,hi,hT,hall⟩:=hx
    simp only at e hT hall
    subst e
    unfold ref29_units_l1
    simp only[]
    rcases Nat.lt_or_ge i a.length with hlt | hge
    · rw[if_pos (by simpa using hlt),ixl_nat hlt]
      simp only[Option.bind_some,lit29,w64_n i (by omega)]
      have hmem:=List.getElem_mem hlt
      cases hg:goodB a[i] with
      | false=>
        right
        refine⟨(s,((i + 1:Nat):Int)),rfl,⟨i + 1,rfl,hlt,hT,fun y hy hgy=>?_⟩,by simp only[Int.toNat_natCast]; omega⟩
        rw[List.take_succ_eq_append_getElem hlt] at hy
        rcases List.mem_append.1 hy with hy | hy
        · exact hall y hy hgy
        · rw[List.mem_singleton.1 hy,hg] at hgy; cases hgy
      | true=>
        simp only[Bool.not_true,Bool.false_eq_true,if_false,w64_neg hg,is29 hT.len (goodB_neg hg),Option.bind_some,set29 hT.len hg,at29 hg]
        have hD:Der cls a a[i]:=.asm hmem hg
        cases hp:mk29 s (-a[i]) with
        | true=>
          left
          simp only[if_true,Option.bind_some]
          exact⟨_,rfl,.inl ⟨s,rfl,.inl ⟨_,hD,hT.t _ (goodB_neg hg) hp⟩⟩⟩
        | false=>
          right
          simp only[Bool.false_eq_true,if_false,Option.bind_some]
          refine⟨(s.set (a[i] + 4096).toNat true,((i + 1:Nat):Int)),rfl,⟨i + 1,rfl,hlt,hT.put hg hD hp,fun y hy hgy=>?_⟩,by simp only[Int.toNat_natCast]; omega⟩
          rw[mk29_set hT.len hg hgy]
          split
          · rfl
          · rename_i hne
            rw[List.take_succ_eq_append_getElem hlt] at hy
            rcases List.mem_append.1 hy with hy | hy
            · exact hall y hy hgy
            · exact absurd (List.mem_singleton.1 hy) hne
    · left
      have:i=a.length:=by omega
      subst this
      rw[List.take_length] at hall
      rw[if_neg (by simp)]
      exact⟨_,rfl,.inr ⟨s,rfl,hT,hall⟩⟩
  · exfalso
    unfold mk29 at hm
    rw[List.getD_eq_getElem?_getD,List.getElem?_replicate] at hm
    split at hm <;> cases hm
  · exfalso
    unfold mk29 at hm
    rw[List.getD_eq_getElem?_getD,List.getElem?_replicate] at hm
    split at hm <;> cases hm
structure OpenIs (m:List Bool) (c:List Int) (n one:Int):Prop where
  no:∀ y∈c,mk29 m y=false
  n0:0≤n∧n≤(c.length:Int)
  z:n=0→∀ y∈c,mk29 m (-y)=true
  p:1≤n→one∈c∧mk29 m (-one)=false
  u:n=1→∀ y∈c,mk29 m (-y)=false→y=one
  v:2≤n→∃ x∈c,∃ y∈c,x≠y∧mk29 m (-x)=false∧mk29 m (-y)=false
theorem open29 (hm:m.length=8193) (c:List Int) (hc:c.length≤1048576) (hg:∀ y∈c,goodB y=true) :
    ∃ t,ref29_marks_open m c=some t∧((t=(true,0,0)∧∃ y∈c,mk29 m y=true)∨∃ n one,t=(false,n,one)∧OpenIs m c n one):=by
  unfold ref29_marks_open
  obtain⟨t,h1,h2⟩:=loopC_inv (f:=ref29_marks_open_l1 m c) (fun x=>∃ i:Nat,x.2.2=(i:Int)∧i≤c.length∧OpenIs m (c.take i) x.1 x.2.1) (fun x=>c.length - x.2.2.toNat)
    (fun t=>(t=Sum.inl ()∧∃ y∈c,mk29 m y=true)∨∃ n one,t=Sum.inr (n,one)∧OpenIs m c n one) (fun x hx=>by
    obtain⟨n,one,z⟩:=x
    obtain⟨i,e,hi,hO⟩:=hx
    simp only at e hO
    subst e
    unfold ref29_marks_open_l1
    simp only[]
    rcases Nat.lt_or_ge i c.length with hlt | hge
    · have hci:=List.getElem_mem hlt
      have hgi:=hg _ hci
      have htk:=List.take_succ_eq_append_getElem hlt
      have hl1:(c.take i).length=i:=by rw[List.length_take]; omega
      have hn0:=hO.n0
      rw[hl1] at hn0
      rw[if_pos (by simpa using hlt),ixl_nat hlt]
      simp only[Option.bind_some,is29 hm hgi,w64_neg hgi,is29 hm (goodB_neg hgi),w64_n i (by omega)]
      have mem:∀ {y},y∈c.take (i + 1)→y∈c.take i∨y=c[i]:=fun {y} hy=>by
        rw[htk] at hy
        rcases List.mem_append.1 hy with h | h
        · exact .inl h
        · exact .inr (List.mem_singleton.1 h)
      have up:∀ {y},y∈c.take i→y∈c.take (i + 1):=fun {y} hy=>by rw[htk]; exact List.mem_append_left _ hy
      have top:c[i]∈c.take (i + 1):=by rw[htk]; exact List.mem_append_right _ (List.mem_singleton.2 rfl)
      have hl2:((c.take (i + 1)).length:Int)=(i:Int) + 1:=by rw[List.length_take]; omega
      cases h1:mk29 m c[i] with
      | true=>
        left
        simp only[if_true,Option.bind_some]
        exact⟨_,rfl,.inl ⟨rfl,_,hci,h1⟩⟩
      | false=>
        right
        simp only[Bool.false_eq_true,if_false,Option.bind_some]
        have hno:∀ y∈c.take (i + 1),mk29 m y=false:=fun y hy=>by
          rcases mem hy with h | h
          · exact hO.no y h
          · rw[h]; exact h1
        cases h2:mk29 m (-c[i]) with
        | true=>
          simp only[if_true,Option.bind_some]
          refine⟨(n,one,((i + 1:Nat):Int)),rfl,⟨i + 1,rfl,hlt,hno,by rw[hl2]; simp only; omega,fun h y hy=>?_,fun h=>⟨up (hO.p h).1,(hO.p h).2⟩,fun h y hy hf=>?_,fun h=>?_⟩,by simp only[Int.toNat_natCast]; omega⟩
          · rcases mem hy with q | q
            · exact hO.z h y q
            · rw[q]; exact h2
          · rcases mem hy with q | q
            · exact hO.u h y q hf
            · rw[q,h2] at hf; cases hf
          · obtain⟨x,hx,y,hy,hr⟩:=hO.v h
            exact⟨x,up hx,y,up hy,hr⟩
        | false=>
          simp only[Bool.false_eq_true,if_false,Option.bind_some]
          by_cases h3:n=0
          · rw[if_pos (by rw[h3]; rfl)]
            simp only[Option.bind_some,if_true]
            rw[w64_id (x:=n + 1) (by omega) (by omega)]
            refine⟨(n + 1,c[i],((i + 1:Nat):Int)),rfl,⟨i + 1,rfl,hlt,hno,by rw[hl2]; simp only; omega,fun h=>by simp only at h; omega,fun h=>⟨top,h2⟩,fun h y hy hf=>?_,fun h=>by simp only at h; omega⟩,by simp only[Int.toNat_natCast]; omega⟩
            rcases mem hy with q | q
            · rw[hO.z h3 y q] at hf; cases hf
            · exact q
          · rw[if_neg (by simpa using h3)]
            simp only[Option.bind_some]
            by_cases h4:c[i]=one
            · rw[if_neg (by simpa using h4)]
              simp only[Option.bind_some]
              refine⟨(n,one,((i + 1:Nat):Int)),rfl,⟨i + 1,rfl,hlt,hno,by rw[hl2]; simp only; omega,fun h=>absurd h h3,fun h=>⟨up (hO.p h).1,(hO.p h).2⟩,fun h y hy hf=>?_,fun h=>?_⟩,by simp only[Int.toNat_natCast]; omega⟩
              · rcases mem hy with q | q
                · exact hO.u h y q hf
                · rw[q]; exact h4
              · obtain⟨x,hx,y,hy,hr⟩:=hO.v h
                exact⟨x,up hx,y,up hy,hr⟩
            · rw[if_pos (by simpa using h4)]
              simp only[Option.bind_some]
              rw[w64_id (x:=n + 1) (by omega) (by omega)]
              obtain⟨p1,p2⟩:=hO.p (by omega)
              refine⟨(n + 1,c[i],((i + 1:Nat):Int)),rfl,⟨i + 1,rfl,hlt,hno,by rw[hl2]; simp only; omega,fun h=>by simp only at h; omega,fun h=>⟨top,h2⟩,fun h=>by simp only at h; omega,fun _=>⟨c[i],top,one,up p1,h4,h2,p2⟩⟩,by simp only[Int.toNat_natCast]; omega⟩
    · left
      have:i=c.length:=by omega
      subst this
      rw[List.take_length] at hO
      rw[if_neg (by simp)]
      exact⟨_,rfl,.inr ⟨n,one,rfl,hO⟩⟩) (x:=((0:Int),(0:Int),(0:Int))) ⟨0,rfl,Nat.zero_le _,⟨by simp,by simp,by simp,by simp,by simp,by simp⟩⟩
  rw[h1]
  simp only[Option.bind_some]
  rcases h2 with ⟨rfl,h⟩ | ⟨n,one,rfl,h⟩
  · exact⟨_,rfl,.inl ⟨rfl,h⟩⟩
  · exact⟨_,rfl,.inr ⟨n,one,rfl,h⟩⟩
theorem pass29 (hn:cls.length≤1048576) (hl:∀ c∈cls,c.length≤1048576) {m0:List Bool} (h0:MkOk cls a m0) :
    ∃ t,loopC (ref29_marks_spread_l1 cls) (m0,false,0)=some t∧((∃ s,t=Sum.inl s∧Clash cls a)∨∃ s g,t=Sum.inr (s,g)∧MkOk cls a s∧(∀ x,TM m0 x→TM s x)∧((g=false∧s=m0∧∀ c∈cls,ClosedT (TM m0) c)∨(g=true∧cntM s < cntM m0))):=by
  refine loopC_inv (f:=ref29_marks_spread_l1 cls) (fun x=>∃ i:Nat,x.2.2=(i:Int)∧i≤cls.length∧MkOk cls a x.1∧(∀ y,TM m0 y→TM x.1 y)∧((x.2.1=false∧x.1=m0∧∀ c∈cls.take i,ClosedT (TM m0) c)∨(x.2.1=true∧cntM x.1 < cntM m0))) (fun x=>cls.length - x.2.2.toNat) _ (fun x hx=>?_) (x:=(m0,false,(0:Int))) ⟨0,rfl,Nat.zero_le _,h0,fun _ h=>h,.inl ⟨rfl,rfl,by simp⟩⟩
  obtain⟨u,g,z⟩:=x
  obtain⟨i,e,hi,hU,hmo,hm⟩:=hx
  simp only at e hU hmo hm
  subst e
  unfold ref29_marks_spread_l1
  simp only[]
  rcases Nat.lt_or_ge i cls.length with hlt | hge
  · have hci:=List.getElem_mem hlt
    have hcl:=hl _ hci
    have stay:ClosedT (TM u) cls[i]→∃ y,(some (Step.next (u,g,((i + 1:Nat):Int))):Option (Step (List Bool × Bool × Int) ((List Bool) ⊕ (List Bool × Bool))))=some (.next y)∧(∃ i:Nat,y.2.2=(i:Int)∧i≤cls.length∧MkOk cls a y.1∧(∀ z,TM m0 z→TM y.1 z)∧((y.2.1=false∧y.1=m0∧∀ c∈cls.take i,ClosedT (TM m0) c)∨(y.2.1=true∧cntM y.1 < cntM m0)))∧cls.length - y.2.2.toNat < cls.length - (i:Int).toNat:=fun hcc=>
      ⟨(u,g,((i + 1:Nat):Int)),rfl,⟨i + 1,rfl,hlt,hU,hmo,by
        rcases hm with ⟨e1,e2,hc⟩ | hm
        · left
          refine⟨e1,e2,fun c hc'=>?_⟩
          rw[List.take_succ_eq_append_getElem hlt] at hc'
          rcases List.mem_append.1 hc' with h | h
          · exact hc c h
          · rw[List.mem_singleton.1 h,← e2]; exact hcc
        · exact .inr hm⟩,by simp only[Int.toNat_natCast]; omega⟩
    rw[if_pos (by simpa using hlt),ixl_nat hlt]
    simp only[Option.bind_some,lits29 _ hcl,w64_n i (by omega)]
    cases hg:cls[i].all goodB with
    | false=>
      right
      simp only[Bool.not_false,if_true,Option.bind_some]
      refine stay (.inl ?_)
      obtain⟨y,hy,h⟩:=List.all_eq_false.1 hg
      exact⟨y,hy,by simpa using h⟩
    | true=>
      have hgc:=List.all_eq_true.1 hg
      simp only[Bool.not_true,Bool.false_eq_true,if_false,Option.bind_some]
      obtain⟨t,o1,o2⟩:=open29 hU.len cls[i] hcl hgc
      rw[o1]
      simp only[Option.bind_some]
      rcases o2 with ⟨rfl,y,hy,hty⟩ | ⟨n,one,rfl,hO⟩
      · right
        simp only[Bool.true_or,if_true,Option.bind_some]
        exact stay (.inr (.inl ⟨y,hy,hgc y hy,hty⟩))
      · simp only[Bool.false_or]
        have hnn:=hO.n0
        by_cases h2:n > 1
        · right
          rw[if_pos (decide_eq_true h2)]
          obtain⟨x,hx,y,hy,hne,q1,q2⟩:=hO.v (by omega)
          exact stay (.inr (.inr ⟨x,hx,y,hy,hne,(fun h=>by rw[h.2] at q1; cases q1),(fun h=>by rw[h.2] at q2; cases q2)⟩))
        · rw[if_neg (by simpa using h2)]
          by_cases h1:n=0
          · left
            rw[if_pos (by rw[h1]; rfl)]
            simp only[Option.bind_some]
            exact⟨_,rfl,.inl ⟨u,rfl,.inr ⟨_,hci,hgc,fun y hy=>hU.t _ (goodB_neg (hgc y hy)) (hO.z h1 y hy)⟩⟩⟩
          · right
            rw[if_neg (by simpa using h1)]
            obtain⟨p1,p2⟩:=hO.p (by omega)
            have hgo:=hgc one p1
            have hD:Der cls a one:=.unt hci hgc p1 fun y hy hne=>by
              cases hf:mk29 u (-y) with
              | true=>exact hU.t _ (goodB_neg (hgc y hy)) hf
              | false=>exact absurd (hO.u (by omega) y hy hf) hne
            rw[set29 hU.len hgo,at29 hgo]
            simp only[Option.bind_some]
            have hc:=cntM_put hU.len hgo (hO.no one p1)
            refine⟨(u.set (one + 4096).toNat true,true,((i + 1:Nat):Int)),rfl,⟨i + 1,rfl,hlt,hU.put hgo hD p2,fun y hy=>⟨(hmo y hy).1,?_⟩,.inr ⟨rfl,?_⟩⟩,by simp only[Int.toNat_natCast]; omega⟩
            · rw[mk29_set hU.len hgo (hmo y hy).1]
              split
              · rfl
              · exact (hmo y hy).2
            · rcases hm with ⟨_,rfl,_⟩ | ⟨_,hm⟩
              · exact hc
              · exact Nat.lt_trans hc hm
  · left
    have:i=cls.length:=by omega
    subst this
    rw[List.take_length] at hm
    rw[if_neg (by simp)]
    exact⟨_,rfl,.inr ⟨u,g,rfl,hU,hmo,hm⟩⟩
theorem spread29 (hn:cls.length≤1048576) (hl:∀ c∈cls,c.length≤1048576) {m0:List Bool} (h0:MkOk cls a m0) (hA:∀ x∈a,goodB x=true→mk29 m0 x=true) :
    ∃ b s,ref29_marks_spread m0 cls=some (b,s)∧Tells cls a b (TM s)∧(b=false→MkOk cls a s):=by
  unfold ref29_marks_spread
  obtain⟨t,k1,k2⟩:=loopC_inv (f:=ref29_marks_spread_l2 cls) (fun x=>MkOk cls a x.1∧(∀ y∈a,goodB y=true→mk29 x.1 y=true)∧(x.2=false→∀ c∈cls,ClosedT (TM x.1) c)) (fun x=>2 * cntM x.1 + (if x.2=true then 1 else 0))
    (fun t=>(∃ s,t=Sum.inl s∧Clash cls a)∨∃ s,t=Sum.inr s∧MkOk cls a s∧(∀ y∈a,goodB y=true→mk29 s y=true)∧∀ c∈cls,ClosedT (TM s) c) (fun x hx=>by
    obtain⟨u,g⟩:=x
    obtain⟨hU,hA,hC⟩:=hx
    simp only at hU hA hC
    unfold ref29_marks_spread_l2
    simp only[]
    cases g with
    | false=>exact .inl ⟨_,rfl,.inr ⟨u,rfl,hU,hA,hC rfl⟩⟩
    | true=>
      rw[if_pos rfl]
      obtain⟨t,h1,h2⟩:=pass29 hn hl hU
      rw[h1]
      simp only[Option.bind_some]
      rcases h2 with ⟨s,rfl,hc⟩ | ⟨s,g,rfl,hS,hmo,hm⟩
      · exact .inl ⟨_,rfl,.inl ⟨s,rfl,hc⟩⟩
      · right
        rcases hm with ⟨rfl,rfl,hcl⟩ | ⟨rfl,hlt⟩
        · exact⟨(s,false),rfl,⟨hS,hA,fun _=>hcl⟩,by simp⟩
        · refine⟨(s,true),rfl,⟨hS,fun y hy hg=>(hmo y ⟨hg,hA y hy hg⟩).2,fun h=>by cases h⟩,?_⟩
          simp only[if_true]
          omega) (x:=(m0,true)) ⟨h0,hA,fun h=>by cases h⟩
  rw[k1]
  simp only[Option.bind_some]
  rcases k2 with ⟨s,rfl,hc⟩ | ⟨s,rfl,hS,hA,hcl⟩
  · exact⟨true,s,rfl,⟨fun _=>hc,fun h=>by cases h⟩,fun h=>by cases h⟩
  · obtain⟨f1,f2⟩:=fix_der (T:=TM s) (fun x hx hg=>⟨hg,hA x hx hg⟩) (fun x hx h=>by have h:=h.2; rw[hS.o x hx.1 hx.2] at h; cases h) hcl
    exact⟨false,s,rfl,⟨fun h=>(by cases h),fun _=>⟨f2,fun x=>⟨fun hx=>hS.t x hx.1 hx.2,f1 x⟩⟩⟩,fun _=>hS⟩
theorem units29 (cls:List (List Int)) (a:List Int) (hn:cls.length≤1048576) (hl:∀ c∈cls,c.length≤1048576) (ha:a.length≤1048576) :
    ∃ s b,ref29_units cls a=some (s,b)∧Tells cls a b (TM s)∧(b=false→MkOk cls a s):=by
  unfold ref29_units
  have hk:mkl 1 (false:Bool) 8193 8193=some (List.replicate 8193 false):=by
    unfold mkl
    rw[if_pos (by omega)]
    rfl
  rw[hk]
  simp only[Option.bind_some]
  obtain⟨t,h1,h2⟩:=assume29 (cls:=cls) a ha
  rw[h1]
  simp only[Option.bind_some]
  rcases h2 with ⟨s,rfl,hc⟩ | ⟨s,rfl,hS,hA⟩
  · exact⟨s,true,rfl,⟨fun _=>hc,fun h=>by cases h⟩,fun h=>by cases h⟩
  · obtain⟨b,s',k1,k2,k3⟩:=spread29 hn hl hS hA
    simp only[]
    rw[k1]
    exact⟨s',b,rfl,k2,k3⟩
end
end Go.Vm
/- Plain laws of chapter 29: RupChecks. -/
namespace Go.Vm
open Go
def pick29 (m:List Bool) (i:Nat):List Int:=(if mk29 m ((i + 1:Nat):Int)=true then [((i + 1:Nat):Int)] else []) ++ (if mk29 m (-((i + 1:Nat):Int))=true then [-((i + 1:Nat):Int)] else [])
theorem pick29_len (m:List Bool) (i:Nat):(pick29 m i).length≤2:=by
  unfold pick29
  rw[List.length_append]
  split <;> split <;> simp
theorem out29 {m:List Bool} (hm:m.length=8193):∀ (d i:Nat) (acc:List Int),i + d=4096→acc.length≤2 * i →
    loopC (ref29_Units_l1 m) (acc,((i + 1:Nat):Int))=some (acc ++ (List.range' i d).flatMap (pick29 m))
  | 0,i,acc,e,ha=>by
    rw[loopC_done (t:=acc) (by unfold ref29_Units_l1; simp only; rw[if_neg (by simp; omega)])]
    simp
  | d + 1,i,acc,e,ha=>by
    have g1:goodB ((i + 1:Nat):Int)=true:=goodB_iff.2 (by omega)
    have hl:=pick29_len m i
    rw[loopC_next (y:=(acc ++ pick29 m i,((i + 1 + 1:Nat):Int))) (by
      unfold ref29_Units_l1
      simp only
      rw[if_pos (by simp; omega),is29 hm g1,w64_neg g1,is29 hm (goodB_neg g1),w64_n (i + 1) (by omega)]
      simp only[Option.bind_some]
      unfold pick29
      cases h1:mk29 m ((i + 1:Nat):Int) <;> cases h2:mk29 m (-((i + 1:Nat):Int))
      · simp
      · simp only[Bool.false_eq_true,if_false,if_true,Option.bind_some]
        rw[app_ok (by simp only[List.length_singleton]; omega) (by simp only[List.length_singleton]; omega)]
        simp
      · simp only[Bool.false_eq_true,if_false,if_true,Option.bind_some]
        rw[app_ok (by simp only[List.length_singleton]; omega) (by simp only[List.length_singleton]; omega)]
        simp
      · simp only[if_true,Option.bind_some]
        rw[app_ok (by simp only[List.length_singleton]; omega) (by simp only[List.length_singleton]; omega)]
        simp only[Option.bind_some]
        rw[app_ok (by simp only[List.length_append,List.length_singleton]; omega) (by simp only[List.length_append,List.length_singleton]; omega)]
        simp),out29 hm d (i + 1) _ (by omega) (by rw[List.length_append]; omega)]
    simp[List.range'_succ]
theorem pick_mem {m:List Bool} {i:Nat} {x:Int}:x∈pick29 m i↔x.natAbs=i + 1∧mk29 m x=true:=by
  unfold pick29
  rw[List.mem_append]
  constructor
  · rintro (h | h)
    · split at h
      · rename_i q
        rw[List.mem_singleton] at h
        rw[h]
        exact⟨by omega,q⟩
      · cases h
    · split at h
      · rename_i q
        rw[List.mem_singleton] at h
        rw[h]
        exact⟨by omega,q⟩
      · cases h
  · rintro⟨h1,h2⟩
    rcases Int.natAbs_eq x with e | e
    · left
      rw[h1] at e
      rw[← e,if_pos h2]
      exact List.mem_singleton.2 rfl
    · right
      rw[h1] at e
      rw[← e,if_pos h2]
      exact List.mem_singleton.2 rfl
theorem refUnits_are (cls:List (List Int)) (a:List Int) (hn:cls.length≤1048576) (hl:∀ c∈cls,c.length≤1048576) (ha:a.length≤1048576):∃ l b,ref29_Units cls a=some (l,b)∧UnitsAre cls a l b:=by
  obtain⟨m,b,h1,h2,h3⟩:=units29 cls a hn hl ha
  unfold ref29_Units
  rw[h1]
  simp only[Option.bind_some]
  cases b with
  | true=>exact⟨[],true,by rw[if_pos rfl],⟨tells_bad h2,fun _=>rfl,fun h=>(by cases h),by simp,List.Pairwise.nil,by simp⟩⟩
  | false=>
    have hM:=h3 rfl
    have ho:=out29 hM.len 4096 0 [] (by omega) (by simp)
    rw[show (([]:List Int),(1:Int))=([],((0 + 1:Nat):Int)) from rfl,if_neg (by decide),ho]
    simp only[Option.bind_some,List.nil_append]
    have hpw:((List.range' 0 4096).flatMap (pick29 m)).Pairwise fun x y=>x.natAbs < y.natAbs:=by
      rw[List.pairwise_flatMap]
      refine⟨fun i hi=>?_,(List.pairwise_lt_range' (s:=0) (n:=4096)).imp fun {i j} hij x hx y hy=>?_⟩
      · have hi:=List.mem_range'_1.1 hi
        have hg:goodB ((i + 1:Nat):Int)=true:=goodB_iff.2 (by omega)
        unfold pick29
        cases q:mk29 m ((i + 1:Nat):Int) with
        | true=>
          rw[if_pos rfl,if_neg (by rw[hM.o _ hg q]; decide)]
          exact List.pairwise_singleton _ _
        | false=>
          rw[if_neg (by decide),List.nil_append]
          split
          · exact List.pairwise_singleton _ _
          · exact List.Pairwise.nil
      · have:=(pick_mem.1 hx).1
        have:=(pick_mem.1 hy).1
        omega
    have hmem:∀ x,x∈(List.range' 0 4096).flatMap (pick29 m)↔TM m x:=fun x=>by
      rw[List.mem_flatMap]
      constructor
      · rintro⟨i,hi,hx⟩
        have hi:=List.mem_range'_1.1 hi
        obtain⟨q1,q2⟩:=pick_mem.1 hx
        exact⟨goodB_iff.2 (by omega),q2⟩
      · rintro⟨hg,hx⟩
        have:=goodB_iff.1 hg
        exact⟨x.natAbs - 1,List.mem_range'_1.2 (by omega),pick_mem.2 ⟨by omega,hx⟩⟩
    refine⟨_,false,rfl,⟨tells_bad h2,fun h=>(by cases h),fun _ x=>(hmem x).trans ((h2.2 rfl).2 x),?_,hpw.imp fun h=>Nat.le_of_lt h,?_⟩⟩
    · exact List.pairwise_map.2 (hpw.imp fun h=>Nat.ne_of_lt h)
    · have:=nodup_lt 8193 (((List.range' 0 4096).flatMap (pick29 m)).map Int.natAbs) (List.pairwise_map.2 (hpw.imp fun h=>Nat.ne_of_lt h)) (fun i hi=>by
        obtain⟨x,hx,rfl⟩:=List.mem_map.1 hi
        have:=goodB_iff.1 ((hmem x).1 hx).1
        omega)
      rw[List.length_map] at this
      exact this
theorem neg29 (c:List Int) (hc:c.length≤1048576) (hg:∀ y∈c,goodB y=true):loopC (ref29_Step_l1 c) ([],0)=some (c.map fun y=> -y):=by
  obtain⟨t,h1,h2⟩:=loopC_inv (f:=ref29_Step_l1 c) (fun x=>∃ i:Nat,x.2=(i:Int)∧i≤c.length∧x.1=(c.take i).map (fun y=> -y)) (fun x=>c.length - x.2.toNat) (fun t=>t=c.map fun y=> -y) (fun x hx=>by
    obtain⟨l,z⟩:=x
    obtain⟨i,e,hi,hll⟩:=hx
    simp only at e hll
    subst e
    unfold ref29_Step_l1
    simp only[]
    rcases Nat.lt_or_ge i c.length with h | h
    · right
      rw[if_pos (by simpa using h),ixl_nat h]
      simp only[Option.bind_some]
      rw[w64_neg (hg _ (List.getElem_mem h)),app_ok (by rw[hll]; simp only[List.length_singleton,List.length_map,List.length_take]; omega) (by rw[hll]; simp only[List.length_singleton,List.length_map,List.length_take]; omega),w64_n i (by omega)]
      refine⟨(l ++ [-c[i]],((i + 1:Nat):Int)),rfl,⟨i + 1,rfl,h,?_⟩,by simp only[Int.toNat_natCast]; omega⟩
      simp only
      rw[hll,List.take_succ_eq_append_getElem h,List.map_append]
      rfl
    · left
      have:i=c.length:=by omega
      subst this
      rw[List.take_length] at hll
      rw[if_neg (by simp)]
      exact⟨_,rfl,hll⟩) (x:=(([]:List Int),(0:Int))) ⟨0,rfl,Nat.zero_le _,rfl⟩
  rw[h1,h2]
theorem u8296_eq (a0:List (List Int)) (a1:List Int):ref29_units_m8296 a0 a1=ref29_units a0 a1:=rfl
theorem refStep_is (cls:List (List Int)) (c:List Int) (hn:cls.length≤1048576) (hl:∀ c∈cls,c.length≤1048576) (hc:c.length≤1048576):∃ b,ref29_Step cls c=some b∧StepIs cls c b:=by
  unfold ref29_Step
  rw[lits29 c hc]
  simp only[Option.bind_some]
  cases hg:c.all goodB with
  | true=>
    rw[if_neg (by decide),neg29 c hc (List.all_eq_true.1 hg)]
    simp only[Option.bind_some]
    obtain⟨s,b,h1,h2,_⟩:=units29 cls (c.map fun y=> -y) hn hl (by simpa using hc)
    rw[u8296_eq,h1]
    exact⟨b,rfl,(tells_bad h2).trans ⟨fun h=>⟨hg,h⟩,fun h=>h.2⟩⟩
  | false=>
    rw[if_pos (by decide)]
    exact⟨false,rfl,⟨fun h=>(by cases h),fun h=>by rw[hg] at h; cases h.1⟩⟩
theorem step_same29 (cls:List (List Int)) (c:List Int) (hn:cls.length≤1048576) (hl:∀ c∈cls,c.length≤1048576) (hc:c.length≤1048576):∃ b,rup_Step cls c=some b∧ref29_Step cls c=some b:=by
  obtain⟨b,h1,h2⟩:=rStep_is cls c hn hl hc
  obtain⟨b',h3,h4⟩:=refStep_is cls c hn hl hc
  rw[h2.same h4] at h1
  exact⟨b',h1,h3⟩
theorem loopC_same29 {σ τ:Type} {f g:σ→Option (Step σ τ)} (I:σ→Prop) (μ:σ→Nat) (h:∀ x,I x→(∃ t,f x=some (.done t)∧g x=some (.done t))∨∃ y,f x=some (.next y)∧g x=some (.next y)∧I y∧μ y < μ x):∀ (n:Nat) (x:σ),μ x≤n→I x→∃ t,loopC f x=some t∧loopC g x=some t:=by
  intro n
  induction n with
  | zero=>
    intro x hn hx
    rcases h x hx with ⟨t,h1,h2⟩ | ⟨y,_,_,_,h4⟩
    · exact⟨t,loopC_done h1,loopC_done h2⟩
    · omega
  | succ n ih=>
    intro x hn hx
    rcases h x hx with ⟨t,h1,h2⟩ | ⟨y,h1,h2,h3,h4⟩
    · exact⟨t,loopC_done h1,loopC_done h2⟩
    · obtain⟨t,k1,k2⟩:=ih y (by omega) h3
      exact⟨t,by rw[loopC_next h1]; exact k1,by rw[loopC_next h2]; exact k2⟩
theorem check_same29 (cls prf:List (List Int)) (hn:cls.length≤1000) (hn2:prf.length≤1000) (hl:∀ c∈cls,c.length≤1048576) (hl2:∀ c∈prf,c.length≤1048576):∃ n,rup_Check cls prf=some n∧ref29_Check cls prf=some n:=by
  unfold rup_Check ref29_Check slices_Clone_int_int
  rw[app_ok (by simp only[List.length_nil]; omega) (by simp only[List.length_nil]; omega)]
  simp only[Option.bind_some,List.nil_append]
  obtain⟨t,k1,k2⟩:=loopC_same29 (f:=rup_Check_l1 prf) (g:=ref29_Check_l1 prf) (fun x=>∃ i:Nat,x.2=(i:Int)∧i≤prf.length∧x.1.length≤1000 + i∧∀ c∈x.1,c.length≤1048576) (fun x=>prf.length - x.2.toNat) (fun x hx=>by
    obtain⟨l,z⟩:=x
    obtain⟨i,e,hi,hll,hg⟩:=hx
    simp only at e hll hg
    subst e
    unfold rup_Check_l1 ref29_Check_l1
    simp only[]
    rcases Nat.lt_or_ge i prf.length with h | h
    · obtain⟨b,b1,b2⟩:=step_same29 l prf[i] (by omega) hg (hl2 _ (List.getElem_mem h))
      rw[if_pos (by simpa using h),if_pos (by simpa using h),ixl_nat h]
      simp only[Option.bind_some]
      rw[b1,b2]
      simp only[Option.bind_some]
      cases b with
      | false=>exact .inl ⟨_,rfl,rfl⟩
      | true=>
        right
        simp only[Bool.not_true,Bool.false_eq_true,if_false]
        rw[app_ok (by simp only[List.length_singleton]; omega) (by simp only[List.length_singleton]; omega),w64_n i (by omega)]
        refine⟨(l ++ [prf[i]],((i + 1:Nat):Int)),rfl,rfl,⟨i + 1,rfl,h,by simp only[List.length_append,List.length_singleton]; omega,fun c hc=>?_⟩,by simp only[Int.toNat_natCast]; omega⟩
        rcases List.mem_append.1 hc with hc | hc
        · exact hg c hc
        · rw[List.mem_singleton.1 hc]; exact hl2 _ (List.getElem_mem h)
    · left
      rw[if_neg (by simp; omega),if_neg (by simp; omega)]
      exact⟨_,rfl,rfl⟩) prf.length (cls,(0:Int)) (by simp) ⟨0,rfl,Nat.zero_le _,hn,hl⟩
  rw[k1,k2]
  cases t with
  | inl z=>exact⟨z,rfl,rfl⟩
  | inr z=>exact⟨_,rfl,rfl⟩
theorem refutes_same29 (cls prf:List (List Int)) (hn:cls.length≤1000) (hn2:prf.length≤1000) (hl:∀ c∈cls,c.length≤1048576) (hl2:∀ c∈prf,c.length≤1048576):∃ b,rup_Refutes cls prf=some b∧ref29_Refutes cls prf=some b:=by
  obtain⟨n,h1,h2⟩:=check_same29 cls prf hn hn2 hl hl2
  unfold rup_Refutes ref29_Refutes
  rw[h1,h2]
  generalize e:(if (decide ((List.length prf:Int) > 0))=true then Option.bind (ixl prf (w64 ((List.length prf:Int) - 1))) (fun x3=>some ((List.length x3:Int) == 0)) else some false:Option Bool)=z
  have hz:∃ b,z=some b:=by
    rw[← e]
    rcases Nat.eq_zero_or_pos prf.length with h0 | h0
    · exact⟨false,by rw[if_neg (by rw[decide_eq_true_eq]; omega)]⟩
    · rw[if_pos (by rw[decide_eq_true_eq]; omega),w64_id (x:=(prf.length:Int) - 1) (by omega) (by omega),show (prf.length:Int) - 1=((prf.length - 1:Nat):Int) by omega,ixl_nat (by omega)]
      exact⟨_,rfl⟩
  obtain⟨b,rfl⟩:=hz
  cases b with
  | true=>exact⟨_,rfl,rfl⟩
  | false=>exact⟨_,rfl,rfl⟩
theorem ints29_s (a:List Int) (h:a.length≤1048576):law29_ints a a=some true:=by
  unfold law29_ints
  rw[if_neg (by simp),walkB (F:=law29_ints_l1 a a) (p:=fun _=>true) h (fun i hi _=>by
    unfold law29_ints_l1
    rw[if_pos (by simpa using hi),ixl_nat hi]
    simp only[Option.bind_some]
    rw[if_neg (by simp),w64_n i (by omega)]
    simp) (by
    unfold law29_ints_l1
    rw[if_neg (by simp)])]
  rw[if_pos (List.all_eq_true.2 fun _ _=>rfl)]
  rfl
theorem RupChecks_true (a0 a1:List (List Int)) (a2:List Int) (_:∀ c∈a0,∀ y∈c,(Lit.int .i64 y).wf=true) (_:∀ c∈a1,∀ y∈c,(Lit.int .i64 y).wf=true) (_:∀ y∈a2,(Lit.int .i64 y).wf=true)
    (m0:((a0.map fun y=>((y.map fun y=>1).sum + 1)).sum + 1)≤1048576) (m1:((a1.map fun y=>((y.map fun y=>1).sum + 1)).sum + 1)≤1048576) (m2:((a2.map fun y=>1).sum + 1)≤1048576):law29_RupChecks a0 a1 a2=some true:=by
  obtain⟨l0,r0⟩:=rows29 m0
  obtain⟨l1,r1⟩:=rows29 m1
  have l2:a2.length≤1048576:=by rw[sum29] at m2; omega
  have t0:(a0.take 30).length≤30:=by rw[List.length_take]; omega
  have t1:(a1.take 30).length≤30:=by rw[List.length_take]; omega
  have t2:(a2.take 30).length≤1048576:=by rw[List.length_take]; omega
  have hc0:∀ c∈a0.take 30,c.length≤1048576:=fun c hc=>r0 c (List.mem_of_mem_take hc)
  have hc1:∀ c∈a1.take 30,c.length≤1048576:=fun c hc=>r1 c (List.mem_of_mem_take hc)
  unfold law29_RupChecks
  rw[few29 a0 l0]
  simp only[Option.bind_some]
  rw[few29 a1 l1]
  simp only[Option.bind_some]
  rw[sub29 a2 l2]
  simp only[Option.bind_some]
  generalize a0.take 30=cls at *
  generalize a1.take 30=prf at *
  generalize a2.take 30=asm at *
  obtain⟨l,b,u1,u2⟩:=rUnits_are cls asm (by omega) hc0 t2
  obtain⟨k,d,v1,v2⟩:=refUnits_are cls asm (by omega) hc0 t2
  obtain⟨rfl,rfl⟩:=u2.same v2
  obtain⟨p,p1,p2⟩:=step_same29 cls asm (by omega) hc0 t2
  obtain⟨q,q1,q2⟩:=check_same29 cls prf (by omega) (by omega) hc0 hc1
  obtain⟨r,w1,w2⟩:=refutes_same29 cls prf (by omega) (by omega) hc0 hc1
  rw[u1,v1,p1,p2,q1,q2,w1,w2]
  simp only[Option.bind_some]
  rw[ints29_s l (by have:=u2.len; omega)]
  simp only[Option.bind_some,beq_self_eq_true,Bool.and_self,if_true]
  rfl
end Go.Vm

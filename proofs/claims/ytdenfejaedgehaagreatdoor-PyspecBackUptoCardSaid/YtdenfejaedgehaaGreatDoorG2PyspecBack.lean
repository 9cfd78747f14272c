/- The law PyspecBack, a part of its proof: what the functions that it reaches compute. -/
import Derived.Test.YtdenfejaedgehaaGreatDoorG0PyspecBack
import Derived.Test.YtdenfejaedgehaaGreatDoorG1PyspecBack
set_option linter.unusedVariables false
set_option linter.unusedSimpArgs false
set_option maxRecDepth 100000
set_option maxHeartbeats 0
set_option linter.unusedVariables false
set_option linter.unusedSimpArgs false
namespace Go.Vm
open Go
abbrev Oa:List LO:=[lo 1 (.box 67 (.tmp 0)) 0,lo 2 (.assign (.const (.bool false))) 4]
abbrev OH:List LO:=[lo 3 (.fieldAddr 67 (.tmp 1) 2) 0,lo 4 (.load 34 (.tmp 3)) 34,lo 5 (.call ⟨.value (.func 98),#[.tmp 4],#[34]⟩) 34,lo 6 (.fieldAddr 67 (.tmp 1) 3) 0,lo 7 (.load 34 (.tmp 6)) 34,lo 8 (.call ⟨.value (.func 98),#[.tmp 7],#[34]⟩) 34,lo 9 (.call ⟨.value (.func 65),#[.tmp 5,.tmp 8],#[34,34]⟩) 3,lo 10 (.binOp .eql 3 (.tmp 9) (.const (.int .i64 0)) 3) 4,lo 2 (.assign (.tmp 10)) 4]
abbrev HX:LC:=.seq (.reg false Oa) (.seq (.reg true OH) .ret)
theorem Pi:BE E 66 11 [.tmp 2] HX:=⟨⟨Go.Proofs.Tryz.f66,by kernel_rfl,by kernel_rfl,by kernel_rfl,by kernel_rfl,by kernel_rfl⟩,rfl,rfl⟩
noncomputable def CV (a0:AR):Option (Bool):=Option.bind (Hc (AF.mk a0.v.Epoch a0.v.Release a0.v.Pre a0.v.PreNum a0.v.Post a0.v.PostNum a0.v.Dev a0.v.DevNum a0.v.Local)) (fun x1=>Option.bind (Hc (AF.mk a0.w.Epoch a0.w.Release a0.w.Pre a0.w.PreNum a0.w.Post a0.w.PostNum a0.w.Dev a0.w.DevNum a0.w.Local)) (fun x2=>Option.bind (EU x1 x2) (fun x3=>some (x3 == 0))))
theorem Gl (a0:AR):Ct E 66 [.agg [bs a0.c.Op,bs a0.c.Ver,bv a0.c.Star,bs a0.text,bs a0.v.Epoch,.fsl 1 (List.map cS a0.v.Release),.s (.int .u8 a0.v.Pre),bs a0.v.PreNum,bv a0.v.Post,bs a0.v.PostNum,bv a0.v.Dev,bs a0.v.DevNum,.fsl 1 (List.map cS a0.v.Local),bs a0.w.Epoch,.fsl 1 (List.map cS a0.w.Release),.s (.int .u8 a0.w.Pre),bs a0.w.PreNum,bv a0.w.Post,bs a0.w.PostNum,bv a0.w.Dev,bs a0.w.DevNum,.fsl 1 (List.map cS a0.w.Local)]] (CV a0) (fun r:Bool=>bv r):=Ad (N:=11) (L:=HX) Pi rfl (Nat.le_of_ble_eq_true rfl) (by kernel_rfl) (by
 unfold CV
 refine jS ⟨[V 1 (pt 0 22)],[W 0 22 [bs a0.c.Op,bs a0.c.Ver,bv a0.c.Star,bs a0.text,bs a0.v.Epoch,.fsl 1 (List.map cS a0.v.Release),.s (.int .u8 a0.v.Pre),bs a0.v.PreNum,bv a0.v.Post,bs a0.v.PostNum,bv a0.v.Dev,bs a0.v.DevNum,.fsl 1 (List.map cS a0.v.Local),bs a0.w.Epoch,.fsl 1 (List.map cS a0.w.Release),.s (.int .u8 a0.w.Pre),bs a0.w.PreNum,bv a0.w.Post,bs a0.w.PostNum,bv a0.w.Dev,bs a0.w.DevNum,.fsl 1 (List.map cS a0.w.Local)]],1⟩ ?_
 refine jR ?_
 refine jG 0 2 ⟨[V 1 (pt 0 22),V 4 (.agg [bs a0.v.Epoch,.fsl 1 (List.map cS a0.v.Release),.s (.int .u8 a0.v.Pre),bs a0.v.PreNum,bv a0.v.Post,bs a0.v.PostNum,bv a0.v.Dev,bs a0.v.DevNum,.fsl 1 (List.map cS a0.v.Local)])],[W 0 22 [bs a0.c.Op,bs a0.c.Ver,bv a0.c.Star,bs a0.text,bs a0.v.Epoch,.fsl 1 (List.map cS a0.v.Release),.s (.int .u8 a0.v.Pre),bs a0.v.PreNum,bv a0.v.Post,bs a0.v.PostNum,bv a0.v.Dev,bs a0.v.DevNum,.fsl 1 (List.map cS a0.v.Local),bs a0.w.Epoch,.fsl 1 (List.map cS a0.w.Release),.s (.int .u8 a0.w.Pre),bs a0.w.PreNum,bv a0.w.Post,bs a0.w.PostNum,bv a0.w.Dev,bs a0.w.DevNum,.fsl 1 (List.map cS a0.w.Local)]],1⟩ ?_
 refine jK 2 (PD (AF.mk a0.v.Epoch a0.v.Release a0.v.Pre a0.v.PreNum a0.v.Post a0.v.PostNum a0.v.Dev a0.v.DevNum a0.v.Local)) ?_
 intro x1 h1
 refine jG 3 2 ⟨[V 5 (.agg [bs x1.Epoch,.fsl 1 (List.map cS x1.Release),.s (.int .u8 x1.Pre),bs x1.PreNum,bv x1.Post,bs x1.PostNum,bv x1.Dev,bs x1.DevNum,.fsl 1 (List.map cS x1.Local)]),V 7 (.agg [bs a0.w.Epoch,.fsl 1 (List.map cS a0.w.Release),.s (.int .u8 a0.w.Pre),bs a0.w.PreNum,bv a0.w.Post,bs a0.w.PostNum,bv a0.w.Dev,bs a0.w.DevNum,.fsl 1 (List.map cS a0.w.Local)])],[],1⟩ ?_
 refine jK 5 (PD (AF.mk a0.w.Epoch a0.w.Release a0.w.Pre a0.w.PreNum a0.w.Post a0.w.PostNum a0.w.Dev a0.w.DevNum a0.w.Local)) ?_
 intro x2 h2
 refine jK 6 (GG x1 x2) ?_
 intro x3 h3
 refine jG 7 2 ⟨[V 2 (bv (x3 == 0))],[],1⟩ ?_
 refine jN ?_
 refine AO ?_
 exact AP (.inr rfl) (v:=bv (x3 == 0)) (by kernel_rfl) rfl (AE _))
abbrev TE:List LO:=[lo 1 (.box 67 (.tmp 0)) 0,lo 2 (.assign (.const (.bool false))) 4]
abbrev Tl:List LO:=[lo 3 (.fieldAddr 67 (.tmp 1) 2) 0,lo 4 (.load 34 (.tmp 3)) 34,lo 5 (.fieldAddr 67 (.tmp 1) 3) 0,lo 6 (.load 34 (.tmp 5)) 34,lo 7 (.call ⟨.value (.func 65),#[.tmp 4,.tmp 6],#[34,34]⟩) 3,lo 8 (.binOp .lss 3 (.tmp 7) (.const (.int .i64 0)) 3) 4,lm 9 8 4,lg 10 (.fieldAddr 67 (.tmp 1) 2) 0 9 true,lg 11 (.load 34 (.tmp 10)) 34 9 true,lg 12 (.call ⟨.value (.func 34),#[.tmp 11],#[34]⟩) 4 9 true,lmg 13 12 4 9 true,lg 14 (.fieldAddr 67 (.tmp 1) 3) 0 13 true,lg 15 (.load 34 (.tmp 14)) 34 13 true,lg 16 (.call ⟨.value (.func 34),#[.tmp 15],#[34]⟩) 4 13 true,lg 17 (.unOp .not 4 (.tmp 16)) 4 13 true,lg 18 (.pick (.tmp 13) (.tmp 17) (.const (.bool false))) 4 9 true,lmg 19 18 4 9 true,lg 20 (.load 67 (.tmp 1)) 67 19 true,lg 21 (.call ⟨.value (.func 66),#[.tmp 20],#[67]⟩) 4 19 true,lg 22 (.pick (.tmp 19) (.tmp 21) (.const (.bool false))) 4 9 true,lg 23 (.unOp .not 4 (.tmp 22)) 4 9 true,lo 24 (.pick (.tmp 9) (.tmp 23) (.const (.bool false))) 4,lo 2 (.assign (.tmp 24)) 4]
abbrev Lx:LC:=.seq (.reg false TE) (.seq (.reg false Tl) .ret)
theorem UV:BE E 64 25 [.tmp 2] Lx:=⟨⟨Go.Proofs.Tryz.f64,by kernel_rfl,by kernel_rfl,by kernel_rfl,by kernel_rfl,by kernel_rfl⟩,rfl,rfl⟩
noncomputable def Gg (a0:AR):Option (Bool):=Option.bind (EU (AF.mk a0.v.Epoch a0.v.Release a0.v.Pre a0.v.PreNum a0.v.Post a0.v.PostNum a0.v.Dev a0.v.DevNum a0.v.Local) (AF.mk a0.w.Epoch a0.w.Release a0.w.Pre a0.w.PreNum a0.w.Post a0.w.PostNum a0.w.Dev a0.w.DevNum a0.w.Local)) (fun x1=>Option.bind (if (decide (x1 < 0))=true then Option.bind (HS (AF.mk a0.v.Epoch a0.v.Release a0.v.Pre a0.v.PreNum a0.v.Post a0.v.PostNum a0.v.Dev a0.v.DevNum a0.v.Local)) (fun x8=>Option.bind (if x8=true then Option.bind (HS (AF.mk a0.w.Epoch a0.w.Release a0.w.Pre a0.w.PreNum a0.w.Post a0.w.PostNum a0.w.Dev a0.w.DevNum a0.w.Local)) (fun x11=>some (!x11)) else some false:Option (Bool)) (fun x10=>Option.bind (if x10=true then Option.bind (CV (AR.mk (AD.mk a0.c.Op a0.c.Ver a0.c.Star) a0.text (AF.mk a0.v.Epoch a0.v.Release a0.v.Pre a0.v.PreNum a0.v.Post a0.v.PostNum a0.v.Dev a0.v.DevNum a0.v.Local) (AF.mk a0.w.Epoch a0.w.Release a0.w.Pre a0.w.PreNum a0.w.Post a0.w.PostNum a0.w.Dev a0.w.DevNum a0.w.Local))) (fun x14=>some x14) else some false:Option (Bool)) (fun x13=>some (!x13)))) else some false:Option (Bool)) (fun x7=>some x7))
theorem Sg (a0:AR):Ct E 64 [.agg [bs a0.c.Op,bs a0.c.Ver,bv a0.c.Star,bs a0.text,bs a0.v.Epoch,.fsl 1 (List.map cS a0.v.Release),.s (.int .u8 a0.v.Pre),bs a0.v.PreNum,bv a0.v.Post,bs a0.v.PostNum,bv a0.v.Dev,bs a0.v.DevNum,.fsl 1 (List.map cS a0.v.Local),bs a0.w.Epoch,.fsl 1 (List.map cS a0.w.Release),.s (.int .u8 a0.w.Pre),bs a0.w.PreNum,bv a0.w.Post,bs a0.w.PostNum,bv a0.w.Dev,bs a0.w.DevNum,.fsl 1 (List.map cS a0.w.Local)]] (Gg a0) (fun r:Bool=>bv r):=Ad (N:=25) (L:=Lx) UV rfl (Nat.le_of_ble_eq_true rfl) (by kernel_rfl) (by
 unfold Gg
 refine jS ⟨[V 1 (pt 0 22)],[W 0 22 [bs a0.c.Op,bs a0.c.Ver,bv a0.c.Star,bs a0.text,bs a0.v.Epoch,.fsl 1 (List.map cS a0.v.Release),.s (.int .u8 a0.v.Pre),bs a0.v.PreNum,bv a0.v.Post,bs a0.v.PostNum,bv a0.v.Dev,bs a0.v.DevNum,.fsl 1 (List.map cS a0.v.Local),bs a0.w.Epoch,.fsl 1 (List.map cS a0.w.Release),.s (.int .u8 a0.w.Pre),bs a0.w.PreNum,bv a0.w.Post,bs a0.w.PostNum,bv a0.w.Dev,bs a0.w.DevNum,.fsl 1 (List.map cS a0.w.Local)]],1⟩ ?_
 refine jR ?_
 refine jG 0 4 ⟨[V 1 (pt 0 22),V 4 (.agg [bs a0.v.Epoch,.fsl 1 (List.map cS a0.v.Release),.s (.int .u8 a0.v.Pre),bs a0.v.PreNum,bv a0.v.Post,bs a0.v.PostNum,bv a0.v.Dev,bs a0.v.DevNum,.fsl 1 (List.map cS a0.v.Local)]),V 6 (.agg [bs a0.w.Epoch,.fsl 1 (List.map cS a0.w.Release),.s (.int .u8 a0.w.Pre),bs a0.w.PreNum,bv a0.w.Post,bs a0.w.PostNum,bv a0.w.Dev,bs a0.w.DevNum,.fsl 1 (List.map cS a0.w.Local)])],[W 0 22 [bs a0.c.Op,bs a0.c.Ver,bv a0.c.Star,bs a0.text,bs a0.v.Epoch,.fsl 1 (List.map cS a0.v.Release),.s (.int .u8 a0.v.Pre),bs a0.v.PreNum,bv a0.v.Post,bs a0.v.PostNum,bv a0.v.Dev,bs a0.v.DevNum,.fsl 1 (List.map cS a0.v.Local),bs a0.w.Epoch,.fsl 1 (List.map cS a0.w.Release),.s (.int .u8 a0.w.Pre),bs a0.w.PreNum,bv a0.w.Post,bs a0.w.PostNum,bv a0.w.Dev,bs a0.w.DevNum,.fsl 1 (List.map cS a0.w.Local)]],1⟩ ?_
 refine jK 4 (GG (AF.mk a0.v.Epoch a0.v.Release a0.v.Pre a0.v.PreNum a0.v.Post a0.v.PostNum a0.v.Dev a0.v.DevNum a0.v.Local) (AF.mk a0.w.Epoch a0.w.Release a0.w.Pre a0.w.PreNum a0.w.Post a0.w.PostNum a0.w.Dev a0.w.DevNum a0.w.Local)) ?_
 intro x1 h1
 refine jG 5 2 ⟨[V 1 (pt 0 22),V 9 (bv (decide (x1 < 0)))],[W 0 22 [bs a0.c.Op,bs a0.c.Ver,bv a0.c.Star,bs a0.text,bs a0.v.Epoch,.fsl 1 (List.map cS a0.v.Release),.s (.int .u8 a0.v.Pre),bs a0.v.PreNum,bv a0.v.Post,bs a0.v.PostNum,bv a0.v.Dev,bs a0.v.DevNum,.fsl 1 (List.map cS a0.v.Local),bs a0.w.Epoch,.fsl 1 (List.map cS a0.w.Release),.s (.int .u8 a0.w.Pre),bs a0.w.PreNum,bv a0.w.Post,bs a0.w.PostNum,bv a0.w.Dev,bs a0.w.DevNum,.fsl 1 (List.map cS a0.w.Local)]],1⟩ ?_
 refine Ak 7 15 (fun x7=>⟨[V 24 (bv x7)],[],0⟩) ?_ ?_
 ·refine jSp 9 ?_ ?_
  ·refine jG 0 2 ⟨[V 1 (pt 0 22),(9,.lit true),V 11 (.agg [bs a0.v.Epoch,.fsl 1 (List.map cS a0.v.Release),.s (.int .u8 a0.v.Pre),bs a0.v.PreNum,bv a0.v.Post,bs a0.v.PostNum,bv a0.v.Dev,bs a0.v.DevNum,.fsl 1 (List.map cS a0.v.Local)])],[W 0 22 [bs a0.c.Op,bs a0.c.Ver,bv a0.c.Star,bs a0.text,bs a0.v.Epoch,.fsl 1 (List.map cS a0.v.Release),.s (.int .u8 a0.v.Pre),bs a0.v.PreNum,bv a0.v.Post,bs a0.v.PostNum,bv a0.v.Dev,bs a0.v.DevNum,.fsl 1 (List.map cS a0.v.Local),bs a0.w.Epoch,.fsl 1 (List.map cS a0.w.Release),.s (.int .u8 a0.w.Pre),bs a0.w.PreNum,bv a0.w.Post,bs a0.w.PostNum,bv a0.w.Dev,bs a0.w.DevNum,.fsl 1 (List.map cS a0.w.Local)]],1⟩ ?_
   refine jK 2 (NA (AF.mk a0.v.Epoch a0.v.Release a0.v.Pre a0.v.PreNum a0.v.Post a0.v.PostNum a0.v.Dev a0.v.DevNum a0.v.Local)) ?_
   intro x8 h8
   refine jG 3 1 ⟨[V 1 (pt 0 22),(9,.lit true),V 13 (bv x8)],[W 0 22 [bs a0.c.Op,bs a0.c.Ver,bv a0.c.Star,bs a0.text,bs a0.v.Epoch,.fsl 1 (List.map cS a0.v.Release),.s (.int .u8 a0.v.Pre),bs a0.v.PreNum,bv a0.v.Post,bs a0.v.PostNum,bv a0.v.Dev,bs a0.v.DevNum,.fsl 1 (List.map cS a0.v.Local),bs a0.w.Epoch,.fsl 1 (List.map cS a0.w.Release),.s (.int .u8 a0.w.Pre),bs a0.w.PreNum,bv a0.w.Post,bs a0.w.PostNum,bv a0.w.Dev,bs a0.w.DevNum,.fsl 1 (List.map cS a0.w.Local)]],1⟩ ?_
   refine Ak 4 5 (fun x10=>⟨[V 1 (pt 0 22),V 9 (bv true),V 18 (bv x10)],[W 0 22 [bs a0.c.Op,bs a0.c.Ver,bv a0.c.Star,bs a0.text,bs a0.v.Epoch,.fsl 1 (List.map cS a0.v.Release),.s (.int .u8 a0.v.Pre),bs a0.v.PreNum,bv a0.v.Post,bs a0.v.PostNum,bv a0.v.Dev,bs a0.v.DevNum,.fsl 1 (List.map cS a0.v.Local),bs a0.w.Epoch,.fsl 1 (List.map cS a0.w.Release),.s (.int .u8 a0.w.Pre),bs a0.w.PreNum,bv a0.w.Post,bs a0.w.PostNum,bv a0.w.Dev,bs a0.w.DevNum,.fsl 1 (List.map cS a0.w.Local)]],1⟩) ?_ ?_
   ·refine jSp 13 ?_ ?_
    ·refine jG 0 2 ⟨[V 1 (pt 0 22),(9,.lit true),(13,.lit true),V 15 (.agg [bs a0.w.Epoch,.fsl 1 (List.map cS a0.w.Release),.s (.int .u8 a0.w.Pre),bs a0.w.PreNum,bv a0.w.Post,bs a0.w.PostNum,bv a0.w.Dev,bs a0.w.DevNum,.fsl 1 (List.map cS a0.w.Local)])],[W 0 22 [bs a0.c.Op,bs a0.c.Ver,bv a0.c.Star,bs a0.text,bs a0.v.Epoch,.fsl 1 (List.map cS a0.v.Release),.s (.int .u8 a0.v.Pre),bs a0.v.PreNum,bv a0.v.Post,bs a0.v.PostNum,bv a0.v.Dev,bs a0.v.DevNum,.fsl 1 (List.map cS a0.v.Local),bs a0.w.Epoch,.fsl 1 (List.map cS a0.w.Release),.s (.int .u8 a0.w.Pre),bs a0.w.PreNum,bv a0.w.Post,bs a0.w.PostNum,bv a0.w.Dev,bs a0.w.DevNum,.fsl 1 (List.map cS a0.w.Local)]],1⟩ ?_
     refine jK 2 (NA (AF.mk a0.w.Epoch a0.w.Release a0.w.Pre a0.w.PreNum a0.w.Post a0.w.PostNum a0.w.Dev a0.w.DevNum a0.w.Local)) ?_
     intro x11 h11
     refine jG 3 2 ⟨[V 1 (pt 0 22),(9,.lit true),V 18 (bv (!x11))],[W 0 22 [bs a0.c.Op,bs a0.c.Ver,bv a0.c.Star,bs a0.text,bs a0.v.Epoch,.fsl 1 (List.map cS a0.v.Release),.s (.int .u8 a0.v.Pre),bs a0.v.PreNum,bv a0.v.Post,bs a0.v.PostNum,bv a0.v.Dev,bs a0.v.DevNum,.fsl 1 (List.map cS a0.v.Local),bs a0.w.Epoch,.fsl 1 (List.map cS a0.w.Release),.s (.int .u8 a0.w.Pre),bs a0.w.PreNum,bv a0.w.Post,bs a0.w.PostNum,bv a0.w.Dev,bs a0.w.DevNum,.fsl 1 (List.map cS a0.w.Local)]],1⟩ ?_
     refine AQ rfl ?_
     exact AK rfl (wkR [(0,some 0)] (AH _) (pc (hC 0) AB))
    refine jG 0 5 ⟨[V 1 (pt 0 22),(9,.lit true),V 18 (bv false)],[W 0 22 [bs a0.c.Op,bs a0.c.Ver,bv a0.c.Star,bs a0.text,bs a0.v.Epoch,.fsl 1 (List.map cS a0.v.Release),.s (.int .u8 a0.v.Pre),bs a0.v.PreNum,bv a0.v.Post,bs a0.v.PostNum,bv a0.v.Dev,bs a0.v.DevNum,.fsl 1 (List.map cS a0.v.Local),bs a0.w.Epoch,.fsl 1 (List.map cS a0.w.Release),.s (.int .u8 a0.w.Pre),bs a0.w.PreNum,bv a0.w.Post,bs a0.w.PostNum,bv a0.w.Dev,bs a0.w.DevNum,.fsl 1 (List.map cS a0.w.Local)]],1⟩ ?_
    refine AQ rfl ?_
    exact AK rfl (wkR [(0,some 0)] (AH _) (pc (hC 0) AB))
   intro x10
   refine oD (g:=9) (b:=true) (by kernel_rfl) ?_
   refine jG 9 1 ⟨[V 1 (pt 0 22),(9,.lit true),V 19 (bv x10)],[W 0 22 [bs a0.c.Op,bs a0.c.Ver,bv a0.c.Star,bs a0.text,bs a0.v.Epoch,.fsl 1 (List.map cS a0.v.Release),.s (.int .u8 a0.v.Pre),bs a0.v.PreNum,bv a0.v.Post,bs a0.v.PostNum,bv a0.v.Dev,bs a0.v.DevNum,.fsl 1 (List.map cS a0.v.Local),bs a0.w.Epoch,.fsl 1 (List.map cS a0.w.Release),.s (.int .u8 a0.w.Pre),bs a0.w.PreNum,bv a0.w.Post,bs a0.w.PostNum,bv a0.w.Dev,bs a0.w.DevNum,.fsl 1 (List.map cS a0.w.Local)]],1⟩ ?_
   refine Ak 10 3 (fun x13=>⟨[V 9 (bv true),V 22 (bv x13)],[],0⟩) ?_ ?_
   ·refine jSp 19 ?_ ?_
    ·refine jG 0 1 ⟨[(9,.lit true),(19,.lit true),V 20 (.agg [bs a0.c.Op,bs a0.c.Ver,bv a0.c.Star,bs a0.text,bs a0.v.Epoch,.fsl 1 (List.map cS a0.v.Release),.s (.int .u8 a0.v.Pre),bs a0.v.PreNum,bv a0.v.Post,bs a0.v.PostNum,bv a0.v.Dev,bs a0.v.DevNum,.fsl 1 (List.map cS a0.v.Local),bs a0.w.Epoch,.fsl 1 (List.map cS a0.w.Release),.s (.int .u8 a0.w.Pre),bs a0.w.PreNum,bv a0.w.Post,bs a0.w.PostNum,bv a0.w.Dev,bs a0.w.DevNum,.fsl 1 (List.map cS a0.w.Local)])],[],1⟩ ?_
     refine jK 1 (Gl (AR.mk (AD.mk a0.c.Op a0.c.Ver a0.c.Star) a0.text (AF.mk a0.v.Epoch a0.v.Release a0.v.Pre a0.v.PreNum a0.v.Post a0.v.PostNum a0.v.Dev a0.v.DevNum a0.v.Local) (AF.mk a0.w.Epoch a0.w.Release a0.w.Pre a0.w.PreNum a0.w.Post a0.w.PostNum a0.w.Dev a0.w.DevNum a0.w.Local))) ?_
     intro x14 h14
     refine jG 2 1 ⟨[(9,.lit true),V 22 (bv x14)],[],1⟩ ?_
     refine AQ rfl ?_
     exact AK rfl (wkR [] (AH _) AB)
    refine jG 0 3 ⟨[(9,.lit true),V 22 (bv false)],[],1⟩ ?_
    refine AQ rfl ?_
    exact AK rfl (wkR [] (AH _) AB)
   intro x13
   refine oD (g:=9) (b:=true) (by kernel_rfl) ?_
   refine jG 13 2 ⟨[V 24 (bv (!x13))],[],0⟩ ?_
   refine AQ rfl ?_
   exact AK rfl (wkR [] (AH _) AB)
  refine jG 0 15 ⟨[V 24 (bv false)],[],1⟩ ?_
  refine AQ rfl ?_
  exact AK rfl (wkR [] (AH _) AB)
 intro x7
 refine jG 22 1 ⟨[V 2 (bv x7)],[],0⟩ ?_
 refine jN ?_
 refine AO ?_
 exact AP (.inr rfl) (v:=bv x7) (by kernel_rfl) rfl (AE _))
abbrev TR:List LO:=[lo 1 (.box 67 (.tmp 0)) 0,lo 2 (.assign (.const (.bool false))) 4]
abbrev Sf:List LO:=[lo 3 (.fieldAddr 67 (.tmp 1) 2) 0,lo 4 (.load 34 (.tmp 3)) 34,lo 5 (.fieldAddr 67 (.tmp 1) 3) 0,lo 6 (.load 34 (.tmp 5)) 34,lo 7 (.call ⟨.value (.func 65),#[.tmp 4,.tmp 6],#[34,34]⟩) 3,lo 8 (.binOp .gtr 3 (.tmp 7) (.const (.int .i64 0)) 3) 4,lm 9 8 4,lg 10 (.load 67 (.tmp 1)) 67 9 true,lg 11 (.call ⟨.value (.func 66),#[.tmp 10],#[67]⟩) 4 9 true,lmg 12 11 4 9 true,lg 13 (.fieldAddr 67 (.tmp 1) 2) 0 12 true,lg 14 (.fieldAddr 34 (.tmp 13) 8) 0 12 true,lg 15 (.load 32 (.tmp 14)) 32 12 true,lg 16 (.call ⟨.builtin .len,#[.tmp 15],#[32]⟩) 3 12 true,lg 17 (.binOp .gtr 3 (.tmp 16) (.const (.int .i64 0)) 3) 4 12 true,lmg 18 17 4 12 true,lg 19 (.fieldAddr 67 (.tmp 1) 2) 0 18 false,lg 20 (.fieldAddr 34 (.tmp 19) 4) 0 18 false,lg 21 (.load 4 (.tmp 20)) 4 18 false,lmg 22 21 4 18 false,lg 23 (.fieldAddr 67 (.tmp 1) 3) 0 22 true,lg 24 (.fieldAddr 34 (.tmp 23) 4) 0 22 true,lg 25 (.load 4 (.tmp 24)) 4 22 true,lg 26 (.unOp .not 4 (.tmp 25)) 4 22 true,lg 27 (.pick (.tmp 22) (.tmp 26) (.const (.bool false))) 4 18 false,lg 28 (.pick (.tmp 18) (.const (.bool true)) (.tmp 27)) 4 12 true,lg 29 (.pick (.tmp 12) (.tmp 28) (.const (.bool false))) 4 9 true,lg 30 (.unOp .not 4 (.tmp 29)) 4 9 true,lo 31 (.pick (.tmp 9) (.tmp 30) (.const (.bool false))) 4,lo 2 (.assign (.tmp 31)) 4]
abbrev MT:LC:=.seq (.reg false TR) (.seq (.reg false Sf) .ret)
theorem Uf:BE E 67 32 [.tmp 2] MT:=⟨⟨Go.Proofs.Tryz.f67,by kernel_rfl,by kernel_rfl,by kernel_rfl,by kernel_rfl,by kernel_rfl⟩,rfl,rfl⟩
noncomputable def GN (a0:AR):Option (Bool):=Option.bind (EU (AF.mk a0.v.Epoch a0.v.Release a0.v.Pre a0.v.PreNum a0.v.Post a0.v.PostNum a0.v.Dev a0.v.DevNum a0.v.Local) (AF.mk a0.w.Epoch a0.w.Release a0.w.Pre a0.w.PreNum a0.w.Post a0.w.PostNum a0.w.Dev a0.w.DevNum a0.w.Local)) (fun x1=>Option.bind (if (decide (x1 > 0))=true then Option.bind (CV (AR.mk (AD.mk a0.c.Op a0.c.Ver a0.c.Star) a0.text (AF.mk a0.v.Epoch a0.v.Release a0.v.Pre a0.v.PreNum a0.v.Post a0.v.PostNum a0.v.Dev a0.v.DevNum a0.v.Local) (AF.mk a0.w.Epoch a0.w.Release a0.w.Pre a0.w.PreNum a0.w.Post a0.w.PostNum a0.w.Dev a0.w.DevNum a0.w.Local))) (fun x4=>some (!(x4 && ((decide ((List.length a0.v.Local:Int) > 0)) || (a0.v.Post && (!a0.w.Post)))))) else some false:Option (Bool)) (fun x3=>some x3))
theorem TA (a0:AR):Ct E 67 [.agg [bs a0.c.Op,bs a0.c.Ver,bv a0.c.Star,bs a0.text,bs a0.v.Epoch,.fsl 1 (List.map cS a0.v.Release),.s (.int .u8 a0.v.Pre),bs a0.v.PreNum,bv a0.v.Post,bs a0.v.PostNum,bv a0.v.Dev,bs a0.v.DevNum,.fsl 1 (List.map cS a0.v.Local),bs a0.w.Epoch,.fsl 1 (List.map cS a0.w.Release),.s (.int .u8 a0.w.Pre),bs a0.w.PreNum,bv a0.w.Post,bs a0.w.PostNum,bv a0.w.Dev,bs a0.w.DevNum,.fsl 1 (List.map cS a0.w.Local)]] (GN a0) (fun r:Bool=>bv r):=Ad (N:=32) (L:=MT) Uf rfl (Nat.le_of_ble_eq_true rfl) (by kernel_rfl) (by
 unfold GN
 refine jS ⟨[V 1 (pt 0 22)],[W 0 22 [bs a0.c.Op,bs a0.c.Ver,bv a0.c.Star,bs a0.text,bs a0.v.Epoch,.fsl 1 (List.map cS a0.v.Release),.s (.int .u8 a0.v.Pre),bs a0.v.PreNum,bv a0.v.Post,bs a0.v.PostNum,bv a0.v.Dev,bs a0.v.DevNum,.fsl 1 (List.map cS a0.v.Local),bs a0.w.Epoch,.fsl 1 (List.map cS a0.w.Release),.s (.int .u8 a0.w.Pre),bs a0.w.PreNum,bv a0.w.Post,bs a0.w.PostNum,bv a0.w.Dev,bs a0.w.DevNum,.fsl 1 (List.map cS a0.w.Local)]],1⟩ ?_
 refine jR ?_
 refine jG 0 4 ⟨[V 1 (pt 0 22),V 4 (.agg [bs a0.v.Epoch,.fsl 1 (List.map cS a0.v.Release),.s (.int .u8 a0.v.Pre),bs a0.v.PreNum,bv a0.v.Post,bs a0.v.PostNum,bv a0.v.Dev,bs a0.v.DevNum,.fsl 1 (List.map cS a0.v.Local)]),V 6 (.agg [bs a0.w.Epoch,.fsl 1 (List.map cS a0.w.Release),.s (.int .u8 a0.w.Pre),bs a0.w.PreNum,bv a0.w.Post,bs a0.w.PostNum,bv a0.w.Dev,bs a0.w.DevNum,.fsl 1 (List.map cS a0.w.Local)])],[W 0 22 [bs a0.c.Op,bs a0.c.Ver,bv a0.c.Star,bs a0.text,bs a0.v.Epoch,.fsl 1 (List.map cS a0.v.Release),.s (.int .u8 a0.v.Pre),bs a0.v.PreNum,bv a0.v.Post,bs a0.v.PostNum,bv a0.v.Dev,bs a0.v.DevNum,.fsl 1 (List.map cS a0.v.Local),bs a0.w.Epoch,.fsl 1 (List.map cS a0.w.Release),.s (.int .u8 a0.w.Pre),bs a0.w.PreNum,bv a0.w.Post,bs a0.w.PostNum,bv a0.w.Dev,bs a0.w.DevNum,.fsl 1 (List.map cS a0.w.Local)]],1⟩ ?_
 refine jK 4 (GG (AF.mk a0.v.Epoch a0.v.Release a0.v.Pre a0.v.PreNum a0.v.Post a0.v.PostNum a0.v.Dev a0.v.DevNum a0.v.Local) (AF.mk a0.w.Epoch a0.w.Release a0.w.Pre a0.w.PreNum a0.w.Post a0.w.PostNum a0.w.Dev a0.w.DevNum a0.w.Local)) ?_
 intro x1 h1
 refine jG 5 2 ⟨[V 1 (pt 0 22),V 9 (bv (decide (x1 > 0)))],[W 0 22 [bs a0.c.Op,bs a0.c.Ver,bv a0.c.Star,bs a0.text,bs a0.v.Epoch,.fsl 1 (List.map cS a0.v.Release),.s (.int .u8 a0.v.Pre),bs a0.v.PreNum,bv a0.v.Post,bs a0.v.PostNum,bv a0.v.Dev,bs a0.v.DevNum,.fsl 1 (List.map cS a0.v.Local),bs a0.w.Epoch,.fsl 1 (List.map cS a0.w.Release),.s (.int .u8 a0.w.Pre),bs a0.w.PreNum,bv a0.w.Post,bs a0.w.PostNum,bv a0.w.Dev,bs a0.w.DevNum,.fsl 1 (List.map cS a0.w.Local)]],1⟩ ?_
 refine Ak 7 22 (fun x3=>⟨[V 31 (bv x3)],[],0⟩) ?_ ?_
 ·refine jSp 9 ?_ ?_
  ·refine jG 0 1 ⟨[V 1 (pt 0 22),(9,.lit true),V 10 (.agg [bs a0.c.Op,bs a0.c.Ver,bv a0.c.Star,bs a0.text,bs a0.v.Epoch,.fsl 1 (List.map cS a0.v.Release),.s (.int .u8 a0.v.Pre),bs a0.v.PreNum,bv a0.v.Post,bs a0.v.PostNum,bv a0.v.Dev,bs a0.v.DevNum,.fsl 1 (List.map cS a0.v.Local),bs a0.w.Epoch,.fsl 1 (List.map cS a0.w.Release),.s (.int .u8 a0.w.Pre),bs a0.w.PreNum,bv a0.w.Post,bs a0.w.PostNum,bv a0.w.Dev,bs a0.w.DevNum,.fsl 1 (List.map cS a0.w.Local)])],[W 0 22 [bs a0.c.Op,bs a0.c.Ver,bv a0.c.Star,bs a0.text,bs a0.v.Epoch,.fsl 1 (List.map cS a0.v.Release),.s (.int .u8 a0.v.Pre),bs a0.v.PreNum,bv a0.v.Post,bs a0.v.PostNum,bv a0.v.Dev,bs a0.v.DevNum,.fsl 1 (List.map cS a0.v.Local),bs a0.w.Epoch,.fsl 1 (List.map cS a0.w.Release),.s (.int .u8 a0.w.Pre),bs a0.w.PreNum,bv a0.w.Post,bs a0.w.PostNum,bv a0.w.Dev,bs a0.w.DevNum,.fsl 1 (List.map cS a0.w.Local)]],1⟩ ?_
   refine jK 1 (Gl (AR.mk (AD.mk a0.c.Op a0.c.Ver a0.c.Star) a0.text (AF.mk a0.v.Epoch a0.v.Release a0.v.Pre a0.v.PreNum a0.v.Post a0.v.PostNum a0.v.Dev a0.v.DevNum a0.v.Local) (AF.mk a0.w.Epoch a0.w.Release a0.w.Pre a0.w.PreNum a0.w.Post a0.w.PostNum a0.w.Dev a0.w.DevNum a0.w.Local))) ?_
   intro x4 h4
   refine jG 2 20 ⟨[V 31 (bv (!(x4 && ((decide ((List.length (List.map cS a0.v.Local):Int) > 0)) || (a0.v.Post && (!a0.w.Post))))))],[],1⟩ ?_
   simp only[List.length_map]
   refine AQ rfl ?_
   exact AK rfl (wkR [] (AH _) AB)
  refine jG 0 22 ⟨[V 31 (bv false)],[],1⟩ ?_
  refine AQ rfl ?_
  exact AK rfl (wkR [] (AH _) AB)
 intro x3
 refine jG 29 1 ⟨[V 2 (bv x3)],[],0⟩ ?_
 refine jN ?_
 refine AO ?_
 exact AP (.inr rfl) (v:=bv x3) (by kernel_rfl) rfl (AE _))
abbrev TK:List LO:=[lo 1 (.box 67 (.tmp 0)) 0,lo 2 (.assign (.const (.bool false))) 4]
abbrev Sy:List LO:=[lo 3 (.fieldAddr 67 (.tmp 1) 1) 0,lo 4 (.load 9 (.tmp 3)) 9,lo 5 (.call ⟨.value (.func 49),#[.tmp 4],#[9]⟩) 9,lo 6 (.fieldAddr 67 (.tmp 1) 0) 0,lo 7 (.fieldAddr 39 (.tmp 6) 1) 0,lo 8 (.load 9 (.tmp 7)) 9,lo 9 (.call ⟨.value (.func 49),#[.tmp 8],#[9]⟩) 9,lo 10 (.binOp .eql 9 (.tmp 5) (.tmp 9) 9) 4,lo 2 (.assign (.tmp 10)) 4]
abbrev MN:LC:=.seq (.reg false TK) (.seq (.reg true Sy) .ret)
theorem U6:BE E 68 11 [.tmp 2] MN:=⟨⟨Go.Proofs.Tryz.f68,by kernel_rfl,by kernel_rfl,by kernel_rfl,by kernel_rfl,by kernel_rfl⟩,rfl,rfl⟩
noncomputable def GL (a0:AR):Option (Bool):=Option.bind (E9 a0.text) (fun x1=>Option.bind (E9 a0.c.Ver) (fun x2=>some (x1 == x2)))
theorem Se (a0:AR):Ct E 68 [.agg [bs a0.c.Op,bs a0.c.Ver,bv a0.c.Star,bs a0.text,bs a0.v.Epoch,.fsl 1 (List.map cS a0.v.Release),.s (.int .u8 a0.v.Pre),bs a0.v.PreNum,bv a0.v.Post,bs a0.v.PostNum,bv a0.v.Dev,bs a0.v.DevNum,.fsl 1 (List.map cS a0.v.Local),bs a0.w.Epoch,.fsl 1 (List.map cS a0.w.Release),.s (.int .u8 a0.w.Pre),bs a0.w.PreNum,bv a0.w.Post,bs a0.w.PostNum,bv a0.w.Dev,bs a0.w.DevNum,.fsl 1 (List.map cS a0.w.Local)]] (GL a0) (fun r:Bool=>bv r):=Ad (N:=11) (L:=MN) U6 rfl (Nat.le_of_ble_eq_true rfl) (by kernel_rfl) (by
 unfold GL
 refine jS ⟨[V 1 (pt 0 22)],[W 0 22 [bs a0.c.Op,bs a0.c.Ver,bv a0.c.Star,bs a0.text,bs a0.v.Epoch,.fsl 1 (List.map cS a0.v.Release),.s (.int .u8 a0.v.Pre),bs a0.v.PreNum,bv a0.v.Post,bs a0.v.PostNum,bv a0.v.Dev,bs a0.v.DevNum,.fsl 1 (List.map cS a0.v.Local),bs a0.w.Epoch,.fsl 1 (List.map cS a0.w.Release),.s (.int .u8 a0.w.Pre),bs a0.w.PreNum,bv a0.w.Post,bs a0.w.PostNum,bv a0.w.Dev,bs a0.w.DevNum,.fsl 1 (List.map cS a0.w.Local)]],1⟩ ?_
 refine jR ?_
 refine jG 0 2 ⟨[V 1 (pt 0 22),V 4 (bs a0.text)],[W 0 22 [bs a0.c.Op,bs a0.c.Ver,bv a0.c.Star,bs a0.text,bs a0.v.Epoch,.fsl 1 (List.map cS a0.v.Release),.s (.int .u8 a0.v.Pre),bs a0.v.PreNum,bv a0.v.Post,bs a0.v.PostNum,bv a0.v.Dev,bs a0.v.DevNum,.fsl 1 (List.map cS a0.v.Local),bs a0.w.Epoch,.fsl 1 (List.map cS a0.w.Release),.s (.int .u8 a0.w.Pre),bs a0.w.PreNum,bv a0.w.Post,bs a0.w.PostNum,bv a0.w.Dev,bs a0.w.DevNum,.fsl 1 (List.map cS a0.w.Local)]],1⟩ ?_
 refine jK 2 (HR a0.text) ?_
 intro x1 h1
 refine jG 3 3 ⟨[V 5 (bs x1),V 8 (bs a0.c.Ver)],[],1⟩ ?_
 refine jK 6 (HR a0.c.Ver) ?_
 intro x2 h2
 refine jG 7 2 ⟨[V 2 (bv (x1 == x2))],[],1⟩ ?_
 refine jN ?_
 refine AO ?_
 exact AP (.inr rfl) (v:=bv (x1 == x2)) (by kernel_rfl) rfl (AE _))
abbrev Wb:List LO:=[lo 2 (.box 39 (.tmp 0)) 0,lo 4 (.assign (.const (.bool false))) 4]
abbrev Wi:List LO:=[lm 10 1 9,lo 11 (.call ⟨.value (.func 31),#[.tmp 10],#[9]⟩) 35,lm 9 11 35,lo 12 (.extract (.tmp 9) 0) 34,lo 13 (.extract (.tmp 9) 1) 25,lo 5 (.alloc 34) 0,lo 6 (.alloc 25) 0,ln (.store 34 (.tmp 5) (.tmp 12)) 0,ln (.store 25 (.tmp 6) (.tmp 13)) 0]
abbrev WE:List LO:=[lo 14 (.fieldAddr 25 (.tmp 6) 0) 0,lo 15 (.load 23 (.tmp 14)) 23,lo 16 (.binOp .neq 23 (.tmp 15) (.const (.int .i64 0)) 23) 4,lm 17 16 4,lg 18 (.load 39 (.tmp 2)) 39 17 false,lg 19 (.call ⟨.value (.func 32),#[.tmp 18],#[39]⟩) 4 17 false,lg 20 (.unOp .not 4 (.tmp 19)) 4 17 false,lo 21 (.pick (.tmp 17) (.const (.bool true)) (.tmp 20)) 4]
abbrev V8:List LO:=[lo 4 (.assign (.const (.bool false))) 4]
abbrev V6:List LO:=[lo 23 (.fieldAddr 39 (.tmp 2) 1) 0,lo 24 (.load 9 (.tmp 23)) 9,lo 25 (.call ⟨.value (.func 31),#[.tmp 24],#[9]⟩) 35,lm 22 25 35,lo 26 (.extract (.tmp 22) 0) 34,lo 27 (.extract (.tmp 22) 1) 25,lo 7 (.alloc 34) 0,lo 8 (.alloc 25) 0,ln (.store 34 (.tmp 7) (.tmp 26)) 0,ln (.store 25 (.tmp 8) (.tmp 27)) 0]
abbrev Wh:List LO:=[lo 28 (.call ⟨.value (.func 33),#[],#[]⟩) 64,lo 29 (.fieldAddr 39 (.tmp 2) 0) 0,lo 30 (.load 9 (.tmp 29)) 9,lo 31 (.lookup 64 (.tmp 28) (.tmp 30) false) 63,lo 32 (.load 39 (.tmp 2)) 39,lm 33 1 9,lo 34 (.load 34 (.tmp 5)) 34,lo 35 (.load 34 (.tmp 7)) 34,lo 36 (.build 67 #[(0,.tmp 32),(1,.tmp 33),(2,.tmp 34),(3,.tmp 35)]) 67,lo 37 (.call ⟨.value (.tmp 31),#[.tmp 36],#[67]⟩) 4,lo 4 (.assign (.tmp 37)) 4]
abbrev O5:LC:=.seq (.reg false Wb) (.seq (.reg false Wi) (.seq (.seq (.reg false WE) (.cond (.tmp 21) (.seq (.reg false V8) .ret) .skip)) (.seq (.reg false V6) (.seq (.reg true Wh) .ret))))
theorem YE:BE E 12 38 [.tmp 4] O5:=⟨⟨Go.Proofs.Tryz.f12,by kernel_rfl,by kernel_rfl,by kernel_rfl,by kernel_rfl,by kernel_rfl⟩,rfl,rfl⟩
noncomputable def GV (a0:AD) (a1:Str):Option (Bool):=Option.bind (FG a1) (fun x1=>Option.bind (if (x1.2.Err != 0)=true then some true else Option.bind (G4 a0) (fun x4=>some (!x4)):Option (Bool)) (fun x3=>(if x3=true then some false else Option.bind (FG a0.Ver) (fun x5=>Option.bind (Jc) (fun x6=>(if (a0.Op == [61,61])=true then Option.bind (CU (AR.mk a0 a1 (AF.mk x1.1.Epoch x1.1.Release x1.1.Pre x1.1.PreNum x1.1.Post x1.1.PostNum x1.1.Dev x1.1.DevNum x1.1.Local) (AF.mk x5.1.Epoch x5.1.Release x5.1.Pre x5.1.PreNum x5.1.Post x5.1.PostNum x5.1.Dev x5.1.DevNum x5.1.Local))) (fun x14=>some x14) else (if (a0.Op == [33,61])=true then Option.bind (Gb (AR.mk a0 a1 (AF.mk x1.1.Epoch x1.1.Release x1.1.Pre x1.1.PreNum x1.1.Post x1.1.PostNum x1.1.Dev x1.1.DevNum x1.1.Local) (AF.mk x5.1.Epoch x5.1.Release x5.1.Pre x5.1.PreNum x5.1.Post x5.1.PostNum x5.1.Dev x5.1.DevNum x5.1.Local))) (fun x13=>some x13) else (if (a0.Op == [126,61])=true then Option.bind (GE (AR.mk a0 a1 (AF.mk x1.1.Epoch x1.1.Release x1.1.Pre x1.1.PreNum x1.1.Post x1.1.PostNum x1.1.Dev x1.1.DevNum x1.1.Local) (AF.mk x5.1.Epoch x5.1.Release x5.1.Pre x5.1.PreNum x5.1.Post x5.1.PostNum x5.1.Dev x5.1.DevNum x5.1.Local))) (fun x12=>some x12) else (if (a0.Op == [60,61])=true then Option.bind (GU (AR.mk a0 a1 (AF.mk x1.1.Epoch x1.1.Release x1.1.Pre x1.1.PreNum x1.1.Post x1.1.PostNum x1.1.Dev x1.1.DevNum x1.1.Local) (AF.mk x5.1.Epoch x5.1.Release x5.1.Pre x5.1.PreNum x5.1.Post x5.1.PostNum x5.1.Dev x5.1.DevNum x5.1.Local))) (fun x11=>some x11) else (if (a0.Op == [62,61])=true then Option.bind (Ga (AR.mk a0 a1 (AF.mk x1.1.Epoch x1.1.Release x1.1.Pre x1.1.PreNum x1.1.Post x1.1.PostNum x1.1.Dev x1.1.DevNum x1.1.Local) (AF.mk x5.1.Epoch x5.1.Release x5.1.Pre x5.1.PreNum x5.1.Post x5.1.PostNum x5.1.Dev x5.1.DevNum x5.1.Local))) (fun x10=>some x10) else (if (a0.Op == [60])=true then Option.bind (Gg (AR.mk a0 a1 (AF.mk x1.1.Epoch x1.1.Release x1.1.Pre x1.1.PreNum x1.1.Post x1.1.PostNum x1.1.Dev x1.1.DevNum x1.1.Local) (AF.mk x5.1.Epoch x5.1.Release x5.1.Pre x5.1.PreNum x5.1.Post x5.1.PostNum x5.1.Dev x5.1.DevNum x5.1.Local))) (fun x9=>some x9) else (if (a0.Op == [62])=true then Option.bind (GN (AR.mk a0 a1 (AF.mk x1.1.Epoch x1.1.Release x1.1.Pre x1.1.PreNum x1.1.Post x1.1.PostNum x1.1.Dev x1.1.DevNum x1.1.Local) (AF.mk x5.1.Epoch x5.1.Release x5.1.Pre x5.1.PreNum x5.1.Post x5.1.PostNum x5.1.Dev x5.1.DevNum x5.1.Local))) (fun x8=>some x8) else (if (a0.Op == [61,61,61])=true then Option.bind (GL (AR.mk a0 a1 (AF.mk x1.1.Epoch x1.1.Release x1.1.Pre x1.1.PreNum x1.1.Post x1.1.PostNum x1.1.Dev x1.1.DevNum x1.1.Local) (AF.mk x5.1.Epoch x5.1.Release x5.1.Pre x5.1.PreNum x5.1.Post x5.1.PostNum x5.1.Dev x5.1.DevNum x5.1.Local))) (fun x7=>some x7) else none)))))))))))))
theorem WC (a0:AD) (a1:Str):Ct E 12 [.agg [bs a0.Op,bs a0.Ver,bv a0.Star],bs a1] (GV a0 a1) (fun r:Bool=>bv r):=Ad (N:=38) (L:=O5) YE rfl (Nat.le_of_ble_eq_true rfl) (by kernel_rfl) (by
 unfold GV
 refine jS ⟨[V 1 (bs a1),V 2 (pt 0 3)],[W 0 3 [bs a0.Op,bs a0.Ver,bv a0.Star]],1⟩ ?_
 refine jR ?_
 refine jG 0 1 ⟨[V 1 (bs a1),V 2 (pt 0 3),V 10 (bs a1)],[W 0 3 [bs a0.Op,bs a0.Ver,bv a0.Star]],1⟩ ?_
 refine jK 1 (GR a1) ?_
 intro x1 h1
 refine jG 2 7 ⟨[V 1 (bs a1),V 2 (pt 0 3),V 5 (pt 1 9),V 6 (pt 2 2)],[W 0 3 [bs a0.Op,bs a0.Ver,bv a0.Star],W 1 9 [bs x1.1.Epoch,.fsl 1 (List.map cS x1.1.Release),.s (.int .u8 x1.1.Pre),bs x1.1.PreNum,bv x1.1.Post,bs x1.1.PostNum,bv x1.1.Dev,bs x1.1.DevNum,.fsl 1 (List.map cS x1.1.Local)],W 2 2 [iv x1.2.Err,iv x1.2.At]],3⟩ ?_
 refine jN ?_
 refine AT ?_
 refine jR ?_
 refine jG 0 4 ⟨[V 1 (bs a1),V 2 (pt 0 3),V 5 (pt 1 9),V 17 (bv (x1.2.Err != 0))],[W 0 3 [bs a0.Op,bs a0.Ver,bv a0.Star],W 1 9 [bs x1.1.Epoch,.fsl 1 (List.map cS x1.1.Release),.s (.int .u8 x1.1.Pre),bs x1.1.PreNum,bv x1.1.Post,bs x1.1.PostNum,bv x1.1.Dev,bs x1.1.DevNum,.fsl 1 (List.map cS x1.1.Local)]],3⟩ ?_
 refine Ak 4 4 (fun x3=>⟨[V 1 (bs a1),V 2 (pt 0 3),V 5 (pt 1 9),V 21 (bv x3)],[W 0 3 [bs a0.Op,bs a0.Ver,bv a0.Star],W 1 9 [bs x1.1.Epoch,.fsl 1 (List.map cS x1.1.Release),.s (.int .u8 x1.1.Pre),bs x1.1.PreNum,bv x1.1.Post,bs x1.1.PostNum,bv x1.1.Dev,bs x1.1.DevNum,.fsl 1 (List.map cS x1.1.Local)]],2⟩) ?_ ?_
 ·refine jSp 17 ?_ ?_
  ·refine jG 0 4 ⟨[V 1 (bs a1),V 2 (pt 0 3),V 5 (pt 1 9),V 21 (bv true)],[W 0 3 [bs a0.Op,bs a0.Ver,bv a0.Star],W 1 9 [bs x1.1.Epoch,.fsl 1 (List.map cS x1.1.Release),.s (.int .u8 x1.1.Pre),bs x1.1.PreNum,bv x1.1.Post,bs x1.1.PostNum,bv x1.1.Dev,bs x1.1.DevNum,.fsl 1 (List.map cS x1.1.Local)]],3⟩ ?_
   refine AQ rfl ?_
   exact AK rfl (wkR [(0,some 0),(1,some 1)] (AH _) (pc (hC 0) (pc (hC 1) AB)))
  refine jG 0 1 ⟨[V 1 (bs a1),V 2 (pt 0 3),V 5 (pt 1 9),(17,.lit false),V 18 (.agg [bs a0.Op,bs a0.Ver,bv a0.Star])],[W 0 3 [bs a0.Op,bs a0.Ver,bv a0.Star],W 1 9 [bs x1.1.Epoch,.fsl 1 (List.map cS x1.1.Release),.s (.int .u8 x1.1.Pre),bs x1.1.PreNum,bv x1.1.Post,bs x1.1.PostNum,bv x1.1.Dev,bs x1.1.DevNum,.fsl 1 (List.map cS x1.1.Local)]],3⟩ ?_
  refine jK 1 (Qy a0) ?_
  intro x4 h4
  refine jG 2 2 ⟨[V 1 (bs a1),V 2 (pt 0 3),V 5 (pt 1 9),V 21 (bv (!x4))],[W 0 3 [bs a0.Op,bs a0.Ver,bv a0.Star],W 1 9 [bs x1.1.Epoch,.fsl 1 (List.map cS x1.1.Release),.s (.int .u8 x1.1.Pre),bs x1.1.PreNum,bv x1.1.Post,bs x1.1.PostNum,bv x1.1.Dev,bs x1.1.DevNum,.fsl 1 (List.map cS x1.1.Local)]],3⟩ ?_
  refine AQ rfl ?_
  exact AK rfl (wkR [(0,some 0),(1,some 1)] (AH _) (pc (hC 0) (pc (hC 1) AB)))
 intro x3
 refine jN ?_
 refine jIf ?_ ?_
 ·refine jS ⟨[V 4 (bv false)],[],2⟩ ?_
  refine AO ?_
  refine AZ ?_
  exact AP (.inr rfl) (v:=bv false) (by kernel_rfl) rfl (AE _)
 refine AS ?_
 refine AN ?_
 refine jR ?_
 refine jG 0 2 ⟨[V 1 (bs a1),V 2 (pt 0 3),V 5 (pt 1 9),V 24 (bs a0.Ver)],[W 0 3 [bs a0.Op,bs a0.Ver,bv a0.Star],W 1 9 [bs x1.1.Epoch,.fsl 1 (List.map cS x1.1.Release),.s (.int .u8 x1.1.Pre),bs x1.1.PreNum,bv x1.1.Post,bs x1.1.PostNum,bv x1.1.Dev,bs x1.1.DevNum,.fsl 1 (List.map cS x1.1.Local)]],2⟩ ?_
 refine jK 2 (GR a0.Ver) ?_
 intro x5 h5
 refine jG 3 7 ⟨[V 1 (bs a1),V 2 (pt 0 3),V 5 (pt 1 9),V 7 (pt 2 9)],[W 0 3 [bs a0.Op,bs a0.Ver,bv a0.Star],W 1 9 [bs x1.1.Epoch,.fsl 1 (List.map cS x1.1.Release),.s (.int .u8 x1.1.Pre),bs x1.1.PreNum,bv x1.1.Post,bs x1.1.PostNum,bv x1.1.Dev,bs x1.1.DevNum,.fsl 1 (List.map cS x1.1.Local)],W 2 9 [bs x5.1.Epoch,.fsl 1 (List.map cS x5.1.Release),.s (.int .u8 x5.1.Pre),bs x5.1.PreNum,bv x5.1.Post,bs x5.1.PostNum,bv x5.1.Dev,bs x5.1.DevNum,.fsl 1 (List.map cS x5.1.Local)]],4⟩ ?_
 refine jN ?_
 refine jR ?_
 refine jK 0 (WP) ?_
 intro x6 h6
 refine jG 1 2 ⟨[V 1 (bs a1),V 2 (pt 0 3),V 5 (pt 1 9),V 7 (pt 2 9),V 28 (.fmp [(.string ⟨#[61,61]⟩,.func (.func 57) #[] #[]),(.string ⟨#[33,61]⟩,.func (.func 58) #[] #[]),(.string ⟨#[126,61]⟩,.func (.func 59) #[] #[]),(.string ⟨#[60,61]⟩,.func (.func 62) #[] #[]),(.string ⟨#[62,61]⟩,.func (.func 63) #[] #[]),(.string ⟨#[60]⟩,.func (.func 64) #[] #[]),(.string ⟨#[62]⟩,.func (.func 67) #[] #[]),(.string ⟨#[61,61,61]⟩,.func (.func 68) #[] #[])]),V 30 (bs a0.Op)],[W 0 3 [bs a0.Op,bs a0.Ver,bv a0.Star],W 1 9 [bs x1.1.Epoch,.fsl 1 (List.map cS x1.1.Release),.s (.int .u8 x1.1.Pre),bs x1.1.PreNum,bv x1.1.Post,bs x1.1.PostNum,bv x1.1.Dev,bs x1.1.DevNum,.fsl 1 (List.map cS x1.1.Local)],W 2 9 [bs x5.1.Epoch,.fsl 1 (List.map cS x5.1.Release),.s (.int .u8 x5.1.Pre),bs x5.1.PreNum,bv x5.1.Post,bs x5.1.PostNum,bv x5.1.Dev,bs x5.1.DevNum,.fsl 1 (List.map cS x5.1.Local)]],4⟩ ?_
 refine Vf (fun hk8=>?_) (fun _=>?_)
 ·refine GD (i:=3) (v:=.fn 57 []) (us:=[]) rfl rfl rfl rfl (E7 (kt:=9) (et:=63) (es:=[(.string ⟨#[61,61]⟩,.func (.func 57) #[] #[]),(.string ⟨#[33,61]⟩,.func (.func 58) #[] #[]),(.string ⟨#[126,61]⟩,.func (.func 59) #[] #[]),(.string ⟨#[60,61]⟩,.func (.func 62) #[] #[]),(.string ⟨#[62,61]⟩,.func (.func 63) #[] #[]),(.string ⟨#[60]⟩,.func (.func 64) #[] #[]),(.string ⟨#[62]⟩,.func (.func 67) #[] #[]),(.string ⟨#[61,61,61]⟩,.func (.func 68) #[] #[])]) (kj:=[61,61]) hk8 (by kernel_rfl) (by kernel_rfl) (by kernel_rfl) (by kernel_rfl)) rfl ?_
  refine jG 4 5 ⟨[V 31 (.fn 57 []),V 36 (.agg [bs a0.Op,bs a0.Ver,bv a0.Star,bs a1,bs x1.1.Epoch,.fsl 1 (List.map cS x1.1.Release),.s (.int .u8 x1.1.Pre),bs x1.1.PreNum,bv x1.1.Post,bs x1.1.PostNum,bv x1.1.Dev,bs x1.1.DevNum,.fsl 1 (List.map cS x1.1.Local),bs x5.1.Epoch,.fsl 1 (List.map cS x5.1.Release),.s (.int .u8 x5.1.Pre),bs x5.1.PreNum,bv x5.1.Post,bs x5.1.PostNum,bv x5.1.Dev,bs x5.1.DevNum,.fsl 1 (List.map cS x5.1.Local)])],[],4⟩ ?_
  refine B1 (i:=9) rfl rfl rfl rfl (g:=57) (caps:=[]) (avs:=[.agg [bs a0.Op,bs a0.Ver,bv a0.Star,bs a1,bs x1.1.Epoch,.fsl 1 (List.map cS x1.1.Release),.s (.int .u8 x1.1.Pre),bs x1.1.PreNum,bv x1.1.Post,bs x1.1.PostNum,bv x1.1.Dev,bs x1.1.DevNum,.fsl 1 (List.map cS x1.1.Local),bs x5.1.Epoch,.fsl 1 (List.map cS x5.1.Release),.s (.int .u8 x5.1.Pre),bs x5.1.PreNum,bv x5.1.Post,bs x5.1.PostNum,bv x5.1.Dev,bs x5.1.DevNum,.fsl 1 (List.map cS x5.1.Local)]]) (vs:=[.agg [bs a0.Op,bs a0.Ver,bv a0.Star,bs a1,bs x1.1.Epoch,.fsl 1 (List.map cS x1.1.Release),.s (.int .u8 x1.1.Pre),bs x1.1.PreNum,bv x1.1.Post,bs x1.1.PostNum,bv x1.1.Dev,bs x1.1.DevNum,.fsl 1 (List.map cS x1.1.Local),bs x5.1.Epoch,.fsl 1 (List.map cS x5.1.Release),.s (.int .u8 x5.1.Pre),bs x5.1.PreNum,bv x5.1.Post,bs x5.1.PostNum,bv x5.1.Dev,bs x5.1.DevNum,.fsl 1 (List.map cS x5.1.Local)]]) (by kernel_rfl) (by kernel_rfl) rfl (AL rfl (Aw _)) (AJ (AE _) Aj) (Gm (AR.mk a0 a1 (AF.mk x1.1.Epoch x1.1.Release x1.1.Pre x1.1.PreNum x1.1.Post x1.1.PostNum x1.1.Dev x1.1.DevNum x1.1.Local) (AF.mk x5.1.Epoch x5.1.Release x5.1.Pre x5.1.PreNum x5.1.Post x5.1.PostNum x5.1.Dev x5.1.DevNum x5.1.Local))) (fun _=>rfl) (fun _=>rfl) ?_
  intro x14 h14
  refine jG 10 1 ⟨[V 4 (bv x14)],[],4⟩ ?_
  refine jN ?_
  refine AO ?_
  exact AP (.inr rfl) (v:=bv x14) (by kernel_rfl) rfl (AE _)
 refine Vf (fun hk7=>?_) (fun _=>?_)
 ·refine GD (i:=3) (v:=.fn 58 []) (us:=[]) rfl rfl rfl rfl (E7 (kt:=9) (et:=63) (es:=[(.string ⟨#[61,61]⟩,.func (.func 57) #[] #[]),(.string ⟨#[33,61]⟩,.func (.func 58) #[] #[]),(.string ⟨#[126,61]⟩,.func (.func 59) #[] #[]),(.string ⟨#[60,61]⟩,.func (.func 62) #[] #[]),(.string ⟨#[62,61]⟩,.func (.func 63) #[] #[]),(.string ⟨#[60]⟩,.func (.func 64) #[] #[]),(.string ⟨#[62]⟩,.func (.func 67) #[] #[]),(.string ⟨#[61,61,61]⟩,.func (.func 68) #[] #[])]) (kj:=[33,61]) hk7 (by kernel_rfl) (by kernel_rfl) (by kernel_rfl) (by kernel_rfl)) rfl ?_
  refine jG 4 5 ⟨[V 31 (.fn 58 []),V 36 (.agg [bs a0.Op,bs a0.Ver,bv a0.Star,bs a1,bs x1.1.Epoch,.fsl 1 (List.map cS x1.1.Release),.s (.int .u8 x1.1.Pre),bs x1.1.PreNum,bv x1.1.Post,bs x1.1.PostNum,bv x1.1.Dev,bs x1.1.DevNum,.fsl 1 (List.map cS x1.1.Local),bs x5.1.Epoch,.fsl 1 (List.map cS x5.1.Release),.s (.int .u8 x5.1.Pre),bs x5.1.PreNum,bv x5.1.Post,bs x5.1.PostNum,bv x5.1.Dev,bs x5.1.DevNum,.fsl 1 (List.map cS x5.1.Local)])],[],4⟩ ?_
  refine B1 (i:=9) rfl rfl rfl rfl (g:=58) (caps:=[]) (avs:=[.agg [bs a0.Op,bs a0.Ver,bv a0.Star,bs a1,bs x1.1.Epoch,.fsl 1 (List.map cS x1.1.Release),.s (.int .u8 x1.1.Pre),bs x1.1.PreNum,bv x1.1.Post,bs x1.1.PostNum,bv x1.1.Dev,bs x1.1.DevNum,.fsl 1 (List.map cS x1.1.Local),bs x5.1.Epoch,.fsl 1 (List.map cS x5.1.Release),.s (.int .u8 x5.1.Pre),bs x5.1.PreNum,bv x5.1.Post,bs x5.1.PostNum,bv x5.1.Dev,bs x5.1.DevNum,.fsl 1 (List.map cS x5.1.Local)]]) (vs:=[.agg [bs a0.Op,bs a0.Ver,bv a0.Star,bs a1,bs x1.1.Epoch,.fsl 1 (List.map cS x1.1.Release),.s (.int .u8 x1.1.Pre),bs x1.1.PreNum,bv x1.1.Post,bs x1.1.PostNum,bv x1.1.Dev,bs x1.1.DevNum,.fsl 1 (List.map cS x1.1.Local),bs x5.1.Epoch,.fsl 1 (List.map cS x5.1.Release),.s (.int .u8 x5.1.Pre),bs x5.1.PreNum,bv x5.1.Post,bs x5.1.PostNum,bv x5.1.Dev,bs x5.1.DevNum,.fsl 1 (List.map cS x5.1.Local)]]) (by kernel_rfl) (by kernel_rfl) rfl (AL rfl (Aw _)) (AJ (AE _) Aj) (Td (AR.mk a0 a1 (AF.mk x1.1.Epoch x1.1.Release x1.1.Pre x1.1.PreNum x1.1.Post x1.1.PostNum x1.1.Dev x1.1.DevNum x1.1.Local) (AF.mk x5.1.Epoch x5.1.Release x5.1.Pre x5.1.PreNum x5.1.Post x5.1.PostNum x5.1.Dev x5.1.DevNum x5.1.Local))) (fun _=>rfl) (fun _=>rfl) ?_
  intro x13 h13
  refine jG 10 1 ⟨[V 4 (bv x13)],[],4⟩ ?_
  refine jN ?_
  refine AO ?_
  exact AP (.inr rfl) (v:=bv x13) (by kernel_rfl) rfl (AE _)
 refine Vf (fun hk6=>?_) (fun _=>?_)
 ·refine GD (i:=3) (v:=.fn 59 []) (us:=[]) rfl rfl rfl rfl (E7 (kt:=9) (et:=63) (es:=[(.string ⟨#[61,61]⟩,.func (.func 57) #[] #[]),(.string ⟨#[33,61]⟩,.func (.func 58) #[] #[]),(.string ⟨#[126,61]⟩,.func (.func 59) #[] #[]),(.string ⟨#[60,61]⟩,.func (.func 62) #[] #[]),(.string ⟨#[62,61]⟩,.func (.func 63) #[] #[]),(.string ⟨#[60]⟩,.func (.func 64) #[] #[]),(.string ⟨#[62]⟩,.func (.func 67) #[] #[]),(.string ⟨#[61,61,61]⟩,.func (.func 68) #[] #[])]) (kj:=[126,61]) hk6 (by kernel_rfl) (by kernel_rfl) (by kernel_rfl) (by kernel_rfl)) rfl ?_
  refine jG 4 5 ⟨[V 31 (.fn 59 []),V 36 (.agg [bs a0.Op,bs a0.Ver,bv a0.Star,bs a1,bs x1.1.Epoch,.fsl 1 (List.map cS x1.1.Release),.s (.int .u8 x1.1.Pre),bs x1.1.PreNum,bv x1.1.Post,bs x1.1.PostNum,bv x1.1.Dev,bs x1.1.DevNum,.fsl 1 (List.map cS x1.1.Local),bs x5.1.Epoch,.fsl 1 (List.map cS x5.1.Release),.s (.int .u8 x5.1.Pre),bs x5.1.PreNum,bv x5.1.Post,bs x5.1.PostNum,bv x5.1.Dev,bs x5.1.DevNum,.fsl 1 (List.map cS x5.1.Local)])],[],4⟩ ?_
  refine B1 (i:=9) rfl rfl rfl rfl (g:=59) (caps:=[]) (avs:=[.agg [bs a0.Op,bs a0.Ver,bv a0.Star,bs a1,bs x1.1.Epoch,.fsl 1 (List.map cS x1.1.Release),.s (.int .u8 x1.1.Pre),bs x1.1.PreNum,bv x1.1.Post,bs x1.1.PostNum,bv x1.1.Dev,bs x1.1.DevNum,.fsl 1 (List.map cS x1.1.Local),bs x5.1.Epoch,.fsl 1 (List.map cS x5.1.Release),.s (.int .u8 x5.1.Pre),bs x5.1.PreNum,bv x5.1.Post,bs x5.1.PostNum,bv x5.1.Dev,bs x5.1.DevNum,.fsl 1 (List.map cS x5.1.Local)]]) (vs:=[.agg [bs a0.Op,bs a0.Ver,bv a0.Star,bs a1,bs x1.1.Epoch,.fsl 1 (List.map cS x1.1.Release),.s (.int .u8 x1.1.Pre),bs x1.1.PreNum,bv x1.1.Post,bs x1.1.PostNum,bv x1.1.Dev,bs x1.1.DevNum,.fsl 1 (List.map cS x1.1.Local),bs x5.1.Epoch,.fsl 1 (List.map cS x5.1.Release),.s (.int .u8 x5.1.Pre),bs x5.1.PreNum,bv x5.1.Post,bs x5.1.PostNum,bv x5.1.Dev,bs x5.1.DevNum,.fsl 1 (List.map cS x5.1.Local)]]) (by kernel_rfl) (by kernel_rfl) rfl (AL rfl (Aw _)) (AJ (AE _) Aj) (TX (AR.mk a0 a1 (AF.mk x1.1.Epoch x1.1.Release x1.1.Pre x1.1.PreNum x1.1.Post x1.1.PostNum x1.1.Dev x1.1.DevNum x1.1.Local) (AF.mk x5.1.Epoch x5.1.Release x5.1.Pre x5.1.PreNum x5.1.Post x5.1.PostNum x5.1.Dev x5.1.DevNum x5.1.Local))) (fun _=>rfl) (fun _=>rfl) ?_
  intro x12 h12
  refine jG 10 1 ⟨[V 4 (bv x12)],[],4⟩ ?_
  refine jN ?_
  refine AO ?_
  exact AP (.inr rfl) (v:=bv x12) (by kernel_rfl) rfl (AE _)
 refine Vf (fun hk5=>?_) (fun _=>?_)
 ·refine GD (i:=3) (v:=.fn 62 []) (us:=[]) rfl rfl rfl rfl (E7 (kt:=9) (et:=63) (es:=[(.string ⟨#[61,61]⟩,.func (.func 57) #[] #[]),(.string ⟨#[33,61]⟩,.func (.func 58) #[] #[]),(.string ⟨#[126,61]⟩,.func (.func 59) #[] #[]),(.string ⟨#[60,61]⟩,.func (.func 62) #[] #[]),(.string ⟨#[62,61]⟩,.func (.func 63) #[] #[]),(.string ⟨#[60]⟩,.func (.func 64) #[] #[]),(.string ⟨#[62]⟩,.func (.func 67) #[] #[]),(.string ⟨#[61,61,61]⟩,.func (.func 68) #[] #[])]) (kj:=[60,61]) hk5 (by kernel_rfl) (by kernel_rfl) (by kernel_rfl) (by kernel_rfl)) rfl ?_
  refine jG 4 5 ⟨[V 31 (.fn 62 []),V 36 (.agg [bs a0.Op,bs a0.Ver,bv a0.Star,bs a1,bs x1.1.Epoch,.fsl 1 (List.map cS x1.1.Release),.s (.int .u8 x1.1.Pre),bs x1.1.PreNum,bv x1.1.Post,bs x1.1.PostNum,bv x1.1.Dev,bs x1.1.DevNum,.fsl 1 (List.map cS x1.1.Local),bs x5.1.Epoch,.fsl 1 (List.map cS x5.1.Release),.s (.int .u8 x5.1.Pre),bs x5.1.PreNum,bv x5.1.Post,bs x5.1.PostNum,bv x5.1.Dev,bs x5.1.DevNum,.fsl 1 (List.map cS x5.1.Local)])],[],4⟩ ?_
  refine B1 (i:=9) rfl rfl rfl rfl (g:=62) (caps:=[]) (avs:=[.agg [bs a0.Op,bs a0.Ver,bv a0.Star,bs a1,bs x1.1.Epoch,.fsl 1 (List.map cS x1.1.Release),.s (.int .u8 x1.1.Pre),bs x1.1.PreNum,bv x1.1.Post,bs x1.1.PostNum,bv x1.1.Dev,bs x1.1.DevNum,.fsl 1 (List.map cS x1.1.Local),bs x5.1.Epoch,.fsl 1 (List.map cS x5.1.Release),.s (.int .u8 x5.1.Pre),bs x5.1.PreNum,bv x5.1.Post,bs x5.1.PostNum,bv x5.1.Dev,bs x5.1.DevNum,.fsl 1 (List.map cS x5.1.Local)]]) (vs:=[.agg [bs a0.Op,bs a0.Ver,bv a0.Star,bs a1,bs x1.1.Epoch,.fsl 1 (List.map cS x1.1.Release),.s (.int .u8 x1.1.Pre),bs x1.1.PreNum,bv x1.1.Post,bs x1.1.PostNum,bv x1.1.Dev,bs x1.1.DevNum,.fsl 1 (List.map cS x1.1.Local),bs x5.1.Epoch,.fsl 1 (List.map cS x5.1.Release),.s (.int .u8 x5.1.Pre),bs x5.1.PreNum,bv x5.1.Post,bs x5.1.PostNum,bv x5.1.Dev,bs x5.1.DevNum,.fsl 1 (List.map cS x5.1.Local)]]) (by kernel_rfl) (by kernel_rfl) rfl (AL rfl (Aw _)) (AJ (AE _) Aj) (TD (AR.mk a0 a1 (AF.mk x1.1.Epoch x1.1.Release x1.1.Pre x1.1.PreNum x1.1.Post x1.1.PostNum x1.1.Dev x1.1.DevNum x1.1.Local) (AF.mk x5.1.Epoch x5.1.Release x5.1.Pre x5.1.PreNum x5.1.Post x5.1.PostNum x5.1.Dev x5.1.DevNum x5.1.Local))) (fun _=>rfl) (fun _=>rfl) ?_
  intro x11 h11
  refine jG 10 1 ⟨[V 4 (bv x11)],[],4⟩ ?_
  refine jN ?_
  refine AO ?_
  exact AP (.inr rfl) (v:=bv x11) (by kernel_rfl) rfl (AE _)
 refine Vf (fun hk4=>?_) (fun _=>?_)
 ·refine GD (i:=3) (v:=.fn 63 []) (us:=[]) rfl rfl rfl rfl (E7 (kt:=9) (et:=63) (es:=[(.string ⟨#[61,61]⟩,.func (.func 57) #[] #[]),(.string ⟨#[33,61]⟩,.func (.func 58) #[] #[]),(.string ⟨#[126,61]⟩,.func (.func 59) #[] #[]),(.string ⟨#[60,61]⟩,.func (.func 62) #[] #[]),(.string ⟨#[62,61]⟩,.func (.func 63) #[] #[]),(.string ⟨#[60]⟩,.func (.func 64) #[] #[]),(.string ⟨#[62]⟩,.func (.func 67) #[] #[]),(.string ⟨#[61,61,61]⟩,.func (.func 68) #[] #[])]) (kj:=[62,61]) hk4 (by kernel_rfl) (by kernel_rfl) (by kernel_rfl) (by kernel_rfl)) rfl ?_
  refine jG 4 5 ⟨[V 31 (.fn 63 []),V 36 (.agg [bs a0.Op,bs a0.Ver,bv a0.Star,bs a1,bs x1.1.Epoch,.fsl 1 (List.map cS x1.1.Release),.s (.int .u8 x1.1.Pre),bs x1.1.PreNum,bv x1.1.Post,bs x1.1.PostNum,bv x1.1.Dev,bs x1.1.DevNum,.fsl 1 (List.map cS x1.1.Local),bs x5.1.Epoch,.fsl 1 (List.map cS x5.1.Release),.s (.int .u8 x5.1.Pre),bs x5.1.PreNum,bv x5.1.Post,bs x5.1.PostNum,bv x5.1.Dev,bs x5.1.DevNum,.fsl 1 (List.map cS x5.1.Local)])],[],4⟩ ?_
  refine B1 (i:=9) rfl rfl rfl rfl (g:=63) (caps:=[]) (avs:=[.agg [bs a0.Op,bs a0.Ver,bv a0.Star,bs a1,bs x1.1.Epoch,.fsl 1 (List.map cS x1.1.Release),.s (.int .u8 x1.1.Pre),bs x1.1.PreNum,bv x1.1.Post,bs x1.1.PostNum,bv x1.1.Dev,bs x1.1.DevNum,.fsl 1 (List.map cS x1.1.Local),bs x5.1.Epoch,.fsl 1 (List.map cS x5.1.Release),.s (.int .u8 x5.1.Pre),bs x5.1.PreNum,bv x5.1.Post,bs x5.1.PostNum,bv x5.1.Dev,bs x5.1.DevNum,.fsl 1 (List.map cS x5.1.Local)]]) (vs:=[.agg [bs a0.Op,bs a0.Ver,bv a0.Star,bs a1,bs x1.1.Epoch,.fsl 1 (List.map cS x1.1.Release),.s (.int .u8 x1.1.Pre),bs x1.1.PreNum,bv x1.1.Post,bs x1.1.PostNum,bv x1.1.Dev,bs x1.1.DevNum,.fsl 1 (List.map cS x1.1.Local),bs x5.1.Epoch,.fsl 1 (List.map cS x5.1.Release),.s (.int .u8 x5.1.Pre),bs x5.1.PreNum,bv x5.1.Post,bs x5.1.PostNum,bv x5.1.Dev,bs x5.1.DevNum,.fsl 1 (List.map cS x5.1.Local)]]) (by kernel_rfl) (by kernel_rfl) rfl (AL rfl (Aw _)) (AJ (AE _) Aj) (Ti (AR.mk a0 a1 (AF.mk x1.1.Epoch x1.1.Release x1.1.Pre x1.1.PreNum x1.1.Post x1.1.PostNum x1.1.Dev x1.1.DevNum x1.1.Local) (AF.mk x5.1.Epoch x5.1.Release x5.1.Pre x5.1.PreNum x5.1.Post x5.1.PostNum x5.1.Dev x5.1.DevNum x5.1.Local))) (fun _=>rfl) (fun _=>rfl) ?_
  intro x10 h10
  refine jG 10 1 ⟨[V 4 (bv x10)],[],4⟩ ?_
  refine jN ?_
  refine AO ?_
  exact AP (.inr rfl) (v:=bv x10) (by kernel_rfl) rfl (AE _)
 refine Vf (fun hk3=>?_) (fun _=>?_)
 ·refine GD (i:=3) (v:=.fn 64 []) (us:=[]) rfl rfl rfl rfl (E7 (kt:=9) (et:=63) (es:=[(.string ⟨#[61,61]⟩,.func (.func 57) #[] #[]),(.string ⟨#[33,61]⟩,.func (.func 58) #[] #[]),(.string ⟨#[126,61]⟩,.func (.func 59) #[] #[]),(.string ⟨#[60,61]⟩,.func (.func 62) #[] #[]),(.string ⟨#[62,61]⟩,.func (.func 63) #[] #[]),(.string ⟨#[60]⟩,.func (.func 64) #[] #[]),(.string ⟨#[62]⟩,.func (.func 67) #[] #[]),(.string ⟨#[61,61,61]⟩,.func (.func 68) #[] #[])]) (kj:=[60]) hk3 (by kernel_rfl) (by kernel_rfl) (by kernel_rfl) (by kernel_rfl)) rfl ?_
  refine jG 4 5 ⟨[V 31 (.fn 64 []),V 36 (.agg [bs a0.Op,bs a0.Ver,bv a0.Star,bs a1,bs x1.1.Epoch,.fsl 1 (List.map cS x1.1.Release),.s (.int .u8 x1.1.Pre),bs x1.1.PreNum,bv x1.1.Post,bs x1.1.PostNum,bv x1.1.Dev,bs x1.1.DevNum,.fsl 1 (List.map cS x1.1.Local),bs x5.1.Epoch,.fsl 1 (List.map cS x5.1.Release),.s (.int .u8 x5.1.Pre),bs x5.1.PreNum,bv x5.1.Post,bs x5.1.PostNum,bv x5.1.Dev,bs x5.1.DevNum,.fsl 1 (List.map cS x5.1.Local)])],[],4⟩ ?_
  refine B1 (i:=9) rfl rfl rfl rfl (g:=64) (caps:=[]) (avs:=[.agg [bs a0.Op,bs a0.Ver,bv a0.Star,bs a1,bs x1.1.Epoch,.fsl 1 (List.map cS x1.1.Release),.s (.int .u8 x1.1.Pre),bs x1.1.PreNum,bv x1.1.Post,bs x1.1.PostNum,bv x1.1.Dev,bs x1.1.DevNum,.fsl 1 (List.map cS x1.1.Local),bs x5.1.Epoch,.fsl 1 (List.map cS x5.1.Release),.s (.int .u8 x5.1.Pre),bs x5.1.PreNum,bv x5.1.Post,bs x5.1.PostNum,bv x5.1.Dev,bs x5.1.DevNum,.fsl 1 (List.map cS x5.1.Local)]]) (vs:=[.agg [bs a0.Op,bs a0.Ver,bv a0.Star,bs a1,bs x1.1.Epoch,.fsl 1 (List.map cS x1.1.Release),.s (.int .u8 x1.1.Pre),bs x1.1.PreNum,bv x1.1.Post,bs x1.1.PostNum,bv x1.1.Dev,bs x1.1.DevNum,.fsl 1 (List.map cS x1.1.Local),bs x5.1.Epoch,.fsl 1 (List.map cS x5.1.Release),.s (.int .u8 x5.1.Pre),bs x5.1.PreNum,bv x5.1.Post,bs x5.1.PostNum,bv x5.1.Dev,bs x5.1.DevNum,.fsl 1 (List.map cS x5.1.Local)]]) (by kernel_rfl) (by kernel_rfl) rfl (AL rfl (Aw _)) (AJ (AE _) Aj) (Sg (AR.mk a0 a1 (AF.mk x1.1.Epoch x1.1.Release x1.1.Pre x1.1.PreNum x1.1.Post x1.1.PostNum x1.1.Dev x1.1.DevNum x1.1.Local) (AF.mk x5.1.Epoch x5.1.Release x5.1.Pre x5.1.PreNum x5.1.Post x5.1.PostNum x5.1.Dev x5.1.DevNum x5.1.Local))) (fun _=>rfl) (fun _=>rfl) ?_
  intro x9 h9
  refine jG 10 1 ⟨[V 4 (bv x9)],[],4⟩ ?_
  refine jN ?_
  refine AO ?_
  exact AP (.inr rfl) (v:=bv x9) (by kernel_rfl) rfl (AE _)
 refine Vf (fun hk2=>?_) (fun _=>?_)
 ·refine GD (i:=3) (v:=.fn 67 []) (us:=[]) rfl rfl rfl rfl (E7 (kt:=9) (et:=63) (es:=[(.string ⟨#[61,61]⟩,.func (.func 57) #[] #[]),(.string ⟨#[33,61]⟩,.func (.func 58) #[] #[]),(.string ⟨#[126,61]⟩,.func (.func 59) #[] #[]),(.string ⟨#[60,61]⟩,.func (.func 62) #[] #[]),(.string ⟨#[62,61]⟩,.func (.func 63) #[] #[]),(.string ⟨#[60]⟩,.func (.func 64) #[] #[]),(.string ⟨#[62]⟩,.func (.func 67) #[] #[]),(.string ⟨#[61,61,61]⟩,.func (.func 68) #[] #[])]) (kj:=[62]) hk2 (by kernel_rfl) (by kernel_rfl) (by kernel_rfl) (by kernel_rfl)) rfl ?_
  refine jG 4 5 ⟨[V 31 (.fn 67 []),V 36 (.agg [bs a0.Op,bs a0.Ver,bv a0.Star,bs a1,bs x1.1.Epoch,.fsl 1 (List.map cS x1.1.Release),.s (.int .u8 x1.1.Pre),bs x1.1.PreNum,bv x1.1.Post,bs x1.1.PostNum,bv x1.1.Dev,bs x1.1.DevNum,.fsl 1 (List.map cS x1.1.Local),bs x5.1.Epoch,.fsl 1 (List.map cS x5.1.Release),.s (.int .u8 x5.1.Pre),bs x5.1.PreNum,bv x5.1.Post,bs x5.1.PostNum,bv x5.1.Dev,bs x5.1.DevNum,.fsl 1 (List.map cS x5.1.Local)])],[],4⟩ ?_
  refine B1 (i:=9) rfl rfl rfl rfl (g:=67) (caps:=[]) (avs:=[.agg [bs a0.Op,bs a0.Ver,bv a0.Star,bs a1,bs x1.1.Epoch,.fsl 1 (List.map cS x1.1.Release),.s (.int .u8 x1.1.Pre),bs x1.1.PreNum,bv x1.1.Post,bs x1.1.PostNum,bv x1.1.Dev,bs x1.1.DevNum,.fsl 1 (List.map cS x1.1.Local),bs x5.1.Epoch,.fsl 1 (List.map cS x5.1.Release),.s (.int .u8 x5.1.Pre),bs x5.1.PreNum,bv x5.1.Post,bs x5.1.PostNum,bv x5.1.Dev,bs x5.1.DevNum,.fsl 1 (List.map cS x5.1.Local)]]) (vs:=[.agg [bs a0.Op,bs a0.Ver,bv a0.Star,bs a1,bs x1.1.Epoch,.fsl 1 (List.map cS x1.1.Release),.s (.int .u8 x1.1.Pre),bs x1.1.PreNum,bv x1.1.Post,bs x1.1.PostNum,bv x1.1.Dev,bs x1.1.DevNum,.fsl 1 (List.map cS x1.1.Local),bs x5.1.Epoch,.fsl 1 (List.map cS x5.1.Release),.s (.int .u8 x5.1.Pre),bs x5.1.PreNum,bv x5.1.Post,bs x5.1.PostNum,bv x5.1.Dev,bs x5.1.DevNum,.fsl 1 (List.map cS x5.1.Local)]]) (by kernel_rfl) (by kernel_rfl) rfl (AL rfl (Aw _)) (AJ (AE _) Aj) (TA (AR.mk a0 a1 (AF.mk x1.1.Epoch x1.1.Release x1.1.Pre x1.1.PreNum x1.1.Post x1.1.PostNum x1.1.Dev x1.1.DevNum x1.1.Local) (AF.mk x5.1.Epoch x5.1.Release x5.1.Pre x5.1.PreNum x5.1.Post x5.1.PostNum x5.1.Dev x5.1.DevNum x5.1.Local))) (fun _=>rfl) (fun _=>rfl) ?_
  intro x8 h8
  refine jG 10 1 ⟨[V 4 (bv x8)],[],4⟩ ?_
  refine jN ?_
  refine AO ?_
  exact AP (.inr rfl) (v:=bv x8) (by kernel_rfl) rfl (AE _)
 refine Vf (fun hk1=>?_) (fun _=>?_)
 ·refine GD (i:=3) (v:=.fn 68 []) (us:=[]) rfl rfl rfl rfl (E7 (kt:=9) (et:=63) (es:=[(.string ⟨#[61,61]⟩,.func (.func 57) #[] #[]),(.string ⟨#[33,61]⟩,.func (.func 58) #[] #[]),(.string ⟨#[126,61]⟩,.func (.func 59) #[] #[]),(.string ⟨#[60,61]⟩,.func (.func 62) #[] #[]),(.string ⟨#[62,61]⟩,.func (.func 63) #[] #[]),(.string ⟨#[60]⟩,.func (.func 64) #[] #[]),(.string ⟨#[62]⟩,.func (.func 67) #[] #[]),(.string ⟨#[61,61,61]⟩,.func (.func 68) #[] #[])]) (kj:=[61,61,61]) hk1 (by kernel_rfl) (by kernel_rfl) (by kernel_rfl) (by kernel_rfl)) rfl ?_
  refine jG 4 5 ⟨[V 31 (.fn 68 []),V 36 (.agg [bs a0.Op,bs a0.Ver,bv a0.Star,bs a1,bs x1.1.Epoch,.fsl 1 (List.map cS x1.1.Release),.s (.int .u8 x1.1.Pre),bs x1.1.PreNum,bv x1.1.Post,bs x1.1.PostNum,bv x1.1.Dev,bs x1.1.DevNum,.fsl 1 (List.map cS x1.1.Local),bs x5.1.Epoch,.fsl 1 (List.map cS x5.1.Release),.s (.int .u8 x5.1.Pre),bs x5.1.PreNum,bv x5.1.Post,bs x5.1.PostNum,bv x5.1.Dev,bs x5.1.DevNum,.fsl 1 (List.map cS x5.1.Local)])],[],4⟩ ?_
  refine B1 (i:=9) rfl rfl rfl rfl (g:=68) (caps:=[]) (avs:=[.agg [bs a0.Op,bs a0.Ver,bv a0.Star,bs a1,bs x1.1.Epoch,.fsl 1 (List.map cS x1.1.Release),.s (.int .u8 x1.1.Pre),bs x1.1.PreNum,bv x1.1.Post,bs x1.1.PostNum,bv x1.1.Dev,bs x1.1.DevNum,.fsl 1 (List.map cS x1.1.Local),bs x5.1.Epoch,.fsl 1 (List.map cS x5.1.Release),.s (.int .u8 x5.1.Pre),bs x5.1.PreNum,bv x5.1.Post,bs x5.1.PostNum,bv x5.1.Dev,bs x5.1.DevNum,.fsl 1 (List.map cS x5.1.Local)]]) (vs:=[.agg [bs a0.Op,bs a0.Ver,bv a0.Star,bs a1,bs x1.1.Epoch,.fsl 1 (List.map cS x1.1.Release),.s (.int .u8 x1.1.Pre),bs x1.1.PreNum,bv x1.1.Post,bs x1.1.PostNum,bv x1.1.Dev,bs x1.1.DevNum,.fsl 1 (List.map cS x1.1.Local),bs x5.1.Epoch,.fsl 1 (List.map cS x5.1.Release),.s (.int .u8 x5.1.Pre),bs x5.1.PreNum,bv x5.1.Post,bs x5.1.PostNum,bv x5.1.Dev,bs x5.1.DevNum,.fsl 1 (List.map cS x5.1.Local)]]) (by kernel_rfl) (by kernel_rfl) rfl (AL rfl (Aw _)) (AJ (AE _) Aj) (Se (AR.mk a0 a1 (AF.mk x1.1.Epoch x1.1.Release x1.1.Pre x1.1.PreNum x1.1.Post x1.1.PostNum x1.1.Dev x1.1.DevNum x1.1.Local) (AF.mk x5.1.Epoch x5.1.Release x5.1.Pre x5.1.PreNum x5.1.Post x5.1.PostNum x5.1.Dev x5.1.DevNum x5.1.Local))) (fun _=>rfl) (fun _=>rfl) ?_
  intro x7 h7
  refine jG 10 1 ⟨[V 4 (bv x7)],[],4⟩ ?_
  refine jN ?_
  refine AO ?_
  exact AP (.inr rfl) (v:=bv x7) (by kernel_rfl) rfl (AE _)
 exact wS)
abbrev UJ:List LO:=[lo 4 (.assign (.const (.bool false))) 4]
abbrev VK:List LO:=[lm 6 0 22,lo 7 (.call ⟨.builtin .len,#[.tmp 6],#[22]⟩) 3,lm 8 1 22,lo 9 (.call ⟨.builtin .len,#[.tmp 8],#[22]⟩) 3,lo 10 (.binOp .neq 3 (.tmp 7) (.tmp 9) 3) 4]
abbrev UH:List LO:=[lo 4 (.assign (.const (.bool false))) 4]
abbrev VJ:List LO:=[lo 5 (.assign (.const (.int .i64 0))) 3]
abbrev U7:List LO:=[lm 11 5 3,lm 12 0 22,lo 13 (.call ⟨.builtin .len,#[.tmp 12],#[22]⟩) 3,lo 14 (.binOp .lss 3 (.tmp 11) (.tmp 13) 3) 4]
abbrev UC:List LO:=[lm 17 0 22,lm 18 5 3,lo 19 (.indexAddr 22 (.tmp 17) (.tmp 18)) 0,lo 20 (.load 39 (.tmp 19)) 39,lm 21 1 22,lm 22 5 3,lo 23 (.indexAddr 22 (.tmp 21) (.tmp 22)) 0,lo 24 (.load 39 (.tmp 23)) 39,lo 25 (.binOp .neq 39 (.tmp 20) (.tmp 24) 39) 4]
abbrev VO:List LO:=[lo 4 (.assign (.const (.bool false))) 4]
abbrev Ui:List LO:=[lm 15 5 3,lo 16 (.binOp .add 3 (.tmp 15) (.const (.int .i64 1)) 3) 3,lo 5 (.assign (.tmp 16)) 3]
abbrev T8:List LO:=[lo 4 (.assign (.const (.bool true))) 4]
abbrev N0:LC:=.seq (.reg false UJ) (.seq (.seq (.reg false VK) (.cond (.tmp 10) (.seq (.reg false UH) .ret) .skip)) (.seq (.seq (.reg false VJ) (.block 0 (.loop (.seq (.seq (.reg false U7) (.cond (.tmp 14) .skip (.exit 0))) (.seq (.block 1 (.seq (.reg true UC) (.cond (.tmp 25) (.seq (.reg false VO) .ret) .skip))) (.reg false Ui)))))) (.seq (.reg false T8) .ret)))
theorem V7:BE E 9 26 [.tmp 4] N0:=⟨⟨Go.Proofs.Tryz.f9,by kernel_rfl,by kernel_rfl,by kernel_rfl,by kernel_rfl,by kernel_rfl⟩,rfl,rfl⟩
noncomputable def FN (a0:(List AD)) (a1:(List AD)):Int→Option (Step (Int) ((Unit) ⊕ (Unit))):=fun x3=>(if (decide (x3 < (List.length a0:Int)))=true then Option.bind (ixl a0 x3) (fun x7=>Option.bind (ixl a1 x3) (fun x8=>(if (!((x7.Op == x8.Op) && ((x7.Ver == x8.Ver) && (x7.Star == x8.Star))))=true then some (Step.done (Sum.inl ())) else some (Step.next (w64 (x3 + 1)))))) else some (Step.done (Sum.inr ())))
noncomputable def Fi (a0:(List AD)) (a1:(List AD)):Option (Bool):=(if ((List.length a0:Int) != (List.length a1:Int))=true then some false else Option.bind (Bi (FN a0 a1) 0) (fun y=>match y with | Sum.inl _=>some false | Sum.inr _=>some true))
theorem T6 (a0:(List AD)) (a1:(List AD)):Ct E 9 [.fsl 3 (List.map AA a0),.fsl 3 (List.map AA a1)] (Fi a0 a1) (fun r:Bool=>bv r):=Ad (N:=26) (L:=N0) V7 rfl (Nat.le_of_ble_eq_true rfl) (by kernel_rfl) (by
 unfold Fi
 refine jS ⟨[V 0 (.fsl 3 (List.map AA a0)),V 1 (.fsl 3 (List.map AA a1))],[],0⟩ ?_
 refine AT ?_
 refine jR ?_
 refine jG 0 5 ⟨[V 0 (.fsl 3 (List.map AA a0)),V 1 (.fsl 3 (List.map AA a1)),V 10 (bv ((List.length (List.map AA a0):Int) != (List.length (List.map AA a1):Int)))],[],0⟩ ?_
 simp only[List.length_map]
 refine jN ?_
 refine jIf ?_ ?_
 ·refine jS ⟨[V 4 (bv false)],[],0⟩ ?_
  refine AO ?_
  refine AZ ?_
  exact AP (.inr rfl) (v:=bv false) (by kernel_rfl) rfl (AE _)
 refine AS ?_
 refine AN ?_
 refine AT ?_
 refine jS ⟨[V 0 (.fsl 3 (List.map AA a0)),V 1 (.fsl 3 (List.map AA a1)),V 5 (iv 0)],[],0⟩ ?_
 refine Ai ?_
 refine As (fun y=>match y with | Sum.inl _=>⟨[V 4 (bv false)],[],0⟩ | Sum.inr _=>⟨[],[],0⟩) (fun y=>match y with | Sum.inl _=>.ret | Sum.inr _=>(.exit 0)) (Cj (fun x3=>⟨[V 0 (.fsl 3 (List.map AA a0)),V 1 (.fsl 3 (List.map AA a1)),V 5 (iv x3)],[],0⟩) (wkR [] (AH _) AB) ?_) ?_
 ·intro x3
  unfold FN
  refine AT ?_
  refine jR ?_
  refine jG 0 4 ⟨[V 0 (.fsl 3 (List.map AA a0)),V 1 (.fsl 3 (List.map AA a1)),V 5 (iv x3),V 14 (bv (decide (x3 < (List.length (List.map AA a0):Int))))],[],0⟩ ?_
  simp only[List.length_map]
  refine jN ?_
  refine jIf ?_ ?_
  ·refine AS ?_
   refine AN ?_
   refine AT ?_
   refine Ai ?_
   refine jR ?_
   refine jG 0 2 ⟨[V 0 (.fsl 3 (List.map AA a0)),V 1 (.fsl 3 (List.map AA a1)),V 5 (iv x3),V 17 (.fsl 3 (List.map AA a0)),V 18 (iv x3)],[],0⟩ ?_
   refine An (i:=2) (mo:=ixl a0 x3) rfl rfl rfl rfl (fun _ hc=>Da (c:=AA) (sz:=3) (e:=39) (kk:=.i64) (by kernel_rfl) (by kernel_rfl) (by kernel_rfl) (by kernel_rfl) hc) (fun _=>rfl) ?_
   intro x7 h7
   refine jG 3 3 ⟨[V 0 (.fsl 3 (List.map AA a0)),V 1 (.fsl 3 (List.map AA a1)),V 5 (iv x3),V 20 (.agg [bs x7.Op,bs x7.Ver,bv x7.Star]),V 21 (.fsl 3 (List.map AA a1)),V 22 (iv x3)],[],0⟩ ?_
   refine An (i:=6) (mo:=ixl a1 x3) rfl rfl rfl rfl (fun _ hc=>Da (c:=AA) (sz:=3) (e:=39) (kk:=.i64) (by kernel_rfl) (by kernel_rfl) (by kernel_rfl) (by kernel_rfl) hc) (fun _=>rfl) ?_
   intro x8 h8
   refine jG 7 2 ⟨[V 0 (.fsl 3 (List.map AA a0)),V 1 (.fsl 3 (List.map AA a1)),V 5 (iv x3),V 25 (bv (!((x7.Op == x8.Op) && ((x7.Ver == x8.Ver) && (x7.Star == x8.Star)))))],[],0⟩ ?_
   refine jN ?_
   refine jIf ?_ ?_
   ·refine jS ⟨[V 4 (bv false)],[],0⟩ ?_
    refine AO ?_
    refine Aq ?_
    refine AZ ?_
    exact BD rfl nofun (wkR [] (AH _) AB)
   refine AS ?_
   refine A8 ?_
   refine AN ?_
   refine jT ⟨[V 0 (.fsl 3 (List.map AA a0)),V 1 (.fsl 3 (List.map AA a1)),V 5 (iv (w64 (x3 + 1)))],[],0⟩ ?_
   exact Ck (wkR [] (AH _) AB)
  refine CN ?_
  refine CM ?_
  exact BD rfl nofun (wkR [] (AH _) AB)
 rintro (_ | _)
 ·refine Aq ?_
  refine AZ ?_
  exact AP (.inr rfl) (v:=bv false) (by kernel_rfl) rfl (AE _)
 refine CY ?_
 refine AN ?_
 refine jS ⟨[V 4 (bv true)],[],0⟩ ?_
 refine AO ?_
 exact AP (.inr rfl) (v:=bv true) (by kernel_rfl) rfl (AE _))
abbrev ZC:List LO:=[lo 2 (.assign (.const (.bool false))) 4]
abbrev Zn:List LO:=[lm 7 0 22,lo 8 (.call ⟨.builtin .len,#[.tmp 7],#[22]⟩) 3,lo 9 (.move (.const (.int .i64 0))) 3]
abbrev ZD:List LO:=[lo 10 (.binOp .lss 3 (.tmp 9) (.tmp 8) 3) 0]
abbrev ZW:List LO:=[lo 11 (.indexAddr 22 (.tmp 7) (.tmp 9)) 0,lo 12 (.load 39 (.tmp 11)) 39,lo 4 (.alloc 39) 0,ln (.store 39 (.tmp 4) (.tmp 12)) 0]
abbrev Zu:List LO:=[lo 13 (.fieldAddr 39 (.tmp 4) 0) 0,lo 14 (.load 9 (.tmp 13)) 9]
abbrev ZN:List LO:=[lo 16 (.binOp .eql 9 (.tmp 14) (.const (.string ⟨#[33,61]⟩)) 9) 4,lo 15 (.assign (.tmp 16)) 4]
abbrev ZU:List LO:=[lo 17 (.binOp .eql 9 (.tmp 14) (.const (.string ⟨#[60]⟩)) 9) 4,lo 15 (.assign (.tmp 17)) 4]
abbrev Zq:List LO:=[lo 18 (.binOp .eql 9 (.tmp 14) (.const (.string ⟨#[62]⟩)) 9) 4,lo 15 (.assign (.tmp 18)) 4]
abbrev ZE:List LO:=[lo 19 (.binOp .eql 9 (.tmp 14) (.const (.string ⟨#[61,61,61]⟩)) 9) 4,lo 15 (.assign (.tmp 19)) 4]
abbrev Xk:List LO:=[lo 21 (.fieldAddr 39 (.tmp 4) 1) 0,lo 22 (.load 9 (.tmp 21)) 9,lo 23 (.call ⟨.value (.func 31),#[.tmp 22],#[9]⟩) 35,lm 20 23 35,lo 24 (.extract (.tmp 20) 0) 34,lo 25 (.extract (.tmp 20) 1) 25,lo 5 (.alloc 34) 0,lo 6 (.alloc 25) 0,ln (.store 34 (.tmp 5) (.tmp 24)) 0,ln (.store 25 (.tmp 6) (.tmp 25)) 0]
abbrev Xy:List LO:=[lo 26 (.fieldAddr 39 (.tmp 4) 2) 0,lo 27 (.load 4 (.tmp 26)) 4,lo 28 (.unOp .not 4 (.tmp 27)) 4,lm 29 28 4,lg 30 (.fieldAddr 25 (.tmp 6) 0) 0 29 true,lg 31 (.load 23 (.tmp 30)) 23 29 true,lg 32 (.binOp .eql 23 (.tmp 31) (.const (.int .i64 0)) 23) 4 29 true,lo 33 (.pick (.tmp 29) (.tmp 32) (.const (.bool false))) 4,lm 34 33 4,lg 35 (.load 39 (.tmp 4)) 39 34 true,lg 36 (.call ⟨.value (.func 32),#[.tmp 35],#[39]⟩) 4 34 true,lo 37 (.pick (.tmp 34) (.tmp 36) (.const (.bool false))) 4,lm 38 37 4,lg 39 (.load 34 (.tmp 5)) 34 38 true,lg 40 (.call ⟨.value (.func 34),#[.tmp 39],#[34]⟩) 4 38 true,lo 41 (.pick (.tmp 38) (.tmp 40) (.const (.bool false))) 4]
abbrev X1:List LO:=[lo 2 (.assign (.const (.bool true))) 4]
abbrev YQ:List LO:=[lo 42 (.binOp .add 3 (.tmp 9) (.const (.int .i64 1)) 3) 3,lm 9 42 3]
abbrev Xf:List LO:=[lo 2 (.assign (.const (.bool false))) 4]
abbrev Tg:LC:=.seq (.reg false ZC) (.seq (.seq (.reg false Zn) (.block 0 (.loop (.seq (.reg false ZD) (.seq (.cond (.tmp 10) .skip (.exit 0)) (.seq (.block 1 (.seq (.reg false ZW) (.seq (.seq (.reg false Zu) (.block 2 (.seq (.seq (.reg false ZN) (.cond (.tmp 15) .skip (.seq (.reg false ZU) (.cond (.tmp 15) .skip (.seq (.reg false Zq) (.cond (.tmp 15) .skip (.reg false ZE))))))) (.cond (.tmp 15) (.exit 1) .skip)))) (.seq (.reg false Xk) (.seq (.reg false Xy) (.cond (.tmp 41) (.seq (.reg false X1) .ret) .skip)))))) (.reg false YQ))))))) (.seq (.reg false Xf) .ret))
theorem d7:BE E 35 43 [.tmp 2] Tg:=⟨⟨Go.Proofs.Tryz.f35,by kernel_rfl,by kernel_rfl,by kernel_rfl,by kernel_rfl,by kernel_rfl⟩,rfl,rfl⟩
noncomputable def HQ (a0:(List AD)):Int→Option (Step (Int) ((Unit) ⊕ (Unit))):=fun x8=>(if (decide (x8 < (List.length a0:Int)))=true then Option.bind (Option.bind (ixl a0 x8) (fun x24=>Option.bind ((if (x24.Op == [33,61])=true then some true else (if (x24.Op == [60])=true then some true else (if (x24.Op == [62])=true then some true else some (x24.Op == [61,61,61])))):Option (Bool)) (fun x25=>(if x25=true then some (Sum.inl ()) else Option.bind (FG x24.Ver) (fun x26=>Option.bind (if ((!x24.Star) && (x26.2.Err == 0))=true then Option.bind (G4 x24) (fun x29=>some x29) else some false:Option (Bool)) (fun x28=>Option.bind (if x28=true then Option.bind (HS (AF.mk x26.1.Epoch x26.1.Release x26.1.Pre x26.1.PreNum x26.1.Post x26.1.PostNum x26.1.Dev x26.1.DevNum x26.1.Local)) (fun x32=>some x32) else some false:Option (Bool)) (fun x31=>(if x31=true then some (Sum.inr ()) else some (Sum.inl ())))))))):Option ((Unit) ⊕ (Unit))) (fun y=>match y with | Sum.inl _=>some (Step.next (w64 (x8 + 1))) | Sum.inr _=>some (Step.done (Sum.inl ()))) else some (Step.done (Sum.inr ())))
noncomputable def Jq (a0:(List AD)):Option (Bool):=Option.bind (Bi (HQ a0) 0) (fun y=>match y with | Sum.inl _=>some true | Sum.inr _=>some false)
theorem Zf (a0:(List AD)):Ct E 35 [.fsl 3 (List.map AA a0)] (Jq a0) (fun r:Bool=>bv r):=Ad (N:=43) (L:=Tg) d7 rfl (Nat.le_of_ble_eq_true rfl) (by kernel_rfl) (by
 unfold Jq
 refine jS ⟨[V 0 (.fsl 3 (List.map AA a0))],[],0⟩ ?_
 refine AT ?_
 refine jR ?_
 refine jG 0 3 ⟨[V 7 (.fsl 3 (List.map AA a0)),V 8 (iv (List.length (List.map AA a0):Int)),V 9 (iv 0)],[],0⟩ ?_
 simp only[List.length_map]
 refine jN ?_
 refine Ai ?_
 refine As (fun y=>match y with | Sum.inl _=>⟨[V 2 (bv true)],[],0⟩ | Sum.inr _=>⟨[],[],0⟩) (fun y=>match y with | Sum.inl _=>.ret | Sum.inr _=>(.exit 0)) (Cj (fun x8=>⟨[V 7 (.fsl 3 (List.map AA a0)),V 8 (iv (List.length a0:Int)),V 9 (iv x8)],[],0⟩) (wkR [] (AH _) AB) ?_) ?_
 ·intro x8
  unfold HQ
  refine jS ⟨[V 7 (.fsl 3 (List.map AA a0)),V 8 (iv (List.length a0:Int)),V 9 (iv x8),V 10 (bv (decide (x8 < (List.length a0:Int))))],[],0⟩ ?_
  refine AT ?_
  refine jIf ?_ ?_
  ·refine AS ?_
   refine AN ?_
   refine AT ?_
   refine As (fun y=>match y with | Sum.inl _=>⟨[V 7 (.fsl 3 (List.map AA a0)),V 8 (iv (List.length a0:Int)),V 9 (iv x8)],[],0⟩ | Sum.inr _=>⟨[V 2 (bv true)],[],0⟩) (fun y=>match y with | Sum.inl _=>.normal | Sum.inr _=>.ret) ?_ ?_
   ·refine Ai ?_
    refine jR ?_
    refine An (i:=0) (mo:=ixl a0 x8) rfl rfl rfl rfl (fun _ hc=>Da (c:=AA) (sz:=3) (e:=39) (kk:=.i64) (by kernel_rfl) (by kernel_rfl) (by kernel_rfl) (by kernel_rfl) hc) (fun _=>rfl) ?_
    intro x24 h24
    refine jG 1 3 ⟨[V 4 (pt 0 3),V 7 (.fsl 3 (List.map AA a0)),V 8 (iv (List.length a0:Int)),V 9 (iv x8)],[W 0 3 [bs x24.Op,bs x24.Ver,bv x24.Star]],1⟩ ?_
    refine jN ?_
    refine AT ?_
    refine jS ⟨[V 4 (pt 0 3),V 7 (.fsl 3 (List.map AA a0)),V 8 (iv (List.length a0:Int)),V 9 (iv x8),V 14 (bs x24.Op)],[W 0 3 [bs x24.Op,bs x24.Ver,bv x24.Star]],1⟩ ?_
    refine Ai ?_
    refine AT ?_
    refine As (fun x25=>⟨[V 4 (pt 0 3),V 7 (.fsl 3 (List.map AA a0)),V 8 (iv (List.length a0:Int)),V 9 (iv x8),V 15 (bv x25)],[W 0 3 [bs x24.Op,bs x24.Ver,bv x24.Star]],1⟩) (fun x25=>.normal) ?_ ?_
    ·refine jS ⟨[V 4 (pt 0 3),V 7 (.fsl 3 (List.map AA a0)),V 8 (iv (List.length a0:Int)),V 9 (iv x8),V 14 (bs x24.Op),V 15 (bv (x24.Op == [33,61]))],[W 0 3 [bs x24.Op,bs x24.Ver,bv x24.Star]],1⟩ ?_
     refine jIf ?_ ?_
     ·refine AS ?_
      exact AK rfl (wkR [(0,some 0)] (AH _) (pc (hC 0) AB))
     refine jS ⟨[V 4 (pt 0 3),V 7 (.fsl 3 (List.map AA a0)),V 8 (iv (List.length a0:Int)),V 9 (iv x8),V 14 (bs x24.Op),V 15 (bv (x24.Op == [60]))],[W 0 3 [bs x24.Op,bs x24.Ver,bv x24.Star]],1⟩ ?_
     refine jIf ?_ ?_
     ·refine AS ?_
      exact AK rfl (wkR [(0,some 0)] (AH _) (pc (hC 0) AB))
     refine jS ⟨[V 4 (pt 0 3),V 7 (.fsl 3 (List.map AA a0)),V 8 (iv (List.length a0:Int)),V 9 (iv x8),V 14 (bs x24.Op),V 15 (bv (x24.Op == [62]))],[W 0 3 [bs x24.Op,bs x24.Ver,bv x24.Star]],1⟩ ?_
     refine jIf ?_ ?_
     ·refine AS ?_
      exact AK rfl (wkR [(0,some 0)] (AH _) (pc (hC 0) AB))
     refine jT ⟨[V 4 (pt 0 3),V 7 (.fsl 3 (List.map AA a0)),V 8 (iv (List.length a0:Int)),V 9 (iv x8),V 15 (bv (x24.Op == [61,61,61]))],[W 0 3 [bs x24.Op,bs x24.Ver,bv x24.Star]],1⟩ ?_
     exact AK rfl (wkR [(0,some 0)] (AH _) (pc (hC 0) AB))
    intro x25
    refine AN ?_
    refine jIf ?_ ?_
    ·refine CN ?_
     refine pA rfl ?_
     refine CM ?_
     refine CY ?_
     exact AK rfl (wkR [] (AH _) AB)
    refine AS ?_
    refine A8 ?_
    refine AN ?_
    refine jR ?_
    refine jG 0 2 ⟨[V 4 (pt 0 3),V 7 (.fsl 3 (List.map AA a0)),V 8 (iv (List.length a0:Int)),V 9 (iv x8),V 22 (bs x24.Ver)],[W 0 3 [bs x24.Op,bs x24.Ver,bv x24.Star]],1⟩ ?_
    refine jK 2 (GR x24.Ver) ?_
    intro x26 h26
    refine jG 3 7 ⟨[V 4 (pt 0 3),V 5 (pt 1 9),V 6 (pt 2 2),V 7 (.fsl 3 (List.map AA a0)),V 8 (iv (List.length a0:Int)),V 9 (iv x8)],[W 0 3 [bs x24.Op,bs x24.Ver,bv x24.Star],W 1 9 [bs x26.1.Epoch,.fsl 1 (List.map cS x26.1.Release),.s (.int .u8 x26.1.Pre),bs x26.1.PreNum,bv x26.1.Post,bs x26.1.PostNum,bv x26.1.Dev,bs x26.1.DevNum,.fsl 1 (List.map cS x26.1.Local)],W 2 2 [iv x26.2.Err,iv x26.2.At]],3⟩ ?_
    refine jN ?_
    refine jR ?_
    refine jG 0 9 ⟨[V 4 (pt 0 3),V 5 (pt 1 9),V 7 (.fsl 3 (List.map AA a0)),V 8 (iv (List.length a0:Int)),V 9 (iv x8),V 34 (bv ((!x24.Star) && (x26.2.Err == 0)))],[W 0 3 [bs x24.Op,bs x24.Ver,bv x24.Star],W 1 9 [bs x26.1.Epoch,.fsl 1 (List.map cS x26.1.Release),.s (.int .u8 x26.1.Pre),bs x26.1.PreNum,bv x26.1.Post,bs x26.1.PostNum,bv x26.1.Dev,bs x26.1.DevNum,.fsl 1 (List.map cS x26.1.Local)]],3⟩ ?_
    refine Ak 9 3 (fun x28=>⟨[V 5 (pt 0 9),V 7 (.fsl 3 (List.map AA a0)),V 8 (iv (List.length a0:Int)),V 9 (iv x8),V 37 (bv x28)],[W 0 9 [bs x26.1.Epoch,.fsl 1 (List.map cS x26.1.Release),.s (.int .u8 x26.1.Pre),bs x26.1.PreNum,bv x26.1.Post,bs x26.1.PostNum,bv x26.1.Dev,bs x26.1.DevNum,.fsl 1 (List.map cS x26.1.Local)]],1⟩) ?_ ?_
    ·refine jSp 34 ?_ ?_
     ·refine jG 0 1 ⟨[V 5 (pt 1 9),V 7 (.fsl 3 (List.map AA a0)),V 8 (iv (List.length a0:Int)),V 9 (iv x8),(34,.lit true),V 35 (.agg [bs x24.Op,bs x24.Ver,bv x24.Star])],[W 1 9 [bs x26.1.Epoch,.fsl 1 (List.map cS x26.1.Release),.s (.int .u8 x26.1.Pre),bs x26.1.PreNum,bv x26.1.Post,bs x26.1.PostNum,bv x26.1.Dev,bs x26.1.DevNum,.fsl 1 (List.map cS x26.1.Local)]],3⟩ ?_
      refine jK 1 (Qy x24) ?_
      intro x29 h29
      refine jG 2 1 ⟨[V 5 (pt 1 9),V 7 (.fsl 3 (List.map AA a0)),V 8 (iv (List.length a0:Int)),V 9 (iv x8),V 37 (bv x29)],[W 1 9 [bs x26.1.Epoch,.fsl 1 (List.map cS x26.1.Release),.s (.int .u8 x26.1.Pre),bs x26.1.PreNum,bv x26.1.Post,bs x26.1.PostNum,bv x26.1.Dev,bs x26.1.DevNum,.fsl 1 (List.map cS x26.1.Local)]],3⟩ ?_
      refine AQ rfl ?_
      exact AK rfl (wkR [(0,some 1)] (AH _) (pc (hC 1) AB))
     refine jG 0 3 ⟨[V 5 (pt 1 9),V 7 (.fsl 3 (List.map AA a0)),V 8 (iv (List.length a0:Int)),V 9 (iv x8),V 37 (bv false)],[W 1 9 [bs x26.1.Epoch,.fsl 1 (List.map cS x26.1.Release),.s (.int .u8 x26.1.Pre),bs x26.1.PreNum,bv x26.1.Post,bs x26.1.PostNum,bv x26.1.Dev,bs x26.1.DevNum,.fsl 1 (List.map cS x26.1.Local)]],3⟩ ?_
     refine AQ rfl ?_
     exact AK rfl (wkR [(0,some 1)] (AH _) (pc (hC 1) AB))
    intro x28
    refine jG 12 1 ⟨[V 5 (pt 0 9),V 7 (.fsl 3 (List.map AA a0)),V 8 (iv (List.length a0:Int)),V 9 (iv x8),V 38 (bv x28)],[W 0 9 [bs x26.1.Epoch,.fsl 1 (List.map cS x26.1.Release),.s (.int .u8 x26.1.Pre),bs x26.1.PreNum,bv x26.1.Post,bs x26.1.PostNum,bv x26.1.Dev,bs x26.1.DevNum,.fsl 1 (List.map cS x26.1.Local)]],1⟩ ?_
    refine Ak 13 3 (fun x31=>⟨[V 7 (.fsl 3 (List.map AA a0)),V 8 (iv (List.length a0:Int)),V 9 (iv x8),V 41 (bv x31)],[],0⟩) ?_ ?_
    ·refine jSp 38 ?_ ?_
     ·refine jG 0 1 ⟨[V 7 (.fsl 3 (List.map AA a0)),V 8 (iv (List.length a0:Int)),V 9 (iv x8),(38,.lit true),V 39 (.agg [bs x26.1.Epoch,.fsl 1 (List.map cS x26.1.Release),.s (.int .u8 x26.1.Pre),bs x26.1.PreNum,bv x26.1.Post,bs x26.1.PostNum,bv x26.1.Dev,bs x26.1.DevNum,.fsl 1 (List.map cS x26.1.Local)])],[],1⟩ ?_
      refine jK 1 (NA (AF.mk x26.1.Epoch x26.1.Release x26.1.Pre x26.1.PreNum x26.1.Post x26.1.PostNum x26.1.Dev x26.1.DevNum x26.1.Local)) ?_
      intro x32 h32
      refine jG 2 1 ⟨[V 7 (.fsl 3 (List.map AA a0)),V 8 (iv (List.length a0:Int)),V 9 (iv x8),V 41 (bv x32)],[],1⟩ ?_
      refine AQ rfl ?_
      exact AK rfl (wkR [] (AH _) AB)
     refine jG 0 3 ⟨[V 7 (.fsl 3 (List.map AA a0)),V 8 (iv (List.length a0:Int)),V 9 (iv x8),V 41 (bv false)],[],1⟩ ?_
     refine AQ rfl ?_
     exact AK rfl (wkR [] (AH _) AB)
    intro x31
    refine jN ?_
    refine jIf ?_ ?_
    ·refine jS ⟨[V 2 (bv true)],[],0⟩ ?_
     refine AO ?_
     refine Aq ?_
     exact AK rfl (wkR [] (AH _) AB)
    refine AS ?_
    refine A8 ?_
    exact AK rfl (wkR [] (AH _) AB)
   rintro (_ | _)
   ·refine AN ?_
    refine jT ⟨[V 7 (.fsl 3 (List.map AA a0)),V 8 (iv (List.length a0:Int)),V 9 (iv (w64 (x8 + 1)))],[],0⟩ ?_
    exact Ck (wkR [] (AH _) AB)
   refine AZ ?_
   exact BD rfl nofun (wkR [] (AH _) AB)
  refine CN ?_
  refine CM ?_
  exact BD rfl nofun (wkR [] (AH _) AB)
 rintro (_ | _)
 ·refine Aq ?_
  refine AZ ?_
  exact AP (.inr rfl) (v:=bv true) (by kernel_rfl) rfl (AE _)
 refine CY ?_
 refine AN ?_
 refine jS ⟨[V 2 (bv false)],[],0⟩ ?_
 refine AO ?_
 exact AP (.inr rfl) (v:=bv false) (by kernel_rfl) rfl (AE _))
abbrev We:List LO:=[lo 4 (.assign (.const (.bool false))) 4]
abbrev WH:List LO:=[lm 13 0 9,lo 14 (.call ⟨.value (.func 6),#[.tmp 13],#[9]⟩) 26,lm 12 14 26,lo 15 (.extract (.tmp 12) 0) 22,lo 16 (.extract (.tmp 12) 1) 25,lo 6 (.alloc 25) 0,lo 5 (.assign (.tmp 15)) 22,ln (.store 25 (.tmp 6) (.tmp 16)) 0]
abbrev Wq:List LO:=[lm 18 1 9,lo 19 (.call ⟨.value (.func 31),#[.tmp 18],#[9]⟩) 35,lm 17 19 35,lo 20 (.extract (.tmp 17) 0) 34,lo 21 (.extract (.tmp 17) 1) 25,lo 7 (.alloc 34) 0,lo 8 (.alloc 25) 0,ln (.store 34 (.tmp 7) (.tmp 20)) 0,ln (.store 25 (.tmp 8) (.tmp 21)) 0]
abbrev WS:List LO:=[lo 22 (.fieldAddr 25 (.tmp 6) 0) 0,lo 23 (.load 23 (.tmp 22)) 23,lo 24 (.binOp .neq 23 (.tmp 23) (.const (.int .i64 0)) 23) 4,lm 25 24 4,lg 26 (.fieldAddr 25 (.tmp 8) 0) 0 25 false,lg 27 (.load 23 (.tmp 26)) 23 25 false,lg 28 (.binOp .neq 23 (.tmp 27) (.const (.int .i64 0)) 23) 4 25 false,lo 29 (.pick (.tmp 25) (.const (.bool true)) (.tmp 28)) 4]
abbrev WW:List LO:=[lo 4 (.assign (.const (.bool false))) 4]
abbrev WV:List LO:=[lo 9 (.assign (.const (.bool true))) 4]
abbrev Wd:List LO:=[lm 30 5 22,lo 31 (.call ⟨.builtin .len,#[.tmp 30],#[22]⟩) 3,lo 32 (.move (.const (.int .i64 0))) 3]
abbrev WB:List LO:=[lo 33 (.binOp .lss 3 (.tmp 32) (.tmp 31) 3) 0]
abbrev WG:List LO:=[lo 34 (.indexAddr 22 (.tmp 30) (.tmp 32)) 0,lo 35 (.load 39 (.tmp 34)) 39,lo 11 (.alloc 39) 0,ln (.store 39 (.tmp 11) (.tmp 35)) 0]
abbrev UA:List LO:=[lo 36 (.load 39 (.tmp 11)) 39,lm 37 1 9,lo 38 (.call ⟨.value (.func 12),#[.tmp 36,.tmp 37],#[39,9]⟩) 4,lo 39 (.unOp .not 4 (.tmp 38)) 4]
abbrev Ud:List LO:=[lo 9 (.assign (.const (.bool false))) 4]
abbrev TI:List LO:=[lo 40 (.binOp .add 3 (.tmp 32) (.const (.int .i64 1)) 3) 3,lm 32 40 3]
abbrev Uk:List LO:=[lm 41 9 4,lm 42 41 4,lg 43 (.load 34 (.tmp 7)) 34 42 true,lg 44 (.call ⟨.value (.func 34),#[.tmp 43],#[34]⟩) 4 42 true,lg 45 (.unOp .not 4 (.tmp 44)) 4 42 true,lmg 46 45 4 42 true,lmg 47 5 22 46 false,lg 48 (.call ⟨.value (.func 35),#[.tmp 47],#[22]⟩) 4 46 false,lg 49 (.pick (.tmp 46) (.const (.bool true)) (.tmp 48)) 4 42 true,lo 50 (.pick (.tmp 42) (.tmp 49) (.const (.bool false))) 4,lo 4 (.assign (.tmp 50)) 4]
abbrev Oe:LC:=.seq (.reg false We) (.scope (.seq (.reg false WH) (.seq (.reg false Wq) (.seq (.seq (.reg false WS) (.cond (.tmp 29) (.seq (.reg false WW) .ret) .skip)) (.seq (.reg false WV) (.seq .label (.seq (.seq (.reg false Wd) (.block 0 (.loop (.seq (.reg false WB) (.seq (.cond (.tmp 33) .skip (.exit 0)) (.seq (.block 1 (.seq (.reg false WG) (.seq (.reg false UA) (.cond (.tmp 39) (.seq (.reg false Ud) (.exit 0)) .skip)))) (.reg false TI))))))) (.seq (.reg false Uk) .ret))))))))
theorem YA:BE E 16 51 [.tmp 4] Oe:=⟨⟨Go.Proofs.Tryz.f16,by kernel_rfl,by kernel_rfl,by kernel_rfl,by kernel_rfl,by kernel_rfl⟩,rfl,rfl⟩
noncomputable def D8 (a1:Str) (x1:List AD):Int→Option (Step (Int) (Bool)):=fun x7=>(if (decide (x7 < (List.length x1:Int)))=true then Option.bind (ixl x1 x7) (fun x12=>Option.bind (GV x12 a1) (fun x13=>(if (!x13)=true then some (Step.done false) else some (Step.next (w64 (x7 + 1)))))) else some (Step.done true))
noncomputable def BU (a0:Str) (a1:Str):Option (Bool):=Option.bind (B8 a0) (fun (x1,x2,x3)=>Option.bind (FG a1) (fun x4=>(if ((x2 != 0) || (x4.2.Err != 0))=true then some false else Option.bind (Bi (D8 a1 x1) 0) (fun x11=>Option.bind (if x11=true then Option.bind (HS (AF.mk x4.1.Epoch x4.1.Release x4.1.Pre x4.1.PreNum x4.1.Post x4.1.PostNum x4.1.Dev x4.1.DevNum x4.1.Local)) (fun x18=>Option.bind (if (!x18)=true then some true else Option.bind (Jq x1) (fun x21=>some x21):Option (Bool)) (fun x20=>some (true && x20))) else some false:Option (Bool)) (fun x17=>some x17)))))
theorem BW (a0:Str) (a1:Str):Ct E 16 [bs a0,bs a1] (BU a0 a1) (fun r:Bool=>bv r):=Ad (N:=51) (L:=Oe) YA rfl (Nat.le_of_ble_eq_true rfl) (by kernel_rfl) (by
 unfold BU
 refine jS ⟨[V 0 (bs a0),V 1 (bs a1)],[],0⟩ ?_
 refine uQ ?_
 refine jR ?_
 refine jG 0 1 ⟨[V 1 (bs a1),V 13 (bs a0)],[],0⟩ ?_
 refine Am 1 [] [(0,some 0)] (fun r:List AD × Int × Int=>[(0,.rows 3 (List.map AA r.1))]) (fun r:List AD × Int × Int=>.tup [.osl 0 0 (List.length r.1) 3,.agg [iv r.2.1,iv r.2.2]]) 2 (Cn a0) AB (fun r=>(pc (.inr (hL 0 (AM Ab _))) AB)) ?_
 rintro⟨x1,x2,x3⟩ hm1
 refine jG 2 6 ⟨[V 1 (bs a1),V 5 (.osl 0 0 (List.length x1) 3),V 6 (pt 2 2)],[(0,.rows 3 (List.map AA x1)),W 2 2 [iv x2,iv x3]],3⟩ ?_
 refine jN ?_
 refine jR ?_
 refine jG 0 1 ⟨[V 1 (bs a1),V 5 (.osl 0 0 (List.length x1) 3),V 6 (pt 2 2),V 18 (bs a1)],[(0,.rows 3 (List.map AA x1)),W 2 2 [iv x2,iv x3]],3⟩ ?_
 refine jK 1 (GR a1) ?_
 intro x4 h4
 refine jG 2 7 ⟨[V 1 (bs a1),V 5 (.osl 0 0 (List.length x1) 3),V 6 (pt 2 2),V 7 (pt 3 9),V 8 (pt 4 2)],[(0,.rows 3 (List.map AA x1)),W 2 2 [iv x2,iv x3],W 3 9 [bs x4.1.Epoch,.fsl 1 (List.map cS x4.1.Release),.s (.int .u8 x4.1.Pre),bs x4.1.PreNum,bv x4.1.Post,bs x4.1.PostNum,bv x4.1.Dev,bs x4.1.DevNum,.fsl 1 (List.map cS x4.1.Local)],W 4 2 [iv x4.2.Err,iv x4.2.At]],5⟩ ?_
 refine jN ?_
 refine AT ?_
 refine jS ⟨[V 1 (bs a1),V 5 (.osl 0 0 (List.length x1) 3),V 7 (pt 3 9),V 29 (bv ((x2 != 0) || (x4.2.Err != 0)))],[(0,.rows 3 (List.map AA x1)),W 3 9 [bs x4.1.Epoch,.fsl 1 (List.map cS x4.1.Release),.s (.int .u8 x4.1.Pre),bs x4.1.PreNum,bv x4.1.Post,bs x4.1.PostNum,bv x4.1.Dev,bs x4.1.DevNum,.fsl 1 (List.map cS x4.1.Local)]],5⟩ ?_
 refine jIf ?_ ?_
 ·refine jS ⟨[V 4 (bv false)],[],5⟩ ?_
  refine AO ?_
  refine AZ ?_
  refine bP ?_
  exact AP (.inr rfl) (v:=bv false) (by kernel_rfl) rfl (AE _)
 refine AS ?_
 refine AN ?_
 refine jS ⟨[V 1 (bs a1),V 5 (.osl 0 0 (List.length x1) 3),V 7 (pt 3 9),V 9 (bv true)],[(0,.rows 3 (List.map AA x1)),W 3 9 [bs x4.1.Epoch,.fsl 1 (List.map cS x4.1.Release),.s (.int .u8 x4.1.Pre),bs x4.1.PreNum,bv x4.1.Post,bs x4.1.PostNum,bv x4.1.Dev,bs x4.1.DevNum,.fsl 1 (List.map cS x4.1.Local)]],5⟩ ?_
 refine AT ?_
 refine tB ?_
 refine AN ?_
 refine AT ?_
 refine jS ⟨[V 1 (bs a1),V 5 (.osl 0 0 (List.length x1) 3),V 7 (pt 3 9),V 9 (bv true),V 30 (.osl 0 0 (List.length x1) 3),V 31 (iv (List.length x1:Int)),V 32 (iv 0)],[(0,.rows 3 (List.map AA x1)),W 3 9 [bs x4.1.Epoch,.fsl 1 (List.map cS x4.1.Release),.s (.int .u8 x4.1.Pre),bs x4.1.PreNum,bv x4.1.Post,bs x4.1.PostNum,bv x4.1.Dev,bs x4.1.DevNum,.fsl 1 (List.map cS x4.1.Local)]],5⟩ ?_
 refine Ai ?_
 refine As (fun x11=>⟨[V 5 (.osl 0 0 (List.length x1) 3),V 7 (pt 1 9),V 9 (bv x11)],[(0,.rows 3 (List.map AA x1)),W 1 9 [bs x4.1.Epoch,.fsl 1 (List.map cS x4.1.Release),.s (.int .u8 x4.1.Pre),bs x4.1.PreNum,bv x4.1.Post,bs x4.1.PostNum,bv x4.1.Dev,bs x4.1.DevNum,.fsl 1 (List.map cS x4.1.Local)]],2⟩) (fun x11=>(.exit 0)) (Cj (fun x7=>⟨[V 1 (bs a1),V 5 (.osl 0 0 (List.length x1) 3),V 7 (pt 1 9),V 9 (bv true),V 30 (.osl 0 0 (List.length x1) 3),V 31 (iv (List.length x1:Int)),V 32 (iv x7)],[(0,.rows 3 (List.map AA x1)),W 1 9 [bs x4.1.Epoch,.fsl 1 (List.map cS x4.1.Release),.s (.int .u8 x4.1.Pre),bs x4.1.PreNum,bv x4.1.Post,bs x4.1.PostNum,bv x4.1.Dev,bs x4.1.DevNum,.fsl 1 (List.map cS x4.1.Local)]],2⟩) (wkR [(0,some 0),(1,some 3)] (AH _) (pc (hL 0 (AM Ab _)) (pc (hC 3) AB))) ?_) ?_
 ·intro x7
  unfold D8
  refine jS ⟨[V 1 (bs a1),V 5 (.osl 0 0 (List.length x1) 3),V 7 (pt 1 9),V 9 (bv true),V 30 (.osl 0 0 (List.length x1) 3),V 31 (iv (List.length x1:Int)),V 32 (iv x7),V 33 (bv (decide (x7 < (List.length x1:Int))))],[(0,.rows 3 (List.map AA x1)),W 1 9 [bs x4.1.Epoch,.fsl 1 (List.map cS x4.1.Release),.s (.int .u8 x4.1.Pre),bs x4.1.PreNum,bv x4.1.Post,bs x4.1.PostNum,bv x4.1.Dev,bs x4.1.DevNum,.fsl 1 (List.map cS x4.1.Local)]],2⟩ ?_
  refine AT ?_
  refine jIf ?_ ?_
  ·refine AS ?_
   refine AN ?_
   refine AT ?_
   refine Ai ?_
   refine jR ?_
   refine An (i:=0) (mo:=ixl x1 x7) rfl rfl rfl rfl (fun _ hc=>YJ (sz:=3) (e:=39) (kk:=.i64) (id:=0) (by kernel_rfl) (by kernel_rfl) (by kernel_rfl) (by kernel_rfl) hc) (fun _=>rfl) ?_
   intro x12 h12
   refine GD (i:=1) (v:=.agg [bs x12.Op,bs x12.Ver,bv x12.Star]) rfl rfl rfl rfl (oS (l:=x1) (c:=AA) (id:=0) (k:=(Int.toNat x7)) (sz:=3) (off:=0) (a:=x12) (by kernel_rfl) (by kernel_rfl) (XJ h12).2.2 (by kernel_rfl)) rfl ?_
   refine jG 2 2 ⟨[V 1 (bs a1),V 5 (.osl 0 0 (List.length x1) 3),V 7 (pt 1 9),V 9 (bv true),V 11 (pt 2 3),V 30 (.osl 0 0 (List.length x1) 3),V 31 (iv (List.length x1:Int)),V 32 (iv x7)],[(0,.rows 3 (List.map AA x1)),W 1 9 [bs x4.1.Epoch,.fsl 1 (List.map cS x4.1.Release),.s (.int .u8 x4.1.Pre),bs x4.1.PreNum,bv x4.1.Post,bs x4.1.PostNum,bv x4.1.Dev,bs x4.1.DevNum,.fsl 1 (List.map cS x4.1.Local)],W 2 3 [bs x12.Op,bs x12.Ver,bv x12.Star]],3⟩ ?_
   refine jN ?_
   refine jR ?_
   refine jG 0 2 ⟨[V 1 (bs a1),V 5 (.osl 0 0 (List.length x1) 3),V 7 (pt 1 9),V 9 (bv true),V 30 (.osl 0 0 (List.length x1) 3),V 31 (iv (List.length x1:Int)),V 32 (iv x7),V 36 (.agg [bs x12.Op,bs x12.Ver,bv x12.Star]),V 37 (bs a1)],[(0,.rows 3 (List.map AA x1)),W 1 9 [bs x4.1.Epoch,.fsl 1 (List.map cS x4.1.Release),.s (.int .u8 x4.1.Pre),bs x4.1.PreNum,bv x4.1.Post,bs x4.1.PostNum,bv x4.1.Dev,bs x4.1.DevNum,.fsl 1 (List.map cS x4.1.Local)]],3⟩ ?_
   refine jK 2 (WC x12 a1) ?_
   intro x13 h13
   refine jG 3 1 ⟨[V 1 (bs a1),V 5 (.osl 0 0 (List.length x1) 3),V 7 (pt 1 9),V 9 (bv true),V 30 (.osl 0 0 (List.length x1) 3),V 31 (iv (List.length x1:Int)),V 32 (iv x7),V 39 (bv (!x13))],[(0,.rows 3 (List.map AA x1)),W 1 9 [bs x4.1.Epoch,.fsl 1 (List.map cS x4.1.Release),.s (.int .u8 x4.1.Pre),bs x4.1.PreNum,bv x4.1.Post,bs x4.1.PostNum,bv x4.1.Dev,bs x4.1.DevNum,.fsl 1 (List.map cS x4.1.Local)]],3⟩ ?_
   refine jN ?_
   refine jIf ?_ ?_
   ·refine jS ⟨[V 5 (.osl 0 0 (List.length x1) 3),V 7 (pt 1 9),V 9 (bv false)],[(0,.rows 3 (List.map AA x1)),W 1 9 [bs x4.1.Epoch,.fsl 1 (List.map cS x4.1.Release),.s (.int .u8 x4.1.Pre),bs x4.1.PreNum,bv x4.1.Post,bs x4.1.PostNum,bv x4.1.Dev,bs x4.1.DevNum,.fsl 1 (List.map cS x4.1.Local)]],3⟩ ?_
    refine CN ?_
    refine pA rfl ?_
    refine CM ?_
    exact BD rfl nofun (wkR [(0,some 0),(1,some 1)] (AH _) (pc (hL 0 (AM Ab _)) (pc (hC 1) AB)))
   refine AS ?_
   refine A8 ?_
   refine AN ?_
   refine jT ⟨[V 1 (bs a1),V 5 (.osl 0 0 (List.length x1) 3),V 7 (pt 1 9),V 9 (bv true),V 30 (.osl 0 0 (List.length x1) 3),V 31 (iv (List.length x1:Int)),V 32 (iv (w64 (x7 + 1)))],[(0,.rows 3 (List.map AA x1)),W 1 9 [bs x4.1.Epoch,.fsl 1 (List.map cS x4.1.Release),.s (.int .u8 x4.1.Pre),bs x4.1.PreNum,bv x4.1.Post,bs x4.1.PostNum,bv x4.1.Dev,bs x4.1.DevNum,.fsl 1 (List.map cS x4.1.Local)]],3⟩ ?_
   exact Ck (wkR [(0,some 0),(1,some 1)] (AH _) (pc (hL 0 (AM Ab _)) (pc (hC 1) AB)))
  refine CN ?_
  refine CM ?_
  exact BD rfl nofun (wkR [(0,some 0),(1,some 1)] (AH _) (pc (hL 0 (AM Ab _)) (pc (hC 1) AB)))
 intro x11
 refine CY ?_
 refine AN ?_
 refine jR ?_
 refine jG 0 2 ⟨[V 5 (.osl 0 0 (List.length x1) 3),V 7 (pt 1 9),V 42 (bv x11)],[(0,.rows 3 (List.map AA x1)),W 1 9 [bs x4.1.Epoch,.fsl 1 (List.map cS x4.1.Release),.s (.int .u8 x4.1.Pre),bs x4.1.PreNum,bv x4.1.Post,bs x4.1.PostNum,bv x4.1.Dev,bs x4.1.DevNum,.fsl 1 (List.map cS x4.1.Local)]],2⟩ ?_
 refine Ak 2 8 (fun x17=>⟨[V 50 (bv x17)],[],0⟩) ?_ ?_
 ·refine jSp 42 ?_ ?_
  ·refine jG 0 1 ⟨[V 5 (.osl 0 0 (List.length x1) 3),(42,.lit true),V 43 (.agg [bs x4.1.Epoch,.fsl 1 (List.map cS x4.1.Release),.s (.int .u8 x4.1.Pre),bs x4.1.PreNum,bv x4.1.Post,bs x4.1.PostNum,bv x4.1.Dev,bs x4.1.DevNum,.fsl 1 (List.map cS x4.1.Local)])],[(0,.rows 3 (List.map AA x1))],2⟩ ?_
   refine jK 1 (NA (AF.mk x4.1.Epoch x4.1.Release x4.1.Pre x4.1.PreNum x4.1.Post x4.1.PostNum x4.1.Dev x4.1.DevNum x4.1.Local)) ?_
   intro x18 h18
   refine jG 2 2 ⟨[V 5 (.osl 0 0 (List.length x1) 3),(42,.lit true),V 46 (bv (!x18))],[(0,.rows 3 (List.map AA x1))],2⟩ ?_
   refine Ak 4 3 (fun x20=>⟨[V 42 (bv true),V 49 (bv x20)],[],0⟩) ?_ ?_
   ·refine jSp 46 ?_ ?_
    ·refine jG 0 3 ⟨[(42,.lit true),V 49 (bv true)],[],2⟩ ?_
     refine AQ rfl ?_
     exact AK rfl (wkR [] (AH _) AB)
    refine jG 0 1 ⟨[(42,.lit true),(46,.lit false),V 47 (.osl 0 0 (List.length x1) 3)],[(0,.rows 3 (List.map AA x1))],2⟩ ?_
    refine Bh (i:=1) rfl rfl rfl rfl (vs:=[.osl 0 0 (List.length x1) 3]) (by kernel_rfl) (AL (Dc DK (by kernel_rfl)) (Aw _)) (AJ (AE _) Aj) (Zf x1) (fun _=>rfl) (fun _=>rfl) ?_
    intro x21 h21
    refine jG 2 1 ⟨[(42,.lit true),V 49 (bv x21)],[],2⟩ ?_
    refine AQ rfl ?_
    exact AK rfl (wkR [] (AH _) AB)
   intro x20
   refine jG 7 1 ⟨[V 50 (bv (true && x20))],[],0⟩ ?_
   refine AQ rfl ?_
   exact AK rfl (wkR [] (AH _) AB)
  refine jG 0 8 ⟨[V 50 (bv false)],[],2⟩ ?_
  refine AQ rfl ?_
  exact AK rfl (wkR [] (AH _) AB)
 intro x17
 refine jG 10 1 ⟨[V 4 (bv x17)],[],0⟩ ?_
 refine jN ?_
 refine AO ?_
 refine bP ?_
 exact AP (.inr rfl) (v:=bv x17) (by kernel_rfl) rfl (AE _))
abbrev XF:List LO:=[lo 0 (.assign (.const (.bool false))) 4]
abbrev YT:List LO:=[lo 1 (.assign (.const (.string ⟨#[62,61,49,46,48,44,32,33,61,49,46,53,46,42,44,32,60,50]⟩))) 9]
abbrev YZ:List LO:=[lo 9 (.call ⟨.value (.func 6),#[.const (.string ⟨#[61,49]⟩)],#[9]⟩) 26,lm 8 9 26,lo 10 (.extract (.tmp 8) 0) 22,lo 11 (.extract (.tmp 8) 1) 25,lo 3 (.alloc 25) 0,lo 2 (.assign (.tmp 10)) 22,ln (.store 25 (.tmp 3) (.tmp 11)) 0]
abbrev YH:List LO:=[lo 13 (.call ⟨.value (.func 6),#[.const (.string ⟨#[62,61,49,44,44,60,50]⟩)],#[9]⟩) 26,lm 12 13 26,lo 14 (.extract (.tmp 12) 0) 22,lo 15 (.extract (.tmp 12) 1) 25,lo 5 (.alloc 25) 0,lo 4 (.assign (.tmp 14)) 22,ln (.store 25 (.tmp 5) (.tmp 15)) 0]
abbrev X3:List LO:=[lo 17 (.call ⟨.value (.func 6),#[.const (.string ⟨#[126,61,49]⟩)],#[9]⟩) 26,lm 16 17 26,lo 18 (.extract (.tmp 16) 0) 22,lo 19 (.extract (.tmp 16) 1) 25,lo 7 (.alloc 25) 0,lo 6 (.assign (.tmp 18)) 22,ln (.store 25 (.tmp 7) (.tmp 19)) 0]
abbrev W2:List LO:=[lm 20 1 9,lo 21 (.call ⟨.value (.func 16),#[.tmp 20,.const (.string ⟨#[49,46,52]⟩)],#[9,9]⟩) 4,lm 22 21 4,lmg 23 1 9 22 true,lg 24 (.call ⟨.value (.func 16),#[.tmp 23,.const (.string ⟨#[49,46,54,46,112,111,115,116,49]⟩)],#[9,9]⟩) 4 22 true,lo 25 (.pick (.tmp 22) (.tmp 24) (.const (.bool false))) 4,lm 26 25 4,lmg 27 1 9 26 true,lg 28 (.call ⟨.value (.func 16),#[.tmp 27,.const (.string ⟨#[49,46,53,46,51]⟩)],#[9,9]⟩) 4 26 true,lg 29 (.unOp .not 4 (.tmp 28)) 4 26 true,lo 30 (.pick (.tmp 26) (.tmp 29) (.const (.bool false))) 4,lm 31 30 4,lmg 32 1 9 31 true,lg 33 (.call ⟨.value (.func 16),#[.tmp 32,.const (.string ⟨#[50,46,48,97,49]⟩)],#[9,9]⟩) 4 31 true,lg 34 (.unOp .not 4 (.tmp 33)) 4 31 true,lo 35 (.pick (.tmp 31) (.tmp 34) (.const (.bool false))) 4,lm 36 35 4,lmg 37 1 9 36 true,lg 38 (.call ⟨.value (.func 16),#[.tmp 37,.const (.string ⟨#[50,46,48]⟩)],#[9,9]⟩) 4 36 true,lg 39 (.unOp .not 4 (.tmp 38)) 4 36 true,lo 40 (.pick (.tmp 36) (.tmp 39) (.const (.bool false))) 4,lm 41 40 4,lg 42 (.call ⟨.value (.func 16),#[.const (.string ⟨#[126,61,49,46,52,46,50]⟩),.const (.string ⟨#[49,46,52,46,57]⟩)],#[9,9]⟩) 4 41 true,lo 43 (.pick (.tmp 41) (.tmp 42) (.const (.bool false))) 4,lm 44 43 4,lg 45 (.call ⟨.value (.func 16),#[.const (.string ⟨#[126,61,49,46,52,46,50]⟩),.const (.string ⟨#[49,46,53]⟩)],#[9,9]⟩) 4 44 true,lg 46 (.unOp .not 4 (.tmp 45)) 4 44 true,lo 47 (.pick (.tmp 44) (.tmp 46) (.const (.bool false))) 4,lm 48 47 4,lg 49 (.call ⟨.value (.func 16),#[.const (.string ⟨#[61,61,49,46,49]⟩),.const (.string ⟨#[49,46,49,46,48,43,108,111,99,97,108]⟩)],#[9,9]⟩) 4 48 true,lo 50 (.pick (.tmp 48) (.tmp 49) (.const (.bool false))) 4,lm 51 50 4,lg 52 (.call ⟨.value (.func 16),#[.const (.string ⟨#[62,49,46,55]⟩),.const (.string ⟨#[49,46,55,46,49]⟩)],#[9,9]⟩) 4 51 true,lo 53 (.pick (.tmp 51) (.tmp 52) (.const (.bool false))) 4,lm 54 53 4,lg 55 (.call ⟨.value (.func 16),#[.const (.string ⟨#[62,49,46,55]⟩),.const (.string ⟨#[49,46,55,46,48,46,112,111,115,116,49]⟩)],#[9,9]⟩) 4 54 true,lg 56 (.unOp .not 4 (.tmp 55)) 4 54 true,lo 57 (.pick (.tmp 54) (.tmp 56) (.const (.bool false))) 4,lm 58 57 4,lg 59 (.call ⟨.value (.func 16),#[.const (.string ⟨#[62,61,50,46,48,97,49]⟩),.const (.string ⟨#[50,46,48,98,49]⟩)],#[9,9]⟩) 4 58 true,lo 60 (.pick (.tmp 58) (.tmp 59) (.const (.bool false))) 4,lm 61 60 4,lg 62 (.load 25 (.tmp 3)) 25 61 true,lg 63 (.build 25 #[(0,.const (.int .i64 10)),(1,.const (.int .i64 1))]) 25 61 true,lg 64 (.binOp .eql 25 (.tmp 62) (.tmp 63) 25) 4 61 true,lo 65 (.pick (.tmp 61) (.tmp 64) (.const (.bool false))) 4,lm 66 65 4,lg 67 (.load 25 (.tmp 5)) 25 66 true,lg 68 (.build 25 #[(0,.const (.int .i64 10)),(1,.const (.int .i64 4))]) 25 66 true,lg 69 (.binOp .eql 25 (.tmp 67) (.tmp 68) 25) 4 66 true,lo 70 (.pick (.tmp 66) (.tmp 69) (.const (.bool false))) 4,lm 71 70 4,lg 72 (.load 25 (.tmp 7)) 25 71 true,lg 73 (.build 25 #[(0,.const (.int .i64 19)),(1,.const (.int .i64 2))]) 25 71 true,lg 74 (.binOp .eql 25 (.tmp 72) (.tmp 73) 25) 4 71 true,lo 75 (.pick (.tmp 71) (.tmp 74) (.const (.bool false))) 4,lo 0 (.assign (.tmp 75)) 4]
abbrev RH:LC:=.seq (.reg false XF) (.seq (.reg false YT) (.seq (.reg false YZ) (.seq (.reg false YH) (.seq (.reg false X3) (.seq (.reg false W2) .ret)))))
theorem Zi:BE E 7 76 [.tmp 0] RH:=⟨⟨Go.Proofs.Tryz.f7,by kernel_rfl,by kernel_rfl,by kernel_rfl,by kernel_rfl,by kernel_rfl⟩,rfl,rfl⟩
noncomputable def GA:Option (Bool):=Option.bind (B8 [61,49]) (fun (x1,x2,x3)=>Option.bind (B8 [62,61,49,44,44,60,50]) (fun (x4,x5,x6)=>Option.bind (B8 [126,61,49]) (fun (x7,x8,x9)=>Option.bind (BU [62,61,49,46,48,44,32,33,61,49,46,53,46,42,44,32,60,50] [49,46,52]) (fun x10=>Option.bind (if x10=true then Option.bind (BU [62,61,49,46,48,44,32,33,61,49,46,53,46,42,44,32,60,50] [49,46,54,46,112,111,115,116,49]) (fun x13=>some x13) else some false:Option (Bool)) (fun x12=>Option.bind (if x12=true then Option.bind (BU [62,61,49,46,48,44,32,33,61,49,46,53,46,42,44,32,60,50] [49,46,53,46,51]) (fun x16=>some (!x16)) else some false:Option (Bool)) (fun x15=>Option.bind (if x15=true then Option.bind (BU [62,61,49,46,48,44,32,33,61,49,46,53,46,42,44,32,60,50] [50,46,48,97,49]) (fun x19=>some (!x19)) else some false:Option (Bool)) (fun x18=>Option.bind (if x18=true then Option.bind (BU [62,61,49,46,48,44,32,33,61,49,46,53,46,42,44,32,60,50] [50,46,48]) (fun x22=>some (!x22)) else some false:Option (Bool)) (fun x21=>Option.bind (if x21=true then Option.bind (BU [126,61,49,46,52,46,50] [49,46,52,46,57]) (fun x25=>some x25) else some false:Option (Bool)) (fun x24=>Option.bind (if x24=true then Option.bind (BU [126,61,49,46,52,46,50] [49,46,53]) (fun x28=>some (!x28)) else some false:Option (Bool)) (fun x27=>Option.bind (if x27=true then Option.bind (BU [61,61,49,46,49] [49,46,49,46,48,43,108,111,99,97,108]) (fun x31=>some x31) else some false:Option (Bool)) (fun x30=>Option.bind (if x30=true then Option.bind (BU [62,49,46,55] [49,46,55,46,49]) (fun x34=>some x34) else some false:Option (Bool)) (fun x33=>Option.bind (if x33=true then Option.bind (BU [62,49,46,55] [49,46,55,46,48,46,112,111,115,116,49]) (fun x37=>some (!x37)) else some false:Option (Bool)) (fun x36=>Option.bind (if x36=true then Option.bind (BU [62,61,50,46,48,97,49] [50,46,48,98,49]) (fun x40=>some x40) else some false:Option (Bool)) (fun x39=>some (((x39 && ((x2 == 10) && (x3 == 1))) && ((x5 == 10) && (x6 == 4))) && ((x8 == 19) && (x9 == 2)))))))))))))))))
theorem PG:Ct E 7 [] (GA) (fun r:Bool=>bv r):=Ad (N:=76) (L:=RH) Zi rfl (Nat.le_of_ble_eq_true rfl) (by kernel_rfl) (by
 unfold GA
 refine jS ⟨[],[],0⟩ ?_
 refine jS ⟨[V 1 (bs [62,61,49,46,48,44,32,33,61,49,46,53,46,42,44,32,60,50])],[],0⟩ ?_
 refine jR ?_
 refine Am 0 [] [(0,some 0)] (fun r:List AD × Int × Int=>[(0,.rows 3 (List.map AA r.1))]) (fun r:List AD × Int × Int=>.tup [.osl 0 0 (List.length r.1) 3,.agg [iv r.2.1,iv r.2.2]]) 2 (Cn [61,49]) AB (fun r=>(pc (.inr (hL 0 (AM Ab _))) AB)) ?_
 rintro⟨x1,x2,x3⟩ hm3
 refine jG 1 6 ⟨[V 1 (bs [62,61,49,46,48,44,32,33,61,49,46,53,46,42,44,32,60,50]),V 3 (pt 2 2)],[W 2 2 [iv x2,iv x3]],3⟩ ?_
 refine jN ?_
 refine jR ?_
 refine Am 0 [] [(3,some 0)] (fun r:List AD × Int × Int=>[W 2 2 [iv x2,iv x3],(3,.rows 3 (List.map AA r.1))]) (fun r:List AD × Int × Int=>.tup [.osl 3 0 (List.length r.1) 3,.agg [iv r.2.1,iv r.2.2]]) 5 (Cn [62,61,49,44,44,60,50]) AB (fun r=>(pc (.inl ⟨rfl,rfl⟩) (pc (.inr (hL 0 (AM Ab _))) AB))) ?_
 rintro⟨x4,x5,x6⟩ hm2
 refine jG 1 6 ⟨[V 1 (bs [62,61,49,46,48,44,32,33,61,49,46,53,46,42,44,32,60,50]),V 3 (pt 2 2),V 5 (pt 5 2)],[W 2 2 [iv x2,iv x3],W 5 2 [iv x5,iv x6]],6⟩ ?_
 refine jN ?_
 refine jR ?_
 refine Am 0 [] [(6,some 0)] (fun r:List AD × Int × Int=>[W 2 2 [iv x2,iv x3],W 5 2 [iv x5,iv x6],(6,.rows 3 (List.map AA r.1))]) (fun r:List AD × Int × Int=>.tup [.osl 6 0 (List.length r.1) 3,.agg [iv r.2.1,iv r.2.2]]) 8 (Cn [126,61,49]) AB (fun r=>(pc (.inl ⟨rfl,rfl⟩) (pc (.inl ⟨rfl,rfl⟩) (pc (.inr (hL 0 (AM Ab _))) AB)))) ?_
 rintro⟨x7,x8,x9⟩ hm1
 refine jG 1 6 ⟨[V 1 (bs [62,61,49,46,48,44,32,33,61,49,46,53,46,42,44,32,60,50]),V 3 (pt 2 2),V 5 (pt 5 2),V 7 (pt 8 2)],[W 2 2 [iv x2,iv x3],W 5 2 [iv x5,iv x6],W 8 2 [iv x8,iv x9]],9⟩ ?_
 refine jN ?_
 refine jR ?_
 refine jG 0 1 ⟨[V 1 (bs [62,61,49,46,48,44,32,33,61,49,46,53,46,42,44,32,60,50]),V 3 (pt 2 2),V 5 (pt 5 2),V 7 (pt 8 2),V 20 (bs [62,61,49,46,48,44,32,33,61,49,46,53,46,42,44,32,60,50])],[W 2 2 [iv x2,iv x3],W 5 2 [iv x5,iv x6],W 8 2 [iv x8,iv x9]],9⟩ ?_
 refine jK 1 (BW [62,61,49,46,48,44,32,33,61,49,46,53,46,42,44,32,60,50] [49,46,52]) ?_
 intro x10 h10
 refine jG 2 1 ⟨[V 1 (bs [62,61,49,46,48,44,32,33,61,49,46,53,46,42,44,32,60,50]),V 3 (pt 2 2),V 5 (pt 5 2),V 7 (pt 8 2),V 22 (bv x10)],[W 2 2 [iv x2,iv x3],W 5 2 [iv x5,iv x6],W 8 2 [iv x8,iv x9]],9⟩ ?_
 refine Ak 3 3 (fun x12=>⟨[V 1 (bs [62,61,49,46,48,44,32,33,61,49,46,53,46,42,44,32,60,50]),V 3 (pt 0 2),V 5 (pt 1 2),V 7 (pt 2 2),V 25 (bv x12)],[W 0 2 [iv x2,iv x3],W 1 2 [iv x5,iv x6],W 2 2 [iv x8,iv x9]],3⟩) ?_ ?_
 ·refine jSp 22 ?_ ?_
  ·refine jG 0 1 ⟨[V 1 (bs [62,61,49,46,48,44,32,33,61,49,46,53,46,42,44,32,60,50]),V 3 (pt 2 2),V 5 (pt 5 2),V 7 (pt 8 2),(22,.lit true),V 23 (bs [62,61,49,46,48,44,32,33,61,49,46,53,46,42,44,32,60,50])],[W 2 2 [iv x2,iv x3],W 5 2 [iv x5,iv x6],W 8 2 [iv x8,iv x9]],9⟩ ?_
   refine jK 1 (BW [62,61,49,46,48,44,32,33,61,49,46,53,46,42,44,32,60,50] [49,46,54,46,112,111,115,116,49]) ?_
   intro x13 h13
   refine jG 2 1 ⟨[V 1 (bs [62,61,49,46,48,44,32,33,61,49,46,53,46,42,44,32,60,50]),V 3 (pt 2 2),V 5 (pt 5 2),V 7 (pt 8 2),V 25 (bv x13)],[W 2 2 [iv x2,iv x3],W 5 2 [iv x5,iv x6],W 8 2 [iv x8,iv x9]],9⟩ ?_
   refine AQ rfl ?_
   exact AK rfl (wkR [(0,some 2),(1,some 5),(2,some 8)] (AH _) (pc (hC 2) (pc (hC 5) (pc (hC 8) AB))))
  refine jG 0 3 ⟨[V 1 (bs [62,61,49,46,48,44,32,33,61,49,46,53,46,42,44,32,60,50]),V 3 (pt 2 2),V 5 (pt 5 2),V 7 (pt 8 2),V 25 (bv false)],[W 2 2 [iv x2,iv x3],W 5 2 [iv x5,iv x6],W 8 2 [iv x8,iv x9]],9⟩ ?_
  refine AQ rfl ?_
  exact AK rfl (wkR [(0,some 2),(1,some 5),(2,some 8)] (AH _) (pc (hC 2) (pc (hC 5) (pc (hC 8) AB))))
 intro x12
 refine jG 6 1 ⟨[V 1 (bs [62,61,49,46,48,44,32,33,61,49,46,53,46,42,44,32,60,50]),V 3 (pt 0 2),V 5 (pt 1 2),V 7 (pt 2 2),V 26 (bv x12)],[W 0 2 [iv x2,iv x3],W 1 2 [iv x5,iv x6],W 2 2 [iv x8,iv x9]],3⟩ ?_
 refine Ak 7 4 (fun x15=>⟨[V 1 (bs [62,61,49,46,48,44,32,33,61,49,46,53,46,42,44,32,60,50]),V 3 (pt 0 2),V 5 (pt 1 2),V 7 (pt 2 2),V 30 (bv x15)],[W 0 2 [iv x2,iv x3],W 1 2 [iv x5,iv x6],W 2 2 [iv x8,iv x9]],3⟩) ?_ ?_
 ·refine jSp 26 ?_ ?_
  ·refine jG 0 1 ⟨[V 1 (bs [62,61,49,46,48,44,32,33,61,49,46,53,46,42,44,32,60,50]),V 3 (pt 0 2),V 5 (pt 1 2),V 7 (pt 2 2),(26,.lit true),V 27 (bs [62,61,49,46,48,44,32,33,61,49,46,53,46,42,44,32,60,50])],[W 0 2 [iv x2,iv x3],W 1 2 [iv x5,iv x6],W 2 2 [iv x8,iv x9]],3⟩ ?_
   refine jK 1 (BW [62,61,49,46,48,44,32,33,61,49,46,53,46,42,44,32,60,50] [49,46,53,46,51]) ?_
   intro x16 h16
   refine jG 2 2 ⟨[V 1 (bs [62,61,49,46,48,44,32,33,61,49,46,53,46,42,44,32,60,50]),V 3 (pt 0 2),V 5 (pt 1 2),V 7 (pt 2 2),V 30 (bv (!x16))],[W 0 2 [iv x2,iv x3],W 1 2 [iv x5,iv x6],W 2 2 [iv x8,iv x9]],3⟩ ?_
   refine AQ rfl ?_
   exact AK rfl (wkR [(0,some 0),(1,some 1),(2,some 2)] (AH _) (pc (hC 0) (pc (hC 1) (pc (hC 2) AB))))
  refine jG 0 4 ⟨[V 1 (bs [62,61,49,46,48,44,32,33,61,49,46,53,46,42,44,32,60,50]),V 3 (pt 0 2),V 5 (pt 1 2),V 7 (pt 2 2),V 30 (bv false)],[W 0 2 [iv x2,iv x3],W 1 2 [iv x5,iv x6],W 2 2 [iv x8,iv x9]],3⟩ ?_
  refine AQ rfl ?_
  exact AK rfl (wkR [(0,some 0),(1,some 1),(2,some 2)] (AH _) (pc (hC 0) (pc (hC 1) (pc (hC 2) AB))))
 intro x15
 refine jG 11 1 ⟨[V 1 (bs [62,61,49,46,48,44,32,33,61,49,46,53,46,42,44,32,60,50]),V 3 (pt 0 2),V 5 (pt 1 2),V 7 (pt 2 2),V 31 (bv x15)],[W 0 2 [iv x2,iv x3],W 1 2 [iv x5,iv x6],W 2 2 [iv x8,iv x9]],3⟩ ?_
 refine Ak 12 4 (fun x18=>⟨[V 1 (bs [62,61,49,46,48,44,32,33,61,49,46,53,46,42,44,32,60,50]),V 3 (pt 0 2),V 5 (pt 1 2),V 7 (pt 2 2),V 35 (bv x18)],[W 0 2 [iv x2,iv x3],W 1 2 [iv x5,iv x6],W 2 2 [iv x8,iv x9]],3⟩) ?_ ?_
 ·refine jSp 31 ?_ ?_
  ·refine jG 0 1 ⟨[V 1 (bs [62,61,49,46,48,44,32,33,61,49,46,53,46,42,44,32,60,50]),V 3 (pt 0 2),V 5 (pt 1 2),V 7 (pt 2 2),(31,.lit true),V 32 (bs [62,61,49,46,48,44,32,33,61,49,46,53,46,42,44,32,60,50])],[W 0 2 [iv x2,iv x3],W 1 2 [iv x5,iv x6],W 2 2 [iv x8,iv x9]],3⟩ ?_
   refine jK 1 (BW [62,61,49,46,48,44,32,33,61,49,46,53,46,42,44,32,60,50] [50,46,48,97,49]) ?_
   intro x19 h19
   refine jG 2 2 ⟨[V 1 (bs [62,61,49,46,48,44,32,33,61,49,46,53,46,42,44,32,60,50]),V 3 (pt 0 2),V 5 (pt 1 2),V 7 (pt 2 2),V 35 (bv (!x19))],[W 0 2 [iv x2,iv x3],W 1 2 [iv x5,iv x6],W 2 2 [iv x8,iv x9]],3⟩ ?_
   refine AQ rfl ?_
   exact AK rfl (wkR [(0,some 0),(1,some 1),(2,some 2)] (AH _) (pc (hC 0) (pc (hC 1) (pc (hC 2) AB))))
  refine jG 0 4 ⟨[V 1 (bs [62,61,49,46,48,44,32,33,61,49,46,53,46,42,44,32,60,50]),V 3 (pt 0 2),V 5 (pt 1 2),V 7 (pt 2 2),V 35 (bv false)],[W 0 2 [iv x2,iv x3],W 1 2 [iv x5,iv x6],W 2 2 [iv x8,iv x9]],3⟩ ?_
  refine AQ rfl ?_
  exact AK rfl (wkR [(0,some 0),(1,some 1),(2,some 2)] (AH _) (pc (hC 0) (pc (hC 1) (pc (hC 2) AB))))
 intro x18
 refine jG 16 1 ⟨[V 1 (bs [62,61,49,46,48,44,32,33,61,49,46,53,46,42,44,32,60,50]),V 3 (pt 0 2),V 5 (pt 1 2),V 7 (pt 2 2),V 36 (bv x18)],[W 0 2 [iv x2,iv x3],W 1 2 [iv x5,iv x6],W 2 2 [iv x8,iv x9]],3⟩ ?_
 refine Ak 17 4 (fun x21=>⟨[V 3 (pt 0 2),V 5 (pt 1 2),V 7 (pt 2 2),V 40 (bv x21)],[W 0 2 [iv x2,iv x3],W 1 2 [iv x5,iv x6],W 2 2 [iv x8,iv x9]],3⟩) ?_ ?_
 ·refine jSp 36 ?_ ?_
  ·refine jG 0 1 ⟨[V 3 (pt 0 2),V 5 (pt 1 2),V 7 (pt 2 2),(36,.lit true),V 37 (bs [62,61,49,46,48,44,32,33,61,49,46,53,46,42,44,32,60,50])],[W 0 2 [iv x2,iv x3],W 1 2 [iv x5,iv x6],W 2 2 [iv x8,iv x9]],3⟩ ?_
   refine jK 1 (BW [62,61,49,46,48,44,32,33,61,49,46,53,46,42,44,32,60,50] [50,46,48]) ?_
   intro x22 h22
   refine jG 2 2 ⟨[V 3 (pt 0 2),V 5 (pt 1 2),V 7 (pt 2 2),V 40 (bv (!x22))],[W 0 2 [iv x2,iv x3],W 1 2 [iv x5,iv x6],W 2 2 [iv x8,iv x9]],3⟩ ?_
   refine AQ rfl ?_
   exact AK rfl (wkR [(0,some 0),(1,some 1),(2,some 2)] (AH _) (pc (hC 0) (pc (hC 1) (pc (hC 2) AB))))
  refine jG 0 4 ⟨[V 3 (pt 0 2),V 5 (pt 1 2),V 7 (pt 2 2),V 40 (bv false)],[W 0 2 [iv x2,iv x3],W 1 2 [iv x5,iv x6],W 2 2 [iv x8,iv x9]],3⟩ ?_
  refine AQ rfl ?_
  exact AK rfl (wkR [(0,some 0),(1,some 1),(2,some 2)] (AH _) (pc (hC 0) (pc (hC 1) (pc (hC 2) AB))))
 intro x21
 refine jG 21 1 ⟨[V 3 (pt 0 2),V 5 (pt 1 2),V 7 (pt 2 2),V 41 (bv x21)],[W 0 2 [iv x2,iv x3],W 1 2 [iv x5,iv x6],W 2 2 [iv x8,iv x9]],3⟩ ?_
 refine Ak 22 2 (fun x24=>⟨[V 3 (pt 0 2),V 5 (pt 1 2),V 7 (pt 2 2),V 43 (bv x24)],[W 0 2 [iv x2,iv x3],W 1 2 [iv x5,iv x6],W 2 2 [iv x8,iv x9]],3⟩) ?_ ?_
 ·refine jSp 41 ?_ ?_
  ·refine jK 0 (BW [126,61,49,46,52,46,50] [49,46,52,46,57]) ?_
   intro x25 h25
   refine jG 1 1 ⟨[V 3 (pt 0 2),V 5 (pt 1 2),V 7 (pt 2 2),V 43 (bv x25)],[W 0 2 [iv x2,iv x3],W 1 2 [iv x5,iv x6],W 2 2 [iv x8,iv x9]],3⟩ ?_
   refine AQ rfl ?_
   exact AK rfl (wkR [(0,some 0),(1,some 1),(2,some 2)] (AH _) (pc (hC 0) (pc (hC 1) (pc (hC 2) AB))))
  refine jG 0 2 ⟨[V 3 (pt 0 2),V 5 (pt 1 2),V 7 (pt 2 2),V 43 (bv false)],[W 0 2 [iv x2,iv x3],W 1 2 [iv x5,iv x6],W 2 2 [iv x8,iv x9]],3⟩ ?_
  refine AQ rfl ?_
  exact AK rfl (wkR [(0,some 0),(1,some 1),(2,some 2)] (AH _) (pc (hC 0) (pc (hC 1) (pc (hC 2) AB))))
 intro x24
 refine jG 24 1 ⟨[V 3 (pt 0 2),V 5 (pt 1 2),V 7 (pt 2 2),V 44 (bv x24)],[W 0 2 [iv x2,iv x3],W 1 2 [iv x5,iv x6],W 2 2 [iv x8,iv x9]],3⟩ ?_
 refine Ak 25 3 (fun x27=>⟨[V 3 (pt 0 2),V 5 (pt 1 2),V 7 (pt 2 2),V 47 (bv x27)],[W 0 2 [iv x2,iv x3],W 1 2 [iv x5,iv x6],W 2 2 [iv x8,iv x9]],3⟩) ?_ ?_
 ·refine jSp 44 ?_ ?_
  ·refine jK 0 (BW [126,61,49,46,52,46,50] [49,46,53]) ?_
   intro x28 h28
   refine jG 1 2 ⟨[V 3 (pt 0 2),V 5 (pt 1 2),V 7 (pt 2 2),V 47 (bv (!x28))],[W 0 2 [iv x2,iv x3],W 1 2 [iv x5,iv x6],W 2 2 [iv x8,iv x9]],3⟩ ?_
   refine AQ rfl ?_
   exact AK rfl (wkR [(0,some 0),(1,some 1),(2,some 2)] (AH _) (pc (hC 0) (pc (hC 1) (pc (hC 2) AB))))
  refine jG 0 3 ⟨[V 3 (pt 0 2),V 5 (pt 1 2),V 7 (pt 2 2),V 47 (bv false)],[W 0 2 [iv x2,iv x3],W 1 2 [iv x5,iv x6],W 2 2 [iv x8,iv x9]],3⟩ ?_
  refine AQ rfl ?_
  exact AK rfl (wkR [(0,some 0),(1,some 1),(2,some 2)] (AH _) (pc (hC 0) (pc (hC 1) (pc (hC 2) AB))))
 intro x27
 refine jG 28 1 ⟨[V 3 (pt 0 2),V 5 (pt 1 2),V 7 (pt 2 2),V 48 (bv x27)],[W 0 2 [iv x2,iv x3],W 1 2 [iv x5,iv x6],W 2 2 [iv x8,iv x9]],3⟩ ?_
 refine Ak 29 2 (fun x30=>⟨[V 3 (pt 0 2),V 5 (pt 1 2),V 7 (pt 2 2),V 50 (bv x30)],[W 0 2 [iv x2,iv x3],W 1 2 [iv x5,iv x6],W 2 2 [iv x8,iv x9]],3⟩) ?_ ?_
 ·refine jSp 48 ?_ ?_
  ·refine jK 0 (BW [61,61,49,46,49] [49,46,49,46,48,43,108,111,99,97,108]) ?_
   intro x31 h31
   refine jG 1 1 ⟨[V 3 (pt 0 2),V 5 (pt 1 2),V 7 (pt 2 2),V 50 (bv x31)],[W 0 2 [iv x2,iv x3],W 1 2 [iv x5,iv x6],W 2 2 [iv x8,iv x9]],3⟩ ?_
   refine AQ rfl ?_
   exact AK rfl (wkR [(0,some 0),(1,some 1),(2,some 2)] (AH _) (pc (hC 0) (pc (hC 1) (pc (hC 2) AB))))
  refine jG 0 2 ⟨[V 3 (pt 0 2),V 5 (pt 1 2),V 7 (pt 2 2),V 50 (bv false)],[W 0 2 [iv x2,iv x3],W 1 2 [iv x5,iv x6],W 2 2 [iv x8,iv x9]],3⟩ ?_
  refine AQ rfl ?_
  exact AK rfl (wkR [(0,some 0),(1,some 1),(2,some 2)] (AH _) (pc (hC 0) (pc (hC 1) (pc (hC 2) AB))))
 intro x30
 refine jG 31 1 ⟨[V 3 (pt 0 2),V 5 (pt 1 2),V 7 (pt 2 2),V 51 (bv x30)],[W 0 2 [iv x2,iv x3],W 1 2 [iv x5,iv x6],W 2 2 [iv x8,iv x9]],3⟩ ?_
 refine Ak 32 2 (fun x33=>⟨[V 3 (pt 0 2),V 5 (pt 1 2),V 7 (pt 2 2),V 53 (bv x33)],[W 0 2 [iv x2,iv x3],W 1 2 [iv x5,iv x6],W 2 2 [iv x8,iv x9]],3⟩) ?_ ?_
 ·refine jSp 51 ?_ ?_
  ·refine jK 0 (BW [62,49,46,55] [49,46,55,46,49]) ?_
   intro x34 h34
   refine jG 1 1 ⟨[V 3 (pt 0 2),V 5 (pt 1 2),V 7 (pt 2 2),V 53 (bv x34)],[W 0 2 [iv x2,iv x3],W 1 2 [iv x5,iv x6],W 2 2 [iv x8,iv x9]],3⟩ ?_
   refine AQ rfl ?_
   exact AK rfl (wkR [(0,some 0),(1,some 1),(2,some 2)] (AH _) (pc (hC 0) (pc (hC 1) (pc (hC 2) AB))))
  refine jG 0 2 ⟨[V 3 (pt 0 2),V 5 (pt 1 2),V 7 (pt 2 2),V 53 (bv false)],[W 0 2 [iv x2,iv x3],W 1 2 [iv x5,iv x6],W 2 2 [iv x8,iv x9]],3⟩ ?_
  refine AQ rfl ?_
  exact AK rfl (wkR [(0,some 0),(1,some 1),(2,some 2)] (AH _) (pc (hC 0) (pc (hC 1) (pc (hC 2) AB))))
 intro x33
 refine jG 34 1 ⟨[V 3 (pt 0 2),V 5 (pt 1 2),V 7 (pt 2 2),V 54 (bv x33)],[W 0 2 [iv x2,iv x3],W 1 2 [iv x5,iv x6],W 2 2 [iv x8,iv x9]],3⟩ ?_
 refine Ak 35 3 (fun x36=>⟨[V 3 (pt 0 2),V 5 (pt 1 2),V 7 (pt 2 2),V 57 (bv x36)],[W 0 2 [iv x2,iv x3],W 1 2 [iv x5,iv x6],W 2 2 [iv x8,iv x9]],3⟩) ?_ ?_
 ·refine jSp 54 ?_ ?_
  ·refine jK 0 (BW [62,49,46,55] [49,46,55,46,48,46,112,111,115,116,49]) ?_
   intro x37 h37
   refine jG 1 2 ⟨[V 3 (pt 0 2),V 5 (pt 1 2),V 7 (pt 2 2),V 57 (bv (!x37))],[W 0 2 [iv x2,iv x3],W 1 2 [iv x5,iv x6],W 2 2 [iv x8,iv x9]],3⟩ ?_
   refine AQ rfl ?_
   exact AK rfl (wkR [(0,some 0),(1,some 1),(2,some 2)] (AH _) (pc (hC 0) (pc (hC 1) (pc (hC 2) AB))))
  refine jG 0 3 ⟨[V 3 (pt 0 2),V 5 (pt 1 2),V 7 (pt 2 2),V 57 (bv false)],[W 0 2 [iv x2,iv x3],W 1 2 [iv x5,iv x6],W 2 2 [iv x8,iv x9]],3⟩ ?_
  refine AQ rfl ?_
  exact AK rfl (wkR [(0,some 0),(1,some 1),(2,some 2)] (AH _) (pc (hC 0) (pc (hC 1) (pc (hC 2) AB))))
 intro x36
 refine jG 38 1 ⟨[V 3 (pt 0 2),V 5 (pt 1 2),V 7 (pt 2 2),V 58 (bv x36)],[W 0 2 [iv x2,iv x3],W 1 2 [iv x5,iv x6],W 2 2 [iv x8,iv x9]],3⟩ ?_
 refine Ak 39 2 (fun x39=>⟨[V 3 (pt 0 2),V 5 (pt 1 2),V 7 (pt 2 2),V 60 (bv x39)],[W 0 2 [iv x2,iv x3],W 1 2 [iv x5,iv x6],W 2 2 [iv x8,iv x9]],3⟩) ?_ ?_
 ·refine jSp 58 ?_ ?_
  ·refine jK 0 (BW [62,61,50,46,48,97,49] [50,46,48,98,49]) ?_
   intro x40 h40
   refine jG 1 1 ⟨[V 3 (pt 0 2),V 5 (pt 1 2),V 7 (pt 2 2),V 60 (bv x40)],[W 0 2 [iv x2,iv x3],W 1 2 [iv x5,iv x6],W 2 2 [iv x8,iv x9]],3⟩ ?_
   refine AQ rfl ?_
   exact AK rfl (wkR [(0,some 0),(1,some 1),(2,some 2)] (AH _) (pc (hC 0) (pc (hC 1) (pc (hC 2) AB))))
  refine jG 0 2 ⟨[V 3 (pt 0 2),V 5 (pt 1 2),V 7 (pt 2 2),V 60 (bv false)],[W 0 2 [iv x2,iv x3],W 1 2 [iv x5,iv x6],W 2 2 [iv x8,iv x9]],3⟩ ?_
  refine AQ rfl ?_
  exact AK rfl (wkR [(0,some 0),(1,some 1),(2,some 2)] (AH _) (pc (hC 0) (pc (hC 1) (pc (hC 2) AB))))
 intro x39
 refine jG 41 16 ⟨[V 0 (bv (((x39 && ((x2 == 10) && (x3 == 1))) && ((x5 == 10) && (x6 == 4))) && ((x8 == 19) && (x9 == 2))))],[],3⟩ ?_
 refine jN ?_
 refine AO ?_
 exact AP (.inr rfl) (v:=bv (((x39 && ((x2 == 10) && (x3 == 1))) && ((x5 == 10) && (x6 == 4))) && ((x8 == 19) && (x9 == 2)))) (by kernel_rfl) rfl (AE _))
abbrev Qm:List LO:=[lo 2 (.assign (.const (.bool false))) 4]
abbrev Ql:List LO:=[lm 9 0 9,lo 10 (.call ⟨.value (.func 6),#[.tmp 9],#[9]⟩) 26,lm 8 10 26,lo 11 (.extract (.tmp 8) 0) 22,lo 12 (.extract (.tmp 8) 1) 25,lo 4 (.alloc 25) 0,lo 3 (.assign (.tmp 11)) 22,ln (.store 25 (.tmp 4) (.tmp 12)) 0]
abbrev Qj:List LO:=[lo 13 (.fieldAddr 25 (.tmp 4) 0) 0,lo 14 (.load 23 (.tmp 13)) 23,lo 15 (.binOp .neq 23 (.tmp 14) (.const (.int .i64 0)) 23) 4]
abbrev QW:List LO:=[lm 16 3 22,lo 17 (.call ⟨.builtin .len,#[.tmp 16],#[22]⟩) 3,lo 18 (.binOp .eql 3 (.tmp 17) (.const (.int .i64 0)) 3) 4,lm 19 18 4,lg 20 (.call ⟨.value (.func 7),#[],#[]⟩) 4 19 true,lo 21 (.pick (.tmp 19) (.tmp 20) (.const (.bool false))) 4,lo 2 (.assign (.tmp 21)) 4]
abbrev QG:List LO:=[lm 22 3 22,lo 23 (.call ⟨.value (.func 8),#[.tmp 22],#[22]⟩) 9,lo 5 (.assign (.tmp 23)) 9]
abbrev Qw:List LO:=[lm 25 5 9,lo 26 (.call ⟨.value (.func 6),#[.tmp 25],#[9]⟩) 26,lm 24 26 26,lo 27 (.extract (.tmp 24) 0) 22,lo 28 (.extract (.tmp 24) 1) 25,lo 7 (.alloc 25) 0,lo 6 (.assign (.tmp 27)) 22,ln (.store 25 (.tmp 7) (.tmp 28)) 0]
abbrev Qr:List LO:=[lm 29 5 9,lo 30 (.call ⟨.builtin .len,#[.tmp 29],#[9]⟩) 3,lm 31 0 9,lo 32 (.call ⟨.builtin .len,#[.tmp 31],#[9]⟩) 3,lo 33 (.binOp .leq 3 (.tmp 30) (.tmp 32) 3) 4,lm 34 33 4,lg 35 (.load 25 (.tmp 7)) 25 34 true,lg 36 (.build 25 #[]) 25 34 true,lg 37 (.binOp .eql 25 (.tmp 35) (.tmp 36) 25) 4 34 true,lo 38 (.pick (.tmp 34) (.tmp 37) (.const (.bool false))) 4,lm 39 38 4,lmg 40 3 22 39 true,lmg 41 6 22 39 true,lg 42 (.call ⟨.value (.func 9),#[.tmp 40,.tmp 41],#[22,22]⟩) 4 39 true,lo 43 (.pick (.tmp 39) (.tmp 42) (.const (.bool false))) 4,lm 44 43 4,lg 45 (.call ⟨.value (.func 7),#[],#[]⟩) 4 44 true,lo 46 (.pick (.tmp 44) (.tmp 45) (.const (.bool false))) 4,lo 2 (.assign (.tmp 46)) 4]
abbrev J7:LC:=.seq (.reg false Qm) (.seq (.reg false Ql) (.seq (.seq (.reg false Qj) (.cond (.tmp 15) (.seq (.reg false QW) .ret) .skip)) (.seq (.reg false QG) (.seq (.reg false Qw) (.seq (.reg false Qr) .ret)))))
theorem SX:BE E 3 47 [.tmp 2] J7:=⟨⟨Go.Proofs.Tryz.f3,by kernel_rfl,by kernel_rfl,by kernel_rfl,by kernel_rfl,by kernel_rfl⟩,rfl,rfl⟩
noncomputable def Dh (a0:Str):Option (Bool):=Option.bind (B8 a0) (fun (x1,x2,x3)=>(if (x2 != 0)=true then Option.bind (if ((List.length x1:Int) == 0)=true then Option.bind (GA) (fun x6=>some x6) else some false:Option (Bool)) (fun x5=>some x5) else Option.bind (ET x1) (fun x7=>Option.bind (B8 x7) (fun (x8,x9,x10)=>Option.bind (if ((decide ((List.length x7:Int)≤(List.length a0:Int))) && ((x9 == 0) && (x10 == 0)))=true then Option.bind (Fi x1 x8) (fun x13=>some x13) else some false:Option (Bool)) (fun x12=>Option.bind (if x12=true then Option.bind (GA) (fun x16=>some x16) else some false:Option (Bool)) (fun x15=>some x15))))))
theorem Qe (a0:Str):Ct E 3 [bs a0] (Dh a0) (fun r:Bool=>bv r):=Ad (N:=47) (L:=J7) SX rfl (Nat.le_of_ble_eq_true rfl) (by kernel_rfl) (by
 unfold Dh
 refine jS ⟨[V 0 (bs a0)],[],0⟩ ?_
 refine jR ?_
 refine jG 0 1 ⟨[V 0 (bs a0),V 9 (bs a0)],[],0⟩ ?_
 refine Am 1 [] [(0,some 0)] (fun r:List AD × Int × Int=>[(0,.rows 3 (List.map AA r.1))]) (fun r:List AD × Int × Int=>.tup [.osl 0 0 (List.length r.1) 3,.agg [iv r.2.1,iv r.2.2]]) 2 (Cn a0) AB (fun r=>(pc (.inr (hL 0 (AM Ab _))) AB)) ?_
 rintro⟨x1,x2,x3⟩ hm2
 refine jG 2 6 ⟨[V 0 (bs a0),V 3 (.osl 0 0 (List.length x1) 3),V 4 (pt 2 2)],[(0,.rows 3 (List.map AA x1)),W 2 2 [iv x2,iv x3]],3⟩ ?_
 refine jN ?_
 refine AT ?_
 refine jS ⟨[V 0 (bs a0),V 3 (.osl 0 0 (List.length x1) 3),V 15 (bv (x2 != 0))],[(0,.rows 3 (List.map AA x1))],3⟩ ?_
 refine jIf ?_ ?_
 ·refine jR ?_
  refine jG 0 4 ⟨[V 19 (bv ((List.length x1:Int) == 0))],[],3⟩ ?_
  refine Ak 4 2 (fun x5=>⟨[V 21 (bv x5)],[],0⟩) ?_ ?_
  ·refine jSp 19 ?_ ?_
   ·refine jK 0 (PG) ?_
    intro x6 h6
    refine jG 1 1 ⟨[V 21 (bv x6)],[],3⟩ ?_
    refine AQ rfl ?_
    exact AK rfl (wkR [] (AH _) AB)
   refine jG 0 2 ⟨[V 21 (bv false)],[],3⟩ ?_
   refine AQ rfl ?_
   exact AK rfl (wkR [] (AH _) AB)
  intro x5
  refine jG 6 1 ⟨[V 2 (bv x5)],[],0⟩ ?_
  refine jN ?_
  refine AO ?_
  refine AZ ?_
  exact AP (.inr rfl) (v:=bv x5) (by kernel_rfl) rfl (AE _)
 refine AS ?_
 refine AN ?_
 refine jR ?_
 refine jG 0 1 ⟨[V 0 (bs a0),V 3 (.osl 0 0 (List.length x1) 3),V 22 (.osl 0 0 (List.length x1) 3)],[(0,.rows 3 (List.map AA x1))],3⟩ ?_
 refine Bh (i:=1) rfl rfl rfl rfl (vs:=[.osl 0 0 (List.length x1) 3]) (by kernel_rfl) (AL (Dc DK (by kernel_rfl)) (Aw _)) (AJ (AE _) Aj) (Ml x1) (fun _=>rfl) (fun _=>rfl) ?_
 intro x7 h7
 refine jG 2 1 ⟨[V 0 (bs a0),V 3 (.osl 0 0 (List.length x1) 3),V 5 (bs x7)],[(0,.rows 3 (List.map AA x1))],3⟩ ?_
 refine jN ?_
 refine jR ?_
 refine jG 0 1 ⟨[V 0 (bs a0),V 3 (.osl 0 0 (List.length x1) 3),V 5 (bs x7),V 25 (bs x7)],[(0,.rows 3 (List.map AA x1))],3⟩ ?_
 refine Am 1 [] [(3,some 0)] (fun r:List AD × Int × Int=>[(0,.rows 3 (List.map AA x1)),(3,.rows 3 (List.map AA r.1))]) (fun r:List AD × Int × Int=>.tup [.osl 3 0 (List.length r.1) 3,.agg [iv r.2.1,iv r.2.2]]) 5 (Cn x7) AB (fun r=>(pc (.inl ⟨rfl,rfl⟩) (pc (.inr (hL 0 (AM Ab _))) AB))) ?_
 rintro⟨x8,x9,x10⟩ hm1
 refine jG 2 6 ⟨[V 0 (bs a0),V 3 (.osl 0 0 (List.length x1) 3),V 5 (bs x7),V 6 (.osl 3 0 (List.length x8) 3),V 7 (pt 5 2)],[(0,.rows 3 (List.map AA x1)),(3,.rows 3 (List.map AA x8)),W 5 2 [iv x9,iv x10]],6⟩ ?_
 refine jN ?_
 refine jR ?_
 refine jG 0 11 ⟨[V 3 (.osl 0 0 (List.length x1) 3),V 6 (.osl 3 0 (List.length x8) 3),V 39 (bv ((decide ((List.length x7:Int)≤(List.length a0:Int))) && ((x9 == 0) && (x10 == 0))))],[(0,.rows 3 (List.map AA x1)),(3,.rows 3 (List.map AA x8))],6⟩ ?_
 refine Ak 11 4 (fun x12=>⟨[V 43 (bv x12)],[],0⟩) ?_ ?_
 ·refine jSp 39 ?_ ?_
  ·refine jG 0 2 ⟨[(39,.lit true),V 40 (.osl 0 0 (List.length x1) 3),V 41 (.osl 3 0 (List.length x8) 3)],[(0,.rows 3 (List.map AA x1)),(3,.rows 3 (List.map AA x8))],6⟩ ?_
   refine Bh (i:=2) rfl rfl rfl rfl (vs:=[.osl 0 0 (List.length x1) 3,.osl 3 0 (List.length x8) 3]) (by kernel_rfl) (AL (Dc DK (by kernel_rfl)) (AL (Dc DK (by kernel_rfl)) (Aw _))) (AJ (AE _) (AJ (AE _) Aj)) (T6 x1 x8) (fun _=>rfl) (fun _=>rfl) ?_
   intro x13 h13
   refine jG 3 1 ⟨[V 43 (bv x13)],[],6⟩ ?_
   refine AQ rfl ?_
   exact AK rfl (wkR [] (AH _) AB)
  refine jG 0 4 ⟨[V 43 (bv false)],[],6⟩ ?_
  refine AQ rfl ?_
  exact AK rfl (wkR [] (AH _) AB)
 intro x12
 refine jG 15 1 ⟨[V 44 (bv x12)],[],0⟩ ?_
 refine Ak 16 2 (fun x15=>⟨[V 46 (bv x15)],[],0⟩) ?_ ?_
 ·refine jSp 44 ?_ ?_
  ·refine jK 0 (PG) ?_
   intro x16 h16
   refine jG 1 1 ⟨[V 46 (bv x16)],[],0⟩ ?_
   refine AQ rfl ?_
   exact AK rfl (wkR [] (AH _) AB)
  refine jG 0 2 ⟨[V 46 (bv false)],[],0⟩ ?_
  refine AQ rfl ?_
  exact AK rfl (wkR [] (AH _) AB)
 intro x15
 refine jG 18 1 ⟨[V 2 (bv x15)],[],0⟩ ?_
 refine jN ?_
 refine AO ?_
 exact AP (.inr rfl) (v:=bv x15) (by kernel_rfl) rfl (AE _))
end Go.Vm

/- The law PyspecBoth, a part of its proof: what the functions that it reaches compute. -/
import Derived.Test.YtdenfejaedgehaaGreatDoorG0PyspecBoth
import Derived.Test.YtdenfejaedgehaaGreatDoorG2PyspecBoth
import Derived.Test.YtdenfejaedgehaaGreatDoorG1PyspecBoth
set_option linter.unusedVariables false
set_option linter.unusedSimpArgs false
set_option maxRecDepth 100000
set_option maxHeartbeats 0
set_option linter.unusedVariables false
set_option linter.unusedSimpArgs false
namespace Go.Vm
open Go
abbrev cJ:List LO:=[Ae 0 4]
abbrev cK:List LO:=[BA 1 #[62,61,49,46,48,44,32,33,61,49,46,53,46,42,44,32,60,50] 9]
abbrev cL:List LO:=[AO 9 6 #[.const (.string ⟨#[61,49]⟩)] #[9] 26,lm 8 9 26,Am 10 8 0 22,Am 11 8 1 25,A9 3 25 0,AC 2 10 22,AM 25 3 11 0]
abbrev cM:List LO:=[AO 13 6 #[.const (.string ⟨#[62,61,49,44,44,60,50]⟩)] #[9] 26,lm 12 13 26,Am 14 12 0 22,Am 15 12 1 25,A9 5 25 0,AC 4 14 22,AM 25 5 15 0]
abbrev cN:List LO:=[AO 17 6 #[.const (.string ⟨#[126,61,49]⟩)] #[9] 26,lm 16 17 26,Am 18 16 0 22,Am 19 16 1 25,A9 7 25 0,AC 6 18 22,AM 25 7 19 0]
abbrev cO:List LO:=[lm 20 1 9,AO 21 16 #[AE 20,.const (.string ⟨#[49,46,52]⟩)] #[9,9] 4,lm 22 21 4,lmg 23 1 9 22 true,AI 24 16 #[AE 23,.const (.string ⟨#[49,46,54,46,112,111,115,116,49]⟩)] #[9,9] 4 22 true,AQ 25 22 24 4,lm 26 25 4,lmg 27 1 9 26 true,AI 28 16 #[AE 27,.const (.string ⟨#[49,46,53,46,51]⟩)] #[9,9] 4 26 true,Ax 29 4 28 4 26 true,AQ 30 26 29 4,lm 31 30 4,lmg 32 1 9 31 true,AI 33 16 #[AE 32,.const (.string ⟨#[50,46,48,97,49]⟩)] #[9,9] 4 31 true,Ax 34 4 33 4 31 true,AQ 35 31 34 4,lm 36 35 4,lmg 37 1 9 36 true,AI 38 16 #[AE 37,.const (.string ⟨#[50,46,48]⟩)] #[9,9] 4 36 true,Ax 39 4 38 4 36 true,AQ 40 36 39 4,lm 41 40 4,AI 42 16 #[.const (.string ⟨#[126,61,49,46,52,46,50]⟩),.const (.string ⟨#[49,46,52,46,57]⟩)] #[9,9] 4 41 true,AQ 43 41 42 4,lm 44 43 4,AI 45 16 #[.const (.string ⟨#[126,61,49,46,52,46,50]⟩),.const (.string ⟨#[49,46,53]⟩)] #[9,9] 4 44 true,Ax 46 4 45 4 44 true,AQ 47 44 46 4,lm 48 47 4,AI 49 16 #[.const (.string ⟨#[61,61,49,46,49]⟩),.const (.string ⟨#[49,46,49,46,48,43,108,111,99,97,108]⟩)] #[9,9] 4 48 true,AQ 50 48 49 4,lm 51 50 4,AI 52 16 #[.const (.string ⟨#[62,49,46,55]⟩),.const (.string ⟨#[49,46,55,46,49]⟩)] #[9,9] 4 51 true,AQ 53 51 52 4,lm 54 53 4,AI 55 16 #[.const (.string ⟨#[62,49,46,55]⟩),.const (.string ⟨#[49,46,55,46,48,46,112,111,115,116,49]⟩)] #[9,9] 4 54 true,Ax 56 4 55 4 54 true,AQ 57 54 56 4,lm 58 57 4,AI 59 16 #[.const (.string ⟨#[62,61,50,46,48,97,49]⟩),.const (.string ⟨#[50,46,48,98,49]⟩)] #[9,9] 4 58 true,AQ 60 58 59 4,lm 61 60 4,Aa 62 25 3 25 61 true,lg 63 (.build 25 #[(0,.const (.int .i64 10)),(1,.const (.int .i64 1))]) 25 61 true,BT 64 25 62 63 25 4 61 true,AQ 65 61 64 4,lm 66 65 4,Aa 67 25 5 25 66 true,lg 68 (.build 25 #[(0,.const (.int .i64 10)),(1,.const (.int .i64 4))]) 25 66 true,BT 69 25 67 68 25 4 66 true,AQ 70 66 69 4,lm 71 70 4,Aa 72 25 7 25 71 true,lg 73 (.build 25 #[(0,.const (.int .i64 19)),(1,.const (.int .i64 2))]) 25 71 true,BT 74 25 72 73 25 4 71 true,AQ 75 71 74 4,AC 0 75 4]
abbrev hY:LC:=.seq (.reg false cJ) (.seq (.reg false cK) (.seq (.reg false cL) (.seq (.reg false cM) (.seq (.reg false cN) (.seq (.reg false cO) .ret)))))
theorem iA:Bf E 7 76 [.tmp 0] hY:=Bl Go.Proofs.Tryz.f7
noncomputable def GX:Option (Bool):=Option.bind (Cf [61,49]) (fun (x1,x2,x3)=>Option.bind (Cf [62,61,49,44,44,60,50]) (fun (x4,x5,x6)=>Option.bind (Cf [126,61,49]) (fun (x7,x8,x9)=>Option.bind (Bz [62,61,49,46,48,44,32,33,61,49,46,53,46,42,44,32,60,50] [49,46,52]) (fun x10=>Option.bind (if x10=true then Option.bind (Bz [62,61,49,46,48,44,32,33,61,49,46,53,46,42,44,32,60,50] [49,46,54,46,112,111,115,116,49]) (fun x13=>some x13) else some false:Option (Bool)) (fun x12=>Option.bind (if x12=true then Option.bind (Bz [62,61,49,46,48,44,32,33,61,49,46,53,46,42,44,32,60,50] [49,46,53,46,51]) (fun x16=>some (!x16)) else some false:Option (Bool)) (fun x15=>Option.bind (if x15=true then Option.bind (Bz [62,61,49,46,48,44,32,33,61,49,46,53,46,42,44,32,60,50] [50,46,48,97,49]) (fun x19=>some (!x19)) else some false:Option (Bool)) (fun x18=>Option.bind (if x18=true then Option.bind (Bz [62,61,49,46,48,44,32,33,61,49,46,53,46,42,44,32,60,50] [50,46,48]) (fun x22=>some (!x22)) else some false:Option (Bool)) (fun x21=>Option.bind (if x21=true then Option.bind (Bz [126,61,49,46,52,46,50] [49,46,52,46,57]) (fun x25=>some x25) else some false:Option (Bool)) (fun x24=>Option.bind (if x24=true then Option.bind (Bz [126,61,49,46,52,46,50] [49,46,53]) (fun x28=>some (!x28)) else some false:Option (Bool)) (fun x27=>Option.bind (if x27=true then Option.bind (Bz [61,61,49,46,49] [49,46,49,46,48,43,108,111,99,97,108]) (fun x31=>some x31) else some false:Option (Bool)) (fun x30=>Option.bind (if x30=true then Option.bind (Bz [62,49,46,55] [49,46,55,46,49]) (fun x34=>some x34) else some false:Option (Bool)) (fun x33=>Option.bind (if x33=true then Option.bind (Bz [62,49,46,55] [49,46,55,46,48,46,112,111,115,116,49]) (fun x37=>some (!x37)) else some false:Option (Bool)) (fun x36=>Option.bind (if x36=true then Option.bind (Bz [62,61,50,46,48,97,49] [50,46,48,98,49]) (fun x40=>some x40) else some false:Option (Bool)) (fun x39=>some (((x39 && ((x2 == 10) && (x3 == 1))) && ((x5 == 10) && (x6 == 4))) && ((x8 == 19) && (x9 == 2)))))))))))))))))
theorem Lv:Ct E 7 [] (GX) (fun r:Bool=>bv r):=CJ iA (by
 unfold GX
 refine jS ⟨[],[],0⟩ ?_
 refine jS ⟨[V 1 (bs [62,61,49,46,48,44,32,33,61,49,46,53,46,42,44,32,60,50])],[],0⟩ ?_
 refine jR ?_
 refine A8 0 [] [(0,some 0)] (fun r:List AJ × Int × Int=>[(0,.rows 3 (List.map AB r.1))]) (fun r:List AJ × Int × Int=>.tup [.osl 0 0 (List.length r.1) 3,.agg [iv r.2.1,iv r.2.2]]) 2 (C5 [61,49]) AD (fun r=>(pc (.inr (hL 0 (AP Ah _))) AD)) ?_
 rintro⟨x1,x2,x3⟩ hm3
 refine jG 1 6 ⟨[V 1 (bs [62,61,49,46,48,44,32,33,61,49,46,53,46,42,44,32,60,50]),V 3 (pt 2 2)],[W 2 2 [iv x2,iv x3]],3⟩ ?_
 refine jN (jR ?_)
 refine A8 0 [] [(3,some 0)] (fun r:List AJ × Int × Int=>[W 2 2 [iv x2,iv x3],(3,.rows 3 (List.map AB r.1))]) (fun r:List AJ × Int × Int=>.tup [.osl 3 0 (List.length r.1) 3,.agg [iv r.2.1,iv r.2.2]]) 5 (C5 [62,61,49,44,44,60,50]) AD (fun r=>(pc (.inl ⟨rfl,rfl⟩) (pc (.inr (hL 0 (AP Ah _))) AD))) ?_
 rintro⟨x4,x5,x6⟩ hm2
 refine jG 1 6 ⟨[V 1 (bs [62,61,49,46,48,44,32,33,61,49,46,53,46,42,44,32,60,50]),V 3 (pt 2 2),V 5 (pt 5 2)],[W 2 2 [iv x2,iv x3],W 5 2 [iv x5,iv x6]],6⟩ ?_
 refine jN (jR ?_)
 refine A8 0 [] [(6,some 0)] (fun r:List AJ × Int × Int=>[W 2 2 [iv x2,iv x3],W 5 2 [iv x5,iv x6],(6,.rows 3 (List.map AB r.1))]) (fun r:List AJ × Int × Int=>.tup [.osl 6 0 (List.length r.1) 3,.agg [iv r.2.1,iv r.2.2]]) 8 (C5 [126,61,49]) AD (fun r=>(pc (.inl ⟨rfl,rfl⟩) (pc (.inl ⟨rfl,rfl⟩) (pc (.inr (hL 0 (AP Ah _))) AD)))) ?_
 rintro⟨x7,x8,x9⟩ hm1
 refine jG 1 6 ⟨[V 1 (bs [62,61,49,46,48,44,32,33,61,49,46,53,46,42,44,32,60,50]),V 3 (pt 2 2),V 5 (pt 5 2),V 7 (pt 8 2)],[W 2 2 [iv x2,iv x3],W 5 2 [iv x5,iv x6],W 8 2 [iv x8,iv x9]],9⟩ ?_
 refine jN (jR (jG 0 1 ⟨[V 1 (bs [62,61,49,46,48,44,32,33,61,49,46,53,46,42,44,32,60,50]),V 3 (pt 2 2),V 5 (pt 5 2),V 7 (pt 8 2),V 20 (bs [62,61,49,46,48,44,32,33,61,49,46,53,46,42,44,32,60,50])],[W 2 2 [iv x2,iv x3],W 5 2 [iv x5,iv x6],W 8 2 [iv x8,iv x9]],9⟩ ?_))
 refine jK 1 (Bv [62,61,49,46,48,44,32,33,61,49,46,53,46,42,44,32,60,50] [49,46,52]) ?_
 intro x10 h10
 refine jG 2 1 ⟨[V 1 (bs [62,61,49,46,48,44,32,33,61,49,46,53,46,42,44,32,60,50]),V 3 (pt 2 2),V 5 (pt 5 2),V 7 (pt 8 2),V 22 (bv x10)],[W 2 2 [iv x2,iv x3],W 5 2 [iv x5,iv x6],W 8 2 [iv x8,iv x9]],9⟩ ?_
 refine A5 3 3 (fun x12=>⟨[V 1 (bs [62,61,49,46,48,44,32,33,61,49,46,53,46,42,44,32,60,50]),V 3 (pt 0 2),V 5 (pt 1 2),V 7 (pt 2 2),V 25 (bv x12)],[W 0 2 [iv x2,iv x3],W 1 2 [iv x5,iv x6],W 2 2 [iv x8,iv x9]],3⟩) ?_ ?_
 ·refine jSp 22 ?_ ?_
  ·refine jG 0 1 ⟨[V 1 (bs [62,61,49,46,48,44,32,33,61,49,46,53,46,42,44,32,60,50]),V 3 (pt 2 2),V 5 (pt 5 2),V 7 (pt 8 2),(22,.lit true),V 23 (bs [62,61,49,46,48,44,32,33,61,49,46,53,46,42,44,32,60,50])],[W 2 2 [iv x2,iv x3],W 5 2 [iv x5,iv x6],W 8 2 [iv x8,iv x9]],9⟩ ?_
   refine jK 1 (Bv [62,61,49,46,48,44,32,33,61,49,46,53,46,42,44,32,60,50] [49,46,54,46,112,111,115,116,49]) ?_
   intro x13 h13
   refine jG 2 1 ⟨[V 1 (bs [62,61,49,46,48,44,32,33,61,49,46,53,46,42,44,32,60,50]),V 3 (pt 2 2),V 5 (pt 5 2),V 7 (pt 8 2),V 25 (bv x13)],[W 2 2 [iv x2,iv x3],W 5 2 [iv x5,iv x6],W 8 2 [iv x8,iv x9]],9⟩ ?_
   exact Ad rfl (AT rfl (wkR [(0,some 2),(1,some 5),(2,some 8)] (Ao _) (pc (hC 2) (pc (hC 5) (pc (hC 8) AD)))))
  refine jG 0 3 ⟨[V 1 (bs [62,61,49,46,48,44,32,33,61,49,46,53,46,42,44,32,60,50]),V 3 (pt 2 2),V 5 (pt 5 2),V 7 (pt 8 2),V 25 (bv false)],[W 2 2 [iv x2,iv x3],W 5 2 [iv x5,iv x6],W 8 2 [iv x8,iv x9]],9⟩ ?_
  exact Ad rfl (AT rfl (wkR [(0,some 2),(1,some 5),(2,some 8)] (Ao _) (pc (hC 2) (pc (hC 5) (pc (hC 8) AD)))))
 intro x12
 refine jG 6 1 ⟨[V 1 (bs [62,61,49,46,48,44,32,33,61,49,46,53,46,42,44,32,60,50]),V 3 (pt 0 2),V 5 (pt 1 2),V 7 (pt 2 2),V 26 (bv x12)],[W 0 2 [iv x2,iv x3],W 1 2 [iv x5,iv x6],W 2 2 [iv x8,iv x9]],3⟩ ?_
 refine A5 7 4 (fun x15=>⟨[V 1 (bs [62,61,49,46,48,44,32,33,61,49,46,53,46,42,44,32,60,50]),V 3 (pt 0 2),V 5 (pt 1 2),V 7 (pt 2 2),V 30 (bv x15)],[W 0 2 [iv x2,iv x3],W 1 2 [iv x5,iv x6],W 2 2 [iv x8,iv x9]],3⟩) ?_ ?_
 ·refine jSp 26 ?_ ?_
  ·refine jG 0 1 ⟨[V 1 (bs [62,61,49,46,48,44,32,33,61,49,46,53,46,42,44,32,60,50]),V 3 (pt 0 2),V 5 (pt 1 2),V 7 (pt 2 2),(26,.lit true),V 27 (bs [62,61,49,46,48,44,32,33,61,49,46,53,46,42,44,32,60,50])],[W 0 2 [iv x2,iv x3],W 1 2 [iv x5,iv x6],W 2 2 [iv x8,iv x9]],3⟩ ?_
   refine jK 1 (Bv [62,61,49,46,48,44,32,33,61,49,46,53,46,42,44,32,60,50] [49,46,53,46,51]) ?_
   intro x16 h16
   refine jG 2 2 ⟨[V 1 (bs [62,61,49,46,48,44,32,33,61,49,46,53,46,42,44,32,60,50]),V 3 (pt 0 2),V 5 (pt 1 2),V 7 (pt 2 2),V 30 (bv (!x16))],[W 0 2 [iv x2,iv x3],W 1 2 [iv x5,iv x6],W 2 2 [iv x8,iv x9]],3⟩ ?_
   exact Ad rfl (AT rfl (wkR [(0,some 0),(1,some 1),(2,some 2)] (Ao _) (pc (hC 0) (pc (hC 1) (pc (hC 2) AD)))))
  refine jG 0 4 ⟨[V 1 (bs [62,61,49,46,48,44,32,33,61,49,46,53,46,42,44,32,60,50]),V 3 (pt 0 2),V 5 (pt 1 2),V 7 (pt 2 2),V 30 (bv false)],[W 0 2 [iv x2,iv x3],W 1 2 [iv x5,iv x6],W 2 2 [iv x8,iv x9]],3⟩ ?_
  exact Ad rfl (AT rfl (wkR [(0,some 0),(1,some 1),(2,some 2)] (Ao _) (pc (hC 0) (pc (hC 1) (pc (hC 2) AD)))))
 intro x15
 refine jG 11 1 ⟨[V 1 (bs [62,61,49,46,48,44,32,33,61,49,46,53,46,42,44,32,60,50]),V 3 (pt 0 2),V 5 (pt 1 2),V 7 (pt 2 2),V 31 (bv x15)],[W 0 2 [iv x2,iv x3],W 1 2 [iv x5,iv x6],W 2 2 [iv x8,iv x9]],3⟩ ?_
 refine A5 12 4 (fun x18=>⟨[V 1 (bs [62,61,49,46,48,44,32,33,61,49,46,53,46,42,44,32,60,50]),V 3 (pt 0 2),V 5 (pt 1 2),V 7 (pt 2 2),V 35 (bv x18)],[W 0 2 [iv x2,iv x3],W 1 2 [iv x5,iv x6],W 2 2 [iv x8,iv x9]],3⟩) ?_ ?_
 ·refine jSp 31 ?_ ?_
  ·refine jG 0 1 ⟨[V 1 (bs [62,61,49,46,48,44,32,33,61,49,46,53,46,42,44,32,60,50]),V 3 (pt 0 2),V 5 (pt 1 2),V 7 (pt 2 2),(31,.lit true),V 32 (bs [62,61,49,46,48,44,32,33,61,49,46,53,46,42,44,32,60,50])],[W 0 2 [iv x2,iv x3],W 1 2 [iv x5,iv x6],W 2 2 [iv x8,iv x9]],3⟩ ?_
   refine jK 1 (Bv [62,61,49,46,48,44,32,33,61,49,46,53,46,42,44,32,60,50] [50,46,48,97,49]) ?_
   intro x19 h19
   refine jG 2 2 ⟨[V 1 (bs [62,61,49,46,48,44,32,33,61,49,46,53,46,42,44,32,60,50]),V 3 (pt 0 2),V 5 (pt 1 2),V 7 (pt 2 2),V 35 (bv (!x19))],[W 0 2 [iv x2,iv x3],W 1 2 [iv x5,iv x6],W 2 2 [iv x8,iv x9]],3⟩ ?_
   exact Ad rfl (AT rfl (wkR [(0,some 0),(1,some 1),(2,some 2)] (Ao _) (pc (hC 0) (pc (hC 1) (pc (hC 2) AD)))))
  refine jG 0 4 ⟨[V 1 (bs [62,61,49,46,48,44,32,33,61,49,46,53,46,42,44,32,60,50]),V 3 (pt 0 2),V 5 (pt 1 2),V 7 (pt 2 2),V 35 (bv false)],[W 0 2 [iv x2,iv x3],W 1 2 [iv x5,iv x6],W 2 2 [iv x8,iv x9]],3⟩ ?_
  exact Ad rfl (AT rfl (wkR [(0,some 0),(1,some 1),(2,some 2)] (Ao _) (pc (hC 0) (pc (hC 1) (pc (hC 2) AD)))))
 intro x18
 refine jG 16 1 ⟨[V 1 (bs [62,61,49,46,48,44,32,33,61,49,46,53,46,42,44,32,60,50]),V 3 (pt 0 2),V 5 (pt 1 2),V 7 (pt 2 2),V 36 (bv x18)],[W 0 2 [iv x2,iv x3],W 1 2 [iv x5,iv x6],W 2 2 [iv x8,iv x9]],3⟩ ?_
 refine A5 17 4 (fun x21=>⟨[V 3 (pt 0 2),V 5 (pt 1 2),V 7 (pt 2 2),V 40 (bv x21)],[W 0 2 [iv x2,iv x3],W 1 2 [iv x5,iv x6],W 2 2 [iv x8,iv x9]],3⟩) ?_ ?_
 ·refine jSp 36 ?_ ?_
  ·refine jG 0 1 ⟨[V 3 (pt 0 2),V 5 (pt 1 2),V 7 (pt 2 2),(36,.lit true),V 37 (bs [62,61,49,46,48,44,32,33,61,49,46,53,46,42,44,32,60,50])],[W 0 2 [iv x2,iv x3],W 1 2 [iv x5,iv x6],W 2 2 [iv x8,iv x9]],3⟩ ?_
   refine jK 1 (Bv [62,61,49,46,48,44,32,33,61,49,46,53,46,42,44,32,60,50] [50,46,48]) ?_
   intro x22 h22
   refine jG 2 2 ⟨[V 3 (pt 0 2),V 5 (pt 1 2),V 7 (pt 2 2),V 40 (bv (!x22))],[W 0 2 [iv x2,iv x3],W 1 2 [iv x5,iv x6],W 2 2 [iv x8,iv x9]],3⟩ ?_
   exact Ad rfl (AT rfl (wkR [(0,some 0),(1,some 1),(2,some 2)] (Ao _) (pc (hC 0) (pc (hC 1) (pc (hC 2) AD)))))
  refine jG 0 4 ⟨[V 3 (pt 0 2),V 5 (pt 1 2),V 7 (pt 2 2),V 40 (bv false)],[W 0 2 [iv x2,iv x3],W 1 2 [iv x5,iv x6],W 2 2 [iv x8,iv x9]],3⟩ ?_
  exact Ad rfl (AT rfl (wkR [(0,some 0),(1,some 1),(2,some 2)] (Ao _) (pc (hC 0) (pc (hC 1) (pc (hC 2) AD)))))
 intro x21
 refine jG 21 1 ⟨[V 3 (pt 0 2),V 5 (pt 1 2),V 7 (pt 2 2),V 41 (bv x21)],[W 0 2 [iv x2,iv x3],W 1 2 [iv x5,iv x6],W 2 2 [iv x8,iv x9]],3⟩ ?_
 refine A5 22 2 (fun x24=>⟨[V 3 (pt 0 2),V 5 (pt 1 2),V 7 (pt 2 2),V 43 (bv x24)],[W 0 2 [iv x2,iv x3],W 1 2 [iv x5,iv x6],W 2 2 [iv x8,iv x9]],3⟩) ?_ ?_
 ·refine jSp 41 ?_ ?_
  ·refine jK 0 (Bv [126,61,49,46,52,46,50] [49,46,52,46,57]) ?_
   intro x25 h25
   refine jG 1 1 ⟨[V 3 (pt 0 2),V 5 (pt 1 2),V 7 (pt 2 2),V 43 (bv x25)],[W 0 2 [iv x2,iv x3],W 1 2 [iv x5,iv x6],W 2 2 [iv x8,iv x9]],3⟩ ?_
   exact Ad rfl (AT rfl (wkR [(0,some 0),(1,some 1),(2,some 2)] (Ao _) (pc (hC 0) (pc (hC 1) (pc (hC 2) AD)))))
  refine jG 0 2 ⟨[V 3 (pt 0 2),V 5 (pt 1 2),V 7 (pt 2 2),V 43 (bv false)],[W 0 2 [iv x2,iv x3],W 1 2 [iv x5,iv x6],W 2 2 [iv x8,iv x9]],3⟩ ?_
  exact Ad rfl (AT rfl (wkR [(0,some 0),(1,some 1),(2,some 2)] (Ao _) (pc (hC 0) (pc (hC 1) (pc (hC 2) AD)))))
 intro x24
 refine jG 24 1 ⟨[V 3 (pt 0 2),V 5 (pt 1 2),V 7 (pt 2 2),V 44 (bv x24)],[W 0 2 [iv x2,iv x3],W 1 2 [iv x5,iv x6],W 2 2 [iv x8,iv x9]],3⟩ ?_
 refine A5 25 3 (fun x27=>⟨[V 3 (pt 0 2),V 5 (pt 1 2),V 7 (pt 2 2),V 47 (bv x27)],[W 0 2 [iv x2,iv x3],W 1 2 [iv x5,iv x6],W 2 2 [iv x8,iv x9]],3⟩) ?_ ?_
 ·refine jSp 44 ?_ ?_
  ·refine jK 0 (Bv [126,61,49,46,52,46,50] [49,46,53]) ?_
   intro x28 h28
   refine jG 1 2 ⟨[V 3 (pt 0 2),V 5 (pt 1 2),V 7 (pt 2 2),V 47 (bv (!x28))],[W 0 2 [iv x2,iv x3],W 1 2 [iv x5,iv x6],W 2 2 [iv x8,iv x9]],3⟩ ?_
   exact Ad rfl (AT rfl (wkR [(0,some 0),(1,some 1),(2,some 2)] (Ao _) (pc (hC 0) (pc (hC 1) (pc (hC 2) AD)))))
  refine jG 0 3 ⟨[V 3 (pt 0 2),V 5 (pt 1 2),V 7 (pt 2 2),V 47 (bv false)],[W 0 2 [iv x2,iv x3],W 1 2 [iv x5,iv x6],W 2 2 [iv x8,iv x9]],3⟩ ?_
  exact Ad rfl (AT rfl (wkR [(0,some 0),(1,some 1),(2,some 2)] (Ao _) (pc (hC 0) (pc (hC 1) (pc (hC 2) AD)))))
 intro x27
 refine jG 28 1 ⟨[V 3 (pt 0 2),V 5 (pt 1 2),V 7 (pt 2 2),V 48 (bv x27)],[W 0 2 [iv x2,iv x3],W 1 2 [iv x5,iv x6],W 2 2 [iv x8,iv x9]],3⟩ ?_
 refine A5 29 2 (fun x30=>⟨[V 3 (pt 0 2),V 5 (pt 1 2),V 7 (pt 2 2),V 50 (bv x30)],[W 0 2 [iv x2,iv x3],W 1 2 [iv x5,iv x6],W 2 2 [iv x8,iv x9]],3⟩) ?_ ?_
 ·refine jSp 48 ?_ ?_
  ·refine jK 0 (Bv [61,61,49,46,49] [49,46,49,46,48,43,108,111,99,97,108]) ?_
   intro x31 h31
   refine jG 1 1 ⟨[V 3 (pt 0 2),V 5 (pt 1 2),V 7 (pt 2 2),V 50 (bv x31)],[W 0 2 [iv x2,iv x3],W 1 2 [iv x5,iv x6],W 2 2 [iv x8,iv x9]],3⟩ ?_
   exact Ad rfl (AT rfl (wkR [(0,some 0),(1,some 1),(2,some 2)] (Ao _) (pc (hC 0) (pc (hC 1) (pc (hC 2) AD)))))
  refine jG 0 2 ⟨[V 3 (pt 0 2),V 5 (pt 1 2),V 7 (pt 2 2),V 50 (bv false)],[W 0 2 [iv x2,iv x3],W 1 2 [iv x5,iv x6],W 2 2 [iv x8,iv x9]],3⟩ ?_
  exact Ad rfl (AT rfl (wkR [(0,some 0),(1,some 1),(2,some 2)] (Ao _) (pc (hC 0) (pc (hC 1) (pc (hC 2) AD)))))
 intro x30
 refine jG 31 1 ⟨[V 3 (pt 0 2),V 5 (pt 1 2),V 7 (pt 2 2),V 51 (bv x30)],[W 0 2 [iv x2,iv x3],W 1 2 [iv x5,iv x6],W 2 2 [iv x8,iv x9]],3⟩ ?_
 refine A5 32 2 (fun x33=>⟨[V 3 (pt 0 2),V 5 (pt 1 2),V 7 (pt 2 2),V 53 (bv x33)],[W 0 2 [iv x2,iv x3],W 1 2 [iv x5,iv x6],W 2 2 [iv x8,iv x9]],3⟩) ?_ ?_
 ·refine jSp 51 ?_ ?_
  ·refine jK 0 (Bv [62,49,46,55] [49,46,55,46,49]) ?_
   intro x34 h34
   refine jG 1 1 ⟨[V 3 (pt 0 2),V 5 (pt 1 2),V 7 (pt 2 2),V 53 (bv x34)],[W 0 2 [iv x2,iv x3],W 1 2 [iv x5,iv x6],W 2 2 [iv x8,iv x9]],3⟩ ?_
   exact Ad rfl (AT rfl (wkR [(0,some 0),(1,some 1),(2,some 2)] (Ao _) (pc (hC 0) (pc (hC 1) (pc (hC 2) AD)))))
  refine jG 0 2 ⟨[V 3 (pt 0 2),V 5 (pt 1 2),V 7 (pt 2 2),V 53 (bv false)],[W 0 2 [iv x2,iv x3],W 1 2 [iv x5,iv x6],W 2 2 [iv x8,iv x9]],3⟩ ?_
  exact Ad rfl (AT rfl (wkR [(0,some 0),(1,some 1),(2,some 2)] (Ao _) (pc (hC 0) (pc (hC 1) (pc (hC 2) AD)))))
 intro x33
 refine jG 34 1 ⟨[V 3 (pt 0 2),V 5 (pt 1 2),V 7 (pt 2 2),V 54 (bv x33)],[W 0 2 [iv x2,iv x3],W 1 2 [iv x5,iv x6],W 2 2 [iv x8,iv x9]],3⟩ ?_
 refine A5 35 3 (fun x36=>⟨[V 3 (pt 0 2),V 5 (pt 1 2),V 7 (pt 2 2),V 57 (bv x36)],[W 0 2 [iv x2,iv x3],W 1 2 [iv x5,iv x6],W 2 2 [iv x8,iv x9]],3⟩) ?_ ?_
 ·refine jSp 54 ?_ ?_
  ·refine jK 0 (Bv [62,49,46,55] [49,46,55,46,48,46,112,111,115,116,49]) ?_
   intro x37 h37
   refine jG 1 2 ⟨[V 3 (pt 0 2),V 5 (pt 1 2),V 7 (pt 2 2),V 57 (bv (!x37))],[W 0 2 [iv x2,iv x3],W 1 2 [iv x5,iv x6],W 2 2 [iv x8,iv x9]],3⟩ ?_
   exact Ad rfl (AT rfl (wkR [(0,some 0),(1,some 1),(2,some 2)] (Ao _) (pc (hC 0) (pc (hC 1) (pc (hC 2) AD)))))
  refine jG 0 3 ⟨[V 3 (pt 0 2),V 5 (pt 1 2),V 7 (pt 2 2),V 57 (bv false)],[W 0 2 [iv x2,iv x3],W 1 2 [iv x5,iv x6],W 2 2 [iv x8,iv x9]],3⟩ ?_
  exact Ad rfl (AT rfl (wkR [(0,some 0),(1,some 1),(2,some 2)] (Ao _) (pc (hC 0) (pc (hC 1) (pc (hC 2) AD)))))
 intro x36
 refine jG 38 1 ⟨[V 3 (pt 0 2),V 5 (pt 1 2),V 7 (pt 2 2),V 58 (bv x36)],[W 0 2 [iv x2,iv x3],W 1 2 [iv x5,iv x6],W 2 2 [iv x8,iv x9]],3⟩ ?_
 refine A5 39 2 (fun x39=>⟨[V 3 (pt 0 2),V 5 (pt 1 2),V 7 (pt 2 2),V 60 (bv x39)],[W 0 2 [iv x2,iv x3],W 1 2 [iv x5,iv x6],W 2 2 [iv x8,iv x9]],3⟩) ?_ ?_
 ·refine jSp 58 ?_ ?_
  ·refine jK 0 (Bv [62,61,50,46,48,97,49] [50,46,48,98,49]) ?_
   intro x40 h40
   refine jG 1 1 ⟨[V 3 (pt 0 2),V 5 (pt 1 2),V 7 (pt 2 2),V 60 (bv x40)],[W 0 2 [iv x2,iv x3],W 1 2 [iv x5,iv x6],W 2 2 [iv x8,iv x9]],3⟩ ?_
   exact Ad rfl (AT rfl (wkR [(0,some 0),(1,some 1),(2,some 2)] (Ao _) (pc (hC 0) (pc (hC 1) (pc (hC 2) AD)))))
  refine jG 0 2 ⟨[V 3 (pt 0 2),V 5 (pt 1 2),V 7 (pt 2 2),V 60 (bv false)],[W 0 2 [iv x2,iv x3],W 1 2 [iv x5,iv x6],W 2 2 [iv x8,iv x9]],3⟩ ?_
  exact Ad rfl (AT rfl (wkR [(0,some 0),(1,some 1),(2,some 2)] (Ao _) (pc (hC 0) (pc (hC 1) (pc (hC 2) AD)))))
 intro x39
 refine jG 41 16 ⟨[V 0 (bv (((x39 && ((x2 == 10) && (x3 == 1))) && ((x5 == 10) && (x6 == 4))) && ((x8 == 19) && (x9 == 2))))],[],3⟩ ?_
 exact jN (Af (BL (bv (((x39 && ((x2 == 10) && (x3 == 1))) && ((x5 == 10) && (x6 == 4))) && ((x8 == 19) && (x9 == 2)))))))
abbrev cQ:List LO:=[Ae 2 4]
abbrev cR:List LO:=[lm 6 0 9,AO 7 10 #[AE 6] #[9] 35,lm 5 7 35,Am 8 5 0 34,Am 9 5 1 25,A9 3 34 0,A9 4 25 0,AM 34 3 8 0,AM 25 4 9 0]
abbrev cU:List LO:=[AA 10 25 4 0 0,AF 11 23 10 23,Ar 12 23 11 0 23 4,AC 2 12 4]
abbrev iB:LC:=.seq (.reg false cQ) (.seq (.reg false cR) (.seq (.reg false cU) .ret))
theorem iC:Bf E 13 13 [.tmp 2] iB:=Bl Go.Proofs.Tryz.f13
noncomputable def Mq (a0:Str):Option (Bool):=Option.bind (Ge a0) (fun x1=>some (x1.2.Err == 0))
theorem cP (a0:Str):Ct E 13 [bs a0] (Mq a0) (fun r:Bool=>bv r):=CJ iC (by
 unfold Mq
 refine jS ⟨[V 0 (bs a0)],[],0⟩ ?_
 refine jR (jG 0 1 ⟨[V 6 (bs a0)],[],0⟩ ?_)
 refine jK 1 (MA a0) ?_
 intro x1 h1
 refine jG 2 7 ⟨[V 4 (pt 1 2)],[W 1 2 [iv x1.2.Err,iv x1.2.At]],2⟩ ?_
 refine jN (jS ⟨[V 2 (bv (x1.2.Err == 0))],[],2⟩ ?_)
 exact Af (BL (bv (x1.2.Err == 0))))
abbrev ZT:List LO:=[Ae 2 4]
abbrev ZU:List LO:=[lm 6 0 9,AO 7 6 #[AE 6] #[9] 26,lm 5 7 26,Am 8 5 0 22,Am 9 5 1 25,A9 4 25 0,AC 3 8 22,AM 25 4 9 0]
abbrev ZV:List LO:=[AA 10 25 4 0 0,AF 11 23 10 23,Ar 12 23 11 0 23 4,AC 2 12 4]
abbrev d9:LC:=.seq (.reg false ZT) (.seq (.reg false ZU) (.seq (.reg false ZV) .ret))
theorem eA:Bf E 14 13 [.tmp 2] d9:=Bl Go.Proofs.Tryz.f14
noncomputable def LQ (a0:Str):Option (Bool):=Option.bind (Cf a0) (fun (x1,x2,x3)=>some (x2 == 0))
theorem ZS (a0:Str):Ct E 14 [bs a0] (LQ a0) (fun r:Bool=>bv r):=CJ eA (by
 unfold LQ
 refine jS ⟨[V 0 (bs a0)],[],0⟩ ?_
 refine jR (jG 0 1 ⟨[V 6 (bs a0)],[],0⟩ ?_)
 refine A8 1 [] [(0,some 0)] (fun r:List AJ × Int × Int=>[(0,.rows 3 (List.map AB r.1))]) (fun r:List AJ × Int × Int=>.tup [.osl 0 0 (List.length r.1) 3,.agg [iv r.2.1,iv r.2.2]]) 2 (C5 a0) AD (fun r=>(pc (.inr (hL 0 (AP Ah _))) AD)) ?_
 rintro⟨x1,x2,x3⟩ hm1
 refine jG 2 6 ⟨[V 4 (pt 2 2)],[W 2 2 [iv x2,iv x3]],3⟩ ?_
 refine jN (jS ⟨[V 2 (bv (x2 == 0))],[],3⟩ ?_)
 exact Af (BL (bv (x2 == 0))))
abbrev rX:List LO:=[BW 1 34 0 0,Ae 2 4]
abbrev rY:List LO:=[AA 3 34 1 2 0,AF 4 5 3 5,lo 5 (.binOp .neq 5 (AE 4) (.const (.int .u8 0)) 5) 4,lm 6 5 4,AL 7 34 1 6 0 6 false,Aa 8 4 7 4 6 false,Al 9 6 8 4,AC 2 9 4]
abbrev wN:LC:=.seq (.reg false rX) (.seq (.reg false rY) .ret)
theorem wO:Bf E 15 10 [.tmp 2] wN:=Bl Go.Proofs.Tryz.f15
noncomputable def TD (a0:Ac):Option (Bool):=some ((a0.Pre != 0) || a0.Dev)
theorem rW (a0:Ac):Ct E 15 [.agg (AK a0)] (TD a0) (fun r:Bool=>bv r):=CJ wO (by
 unfold TD
 refine jS ⟨[V 1 (pt 0 9)],[W 0 9 (AK a0)],1⟩ ?_
 refine jS ⟨[V 2 (bv ((a0.Pre != 0) || a0.Dev))],[],1⟩ ?_
 exact Af (BL (bv ((a0.Pre != 0) || a0.Dev))))
abbrev TW:List LO:=[Ae 8 4]
abbrev TX:List LO:=[lm 22 0 9,AO 23 6 #[AE 22] #[9] 26,lm 21 23 26,Am 24 21 0 22,Am 25 21 1 25,A9 10 25 0,AC 9 24 22,AM 25 10 25 0]
abbrev TY:List LO:=[lm 27 1 9,AO 28 6 #[AE 27] #[9] 26,lm 26 28 26,Am 29 26 0 22,Am 30 26 1 25,A9 12 25 0,AC 11 29 22,AM 25 12 30 0]
abbrev TZ:List LO:=[lm 32 2 9,AO 33 10 #[AE 32] #[9] 35,lm 31 33 35,Am 34 31 0 34,Am 35 31 1 25,A9 13 34 0,A9 14 25 0,AM 34 13 34 0,AM 25 14 35 0]
abbrev Ta:List LO:=[AA 36 25 14 0 0,AF 37 23 36 23,Ar 38 23 37 0 23 4]
abbrev Tb:List LO:=[lo 39 (.buildSlice 41 2 #[(0,.const (.bool false)),(1,.const (.bool true))]) 41,Ak 40 #[AE 39] #[41] 3,B7 41 0 3]
abbrev Tc:List LO:=[An 42 3 41 40 3 0]
abbrev Td:List LO:=[A7 43 41 39 41 0,AF 44 4 43 4,AC 16 44 4]
abbrev Te:List LO:=[lm 45 3 9,lm 46 16 4,lo 47 (.build 39 #[(0,.const (.string ⟨#[61,61]⟩)),(1,AE 45),(2,AE 46)]) 39,lm 48 2 9,AO 49 12 #[AE 47,AE 48] #[39,9] 4,lm 50 49 4,lmg 51 3 9 50 true,lmg 52 16 4 50 true,lg 53 (.build 39 #[(0,.const (.string ⟨#[33,61]⟩)),(1,AE 51),(2,AE 52)]) 39 50 true,lmg 54 2 9 50 true,AI 55 12 #[AE 53,AE 54] #[39,9] 4 50 true,AQ 56 50 55 4]
abbrev RO:List LO:=[Ae 8 4]
abbrev RP:List LO:=[lm 58 3 9,lo 59 (.binOp .add 9 (.const (.string ⟨#[61,61]⟩)) (AE 58) 9) 9,AO 60 6 #[AE 59] #[9] 26,lm 57 60 26,Am 61 57 0 22,Am 62 57 1 25,A9 18 25 0,AC 17 61 22,AM 25 18 62 0]
abbrev RQ:List LO:=[AA 63 25 18 0 0,AF 64 23 63 23,Ar 65 23 64 0 23 4,lm 66 65 4,lmg 67 16 4 66 true,Ax 68 4 67 4 66 true,AQ 69 66 68 4,lm 70 69 4,lmg 71 3 9 70 true,AI 72 13 #[AE 71] #[9] 4 70 true,AQ 73 70 72 4,lm 74 73 4,lmg 75 3 9 74 true,lg 76 (.build 39 #[(0,.const (.string ⟨#[61,61]⟩)),(1,AE 75)]) 39 74 true,lmg 77 2 9 74 true,AI 78 12 #[AE 76,AE 77] #[39,9] 4 74 true,lmg 79 3 9 74 true,lg 80 (.build 39 #[(0,.const (.string ⟨#[33,61]⟩)),(1,AE 79)]) 39 74 true,lmg 81 2 9 74 true,AI 82 12 #[AE 80,AE 81] #[39,9] 4 74 true,BT 83 4 78 82 4 4 74 true,AQ 84 74 83 4]
abbrev RR:List LO:=[Ae 8 4]
abbrev RS:List LO:=[Ag 85 3 41 1 3 3,lm 41 85 3]
abbrev RT:List LO:=[AA 86 25 10 0 0,AF 87 23 86 23,BM 88 23 87 0 23 4,lm 89 88 4,AL 90 25 12 0 0 89 false,Aa 91 23 90 23 89 false,lg 92 (.binOp .neq 23 (AE 91) (.const (.int .i64 0)) 23) 4 89 false,Al 93 89 92 4,lm 94 93 4,lmg 95 9 22 94 false,BE 96 #[AE 95] #[22] 3 94 false,DJ 97 3 96 0 3 4 94 false,Al 98 94 97 4,lm 99 98 4,lmg 100 11 22 99 false,BE 101 #[AE 100] #[22] 3 99 false,DJ 102 3 101 0 3 4 99 false,Al 103 99 102 4,lm 104 103 4,lmg 105 0 9 104 false,lg 106 (.binOp .add 9 (AE 105) (.const (.string ⟨#[44]⟩)) 9) 9 104 false,lmg 107 1 9 104 false,lg 108 (.binOp .add 9 (AE 106) (AE 107) 9) 9 104 false,AI 109 14 #[AE 108] #[9] 4 104 false,Ax 110 4 109 4 104 false,Al 111 104 110 4]
abbrev RU:List LO:=[AO 112 7 #[] #[] 4,AC 8 112 4]
abbrev RV:List LO:=[lm 114 2 9,AO 115 10 #[AE 114] #[9] 35,lm 113 115 35,Am 116 113 0 34,Am 117 113 1 25,A9 19 34 0,A9 20 25 0,AM 34 19 116 0,AM 25 20 117 0]
abbrev RW:List LO:=[AA 118 25 14 0 0,AF 119 23 118 23,Ar 120 23 119 0 23 4,lm 121 120 4,Aa 122 34 19 34 121 true,AI 123 15 #[AE 122] #[34] 4 121 true,AQ 124 121 123 4]
abbrev RX:List LO:=[AO 125 7 #[] #[] 4,AC 8 125 4]
abbrev RY:List LO:=[lm 126 0 9,lo 127 (.binOp .add 9 (AE 126) (.const (.string ⟨#[44]⟩)) 9) 9,lm 128 1 9,Ba 129 9 127 128 9 9,lm 130 2 9,AO 131 16 #[AE 129,AE 130] #[9,9] 4,lm 132 0 9,lm 133 2 9,AO 134 16 #[AE 132,AE 133] #[9,9] 4,lm 135 134 4,lmg 136 1 9 135 true,lmg 137 2 9 135 true,AI 138 16 #[AE 136,AE 137] #[9,9] 4 135 true,AQ 139 135 138 4,CU 140 4 131 139 4 4,lm 141 140 4,AI 142 7 #[] #[] 4 141 true,AQ 143 141 142 4,AC 8 143 4]
abbrev Un:LC:=.seq (.reg false TW) (.seq (.reg false TX) (.seq (.reg false TY) (.seq (.reg false TZ) (.seq (.seq (.reg false Ta) (.cond (AE 38) (.seq (.reg false Tb) (.block 0 (.loop (.seq (.reg false Tc) (.seq (.cond (AE 42) .skip (.exit 0)) (.seq (.block 1 (.seq (.reg false Td) (.seq (.seq (.reg false Te) (.cond (AE 56) (.seq (.reg false RO) .ret) .skip)) (.seq (.reg false RP) (.seq (.reg false RQ) (.cond (AE 84) (.seq (.reg false RR) .ret) .skip)))))) (.reg false RS))))))) .skip)) (.seq (.seq (.reg false RT) (.cond (AE 111) (.seq (.reg false RU) .ret) .skip)) (.seq (.reg false RV) (.seq (.seq (.reg false RW) (.cond (AE 124) (.seq (.reg false RX) .ret) .skip)) (.seq (.reg false RY) .ret))))))))
theorem Uo:Bf E 5 144 [.tmp 8] Un:=Bl Go.Proofs.Tryz.f5
noncomputable def DQ (a2:Str) (a3:Str):Int→Option (Step (Int) ((Unit) ⊕ (Unit))):=fun x49=>(if (decide (x49 < (List.length [false,true]:Int)))=true then Option.bind (ixl [false,true] x49) (fun x64=>Option.bind (Dy (AJ.mk [61,61] a3 x64) a2) (fun x65=>Option.bind (if x65=true then Option.bind (Dy (AJ.mk [33,61] a3 x64) a2) (fun x68=>some x68) else some false:Option (Bool)) (fun x67=>(if x67=true then some (Step.done (Sum.inl ())) else Option.bind (cat [61,61] a3) (fun x69=>Option.bind (Cf x69) (fun (x70,x71,x72)=>Option.bind (if ((x71 == 0) && (!x64))=true then Option.bind (Mq a3) (fun x75=>some x75) else some false:Option (Bool)) (fun x74=>Option.bind (if x74=true then Option.bind (Dy (AJ.mk [61,61] a3 false) a2) (fun x79=>Option.bind (Dy (AJ.mk [33,61] a3 false) a2) (fun x80=>some (x79 == x80))) else some false:Option (Bool)) (fun x78=>(if x78=true then some (Step.done (Sum.inl ())) else some (Step.next (w64 (x49 + 1)))))))))))) else some (Step.done (Sum.inr ())))
noncomputable def Es (a0:Str) (a1:Str) (a2:Str) (a3:Str):Option (Bool):=Option.bind (Cf a0) (fun (x1,x2,x3)=>Option.bind (Cf a1) (fun (x4,x5,x6)=>Option.bind (Ge a2) (fun x7=>Option.bind ((if (x7.2.Err == 0)=true then Option.bind (B9 (DQ a2 a3) 0) (fun y=>match y with | Sum.inl _=>some (Sum.inl ()) | Sum.inr _=>some (Sum.inr ())) else some (Sum.inr ())):Option ((Unit) ⊕ (Unit))) (fun y=>match y with | Sum.inl _=>some false | Sum.inr _=>Option.bind (if ((((x2 != 0) || (x5 != 0)) || ((List.length x1:Int) == 0)) || ((List.length x4:Int) == 0))=true then some true else Option.bind (cat a0 [44]) (fun x85=>Option.bind (cat x85 a1) (fun x86=>Option.bind (LQ x86) (fun x87=>some (!x87)))):Option (Bool)) (fun x84=>(if x84=true then Option.bind (GX) (fun x88=>some x88) else Option.bind (Ge a2) (fun x89=>Option.bind (if (x7.2.Err == 0)=true then Option.bind (TD (Ac.mk x89.1.Epoch x89.1.Release x89.1.Pre x89.1.PreNum x89.1.Post x89.1.PostNum x89.1.Dev x89.1.DevNum x89.1.Local)) (fun x92=>some x92) else some false:Option (Bool)) (fun x91=>(if x91=true then Option.bind (GX) (fun x93=>some x93) else Option.bind (cat a0 [44]) (fun x94=>Option.bind (cat x94 a1) (fun x95=>Option.bind (Bz x95 a2) (fun x96=>Option.bind (Bz a0 a2) (fun x97=>Option.bind (if x97=true then Option.bind (Bz a1 a2) (fun x100=>some x100) else some false:Option (Bool)) (fun x99=>Option.bind (if (x96 == x99)=true then Option.bind (GX) (fun x103=>some x103) else some false:Option (Bool)) (fun x102=>some x102)))))))))))))))
theorem TV (a0:Str) (a1:Str) (a2:Str) (a3:Str):Ct E 5 [bs a0,bs a1,bs a2,bs a3] (Es a0 a1 a2 a3) (fun r:Bool=>bv r):=CJ Uo (by
 unfold Es
 refine jS ⟨[V 0 (bs a0),V 1 (bs a1),V 2 (bs a2),V 3 (bs a3)],[],0⟩ ?_
 refine jR (jG 0 1 ⟨[V 0 (bs a0),V 1 (bs a1),V 2 (bs a2),V 3 (bs a3),V 22 (bs a0)],[],0⟩ ?_)
 refine A8 1 [] [(0,some 0)] (fun r:List AJ × Int × Int=>[(0,.rows 3 (List.map AB r.1))]) (fun r:List AJ × Int × Int=>.tup [.osl 0 0 (List.length r.1) 3,.agg [iv r.2.1,iv r.2.2]]) 2 (C5 a0) AD (fun r=>(pc (.inr (hL 0 (AP Ah _))) AD)) ?_
 rintro⟨x1,x2,x3⟩ hm7
 refine jG 2 6 ⟨[V 0 (bs a0),V 1 (bs a1),V 2 (bs a2),V 3 (bs a3),V 9 (.osl 0 0 (List.length x1) 3),V 10 (pt 2 2)],[(0,.rows 3 (List.map AB x1)),W 2 2 [iv x2,iv x3]],3⟩ ?_
 refine jN (jR (jG 0 1 ⟨[V 0 (bs a0),V 1 (bs a1),V 2 (bs a2),V 3 (bs a3),V 9 (.osl 0 0 (List.length x1) 3),V 10 (pt 2 2),V 27 (bs a1)],[(0,.rows 3 (List.map AB x1)),W 2 2 [iv x2,iv x3]],3⟩ ?_))
 refine A8 1 [] [(3,some 0)] (fun r:List AJ × Int × Int=>[(0,.rows 3 (List.map AB x1)),W 2 2 [iv x2,iv x3],(3,.rows 3 (List.map AB r.1))]) (fun r:List AJ × Int × Int=>.tup [.osl 3 0 (List.length r.1) 3,.agg [iv r.2.1,iv r.2.2]]) 5 (C5 a1) AD (fun r=>(pc (.inl ⟨rfl,rfl⟩) (pc (.inl ⟨rfl,rfl⟩) (pc (.inr (hL 0 (AP Ah _))) AD)))) ?_
 rintro⟨x4,x5,x6⟩ hm6
 refine jG 2 6 ⟨[V 0 (bs a0),V 1 (bs a1),V 2 (bs a2),V 3 (bs a3),V 9 (.osl 0 0 (List.length x1) 3),V 10 (pt 2 2),V 11 (.osl 3 0 (List.length x4) 3),V 12 (pt 5 2)],[(0,.rows 3 (List.map AB x1)),W 2 2 [iv x2,iv x3],(3,.rows 3 (List.map AB x4)),W 5 2 [iv x5,iv x6]],6⟩ ?_
 refine jN (jR (jG 0 1 ⟨[V 0 (bs a0),V 1 (bs a1),V 2 (bs a2),V 3 (bs a3),V 9 (.osl 0 0 (List.length x1) 3),V 10 (pt 2 2),V 11 (.osl 3 0 (List.length x4) 3),V 12 (pt 5 2),V 32 (bs a2)],[(0,.rows 3 (List.map AB x1)),W 2 2 [iv x2,iv x3],(3,.rows 3 (List.map AB x4)),W 5 2 [iv x5,iv x6]],6⟩ ?_))
 refine jK 1 (MA a2) ?_
 intro x7 h7
 refine jG 2 7 ⟨[V 0 (bs a0),V 1 (bs a1),V 2 (bs a2),V 3 (bs a3),V 9 (.osl 0 0 (List.length x1) 3),V 10 (pt 2 2),V 11 (.osl 3 0 (List.length x4) 3),V 12 (pt 5 2),V 14 (pt 7 2)],[(0,.rows 3 (List.map AB x1)),W 2 2 [iv x2,iv x3],(3,.rows 3 (List.map AB x4)),W 5 2 [iv x5,iv x6],W 7 2 [iv x7.2.Err,iv x7.2.At]],8⟩ ?_
 refine jN (Aj ?_)
 refine BB (fun y=>match y with | Sum.inl _=>⟨[V 8 (bv false)],[],0⟩ | Sum.inr _=>⟨[V 0 (bs a0),V 1 (bs a1),V 2 (bs a2),V 9 (.osl 0 0 (List.length x1) 3),V 10 (pt 1 2),V 11 (.osl 2 0 (List.length x4) 3),V 12 (pt 3 2),V 14 (pt 4 2)],[(0,.rows 3 (List.map AB x1)),W 1 2 [iv x2,iv x3],(2,.rows 3 (List.map AB x4)),W 3 2 [iv x5,iv x6],W 4 2 [iv x7.2.Err,iv x7.2.At]],5⟩) (fun y=>match y with | Sum.inl _=>.ret | Sum.inr _=>.normal) ?_ ?_
 ·refine jS ⟨[V 0 (bs a0),V 1 (bs a1),V 2 (bs a2),V 3 (bs a3),V 9 (.osl 0 0 (List.length x1) 3),V 10 (pt 2 2),V 11 (.osl 3 0 (List.length x4) 3),V 12 (pt 5 2),V 14 (pt 7 2),V 38 (bv (x7.2.Err == 0))],[(0,.rows 3 (List.map AB x1)),W 2 2 [iv x2,iv x3],(3,.rows 3 (List.map AB x4)),W 5 2 [iv x5,iv x6],W 7 2 [iv x7.2.Err,iv x7.2.At]],8⟩ ?_
  refine jIf ?_ ?_
  ·refine jS ⟨[V 0 (bs a0),V 1 (bs a1),V 2 (bs a2),V 3 (bs a3),V 9 (.osl 0 0 (List.length x1) 3),V 10 (pt 2 2),V 11 (.osl 3 0 (List.length x4) 3),V 12 (pt 5 2),V 14 (pt 7 2),V 39 (.osl 8 0 (List.length [false,true]) 1),V 40 (iv (List.length [false,true]:Int)),V 41 (iv 0)],[(0,.rows 3 (List.map AB x1)),W 2 2 [iv x2,iv x3],(3,.rows 3 (List.map AB x4)),W 5 2 [iv x5,iv x6],W 7 2 [iv x7.2.Err,iv x7.2.At],(8,.rows 1 (List.map cT [false,true]))],9⟩ ?_
   refine A4 ?_
   refine BB (fun y=>match y with | Sum.inl _=>⟨[V 8 (bv false)],[],0⟩ | Sum.inr _=>⟨[V 0 (bs a0),V 1 (bs a1),V 2 (bs a2),V 9 (.osl 0 0 (List.length x1) 3),V 10 (pt 1 2),V 11 (.osl 2 0 (List.length x4) 3),V 12 (pt 3 2),V 14 (pt 4 2)],[(0,.rows 3 (List.map AB x1)),W 1 2 [iv x2,iv x3],(2,.rows 3 (List.map AB x4)),W 3 2 [iv x5,iv x6],W 4 2 [iv x7.2.Err,iv x7.2.At]],5⟩) (fun y=>match y with | Sum.inl _=>.ret | Sum.inr _=>(.exit 0)) (Cq (fun x49=>⟨[V 0 (bs a0),V 1 (bs a1),V 2 (bs a2),V 3 (bs a3),V 9 (.osl 0 0 (List.length x1) 3),V 10 (pt 1 2),V 11 (.osl 2 0 (List.length x4) 3),V 12 (pt 3 2),V 14 (pt 4 2),V 39 (.osl 5 0 (List.length [false,true]) 1),V 40 (iv (List.length [false,true]:Int)),V 41 (iv x49)],[(0,.rows 3 (List.map AB x1)),W 1 2 [iv x2,iv x3],(2,.rows 3 (List.map AB x4)),W 3 2 [iv x5,iv x6],W 4 2 [iv x7.2.Err,iv x7.2.At],(5,.rows 1 (List.map cT [false,true]))],6⟩) (wkR [(0,some 0),(1,some 2),(2,some 3),(3,some 5),(4,some 7),(5,some 8)] (Ao _) (pc (hL 0 (AP Ah _)) (pc (hC 2) (pc (hL 3 (AP Ah _)) (pc (hC 5) (pc (hC 7) (pc (hL 8 (AP uY _)) AD))))))) ?_) ?_
   ·intro x49
    unfold DQ
    refine jS ⟨[V 0 (bs a0),V 1 (bs a1),V 2 (bs a2),V 3 (bs a3),V 9 (.osl 0 0 (List.length x1) 3),V 10 (pt 1 2),V 11 (.osl 2 0 (List.length x4) 3),V 12 (pt 3 2),V 14 (pt 4 2),V 39 (.osl 5 0 (List.length [false,true]) 1),V 40 (iv (List.length [false,true]:Int)),V 41 (iv x49),V 42 (bv (decide (x49 < (List.length [false,true]:Int))))],[(0,.rows 3 (List.map AB x1)),W 1 2 [iv x2,iv x3],(2,.rows 3 (List.map AB x4)),W 3 2 [iv x5,iv x6],W 4 2 [iv x7.2.Err,iv x7.2.At],(5,.rows 1 (List.map cT [false,true]))],6⟩ ?_
    refine Aj ?_
    refine jIf ?_ ?_
    ·refine Ai (Ab (Aj (A4 (jR ?_))))
     refine A1 (i:=0) (mo:=ixl [false,true] x49) rfl rfl rfl rfl (fun _ hc=>Ln (sz:=1) (e:=4) (kk:=.i64) (id:=5) (by kernel_rfl) (by kernel_rfl) (by kernel_rfl) (by kernel_rfl) hc) (fun _=>rfl) ?_
     intro x64 h64
     refine F0 (i:=1) (v:=bv x64) rfl rfl rfl rfl (Vh (l:=[false,true]) (c:=cT) (id:=5) (k:=(Int.toNat x49)) (sz:=1) (off:=0) (a:=x64) (by kernel_rfl) (by kernel_rfl) (O8 h64).2.2 (by kernel_rfl)) rfl ?_
     refine jG 2 1 ⟨[V 0 (bs a0),V 1 (bs a1),V 2 (bs a2),V 3 (bs a3),V 9 (.osl 0 0 (List.length x1) 3),V 10 (pt 1 2),V 11 (.osl 2 0 (List.length x4) 3),V 12 (pt 3 2),V 14 (pt 4 2),V 16 (bv x64),V 39 (.osl 5 0 (List.length [false,true]) 1),V 40 (iv (List.length [false,true]:Int)),V 41 (iv x49)],[(0,.rows 3 (List.map AB x1)),W 1 2 [iv x2,iv x3],(2,.rows 3 (List.map AB x4)),W 3 2 [iv x5,iv x6],W 4 2 [iv x7.2.Err,iv x7.2.At],(5,.rows 1 (List.map cT [false,true]))],6⟩ ?_
     refine jN (Aj (jR (jG 0 4 ⟨[V 0 (bs a0),V 1 (bs a1),V 2 (bs a2),V 3 (bs a3),V 9 (.osl 0 0 (List.length x1) 3),V 10 (pt 1 2),V 11 (.osl 2 0 (List.length x4) 3),V 12 (pt 3 2),V 14 (pt 4 2),V 16 (bv x64),V 39 (.osl 5 0 (List.length [false,true]) 1),V 40 (iv (List.length [false,true]:Int)),V 41 (iv x49),V 47 (.agg [bs [61,61],bs a3,bv x64]),V 48 (bs a2)],[(0,.rows 3 (List.map AB x1)),W 1 2 [iv x2,iv x3],(2,.rows 3 (List.map AB x4)),W 3 2 [iv x5,iv x6],W 4 2 [iv x7.2.Err,iv x7.2.At],(5,.rows 1 (List.map cT [false,true]))],6⟩ ?_)))
     refine jK 4 (FW (AJ.mk [61,61] a3 x64) a2) ?_
     intro x65 h65
     refine jG 5 1 ⟨[V 0 (bs a0),V 1 (bs a1),V 2 (bs a2),V 3 (bs a3),V 9 (.osl 0 0 (List.length x1) 3),V 10 (pt 1 2),V 11 (.osl 2 0 (List.length x4) 3),V 12 (pt 3 2),V 14 (pt 4 2),V 16 (bv x64),V 39 (.osl 5 0 (List.length [false,true]) 1),V 40 (iv (List.length [false,true]:Int)),V 41 (iv x49),V 50 (bv x65)],[(0,.rows 3 (List.map AB x1)),W 1 2 [iv x2,iv x3],(2,.rows 3 (List.map AB x4)),W 3 2 [iv x5,iv x6],W 4 2 [iv x7.2.Err,iv x7.2.At],(5,.rows 1 (List.map cT [false,true]))],6⟩ ?_
     refine A5 6 6 (fun x67=>⟨[V 0 (bs a0),V 1 (bs a1),V 2 (bs a2),V 3 (bs a3),V 9 (.osl 0 0 (List.length x1) 3),V 10 (pt 1 2),V 11 (.osl 2 0 (List.length x4) 3),V 12 (pt 3 2),V 14 (pt 4 2),V 16 (bv x64),V 39 (.osl 5 0 (List.length [false,true]) 1),V 40 (iv (List.length [false,true]:Int)),V 41 (iv x49),V 56 (bv x67)],[(0,.rows 3 (List.map AB x1)),W 1 2 [iv x2,iv x3],(2,.rows 3 (List.map AB x4)),W 3 2 [iv x5,iv x6],W 4 2 [iv x7.2.Err,iv x7.2.At],(5,.rows 1 (List.map cT [false,true]))],6⟩) ?_ ?_
     ·refine jSp 50 ?_ ?_
      ·refine jG 0 4 ⟨[V 0 (bs a0),V 1 (bs a1),V 2 (bs a2),V 3 (bs a3),V 9 (.osl 0 0 (List.length x1) 3),V 10 (pt 1 2),V 11 (.osl 2 0 (List.length x4) 3),V 12 (pt 3 2),V 14 (pt 4 2),V 16 (bv x64),V 39 (.osl 5 0 (List.length [false,true]) 1),V 40 (iv (List.length [false,true]:Int)),V 41 (iv x49),(50,.lit true),V 53 (.agg [bs [33,61],bs a3,bv x64]),V 54 (bs a2)],[(0,.rows 3 (List.map AB x1)),W 1 2 [iv x2,iv x3],(2,.rows 3 (List.map AB x4)),W 3 2 [iv x5,iv x6],W 4 2 [iv x7.2.Err,iv x7.2.At],(5,.rows 1 (List.map cT [false,true]))],6⟩ ?_
       refine jK 4 (FW (AJ.mk [33,61] a3 x64) a2) ?_
       intro x68 h68
       refine jG 5 1 ⟨[V 0 (bs a0),V 1 (bs a1),V 2 (bs a2),V 3 (bs a3),V 9 (.osl 0 0 (List.length x1) 3),V 10 (pt 1 2),V 11 (.osl 2 0 (List.length x4) 3),V 12 (pt 3 2),V 14 (pt 4 2),V 16 (bv x64),V 39 (.osl 5 0 (List.length [false,true]) 1),V 40 (iv (List.length [false,true]:Int)),V 41 (iv x49),V 56 (bv x68)],[(0,.rows 3 (List.map AB x1)),W 1 2 [iv x2,iv x3],(2,.rows 3 (List.map AB x4)),W 3 2 [iv x5,iv x6],W 4 2 [iv x7.2.Err,iv x7.2.At],(5,.rows 1 (List.map cT [false,true]))],6⟩ ?_
       exact Ad rfl (AT rfl (wkR [(0,some 0),(1,some 1),(2,some 2),(3,some 3),(4,some 4),(5,some 5)] (Ao _) (pc (hL 0 (AP Ah _)) (pc (hC 1) (pc (hL 2 (AP Ah _)) (pc (hC 3) (pc (hC 4) (pc (hL 5 (AP uY _)) AD))))))))
      refine jG 0 6 ⟨[V 0 (bs a0),V 1 (bs a1),V 2 (bs a2),V 3 (bs a3),V 9 (.osl 0 0 (List.length x1) 3),V 10 (pt 1 2),V 11 (.osl 2 0 (List.length x4) 3),V 12 (pt 3 2),V 14 (pt 4 2),V 16 (bv x64),V 39 (.osl 5 0 (List.length [false,true]) 1),V 40 (iv (List.length [false,true]:Int)),V 41 (iv x49),V 56 (bv false)],[(0,.rows 3 (List.map AB x1)),W 1 2 [iv x2,iv x3],(2,.rows 3 (List.map AB x4)),W 3 2 [iv x5,iv x6],W 4 2 [iv x7.2.Err,iv x7.2.At],(5,.rows 1 (List.map cT [false,true]))],6⟩ ?_
      exact Ad rfl (AT rfl (wkR [(0,some 0),(1,some 1),(2,some 2),(3,some 3),(4,some 4),(5,some 5)] (Ao _) (pc (hL 0 (AP Ah _)) (pc (hC 1) (pc (hL 2 (AP Ah _)) (pc (hC 3) (pc (hC 4) (pc (hL 5 (AP uY _)) AD))))))))
     intro x67
     refine jN ?_
     refine jIf ?_ ?_
     ·refine jS ⟨[V 8 (bv false)],[],6⟩ ?_
      exact Af (Au (BG (Au (Bc rfl nofun BN))))
     refine Ai (Ab (jR (jG 0 1 ⟨[V 0 (bs a0),V 1 (bs a1),V 2 (bs a2),V 3 (bs a3),V 9 (.osl 0 0 (List.length x1) 3),V 10 (pt 1 2),V 11 (.osl 2 0 (List.length x4) 3),V 12 (pt 3 2),V 14 (pt 4 2),V 16 (bv x64),V 39 (.osl 5 0 (List.length [false,true]) 1),V 40 (iv (List.length [false,true]:Int)),V 41 (iv x49),V 58 (bs a3)],[(0,.rows 3 (List.map AB x1)),W 1 2 [iv x2,iv x3],(2,.rows 3 (List.map AB x4)),W 3 2 [iv x5,iv x6],W 4 2 [iv x7.2.Err,iv x7.2.At],(5,.rows 1 (List.map cT [false,true]))],6⟩ ?_)))
     refine A1 (i:=1) (mo:=cat [61,61] a3) rfl rfl rfl rfl (fun _ hc=>OI (by kernel_rfl) (by kernel_rfl) hc) (fun _=>rfl) ?_
     intro x69 h69
     refine A8 2 [] [(6,some 0)] (fun r:List AJ × Int × Int=>[(0,.rows 3 (List.map AB x1)),W 1 2 [iv x2,iv x3],(2,.rows 3 (List.map AB x4)),W 3 2 [iv x5,iv x6],W 4 2 [iv x7.2.Err,iv x7.2.At],(5,.rows 1 (List.map cT [false,true])),(6,.rows 3 (List.map AB r.1))]) (fun r:List AJ × Int × Int=>.tup [.osl 6 0 (List.length r.1) 3,.agg [iv r.2.1,iv r.2.2]]) 8 (C5 x69) AD (fun r=>(pc (.inl ⟨rfl,rfl⟩) (pc (.inl ⟨rfl,rfl⟩) (pc (.inl ⟨rfl,rfl⟩) (pc (.inl ⟨rfl,rfl⟩) (pc (.inl ⟨rfl,rfl⟩) (pc (.inl ⟨rfl,rfl⟩) (pc (.inr (hL 0 (AP Ah _))) AD)))))))) ?_
     rintro⟨x70,x71,x72⟩ hm5
     refine jG 3 6 ⟨[V 0 (bs a0),V 1 (bs a1),V 2 (bs a2),V 3 (bs a3),V 9 (.osl 0 0 (List.length x1) 3),V 10 (pt 1 2),V 11 (.osl 2 0 (List.length x4) 3),V 12 (pt 3 2),V 14 (pt 4 2),V 16 (bv x64),V 18 (pt 8 2),V 39 (.osl 5 0 (List.length [false,true]) 1),V 40 (iv (List.length [false,true]:Int)),V 41 (iv x49)],[(0,.rows 3 (List.map AB x1)),W 1 2 [iv x2,iv x3],(2,.rows 3 (List.map AB x4)),W 3 2 [iv x5,iv x6],W 4 2 [iv x7.2.Err,iv x7.2.At],(5,.rows 1 (List.map cT [false,true])),W 8 2 [iv x71,iv x72]],9⟩ ?_
     refine jN (jR (jG 0 8 ⟨[V 0 (bs a0),V 1 (bs a1),V 2 (bs a2),V 3 (bs a3),V 9 (.osl 0 0 (List.length x1) 3),V 10 (pt 1 2),V 11 (.osl 2 0 (List.length x4) 3),V 12 (pt 3 2),V 14 (pt 4 2),V 39 (.osl 5 0 (List.length [false,true]) 1),V 40 (iv (List.length [false,true]:Int)),V 41 (iv x49),V 70 (bv ((x71 == 0) && (!x64)))],[(0,.rows 3 (List.map AB x1)),W 1 2 [iv x2,iv x3],(2,.rows 3 (List.map AB x4)),W 3 2 [iv x5,iv x6],W 4 2 [iv x7.2.Err,iv x7.2.At],(5,.rows 1 (List.map cT [false,true]))],9⟩ ?_))
     refine A5 8 3 (fun x74=>⟨[V 0 (bs a0),V 1 (bs a1),V 2 (bs a2),V 3 (bs a3),V 9 (.osl 0 0 (List.length x1) 3),V 10 (pt 1 2),V 11 (.osl 2 0 (List.length x4) 3),V 12 (pt 3 2),V 14 (pt 4 2),V 39 (.osl 5 0 (List.length [false,true]) 1),V 40 (iv (List.length [false,true]:Int)),V 41 (iv x49),V 73 (bv x74)],[(0,.rows 3 (List.map AB x1)),W 1 2 [iv x2,iv x3],(2,.rows 3 (List.map AB x4)),W 3 2 [iv x5,iv x6],W 4 2 [iv x7.2.Err,iv x7.2.At],(5,.rows 1 (List.map cT [false,true]))],6⟩) ?_ ?_
     ·refine jSp 70 ?_ ?_
      ·refine jG 0 1 ⟨[V 0 (bs a0),V 1 (bs a1),V 2 (bs a2),V 3 (bs a3),V 9 (.osl 0 0 (List.length x1) 3),V 10 (pt 1 2),V 11 (.osl 2 0 (List.length x4) 3),V 12 (pt 3 2),V 14 (pt 4 2),V 39 (.osl 5 0 (List.length [false,true]) 1),V 40 (iv (List.length [false,true]:Int)),V 41 (iv x49),(70,.lit true),V 71 (bs a3)],[(0,.rows 3 (List.map AB x1)),W 1 2 [iv x2,iv x3],(2,.rows 3 (List.map AB x4)),W 3 2 [iv x5,iv x6],W 4 2 [iv x7.2.Err,iv x7.2.At],(5,.rows 1 (List.map cT [false,true]))],9⟩ ?_
       refine jK 1 (cP a3) ?_
       intro x75 h75
       refine jG 2 1 ⟨[V 0 (bs a0),V 1 (bs a1),V 2 (bs a2),V 3 (bs a3),V 9 (.osl 0 0 (List.length x1) 3),V 10 (pt 1 2),V 11 (.osl 2 0 (List.length x4) 3),V 12 (pt 3 2),V 14 (pt 4 2),V 39 (.osl 5 0 (List.length [false,true]) 1),V 40 (iv (List.length [false,true]:Int)),V 41 (iv x49),V 73 (bv x75)],[(0,.rows 3 (List.map AB x1)),W 1 2 [iv x2,iv x3],(2,.rows 3 (List.map AB x4)),W 3 2 [iv x5,iv x6],W 4 2 [iv x7.2.Err,iv x7.2.At],(5,.rows 1 (List.map cT [false,true]))],9⟩ ?_
       exact Ad rfl (AT rfl (wkR [(0,some 0),(1,some 1),(2,some 2),(3,some 3),(4,some 4),(5,some 5)] (Ao _) (pc (hL 0 (AP Ah _)) (pc (hC 1) (pc (hL 2 (AP Ah _)) (pc (hC 3) (pc (hC 4) (pc (hL 5 (AP uY _)) AD))))))))
      refine jG 0 3 ⟨[V 0 (bs a0),V 1 (bs a1),V 2 (bs a2),V 3 (bs a3),V 9 (.osl 0 0 (List.length x1) 3),V 10 (pt 1 2),V 11 (.osl 2 0 (List.length x4) 3),V 12 (pt 3 2),V 14 (pt 4 2),V 39 (.osl 5 0 (List.length [false,true]) 1),V 40 (iv (List.length [false,true]:Int)),V 41 (iv x49),V 73 (bv false)],[(0,.rows 3 (List.map AB x1)),W 1 2 [iv x2,iv x3],(2,.rows 3 (List.map AB x4)),W 3 2 [iv x5,iv x6],W 4 2 [iv x7.2.Err,iv x7.2.At],(5,.rows 1 (List.map cT [false,true]))],9⟩ ?_
      exact Ad rfl (AT rfl (wkR [(0,some 0),(1,some 1),(2,some 2),(3,some 3),(4,some 4),(5,some 5)] (Ao _) (pc (hL 0 (AP Ah _)) (pc (hC 1) (pc (hL 2 (AP Ah _)) (pc (hC 3) (pc (hC 4) (pc (hL 5 (AP uY _)) AD))))))))
     intro x74
     refine jG 11 1 ⟨[V 0 (bs a0),V 1 (bs a1),V 2 (bs a2),V 3 (bs a3),V 9 (.osl 0 0 (List.length x1) 3),V 10 (pt 1 2),V 11 (.osl 2 0 (List.length x4) 3),V 12 (pt 3 2),V 14 (pt 4 2),V 39 (.osl 5 0 (List.length [false,true]) 1),V 40 (iv (List.length [false,true]:Int)),V 41 (iv x49),V 74 (bv x74)],[(0,.rows 3 (List.map AB x1)),W 1 2 [iv x2,iv x3],(2,.rows 3 (List.map AB x4)),W 3 2 [iv x5,iv x6],W 4 2 [iv x7.2.Err,iv x7.2.At],(5,.rows 1 (List.map cT [false,true]))],6⟩ ?_
     refine A5 12 10 (fun x78=>⟨[V 0 (bs a0),V 1 (bs a1),V 2 (bs a2),V 3 (bs a3),V 9 (.osl 0 0 (List.length x1) 3),V 10 (pt 1 2),V 11 (.osl 2 0 (List.length x4) 3),V 12 (pt 3 2),V 14 (pt 4 2),V 39 (.osl 5 0 (List.length [false,true]) 1),V 40 (iv (List.length [false,true]:Int)),V 41 (iv x49),V 84 (bv x78)],[(0,.rows 3 (List.map AB x1)),W 1 2 [iv x2,iv x3],(2,.rows 3 (List.map AB x4)),W 3 2 [iv x5,iv x6],W 4 2 [iv x7.2.Err,iv x7.2.At],(5,.rows 1 (List.map cT [false,true]))],6⟩) ?_ ?_
     ·refine jSp 74 ?_ ?_
      ·refine jG 0 3 ⟨[V 0 (bs a0),V 1 (bs a1),V 2 (bs a2),V 3 (bs a3),V 9 (.osl 0 0 (List.length x1) 3),V 10 (pt 1 2),V 11 (.osl 2 0 (List.length x4) 3),V 12 (pt 3 2),V 14 (pt 4 2),V 39 (.osl 5 0 (List.length [false,true]) 1),V 40 (iv (List.length [false,true]:Int)),V 41 (iv x49),(74,.lit true),V 76 (.agg [bs [61,61],bs a3,bv false]),V 77 (bs a2)],[(0,.rows 3 (List.map AB x1)),W 1 2 [iv x2,iv x3],(2,.rows 3 (List.map AB x4)),W 3 2 [iv x5,iv x6],W 4 2 [iv x7.2.Err,iv x7.2.At],(5,.rows 1 (List.map cT [false,true]))],6⟩ ?_
       refine jK 3 (FW (AJ.mk [61,61] a3 false) a2) ?_
       intro x79 h79
       refine jG 4 3 ⟨[V 0 (bs a0),V 1 (bs a1),V 2 (bs a2),V 3 (bs a3),V 9 (.osl 0 0 (List.length x1) 3),V 10 (pt 1 2),V 11 (.osl 2 0 (List.length x4) 3),V 12 (pt 3 2),V 14 (pt 4 2),V 39 (.osl 5 0 (List.length [false,true]) 1),V 40 (iv (List.length [false,true]:Int)),V 41 (iv x49),(74,.lit true),V 78 (bv x79),V 80 (.agg [bs [33,61],bs a3,bv false]),V 81 (bs a2)],[(0,.rows 3 (List.map AB x1)),W 1 2 [iv x2,iv x3],(2,.rows 3 (List.map AB x4)),W 3 2 [iv x5,iv x6],W 4 2 [iv x7.2.Err,iv x7.2.At],(5,.rows 1 (List.map cT [false,true]))],6⟩ ?_
       refine jK 7 (FW (AJ.mk [33,61] a3 false) a2) ?_
       intro x80 h80
       refine jG 8 2 ⟨[V 0 (bs a0),V 1 (bs a1),V 2 (bs a2),V 3 (bs a3),V 9 (.osl 0 0 (List.length x1) 3),V 10 (pt 1 2),V 11 (.osl 2 0 (List.length x4) 3),V 12 (pt 3 2),V 14 (pt 4 2),V 39 (.osl 5 0 (List.length [false,true]) 1),V 40 (iv (List.length [false,true]:Int)),V 41 (iv x49),V 84 (bv (x79 == x80))],[(0,.rows 3 (List.map AB x1)),W 1 2 [iv x2,iv x3],(2,.rows 3 (List.map AB x4)),W 3 2 [iv x5,iv x6],W 4 2 [iv x7.2.Err,iv x7.2.At],(5,.rows 1 (List.map cT [false,true]))],6⟩ ?_
       exact Ad rfl (AT rfl (wkR [(0,some 0),(1,some 1),(2,some 2),(3,some 3),(4,some 4),(5,some 5)] (Ao _) (pc (hL 0 (AP Ah _)) (pc (hC 1) (pc (hL 2 (AP Ah _)) (pc (hC 3) (pc (hC 4) (pc (hL 5 (AP uY _)) AD))))))))
      refine jG 0 10 ⟨[V 0 (bs a0),V 1 (bs a1),V 2 (bs a2),V 3 (bs a3),V 9 (.osl 0 0 (List.length x1) 3),V 10 (pt 1 2),V 11 (.osl 2 0 (List.length x4) 3),V 12 (pt 3 2),V 14 (pt 4 2),V 39 (.osl 5 0 (List.length [false,true]) 1),V 40 (iv (List.length [false,true]:Int)),V 41 (iv x49),V 84 (bv false)],[(0,.rows 3 (List.map AB x1)),W 1 2 [iv x2,iv x3],(2,.rows 3 (List.map AB x4)),W 3 2 [iv x5,iv x6],W 4 2 [iv x7.2.Err,iv x7.2.At],(5,.rows 1 (List.map cT [false,true]))],6⟩ ?_
      exact Ad rfl (AT rfl (wkR [(0,some 0),(1,some 1),(2,some 2),(3,some 3),(4,some 4),(5,some 5)] (Ao _) (pc (hL 0 (AP Ah _)) (pc (hC 1) (pc (hL 2 (AP Ah _)) (pc (hC 3) (pc (hC 4) (pc (hL 5 (AP uY _)) AD))))))))
     intro x78
     refine jN ?_
     refine jIf ?_ ?_
     ·refine jS ⟨[V 8 (bv false)],[],6⟩ ?_
      exact Af (BG (Au (Bc rfl nofun BN)))
     refine Ai (BU (Ab (jT ⟨[V 0 (bs a0),V 1 (bs a1),V 2 (bs a2),V 3 (bs a3),V 9 (.osl 0 0 (List.length x1) 3),V 10 (pt 1 2),V 11 (.osl 2 0 (List.length x4) 3),V 12 (pt 3 2),V 14 (pt 4 2),V 39 (.osl 5 0 (List.length [false,true]) 1),V 40 (iv (List.length [false,true]:Int)),V 41 (iv (w64 (x49 + 1)))],[(0,.rows 3 (List.map AB x1)),W 1 2 [iv x2,iv x3],(2,.rows 3 (List.map AB x4)),W 3 2 [iv x5,iv x6],W 4 2 [iv x7.2.Err,iv x7.2.At],(5,.rows 1 (List.map cT [false,true]))],6⟩ ?_)))
     exact Cs (wkR [(0,some 0),(1,some 1),(2,some 2),(3,some 3),(4,some 4),(5,some 5)] (Ao _) (pc (hL 0 (AP Ah _)) (pc (hC 1) (pc (hL 2 (AP Ah _)) (pc (hC 3) (pc (hC 4) (pc (hL 5 (AP uY _)) AD)))))))
    exact Cd (Ce (Bc rfl nofun (wkR [(0,some 0),(1,some 1),(2,some 2),(3,some 3),(4,some 4)] (Ao _) (pc (hL 0 (AP Ah _)) (pc (hC 1) (pc (hL 2 (AP Ah _)) (pc (hC 3) (pc (hC 4) AD))))))))
   rintro (_ | _)
   ·exact BG (AT rfl BN)
   exact Cr (AT rfl (wkR [(0,some 0),(1,some 1),(2,some 2),(3,some 3),(4,some 4)] (Ao _) (pc (hL 0 (AP Ah _)) (pc (hC 1) (pc (hL 2 (AP Ah _)) (pc (hC 3) (pc (hC 4) AD)))))))
  exact Ai (AT rfl (wkR [(0,some 0),(1,some 2),(2,some 3),(3,some 5),(4,some 7)] (Ao _) (pc (hL 0 (AP Ah _)) (pc (hC 2) (pc (hL 3 (AP Ah _)) (pc (hC 5) (pc (hC 7) AD)))))))
 rintro (_ | _)
 ·exact Au (BL (bv false))
 refine Ab (Aj (jR (jG 0 19 ⟨[V 0 (bs a0),V 1 (bs a1),V 2 (bs a2),V 14 (pt 4 2),V 104 (bv ((((x2 != 0) || (x5 != 0)) || ((List.length x1:Int) == 0)) || ((List.length x4:Int) == 0)))],[W 4 2 [iv x7.2.Err,iv x7.2.At]],5⟩ ?_)))
 refine A5 19 7 (fun x84=>⟨[V 0 (bs a0),V 1 (bs a1),V 2 (bs a2),V 14 (pt 0 2),V 111 (bv x84)],[W 0 2 [iv x7.2.Err,iv x7.2.At]],1⟩) ?_ ?_
 ·refine jSp 104 ?_ ?_
  ·refine jG 0 7 ⟨[V 0 (bs a0),V 1 (bs a1),V 2 (bs a2),V 14 (pt 4 2),V 111 (bv true)],[W 4 2 [iv x7.2.Err,iv x7.2.At]],5⟩ ?_
   exact Ad rfl (AT rfl (wkR [(0,some 4)] (Ao _) (pc (hC 4) AD)))
  refine jG 0 1 ⟨[V 0 (bs a0),V 1 (bs a1),V 2 (bs a2),V 14 (pt 4 2),(104,.lit false),V 105 (bs a0)],[W 4 2 [iv x7.2.Err,iv x7.2.At]],5⟩ ?_
  refine A1 (i:=1) (mo:=cat a0 [44]) rfl rfl rfl rfl (fun _ hc=>OI (by kernel_rfl) (by kernel_rfl) hc) (fun _=>rfl) ?_
  intro x85 h85
  refine jG 2 1 ⟨[V 0 (bs a0),V 1 (bs a1),V 2 (bs a2),V 14 (pt 4 2),(104,.lit false),V 106 (bs x85),V 107 (bs a1)],[W 4 2 [iv x7.2.Err,iv x7.2.At]],5⟩ ?_
  refine A1 (i:=3) (mo:=cat x85 a1) rfl rfl rfl rfl (fun _ hc=>OI (by kernel_rfl) (by kernel_rfl) hc) (fun _=>rfl) ?_
  intro x86 h86
  refine jK 4 (ZS x86) ?_
  intro x87 h87
  refine jG 5 2 ⟨[V 0 (bs a0),V 1 (bs a1),V 2 (bs a2),V 14 (pt 4 2),V 111 (bv (!x87))],[W 4 2 [iv x7.2.Err,iv x7.2.At]],5⟩ ?_
  exact Ad rfl (AT rfl (wkR [(0,some 4)] (Ao _) (pc (hC 4) AD)))
 intro x84
 refine jN ?_
 refine jIf ?_ ?_
 ·refine jR ?_
  refine jK 0 (Lv) ?_
  intro x88 h88
  refine jG 1 1 ⟨[V 8 (bv x88)],[],1⟩ ?_
  exact jN (Af (Au (BL (bv x88))))
 refine Ai (Ab (jR (jG 0 1 ⟨[V 0 (bs a0),V 1 (bs a1),V 2 (bs a2),V 14 (pt 0 2),V 114 (bs a2)],[W 0 2 [iv x7.2.Err,iv x7.2.At]],1⟩ ?_)))
 refine jK 1 (MA a2) ?_
 intro x89 h89
 refine jG 2 7 ⟨[V 0 (bs a0),V 1 (bs a1),V 2 (bs a2),V 14 (pt 0 2),V 19 (pt 1 9)],[W 0 2 [iv x7.2.Err,iv x7.2.At],W 1 9 (AK x89.1)],3⟩ ?_
 refine jN (Aj (jR (jG 0 4 ⟨[V 0 (bs a0),V 1 (bs a1),V 2 (bs a2),V 19 (pt 1 9),V 121 (bv (x7.2.Err == 0))],[W 1 9 (AK x89.1)],3⟩ ?_)))
 refine A5 4 3 (fun x91=>⟨[V 0 (bs a0),V 1 (bs a1),V 2 (bs a2),V 124 (bv x91)],[],0⟩) ?_ ?_
 ·refine jSp 121 ?_ ?_
  ·refine jG 0 1 ⟨[V 0 (bs a0),V 1 (bs a1),V 2 (bs a2),(121,.lit true),V 122 (.agg (AK x89.1))],[],3⟩ ?_
   refine jK 1 (rW x89.1) ?_
   intro x92 h92
   refine jG 2 1 ⟨[V 0 (bs a0),V 1 (bs a1),V 2 (bs a2),V 124 (bv x92)],[],3⟩ ?_
   exact Ad rfl (AT rfl BN)
  refine jG 0 3 ⟨[V 0 (bs a0),V 1 (bs a1),V 2 (bs a2),V 124 (bv false)],[],3⟩ ?_
  exact Ad rfl (AT rfl BN)
 intro x91
 refine jN ?_
 refine jIf ?_ ?_
 ·refine jR ?_
  refine jK 0 (Lv) ?_
  intro x93 h93
  refine jG 1 1 ⟨[V 8 (bv x93)],[],0⟩ ?_
  exact jN (Af (Au (BL (bv x93))))
 refine Ai (Ab (jR (jG 0 1 ⟨[V 0 (bs a0),V 1 (bs a1),V 2 (bs a2),V 126 (bs a0)],[],0⟩ ?_)))
 refine A1 (i:=1) (mo:=cat a0 [44]) rfl rfl rfl rfl (fun _ hc=>OI (by kernel_rfl) (by kernel_rfl) hc) (fun _=>rfl) ?_
 intro x94 h94
 refine jG 2 1 ⟨[V 0 (bs a0),V 1 (bs a1),V 2 (bs a2),V 127 (bs x94),V 128 (bs a1)],[],0⟩ ?_
 refine A1 (i:=3) (mo:=cat x94 a1) rfl rfl rfl rfl (fun _ hc=>OI (by kernel_rfl) (by kernel_rfl) hc) (fun _=>rfl) ?_
 intro x95 h95
 refine jG 4 1 ⟨[V 0 (bs a0),V 1 (bs a1),V 2 (bs a2),V 129 (bs x95),V 130 (bs a2)],[],0⟩ ?_
 refine jK 5 (Bv x95 a2) ?_
 intro x96 h96
 refine jG 6 2 ⟨[V 1 (bs a1),V 2 (bs a2),V 131 (bv x96),V 132 (bs a0),V 133 (bs a2)],[],0⟩ ?_
 refine jK 8 (Bv a0 a2) ?_
 intro x97 h97
 refine jG 9 1 ⟨[V 1 (bs a1),V 2 (bs a2),V 131 (bv x96),V 135 (bv x97)],[],0⟩ ?_
 refine A5 10 4 (fun x99=>⟨[V 131 (bv x96),V 139 (bv x99)],[],0⟩) ?_ ?_
 ·refine jSp 135 ?_ ?_
  ·refine jG 0 2 ⟨[V 131 (bv x96),(135,.lit true),V 136 (bs a1),V 137 (bs a2)],[],0⟩ ?_
   refine jK 2 (Bv a1 a2) ?_
   intro x100 h100
   refine jG 3 1 ⟨[V 131 (bv x96),V 139 (bv x100)],[],0⟩ ?_
   exact Ad rfl (AT rfl BN)
  refine jG 0 4 ⟨[V 131 (bv x96),V 139 (bv false)],[],0⟩ ?_
  exact Ad rfl (AT rfl BN)
 intro x99
 refine jG 14 2 ⟨[V 141 (bv (x96 == x99))],[],0⟩ ?_
 refine A5 16 2 (fun x102=>⟨[V 143 (bv x102)],[],0⟩) ?_ ?_
 ·refine jSp 141 ?_ ?_
  ·refine jK 0 (Lv) ?_
   intro x103 h103
   refine jG 1 1 ⟨[V 143 (bv x103)],[],0⟩ ?_
   exact Ad rfl (AT rfl BN)
  refine jG 0 2 ⟨[V 143 (bv false)],[],0⟩ ?_
  exact Ad rfl (AT rfl BN)
 intro x102
 refine jG 18 1 ⟨[V 8 (bv x102)],[],0⟩ ?_
 exact jN (Af (BL (bv x102))))
end Go.Vm

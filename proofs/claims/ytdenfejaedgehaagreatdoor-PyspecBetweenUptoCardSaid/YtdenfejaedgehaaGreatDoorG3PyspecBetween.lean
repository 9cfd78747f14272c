/- The law PyspecBetween, a part of its proof: what the functions that it reaches compute. -/
import Derived.Test.YtdenfejaedgehaaGreatDoorG0PyspecBetween
import Derived.Test.YtdenfejaedgehaaGreatDoorG2PyspecBetween
import Derived.Test.YtdenfejaedgehaaGreatDoorG1PyspecBetween
set_option linter.unusedVariables false
set_option linter.unusedSimpArgs false
set_option maxRecDepth 100000
set_option maxHeartbeats 0
set_option linter.unusedVariables false
set_option linter.unusedSimpArgs false
namespace Go.Vm
open Go
abbrev b8:List LO:=[Ag 0 4]
abbrev b9:List LO:=[A8 1 #[62,61,49,46,48,44,32,33,61,49,46,53,46,42,44,32,60,50] 9]
abbrev cA:List LO:=[AN 9 6 #[.const (.string ⟨#[61,49]⟩)] #[9] 26,lm 8 9 26,Aq 10 8 0 22,Aq 11 8 1 25,BH 3 25 0,AB 2 10 22,AO 25 3 11 0]
abbrev cC:List LO:=[AN 13 6 #[.const (.string ⟨#[62,61,49,44,44,60,50]⟩)] #[9] 26,lm 12 13 26,Aq 14 12 0 22,Aq 15 12 1 25,BH 5 25 0,AB 4 14 22,AO 25 5 15 0]
abbrev cD:List LO:=[AN 17 6 #[.const (.string ⟨#[126,61,49]⟩)] #[9] 26,lm 16 17 26,Aq 18 16 0 22,Aq 19 16 1 25,BH 7 25 0,AB 6 18 22,AO 25 7 19 0]
abbrev cE:List LO:=[lm 20 1 9,AN 21 16 #[AE 20,.const (.string ⟨#[49,46,52]⟩)] #[9,9] 4,lm 22 21 4,lmg 23 1 9 22 true,A7 24 16 #[AE 23,.const (.string ⟨#[49,46,54,46,112,111,115,116,49]⟩)] #[9,9] 4 22 true,AS 25 22 24 4,lm 26 25 4,lmg 27 1 9 26 true,A7 28 16 #[AE 27,.const (.string ⟨#[49,46,53,46,51]⟩)] #[9,9] 4 26 true,Ay 29 4 28 4 26 true,AS 30 26 29 4,lm 31 30 4,lmg 32 1 9 31 true,A7 33 16 #[AE 32,.const (.string ⟨#[50,46,48,97,49]⟩)] #[9,9] 4 31 true,Ay 34 4 33 4 31 true,AS 35 31 34 4,lm 36 35 4,lmg 37 1 9 36 true,A7 38 16 #[AE 37,.const (.string ⟨#[50,46,48]⟩)] #[9,9] 4 36 true,Ay 39 4 38 4 36 true,AS 40 36 39 4,lm 41 40 4,A7 42 16 #[.const (.string ⟨#[126,61,49,46,52,46,50]⟩),.const (.string ⟨#[49,46,52,46,57]⟩)] #[9,9] 4 41 true,AS 43 41 42 4,lm 44 43 4,A7 45 16 #[.const (.string ⟨#[126,61,49,46,52,46,50]⟩),.const (.string ⟨#[49,46,53]⟩)] #[9,9] 4 44 true,Ay 46 4 45 4 44 true,AS 47 44 46 4,lm 48 47 4,A7 49 16 #[.const (.string ⟨#[61,61,49,46,49]⟩),.const (.string ⟨#[49,46,49,46,48,43,108,111,99,97,108]⟩)] #[9,9] 4 48 true,AS 50 48 49 4,lm 51 50 4,A7 52 16 #[.const (.string ⟨#[62,49,46,55]⟩),.const (.string ⟨#[49,46,55,46,49]⟩)] #[9,9] 4 51 true,AS 53 51 52 4,lm 54 53 4,A7 55 16 #[.const (.string ⟨#[62,49,46,55]⟩),.const (.string ⟨#[49,46,55,46,48,46,112,111,115,116,49]⟩)] #[9,9] 4 54 true,Ay 56 4 55 4 54 true,AS 57 54 56 4,lm 58 57 4,A7 59 16 #[.const (.string ⟨#[62,61,50,46,48,97,49]⟩),.const (.string ⟨#[50,46,48,98,49]⟩)] #[9,9] 4 58 true,AS 60 58 59 4,lm 61 60 4,Aa 62 25 3 25 61 true,lg 63 (.build 25 #[(0,.const (.int .i64 10)),(1,.const (.int .i64 1))]) 25 61 true,Bb 64 25 62 63 25 4 61 true,AS 65 61 64 4,lm 66 65 4,Aa 67 25 5 25 66 true,lg 68 (.build 25 #[(0,.const (.int .i64 10)),(1,.const (.int .i64 4))]) 25 66 true,Bb 69 25 67 68 25 4 66 true,AS 70 66 69 4,lm 71 70 4,Aa 72 25 7 25 71 true,lg 73 (.build 25 #[(0,.const (.int .i64 19)),(1,.const (.int .i64 2))]) 25 71 true,Bb 74 25 72 73 25 4 71 true,AS 75 71 74 4,AB 0 75 4]
abbrev gW:LC:=.seq (.reg false b8) (.seq (.reg false b9) (.seq (.reg false cA) (.seq (.reg false cC) (.seq (.reg false cD) (.seq (.reg false cE) .ret)))))
theorem gX:Bf E 7 76 [.tmp 0] gW:=Bp Go.Proofs.Tryz.f7
noncomputable def HW:Option (Bool):=Option.bind (D2 [61,49]) (fun (x1,x2,x3)=>Option.bind (D2 [62,61,49,44,44,60,50]) (fun (x4,x5,x6)=>Option.bind (D2 [126,61,49]) (fun (x7,x8,x9)=>Option.bind (CM [62,61,49,46,48,44,32,33,61,49,46,53,46,42,44,32,60,50] [49,46,52]) (fun x10=>Option.bind (if x10=true then Option.bind (CM [62,61,49,46,48,44,32,33,61,49,46,53,46,42,44,32,60,50] [49,46,54,46,112,111,115,116,49]) (fun x13=>some x13) else some false:Option (Bool)) (fun x12=>Option.bind (if x12=true then Option.bind (CM [62,61,49,46,48,44,32,33,61,49,46,53,46,42,44,32,60,50] [49,46,53,46,51]) (fun x16=>some (!x16)) else some false:Option (Bool)) (fun x15=>Option.bind (if x15=true then Option.bind (CM [62,61,49,46,48,44,32,33,61,49,46,53,46,42,44,32,60,50] [50,46,48,97,49]) (fun x19=>some (!x19)) else some false:Option (Bool)) (fun x18=>Option.bind (if x18=true then Option.bind (CM [62,61,49,46,48,44,32,33,61,49,46,53,46,42,44,32,60,50] [50,46,48]) (fun x22=>some (!x22)) else some false:Option (Bool)) (fun x21=>Option.bind (if x21=true then Option.bind (CM [126,61,49,46,52,46,50] [49,46,52,46,57]) (fun x25=>some x25) else some false:Option (Bool)) (fun x24=>Option.bind (if x24=true then Option.bind (CM [126,61,49,46,52,46,50] [49,46,53]) (fun x28=>some (!x28)) else some false:Option (Bool)) (fun x27=>Option.bind (if x27=true then Option.bind (CM [61,61,49,46,49] [49,46,49,46,48,43,108,111,99,97,108]) (fun x31=>some x31) else some false:Option (Bool)) (fun x30=>Option.bind (if x30=true then Option.bind (CM [62,49,46,55] [49,46,55,46,49]) (fun x34=>some x34) else some false:Option (Bool)) (fun x33=>Option.bind (if x33=true then Option.bind (CM [62,49,46,55] [49,46,55,46,48,46,112,111,115,116,49]) (fun x37=>some (!x37)) else some false:Option (Bool)) (fun x36=>Option.bind (if x36=true then Option.bind (CM [62,61,50,46,48,97,49] [50,46,48,98,49]) (fun x40=>some x40) else some false:Option (Bool)) (fun x39=>some (((x39 && ((x2 == 10) && (x3 == 1))) && ((x5 == 10) && (x6 == 4))) && ((x8 == 19) && (x9 == 2)))))))))))))))))
theorem Rg:Ct E 7 [] (HW) (fun r:Bool=>bv r):=CN gX (by
 unfold HW
 refine jS ⟨[],[],0⟩ ?_
 refine jS ⟨[V 1 (bs [62,61,49,46,48,44,32,33,61,49,46,53,46,42,44,32,60,50])],[],0⟩ ?_
 refine jR ?_
 refine BC 0 [] [(0,some 0)] (fun r:List AK × Int × Int=>[(0,.rows 3 (List.map AC r.1))]) (fun r:List AK × Int × Int=>.tup [.osl 0 0 (List.length r.1) 3,.agg [iv r.2.1,iv r.2.2]]) 2 (FV [61,49]) AD (fun r=>(pc (.inr (hL 0 (AY A3 _))) AD)) ?_
 rintro⟨x1,x2,x3⟩ hm3
 refine jG 1 6 ⟨[V 1 (bs [62,61,49,46,48,44,32,33,61,49,46,53,46,42,44,32,60,50]),V 3 (pt 2 2)],[W 2 2 [iv x2,iv x3]],3⟩ ?_
 refine jN (jR ?_)
 refine BC 0 [] [(3,some 0)] (fun r:List AK × Int × Int=>[W 2 2 [iv x2,iv x3],(3,.rows 3 (List.map AC r.1))]) (fun r:List AK × Int × Int=>.tup [.osl 3 0 (List.length r.1) 3,.agg [iv r.2.1,iv r.2.2]]) 5 (FV [62,61,49,44,44,60,50]) AD (fun r=>(pc (.inl ⟨rfl,rfl⟩) (pc (.inr (hL 0 (AY A3 _))) AD))) ?_
 rintro⟨x4,x5,x6⟩ hm2
 refine jG 1 6 ⟨[V 1 (bs [62,61,49,46,48,44,32,33,61,49,46,53,46,42,44,32,60,50]),V 3 (pt 2 2),V 5 (pt 5 2)],[W 2 2 [iv x2,iv x3],W 5 2 [iv x5,iv x6]],6⟩ ?_
 refine jN (jR ?_)
 refine BC 0 [] [(6,some 0)] (fun r:List AK × Int × Int=>[W 2 2 [iv x2,iv x3],W 5 2 [iv x5,iv x6],(6,.rows 3 (List.map AC r.1))]) (fun r:List AK × Int × Int=>.tup [.osl 6 0 (List.length r.1) 3,.agg [iv r.2.1,iv r.2.2]]) 8 (FV [126,61,49]) AD (fun r=>(pc (.inl ⟨rfl,rfl⟩) (pc (.inl ⟨rfl,rfl⟩) (pc (.inr (hL 0 (AY A3 _))) AD)))) ?_
 rintro⟨x7,x8,x9⟩ hm1
 refine jG 1 6 ⟨[V 1 (bs [62,61,49,46,48,44,32,33,61,49,46,53,46,42,44,32,60,50]),V 3 (pt 2 2),V 5 (pt 5 2),V 7 (pt 8 2)],[W 2 2 [iv x2,iv x3],W 5 2 [iv x5,iv x6],W 8 2 [iv x8,iv x9]],9⟩ ?_
 refine jN (jR (jG 0 1 ⟨[V 1 (bs [62,61,49,46,48,44,32,33,61,49,46,53,46,42,44,32,60,50]),V 3 (pt 2 2),V 5 (pt 5 2),V 7 (pt 8 2),V 20 (bs [62,61,49,46,48,44,32,33,61,49,46,53,46,42,44,32,60,50])],[W 2 2 [iv x2,iv x3],W 5 2 [iv x5,iv x6],W 8 2 [iv x8,iv x9]],9⟩ ?_))
 refine jK 1 (CP [62,61,49,46,48,44,32,33,61,49,46,53,46,42,44,32,60,50] [49,46,52]) ?_
 intro x10 h10
 refine jG 2 1 ⟨[V 1 (bs [62,61,49,46,48,44,32,33,61,49,46,53,46,42,44,32,60,50]),V 3 (pt 2 2),V 5 (pt 5 2),V 7 (pt 8 2),V 22 (bv x10)],[W 2 2 [iv x2,iv x3],W 5 2 [iv x5,iv x6],W 8 2 [iv x8,iv x9]],9⟩ ?_
 refine A2 3 3 (fun x12=>⟨[V 1 (bs [62,61,49,46,48,44,32,33,61,49,46,53,46,42,44,32,60,50]),V 3 (pt 0 2),V 5 (pt 1 2),V 7 (pt 2 2),V 25 (bv x12)],[W 0 2 [iv x2,iv x3],W 1 2 [iv x5,iv x6],W 2 2 [iv x8,iv x9]],3⟩) ?_ ?_
 ·refine jSp 22 ?_ ?_
  ·refine jG 0 1 ⟨[V 1 (bs [62,61,49,46,48,44,32,33,61,49,46,53,46,42,44,32,60,50]),V 3 (pt 2 2),V 5 (pt 5 2),V 7 (pt 8 2),(22,.lit true),V 23 (bs [62,61,49,46,48,44,32,33,61,49,46,53,46,42,44,32,60,50])],[W 2 2 [iv x2,iv x3],W 5 2 [iv x5,iv x6],W 8 2 [iv x8,iv x9]],9⟩ ?_
   refine jK 1 (CP [62,61,49,46,48,44,32,33,61,49,46,53,46,42,44,32,60,50] [49,46,54,46,112,111,115,116,49]) ?_
   intro x13 h13
   refine jG 2 1 ⟨[V 1 (bs [62,61,49,46,48,44,32,33,61,49,46,53,46,42,44,32,60,50]),V 3 (pt 2 2),V 5 (pt 5 2),V 7 (pt 8 2),V 25 (bv x13)],[W 2 2 [iv x2,iv x3],W 5 2 [iv x5,iv x6],W 8 2 [iv x8,iv x9]],9⟩ ?_
   exact Ad rfl (AU rfl (wkR [(0,some 2),(1,some 5),(2,some 8)] (Am _) (pc (hC 2) (pc (hC 5) (pc (hC 8) AD)))))
  refine jG 0 3 ⟨[V 1 (bs [62,61,49,46,48,44,32,33,61,49,46,53,46,42,44,32,60,50]),V 3 (pt 2 2),V 5 (pt 5 2),V 7 (pt 8 2),V 25 (bv false)],[W 2 2 [iv x2,iv x3],W 5 2 [iv x5,iv x6],W 8 2 [iv x8,iv x9]],9⟩ ?_
  exact Ad rfl (AU rfl (wkR [(0,some 2),(1,some 5),(2,some 8)] (Am _) (pc (hC 2) (pc (hC 5) (pc (hC 8) AD)))))
 intro x12
 refine jG 6 1 ⟨[V 1 (bs [62,61,49,46,48,44,32,33,61,49,46,53,46,42,44,32,60,50]),V 3 (pt 0 2),V 5 (pt 1 2),V 7 (pt 2 2),V 26 (bv x12)],[W 0 2 [iv x2,iv x3],W 1 2 [iv x5,iv x6],W 2 2 [iv x8,iv x9]],3⟩ ?_
 refine A2 7 4 (fun x15=>⟨[V 1 (bs [62,61,49,46,48,44,32,33,61,49,46,53,46,42,44,32,60,50]),V 3 (pt 0 2),V 5 (pt 1 2),V 7 (pt 2 2),V 30 (bv x15)],[W 0 2 [iv x2,iv x3],W 1 2 [iv x5,iv x6],W 2 2 [iv x8,iv x9]],3⟩) ?_ ?_
 ·refine jSp 26 ?_ ?_
  ·refine jG 0 1 ⟨[V 1 (bs [62,61,49,46,48,44,32,33,61,49,46,53,46,42,44,32,60,50]),V 3 (pt 0 2),V 5 (pt 1 2),V 7 (pt 2 2),(26,.lit true),V 27 (bs [62,61,49,46,48,44,32,33,61,49,46,53,46,42,44,32,60,50])],[W 0 2 [iv x2,iv x3],W 1 2 [iv x5,iv x6],W 2 2 [iv x8,iv x9]],3⟩ ?_
   refine jK 1 (CP [62,61,49,46,48,44,32,33,61,49,46,53,46,42,44,32,60,50] [49,46,53,46,51]) ?_
   intro x16 h16
   refine jG 2 2 ⟨[V 1 (bs [62,61,49,46,48,44,32,33,61,49,46,53,46,42,44,32,60,50]),V 3 (pt 0 2),V 5 (pt 1 2),V 7 (pt 2 2),V 30 (bv (!x16))],[W 0 2 [iv x2,iv x3],W 1 2 [iv x5,iv x6],W 2 2 [iv x8,iv x9]],3⟩ ?_
   exact Ad rfl (AU rfl (wkR [(0,some 0),(1,some 1),(2,some 2)] (Am _) (pc (hC 0) (pc (hC 1) (pc (hC 2) AD)))))
  refine jG 0 4 ⟨[V 1 (bs [62,61,49,46,48,44,32,33,61,49,46,53,46,42,44,32,60,50]),V 3 (pt 0 2),V 5 (pt 1 2),V 7 (pt 2 2),V 30 (bv false)],[W 0 2 [iv x2,iv x3],W 1 2 [iv x5,iv x6],W 2 2 [iv x8,iv x9]],3⟩ ?_
  exact Ad rfl (AU rfl (wkR [(0,some 0),(1,some 1),(2,some 2)] (Am _) (pc (hC 0) (pc (hC 1) (pc (hC 2) AD)))))
 intro x15
 refine jG 11 1 ⟨[V 1 (bs [62,61,49,46,48,44,32,33,61,49,46,53,46,42,44,32,60,50]),V 3 (pt 0 2),V 5 (pt 1 2),V 7 (pt 2 2),V 31 (bv x15)],[W 0 2 [iv x2,iv x3],W 1 2 [iv x5,iv x6],W 2 2 [iv x8,iv x9]],3⟩ ?_
 refine A2 12 4 (fun x18=>⟨[V 1 (bs [62,61,49,46,48,44,32,33,61,49,46,53,46,42,44,32,60,50]),V 3 (pt 0 2),V 5 (pt 1 2),V 7 (pt 2 2),V 35 (bv x18)],[W 0 2 [iv x2,iv x3],W 1 2 [iv x5,iv x6],W 2 2 [iv x8,iv x9]],3⟩) ?_ ?_
 ·refine jSp 31 ?_ ?_
  ·refine jG 0 1 ⟨[V 1 (bs [62,61,49,46,48,44,32,33,61,49,46,53,46,42,44,32,60,50]),V 3 (pt 0 2),V 5 (pt 1 2),V 7 (pt 2 2),(31,.lit true),V 32 (bs [62,61,49,46,48,44,32,33,61,49,46,53,46,42,44,32,60,50])],[W 0 2 [iv x2,iv x3],W 1 2 [iv x5,iv x6],W 2 2 [iv x8,iv x9]],3⟩ ?_
   refine jK 1 (CP [62,61,49,46,48,44,32,33,61,49,46,53,46,42,44,32,60,50] [50,46,48,97,49]) ?_
   intro x19 h19
   refine jG 2 2 ⟨[V 1 (bs [62,61,49,46,48,44,32,33,61,49,46,53,46,42,44,32,60,50]),V 3 (pt 0 2),V 5 (pt 1 2),V 7 (pt 2 2),V 35 (bv (!x19))],[W 0 2 [iv x2,iv x3],W 1 2 [iv x5,iv x6],W 2 2 [iv x8,iv x9]],3⟩ ?_
   exact Ad rfl (AU rfl (wkR [(0,some 0),(1,some 1),(2,some 2)] (Am _) (pc (hC 0) (pc (hC 1) (pc (hC 2) AD)))))
  refine jG 0 4 ⟨[V 1 (bs [62,61,49,46,48,44,32,33,61,49,46,53,46,42,44,32,60,50]),V 3 (pt 0 2),V 5 (pt 1 2),V 7 (pt 2 2),V 35 (bv false)],[W 0 2 [iv x2,iv x3],W 1 2 [iv x5,iv x6],W 2 2 [iv x8,iv x9]],3⟩ ?_
  exact Ad rfl (AU rfl (wkR [(0,some 0),(1,some 1),(2,some 2)] (Am _) (pc (hC 0) (pc (hC 1) (pc (hC 2) AD)))))
 intro x18
 refine jG 16 1 ⟨[V 1 (bs [62,61,49,46,48,44,32,33,61,49,46,53,46,42,44,32,60,50]),V 3 (pt 0 2),V 5 (pt 1 2),V 7 (pt 2 2),V 36 (bv x18)],[W 0 2 [iv x2,iv x3],W 1 2 [iv x5,iv x6],W 2 2 [iv x8,iv x9]],3⟩ ?_
 refine A2 17 4 (fun x21=>⟨[V 3 (pt 0 2),V 5 (pt 1 2),V 7 (pt 2 2),V 40 (bv x21)],[W 0 2 [iv x2,iv x3],W 1 2 [iv x5,iv x6],W 2 2 [iv x8,iv x9]],3⟩) ?_ ?_
 ·refine jSp 36 ?_ ?_
  ·refine jG 0 1 ⟨[V 3 (pt 0 2),V 5 (pt 1 2),V 7 (pt 2 2),(36,.lit true),V 37 (bs [62,61,49,46,48,44,32,33,61,49,46,53,46,42,44,32,60,50])],[W 0 2 [iv x2,iv x3],W 1 2 [iv x5,iv x6],W 2 2 [iv x8,iv x9]],3⟩ ?_
   refine jK 1 (CP [62,61,49,46,48,44,32,33,61,49,46,53,46,42,44,32,60,50] [50,46,48]) ?_
   intro x22 h22
   refine jG 2 2 ⟨[V 3 (pt 0 2),V 5 (pt 1 2),V 7 (pt 2 2),V 40 (bv (!x22))],[W 0 2 [iv x2,iv x3],W 1 2 [iv x5,iv x6],W 2 2 [iv x8,iv x9]],3⟩ ?_
   exact Ad rfl (AU rfl (wkR [(0,some 0),(1,some 1),(2,some 2)] (Am _) (pc (hC 0) (pc (hC 1) (pc (hC 2) AD)))))
  refine jG 0 4 ⟨[V 3 (pt 0 2),V 5 (pt 1 2),V 7 (pt 2 2),V 40 (bv false)],[W 0 2 [iv x2,iv x3],W 1 2 [iv x5,iv x6],W 2 2 [iv x8,iv x9]],3⟩ ?_
  exact Ad rfl (AU rfl (wkR [(0,some 0),(1,some 1),(2,some 2)] (Am _) (pc (hC 0) (pc (hC 1) (pc (hC 2) AD)))))
 intro x21
 refine jG 21 1 ⟨[V 3 (pt 0 2),V 5 (pt 1 2),V 7 (pt 2 2),V 41 (bv x21)],[W 0 2 [iv x2,iv x3],W 1 2 [iv x5,iv x6],W 2 2 [iv x8,iv x9]],3⟩ ?_
 refine A2 22 2 (fun x24=>⟨[V 3 (pt 0 2),V 5 (pt 1 2),V 7 (pt 2 2),V 43 (bv x24)],[W 0 2 [iv x2,iv x3],W 1 2 [iv x5,iv x6],W 2 2 [iv x8,iv x9]],3⟩) ?_ ?_
 ·refine jSp 41 ?_ ?_
  ·refine jK 0 (CP [126,61,49,46,52,46,50] [49,46,52,46,57]) ?_
   intro x25 h25
   refine jG 1 1 ⟨[V 3 (pt 0 2),V 5 (pt 1 2),V 7 (pt 2 2),V 43 (bv x25)],[W 0 2 [iv x2,iv x3],W 1 2 [iv x5,iv x6],W 2 2 [iv x8,iv x9]],3⟩ ?_
   exact Ad rfl (AU rfl (wkR [(0,some 0),(1,some 1),(2,some 2)] (Am _) (pc (hC 0) (pc (hC 1) (pc (hC 2) AD)))))
  refine jG 0 2 ⟨[V 3 (pt 0 2),V 5 (pt 1 2),V 7 (pt 2 2),V 43 (bv false)],[W 0 2 [iv x2,iv x3],W 1 2 [iv x5,iv x6],W 2 2 [iv x8,iv x9]],3⟩ ?_
  exact Ad rfl (AU rfl (wkR [(0,some 0),(1,some 1),(2,some 2)] (Am _) (pc (hC 0) (pc (hC 1) (pc (hC 2) AD)))))
 intro x24
 refine jG 24 1 ⟨[V 3 (pt 0 2),V 5 (pt 1 2),V 7 (pt 2 2),V 44 (bv x24)],[W 0 2 [iv x2,iv x3],W 1 2 [iv x5,iv x6],W 2 2 [iv x8,iv x9]],3⟩ ?_
 refine A2 25 3 (fun x27=>⟨[V 3 (pt 0 2),V 5 (pt 1 2),V 7 (pt 2 2),V 47 (bv x27)],[W 0 2 [iv x2,iv x3],W 1 2 [iv x5,iv x6],W 2 2 [iv x8,iv x9]],3⟩) ?_ ?_
 ·refine jSp 44 ?_ ?_
  ·refine jK 0 (CP [126,61,49,46,52,46,50] [49,46,53]) ?_
   intro x28 h28
   refine jG 1 2 ⟨[V 3 (pt 0 2),V 5 (pt 1 2),V 7 (pt 2 2),V 47 (bv (!x28))],[W 0 2 [iv x2,iv x3],W 1 2 [iv x5,iv x6],W 2 2 [iv x8,iv x9]],3⟩ ?_
   exact Ad rfl (AU rfl (wkR [(0,some 0),(1,some 1),(2,some 2)] (Am _) (pc (hC 0) (pc (hC 1) (pc (hC 2) AD)))))
  refine jG 0 3 ⟨[V 3 (pt 0 2),V 5 (pt 1 2),V 7 (pt 2 2),V 47 (bv false)],[W 0 2 [iv x2,iv x3],W 1 2 [iv x5,iv x6],W 2 2 [iv x8,iv x9]],3⟩ ?_
  exact Ad rfl (AU rfl (wkR [(0,some 0),(1,some 1),(2,some 2)] (Am _) (pc (hC 0) (pc (hC 1) (pc (hC 2) AD)))))
 intro x27
 refine jG 28 1 ⟨[V 3 (pt 0 2),V 5 (pt 1 2),V 7 (pt 2 2),V 48 (bv x27)],[W 0 2 [iv x2,iv x3],W 1 2 [iv x5,iv x6],W 2 2 [iv x8,iv x9]],3⟩ ?_
 refine A2 29 2 (fun x30=>⟨[V 3 (pt 0 2),V 5 (pt 1 2),V 7 (pt 2 2),V 50 (bv x30)],[W 0 2 [iv x2,iv x3],W 1 2 [iv x5,iv x6],W 2 2 [iv x8,iv x9]],3⟩) ?_ ?_
 ·refine jSp 48 ?_ ?_
  ·refine jK 0 (CP [61,61,49,46,49] [49,46,49,46,48,43,108,111,99,97,108]) ?_
   intro x31 h31
   refine jG 1 1 ⟨[V 3 (pt 0 2),V 5 (pt 1 2),V 7 (pt 2 2),V 50 (bv x31)],[W 0 2 [iv x2,iv x3],W 1 2 [iv x5,iv x6],W 2 2 [iv x8,iv x9]],3⟩ ?_
   exact Ad rfl (AU rfl (wkR [(0,some 0),(1,some 1),(2,some 2)] (Am _) (pc (hC 0) (pc (hC 1) (pc (hC 2) AD)))))
  refine jG 0 2 ⟨[V 3 (pt 0 2),V 5 (pt 1 2),V 7 (pt 2 2),V 50 (bv false)],[W 0 2 [iv x2,iv x3],W 1 2 [iv x5,iv x6],W 2 2 [iv x8,iv x9]],3⟩ ?_
  exact Ad rfl (AU rfl (wkR [(0,some 0),(1,some 1),(2,some 2)] (Am _) (pc (hC 0) (pc (hC 1) (pc (hC 2) AD)))))
 intro x30
 refine jG 31 1 ⟨[V 3 (pt 0 2),V 5 (pt 1 2),V 7 (pt 2 2),V 51 (bv x30)],[W 0 2 [iv x2,iv x3],W 1 2 [iv x5,iv x6],W 2 2 [iv x8,iv x9]],3⟩ ?_
 refine A2 32 2 (fun x33=>⟨[V 3 (pt 0 2),V 5 (pt 1 2),V 7 (pt 2 2),V 53 (bv x33)],[W 0 2 [iv x2,iv x3],W 1 2 [iv x5,iv x6],W 2 2 [iv x8,iv x9]],3⟩) ?_ ?_
 ·refine jSp 51 ?_ ?_
  ·refine jK 0 (CP [62,49,46,55] [49,46,55,46,49]) ?_
   intro x34 h34
   refine jG 1 1 ⟨[V 3 (pt 0 2),V 5 (pt 1 2),V 7 (pt 2 2),V 53 (bv x34)],[W 0 2 [iv x2,iv x3],W 1 2 [iv x5,iv x6],W 2 2 [iv x8,iv x9]],3⟩ ?_
   exact Ad rfl (AU rfl (wkR [(0,some 0),(1,some 1),(2,some 2)] (Am _) (pc (hC 0) (pc (hC 1) (pc (hC 2) AD)))))
  refine jG 0 2 ⟨[V 3 (pt 0 2),V 5 (pt 1 2),V 7 (pt 2 2),V 53 (bv false)],[W 0 2 [iv x2,iv x3],W 1 2 [iv x5,iv x6],W 2 2 [iv x8,iv x9]],3⟩ ?_
  exact Ad rfl (AU rfl (wkR [(0,some 0),(1,some 1),(2,some 2)] (Am _) (pc (hC 0) (pc (hC 1) (pc (hC 2) AD)))))
 intro x33
 refine jG 34 1 ⟨[V 3 (pt 0 2),V 5 (pt 1 2),V 7 (pt 2 2),V 54 (bv x33)],[W 0 2 [iv x2,iv x3],W 1 2 [iv x5,iv x6],W 2 2 [iv x8,iv x9]],3⟩ ?_
 refine A2 35 3 (fun x36=>⟨[V 3 (pt 0 2),V 5 (pt 1 2),V 7 (pt 2 2),V 57 (bv x36)],[W 0 2 [iv x2,iv x3],W 1 2 [iv x5,iv x6],W 2 2 [iv x8,iv x9]],3⟩) ?_ ?_
 ·refine jSp 54 ?_ ?_
  ·refine jK 0 (CP [62,49,46,55] [49,46,55,46,48,46,112,111,115,116,49]) ?_
   intro x37 h37
   refine jG 1 2 ⟨[V 3 (pt 0 2),V 5 (pt 1 2),V 7 (pt 2 2),V 57 (bv (!x37))],[W 0 2 [iv x2,iv x3],W 1 2 [iv x5,iv x6],W 2 2 [iv x8,iv x9]],3⟩ ?_
   exact Ad rfl (AU rfl (wkR [(0,some 0),(1,some 1),(2,some 2)] (Am _) (pc (hC 0) (pc (hC 1) (pc (hC 2) AD)))))
  refine jG 0 3 ⟨[V 3 (pt 0 2),V 5 (pt 1 2),V 7 (pt 2 2),V 57 (bv false)],[W 0 2 [iv x2,iv x3],W 1 2 [iv x5,iv x6],W 2 2 [iv x8,iv x9]],3⟩ ?_
  exact Ad rfl (AU rfl (wkR [(0,some 0),(1,some 1),(2,some 2)] (Am _) (pc (hC 0) (pc (hC 1) (pc (hC 2) AD)))))
 intro x36
 refine jG 38 1 ⟨[V 3 (pt 0 2),V 5 (pt 1 2),V 7 (pt 2 2),V 58 (bv x36)],[W 0 2 [iv x2,iv x3],W 1 2 [iv x5,iv x6],W 2 2 [iv x8,iv x9]],3⟩ ?_
 refine A2 39 2 (fun x39=>⟨[V 3 (pt 0 2),V 5 (pt 1 2),V 7 (pt 2 2),V 60 (bv x39)],[W 0 2 [iv x2,iv x3],W 1 2 [iv x5,iv x6],W 2 2 [iv x8,iv x9]],3⟩) ?_ ?_
 ·refine jSp 58 ?_ ?_
  ·refine jK 0 (CP [62,61,50,46,48,97,49] [50,46,48,98,49]) ?_
   intro x40 h40
   refine jG 1 1 ⟨[V 3 (pt 0 2),V 5 (pt 1 2),V 7 (pt 2 2),V 60 (bv x40)],[W 0 2 [iv x2,iv x3],W 1 2 [iv x5,iv x6],W 2 2 [iv x8,iv x9]],3⟩ ?_
   exact Ad rfl (AU rfl (wkR [(0,some 0),(1,some 1),(2,some 2)] (Am _) (pc (hC 0) (pc (hC 1) (pc (hC 2) AD)))))
  refine jG 0 2 ⟨[V 3 (pt 0 2),V 5 (pt 1 2),V 7 (pt 2 2),V 60 (bv false)],[W 0 2 [iv x2,iv x3],W 1 2 [iv x5,iv x6],W 2 2 [iv x8,iv x9]],3⟩ ?_
  exact Ad rfl (AU rfl (wkR [(0,some 0),(1,some 1),(2,some 2)] (Am _) (pc (hC 0) (pc (hC 1) (pc (hC 2) AD)))))
 intro x39
 refine jG 41 16 ⟨[V 0 (bv (((x39 && ((x2 == 10) && (x3 == 1))) && ((x5 == 10) && (x6 == 4))) && ((x8 == 19) && (x9 == 2))))],[],3⟩ ?_
 exact jN (Ae (BO (bv (((x39 && ((x2 == 10) && (x3 == 1))) && ((x5 == 10) && (x6 == 4))) && ((x8 == 19) && (x9 == 2)))))))
abbrev JT:List LO:=[Ag 4 4]
abbrev JU:List LO:=[lm 5 0 9,AF 6 9 1 9,lo 7 (.build 39 #[(0,AE 5),(1,AE 6)]) 39,AF 8 9 2 9,AN 9 12 #[AE 7,AE 8] #[39,9] 4,AB 4 9 4]
abbrev KE:LC:=.seq (.reg false JT) (.seq (.reg false JU) .ret)
theorem KF:Bf E 11 10 [.tmp 4] KE:=Bp Go.Proofs.Tryz.f11
noncomputable def BE (a0:Str) (a1:Str) (a2:Str):Option (Bool):=Option.bind (Gr (AK.mk a0 a1 false) a2) (fun x1=>some x1)
theorem BN (a0:Str) (a1:Str) (a2:Str):Ct E 11 [bs a0,.fptr [bs a1] 0,.fptr [bs a2] 0] (BE a0 a1 a2) (fun r:Bool=>bv r):=CN KF (by
 unfold BE
 refine jS ⟨[V 0 (bs a0),V 1 (.fptr [bs a1] 0),V 2 (.fptr [bs a2] 0)],[],0⟩ ?_
 refine jR (jG 0 4 ⟨[V 7 (.agg [bs a0,bs a1,bv false]),V 8 (bs a2)],[],0⟩ ?_)
 refine jK 4 (QT (AK.mk a0 a1 false) a2) ?_
 intro x1 h1
 refine jG 5 1 ⟨[V 4 (bv x1)],[],0⟩ ?_
 exact jN (Ae (BO (bv x1))))
abbrev O9:List LO:=[BT 2 9 0 0,BT 3 9 1 0,Ag 4 4]
abbrev PA:List LO:=[AF 9 9 2 9,AN 10 10 #[AE 9] #[9] 35,lm 8 10 35,Aq 11 8 0 34,Aq 12 8 1 25,BH 5 34 0,BH 6 25 0,AO 34 5 11 0,AO 25 6 12 0]
abbrev PB:List LO:=[AA 13 25 6 0 0,AF 14 23 13 23,BM 15 23 14 0 23 4,lm 16 15 4,AM 17 34 5 8 0 16 false,Aa 18 32 17 32 16 false,BF 19 #[AE 18] #[32] 3 16 false,lg 20 (.binOp .gtr 3 (AE 19) (.const (.int .i64 0)) 3) 4 16 false,Ak 21 16 20 4]
abbrev PC:List LO:=[AN 22 7 #[] #[] 4,AB 4 22 4]
abbrev PD:List LO:=[lo 23 (.makeFunc (Fn.func 11) #[] #[AE 2,AE 3]) 31,AB 7 23 31]
abbrev PE:List LO:=[lm 24 7 31,lo 25 (.call ⟨.value (AE 24),#[.const (.string ⟨#[126,61]⟩)],#[9]⟩) 4,lm 26 25 4,lmg 27 7 31 26 true,lg 28 (.call ⟨.value (AE 27),#[.const (.string ⟨#[62,61]⟩)],#[9]⟩) 4 26 true,Ay 29 4 28 4 26 true,AS 30 26 29 4,lm 31 30 4,lmg 32 7 31 31 false,lg 33 (.call ⟨.value (AE 32),#[.const (.string ⟨#[60]⟩)],#[9]⟩) 4 31 false,lmg 34 33 4 31 false,lmg 35 7 31 34 true,lg 36 (.call ⟨.value (AE 35),#[.const (.string ⟨#[62]⟩)],#[9]⟩) 4 34 true,Dr 37 34 36 4 31 false,Ak 38 31 37 4,lm 39 38 4,lmg 40 7 31 39 false,lg 41 (.call ⟨.value (AE 40),#[.const (.string ⟨#[60]⟩)],#[9]⟩) 4 39 false,lmg 42 41 4 39 false,lmg 43 7 31 42 true,lg 44 (.call ⟨.value (AE 43),#[.const (.string ⟨#[60,61]⟩)],#[9]⟩) 4 42 true,Ay 45 4 44 4 42 true,Dr 46 42 45 4 39 false,Ak 47 39 46 4]
abbrev PF:List LO:=[Ag 4 4]
abbrev PG:List LO:=[lm 48 7 31,lo 49 (.call ⟨.value (AE 48),#[.const (.string ⟨#[60,61]⟩)],#[9]⟩) 4,lm 50 49 4,lmg 51 7 31 50 true,lg 52 (.call ⟨.value (AE 51),#[.const (.string ⟨#[62,61]⟩)],#[9]⟩) 4 50 true,AS 53 50 52 4,lm 54 7 31,lo 55 (.call ⟨.value (AE 54),#[.const (.string ⟨#[61,61]⟩)],#[9]⟩) 4,CV 56 4 53 55 4 4,lm 57 56 4,A7 58 7 #[] #[] 4 57 true,AS 59 57 58 4,AB 4 59 4]
abbrev QW:LC:=.seq (.reg false O9) (.seq (.reg false PA) (.seq (.seq (.reg false PB) (.cond (AE 21) (.seq (.reg false PC) .ret) .skip)) (.seq (.reg false PD) (.seq (.seq (.reg false PE) (.cond (AE 47) (.seq (.reg false PF) .ret) .skip)) (.seq (.reg false PG) .ret)))))
theorem QX:Bf E 4 60 [.tmp 4] QW:=Bp Go.Proofs.Tryz.f4
noncomputable def Dw (a0:Str) (a1:Str):Option (Bool):=Option.bind (Ke a0) (fun x1=>(if ((x1.2.Err != 0) || (decide ((List.length x1.1.Local:Int) > 0)))=true then Option.bind (HW) (fun x2=>some x2) else Option.bind (BE [126,61] a0 a1) (fun x3=>Option.bind (if x3=true then Option.bind (BE [62,61] a0 a1) (fun x6=>some (!x6)) else some false:Option (Bool)) (fun x5=>Option.bind (if x5=true then some true else Option.bind (BE [60] a0 a1) (fun x11=>Option.bind (if x11=true then Option.bind (BE [62] a0 a1) (fun x14=>some x14) else some false:Option (Bool)) (fun x13=>some (false || x13))):Option (Bool)) (fun x10=>Option.bind (if x10=true then some true else Option.bind (BE [60] a0 a1) (fun x19=>Option.bind (if x19=true then Option.bind (BE [60,61] a0 a1) (fun x22=>some (!x22)) else some false:Option (Bool)) (fun x21=>some (false || x21))):Option (Bool)) (fun x18=>(if x18=true then some false else Option.bind (BE [60,61] a0 a1) (fun x23=>Option.bind (if x23=true then Option.bind (BE [62,61] a0 a1) (fun x26=>some x26) else some false:Option (Bool)) (fun x25=>Option.bind (BE [61,61] a0 a1) (fun x27=>Option.bind (if (x25 == x27)=true then Option.bind (HW) (fun x30=>some x30) else some false:Option (Bool)) (fun x29=>some x29)))))))))))
theorem O8 (a0:Str) (a1:Str):Ct E 4 [bs a0,bs a1] (Dw a0 a1) (fun r:Bool=>bv r):=CN QX (by
 unfold Dw
 refine jS ⟨[V 2 (pt 0 1),V 3 (pt 1 1)],[W 0 1 [bs a0],W 1 1 [bs a1]],2⟩ ?_
 refine jR (jG 0 1 ⟨[V 2 (pt 0 1),V 3 (pt 1 1),V 9 (bs a0)],[W 0 1 [bs a0],W 1 1 [bs a1]],2⟩ ?_)
 refine jK 1 (eW a0) ?_
 intro x1 h1
 refine jG 2 7 ⟨[V 2 (pt 0 1),V 3 (pt 1 1),V 5 (pt 2 9),V 6 (pt 3 2)],[W 0 1 [bs a0],W 1 1 [bs a1],W 2 9 (AJ x1.1),W 3 2 [iv x1.2.Err,iv x1.2.At]],4⟩ ?_
 refine jN (Aj (jR (jG 0 9 ⟨[V 2 (pt 0 1),V 3 (pt 1 1),V 21 (bv ((x1.2.Err != 0) || (decide ((List.length (List.map cS x1.1.Local):Int) > 0))))],[W 0 1 [bs a0],W 1 1 [bs a1]],4⟩ ?_)))
 simp only[List.length_map]
 refine jN ?_
 refine jIf ?_ ?_
 ·refine jR ?_
  refine jK 0 (Rg) ?_
  intro x2 h2
  refine jG 1 1 ⟨[V 4 (bv x2)],[],4⟩ ?_
  exact jN (Ae (Ar (BO (bv x2))))
 refine Ah (Ab (jS ⟨[V 7 (.fn 11 [pt 0 1,pt 1 1])],[W 0 1 [bs a0],W 1 1 [bs a1]],4⟩ ?_))
 refine Aj (jR (jG 0 1 ⟨[V 7 (.fn 11 [pt 0 1,pt 1 1]),V 24 (.fn 11 [pt 0 1,pt 1 1])],[W 0 1 [bs a0],W 1 1 [bs a1]],4⟩ ?_))
 refine B7 (i:=1) rfl rfl rfl rfl (g:=11) (caps:=[pt 0 1,pt 1 1]) (avs:=[bs [126,61]]) (vs:=[bs [126,61],pt 0 1,pt 1 1]) (vs0:=[bs [126,61],.fptr [bs a0] 0,.fptr [bs a1] 0]) (b:=true) (by kernel_rfl) (by kernel_rfl) rfl (by kernel_rfl) (AL (AP _) (AL (AP _) (AL (AP _) Ax))) (BN [126,61] a0 a1) (fun _=>rfl) (fun _=>rfl) ?_
 intro x3 h3
 refine jG 2 1 ⟨[V 7 (.fn 11 [pt 0 1,pt 1 1]),V 26 (bv x3)],[W 0 1 [bs a0],W 1 1 [bs a1]],4⟩ ?_
 refine A2 3 4 (fun x5=>⟨[V 7 (.fn 11 [pt 0 1,pt 1 1]),V 30 (bv x5)],[W 0 1 [bs a0],W 1 1 [bs a1]],2⟩) ?_ ?_
 ·refine jSp 26 ?_ ?_
  ·refine jG 0 1 ⟨[V 7 (.fn 11 [pt 0 1,pt 1 1]),(26,.lit true),V 27 (.fn 11 [pt 0 1,pt 1 1])],[W 0 1 [bs a0],W 1 1 [bs a1]],4⟩ ?_
   refine B7 (i:=1) rfl rfl rfl rfl (g:=11) (caps:=[pt 0 1,pt 1 1]) (avs:=[bs [62,61]]) (vs:=[bs [62,61],pt 0 1,pt 1 1]) (vs0:=[bs [62,61],.fptr [bs a0] 0,.fptr [bs a1] 0]) (b:=true) (by kernel_rfl) (by kernel_rfl) rfl (by kernel_rfl) (AL (AP _) (AL (AP _) (AL (AP _) Ax))) (BN [62,61] a0 a1) (fun _=>rfl) (fun _=>rfl) ?_
   intro x6 h6
   refine jG 2 2 ⟨[V 7 (.fn 11 [pt 0 1,pt 1 1]),V 30 (bv (!x6))],[W 0 1 [bs a0],W 1 1 [bs a1]],4⟩ ?_
   exact Ad rfl (AU rfl (wkR [(0,some 0),(1,some 1)] (Am _) (pc (hC 0) (pc (hC 1) AD))))
  refine jG 0 4 ⟨[V 7 (.fn 11 [pt 0 1,pt 1 1]),V 30 (bv false)],[W 0 1 [bs a0],W 1 1 [bs a1]],4⟩ ?_
  exact Ad rfl (AU rfl (wkR [(0,some 0),(1,some 1)] (Am _) (pc (hC 0) (pc (hC 1) AD))))
 intro x5
 refine jG 7 1 ⟨[V 7 (.fn 11 [pt 0 1,pt 1 1]),V 31 (bv x5)],[W 0 1 [bs a0],W 1 1 [bs a1]],2⟩ ?_
 refine A2 8 7 (fun x10=>⟨[V 7 (.fn 11 [pt 0 1,pt 1 1]),V 38 (bv x10)],[W 0 1 [bs a0],W 1 1 [bs a1]],2⟩) ?_ ?_
 ·refine jSp 31 ?_ ?_
  ·refine jG 0 7 ⟨[V 7 (.fn 11 [pt 0 1,pt 1 1]),V 38 (bv true)],[W 0 1 [bs a0],W 1 1 [bs a1]],2⟩ ?_
   exact Ad rfl (AU rfl (wkR [(0,some 0),(1,some 1)] (Am _) (pc (hC 0) (pc (hC 1) AD))))
  refine jG 0 1 ⟨[V 7 (.fn 11 [pt 0 1,pt 1 1]),(31,.lit false),V 32 (.fn 11 [pt 0 1,pt 1 1])],[W 0 1 [bs a0],W 1 1 [bs a1]],2⟩ ?_
  refine B7 (i:=1) rfl rfl rfl rfl (g:=11) (caps:=[pt 0 1,pt 1 1]) (avs:=[bs [60]]) (vs:=[bs [60],pt 0 1,pt 1 1]) (vs0:=[bs [60],.fptr [bs a0] 0,.fptr [bs a1] 0]) (b:=true) (by kernel_rfl) (by kernel_rfl) rfl (by kernel_rfl) (AL (AP _) (AL (AP _) (AL (AP _) Ax))) (BN [60] a0 a1) (fun _=>rfl) (fun _=>rfl) ?_
  intro x11 h11
  refine jG 2 1 ⟨[V 7 (.fn 11 [pt 0 1,pt 1 1]),(31,.lit false),V 34 (bv x11)],[W 0 1 [bs a0],W 1 1 [bs a1]],2⟩ ?_
  refine A2 3 3 (fun x13=>⟨[V 7 (.fn 11 [pt 0 1,pt 1 1]),V 31 (bv false),V 37 (bv x13)],[W 0 1 [bs a0],W 1 1 [bs a1]],2⟩) ?_ ?_
  ·refine jSp 34 ?_ ?_
   ·refine jG 0 1 ⟨[V 7 (.fn 11 [pt 0 1,pt 1 1]),(31,.lit false),(34,.lit true),V 35 (.fn 11 [pt 0 1,pt 1 1])],[W 0 1 [bs a0],W 1 1 [bs a1]],2⟩ ?_
    refine B7 (i:=1) rfl rfl rfl rfl (g:=11) (caps:=[pt 0 1,pt 1 1]) (avs:=[bs [62]]) (vs:=[bs [62],pt 0 1,pt 1 1]) (vs0:=[bs [62],.fptr [bs a0] 0,.fptr [bs a1] 0]) (b:=true) (by kernel_rfl) (by kernel_rfl) rfl (by kernel_rfl) (AL (AP _) (AL (AP _) (AL (AP _) Ax))) (BN [62] a0 a1) (fun _=>rfl) (fun _=>rfl) ?_
    intro x14 h14
    refine jG 2 1 ⟨[V 7 (.fn 11 [pt 0 1,pt 1 1]),(31,.lit false),V 37 (bv x14)],[W 0 1 [bs a0],W 1 1 [bs a1]],2⟩ ?_
    exact Ad rfl (AU rfl (wkR [(0,some 0),(1,some 1)] (Am _) (pc (hC 0) (pc (hC 1) AD))))
   refine jG 0 3 ⟨[V 7 (.fn 11 [pt 0 1,pt 1 1]),(31,.lit false),V 37 (bv false)],[W 0 1 [bs a0],W 1 1 [bs a1]],2⟩ ?_
   exact Ad rfl (AU rfl (wkR [(0,some 0),(1,some 1)] (Am _) (pc (hC 0) (pc (hC 1) AD))))
  intro x13
  refine jG 6 1 ⟨[V 7 (.fn 11 [pt 0 1,pt 1 1]),V 38 (bv (false || x13))],[W 0 1 [bs a0],W 1 1 [bs a1]],2⟩ ?_
  exact Ad rfl (AU rfl (wkR [(0,some 0),(1,some 1)] (Am _) (pc (hC 0) (pc (hC 1) AD))))
 intro x10
 refine jG 15 1 ⟨[V 7 (.fn 11 [pt 0 1,pt 1 1]),V 39 (bv x10)],[W 0 1 [bs a0],W 1 1 [bs a1]],2⟩ ?_
 refine A2 16 8 (fun x18=>⟨[V 7 (.fn 11 [pt 0 1,pt 1 1]),V 47 (bv x18)],[W 0 1 [bs a0],W 1 1 [bs a1]],2⟩) ?_ ?_
 ·refine jSp 39 ?_ ?_
  ·refine jG 0 8 ⟨[V 7 (.fn 11 [pt 0 1,pt 1 1]),V 47 (bv true)],[W 0 1 [bs a0],W 1 1 [bs a1]],2⟩ ?_
   exact Ad rfl (AU rfl (wkR [(0,some 0),(1,some 1)] (Am _) (pc (hC 0) (pc (hC 1) AD))))
  refine jG 0 1 ⟨[V 7 (.fn 11 [pt 0 1,pt 1 1]),(39,.lit false),V 40 (.fn 11 [pt 0 1,pt 1 1])],[W 0 1 [bs a0],W 1 1 [bs a1]],2⟩ ?_
  refine B7 (i:=1) rfl rfl rfl rfl (g:=11) (caps:=[pt 0 1,pt 1 1]) (avs:=[bs [60]]) (vs:=[bs [60],pt 0 1,pt 1 1]) (vs0:=[bs [60],.fptr [bs a0] 0,.fptr [bs a1] 0]) (b:=true) (by kernel_rfl) (by kernel_rfl) rfl (by kernel_rfl) (AL (AP _) (AL (AP _) (AL (AP _) Ax))) (BN [60] a0 a1) (fun _=>rfl) (fun _=>rfl) ?_
  intro x19 h19
  refine jG 2 1 ⟨[V 7 (.fn 11 [pt 0 1,pt 1 1]),(39,.lit false),V 42 (bv x19)],[W 0 1 [bs a0],W 1 1 [bs a1]],2⟩ ?_
  refine A2 3 4 (fun x21=>⟨[V 7 (.fn 11 [pt 0 1,pt 1 1]),V 39 (bv false),V 46 (bv x21)],[W 0 1 [bs a0],W 1 1 [bs a1]],2⟩) ?_ ?_
  ·refine jSp 42 ?_ ?_
   ·refine jG 0 1 ⟨[V 7 (.fn 11 [pt 0 1,pt 1 1]),(39,.lit false),(42,.lit true),V 43 (.fn 11 [pt 0 1,pt 1 1])],[W 0 1 [bs a0],W 1 1 [bs a1]],2⟩ ?_
    refine B7 (i:=1) rfl rfl rfl rfl (g:=11) (caps:=[pt 0 1,pt 1 1]) (avs:=[bs [60,61]]) (vs:=[bs [60,61],pt 0 1,pt 1 1]) (vs0:=[bs [60,61],.fptr [bs a0] 0,.fptr [bs a1] 0]) (b:=true) (by kernel_rfl) (by kernel_rfl) rfl (by kernel_rfl) (AL (AP _) (AL (AP _) (AL (AP _) Ax))) (BN [60,61] a0 a1) (fun _=>rfl) (fun _=>rfl) ?_
    intro x22 h22
    refine jG 2 2 ⟨[V 7 (.fn 11 [pt 0 1,pt 1 1]),(39,.lit false),V 46 (bv (!x22))],[W 0 1 [bs a0],W 1 1 [bs a1]],2⟩ ?_
    exact Ad rfl (AU rfl (wkR [(0,some 0),(1,some 1)] (Am _) (pc (hC 0) (pc (hC 1) AD))))
   refine jG 0 4 ⟨[V 7 (.fn 11 [pt 0 1,pt 1 1]),(39,.lit false),V 46 (bv false)],[W 0 1 [bs a0],W 1 1 [bs a1]],2⟩ ?_
   exact Ad rfl (AU rfl (wkR [(0,some 0),(1,some 1)] (Am _) (pc (hC 0) (pc (hC 1) AD))))
  intro x21
  refine jG 7 1 ⟨[V 7 (.fn 11 [pt 0 1,pt 1 1]),V 47 (bv (false || x21))],[W 0 1 [bs a0],W 1 1 [bs a1]],2⟩ ?_
  exact Ad rfl (AU rfl (wkR [(0,some 0),(1,some 1)] (Am _) (pc (hC 0) (pc (hC 1) AD))))
 intro x18
 refine jN ?_
 refine jIf ?_ ?_
 ·refine jS ⟨[V 4 (bv false)],[],2⟩ ?_
  exact Ae (Ar (BO (bv false)))
 refine Ah (Ab (jR (jG 0 1 ⟨[V 7 (.fn 11 [pt 0 1,pt 1 1]),V 48 (.fn 11 [pt 0 1,pt 1 1])],[W 0 1 [bs a0],W 1 1 [bs a1]],2⟩ ?_)))
 refine B7 (i:=1) rfl rfl rfl rfl (g:=11) (caps:=[pt 0 1,pt 1 1]) (avs:=[bs [60,61]]) (vs:=[bs [60,61],pt 0 1,pt 1 1]) (vs0:=[bs [60,61],.fptr [bs a0] 0,.fptr [bs a1] 0]) (b:=true) (by kernel_rfl) (by kernel_rfl) rfl (by kernel_rfl) (AL (AP _) (AL (AP _) (AL (AP _) Ax))) (BN [60,61] a0 a1) (fun _=>rfl) (fun _=>rfl) ?_
 intro x23 h23
 refine jG 2 1 ⟨[V 7 (.fn 11 [pt 0 1,pt 1 1]),V 50 (bv x23)],[W 0 1 [bs a0],W 1 1 [bs a1]],2⟩ ?_
 refine A2 3 3 (fun x25=>⟨[V 7 (.fn 11 [pt 0 1,pt 1 1]),V 53 (bv x25)],[W 0 1 [bs a0],W 1 1 [bs a1]],2⟩) ?_ ?_
 ·refine jSp 50 ?_ ?_
  ·refine jG 0 1 ⟨[V 7 (.fn 11 [pt 0 1,pt 1 1]),(50,.lit true),V 51 (.fn 11 [pt 0 1,pt 1 1])],[W 0 1 [bs a0],W 1 1 [bs a1]],2⟩ ?_
   refine B7 (i:=1) rfl rfl rfl rfl (g:=11) (caps:=[pt 0 1,pt 1 1]) (avs:=[bs [62,61]]) (vs:=[bs [62,61],pt 0 1,pt 1 1]) (vs0:=[bs [62,61],.fptr [bs a0] 0,.fptr [bs a1] 0]) (b:=true) (by kernel_rfl) (by kernel_rfl) rfl (by kernel_rfl) (AL (AP _) (AL (AP _) (AL (AP _) Ax))) (BN [62,61] a0 a1) (fun _=>rfl) (fun _=>rfl) ?_
   intro x26 h26
   refine jG 2 1 ⟨[V 7 (.fn 11 [pt 0 1,pt 1 1]),V 53 (bv x26)],[W 0 1 [bs a0],W 1 1 [bs a1]],2⟩ ?_
   exact Ad rfl (AU rfl (wkR [(0,some 0),(1,some 1)] (Am _) (pc (hC 0) (pc (hC 1) AD))))
  refine jG 0 3 ⟨[V 7 (.fn 11 [pt 0 1,pt 1 1]),V 53 (bv false)],[W 0 1 [bs a0],W 1 1 [bs a1]],2⟩ ?_
  exact Ad rfl (AU rfl (wkR [(0,some 0),(1,some 1)] (Am _) (pc (hC 0) (pc (hC 1) AD))))
 intro x25
 refine jG 6 1 ⟨[V 53 (bv x25),V 54 (.fn 11 [pt 0 1,pt 1 1])],[W 0 1 [bs a0],W 1 1 [bs a1]],2⟩ ?_
 refine B7 (i:=7) rfl rfl rfl rfl (g:=11) (caps:=[pt 0 1,pt 1 1]) (avs:=[bs [61,61]]) (vs:=[bs [61,61],pt 0 1,pt 1 1]) (vs0:=[bs [61,61],.fptr [bs a0] 0,.fptr [bs a1] 0]) (b:=true) (by kernel_rfl) (by kernel_rfl) rfl (by kernel_rfl) (AL (AP _) (AL (AP _) (AL (AP _) Ax))) (BN [61,61] a0 a1) (fun _=>rfl) (fun _=>rfl) ?_
 intro x27 h27
 refine jG 8 2 ⟨[V 57 (bv (x25 == x27))],[],2⟩ ?_
 refine A2 10 2 (fun x29=>⟨[V 59 (bv x29)],[],0⟩) ?_ ?_
 ·refine jSp 57 ?_ ?_
  ·refine jK 0 (Rg) ?_
   intro x30 h30
   refine jG 1 1 ⟨[V 59 (bv x30)],[],2⟩ ?_
   exact Ad rfl (AU rfl BV)
  refine jG 0 2 ⟨[V 59 (bv false)],[],2⟩ ?_
  exact Ad rfl (AU rfl BV)
 intro x29
 refine jG 12 1 ⟨[V 4 (bv x29)],[],0⟩ ?_
 exact jN (Ae (BO (bv x29))))
end Go.Vm

/- The law PyspecBetween, a part of its proof: what the functions that it reaches compute. -/
import Derived.Test.YtdenfejaedgehaaGreatDoorG0PyspecBetween
import Derived.Test.YtdenfejaedgehaaGreatDoorG1PyspecBetween
set_option linter.unusedVariables false
set_option linter.unusedSimpArgs false
set_option maxRecDepth 100000
set_option maxHeartbeats 0
set_option linter.unusedVariables false
set_option linter.unusedSimpArgs false
namespace Go.Vm
open Go
abbrev eX:List LO:=[BH 2 34 0,BH 3 25 0]
abbrev eY:List LO:=[lm 9 0 9,Ai 10 #[AE 9] #[9] 3,DJ 11 3 10 64 3 4]
abbrev eZ:List LO:=[lo 12 (.build 34 #[]) 34,lo 13 (.build 25 #[(0,.const (.int .i64 12)),(1,.const (.int .i64 64))]) 25,AO 34 2 12 0,AO 25 3 13 0]
abbrev eI:List LO:=[lm 14 0 9,AN 15 22 #[AE 14] #[9] 9,lo 16 (.build 54 #[(0,AE 15)]) 54,BT 17 54 16 51,AB 4 17 51]
abbrev fA:List LO:=[lo 18 (.build 34 #[(0,.const (.string ⟨#[48]⟩))]) 34,BH 5 34 0,AO 34 5 18 0]
abbrev fB:List LO:=[lm 19 4 51,AH 20 19 0,AA 21 54 20 1 0,AF 22 3 21 3,lm 23 4 51,AH 24 23 0,AA 25 54 24 0 0,AF 26 9 25 9,Ai 27 #[AE 26] #[9] 3,Al 28 3 22 27 3 4,lm 29 28 4,lmg 30 4 51 29 true,Ao 31 30 0 29 true,AM 32 54 31 0 0 29 true,Aa 33 9 32 9 29 true,lg 34 (.index 9 (AE 33) (.const (.int .i64 0))) 5 29 true,A1 35 5 34 118 5 4 29 true,AS 36 29 35 4]
abbrev fC:List LO:=[lm 37 4 51,AH 38 37 0,AA 39 54 38 1 0,AF 40 3 39 3,Af 41 3 40 1 3 3,AH 42 37 0,AA 43 54 42 1 0,AO 3 43 41 0]
abbrev fD:List LO:=[lm 44 4 51,AH 45 44 0,AA 46 54 45 0 0,AF 47 9 46 9,lm 48 4 51,AH 49 48 0,AA 50 54 49 1 0,AF 51 3 50 3,AN 52 23 #[AE 47,AE 51,.const (.int .i64 1)] #[9,3,3] 3,AB 6 52 3]
abbrev fE:List LO:=[lm 53 6 3,lm 54 4 51,AH 55 54 0,AA 56 54 55 1 0,AF 57 3 56 3,lo 58 (.binOp .gtr 3 (AE 53) (AE 57) 3) 4,lm 59 58 4,lmg 60 6 3 59 true,lmg 61 4 51 59 true,Ao 62 61 0 59 true,AM 63 54 62 0 0 59 true,Aa 64 9 63 9 59 true,BF 65 #[AE 64] #[9] 3 59 true,lg 66 (.binOp .lss 3 (AE 60) (AE 65) 3) 4 59 true,AS 67 59 66 4,lm 68 67 4,lmg 69 4 51 68 true,Ao 70 69 0 68 true,AM 71 54 70 0 0 68 true,Aa 72 9 71 9 68 true,lmg 73 6 3 68 true,BQ 74 9 72 73 5 68 true,A1 75 5 74 33 5 4 68 true,AS 76 68 75 4]
abbrev ZY:List LO:=[lm 77 4 51,AN 78 24 #[AE 77] #[51] 9,AA 79 34 5 0 0,AO 9 79 78 0]
abbrev ZZ:List LO:=[lm 80 4 51,AH 81 80 0,AA 82 54 81 1 0,AF 83 3 82 3,Af 84 3 83 1 3 3,AH 85 80 0,AA 86 54 85 1 0,AO 3 86 84 0]
abbrev Za:List LO:=[lm 87 4 51,AN 88 25 #[AE 87,.const (.int .i64 0),.const (.int .i64 1)] #[51,3,3] 4,BR 89 4 88 4]
abbrev Zb:List LO:=[lm 90 4 51,AN 91 26 #[AE 90] #[51] 0]
abbrev Zc:List LO:=[lo 92 (.build 34 #[]) 34,lm 93 4 51,AH 94 93 0,AA 95 54 94 2 0,AF 96 25 95 25,AO 34 2 92 0,AO 25 3 96 0]
abbrev Zd:List LO:=[AA 97 34 5 1 0,AF 98 32 97 32,lm 99 4 51,AN 100 24 #[AE 99] #[51] 9,lo 101 (.buildSlice 32 1 #[(0,AE 100)]) 32,DP 102 #[AE 98,AE 101] #[32,32] 32,AA 103 34 5 1 0,AO 32 103 102 0]
abbrev Ze:List LO:=[lm 104 4 51,AH 105 104 0,AA 106 54 105 1 0,AF 107 3 106 3,lm 108 4 51,AH 109 108 0,AA 110 54 109 0 0,AF 111 9 110 9,Ai 112 #[AE 111] #[9] 3,Al 113 3 107 112 3 4,lm 114 113 4,lmg 115 4 51 114 true,Ao 116 115 0 114 true,AM 117 54 116 0 0 114 true,Aa 118 9 117 9 114 true,lmg 119 4 51 114 true,Ao 120 119 0 114 true,AM 121 54 120 1 0 114 true,Aa 122 3 121 3 114 true,BQ 123 9 118 122 5 114 true,A1 124 5 123 46 5 4 114 true,AS 125 114 124 4,lm 126 125 4,lmg 127 4 51 126 true,A7 128 25 #[AE 127,.const (.int .i64 1),.const (.int .i64 1)] #[51,3,3] 4 126 true,AS 129 126 128 4]
abbrev Zf:List LO:=[lm 130 4 51,AH 131 130 0,AA 132 54 131 1 0,AF 133 3 132 3,Af 134 3 133 1 3 3,AH 135 130 0,AA 136 54 135 1 0,AO 3 136 134 0]
abbrev Zg:List LO:=[AA 137 34 5 1 0,AF 138 32 137 32,lm 139 4 51,AN 140 24 #[AE 139] #[51] 9,lo 141 (.buildSlice 32 1 #[(0,AE 140)]) 32,DP 142 #[AE 138,AE 141] #[32,32] 32,AA 143 34 5 1 0,AO 32 143 142 0]
abbrev Zh:List LO:=[lm 145 4 51,lo 146 (.buildSlice 32 8 #[(0,.const (.string ⟨#[97,108,112,104,97]⟩)),(1,.const (.string ⟨#[97]⟩)),(2,.const (.string ⟨#[98,101,116,97]⟩)),(3,.const (.string ⟨#[98]⟩)),(4,.const (.string ⟨#[112,114,101,118,105,101,119]⟩)),(5,.const (.string ⟨#[112,114,101]⟩)),(6,.const (.string ⟨#[99]⟩)),(7,.const (.string ⟨#[114,99]⟩))]) 32,AN 147 27 #[AE 145,AE 146] #[51,32] 58,lm 144 147 58,Aq 148 144 0 9,Aq 149 144 1 4,AB 7 148 9,AB 8 149 4]
abbrev Zi:List LO:=[lm 150 8 4]
abbrev Zj:List LO:=[lm 151 7 9,AN 152 28 #[AE 151] #[9] 5,AA 153 34 5 2 0,AO 5 153 152 0]
abbrev Zk:List LO:=[lm 154 4 51,AN 155 29 #[AE 154] #[51] 9,AA 156 34 5 3 0,AO 9 156 155 0]
abbrev Zl:List LO:=[lm 157 4 51,AH 158 157 0,AA 159 54 158 1 0,AF 160 3 159 3,lm 161 4 51,AH 162 161 0,AA 163 54 162 0 0,AF 164 9 163 9,Ai 165 #[AE 164] #[9] 3,Al 166 3 160 165 3 4,lm 167 166 4,lmg 168 4 51 167 true,Ao 169 168 0 167 true,AM 170 54 169 0 0 167 true,Aa 171 9 170 9 167 true,lmg 172 4 51 167 true,Ao 173 172 0 167 true,AM 174 54 173 1 0 167 true,Aa 175 3 174 3 167 true,BQ 176 9 171 175 5 167 true,A1 177 5 176 45 5 4 167 true,AS 178 167 177 4,lm 179 178 4,lmg 180 4 51 179 true,A7 181 25 #[AE 180,.const (.int .i64 1),.const (.int .i64 1)] #[51,3,3] 4 179 true,AS 182 179 181 4]
abbrev Zm:List LO:=[lm 183 4 51,AH 184 183 0,AA 185 54 184 1 0,AF 186 3 185 3,Af 187 3 186 1 3 3,AH 188 183 0,AA 189 54 188 1 0,AO 3 189 187 0]
abbrev Zn:List LO:=[AA 190 34 5 4 0,Ds 4 190 0]
abbrev Zo:List LO:=[lm 191 4 51,AN 192 24 #[AE 191] #[51] 9,AA 193 34 5 5 0,AO 9 193 192 0]
abbrev Zp:List LO:=[lm 195 4 51,lo 196 (.buildSlice 32 3 #[(0,.const (.string ⟨#[112,111,115,116]⟩)),(1,.const (.string ⟨#[114,101,118]⟩)),(2,.const (.string ⟨#[114]⟩))]) 32,AN 197 27 #[AE 195,AE 196] #[51,32] 58,lm 194 197 58,Aq 198 194 0 9,Aq 199 194 1 4,AB 8 199 4]
abbrev Zq:List LO:=[lm 200 8 4]
abbrev Zr:List LO:=[AA 201 34 5 4 0,Ds 4 201 0]
abbrev Zs:List LO:=[lm 202 4 51,AN 203 29 #[AE 202] #[51] 9,AA 204 34 5 5 0,AO 9 204 203 0]
abbrev Zt:List LO:=[lm 206 4 51,lo 207 (.buildSlice 32 1 #[(0,.const (.string ⟨#[100,101,118]⟩))]) 32,AN 208 27 #[AE 206,AE 207] #[51,32] 58,lm 205 208 58,Aq 209 205 0 9,Aq 210 205 1 4,AB 8 210 4]
abbrev Zu:List LO:=[lm 211 8 4]
abbrev Zv:List LO:=[AA 212 34 5 6 0,Ds 4 212 0]
abbrev Zw:List LO:=[lm 213 4 51,AN 214 29 #[AE 213] #[51] 9,AA 215 34 5 7 0,AO 9 215 214 0]
abbrev Zx:List LO:=[lm 216 4 51,AH 217 216 0,AA 218 54 217 1 0,AF 219 3 218 3,lm 220 4 51,AH 221 220 0,AA 222 54 221 0 0,AF 223 9 222 9,Ai 224 #[AE 223] #[9] 3,Al 225 3 219 224 3 4,lm 226 225 4,lmg 227 4 51 226 true,Ao 228 227 0 226 true,AM 229 54 228 0 0 226 true,Aa 230 9 229 9 226 true,lmg 231 4 51 226 true,Ao 232 231 0 226 true,AM 233 54 232 1 0 226 true,Aa 234 3 233 3 226 true,BQ 235 9 230 234 5 226 true,A1 236 5 235 43 5 4 226 true,AS 237 226 236 4]
abbrev Zy:List LO:=[lm 238 4 51,AN 239 30 #[AE 238] #[51] 32,AA 240 34 5 8 0,AO 32 240 239 0]
abbrev Zz:List LO:=[lm 241 4 51,AH 242 241 0,AA 243 54 242 2 0,AA 244 25 243 0 0,AF 245 23 244 23,Aw 246 23 245 0 23 4,lm 247 246 4,lmg 248 4 51 247 true,Ao 249 248 0 247 true,AM 250 54 249 1 0 247 true,Aa 251 3 250 3 247 true,lmg 252 4 51 247 true,Ao 253 252 0 247 true,AM 254 54 253 0 0 247 true,Aa 255 9 254 9 247 true,BF 256 #[AE 255] #[9] 3 247 true,lg 257 (.binOp .lss 3 (AE 251) (AE 256) 3) 4 247 true,AS 258 247 257 4]
abbrev ZI:List LO:=[lm 259 4 51,AN 260 26 #[AE 259] #[51] 0]
abbrev Z0:List LO:=[lm 261 4 51,AH 262 261 0,AA 263 54 262 2 0,AA 264 25 263 0 0,AF 265 23 264 23,BM 266 23 265 0 23 4]
abbrev Z1:List LO:=[lo 267 (.build 34 #[]) 34,lm 268 4 51,AH 269 268 0,AA 270 54 269 2 0,AF 271 25 270 25,AO 34 2 267 0,AO 25 3 271 0]
abbrev Z2:List LO:=[AF 272 34 5 34,lo 273 (.build 25 #[]) 25,AO 34 2 272 0,AO 25 3 273 0]
noncomputable abbrev kM:LC:=.seq (.reg false eX) (.seq (.seq (.reg false eY) (.cond (.tmp 11) (.seq (.reg false eZ) .ret) .skip)) (.seq (.reg false eI) (.seq (.reg false fA) (.seq (.seq (.reg true fB) (.cond (.tmp 36) (.reg false fC) .skip)) (.seq (.reg true fD) (.seq (.seq (.reg false fE) (.cond (.tmp 76) (.seq (.reg false ZY) (.reg false ZZ)) .skip)) (.seq (.seq (.reg false Za) (.cond (.tmp 89) (.seq (.reg false Zb) (.seq (.full (fK (EE (G0 Go.Proofs.Tryz.f10) [1,1,1,1,1,1,1,0,1,0,1,0]))) .ret)) .skip)) (.seq (.full (fK (EE (G0 Go.Proofs.Tryz.f10) [1,1,1,1,1,1,1,1,0]))) (.seq (.block 0 (.loop (.seq (.seq (.reg true Ze) (.cond (.tmp 129) .skip (.exit 0))) (.block 1 (.seq (.reg false Zf) (.full (fK (EE (G0 Go.Proofs.Tryz.f10) [1,1,1,1,1,1,1,1,1,0,0,0,1,0,1])))))))) (.seq (.reg false Zh) (.seq (.seq (.reg false Zi) (.cond (.tmp 150) (.seq (.reg false Zj) (.reg false Zk)) .skip)) (.seq (.seq (.reg true Zl) (.cond (.tmp 182) (.seq (.reg false Zm) (.seq (.reg false Zn) (.reg false Zo))) (.seq (.reg false Zp) (.seq (.reg false Zq) (.cond (.tmp 200) (.seq (.reg false Zr) (.reg false Zs)) .skip))))) (.seq (.reg false Zt) (.seq (.seq (.reg false Zu) (.cond (.tmp 211) (.seq (.reg false Zv) (.reg false Zw)) .skip)) (.seq (.seq (.reg true Zx) (.cond (.tmp 237) (.reg false Zy) .skip)) (.seq (.seq (.reg true Zz) (.cond (.tmp 258) (.reg false ZI) .skip)) (.seq (.seq (.reg false Z0) (.cond (.tmp 266) (.seq (.full (fK (EE (G0 Go.Proofs.Tryz.f10) [1,1,1,1,1,1,1,1,1,1,1,1,1,1,1,1,1,0,1,0,0]))) .ret) .skip)) (.seq (.reg false Z2) .ret))))))))))))))))))
theorem kO:Bf E 10 274 [.cell 2 34,.cell 3 25] kM:=Bp Go.Proofs.Tryz.f10
noncomputable def Gc (x1:Str):(Int × List Str)→Option (Step (Int × List Str) (Int × List Str)):=fun (x33,x34)=>Option.bind (if (decide (x33 < (List.length x1:Int)))=true then Option.bind (idx x1 x33) (fun x48=>some (x48 == 46)) else some false:Option (Bool)) (fun x47=>Option.bind (if x47=true then Option.bind (BB x1 x33 0 0 1 1) (fun x51=>some x51) else some false:Option (Bool)) (fun x50=>(if x50=true then Option.bind (Bl x1 (w64 (x33 + 1)) 0 0) (fun (x52,x53)=>Option.bind (app 16 x34 [x52]) (fun x54=>some (Step.next (x53,x54)))) else some (Step.done (x33,x34)))))
noncomputable def Ke (a0:Str):Option (Ac × C9):=(if (decide ((List.length a0:Int) > 64))=true then some ((Ac.mk [] [] 0 [] false [] false [] []),(C9.mk 12 64)) else Option.bind (Kd a0) (fun x1=>Option.bind (Option.bind (if (decide (0 < (List.length x1:Int)))=true then Option.bind (idx x1 0) (fun x7=>some (x7 == 118)) else some false:Option (Bool)) (fun x6=>(if x6=true then some (w64 (0 + 1)) else some 0)):Option (Int)) (fun x4=>Option.bind (Fw x1 x4 1) (fun x8=>Option.bind (Option.bind (if ((decide (x8 > x4)) && (decide (x8 < (List.length x1:Int))))=true then Option.bind (idx x1 x8) (fun x17=>some (x17 == 33)) else some false:Option (Bool)) (fun x16=>(if x16=true then Option.bind (Bl x1 x4 0 0) (fun (x18,x19)=>some ((w64 (x19 + 1)),x18)) else some (x4,[48]))):Option (Int × Str)) (fun (x13,x14)=>Option.bind (BB x1 x13 0 0 0 1) (fun x20=>(if (!x20)=true then Option.bind (Cu x1 x13 0 0) (fun (x21,x22)=>some ((Ac.mk [] [] 0 [] false [] false [] []),(C9.mk x21 x22))) else Option.bind (Bl x1 x13 0 0) (fun (x23,x24)=>Option.bind (app 16 ([]:List Str) [x23]) (fun x25=>Option.bind (CD (Gc x1) (x24,x25)) (fun (x44,x45)=>Option.bind (Cv x1 x44 0 0 ([[97,108,112,104,97],[97],[98,101,116,97],[98],[112,114,101,118,105,101,119],[112,114,101],[99],[114,99]])) (fun (x55,x56,x57)=>Option.bind ((if x56=true then Option.bind (JB x55) (fun x64=>Option.bind (B0 x1 x57 0 0) (fun (x65,x66)=>some (x66,x64,x65))) else some (x57,0,[])):Option (Int × Int × Str)) (fun (x61,x62,x63)=>Option.bind (Option.bind (if (decide (x61 < (List.length x1:Int)))=true then Option.bind (idx x1 x61) (fun x83=>some (x83 == 45)) else some false:Option (Bool)) (fun x82=>Option.bind (if x82=true then Option.bind (BB x1 x61 0 0 1 1) (fun x86=>some x86) else some false:Option (Bool)) (fun x85=>(if x85=true then Option.bind (Bl x1 (w64 (x61 + 1)) 0 0) (fun (x87,x88)=>some (x88,true,x87)) else Option.bind (Cv x1 x61 0 0 ([[112,111,115,116],[114,101,118],[114]])) (fun (x89,x90,x91)=>(if x90=true then Option.bind (B0 x1 x91 0 0) (fun (x92,x93)=>some (x93,true,x92)) else some (x91,false,[])))))):Option (Int × Bool × Str)) (fun (x78,x79,x80)=>Option.bind (Cv x1 x78 0 0 ([[100,101,118]])) (fun (x94,x95,x96)=>Option.bind ((if x95=true then Option.bind (B0 x1 x96 0 0) (fun (x102,x103)=>some (x103,true,x102)) else some (x96,false,[])):Option (Int × Bool × Str)) (fun (x99,x100,x101)=>Option.bind (Option.bind (if (decide (x99 < (List.length x1:Int)))=true then Option.bind (idx x1 x99) (fun x116=>some (x116 == 43)) else some false:Option (Bool)) (fun x115=>(if x115=true then Option.bind (EC x1 x99 0 0) (fun (x117,x118,x119,x120)=>some (x118,x119,x120,x117)) else some (x99,0,0,[]))):Option (Int × Int × Int × List Str)) (fun (x110,x111,x112,x113)=>Option.bind ((if ((x111 == 0) && (decide (x110 < (List.length x1:Int))))=true then Option.bind (Cu x1 x110 x111 x112) (fun (x125,x126)=>some (x125,x126)) else some (x111,x112)):Option (Int × Int)) (fun (x123,x124)=>(if (x123 != 0)=true then some ((Ac.mk [] [] 0 [] false [] false [] []),(C9.mk x123 x124)) else some ((Ac.mk x14 x45 x62 x63 x79 x80 x100 x101 x113),(C9.mk 0 0))))))))))))))))))))
theorem eW (a0:Str):Ct E 10 [bs a0] (Ke a0) (fun r:Ac × C9=>.tup [.agg (AJ r.1),.agg [iv r.2.Err,iv r.2.At]]):=CN kO (by
 unfold Ke
 refine jS ⟨[V 0 (bs a0),V 2 (pt 0 9),V 3 (pt 1 2)],[W 0 9 [bs [],AQ,.s (.int .u8 0),bs [],bv false,bs [],bv false,bs [],AQ],W 1 2 [iv 0,iv 0]],2⟩ ?_
 refine Aj (jS ⟨[V 0 (bs a0),V 2 (pt 0 9),V 3 (pt 1 2),V 11 (bv (decide ((List.length a0:Int) > 64)))],[W 0 9 [bs [],AQ,.s (.int .u8 0),bs [],bv false,bs [],bv false,bs [],AQ],W 1 2 [iv 0,iv 0]],2⟩ ?_)
 refine jIf ?_ ?_
 ·refine jS ⟨[V 2 (pt 0 9),V 3 (pt 1 2)],[W 0 9 [bs [],AQ,.s (.int .u8 0),bs [],bv false,bs [],bv false,bs [],AQ],W 1 2 [iv 12,iv 64]],2⟩ ?_
  exact Ae (Ar (Hk (.inr rfl) (v:=.tup [.agg [bs [],AQ,.s (.int .u8 0),bs [],bv false,bs [],bv false,bs [],AQ],.agg [iv 12,iv 64]]) (by kernel_rfl) (Jv (AR (Gw (AR rfl (AR rfl (AR rfl (AR rfl (AR rfl (AR rfl (AR rfl (AR rfl (AR rfl (BL _))))))))))) (AR rfl (BL _)))) (O4 (AL (LT (AL (AP _) (AL (HH _) (AL (AP _) (AL (AP _) (AL (AP _) (AL (AP _) (AL (AP _) (AL (AP _) (AL (HH _) Ax)))))))))) (AL (AP _) Ax)))))
 refine Ah (Ab (jR (jG 0 1 ⟨[V 2 (pt 0 9),V 3 (pt 1 2),V 14 (bs a0)],[W 0 9 [bs [],AQ,.s (.int .u8 0),bs [],bv false,bs [],bv false,bs [],AQ],W 1 2 [iv 0,iv 0]],2⟩ ?_)))
 refine jK 1 (eJ a0) ?_
 intro x1 h1
 refine jG 2 3 ⟨[V 2 (pt 0 9),V 3 (pt 1 2),V 4 (pt 2 4)],[W 0 9 [bs [],AQ,.s (.int .u8 0),bs [],bv false,bs [],bv false,bs [],AQ],W 1 2 [iv 0,iv 0],W 2 4 [bs x1,iv 0,iv 0,iv 0]],3⟩ ?_
 refine jN (jS ⟨[V 2 (pt 0 9),V 3 (pt 1 2),V 4 (pt 2 4),V 5 (pt 3 9)],[W 0 9 [bs [],AQ,.s (.int .u8 0),bs [],bv false,bs [],bv false,bs [],AQ],W 1 2 [iv 0,iv 0],W 2 4 [bs x1,iv 0,iv 0,iv 0],W 3 9 [bs [48],AQ,.s (.int .u8 0),bs [],bv false,bs [],bv false,bs [],AQ]],4⟩ ?_)
 refine Aj ?_
 refine BA (fun x4=>⟨[V 2 (pt 0 9),V 3 (pt 1 2),V 4 (pt 2 4),V 5 (pt 3 9)],[W 0 9 [bs [],AQ,.s (.int .u8 0),bs [],bv false,bs [],bv false,bs [],AQ],W 1 2 [iv 0,iv 0],W 2 4 [bs x1,iv x4,iv 0,iv 0],W 3 9 [bs [48],AQ,.s (.int .u8 0),bs [],bv false,bs [],bv false,bs [],AQ]],4⟩) (fun x4=>.normal) ?_ ?_
 ·refine jR (jG 0 11 ⟨[V 2 (pt 0 9),V 3 (pt 1 2),V 4 (pt 2 4),V 5 (pt 3 9),V 29 (bv (decide (0 < (List.length x1:Int))))],[W 0 9 [bs [],AQ,.s (.int .u8 0),bs [],bv false,bs [],bv false,bs [],AQ],W 1 2 [iv 0,iv 0],W 2 4 [bs x1,iv 0,iv 0,iv 0],W 3 9 [bs [48],AQ,.s (.int .u8 0),bs [],bv false,bs [],bv false,bs [],AQ]],4⟩ ?_)
  refine A2 11 7 (fun x6=>⟨[V 2 (pt 0 9),V 3 (pt 1 2),V 4 (pt 2 4),V 5 (pt 3 9),V 36 (bv x6)],[W 0 9 [bs [],AQ,.s (.int .u8 0),bs [],bv false,bs [],bv false,bs [],AQ],W 1 2 [iv 0,iv 0],W 2 4 [bs x1,iv 0,iv 0,iv 0],W 3 9 [bs [48],AQ,.s (.int .u8 0),bs [],bv false,bs [],bv false,bs [],AQ]],4⟩) ?_ ?_
  ·refine jSp 29 ?_ ?_
   ·refine jG 0 4 ⟨[V 2 (pt 0 9),V 3 (pt 1 2),V 4 (pt 2 4),V 5 (pt 3 9),(29,.lit true),V 33 (bs x1)],[W 0 9 [bs [],AQ,.s (.int .u8 0),bs [],bv false,bs [],bv false,bs [],AQ],W 1 2 [iv 0,iv 0],W 2 4 [bs x1,iv 0,iv 0,iv 0],W 3 9 [bs [48],AQ,.s (.int .u8 0),bs [],bv false,bs [],bv false,bs [],AQ]],4⟩ ?_
    refine A5 (i:=4) (mo:=idx x1 0) rfl rfl rfl rfl (fun _ hc=>Bq (kk:=.i64) (by kernel_rfl) (by kernel_rfl) (by kernel_rfl) hc) (fun _=>rfl) ?_
    intro x7 h7
    refine jG 5 2 ⟨[V 2 (pt 0 9),V 3 (pt 1 2),V 4 (pt 2 4),V 5 (pt 3 9),V 36 (bv (x7 == 118))],[W 0 9 [bs [],AQ,.s (.int .u8 0),bs [],bv false,bs [],bv false,bs [],AQ],W 1 2 [iv 0,iv 0],W 2 4 [bs x1,iv 0,iv 0,iv 0],W 3 9 [bs [48],AQ,.s (.int .u8 0),bs [],bv false,bs [],bv false,bs [],AQ]],4⟩ ?_
    exact Ad rfl (AU rfl (wkR [(0,some 0),(1,some 1),(2,some 2),(3,some 3)] (Am _) (pc (hC 0) (pc (hC 1) (pc (hC 2) (pc (hC 3) AD))))))
   refine jG 0 7 ⟨[V 2 (pt 0 9),V 3 (pt 1 2),V 4 (pt 2 4),V 5 (pt 3 9),V 36 (bv false)],[W 0 9 [bs [],AQ,.s (.int .u8 0),bs [],bv false,bs [],bv false,bs [],AQ],W 1 2 [iv 0,iv 0],W 2 4 [bs x1,iv 0,iv 0,iv 0],W 3 9 [bs [48],AQ,.s (.int .u8 0),bs [],bv false,bs [],bv false,bs [],AQ]],4⟩ ?_
   exact Ad rfl (AU rfl (wkR [(0,some 0),(1,some 1),(2,some 2),(3,some 3)] (Am _) (pc (hC 0) (pc (hC 1) (pc (hC 2) (pc (hC 3) AD))))))
  intro x6
  refine jN ?_
  refine jIf ?_ ?_
  ·refine jT ⟨[V 2 (pt 0 9),V 3 (pt 1 2),V 4 (pt 2 4),V 5 (pt 3 9)],[W 0 9 [bs [],AQ,.s (.int .u8 0),bs [],bv false,bs [],bv false,bs [],AQ],W 1 2 [iv 0,iv 0],W 2 4 [bs x1,iv (w64 (0 + 1)),iv 0,iv 0],W 3 9 [bs [48],AQ,.s (.int .u8 0),bs [],bv false,bs [],bv false,bs [],AQ]],4⟩ ?_
   exact AU rfl (wkR [(0,some 0),(1,some 1),(2,some 2),(3,some 3)] (Am _) (pc (hC 0) (pc (hC 1) (pc (hC 2) (pc (hC 3) AD)))))
  exact Ah (AU rfl (wkR [(0,some 0),(1,some 1),(2,some 2),(3,some 3)] (Am _) (pc (hC 0) (pc (hC 1) (pc (hC 2) (pc (hC 3) AD))))))
 intro x4
 refine Ab (jR (jG 0 8 ⟨[V 2 (pt 0 9),V 3 (pt 1 2),V 4 (pt 2 4),V 5 (pt 3 9),V 47 (bs x1),V 51 (iv x4)],[W 0 9 [bs [],AQ,.s (.int .u8 0),bs [],bv false,bs [],bv false,bs [],AQ],W 1 2 [iv 0,iv 0],W 2 4 [bs x1,iv x4,iv 0,iv 0],W 3 9 [bs [48],AQ,.s (.int .u8 0),bs [],bv false,bs [],bv false,bs [],AQ]],4⟩ ?_))
 refine jK 8 (LZ x1 x4 1) ?_
 intro x8 h8
 refine jG 9 1 ⟨[V 2 (pt 0 9),V 3 (pt 1 2),V 4 (pt 2 4),V 5 (pt 3 9),V 6 (iv x8)],[W 0 9 [bs [],AQ,.s (.int .u8 0),bs [],bv false,bs [],bv false,bs [],AQ],W 1 2 [iv 0,iv 0],W 2 4 [bs x1,iv x4,iv 0,iv 0],W 3 9 [bs [48],AQ,.s (.int .u8 0),bs [],bv false,bs [],bv false,bs [],AQ]],4⟩ ?_
 refine jN (Aj ?_)
 refine BA (fun (x13,x14)=>⟨[V 2 (pt 0 9),V 3 (pt 1 2),V 4 (pt 2 4),V 5 (pt 3 9)],[W 0 9 [bs [],AQ,.s (.int .u8 0),bs [],bv false,bs [],bv false,bs [],AQ],W 1 2 [iv 0,iv 0],W 2 4 [bs x1,iv x13,iv 0,iv 0],W 3 9 [bs x14,AQ,.s (.int .u8 0),bs [],bv false,bs [],bv false,bs [],AQ]],4⟩) (fun (x13,x14)=>.normal) ?_ ?_
 ·refine jR (jG 0 16 ⟨[V 2 (pt 0 9),V 3 (pt 1 2),V 4 (pt 2 4),V 5 (pt 3 9),V 6 (iv x8),V 68 (bv ((decide (x8 > x4)) && (decide (x8 < (List.length x1:Int)))))],[W 0 9 [bs [],AQ,.s (.int .u8 0),bs [],bv false,bs [],bv false,bs [],AQ],W 1 2 [iv 0,iv 0],W 2 4 [bs x1,iv x4,iv 0,iv 0],W 3 9 [bs [48],AQ,.s (.int .u8 0),bs [],bv false,bs [],bv false,bs [],AQ]],4⟩ ?_)
  refine A2 16 8 (fun x16=>⟨[V 2 (pt 0 9),V 3 (pt 1 2),V 4 (pt 2 4),V 5 (pt 3 9),V 76 (bv x16)],[W 0 9 [bs [],AQ,.s (.int .u8 0),bs [],bv false,bs [],bv false,bs [],AQ],W 1 2 [iv 0,iv 0],W 2 4 [bs x1,iv x4,iv 0,iv 0],W 3 9 [bs [48],AQ,.s (.int .u8 0),bs [],bv false,bs [],bv false,bs [],AQ]],4⟩) ?_ ?_
  ·refine jSp 68 ?_ ?_
   ·refine jG 0 5 ⟨[V 2 (pt 0 9),V 3 (pt 1 2),V 4 (pt 2 4),V 5 (pt 3 9),(68,.lit true),V 72 (bs x1),V 73 (iv x8)],[W 0 9 [bs [],AQ,.s (.int .u8 0),bs [],bv false,bs [],bv false,bs [],AQ],W 1 2 [iv 0,iv 0],W 2 4 [bs x1,iv x4,iv 0,iv 0],W 3 9 [bs [48],AQ,.s (.int .u8 0),bs [],bv false,bs [],bv false,bs [],AQ]],4⟩ ?_
    refine A5 (i:=5) (mo:=idx x1 x8) rfl rfl rfl rfl (fun _ hc=>Bq (kk:=.i64) (by kernel_rfl) (by kernel_rfl) (by kernel_rfl) hc) (fun _=>rfl) ?_
    intro x17 h17
    refine jG 6 2 ⟨[V 2 (pt 0 9),V 3 (pt 1 2),V 4 (pt 2 4),V 5 (pt 3 9),V 76 (bv (x17 == 33))],[W 0 9 [bs [],AQ,.s (.int .u8 0),bs [],bv false,bs [],bv false,bs [],AQ],W 1 2 [iv 0,iv 0],W 2 4 [bs x1,iv x4,iv 0,iv 0],W 3 9 [bs [48],AQ,.s (.int .u8 0),bs [],bv false,bs [],bv false,bs [],AQ]],4⟩ ?_
    exact Ad rfl (AU rfl (wkR [(0,some 0),(1,some 1),(2,some 2),(3,some 3)] (Am _) (pc (hC 0) (pc (hC 1) (pc (hC 2) (pc (hC 3) AD))))))
   refine jG 0 8 ⟨[V 2 (pt 0 9),V 3 (pt 1 2),V 4 (pt 2 4),V 5 (pt 3 9),V 76 (bv false)],[W 0 9 [bs [],AQ,.s (.int .u8 0),bs [],bv false,bs [],bv false,bs [],AQ],W 1 2 [iv 0,iv 0],W 2 4 [bs x1,iv x4,iv 0,iv 0],W 3 9 [bs [48],AQ,.s (.int .u8 0),bs [],bv false,bs [],bv false,bs [],AQ]],4⟩ ?_
   exact Ad rfl (AU rfl (wkR [(0,some 0),(1,some 1),(2,some 2),(3,some 3)] (Am _) (pc (hC 0) (pc (hC 1) (pc (hC 2) (pc (hC 3) AD))))))
  intro x16
  refine jN ?_
  refine jIf ?_ ?_
  ·refine jR (jG 0 1 ⟨[V 2 (pt 0 9),V 3 (pt 1 2),V 4 (pt 2 4),V 5 (pt 3 9),V 77 (pt 2 4)],[W 0 9 [bs [],AQ,.s (.int .u8 0),bs [],bv false,bs [],bv false,bs [],AQ],W 1 2 [iv 0,iv 0],W 2 4 [bs x1,iv x4,iv 0,iv 0],W 3 9 [bs [48],AQ,.s (.int .u8 0),bs [],bv false,bs [],bv false,bs [],AQ]],4⟩ ?_)
   refine BC 1 [(0,some 2)] [(2,some 0)] (fun r:Str × Int=>[W 0 9 [bs [],AQ,.s (.int .u8 0),bs [],bv false,bs [],bv false,bs [],AQ],W 1 2 [iv 0,iv 0],W 2 4 [bs x1,iv r.2,iv 0,iv 0],W 3 9 [bs [48],AQ,.s (.int .u8 0),bs [],bv false,bs [],bv false,bs [],AQ]]) (fun r:Str × Int=>bs r.1) 4 (DM x1 x4 0 0) (pc (hC 2) AD) (fun r=>(pc (.inl ⟨rfl,rfl⟩) (pc (.inl ⟨rfl,rfl⟩) (pc (.inr (hC 0)) (pc (.inl ⟨rfl,rfl⟩) AD))))) ?_
   rintro⟨x18,x19⟩ hm2
   refine jG 2 2 ⟨[V 2 (pt 0 9),V 3 (pt 1 2),V 4 (pt 2 4),V 5 (pt 3 9)],[W 0 9 [bs [],AQ,.s (.int .u8 0),bs [],bv false,bs [],bv false,bs [],AQ],W 1 2 [iv 0,iv 0],W 2 4 [bs x1,iv x19,iv 0,iv 0],W 3 9 [bs x18,AQ,.s (.int .u8 0),bs [],bv false,bs [],bv false,bs [],AQ]],4⟩ ?_
   refine jN (jT ⟨[V 2 (pt 0 9),V 3 (pt 1 2),V 4 (pt 2 4),V 5 (pt 3 9)],[W 0 9 [bs [],AQ,.s (.int .u8 0),bs [],bv false,bs [],bv false,bs [],AQ],W 1 2 [iv 0,iv 0],W 2 4 [bs x1,iv (w64 (x19 + 1)),iv 0,iv 0],W 3 9 [bs x18,AQ,.s (.int .u8 0),bs [],bv false,bs [],bv false,bs [],AQ]],4⟩ ?_)
   exact AU rfl (wkR [(0,some 0),(1,some 1),(2,some 2),(3,some 3)] (Am _) (pc (hC 0) (pc (hC 1) (pc (hC 2) (pc (hC 3) AD)))))
  exact Ah (AU rfl (wkR [(0,some 0),(1,some 1),(2,some 2),(3,some 3)] (Am _) (pc (hC 0) (pc (hC 1) (pc (hC 2) (pc (hC 3) AD))))))
 rintro⟨x13,x14⟩
 refine Ab (Aj (jR (jG 0 1 ⟨[V 2 (pt 0 9),V 3 (pt 1 2),V 4 (pt 2 4),V 5 (pt 3 9),V 87 (pt 2 4)],[W 0 9 [bs [],AQ,.s (.int .u8 0),bs [],bv false,bs [],bv false,bs [],AQ],W 1 2 [iv 0,iv 0],W 2 4 [bs x1,iv x13,iv 0,iv 0],W 3 9 [bs x14,AQ,.s (.int .u8 0),bs [],bv false,bs [],bv false,bs [],AQ]],4⟩ ?_)))
 refine By (i:=1) rfl rfl rfl rfl (vs:=[pt 2 4,iv 0,iv 1]) (vs0:=[.fptr [bs x1,iv x13,iv 0,iv 0] 0,iv 0,iv 1]) (b:=true) (by kernel_rfl) (by kernel_rfl) (AL (AP _) (AL (AP _) (AL (AP _) Ax))) (B6 x1 x13 0 0 0 1) (fun _=>rfl) (fun _=>rfl) ?_
 intro x20 h20
 refine jG 2 1 ⟨[V 2 (pt 0 9),V 3 (pt 1 2),V 4 (pt 2 4),V 5 (pt 3 9),V 89 (bv (!x20))],[W 0 9 [bs [],AQ,.s (.int .u8 0),bs [],bv false,bs [],bv false,bs [],AQ],W 1 2 [iv 0,iv 0],W 2 4 [bs x1,iv x13,iv 0,iv 0],W 3 9 [bs x14,AQ,.s (.int .u8 0),bs [],bv false,bs [],bv false,bs [],AQ]],4⟩ ?_
 refine jN ?_
 refine jIf ?_ ?_
 ·refine jR (jG 0 1 ⟨[V 2 (pt 0 9),V 3 (pt 1 2),V 4 (pt 2 4),V 90 (pt 2 4)],[W 0 9 [bs [],AQ,.s (.int .u8 0),bs [],bv false,bs [],bv false,bs [],AQ],W 1 2 [iv 0,iv 0],W 2 4 [bs x1,iv x13,iv 0,iv 0]],4⟩ ?_)
  refine BC 1 [(0,some 2)] [(2,some 0)] (fun r:Int × Int=>[W 0 9 [bs [],AQ,.s (.int .u8 0),bs [],bv false,bs [],bv false,bs [],AQ],W 1 2 [iv 0,iv 0],W 2 4 [bs x1,iv x13,iv r.1,iv r.2]]) (fun r:Int × Int=>.tup []) 4 (Gd x1 x13 0 0) (pc (hC 2) AD) (fun r=>(pc (.inl ⟨rfl,rfl⟩) (pc (.inl ⟨rfl,rfl⟩) (pc (.inr (hC 0)) AD)))) ?_
  rintro⟨x21,x22⟩ hm3
  refine jN (Aj ?_)
  refine oN Zc [(95,2)] ?_
  refine jG 0 7 ⟨[V 2 (pt 0 9),V 3 (pt 1 2),V 95 (.ptr 2 0 4 2)],[W 0 9 [bs [],AQ,.s (.int .u8 0),bs [],bv false,bs [],bv false,bs [],AQ],W 1 2 [iv x21,iv x22],W 2 4 [bs x1,iv x13,iv x21,iv x22]],4⟩ ?_
  refine Ad rfl ?_
  refine Vk ?_
  exact Ab (Ae (Ar (Hk (.inr rfl) (v:=.tup [.agg [bs [],AQ,.s (.int .u8 0),bs [],bv false,bs [],bv false,bs [],AQ],.agg [iv x21,iv x22]]) (by kernel_rfl) (Jv (AR (Gw (AR rfl (AR rfl (AR rfl (AR rfl (AR rfl (AR rfl (AR rfl (AR rfl (AR rfl (BL _))))))))))) (AR rfl (BL _)))) (O4 (AL (LT (AL (AP _) (AL (HH _) (AL (AP _) (AL (AP _) (AL (AP _) (AL (AP _) (AL (AP _) (AL (AP _) (AL (HH _) Ax)))))))))) (AL (AP _) Ax))))))
 refine Ah (Ab (Aj ?_))
 refine uD Zd [] [97] 3 ⟨[V 2 (pt 0 9),V 3 (pt 1 2),V 4 (pt 2 4),V 5 (pt 3 9),V 97 (.ptr 3 0 9 1),V 98 (AQ),V 99 (pt 2 4)],[W 0 9 [bs [],AQ,.s (.int .u8 0),bs [],bv false,bs [],bv false,bs [],AQ],W 1 2 [iv 0,iv 0],W 2 4 [bs x1,iv x13,iv 0,iv 0],W 3 9 [bs x14,AQ,.s (.int .u8 0),bs [],bv false,bs [],bv false,bs [],AQ]],4⟩ [(0,some 2)] [(2,some 0)] (fun r:Str × Int=>[W 0 9 [bs [],AQ,.s (.int .u8 0),bs [],bv false,bs [],bv false,bs [],AQ],W 1 2 [iv 0,iv 0],W 2 4 [bs x1,iv r.2,iv 0,iv 0],W 3 9 [bs x14,AQ,.s (.int .u8 0),bs [],bv false,bs [],bv false,bs [],AQ]]) (fun r:Str × Int=>bs r.1) 4 (DM x1 x13 0 0) (pc (hC 2) AD) (fun r=>(pc (.inl ⟨rfl,rfl⟩) (pc (.inl ⟨rfl,rfl⟩) (pc (.inr (hC 0)) (pc (.inl ⟨rfl,rfl⟩) AD))))) ?_
 rintro⟨x23,x24⟩ hm23
 refine jG 4 1 ⟨[V 2 (pt 0 9),V 3 (pt 1 2),V 4 (pt 2 4),V 5 (pt 3 9),V 97 (.ptr 3 0 9 1),V 98 (AQ),V 101 (.fsl 1 (List.map cS [x23]))],[W 0 9 [bs [],AQ,.s (.int .u8 0),bs [],bv false,bs [],bv false,bs [],AQ],W 1 2 [iv 0,iv 0],W 2 4 [bs x1,iv x24,iv 0,iv 0],W 3 9 [bs x14,AQ,.s (.int .u8 0),bs [],bv false,bs [],bv false,bs [],AQ]],4⟩ ?_
 refine A5 (i:=5) (mo:=app 16 ([]:List Str) [x23]) rfl rfl rfl rfl (fun _ hc=>LQ (u:=AQ) (w:=.fsl 1 (List.map cS [x23])) (e:=9) (td:=.slice 9) (by kernel_rfl) (by kernel_rfl) (by kernel_rfl) (by kernel_rfl) (.inl ⟨_,rfl⟩) (nU (c:=cS) (sz:=1) (b:=16) (by kernel_rfl) (.inl rfl) Wb (List.cons_ne_nil _ _) hc)) (fun _=>rfl) ?_
 intro x25 h25
 refine jG 6 2 ⟨[V 2 (pt 0 9),V 3 (pt 1 2),V 4 (pt 2 4),V 5 (pt 3 9),V 97 (.ptr 3 0 9 1)],[W 0 9 [bs [],AQ,.s (.int .u8 0),bs [],bv false,bs [],bv false,bs [],AQ],W 1 2 [iv 0,iv 0],W 2 4 [bs x1,iv x24,iv 0,iv 0],W 3 9 [bs x14,.osl 4 0 (List.length x25) 1,.s (.int .u8 0),bs [],bv false,bs [],bv false,bs [],AQ],(4,.rows 1 (List.map cS x25))],5⟩ ?_
 refine Ad rfl ?_
 refine Vk ?_
 refine Ab (Aj (A4 ?_))
 refine BA (fun (x44,x45)=>⟨[V 2 (pt 0 9),V 3 (pt 1 2),V 4 (pt 2 4),V 5 (pt 3 9)],[W 0 9 [bs [],AQ,.s (.int .u8 0),bs [],bv false,bs [],bv false,bs [],AQ],W 1 2 [iv 0,iv 0],W 2 4 [bs x1,iv x44,iv 0,iv 0],W 3 9 [bs x14,.osl 4 0 (List.length x45) 1,.s (.int .u8 0),bs [],bv false,bs [],bv false,bs [],AQ],(4,.rows 1 (List.map cS x45))],5⟩) (fun (x44,x45)=>(.exit 0)) (C5 (fun (x33,x34)=>⟨[V 2 (pt 0 9),V 3 (pt 1 2),V 4 (pt 2 4),V 5 (pt 3 9)],[W 0 9 [bs [],AQ,.s (.int .u8 0),bs [],bv false,bs [],bv false,bs [],AQ],W 1 2 [iv 0,iv 0],W 2 4 [bs x1,iv x33,iv 0,iv 0],W 3 9 [bs x14,.osl 4 0 (List.length x34) 1,.s (.int .u8 0),bs [],bv false,bs [],bv false,bs [],AQ],(4,.rows 1 (List.map cS x34))],5⟩) (wkR [(0,some 0),(1,some 1),(2,some 2),(3,some 3),(4,some 4)] (Am _) (pc (hC 0) (pc (hC 1) (pc (hC 2) (pc (hC 3) (pc (hL 4 (AY BU _)) AD)))))) ?_) ?_
 ·rintro⟨x33,x34⟩
  unfold Gc
  refine Aj (jR (jG 0 11 ⟨[V 2 (pt 0 9),V 3 (pt 1 2),V 4 (pt 2 4),V 5 (pt 3 9),V 114 (bv (decide (x33 < (List.length x1:Int))))],[W 0 9 [bs [],AQ,.s (.int .u8 0),bs [],bv false,bs [],bv false,bs [],AQ],W 1 2 [iv 0,iv 0],W 2 4 [bs x1,iv x33,iv 0,iv 0],W 3 9 [bs x14,.osl 4 0 (List.length x34) 1,.s (.int .u8 0),bs [],bv false,bs [],bv false,bs [],AQ],(4,.rows 1 (List.map cS x34))],5⟩ ?_))
  refine A2 11 11 (fun x47=>⟨[V 2 (pt 0 9),V 3 (pt 1 2),V 4 (pt 2 4),V 5 (pt 3 9),V 125 (bv x47)],[W 0 9 [bs [],AQ,.s (.int .u8 0),bs [],bv false,bs [],bv false,bs [],AQ],W 1 2 [iv 0,iv 0],W 2 4 [bs x1,iv x33,iv 0,iv 0],W 3 9 [bs x14,.osl 4 0 (List.length x34) 1,.s (.int .u8 0),bs [],bv false,bs [],bv false,bs [],AQ],(4,.rows 1 (List.map cS x34))],5⟩) ?_ ?_
  ·refine jSp 114 ?_ ?_
   ·refine jG 0 8 ⟨[V 2 (pt 0 9),V 3 (pt 1 2),V 4 (pt 2 4),V 5 (pt 3 9),(114,.lit true),V 118 (bs x1),V 122 (iv x33)],[W 0 9 [bs [],AQ,.s (.int .u8 0),bs [],bv false,bs [],bv false,bs [],AQ],W 1 2 [iv 0,iv 0],W 2 4 [bs x1,iv x33,iv 0,iv 0],W 3 9 [bs x14,.osl 4 0 (List.length x34) 1,.s (.int .u8 0),bs [],bv false,bs [],bv false,bs [],AQ],(4,.rows 1 (List.map cS x34))],5⟩ ?_
    refine A5 (i:=8) (mo:=idx x1 x33) rfl rfl rfl rfl (fun _ hc=>Bq (kk:=.i64) (by kernel_rfl) (by kernel_rfl) (by kernel_rfl) hc) (fun _=>rfl) ?_
    intro x48 h48
    refine jG 9 2 ⟨[V 2 (pt 0 9),V 3 (pt 1 2),V 4 (pt 2 4),V 5 (pt 3 9),V 125 (bv (x48 == 46))],[W 0 9 [bs [],AQ,.s (.int .u8 0),bs [],bv false,bs [],bv false,bs [],AQ],W 1 2 [iv 0,iv 0],W 2 4 [bs x1,iv x33,iv 0,iv 0],W 3 9 [bs x14,.osl 4 0 (List.length x34) 1,.s (.int .u8 0),bs [],bv false,bs [],bv false,bs [],AQ],(4,.rows 1 (List.map cS x34))],5⟩ ?_
    exact Ad rfl (AU rfl (wkR [(0,some 0),(1,some 1),(2,some 2),(3,some 3),(4,some 4)] (Am _) (pc (hC 0) (pc (hC 1) (pc (hC 2) (pc (hC 3) (pc (hL 4 (AY BU _)) AD)))))))
   refine jG 0 11 ⟨[V 2 (pt 0 9),V 3 (pt 1 2),V 4 (pt 2 4),V 5 (pt 3 9),V 125 (bv false)],[W 0 9 [bs [],AQ,.s (.int .u8 0),bs [],bv false,bs [],bv false,bs [],AQ],W 1 2 [iv 0,iv 0],W 2 4 [bs x1,iv x33,iv 0,iv 0],W 3 9 [bs x14,.osl 4 0 (List.length x34) 1,.s (.int .u8 0),bs [],bv false,bs [],bv false,bs [],AQ],(4,.rows 1 (List.map cS x34))],5⟩ ?_
   exact Ad rfl (AU rfl (wkR [(0,some 0),(1,some 1),(2,some 2),(3,some 3),(4,some 4)] (Am _) (pc (hC 0) (pc (hC 1) (pc (hC 2) (pc (hC 3) (pc (hL 4 (AY BU _)) AD)))))))
  intro x47
  refine jG 22 1 ⟨[V 2 (pt 0 9),V 3 (pt 1 2),V 4 (pt 2 4),V 5 (pt 3 9),V 126 (bv x47)],[W 0 9 [bs [],AQ,.s (.int .u8 0),bs [],bv false,bs [],bv false,bs [],AQ],W 1 2 [iv 0,iv 0],W 2 4 [bs x1,iv x33,iv 0,iv 0],W 3 9 [bs x14,.osl 4 0 (List.length x34) 1,.s (.int .u8 0),bs [],bv false,bs [],bv false,bs [],AQ],(4,.rows 1 (List.map cS x34))],5⟩ ?_
  refine A2 23 3 (fun x50=>⟨[V 2 (pt 0 9),V 3 (pt 1 2),V 4 (pt 2 4),V 5 (pt 3 9),V 129 (bv x50)],[W 0 9 [bs [],AQ,.s (.int .u8 0),bs [],bv false,bs [],bv false,bs [],AQ],W 1 2 [iv 0,iv 0],W 2 4 [bs x1,iv x33,iv 0,iv 0],W 3 9 [bs x14,.osl 4 0 (List.length x34) 1,.s (.int .u8 0),bs [],bv false,bs [],bv false,bs [],AQ],(4,.rows 1 (List.map cS x34))],5⟩) ?_ ?_
  ·refine jSp 126 ?_ ?_
   ·refine jG 0 1 ⟨[V 2 (pt 0 9),V 3 (pt 1 2),V 4 (pt 2 4),V 5 (pt 3 9),(126,.lit true),V 127 (pt 2 4)],[W 0 9 [bs [],AQ,.s (.int .u8 0),bs [],bv false,bs [],bv false,bs [],AQ],W 1 2 [iv 0,iv 0],W 2 4 [bs x1,iv x33,iv 0,iv 0],W 3 9 [bs x14,.osl 4 0 (List.length x34) 1,.s (.int .u8 0),bs [],bv false,bs [],bv false,bs [],AQ],(4,.rows 1 (List.map cS x34))],5⟩ ?_
    refine By (i:=1) rfl rfl rfl rfl (vs:=[pt 2 4,iv 1,iv 1]) (vs0:=[.fptr [bs x1,iv x33,iv 0,iv 0] 0,iv 1,iv 1]) (b:=true) (by kernel_rfl) (by kernel_rfl) (AL (AP _) (AL (AP _) (AL (AP _) Ax))) (B6 x1 x33 0 0 1 1) (fun _=>rfl) (fun _=>rfl) ?_
    intro x51 h51
    refine jG 2 1 ⟨[V 2 (pt 0 9),V 3 (pt 1 2),V 4 (pt 2 4),V 5 (pt 3 9),V 129 (bv x51)],[W 0 9 [bs [],AQ,.s (.int .u8 0),bs [],bv false,bs [],bv false,bs [],AQ],W 1 2 [iv 0,iv 0],W 2 4 [bs x1,iv x33,iv 0,iv 0],W 3 9 [bs x14,.osl 4 0 (List.length x34) 1,.s (.int .u8 0),bs [],bv false,bs [],bv false,bs [],AQ],(4,.rows 1 (List.map cS x34))],5⟩ ?_
    exact Ad rfl (AU rfl (wkR [(0,some 0),(1,some 1),(2,some 2),(3,some 3),(4,some 4)] (Am _) (pc (hC 0) (pc (hC 1) (pc (hC 2) (pc (hC 3) (pc (hL 4 (AY BU _)) AD)))))))
   refine jG 0 3 ⟨[V 2 (pt 0 9),V 3 (pt 1 2),V 4 (pt 2 4),V 5 (pt 3 9),V 129 (bv false)],[W 0 9 [bs [],AQ,.s (.int .u8 0),bs [],bv false,bs [],bv false,bs [],AQ],W 1 2 [iv 0,iv 0],W 2 4 [bs x1,iv x33,iv 0,iv 0],W 3 9 [bs x14,.osl 4 0 (List.length x34) 1,.s (.int .u8 0),bs [],bv false,bs [],bv false,bs [],AQ],(4,.rows 1 (List.map cS x34))],5⟩ ?_
   exact Ad rfl (AU rfl (wkR [(0,some 0),(1,some 1),(2,some 2),(3,some 3),(4,some 4)] (Am _) (pc (hC 0) (pc (hC 1) (pc (hC 2) (pc (hC 3) (pc (hL 4 (AY BU _)) AD)))))))
  intro x50
  refine jN ?_
  refine jIf ?_ ?_
  ·refine Ah (Ab (A4 (jS ⟨[V 2 (pt 0 9),V 3 (pt 1 2),V 4 (pt 2 4),V 5 (pt 3 9)],[W 0 9 [bs [],AQ,.s (.int .u8 0),bs [],bv false,bs [],bv false,bs [],AQ],W 1 2 [iv 0,iv 0],W 2 4 [bs x1,iv (w64 (x33 + 1)),iv 0,iv 0],W 3 9 [bs x14,.osl 4 0 (List.length x34) 1,.s (.int .u8 0),bs [],bv false,bs [],bv false,bs [],AQ],(4,.rows 1 (List.map cS x34))],5⟩ ?_)))
   refine uD Zg [] [137] 3 ⟨[V 2 (pt 0 9),V 3 (pt 1 2),V 4 (pt 2 4),V 5 (pt 3 9),V 137 (.ptr 3 0 9 1),V 138 (.osl 4 0 (List.length x34) 1),V 139 (pt 2 4)],[W 0 9 [bs [],AQ,.s (.int .u8 0),bs [],bv false,bs [],bv false,bs [],AQ],W 1 2 [iv 0,iv 0],W 2 4 [bs x1,iv (w64 (x33 + 1)),iv 0,iv 0],W 3 9 [bs x14,.osl 4 0 (List.length x34) 1,.s (.int .u8 0),bs [],bv false,bs [],bv false,bs [],AQ],(4,.rows 1 (List.map cS x34))],5⟩ [(0,some 2)] [(2,some 0)] (fun r:Str × Int=>[W 0 9 [bs [],AQ,.s (.int .u8 0),bs [],bv false,bs [],bv false,bs [],AQ],W 1 2 [iv 0,iv 0],W 2 4 [bs x1,iv r.2,iv 0,iv 0],W 3 9 [bs x14,.osl 4 0 (List.length x34) 1,.s (.int .u8 0),bs [],bv false,bs [],bv false,bs [],AQ],(4,.rows 1 (List.map cS x34))]) (fun r:Str × Int=>bs r.1) 5 (DM x1 (w64 (x33 + 1)) 0 0) (pc (hC 2) AD) (fun r=>(pc (.inl ⟨rfl,rfl⟩) (pc (.inl ⟨rfl,rfl⟩) (pc (.inr (hC 0)) (pc (.inl ⟨rfl,rfl⟩) (pc (.inl ⟨rfl,rfl⟩) AD)))))) ?_
   rintro⟨x52,x53⟩ hm6
   refine jG 4 1 ⟨[V 2 (pt 0 9),V 3 (pt 1 2),V 4 (pt 2 4),V 5 (pt 3 9),V 137 (.ptr 3 0 9 1),V 138 (.osl 4 0 (List.length x34) 1),V 141 (.fsl 1 (List.map cS [x52]))],[W 0 9 [bs [],AQ,.s (.int .u8 0),bs [],bv false,bs [],bv false,bs [],AQ],W 1 2 [iv 0,iv 0],W 2 4 [bs x1,iv x53,iv 0,iv 0],W 3 9 [bs x14,.osl 4 0 (List.length x34) 1,.s (.int .u8 0),bs [],bv false,bs [],bv false,bs [],AQ],(4,.rows 1 (List.map cS x34))],5⟩ ?_
   refine A5 (i:=5) (mo:=app 16 x34 [x52]) rfl rfl rfl rfl (fun _ hc=>LQ (u:=.osl 4 0 (List.length x34) 1) (w:=.fsl 1 (List.map cS [x52])) (e:=9) (td:=.slice 9) (by kernel_rfl) (by kernel_rfl) (by kernel_rfl) (by kernel_rfl) (.inl ⟨_,rfl⟩) (E5 (c:=cS) (sz:=1) (b:=16) (id:=4) (by kernel_rfl) (by kernel_rfl) Wb (List.cons_ne_nil _ _) hc)) (fun _=>rfl) ?_
   intro x54 h54
   refine jG 6 2 ⟨[V 2 (pt 0 9),V 3 (pt 1 2),V 4 (pt 2 4),V 5 (pt 3 9),V 137 (.ptr 3 0 9 1)],[W 0 9 [bs [],AQ,.s (.int .u8 0),bs [],bv false,bs [],bv false,bs [],AQ],W 1 2 [iv 0,iv 0],W 2 4 [bs x1,iv x53,iv 0,iv 0],W 3 9 [bs x14,.osl 5 0 (List.length x54) 1,.s (.int .u8 0),bs [],bv false,bs [],bv false,bs [],AQ],(5,.rows 1 (List.map cS x54))],6⟩ ?_
   refine Ad rfl ?_
   refine Vk ?_
   exact BX (C7 (wkR [(0,some 0),(1,some 1),(2,some 2),(3,some 3),(4,some 5)] (Am _) (pc (hC 0) (pc (hC 1) (pc (hC 2) (pc (hC 3) (pc (hL 5 (AY BU _)) AD)))))))
  exact Cp (Cq (Bm rfl nofun (wkR [(0,some 0),(1,some 1),(2,some 2),(3,some 3),(4,some 4)] (Am _) (pc (hC 0) (pc (hC 1) (pc (hC 2) (pc (hC 3) (pc (hL 4 (AY BU _)) AD))))))))
 rintro⟨x44,x45⟩
 refine C6 (Ab (jR (jG 0 2 ⟨[V 2 (pt 0 9),V 3 (pt 1 2),V 4 (pt 2 4),V 5 (pt 3 9),V 145 (pt 2 4),V 146 (.osl 5 0 (List.length ([[97,108,112,104,97],[97],[98,101,116,97],[98],[112,114,101,118,105,101,119],[112,114,101],[99],[114,99]])) 1)],[W 0 9 [bs [],AQ,.s (.int .u8 0),bs [],bv false,bs [],bv false,bs [],AQ],W 1 2 [iv 0,iv 0],W 2 4 [bs x1,iv x44,iv 0,iv 0],W 3 9 [bs x14,.osl 4 0 (List.length x45) 1,.s (.int .u8 0),bs [],bv false,bs [],bv false,bs [],AQ],(4,.rows 1 (List.map cS x45)),(5,.rows 1 (List.map cS ([[97,108,112,104,97],[97],[98,101,116,97],[98],[112,114,101,118,105,101,119],[112,114,101],[99],[114,99]])))],6⟩ ?_)))
 refine BC 2 [(0,some 2),(1,some 5)] [(2,some 0),(5,some 1)] (fun r:Str × Bool × Int=>[W 0 9 [bs [],AQ,.s (.int .u8 0),bs [],bv false,bs [],bv false,bs [],AQ],W 1 2 [iv 0,iv 0],W 2 4 [bs x1,iv r.2.2,iv 0,iv 0],W 3 9 [bs x14,.osl 4 0 (List.length x45) 1,.s (.int .u8 0),bs [],bv false,bs [],bv false,bs [],AQ],(4,.rows 1 (List.map cS x45)),(5,.rows 1 (List.map cS ([[97,108,112,104,97],[97],[98,101,116,97],[98],[112,114,101,118,105,101,119],[112,114,101],[99],[114,99]])))]) (fun r:Str × Bool × Int=>.tup [bs r.1,bv r.2.1]) 6 (Ge x1 x44 0 0 ([[97,108,112,104,97],[97],[98,101,116,97],[98],[112,114,101,118,105,101,119],[112,114,101],[99],[114,99]])) (pc (hC 2) (pc (hL 5 (AY BU _)) AD)) (fun r=>(pc (.inl ⟨rfl,rfl⟩) (pc (.inl ⟨rfl,rfl⟩) (pc (.inr (hC 0)) (pc (.inl ⟨rfl,rfl⟩) (pc (.inl ⟨rfl,rfl⟩) (pc (.inr (hL 1 (AY BU _))) AD))))))) ?_
 rintro⟨x55,x56,x57⟩ hm22
 refine jG 3 5 ⟨[V 2 (pt 0 9),V 3 (pt 1 2),V 4 (pt 2 4),V 5 (pt 3 9),V 7 (bs x55),V 8 (bv x56)],[W 0 9 [bs [],AQ,.s (.int .u8 0),bs [],bv false,bs [],bv false,bs [],AQ],W 1 2 [iv 0,iv 0],W 2 4 [bs x1,iv x57,iv 0,iv 0],W 3 9 [bs x14,.osl 4 0 (List.length x45) 1,.s (.int .u8 0),bs [],bv false,bs [],bv false,bs [],AQ],(4,.rows 1 (List.map cS x45))],6⟩ ?_
 refine jN (Aj ?_)
 refine BA (fun (x61,x62,x63)=>⟨[V 2 (pt 0 9),V 3 (pt 1 2),V 4 (pt 2 4),V 5 (pt 3 9)],[W 0 9 [bs [],AQ,.s (.int .u8 0),bs [],bv false,bs [],bv false,bs [],AQ],W 1 2 [iv 0,iv 0],W 2 4 [bs x1,iv x61,iv 0,iv 0],W 3 9 [bs x14,.osl 4 0 (List.length x45) 1,.s (.int .u8 x62),bs x63,bv false,bs [],bv false,bs [],AQ],(4,.rows 1 (List.map cS x45))],5⟩) (fun (x61,x62,x63)=>.normal) ?_ ?_
 ·refine jS ⟨[V 2 (pt 0 9),V 3 (pt 1 2),V 4 (pt 2 4),V 5 (pt 3 9),V 7 (bs x55),V 150 (bv x56)],[W 0 9 [bs [],AQ,.s (.int .u8 0),bs [],bv false,bs [],bv false,bs [],AQ],W 1 2 [iv 0,iv 0],W 2 4 [bs x1,iv x57,iv 0,iv 0],W 3 9 [bs x14,.osl 4 0 (List.length x45) 1,.s (.int .u8 0),bs [],bv false,bs [],bv false,bs [],AQ],(4,.rows 1 (List.map cS x45))],6⟩ ?_
  refine jIf ?_ ?_
  ·refine jR (jG 0 1 ⟨[V 2 (pt 0 9),V 3 (pt 1 2),V 4 (pt 2 4),V 5 (pt 3 9),V 151 (bs x55)],[W 0 9 [bs [],AQ,.s (.int .u8 0),bs [],bv false,bs [],bv false,bs [],AQ],W 1 2 [iv 0,iv 0],W 2 4 [bs x1,iv x57,iv 0,iv 0],W 3 9 [bs x14,.osl 4 0 (List.length x45) 1,.s (.int .u8 0),bs [],bv false,bs [],bv false,bs [],AQ],(4,.rows 1 (List.map cS x45))],6⟩ ?_)
   refine jK 1 (Z3 x55) ?_
   intro x64 h64
   refine jG 2 2 ⟨[V 2 (pt 0 9),V 3 (pt 1 2),V 4 (pt 2 4),V 5 (pt 3 9)],[W 0 9 [bs [],AQ,.s (.int .u8 0),bs [],bv false,bs [],bv false,bs [],AQ],W 1 2 [iv 0,iv 0],W 2 4 [bs x1,iv x57,iv 0,iv 0],W 3 9 [bs x14,.osl 4 0 (List.length x45) 1,.s (.int .u8 x64),bs [],bv false,bs [],bv false,bs [],AQ],(4,.rows 1 (List.map cS x45))],6⟩ ?_
   refine jN (CY (jG 0 1 ⟨[V 2 (pt 0 9),V 3 (pt 1 2),V 4 (pt 2 4),V 5 (pt 3 9),V 154 (pt 2 4)],[W 0 9 [bs [],AQ,.s (.int .u8 0),bs [],bv false,bs [],bv false,bs [],AQ],W 1 2 [iv 0,iv 0],W 2 4 [bs x1,iv x57,iv 0,iv 0],W 3 9 [bs x14,.osl 4 0 (List.length x45) 1,.s (.int .u8 x64),bs [],bv false,bs [],bv false,bs [],AQ],(4,.rows 1 (List.map cS x45))],6⟩ ?_))
   refine BC 1 [(0,some 2)] [(2,some 0)] (fun r:Str × Int=>[W 0 9 [bs [],AQ,.s (.int .u8 0),bs [],bv false,bs [],bv false,bs [],AQ],W 1 2 [iv 0,iv 0],W 2 4 [bs x1,iv r.2,iv 0,iv 0],W 3 9 [bs x14,.osl 4 0 (List.length x45) 1,.s (.int .u8 x64),bs [],bv false,bs [],bv false,bs [],AQ],(4,.rows 1 (List.map cS x45))]) (fun r:Str × Int=>bs r.1) 6 (FD x1 x57 0 0) (pc (hC 2) AD) (fun r=>(pc (.inl ⟨rfl,rfl⟩) (pc (.inl ⟨rfl,rfl⟩) (pc (.inr (hC 0)) (pc (.inl ⟨rfl,rfl⟩) (pc (.inl ⟨rfl,rfl⟩) AD)))))) ?_
   rintro⟨x65,x66⟩ hm8
   refine jG 2 2 ⟨[V 2 (pt 0 9),V 3 (pt 1 2),V 4 (pt 2 4),V 5 (pt 3 9)],[W 0 9 [bs [],AQ,.s (.int .u8 0),bs [],bv false,bs [],bv false,bs [],AQ],W 1 2 [iv 0,iv 0],W 2 4 [bs x1,iv x66,iv 0,iv 0],W 3 9 [bs x14,.osl 4 0 (List.length x45) 1,.s (.int .u8 x64),bs x65,bv false,bs [],bv false,bs [],AQ],(4,.rows 1 (List.map cS x45))],6⟩ ?_
   exact Ad rfl (AU rfl (wkR [(0,some 0),(1,some 1),(2,some 2),(3,some 3),(4,some 4)] (Am _) (pc (hC 0) (pc (hC 1) (pc (hC 2) (pc (hC 3) (pc (hL 4 (AY BU _)) AD)))))))
  exact Ah (AU rfl (wkR [(0,some 0),(1,some 1),(2,some 2),(3,some 3),(4,some 4)] (Am _) (pc (hC 0) (pc (hC 1) (pc (hC 2) (pc (hC 3) (pc (hL 4 (AY BU _)) AD)))))))
 rintro⟨x61,x62,x63⟩
 refine Ab (Aj ?_)
 refine BA (fun (x78,x79,x80)=>⟨[V 2 (pt 0 9),V 3 (pt 1 2),V 4 (pt 2 4),V 5 (pt 3 9)],[W 0 9 [bs [],AQ,.s (.int .u8 0),bs [],bv false,bs [],bv false,bs [],AQ],W 1 2 [iv 0,iv 0],W 2 4 [bs x1,iv x78,iv 0,iv 0],W 3 9 [bs x14,.osl 4 0 (List.length x45) 1,.s (.int .u8 x62),bs x63,bv x79,bs x80,bv false,bs [],AQ],(4,.rows 1 (List.map cS x45))],5⟩) (fun (x78,x79,x80)=>.normal) ?_ ?_
 ·refine jR (jG 0 11 ⟨[V 2 (pt 0 9),V 3 (pt 1 2),V 4 (pt 2 4),V 5 (pt 3 9),V 167 (bv (decide (x61 < (List.length x1:Int))))],[W 0 9 [bs [],AQ,.s (.int .u8 0),bs [],bv false,bs [],bv false,bs [],AQ],W 1 2 [iv 0,iv 0],W 2 4 [bs x1,iv x61,iv 0,iv 0],W 3 9 [bs x14,.osl 4 0 (List.length x45) 1,.s (.int .u8 x62),bs x63,bv false,bs [],bv false,bs [],AQ],(4,.rows 1 (List.map cS x45))],5⟩ ?_)
  refine A2 11 11 (fun x82=>⟨[V 2 (pt 0 9),V 3 (pt 1 2),V 4 (pt 2 4),V 5 (pt 3 9),V 178 (bv x82)],[W 0 9 [bs [],AQ,.s (.int .u8 0),bs [],bv false,bs [],bv false,bs [],AQ],W 1 2 [iv 0,iv 0],W 2 4 [bs x1,iv x61,iv 0,iv 0],W 3 9 [bs x14,.osl 4 0 (List.length x45) 1,.s (.int .u8 x62),bs x63,bv false,bs [],bv false,bs [],AQ],(4,.rows 1 (List.map cS x45))],5⟩) ?_ ?_
  ·refine jSp 167 ?_ ?_
   ·refine jG 0 8 ⟨[V 2 (pt 0 9),V 3 (pt 1 2),V 4 (pt 2 4),V 5 (pt 3 9),(167,.lit true),V 171 (bs x1),V 175 (iv x61)],[W 0 9 [bs [],AQ,.s (.int .u8 0),bs [],bv false,bs [],bv false,bs [],AQ],W 1 2 [iv 0,iv 0],W 2 4 [bs x1,iv x61,iv 0,iv 0],W 3 9 [bs x14,.osl 4 0 (List.length x45) 1,.s (.int .u8 x62),bs x63,bv false,bs [],bv false,bs [],AQ],(4,.rows 1 (List.map cS x45))],5⟩ ?_
    refine A5 (i:=8) (mo:=idx x1 x61) rfl rfl rfl rfl (fun _ hc=>Bq (kk:=.i64) (by kernel_rfl) (by kernel_rfl) (by kernel_rfl) hc) (fun _=>rfl) ?_
    intro x83 h83
    refine jG 9 2 ⟨[V 2 (pt 0 9),V 3 (pt 1 2),V 4 (pt 2 4),V 5 (pt 3 9),V 178 (bv (x83 == 45))],[W 0 9 [bs [],AQ,.s (.int .u8 0),bs [],bv false,bs [],bv false,bs [],AQ],W 1 2 [iv 0,iv 0],W 2 4 [bs x1,iv x61,iv 0,iv 0],W 3 9 [bs x14,.osl 4 0 (List.length x45) 1,.s (.int .u8 x62),bs x63,bv false,bs [],bv false,bs [],AQ],(4,.rows 1 (List.map cS x45))],5⟩ ?_
    exact Ad rfl (AU rfl (wkR [(0,some 0),(1,some 1),(2,some 2),(3,some 3),(4,some 4)] (Am _) (pc (hC 0) (pc (hC 1) (pc (hC 2) (pc (hC 3) (pc (hL 4 (AY BU _)) AD)))))))
   refine jG 0 11 ⟨[V 2 (pt 0 9),V 3 (pt 1 2),V 4 (pt 2 4),V 5 (pt 3 9),V 178 (bv false)],[W 0 9 [bs [],AQ,.s (.int .u8 0),bs [],bv false,bs [],bv false,bs [],AQ],W 1 2 [iv 0,iv 0],W 2 4 [bs x1,iv x61,iv 0,iv 0],W 3 9 [bs x14,.osl 4 0 (List.length x45) 1,.s (.int .u8 x62),bs x63,bv false,bs [],bv false,bs [],AQ],(4,.rows 1 (List.map cS x45))],5⟩ ?_
   exact Ad rfl (AU rfl (wkR [(0,some 0),(1,some 1),(2,some 2),(3,some 3),(4,some 4)] (Am _) (pc (hC 0) (pc (hC 1) (pc (hC 2) (pc (hC 3) (pc (hL 4 (AY BU _)) AD)))))))
  intro x82
  refine jG 22 1 ⟨[V 2 (pt 0 9),V 3 (pt 1 2),V 4 (pt 2 4),V 5 (pt 3 9),V 179 (bv x82)],[W 0 9 [bs [],AQ,.s (.int .u8 0),bs [],bv false,bs [],bv false,bs [],AQ],W 1 2 [iv 0,iv 0],W 2 4 [bs x1,iv x61,iv 0,iv 0],W 3 9 [bs x14,.osl 4 0 (List.length x45) 1,.s (.int .u8 x62),bs x63,bv false,bs [],bv false,bs [],AQ],(4,.rows 1 (List.map cS x45))],5⟩ ?_
  refine A2 23 3 (fun x85=>⟨[V 2 (pt 0 9),V 3 (pt 1 2),V 4 (pt 2 4),V 5 (pt 3 9),V 182 (bv x85)],[W 0 9 [bs [],AQ,.s (.int .u8 0),bs [],bv false,bs [],bv false,bs [],AQ],W 1 2 [iv 0,iv 0],W 2 4 [bs x1,iv x61,iv 0,iv 0],W 3 9 [bs x14,.osl 4 0 (List.length x45) 1,.s (.int .u8 x62),bs x63,bv false,bs [],bv false,bs [],AQ],(4,.rows 1 (List.map cS x45))],5⟩) ?_ ?_
  ·refine jSp 179 ?_ ?_
   ·refine jG 0 1 ⟨[V 2 (pt 0 9),V 3 (pt 1 2),V 4 (pt 2 4),V 5 (pt 3 9),(179,.lit true),V 180 (pt 2 4)],[W 0 9 [bs [],AQ,.s (.int .u8 0),bs [],bv false,bs [],bv false,bs [],AQ],W 1 2 [iv 0,iv 0],W 2 4 [bs x1,iv x61,iv 0,iv 0],W 3 9 [bs x14,.osl 4 0 (List.length x45) 1,.s (.int .u8 x62),bs x63,bv false,bs [],bv false,bs [],AQ],(4,.rows 1 (List.map cS x45))],5⟩ ?_
    refine By (i:=1) rfl rfl rfl rfl (vs:=[pt 2 4,iv 1,iv 1]) (vs0:=[.fptr [bs x1,iv x61,iv 0,iv 0] 0,iv 1,iv 1]) (b:=true) (by kernel_rfl) (by kernel_rfl) (AL (AP _) (AL (AP _) (AL (AP _) Ax))) (B6 x1 x61 0 0 1 1) (fun _=>rfl) (fun _=>rfl) ?_
    intro x86 h86
    refine jG 2 1 ⟨[V 2 (pt 0 9),V 3 (pt 1 2),V 4 (pt 2 4),V 5 (pt 3 9),V 182 (bv x86)],[W 0 9 [bs [],AQ,.s (.int .u8 0),bs [],bv false,bs [],bv false,bs [],AQ],W 1 2 [iv 0,iv 0],W 2 4 [bs x1,iv x61,iv 0,iv 0],W 3 9 [bs x14,.osl 4 0 (List.length x45) 1,.s (.int .u8 x62),bs x63,bv false,bs [],bv false,bs [],AQ],(4,.rows 1 (List.map cS x45))],5⟩ ?_
    exact Ad rfl (AU rfl (wkR [(0,some 0),(1,some 1),(2,some 2),(3,some 3),(4,some 4)] (Am _) (pc (hC 0) (pc (hC 1) (pc (hC 2) (pc (hC 3) (pc (hL 4 (AY BU _)) AD)))))))
   refine jG 0 3 ⟨[V 2 (pt 0 9),V 3 (pt 1 2),V 4 (pt 2 4),V 5 (pt 3 9),V 182 (bv false)],[W 0 9 [bs [],AQ,.s (.int .u8 0),bs [],bv false,bs [],bv false,bs [],AQ],W 1 2 [iv 0,iv 0],W 2 4 [bs x1,iv x61,iv 0,iv 0],W 3 9 [bs x14,.osl 4 0 (List.length x45) 1,.s (.int .u8 x62),bs x63,bv false,bs [],bv false,bs [],AQ],(4,.rows 1 (List.map cS x45))],5⟩ ?_
   exact Ad rfl (AU rfl (wkR [(0,some 0),(1,some 1),(2,some 2),(3,some 3),(4,some 4)] (Am _) (pc (hC 0) (pc (hC 1) (pc (hC 2) (pc (hC 3) (pc (hL 4 (AY BU _)) AD)))))))
  intro x85
  refine jN ?_
  refine jIf ?_ ?_
  ·refine jS ⟨[V 2 (pt 0 9),V 3 (pt 1 2),V 4 (pt 2 4),V 5 (pt 3 9)],[W 0 9 [bs [],AQ,.s (.int .u8 0),bs [],bv false,bs [],bv false,bs [],AQ],W 1 2 [iv 0,iv 0],W 2 4 [bs x1,iv (w64 (x61 + 1)),iv 0,iv 0],W 3 9 [bs x14,.osl 4 0 (List.length x45) 1,.s (.int .u8 x62),bs x63,bv false,bs [],bv false,bs [],AQ],(4,.rows 1 (List.map cS x45))],5⟩ ?_
   refine jS ⟨[V 2 (pt 0 9),V 3 (pt 1 2),V 4 (pt 2 4),V 5 (pt 3 9)],[W 0 9 [bs [],AQ,.s (.int .u8 0),bs [],bv false,bs [],bv false,bs [],AQ],W 1 2 [iv 0,iv 0],W 2 4 [bs x1,iv (w64 (x61 + 1)),iv 0,iv 0],W 3 9 [bs x14,.osl 4 0 (List.length x45) 1,.s (.int .u8 x62),bs x63,bv true,bs [],bv false,bs [],AQ],(4,.rows 1 (List.map cS x45))],5⟩ ?_
   refine CY (jG 0 1 ⟨[V 2 (pt 0 9),V 3 (pt 1 2),V 4 (pt 2 4),V 5 (pt 3 9),V 191 (pt 2 4)],[W 0 9 [bs [],AQ,.s (.int .u8 0),bs [],bv false,bs [],bv false,bs [],AQ],W 1 2 [iv 0,iv 0],W 2 4 [bs x1,iv (w64 (x61 + 1)),iv 0,iv 0],W 3 9 [bs x14,.osl 4 0 (List.length x45) 1,.s (.int .u8 x62),bs x63,bv true,bs [],bv false,bs [],AQ],(4,.rows 1 (List.map cS x45))],5⟩ ?_)
   refine BC 1 [(0,some 2)] [(2,some 0)] (fun r:Str × Int=>[W 0 9 [bs [],AQ,.s (.int .u8 0),bs [],bv false,bs [],bv false,bs [],AQ],W 1 2 [iv 0,iv 0],W 2 4 [bs x1,iv r.2,iv 0,iv 0],W 3 9 [bs x14,.osl 4 0 (List.length x45) 1,.s (.int .u8 x62),bs x63,bv true,bs [],bv false,bs [],AQ],(4,.rows 1 (List.map cS x45))]) (fun r:Str × Int=>bs r.1) 5 (DM x1 (w64 (x61 + 1)) 0 0) (pc (hC 2) AD) (fun r=>(pc (.inl ⟨rfl,rfl⟩) (pc (.inl ⟨rfl,rfl⟩) (pc (.inr (hC 0)) (pc (.inl ⟨rfl,rfl⟩) (pc (.inl ⟨rfl,rfl⟩) AD)))))) ?_
   rintro⟨x87,x88⟩ hm12
   refine jG 2 2 ⟨[V 2 (pt 0 9),V 3 (pt 1 2),V 4 (pt 2 4),V 5 (pt 3 9)],[W 0 9 [bs [],AQ,.s (.int .u8 0),bs [],bv false,bs [],bv false,bs [],AQ],W 1 2 [iv 0,iv 0],W 2 4 [bs x1,iv x88,iv 0,iv 0],W 3 9 [bs x14,.osl 4 0 (List.length x45) 1,.s (.int .u8 x62),bs x63,bv true,bs x87,bv false,bs [],AQ],(4,.rows 1 (List.map cS x45))],5⟩ ?_
   exact Ad rfl (AU rfl (wkR [(0,some 0),(1,some 1),(2,some 2),(3,some 3),(4,some 4)] (Am _) (pc (hC 0) (pc (hC 1) (pc (hC 2) (pc (hC 3) (pc (hL 4 (AY BU _)) AD)))))))
  refine jR (jG 0 2 ⟨[V 2 (pt 0 9),V 3 (pt 1 2),V 4 (pt 2 4),V 5 (pt 3 9),V 195 (pt 2 4),V 196 (.osl 5 0 (List.length ([[112,111,115,116],[114,101,118],[114]])) 1)],[W 0 9 [bs [],AQ,.s (.int .u8 0),bs [],bv false,bs [],bv false,bs [],AQ],W 1 2 [iv 0,iv 0],W 2 4 [bs x1,iv x61,iv 0,iv 0],W 3 9 [bs x14,.osl 4 0 (List.length x45) 1,.s (.int .u8 x62),bs x63,bv false,bs [],bv false,bs [],AQ],(4,.rows 1 (List.map cS x45)),(5,.rows 1 (List.map cS ([[112,111,115,116],[114,101,118],[114]])))],6⟩ ?_)
  refine BC 2 [(0,some 2),(1,some 5)] [(2,some 0),(5,some 1)] (fun r:Str × Bool × Int=>[W 0 9 [bs [],AQ,.s (.int .u8 0),bs [],bv false,bs [],bv false,bs [],AQ],W 1 2 [iv 0,iv 0],W 2 4 [bs x1,iv r.2.2,iv 0,iv 0],W 3 9 [bs x14,.osl 4 0 (List.length x45) 1,.s (.int .u8 x62),bs x63,bv false,bs [],bv false,bs [],AQ],(4,.rows 1 (List.map cS x45)),(5,.rows 1 (List.map cS ([[112,111,115,116],[114,101,118],[114]])))]) (fun r:Str × Bool × Int=>.tup [bs r.1,bv r.2.1]) 6 (Ge x1 x61 0 0 ([[112,111,115,116],[114,101,118],[114]])) (pc (hC 2) (pc (hL 5 (AY BU _)) AD)) (fun r=>(pc (.inl ⟨rfl,rfl⟩) (pc (.inl ⟨rfl,rfl⟩) (pc (.inr (hC 0)) (pc (.inl ⟨rfl,rfl⟩) (pc (.inl ⟨rfl,rfl⟩) (pc (.inr (hL 1 (AY BU _))) AD))))))) ?_
  rintro⟨x89,x90,x91⟩ hm14
  refine jG 3 4 ⟨[V 2 (pt 0 9),V 3 (pt 1 2),V 4 (pt 2 4),V 5 (pt 3 9),V 8 (bv x90)],[W 0 9 [bs [],AQ,.s (.int .u8 0),bs [],bv false,bs [],bv false,bs [],AQ],W 1 2 [iv 0,iv 0],W 2 4 [bs x1,iv x91,iv 0,iv 0],W 3 9 [bs x14,.osl 4 0 (List.length x45) 1,.s (.int .u8 x62),bs x63,bv false,bs [],bv false,bs [],AQ],(4,.rows 1 (List.map cS x45))],6⟩ ?_
  refine jN (jS ⟨[V 2 (pt 0 9),V 3 (pt 1 2),V 4 (pt 2 4),V 5 (pt 3 9),V 200 (bv x90)],[W 0 9 [bs [],AQ,.s (.int .u8 0),bs [],bv false,bs [],bv false,bs [],AQ],W 1 2 [iv 0,iv 0],W 2 4 [bs x1,iv x91,iv 0,iv 0],W 3 9 [bs x14,.osl 4 0 (List.length x45) 1,.s (.int .u8 x62),bs x63,bv false,bs [],bv false,bs [],AQ],(4,.rows 1 (List.map cS x45))],6⟩ ?_)
  refine jIf ?_ ?_
  ·refine jS ⟨[V 2 (pt 0 9),V 3 (pt 1 2),V 4 (pt 2 4),V 5 (pt 3 9)],[W 0 9 [bs [],AQ,.s (.int .u8 0),bs [],bv false,bs [],bv false,bs [],AQ],W 1 2 [iv 0,iv 0],W 2 4 [bs x1,iv x91,iv 0,iv 0],W 3 9 [bs x14,.osl 4 0 (List.length x45) 1,.s (.int .u8 x62),bs x63,bv true,bs [],bv false,bs [],AQ],(4,.rows 1 (List.map cS x45))],6⟩ ?_
   refine CY (jG 0 1 ⟨[V 2 (pt 0 9),V 3 (pt 1 2),V 4 (pt 2 4),V 5 (pt 3 9),V 202 (pt 2 4)],[W 0 9 [bs [],AQ,.s (.int .u8 0),bs [],bv false,bs [],bv false,bs [],AQ],W 1 2 [iv 0,iv 0],W 2 4 [bs x1,iv x91,iv 0,iv 0],W 3 9 [bs x14,.osl 4 0 (List.length x45) 1,.s (.int .u8 x62),bs x63,bv true,bs [],bv false,bs [],AQ],(4,.rows 1 (List.map cS x45))],6⟩ ?_)
   refine BC 1 [(0,some 2)] [(2,some 0)] (fun r:Str × Int=>[W 0 9 [bs [],AQ,.s (.int .u8 0),bs [],bv false,bs [],bv false,bs [],AQ],W 1 2 [iv 0,iv 0],W 2 4 [bs x1,iv r.2,iv 0,iv 0],W 3 9 [bs x14,.osl 4 0 (List.length x45) 1,.s (.int .u8 x62),bs x63,bv true,bs [],bv false,bs [],AQ],(4,.rows 1 (List.map cS x45))]) (fun r:Str × Int=>bs r.1) 6 (FD x1 x91 0 0) (pc (hC 2) AD) (fun r=>(pc (.inl ⟨rfl,rfl⟩) (pc (.inl ⟨rfl,rfl⟩) (pc (.inr (hC 0)) (pc (.inl ⟨rfl,rfl⟩) (pc (.inl ⟨rfl,rfl⟩) AD)))))) ?_
   rintro⟨x92,x93⟩ hm13
   refine jG 2 2 ⟨[V 2 (pt 0 9),V 3 (pt 1 2),V 4 (pt 2 4),V 5 (pt 3 9)],[W 0 9 [bs [],AQ,.s (.int .u8 0),bs [],bv false,bs [],bv false,bs [],AQ],W 1 2 [iv 0,iv 0],W 2 4 [bs x1,iv x93,iv 0,iv 0],W 3 9 [bs x14,.osl 4 0 (List.length x45) 1,.s (.int .u8 x62),bs x63,bv true,bs x92,bv false,bs [],AQ],(4,.rows 1 (List.map cS x45))],6⟩ ?_
   exact Ad rfl (AU rfl (wkR [(0,some 0),(1,some 1),(2,some 2),(3,some 3),(4,some 4)] (Am _) (pc (hC 0) (pc (hC 1) (pc (hC 2) (pc (hC 3) (pc (hL 4 (AY BU _)) AD)))))))
  exact Ah (AU rfl (wkR [(0,some 0),(1,some 1),(2,some 2),(3,some 3),(4,some 4)] (Am _) (pc (hC 0) (pc (hC 1) (pc (hC 2) (pc (hC 3) (pc (hL 4 (AY BU _)) AD)))))))
 rintro⟨x78,x79,x80⟩
 refine Ab (jR (jG 0 2 ⟨[V 2 (pt 0 9),V 3 (pt 1 2),V 4 (pt 2 4),V 5 (pt 3 9),V 206 (pt 2 4),V 207 (.osl 5 0 (List.length ([[100,101,118]])) 1)],[W 0 9 [bs [],AQ,.s (.int .u8 0),bs [],bv false,bs [],bv false,bs [],AQ],W 1 2 [iv 0,iv 0],W 2 4 [bs x1,iv x78,iv 0,iv 0],W 3 9 [bs x14,.osl 4 0 (List.length x45) 1,.s (.int .u8 x62),bs x63,bv x79,bs x80,bv false,bs [],AQ],(4,.rows 1 (List.map cS x45)),(5,.rows 1 (List.map cS ([[100,101,118]])))],6⟩ ?_))
 refine BC 2 [(0,some 2),(1,some 5)] [(2,some 0),(5,some 1)] (fun r:Str × Bool × Int=>[W 0 9 [bs [],AQ,.s (.int .u8 0),bs [],bv false,bs [],bv false,bs [],AQ],W 1 2 [iv 0,iv 0],W 2 4 [bs x1,iv r.2.2,iv 0,iv 0],W 3 9 [bs x14,.osl 4 0 (List.length x45) 1,.s (.int .u8 x62),bs x63,bv x79,bs x80,bv false,bs [],AQ],(4,.rows 1 (List.map cS x45)),(5,.rows 1 (List.map cS ([[100,101,118]])))]) (fun r:Str × Bool × Int=>.tup [bs r.1,bv r.2.1]) 6 (Ge x1 x78 0 0 ([[100,101,118]])) (pc (hC 2) (pc (hL 5 (AY BU _)) AD)) (fun r=>(pc (.inl ⟨rfl,rfl⟩) (pc (.inl ⟨rfl,rfl⟩) (pc (.inr (hC 0)) (pc (.inl ⟨rfl,rfl⟩) (pc (.inl ⟨rfl,rfl⟩) (pc (.inr (hL 1 (AY BU _))) AD))))))) ?_
 rintro⟨x94,x95,x96⟩ hm21
 refine jG 3 4 ⟨[V 2 (pt 0 9),V 3 (pt 1 2),V 4 (pt 2 4),V 5 (pt 3 9),V 8 (bv x95)],[W 0 9 [bs [],AQ,.s (.int .u8 0),bs [],bv false,bs [],bv false,bs [],AQ],W 1 2 [iv 0,iv 0],W 2 4 [bs x1,iv x96,iv 0,iv 0],W 3 9 [bs x14,.osl 4 0 (List.length x45) 1,.s (.int .u8 x62),bs x63,bv x79,bs x80,bv false,bs [],AQ],(4,.rows 1 (List.map cS x45))],6⟩ ?_
 refine jN (Aj ?_)
 refine BA (fun (x99,x100,x101)=>⟨[V 2 (pt 0 9),V 3 (pt 1 2),V 4 (pt 2 4),V 5 (pt 3 9)],[W 0 9 [bs [],AQ,.s (.int .u8 0),bs [],bv false,bs [],bv false,bs [],AQ],W 1 2 [iv 0,iv 0],W 2 4 [bs x1,iv x99,iv 0,iv 0],W 3 9 [bs x14,.osl 4 0 (List.length x45) 1,.s (.int .u8 x62),bs x63,bv x79,bs x80,bv x100,bs x101,AQ],(4,.rows 1 (List.map cS x45))],5⟩) (fun (x99,x100,x101)=>.normal) ?_ ?_
 ·refine jS ⟨[V 2 (pt 0 9),V 3 (pt 1 2),V 4 (pt 2 4),V 5 (pt 3 9),V 211 (bv x95)],[W 0 9 [bs [],AQ,.s (.int .u8 0),bs [],bv false,bs [],bv false,bs [],AQ],W 1 2 [iv 0,iv 0],W 2 4 [bs x1,iv x96,iv 0,iv 0],W 3 9 [bs x14,.osl 4 0 (List.length x45) 1,.s (.int .u8 x62),bs x63,bv x79,bs x80,bv false,bs [],AQ],(4,.rows 1 (List.map cS x45))],6⟩ ?_
  refine jIf ?_ ?_
  ·refine jS ⟨[V 2 (pt 0 9),V 3 (pt 1 2),V 4 (pt 2 4),V 5 (pt 3 9)],[W 0 9 [bs [],AQ,.s (.int .u8 0),bs [],bv false,bs [],bv false,bs [],AQ],W 1 2 [iv 0,iv 0],W 2 4 [bs x1,iv x96,iv 0,iv 0],W 3 9 [bs x14,.osl 4 0 (List.length x45) 1,.s (.int .u8 x62),bs x63,bv x79,bs x80,bv true,bs [],AQ],(4,.rows 1 (List.map cS x45))],6⟩ ?_
   refine CY (jG 0 1 ⟨[V 2 (pt 0 9),V 3 (pt 1 2),V 4 (pt 2 4),V 5 (pt 3 9),V 213 (pt 2 4)],[W 0 9 [bs [],AQ,.s (.int .u8 0),bs [],bv false,bs [],bv false,bs [],AQ],W 1 2 [iv 0,iv 0],W 2 4 [bs x1,iv x96,iv 0,iv 0],W 3 9 [bs x14,.osl 4 0 (List.length x45) 1,.s (.int .u8 x62),bs x63,bv x79,bs x80,bv true,bs [],AQ],(4,.rows 1 (List.map cS x45))],6⟩ ?_)
   refine BC 1 [(0,some 2)] [(2,some 0)] (fun r:Str × Int=>[W 0 9 [bs [],AQ,.s (.int .u8 0),bs [],bv false,bs [],bv false,bs [],AQ],W 1 2 [iv 0,iv 0],W 2 4 [bs x1,iv r.2,iv 0,iv 0],W 3 9 [bs x14,.osl 4 0 (List.length x45) 1,.s (.int .u8 x62),bs x63,bv x79,bs x80,bv true,bs [],AQ],(4,.rows 1 (List.map cS x45))]) (fun r:Str × Int=>bs r.1) 6 (FD x1 x96 0 0) (pc (hC 2) AD) (fun r=>(pc (.inl ⟨rfl,rfl⟩) (pc (.inl ⟨rfl,rfl⟩) (pc (.inr (hC 0)) (pc (.inl ⟨rfl,rfl⟩) (pc (.inl ⟨rfl,rfl⟩) AD)))))) ?_
   rintro⟨x102,x103⟩ hm16
   refine jG 2 2 ⟨[V 2 (pt 0 9),V 3 (pt 1 2),V 4 (pt 2 4),V 5 (pt 3 9)],[W 0 9 [bs [],AQ,.s (.int .u8 0),bs [],bv false,bs [],bv false,bs [],AQ],W 1 2 [iv 0,iv 0],W 2 4 [bs x1,iv x103,iv 0,iv 0],W 3 9 [bs x14,.osl 4 0 (List.length x45) 1,.s (.int .u8 x62),bs x63,bv x79,bs x80,bv true,bs x102,AQ],(4,.rows 1 (List.map cS x45))],6⟩ ?_
   exact Ad rfl (AU rfl (wkR [(0,some 0),(1,some 1),(2,some 2),(3,some 3),(4,some 4)] (Am _) (pc (hC 0) (pc (hC 1) (pc (hC 2) (pc (hC 3) (pc (hL 4 (AY BU _)) AD)))))))
  exact Ah (AU rfl (wkR [(0,some 0),(1,some 1),(2,some 2),(3,some 3),(4,some 4)] (Am _) (pc (hC 0) (pc (hC 1) (pc (hC 2) (pc (hC 3) (pc (hL 4 (AY BU _)) AD)))))))
 rintro⟨x99,x100,x101⟩
 refine Ab (Aj ?_)
 refine BA (fun (x110,x111,x112,x113)=>⟨[V 2 (pt 0 9),V 3 (pt 1 2),V 4 (pt 2 4),V 5 (pt 3 9)],[W 0 9 [bs [],AQ,.s (.int .u8 0),bs [],bv false,bs [],bv false,bs [],AQ],W 1 2 [iv 0,iv 0],W 2 4 [bs x1,iv x110,iv x111,iv x112],W 3 9 [bs x14,.osl 4 0 (List.length x45) 1,.s (.int .u8 x62),bs x63,bv x79,bs x80,bv x100,bs x101,.osl 5 0 (List.length x113) 1],(4,.rows 1 (List.map cS x45)),(5,.rows 1 (List.map cS x113))],6⟩) (fun (x110,x111,x112,x113)=>.normal) ?_ ?_
 ·refine jR (jG 0 11 ⟨[V 2 (pt 0 9),V 3 (pt 1 2),V 4 (pt 2 4),V 5 (pt 3 9),V 226 (bv (decide (x99 < (List.length x1:Int))))],[W 0 9 [bs [],AQ,.s (.int .u8 0),bs [],bv false,bs [],bv false,bs [],AQ],W 1 2 [iv 0,iv 0],W 2 4 [bs x1,iv x99,iv 0,iv 0],W 3 9 [bs x14,.osl 4 0 (List.length x45) 1,.s (.int .u8 x62),bs x63,bv x79,bs x80,bv x100,bs x101,AQ],(4,.rows 1 (List.map cS x45))],5⟩ ?_)
  refine A2 11 11 (fun x115=>⟨[V 2 (pt 0 9),V 3 (pt 1 2),V 4 (pt 2 4),V 5 (pt 3 9),V 237 (bv x115)],[W 0 9 [bs [],AQ,.s (.int .u8 0),bs [],bv false,bs [],bv false,bs [],AQ],W 1 2 [iv 0,iv 0],W 2 4 [bs x1,iv x99,iv 0,iv 0],W 3 9 [bs x14,.osl 4 0 (List.length x45) 1,.s (.int .u8 x62),bs x63,bv x79,bs x80,bv x100,bs x101,AQ],(4,.rows 1 (List.map cS x45))],5⟩) ?_ ?_
  ·refine jSp 226 ?_ ?_
   ·refine jG 0 8 ⟨[V 2 (pt 0 9),V 3 (pt 1 2),V 4 (pt 2 4),V 5 (pt 3 9),(226,.lit true),V 230 (bs x1),V 234 (iv x99)],[W 0 9 [bs [],AQ,.s (.int .u8 0),bs [],bv false,bs [],bv false,bs [],AQ],W 1 2 [iv 0,iv 0],W 2 4 [bs x1,iv x99,iv 0,iv 0],W 3 9 [bs x14,.osl 4 0 (List.length x45) 1,.s (.int .u8 x62),bs x63,bv x79,bs x80,bv x100,bs x101,AQ],(4,.rows 1 (List.map cS x45))],5⟩ ?_
    refine A5 (i:=8) (mo:=idx x1 x99) rfl rfl rfl rfl (fun _ hc=>Bq (kk:=.i64) (by kernel_rfl) (by kernel_rfl) (by kernel_rfl) hc) (fun _=>rfl) ?_
    intro x116 h116
    refine jG 9 2 ⟨[V 2 (pt 0 9),V 3 (pt 1 2),V 4 (pt 2 4),V 5 (pt 3 9),V 237 (bv (x116 == 43))],[W 0 9 [bs [],AQ,.s (.int .u8 0),bs [],bv false,bs [],bv false,bs [],AQ],W 1 2 [iv 0,iv 0],W 2 4 [bs x1,iv x99,iv 0,iv 0],W 3 9 [bs x14,.osl 4 0 (List.length x45) 1,.s (.int .u8 x62),bs x63,bv x79,bs x80,bv x100,bs x101,AQ],(4,.rows 1 (List.map cS x45))],5⟩ ?_
    exact Ad rfl (AU rfl (wkR [(0,some 0),(1,some 1),(2,some 2),(3,some 3),(4,some 4)] (Am _) (pc (hC 0) (pc (hC 1) (pc (hC 2) (pc (hC 3) (pc (hL 4 (AY BU _)) AD)))))))
   refine jG 0 11 ⟨[V 2 (pt 0 9),V 3 (pt 1 2),V 4 (pt 2 4),V 5 (pt 3 9),V 237 (bv false)],[W 0 9 [bs [],AQ,.s (.int .u8 0),bs [],bv false,bs [],bv false,bs [],AQ],W 1 2 [iv 0,iv 0],W 2 4 [bs x1,iv x99,iv 0,iv 0],W 3 9 [bs x14,.osl 4 0 (List.length x45) 1,.s (.int .u8 x62),bs x63,bv x79,bs x80,bv x100,bs x101,AQ],(4,.rows 1 (List.map cS x45))],5⟩ ?_
   exact Ad rfl (AU rfl (wkR [(0,some 0),(1,some 1),(2,some 2),(3,some 3),(4,some 4)] (Am _) (pc (hC 0) (pc (hC 1) (pc (hC 2) (pc (hC 3) (pc (hL 4 (AY BU _)) AD)))))))
  intro x115
  refine jN ?_
  refine jIf ?_ ?_
  ·refine CY (jG 0 1 ⟨[V 2 (pt 0 9),V 3 (pt 1 2),V 4 (pt 2 4),V 5 (pt 3 9),V 238 (pt 2 4)],[W 0 9 [bs [],AQ,.s (.int .u8 0),bs [],bv false,bs [],bv false,bs [],AQ],W 1 2 [iv 0,iv 0],W 2 4 [bs x1,iv x99,iv 0,iv 0],W 3 9 [bs x14,.osl 4 0 (List.length x45) 1,.s (.int .u8 x62),bs x63,bv x79,bs x80,bv x100,bs x101,AQ],(4,.rows 1 (List.map cS x45))],5⟩ ?_)
   refine BC 1 [(0,some 2)] [(2,some 0),(5,some 1)] (fun r:List Str × Int × Int × Int=>[W 0 9 [bs [],AQ,.s (.int .u8 0),bs [],bv false,bs [],bv false,bs [],AQ],W 1 2 [iv 0,iv 0],W 2 4 [bs x1,iv r.2.1,iv r.2.2.1,iv r.2.2.2],W 3 9 [bs x14,.osl 4 0 (List.length x45) 1,.s (.int .u8 x62),bs x63,bv x79,bs x80,bv x100,bs x101,AQ],(4,.rows 1 (List.map cS x45)),(5,.rows 1 (List.map cS r.1))]) (fun r:List Str × Int × Int × Int=>.osl 5 0 (List.length r.1) 1) 6 (Q9 x1 x99 0 0) (pc (hC 2) AD) (fun r=>(pc (.inl ⟨rfl,rfl⟩) (pc (.inl ⟨rfl,rfl⟩) (pc (.inr (hC 0)) (pc (.inl ⟨rfl,rfl⟩) (pc (.inl ⟨rfl,rfl⟩) (pc (.inr (hL 1 (AY BU _))) AD))))))) ?_
   rintro⟨x117,x118,x119,x120⟩ hm18
   refine jG 2 2 ⟨[V 2 (pt 0 9),V 3 (pt 1 2),V 4 (pt 2 4),V 5 (pt 3 9)],[W 0 9 [bs [],AQ,.s (.int .u8 0),bs [],bv false,bs [],bv false,bs [],AQ],W 1 2 [iv 0,iv 0],W 2 4 [bs x1,iv x118,iv x119,iv x120],W 3 9 [bs x14,.osl 4 0 (List.length x45) 1,.s (.int .u8 x62),bs x63,bv x79,bs x80,bv x100,bs x101,.osl 5 0 (List.length x117) 1],(4,.rows 1 (List.map cS x45)),(5,.rows 1 (List.map cS x117))],6⟩ ?_
   exact Ad rfl (AU rfl (wkR [(0,some 0),(1,some 1),(2,some 2),(3,some 3),(4,some 4),(5,some 5)] (Am _) (pc (hC 0) (pc (hC 1) (pc (hC 2) (pc (hC 3) (pc (hL 4 (AY BU _)) (pc (hL 5 (AY BU _)) AD))))))))
  exact Ah (AU rfl (wkR [(0,some 0),(1,some 1),(2,some 2),(3,some 3),(4,some 4),(5,none)] (Am _) (pc (hC 0) (pc (hC 1) (pc (hC 2) (pc (hC 3) (pc (hL 4 (AY BU _)) (pc hZ AD))))))))
 rintro⟨x110,x111,x112,x113⟩
 refine Ab (Aj ?_)
 refine BA (fun (x123,x124)=>⟨[V 2 (pt 0 9),V 3 (pt 1 2),V 4 (pt 2 4),V 5 (pt 3 9)],[W 0 9 [bs [],AQ,.s (.int .u8 0),bs [],bv false,bs [],bv false,bs [],AQ],W 1 2 [iv 0,iv 0],W 2 4 [bs x1,iv x110,iv x123,iv x124],W 3 9 [bs x14,.osl 4 0 (List.length x45) 1,.s (.int .u8 x62),bs x63,bv x79,bs x80,bv x100,bs x101,.osl 5 0 (List.length x113) 1],(4,.rows 1 (List.map cS x45)),(5,.rows 1 (List.map cS x113))],6⟩) (fun (x123,x124)=>.normal) ?_ ?_
 ·refine jS ⟨[V 2 (pt 0 9),V 3 (pt 1 2),V 4 (pt 2 4),V 5 (pt 3 9),V 258 (bv ((x111 == 0) && (decide (x110 < (List.length x1:Int)))))],[W 0 9 [bs [],AQ,.s (.int .u8 0),bs [],bv false,bs [],bv false,bs [],AQ],W 1 2 [iv 0,iv 0],W 2 4 [bs x1,iv x110,iv x111,iv x112],W 3 9 [bs x14,.osl 4 0 (List.length x45) 1,.s (.int .u8 x62),bs x63,bv x79,bs x80,bv x100,bs x101,.osl 5 0 (List.length x113) 1],(4,.rows 1 (List.map cS x45)),(5,.rows 1 (List.map cS x113))],6⟩ ?_
  refine jIf ?_ ?_
  ·refine CY (jG 0 1 ⟨[V 2 (pt 0 9),V 3 (pt 1 2),V 4 (pt 2 4),V 5 (pt 3 9),V 259 (pt 2 4)],[W 0 9 [bs [],AQ,.s (.int .u8 0),bs [],bv false,bs [],bv false,bs [],AQ],W 1 2 [iv 0,iv 0],W 2 4 [bs x1,iv x110,iv x111,iv x112],W 3 9 [bs x14,.osl 4 0 (List.length x45) 1,.s (.int .u8 x62),bs x63,bv x79,bs x80,bv x100,bs x101,.osl 5 0 (List.length x113) 1],(4,.rows 1 (List.map cS x45)),(5,.rows 1 (List.map cS x113))],6⟩ ?_)
   refine BC 1 [(0,some 2)] [(2,some 0)] (fun r:Int × Int=>[W 0 9 [bs [],AQ,.s (.int .u8 0),bs [],bv false,bs [],bv false,bs [],AQ],W 1 2 [iv 0,iv 0],W 2 4 [bs x1,iv x110,iv r.1,iv r.2],W 3 9 [bs x14,.osl 4 0 (List.length x45) 1,.s (.int .u8 x62),bs x63,bv x79,bs x80,bv x100,bs x101,.osl 5 0 (List.length x113) 1],(4,.rows 1 (List.map cS x45)),(5,.rows 1 (List.map cS x113))]) (fun r:Int × Int=>.tup []) 6 (Gd x1 x110 x111 x112) (pc (hC 2) AD) (fun r=>(pc (.inl ⟨rfl,rfl⟩) (pc (.inl ⟨rfl,rfl⟩) (pc (.inr (hC 0)) (pc (.inl ⟨rfl,rfl⟩) (pc (.inl ⟨rfl,rfl⟩) (pc (.inl ⟨rfl,rfl⟩) AD))))))) ?_
   rintro⟨x125,x126⟩ hm20
   exact Ad rfl (AU rfl (wkR [(0,some 0),(1,some 1),(2,some 2),(3,some 3),(4,some 4),(5,some 5)] (Am _) (pc (hC 0) (pc (hC 1) (pc (hC 2) (pc (hC 3) (pc (hL 4 (AY BU _)) (pc (hL 5 (AY BU _)) AD))))))))
  exact Ah (AU rfl (wkR [(0,some 0),(1,some 1),(2,some 2),(3,some 3),(4,some 4),(5,some 5)] (Am _) (pc (hC 0) (pc (hC 1) (pc (hC 2) (pc (hC 3) (pc (hL 4 (AY BU _)) (pc (hL 5 (AY BU _)) AD))))))))
 rintro⟨x123,x124⟩
 refine Ab (Aj (jS ⟨[V 2 (pt 0 9),V 3 (pt 1 2),V 4 (pt 2 4),V 5 (pt 3 9),V 266 (bv (x123 != 0))],[W 0 9 [bs [],AQ,.s (.int .u8 0),bs [],bv false,bs [],bv false,bs [],AQ],W 1 2 [iv 0,iv 0],W 2 4 [bs x1,iv x110,iv x123,iv x124],W 3 9 [bs x14,.osl 4 0 (List.length x45) 1,.s (.int .u8 x62),bs x63,bv x79,bs x80,bv x100,bs x101,.osl 5 0 (List.length x113) 1],(4,.rows 1 (List.map cS x45)),(5,.rows 1 (List.map cS x113))],6⟩ ?_))
 refine jIf ?_ ?_
 ·refine Aj ?_
  refine oN Z1 [(270,2)] ?_
  refine jG 0 7 ⟨[V 2 (pt 0 9),V 3 (pt 1 2),V 270 (.ptr 2 0 4 2)],[W 0 9 [bs [],AQ,.s (.int .u8 0),bs [],bv false,bs [],bv false,bs [],AQ],W 1 2 [iv x123,iv x124],W 2 4 [bs x1,iv x110,iv x123,iv x124]],6⟩ ?_
  refine Ad rfl ?_
  refine Vk ?_
  exact Ab (Ae (Ar (Hk (.inr rfl) (v:=.tup [.agg [bs [],AQ,.s (.int .u8 0),bs [],bv false,bs [],bv false,bs [],AQ],.agg [iv x123,iv x124]]) (by kernel_rfl) (Jv (AR (Gw (AR rfl (AR rfl (AR rfl (AR rfl (AR rfl (AR rfl (AR rfl (AR rfl (AR rfl (BL _))))))))))) (AR rfl (BL _)))) (O4 (AL (LT (AL (AP _) (AL (HH _) (AL (AP _) (AL (AP _) (AL (AP _) (AL (AP _) (AL (AP _) (AL (AP _) (AL (HH _) Ax)))))))))) (AL (AP _) Ax))))))
 refine Ah (Ab (jS ⟨[V 2 (pt 0 9),V 3 (pt 1 2)],[W 0 9 [bs x14,.osl 4 0 (List.length x45) 1,.s (.int .u8 x62),bs x63,bv x79,bs x80,bv x100,bs x101,.osl 5 0 (List.length x113) 1],W 1 2 [iv 0,iv 0],(4,.rows 1 (List.map cS x45)),(5,.rows 1 (List.map cS x113))],6⟩ ?_))
 exact Ae (Hk (.inr rfl) (v:=.tup [.agg [bs x14,.osl 4 0 (List.length x45) 1,.s (.int .u8 x62),bs x63,bv x79,bs x80,bv x100,bs x101,.osl 5 0 (List.length x113) 1],.agg [iv 0,iv 0]]) (by kernel_rfl) (Jv (AR (Gw (AR rfl (AR (EI oD (by kernel_rfl)) (AR rfl (AR rfl (AR rfl (AR rfl (AR rfl (AR rfl (AR (EI oD (by kernel_rfl)) (BL _))))))))))) (AR rfl (BL _)))) (O4 (AL (LT (AL (AP _) (AL (AP _) (AL (AP _) (AL (AP _) (AL (AP _) (AL (AP _) (AL (AP _) (AL (AP _) (AL (AP _) Ax)))))))))) (AL (AP _) Ax)))))
abbrev zT:List LO:=[BT 1 34 0 0,Ag 2 4]
abbrev zU:List LO:=[AA 3 34 1 2 0,AF 4 5 3 5,lo 5 (.binOp .neq 5 (AE 4) (.const (.int .u8 0)) 5) 4,lm 6 5 4,AM 7 34 1 6 0 6 false,Aa 8 4 7 4 6 false,Ak 9 6 8 4,AB 2 9 4]
abbrev ABq:LC:=.seq (.reg false zT) (.seq (.reg false zU) .ret)
theorem ABr:Bf E 34 10 [.tmp 2] ABq:=Bp Go.Proofs.Tryz.f34
noncomputable def J3 (a0:Ac):Option (Bool):=some ((a0.Pre != 0) || a0.Dev)
theorem PM (a0:Ac):Ct E 34 [.agg (AJ a0)] (J3 a0) (fun r:Bool=>bv r):=CN ABr (by
 unfold J3
 refine jS ⟨[V 1 (pt 0 9)],[W 0 9 (AJ a0)],1⟩ ?_
 refine jS ⟨[V 2 (bv ((a0.Pre != 0) || a0.Dev))],[],1⟩ ?_
 exact Ae (BO (bv ((a0.Pre != 0) || a0.Dev))))
abbrev iS:List LO:=[BT 1 34 0 0,BH 2 34 0]
abbrev iT:List LO:=[AA 3 34 1 1 0,AF 4 32 3 32,AN 5 110 #[AE 4] #[32] 32,AA 6 34 1 1 0,AO 32 6 5 0,AA 7 34 1 8 0,ln (.store 32 (AE 7) (.const (.slice none 0 0))) 0]
abbrev iU:List LO:=[AF 8 34 1 34,AO 34 2 8 0]
abbrev pS:LC:=.seq (.reg false iS) (.seq (.reg false iT) (.seq (.reg false iU) .ret))
theorem pT:Bf E 87 9 [.cell 2 34] pS:=Bp Go.Proofs.Tryz.f87
noncomputable def Jc (a0:Ac):Option (Ac):=Option.bind (Cc a0.Release) (fun x1=>some (Ac.mk a0.Epoch x1 a0.Pre a0.PreNum a0.Post a0.PostNum a0.Dev a0.DevNum []))
theorem UA (a0:Ac):Ct E 87 [.agg (AJ a0)] (Jc a0) (fun r:Ac=>.agg (AJ r)):=CN pT (by
 unfold Jc
 refine jS ⟨[V 1 (pt 0 9),V 2 (pt 1 9)],[W 0 9 (AJ a0),W 1 9 [bs [],AQ,.s (.int .u8 0),bs [],bv false,bs [],bv false,bs [],AQ]],2⟩ ?_
 refine jR (jG 0 2 ⟨[V 1 (pt 0 9),V 2 (pt 1 9),V 4 (.fsl 1 (List.map cS a0.Release))],[W 0 9 (AJ a0),W 1 9 [bs [],AQ,.s (.int .u8 0),bs [],bv false,bs [],bv false,bs [],AQ]],2⟩ ?_)
 refine BC 2 [] [(2,some 0)] (fun r:List Str=>[W 0 9 (AJ a0),W 1 9 [bs [],AQ,.s (.int .u8 0),bs [],bv false,bs [],bv false,bs [],AQ],(2,.rows 1 (List.map cS r))]) (fun r:List Str=>.osl 2 0 (List.length r) 1) 3 (Kl a0.Release) AD (fun r=>(pc (.inl ⟨rfl,rfl⟩) (pc (.inl ⟨rfl,rfl⟩) (pc (.inr (hL 0 (AY BU _))) AD)))) ?_
 rintro x1 hm1
 refine jG 3 4 ⟨[V 1 (pt 0 9),V 2 (pt 1 9)],[W 0 9 [bs a0.Epoch,.osl 2 0 (List.length x1) 1,.s (.int .u8 a0.Pre),bs a0.PreNum,bv a0.Post,bs a0.PostNum,bv a0.Dev,bs a0.DevNum,AQ],W 1 9 [bs [],AQ,.s (.int .u8 0),bs [],bv false,bs [],bv false,bs [],AQ],(2,.rows 1 (List.map cS x1))],3⟩ ?_
 refine jN (jS ⟨[V 2 (pt 1 9)],[W 1 9 [bs a0.Epoch,.osl 2 0 (List.length x1) 1,.s (.int .u8 a0.Pre),bs a0.PreNum,bv a0.Post,bs a0.PostNum,bv a0.Dev,bs a0.DevNum,AQ],(2,.rows 1 (List.map cS x1))],3⟩ ?_)
 exact Ae (Hk (.inr rfl) (v:=.agg [bs a0.Epoch,.osl 2 0 (List.length x1) 1,.s (.int .u8 a0.Pre),bs a0.PreNum,bv a0.Post,bs a0.PostNum,bv a0.Dev,bs a0.DevNum,AQ]) (by kernel_rfl) (Gw (AR rfl (AR (EI oD (by kernel_rfl)) (AR rfl (AR rfl (AR rfl (AR rfl (AR rfl (AR rfl (AR rfl (BL _))))))))))) (LT (AL (AP _) (AL (AP _) (AL (AP _) (AL (AP _) (AL (AP _) (AL (AP _) (AL (AP _) (AL (AP _) (AL (HH _) Ax))))))))))))
abbrev d7:List LO:=[A8 2 #[] 9]
abbrev d8:List LO:=[Bd 3 (.const (.slice none 0 0)) 32]
abbrev d9:List LO:=[lm 7 0 22,Ai 8 #[AE 7] #[22] 3,CG 9 0 3]
abbrev eA:List LO:=[Al 10 3 9 8 3 0]
abbrev eB:List LO:=[A6 11 22 7 9 0,AF 12 39 11 39,BH 5 39 0,AO 39 5 12 0]
abbrev eC:List LO:=[AA 13 39 5 0 0,AF 14 9 13 9,AA 15 39 5 1 0,AF 16 9 15 9,Bk 17 9 14 16 9 9,AB 6 17 9]
abbrev eD:List LO:=[AA 18 39 5 2 0,AF 19 4 18 4]
abbrev eE:List LO:=[lm 20 6 9,lo 21 (.binOp .add 9 (AE 20) (.const (.string ⟨#[46,42]⟩)) 9) 9,AB 6 21 9]
abbrev eF:List LO:=[lm 22 3 32,lm 23 6 9,lo 24 (.buildSlice 32 1 #[(0,AE 23)]) 32,DP 25 #[AE 22,AE 24] #[32,32] 32,AB 3 25 32]
abbrev ZT:List LO:=[Af 26 3 9 1 3 3,lm 9 26 3]
abbrev ZU:List LO:=[lm 27 3 32,AN 28 44 #[AE 27,.const (.string ⟨#[44]⟩)] #[32,9] 9,AB 2 28 9]
abbrev jX:LC:=.seq (.reg false d7) (.seq (.reg false d8) (.seq (.seq (.reg false d9) (.block 0 (.loop (.seq (.reg false eA) (.seq (.cond (AE 10) .skip (.exit 0)) (.seq (.block 1 (.seq (.reg false eB) (.seq (.reg false eC) (.seq (.seq (.reg false eD) (.cond (AE 19) (.reg false eE) .skip)) (.reg false eF))))) (.reg false ZT))))))) (.seq (.reg false ZU) .ret)))
theorem jY:Bf E 20 29 [.tmp 2] jX:=Bp Go.Proofs.Tryz.f20
noncomputable def H8 (a0:(List AK)):(List Str × Int)→Option (Step (List Str × Int) (List Str)):=fun (x6,x7)=>(if (decide (x7 < (List.length a0:Int)))=true then Option.bind (ixl a0 x7) (fun x16=>Option.bind (cat x16.Op x16.Ver) (fun x17=>Option.bind ((if x16.Star=true then Option.bind (cat x17 [46,42]) (fun x20=>some x20) else some x17):Option (Str)) (fun x19=>Option.bind (app 16 x6 [x19]) (fun x21=>some (Step.next (x21,(w64 (x7 + 1)))))))) else some (Step.done x6))
noncomputable def Kb (a0:(List AK)):Option (Str):=Option.bind (CD (H8 a0) ([],0)) (fun x15=>Option.bind (strings_Join x15 [44]) (fun x22=>some x22))
theorem d6 (a0:(List AK)):Ct E 20 [.fsl 3 (List.map AC a0)] (Kb a0) (fun r:Str=>bs r):=CN jY (by
 unfold Kb
 refine jS ⟨[V 0 (.fsl 3 (List.map AC a0))],[],0⟩ ?_
 refine jS ⟨[V 0 (.fsl 3 (List.map AC a0)),V 3 (AQ)],[],0⟩ ?_
 refine Aj (jR (jG 0 3 ⟨[V 3 (AQ),V 7 (.fsl 3 (List.map AC a0)),V 8 (iv (List.length (List.map AC a0):Int)),V 9 (iv 0)],[],0⟩ ?_))
 simp only[List.length_map]
 refine jN (A4 ?_)
 refine BA (fun x15=>⟨[V 3 (.osl 0 0 (List.length x15) 1)],[(0,.rows 1 (List.map cS x15))],1⟩) (fun x15=>(.exit 0)) (C5 (fun (x6,x7)=>⟨[V 3 (.osl 0 0 (List.length x6) 1),V 7 (.fsl 3 (List.map AC a0)),V 8 (iv (List.length a0:Int)),V 9 (iv x7)],[(0,.rows 1 (List.map cS x6))],1⟩) (wkR [(0,none)] (Am _) (pc hZ AD)) ?_) ?_
 ·rintro⟨x6,x7⟩
  unfold H8
  refine jS ⟨[V 3 (.osl 0 0 (List.length x6) 1),V 7 (.fsl 3 (List.map AC a0)),V 8 (iv (List.length a0:Int)),V 9 (iv x7),V 10 (bv (decide (x7 < (List.length a0:Int))))],[(0,.rows 1 (List.map cS x6))],1⟩ ?_
  refine Aj ?_
  refine jIf ?_ ?_
  ·refine Ah (Ab (Aj (A4 (jR ?_))))
   refine A5 (i:=0) (mo:=ixl a0 x7) rfl rfl rfl rfl (fun _ hc=>EV (c:=AC) (sz:=3) (e:=39) (kk:=.i64) (by kernel_rfl) (by kernel_rfl) (by kernel_rfl) (by kernel_rfl) hc) (fun _=>rfl) ?_
   intro x16 h16
   refine jG 1 3 ⟨[V 3 (.osl 0 0 (List.length x6) 1),V 5 (pt 1 3),V 7 (.fsl 3 (List.map AC a0)),V 8 (iv (List.length a0:Int)),V 9 (iv x7)],[(0,.rows 1 (List.map cS x6)),W 1 3 [bs x16.Op,bs x16.Ver,bv x16.Star]],2⟩ ?_
   refine jN (jR (jG 0 4 ⟨[V 3 (.osl 0 0 (List.length x6) 1),V 5 (pt 1 3),V 7 (.fsl 3 (List.map AC a0)),V 8 (iv (List.length a0:Int)),V 9 (iv x7),V 14 (bs x16.Op),V 16 (bs x16.Ver)],[(0,.rows 1 (List.map cS x6)),W 1 3 [bs x16.Op,bs x16.Ver,bv x16.Star]],2⟩ ?_))
   refine A5 (i:=4) (mo:=cat x16.Op x16.Ver) rfl rfl rfl rfl (fun _ hc=>AAa (by kernel_rfl) (by kernel_rfl) hc) (fun _=>rfl) ?_
   intro x17 h17
   refine jG 5 1 ⟨[V 3 (.osl 0 0 (List.length x6) 1),V 5 (pt 1 3),V 6 (bs x17),V 7 (.fsl 3 (List.map AC a0)),V 8 (iv (List.length a0:Int)),V 9 (iv x7)],[(0,.rows 1 (List.map cS x6)),W 1 3 [bs x16.Op,bs x16.Ver,bv x16.Star]],2⟩ ?_
   refine jN (Aj ?_)
   refine BA (fun x19=>⟨[V 3 (.osl 0 0 (List.length x6) 1),V 6 (bs x19),V 7 (.fsl 3 (List.map AC a0)),V 8 (iv (List.length a0:Int)),V 9 (iv x7)],[(0,.rows 1 (List.map cS x6))],1⟩) (fun x19=>.normal) ?_ ?_
   ·refine jS ⟨[V 3 (.osl 0 0 (List.length x6) 1),V 6 (bs x17),V 7 (.fsl 3 (List.map AC a0)),V 8 (iv (List.length a0:Int)),V 9 (iv x7),V 19 (bv x16.Star)],[(0,.rows 1 (List.map cS x6))],2⟩ ?_
    refine jIf ?_ ?_
    ·refine CY (jG 0 1 ⟨[V 3 (.osl 0 0 (List.length x6) 1),V 7 (.fsl 3 (List.map AC a0)),V 8 (iv (List.length a0:Int)),V 9 (iv x7),V 20 (bs x17)],[(0,.rows 1 (List.map cS x6))],2⟩ ?_)
     refine A5 (i:=1) (mo:=cat x17 [46,42]) rfl rfl rfl rfl (fun _ hc=>AAa (by kernel_rfl) (by kernel_rfl) hc) (fun _=>rfl) ?_
     intro x20 h20
     refine jG 2 1 ⟨[V 3 (.osl 0 0 (List.length x6) 1),V 6 (bs x20),V 7 (.fsl 3 (List.map AC a0)),V 8 (iv (List.length a0:Int)),V 9 (iv x7)],[(0,.rows 1 (List.map cS x6))],2⟩ ?_
     exact Ad rfl (AU rfl (wkR [(0,some 0)] (Am _) (pc (hL 0 (AY BU _)) AD)))
    exact Ah (AU rfl (wkR [(0,some 0)] (Am _) (pc (hL 0 (AY BU _)) AD)))
   intro x19
   refine Ab (CY (jG 0 3 ⟨[V 7 (.fsl 3 (List.map AC a0)),V 8 (iv (List.length a0:Int)),V 9 (iv x7),V 22 (.osl 0 0 (List.length x6) 1),V 24 (.osl 1 0 (List.length [x19]) 1)],[(0,.rows 1 (List.map cS x6)),(1,.rows 1 (List.map cS [x19]))],2⟩ ?_))
   refine A5 (i:=3) (mo:=app 16 x6 [x19]) rfl rfl rfl rfl (fun _ hc=>LQ (u:=.osl 0 0 (List.length x6) 1) (w:=.osl 1 0 (List.length [x19]) 1) (e:=9) (td:=.slice 9) (by kernel_rfl) (by kernel_rfl) (by kernel_rfl) (by kernel_rfl) (.inl ⟨_,rfl⟩) (E5 (c:=cS) (sz:=1) (b:=16) (id:=0) (by kernel_rfl) (by kernel_rfl) (Oe (by kernel_rfl)) (List.cons_ne_nil _ _) hc)) (fun _=>rfl) ?_
   intro x21 h21
   refine jG 4 1 ⟨[V 3 (.osl 2 0 (List.length x21) 1),V 7 (.fsl 3 (List.map AC a0)),V 8 (iv (List.length a0:Int)),V 9 (iv x7)],[(2,.rows 1 (List.map cS x21))],3⟩ ?_
   refine Ad rfl (BX (Ab (jT ⟨[V 3 (.osl 2 0 (List.length x21) 1),V 7 (.fsl 3 (List.map AC a0)),V 8 (iv (List.length a0:Int)),V 9 (iv (w64 (x7 + 1)))],[(2,.rows 1 (List.map cS x21))],3⟩ ?_)))
   exact C7 (wkR [(0,some 2)] (Am _) (pc (hL 2 (AY BU _)) AD))
  exact Cp (Cq (Bm rfl nofun (wkR [(0,some 0)] (Am _) (pc (hL 0 (AY BU _)) AD))))
 intro x15
 refine C6 (Ab (jR (jG 0 1 ⟨[V 27 (.osl 0 0 (List.length x15) 1)],[(0,.rows 1 (List.map cS x15))],1⟩ ?_)))
 refine By (i:=1) rfl rfl rfl rfl (vs:=[.osl 0 0 (List.length x15) 1,bs [44]]) (by kernel_rfl) (AR (EI oD (by kernel_rfl)) (AR rfl (BL _))) (AL (AP _) (AL (AP _) Ax)) (aF x15 [44]) (fun _=>rfl) (fun _=>rfl) ?_
 intro x22 h22
 refine jG 2 1 ⟨[V 2 (bs x22)],[],1⟩ ?_
 exact jN (Ae (BO (bs x22))))
abbrev Ff:List LO:=[Ag 4 4]
abbrev Fg:List LO:=[lm 6 0 22,Ai 7 #[AE 6] #[22] 3,lm 8 1 22,Ai 9 #[AE 8] #[22] 3,Ck 10 3 7 9 3 4]
abbrev Fh:List LO:=[Ag 4 4]
abbrev Fi:List LO:=[lm 11 0 22,Ai 12 #[AE 11] #[22] 3,CG 13 0 3]
abbrev Fj:List LO:=[Al 14 3 13 12 3 0]
abbrev Fk:List LO:=[lm 15 13 3,AB 5 15 3]
abbrev Fl:List LO:=[lm 16 0 22,lm 17 5 3,A6 18 22 16 17 0,AF 19 39 18 39,lm 20 1 22,lm 21 5 3,A6 22 22 20 21 0,AF 23 39 22 39,Ck 24 39 19 23 39 4]
abbrev Fm:List LO:=[Ag 4 4]
abbrev Fo:List LO:=[Af 25 3 13 1 3 3,lm 13 25 3]
abbrev FO:List LO:=[Ed 4 4]
abbrev F0:LC:=.seq (.reg false Ff) (.seq (.seq (.reg false Fg) (.cond (AE 10) (.seq (.reg false Fh) .ret) .skip)) (.seq (.seq (.reg false Fi) (.block 0 (.loop (.seq (.reg false Fj) (.seq (.cond (AE 14) .skip (.exit 0)) (.seq (.block 1 (.seq (.reg false Fk) (.seq (.reg true Fl) (.cond (AE 24) (.seq (.reg false Fm) .ret) .skip)))) (.reg false Fo))))))) (.seq (.reg false FO) .ret)))
theorem F3:Bf E 21 26 [.tmp 4] F0:=Bp Go.Proofs.Tryz.f21
noncomputable def Bx (a0:(List AK)) (a1:(List AK)):Int→Option (Step (Int) ((Unit) ⊕ (Unit))):=fun x3=>(if (decide (x3 < (List.length a0:Int)))=true then Option.bind (ixl a0 x3) (fun x7=>Option.bind (ixl a1 x3) (fun x8=>(if (!((x7.Op == x8.Op) && ((x7.Ver == x8.Ver) && (x7.Star == x8.Star))))=true then some (Step.done (Sum.inl ())) else some (Step.next (w64 (x3 + 1)))))) else some (Step.done (Sum.inr ())))
noncomputable def Bo (a0:(List AK)) (a1:(List AK)):Option (Bool):=(if ((List.length a0:Int) != (List.length a1:Int))=true then some false else Option.bind (CD (Bx a0 a1) 0) (fun y=>match y with | Sum.inl _=>some false | Sum.inr _=>some true))
theorem Fe (a0:(List AK)) (a1:(List AK)):Ct E 21 [.fsl 3 (List.map AC a0),.fsl 3 (List.map AC a1)] (Bo a0 a1) (fun r:Bool=>bv r):=CN F3 (by
 unfold Bo
 refine jS ⟨[V 0 (.fsl 3 (List.map AC a0)),V 1 (.fsl 3 (List.map AC a1))],[],0⟩ ?_
 refine Aj (jR (jG 0 5 ⟨[V 0 (.fsl 3 (List.map AC a0)),V 1 (.fsl 3 (List.map AC a1)),V 10 (bv ((List.length (List.map AC a0):Int) != (List.length (List.map AC a1):Int)))],[],0⟩ ?_))
 simp only[List.length_map]
 refine jN ?_
 refine jIf ?_ ?_
 ·refine jS ⟨[V 4 (bv false)],[],0⟩ ?_
  exact Ae (Ar (BO (bv false)))
 refine Ah (Ab (Aj (jR (jG 0 3 ⟨[V 0 (.fsl 3 (List.map AC a0)),V 1 (.fsl 3 (List.map AC a1)),V 12 (iv (List.length (List.map AC a0):Int)),V 13 (iv 0)],[],0⟩ ?_))))
 simp only[List.length_map]
 refine jN (A4 ?_)
 refine BA (fun y=>match y with | Sum.inl _=>⟨[V 4 (bv false)],[],0⟩ | Sum.inr _=>⟨[],[],0⟩) (fun y=>match y with | Sum.inl _=>.ret | Sum.inr _=>(.exit 0)) (C5 (fun x3=>⟨[V 0 (.fsl 3 (List.map AC a0)),V 1 (.fsl 3 (List.map AC a1)),V 12 (iv (List.length a0:Int)),V 13 (iv x3)],[],0⟩) BV ?_) ?_
 ·intro x3
  unfold Bx
  refine jS ⟨[V 0 (.fsl 3 (List.map AC a0)),V 1 (.fsl 3 (List.map AC a1)),V 12 (iv (List.length a0:Int)),V 13 (iv x3),V 14 (bv (decide (x3 < (List.length a0:Int))))],[],0⟩ ?_
  refine Aj ?_
  refine jIf ?_ ?_
  ·refine Ah (Ab (Aj (A4 (jS ⟨[V 0 (.fsl 3 (List.map AC a0)),V 1 (.fsl 3 (List.map AC a1)),V 5 (iv x3),V 12 (iv (List.length a0:Int)),V 13 (iv x3)],[],0⟩ ?_))))
   refine jR (jG 0 2 ⟨[V 0 (.fsl 3 (List.map AC a0)),V 1 (.fsl 3 (List.map AC a1)),V 5 (iv x3),V 12 (iv (List.length a0:Int)),V 13 (iv x3),V 16 (.fsl 3 (List.map AC a0)),V 17 (iv x3)],[],0⟩ ?_)
   refine A5 (i:=2) (mo:=ixl a0 x3) rfl rfl rfl rfl (fun _ hc=>EV (c:=AC) (sz:=3) (e:=39) (kk:=.i64) (by kernel_rfl) (by kernel_rfl) (by kernel_rfl) (by kernel_rfl) hc) (fun _=>rfl) ?_
   intro x7 h7
   refine jG 3 3 ⟨[V 0 (.fsl 3 (List.map AC a0)),V 1 (.fsl 3 (List.map AC a1)),V 12 (iv (List.length a0:Int)),V 13 (iv x3),V 19 (.agg [bs x7.Op,bs x7.Ver,bv x7.Star]),V 20 (.fsl 3 (List.map AC a1)),V 21 (iv x3)],[],0⟩ ?_
   refine A5 (i:=6) (mo:=ixl a1 x3) rfl rfl rfl rfl (fun _ hc=>EV (c:=AC) (sz:=3) (e:=39) (kk:=.i64) (by kernel_rfl) (by kernel_rfl) (by kernel_rfl) (by kernel_rfl) hc) (fun _=>rfl) ?_
   intro x8 h8
   refine jG 7 2 ⟨[V 0 (.fsl 3 (List.map AC a0)),V 1 (.fsl 3 (List.map AC a1)),V 12 (iv (List.length a0:Int)),V 13 (iv x3),V 24 (bv (!((x7.Op == x8.Op) && ((x7.Ver == x8.Ver) && (x7.Star == x8.Star)))))],[],0⟩ ?_
   refine jN ?_
   refine jIf ?_ ?_
   ·refine jS ⟨[V 4 (bv false)],[],0⟩ ?_
    exact Ae (BG (Ar (Bm rfl nofun BV)))
   refine Ah (BX (Ab (jT ⟨[V 0 (.fsl 3 (List.map AC a0)),V 1 (.fsl 3 (List.map AC a1)),V 12 (iv (List.length a0:Int)),V 13 (iv (w64 (x3 + 1)))],[],0⟩ ?_)))
   exact C7 BV
  exact Cp (Cq (Bm rfl nofun BV))
 rintro (_ | _)
 ·exact BG (Ar (BO (bv false)))
 refine C6 (Ab (jS ⟨[V 4 (bv true)],[],0⟩ ?_))
 exact Ae (BO (bv true)))
abbrev XT:List LO:=[A8 2 #[] 9]
abbrev XU:List LO:=[lm 6 0 22,AN 7 20 #[AE 6] #[22] 9,AB 3 7 9]
abbrev XV:List LO:=[lm 9 3 9,AN 10 6 #[AE 9] #[9] 26,lm 8 10 26,Aq 11 8 0 22,Aq 12 8 1 25,BH 5 25 0,AB 4 11 22,AO 25 5 12 0]
abbrev XW:List LO:=[AA 13 25 5 0 0,AF 14 23 13 23,BM 15 23 14 0 23 4,lm 16 15 4,lmg 17 4 22 16 false,lmg 18 0 22 16 false,A7 19 21 #[AE 17,AE 18] #[22,22] 4 16 false,Ay 20 4 19 4 16 false,Ak 21 16 20 4]
abbrev XX:List LO:=[A8 2 #[] 9]
abbrev XY:List LO:=[lm 22 3 9,AB 2 22 9]
abbrev Yx:LC:=.seq (.reg false XT) (.seq (.reg false XU) (.seq (.reg false XV) (.seq (.seq (.reg false XW) (.cond (AE 21) (.seq (.reg false XX) .ret) .skip)) (.seq (.reg false XY) .ret))))
theorem Yy:Bf E 8 23 [.tmp 2] Yx:=Bp Go.Proofs.Tryz.f8
noncomputable def HA (a0:(List AK)):Option (Str):=Option.bind (Kb a0) (fun x1=>Option.bind (D2 x1) (fun (x2,x3,x4)=>Option.bind (if (x3 != 0)=true then some true else Option.bind (Bo x2 a0) (fun x7=>some (!x7)):Option (Bool)) (fun x6=>(if x6=true then some [] else some x1))))
theorem XS (a0:(List AK)):Ct E 8 [.fsl 3 (List.map AC a0)] (HA a0) (fun r:Str=>bs r):=CN Yy (by
 unfold HA
 refine jS ⟨[V 0 (.fsl 3 (List.map AC a0))],[],0⟩ ?_
 refine jR (jG 0 1 ⟨[V 0 (.fsl 3 (List.map AC a0)),V 6 (.fsl 3 (List.map AC a0))],[],0⟩ ?_)
 refine jK 1 (d6 a0) ?_
 intro x1 h1
 refine jG 2 1 ⟨[V 0 (.fsl 3 (List.map AC a0)),V 3 (bs x1)],[],0⟩ ?_
 refine jN (jR (jG 0 1 ⟨[V 0 (.fsl 3 (List.map AC a0)),V 3 (bs x1),V 9 (bs x1)],[],0⟩ ?_))
 refine BC 1 [] [(0,some 0)] (fun r:List AK × Int × Int=>[(0,.rows 3 (List.map AC r.1))]) (fun r:List AK × Int × Int=>.tup [.osl 0 0 (List.length r.1) 3,.agg [iv r.2.1,iv r.2.2]]) 2 (FV x1) AD (fun r=>(pc (.inr (hL 0 (AY A3 _))) AD)) ?_
 rintro⟨x2,x3,x4⟩ hm1
 refine jG 2 6 ⟨[V 0 (.fsl 3 (List.map AC a0)),V 3 (bs x1),V 4 (.osl 0 0 (List.length x2) 3),V 5 (pt 2 2)],[(0,.rows 3 (List.map AC x2)),W 2 2 [iv x3,iv x4]],3⟩ ?_
 refine jN (Aj (jR (jG 0 4 ⟨[V 0 (.fsl 3 (List.map AC a0)),V 3 (bs x1),V 4 (.osl 0 0 (List.length x2) 3),V 16 (bv (x3 != 0))],[(0,.rows 3 (List.map AC x2))],3⟩ ?_)))
 refine A2 4 5 (fun x6=>⟨[V 3 (bs x1),V 21 (bv x6)],[],0⟩) ?_ ?_
 ·refine jSp 16 ?_ ?_
  ·refine jG 0 5 ⟨[V 3 (bs x1),V 21 (bv true)],[],3⟩ ?_
   exact Ad rfl (AU rfl BV)
  refine jG 0 2 ⟨[V 3 (bs x1),(16,.lit false),V 17 (.osl 0 0 (List.length x2) 3),V 18 (.fsl 3 (List.map AC a0))],[(0,.rows 3 (List.map AC x2))],3⟩ ?_
  refine By (i:=2) rfl rfl rfl rfl (vs:=[.osl 0 0 (List.length x2) 3,.fsl 3 (List.map AC a0)]) (by kernel_rfl) (AR (EI Mq (by kernel_rfl)) (AR rfl (BL _))) (AL (AP _) (AL (AP _) Ax)) (Fe x2 a0) (fun _=>rfl) (fun _=>rfl) ?_
  intro x7 h7
  refine jG 3 2 ⟨[V 3 (bs x1),V 21 (bv (!x7))],[],3⟩ ?_
  exact Ad rfl (AU rfl BV)
 intro x6
 refine jN ?_
 refine jIf ?_ ?_
 ·refine jS ⟨[V 2 (bs [])],[],0⟩ ?_
  exact Ae (Ar (BO (bs [])))
 refine Ah (Ab (jS ⟨[V 2 (bs x1)],[],0⟩ ?_))
 exact Ae (BO (bs x1)))
abbrev jV:List LO:=[BT 1 39 0 0,Ag 2 4]
abbrev jW:List LO:=[AF 3 39 1 39,lo 4 (.buildSlice 22 1 #[(0,AE 3)]) 22,AN 5 8 #[AE 4] #[22] 9,Em 6 9 5 #[] 9 4,AB 2 6 4]
abbrev qO:LC:=.seq (.reg false jV) (.seq (.reg true jW) .ret)
theorem qP:Bf E 32 7 [.tmp 2] qO:=Bp Go.Proofs.Tryz.f32
noncomputable def Je (a0:AK):Option (Bool):=Option.bind (HA [a0]) (fun x1=>some (!(x1 == [])))
theorem UC (a0:AK):Ct E 32 [.agg [bs a0.Op,bs a0.Ver,bv a0.Star]] (Je a0) (fun r:Bool=>bv r):=CN qP (by
 unfold Je
 refine jS ⟨[V 1 (pt 0 3)],[W 0 3 [bs a0.Op,bs a0.Ver,bv a0.Star]],1⟩ ?_
 refine jR (jG 0 2 ⟨[V 4 (.fsl 3 (List.map AC [a0]))],[],1⟩ ?_)
 refine jK 2 (XS [a0]) ?_
 intro x1 h1
 refine jG 3 2 ⟨[V 2 (bv (!(x1 == [])))],[],1⟩ ?_
 exact jN (Ae (BO (bv (!(x1 == []))))))
abbrev ZR:List LO:=[Bd 0 (.const (.map none)) 64]
abbrev ZS:List LO:=[lo 1 (.makeMap 64 none) 64,ln (.insert 64 (AE 1) (.const (.string ⟨#[61,61]⟩)) (.func 57)) 0,ln (.insert 64 (AE 1) (.const (.string ⟨#[33,61]⟩)) (.func 58)) 0,ln (.insert 64 (AE 1) (.const (.string ⟨#[126,61]⟩)) (.func 59)) 0,ln (.insert 64 (AE 1) (.const (.string ⟨#[60,61]⟩)) (.func 62)) 0,ln (.insert 64 (AE 1) (.const (.string ⟨#[62,61]⟩)) (.func 63)) 0,ln (.insert 64 (AE 1) (.const (.string ⟨#[60]⟩)) (.func 64)) 0,ln (.insert 64 (AE 1) (.const (.string ⟨#[62]⟩)) (.func 67)) 0,ln (.insert 64 (AE 1) (.const (.string ⟨#[61,61,61]⟩)) (.func 68)) 0,lm 2 1 64,AB 0 2 64]
abbrev d4:LC:=.seq (.reg false ZR) (.seq (.reg false ZS) .ret)
theorem d5:Bf E 33 3 [.tmp 0] d4:=Bp Go.Proofs.Tryz.f33
noncomputable def LX:Option (Unit):=some ()
theorem ZQ:Ct E 33 [] (LX) (fun r:Unit=>.fmp [(.string ⟨#[61,61]⟩,.func (.func 57) #[] #[]),(.string ⟨#[33,61]⟩,.func (.func 58) #[] #[]),(.string ⟨#[126,61]⟩,.func (.func 59) #[] #[]),(.string ⟨#[60,61]⟩,.func (.func 62) #[] #[]),(.string ⟨#[62,61]⟩,.func (.func 63) #[] #[]),(.string ⟨#[60]⟩,.func (.func 64) #[] #[]),(.string ⟨#[62]⟩,.func (.func 67) #[] #[]),(.string ⟨#[61,61,61]⟩,.func (.func 68) #[] #[])]):=CN d5 (by
 unfold LX
 refine jS ⟨[],[],0⟩ ?_
 refine jR (jG 0 1 ⟨[V 1 (.mp 0)],[(0,.map [])],1⟩ ?_)
 refine M6 (i:=1) [1] [0] (v:=.s undef) (us:=[(0,some (.map [(.string ⟨#[61,61]⟩,.fn 57 [])]))]) (st1:=⟨[V 1 (.mp 0)],[(0,.map [(.string ⟨#[61,61]⟩,.fn 57 [])])],1⟩) rfl rfl rfl rfl (by kernel_rfl) (by kernel_rfl) ?_
 refine M6 (i:=2) [1] [0] (v:=.s undef) (us:=[(0,some (.map [(.string ⟨#[61,61]⟩,.fn 57 []),(.string ⟨#[33,61]⟩,.fn 58 [])]))]) (st1:=⟨[V 1 (.mp 0)],[(0,.map [(.string ⟨#[61,61]⟩,.fn 57 []),(.string ⟨#[33,61]⟩,.fn 58 [])])],1⟩) rfl rfl rfl rfl (by kernel_rfl) (by kernel_rfl) ?_
 refine M6 (i:=3) [1] [0] (v:=.s undef) (us:=[(0,some (.map [(.string ⟨#[61,61]⟩,.fn 57 []),(.string ⟨#[33,61]⟩,.fn 58 []),(.string ⟨#[126,61]⟩,.fn 59 [])]))]) (st1:=⟨[V 1 (.mp 0)],[(0,.map [(.string ⟨#[61,61]⟩,.fn 57 []),(.string ⟨#[33,61]⟩,.fn 58 []),(.string ⟨#[126,61]⟩,.fn 59 [])])],1⟩) rfl rfl rfl rfl (by kernel_rfl) (by kernel_rfl) ?_
 refine M6 (i:=4) [1] [0] (v:=.s undef) (us:=[(0,some (.map [(.string ⟨#[61,61]⟩,.fn 57 []),(.string ⟨#[33,61]⟩,.fn 58 []),(.string ⟨#[126,61]⟩,.fn 59 []),(.string ⟨#[60,61]⟩,.fn 62 [])]))]) (st1:=⟨[V 1 (.mp 0)],[(0,.map [(.string ⟨#[61,61]⟩,.fn 57 []),(.string ⟨#[33,61]⟩,.fn 58 []),(.string ⟨#[126,61]⟩,.fn 59 []),(.string ⟨#[60,61]⟩,.fn 62 [])])],1⟩) rfl rfl rfl rfl (by kernel_rfl) (by kernel_rfl) ?_
 refine M6 (i:=5) [1] [0] (v:=.s undef) (us:=[(0,some (.map [(.string ⟨#[61,61]⟩,.fn 57 []),(.string ⟨#[33,61]⟩,.fn 58 []),(.string ⟨#[126,61]⟩,.fn 59 []),(.string ⟨#[60,61]⟩,.fn 62 []),(.string ⟨#[62,61]⟩,.fn 63 [])]))]) (st1:=⟨[V 1 (.mp 0)],[(0,.map [(.string ⟨#[61,61]⟩,.fn 57 []),(.string ⟨#[33,61]⟩,.fn 58 []),(.string ⟨#[126,61]⟩,.fn 59 []),(.string ⟨#[60,61]⟩,.fn 62 []),(.string ⟨#[62,61]⟩,.fn 63 [])])],1⟩) rfl rfl rfl rfl (by kernel_rfl) (by kernel_rfl) ?_
 refine M6 (i:=6) [1] [0] (v:=.s undef) (us:=[(0,some (.map [(.string ⟨#[61,61]⟩,.fn 57 []),(.string ⟨#[33,61]⟩,.fn 58 []),(.string ⟨#[126,61]⟩,.fn 59 []),(.string ⟨#[60,61]⟩,.fn 62 []),(.string ⟨#[62,61]⟩,.fn 63 []),(.string ⟨#[60]⟩,.fn 64 [])]))]) (st1:=⟨[V 1 (.mp 0)],[(0,.map [(.string ⟨#[61,61]⟩,.fn 57 []),(.string ⟨#[33,61]⟩,.fn 58 []),(.string ⟨#[126,61]⟩,.fn 59 []),(.string ⟨#[60,61]⟩,.fn 62 []),(.string ⟨#[62,61]⟩,.fn 63 []),(.string ⟨#[60]⟩,.fn 64 [])])],1⟩) rfl rfl rfl rfl (by kernel_rfl) (by kernel_rfl) ?_
 refine M6 (i:=7) [1] [0] (v:=.s undef) (us:=[(0,some (.map [(.string ⟨#[61,61]⟩,.fn 57 []),(.string ⟨#[33,61]⟩,.fn 58 []),(.string ⟨#[126,61]⟩,.fn 59 []),(.string ⟨#[60,61]⟩,.fn 62 []),(.string ⟨#[62,61]⟩,.fn 63 []),(.string ⟨#[60]⟩,.fn 64 []),(.string ⟨#[62]⟩,.fn 67 [])]))]) (st1:=⟨[V 1 (.mp 0)],[(0,.map [(.string ⟨#[61,61]⟩,.fn 57 []),(.string ⟨#[33,61]⟩,.fn 58 []),(.string ⟨#[126,61]⟩,.fn 59 []),(.string ⟨#[60,61]⟩,.fn 62 []),(.string ⟨#[62,61]⟩,.fn 63 []),(.string ⟨#[60]⟩,.fn 64 []),(.string ⟨#[62]⟩,.fn 67 [])])],1⟩) rfl rfl rfl rfl (by kernel_rfl) (by kernel_rfl) ?_
 refine M6 (i:=8) [1] [0] (v:=.s undef) (us:=[(0,some (.map [(.string ⟨#[61,61]⟩,.fn 57 []),(.string ⟨#[33,61]⟩,.fn 58 []),(.string ⟨#[126,61]⟩,.fn 59 []),(.string ⟨#[60,61]⟩,.fn 62 []),(.string ⟨#[62,61]⟩,.fn 63 []),(.string ⟨#[60]⟩,.fn 64 []),(.string ⟨#[62]⟩,.fn 67 []),(.string ⟨#[61,61,61]⟩,.fn 68 [])]))]) (st1:=⟨[V 1 (.mp 0)],[(0,.map [(.string ⟨#[61,61]⟩,.fn 57 []),(.string ⟨#[33,61]⟩,.fn 58 []),(.string ⟨#[126,61]⟩,.fn 59 []),(.string ⟨#[60,61]⟩,.fn 62 []),(.string ⟨#[62,61]⟩,.fn 63 []),(.string ⟨#[60]⟩,.fn 64 []),(.string ⟨#[62]⟩,.fn 67 []),(.string ⟨#[61,61,61]⟩,.fn 68 [])])],1⟩) rfl rfl rfl rfl (by kernel_rfl) (by kernel_rfl) ?_
 refine jG 9 2 ⟨[V 0 (.mp 0)],[(0,.map [(.string ⟨#[61,61]⟩,.fn 57 []),(.string ⟨#[33,61]⟩,.fn 58 []),(.string ⟨#[126,61]⟩,.fn 59 []),(.string ⟨#[60,61]⟩,.fn 62 []),(.string ⟨#[62,61]⟩,.fn 63 []),(.string ⟨#[60]⟩,.fn 64 []),(.string ⟨#[62]⟩,.fn 67 []),(.string ⟨#[61,61,61]⟩,.fn 68 [])])],1⟩ ?_
 exact jN (Ae (Hk (.inr rfl) (v:=.mp 0) (u:=.fmp [(.string ⟨#[61,61]⟩,.func (.func 57) #[] #[]),(.string ⟨#[33,61]⟩,.func (.func 58) #[] #[]),(.string ⟨#[126,61]⟩,.func (.func 59) #[] #[]),(.string ⟨#[60,61]⟩,.func (.func 62) #[] #[]),(.string ⟨#[62,61]⟩,.func (.func 63) #[] #[]),(.string ⟨#[60]⟩,.func (.func 64) #[] #[]),(.string ⟨#[62]⟩,.func (.func 67) #[] #[]),(.string ⟨#[61,61,61]⟩,.func (.func 68) #[] #[])]) (q:=true) (by kernel_rfl) (by kernel_rfl) (AP _))))
abbrev Xd:List LO:=[BT 3 34 0 0,Ag 6 4]
abbrev Xe:List LO:=[AA 10 34 3 0 0,AF 11 9 10 9,lm 12 1 9,Ck 13 9 11 12 9 4]
abbrev Xf:List LO:=[Ag 6 4]
abbrev Xg:List LO:=[lm 14 2 32,Ai 15 #[AE 14] #[32] 3,CG 16 0 3]
abbrev Xh:List LO:=[Al 17 3 16 15 3 0]
abbrev Xi:List LO:=[lm 18 16 3,A6 19 32 14 16 0,AF 20 9 19 9,AB 7 18 3,AB 8 20 9]
abbrev Xj:List LO:=[A8 9 #[48] 9]
abbrev Xk:List LO:=[lm 21 7 3,AA 22 34 3 1 0,AF 23 32 22 32,Ai 24 #[AE 23] #[32] 3,Al 25 3 21 24 3 4]
abbrev Xl:List LO:=[AA 26 34 3 1 0,AF 27 32 26 32,lm 28 7 3,A6 29 32 27 28 0,AF 30 9 29 9,AB 9 30 9]
abbrev V8:List LO:=[lm 31 9 9,lm 32 8 9,Ck 33 9 31 32 9 4]
abbrev V9:List LO:=[Ag 6 4]
abbrev WA:List LO:=[Af 34 3 16 1 3 3,lm 16 34 3]
abbrev WB:List LO:=[Ed 6 4]
abbrev ZM:LC:=.seq (.reg false Xd) (.seq (.seq (.reg false Xe) (.cond (AE 13) (.seq (.reg false Xf) .ret) .skip)) (.seq (.seq (.reg false Xg) (.block 0 (.loop (.seq (.reg false Xh) (.seq (.cond (AE 17) .skip (.exit 0)) (.seq (.block 1 (.seq (.reg false Xi) (.seq (.reg false Xj) (.seq (.seq (.reg false Xk) (.cond (AE 25) (.reg false Xl) .skip)) (.seq (.reg false V8) (.cond (AE 33) (.seq (.reg false V9) .ret) .skip)))))) (.reg false WA))))))) (.seq (.reg false WB) .ret)))
theorem ZN:Bf E 61 35 [.tmp 6] ZM:=Bp Go.Proofs.Tryz.f61
noncomputable def Gs (a0:Ac) (a2:(List Str)):Int→Option (Step (Int) ((Unit) ⊕ (Unit))):=fun x4=>(if (decide (x4 < (List.length a2:Int)))=true then Option.bind (ixl a2 x4) (fun x9=>Option.bind ((if (decide (x4 < (List.length a0.Release:Int)))=true then Option.bind (ixl a0.Release x4) (fun x12=>some x12) else some [48]):Option (Str)) (fun x11=>(if (!(x11 == x9))=true then some (Step.done (Sum.inl ())) else some (Step.next (w64 (x4 + 1)))))) else some (Step.done (Sum.inr ())))
noncomputable def Fv (a0:Ac) (a1:Str) (a2:(List Str)):Option (Bool):=(if (!(a0.Epoch == a1))=true then some false else Option.bind (CD (Gs a0 a2) 0) (fun y=>match y with | Sum.inl _=>some false | Sum.inr _=>some true))
theorem OZ (a0:Ac) (a1:Str) (a2:(List Str)):Ct E 61 [.agg (AJ a0),bs a1,.fsl 1 (List.map cS a2)] (Fv a0 a1 a2) (fun r:Bool=>bv r):=CN ZN (by
 unfold Fv
 refine jS ⟨[V 1 (bs a1),V 2 (.fsl 1 (List.map cS a2)),V 3 (pt 0 9)],[W 0 9 (AJ a0)],1⟩ ?_
 refine Aj (jS ⟨[V 2 (.fsl 1 (List.map cS a2)),V 3 (pt 0 9),V 13 (bv (!(a0.Epoch == a1)))],[W 0 9 (AJ a0)],1⟩ ?_)
 refine jIf ?_ ?_
 ·refine jS ⟨[V 6 (bv false)],[],1⟩ ?_
  exact Ae (Ar (BO (bv false)))
 refine Ah (Ab (Aj (jR (jG 0 3 ⟨[V 3 (pt 0 9),V 14 (.fsl 1 (List.map cS a2)),V 15 (iv (List.length (List.map cS a2):Int)),V 16 (iv 0)],[W 0 9 (AJ a0)],1⟩ ?_))))
 simp only[List.length_map]
 refine jN (A4 ?_)
 refine BA (fun y=>match y with | Sum.inl _=>⟨[V 6 (bv false)],[],0⟩ | Sum.inr _=>⟨[],[],0⟩) (fun y=>match y with | Sum.inl _=>.ret | Sum.inr _=>(.exit 0)) (C5 (fun x4=>⟨[V 3 (pt 0 9),V 14 (.fsl 1 (List.map cS a2)),V 15 (iv (List.length a2:Int)),V 16 (iv x4)],[W 0 9 (AJ a0)],1⟩) (wkR [(0,some 0)] (Am _) (pc (hC 0) AD)) ?_) ?_
 ·intro x4
  unfold Gs
  refine jS ⟨[V 3 (pt 0 9),V 14 (.fsl 1 (List.map cS a2)),V 15 (iv (List.length a2:Int)),V 16 (iv x4),V 17 (bv (decide (x4 < (List.length a2:Int))))],[W 0 9 (AJ a0)],1⟩ ?_
  refine Aj ?_
  refine jIf ?_ ?_
  ·refine Ah (Ab (Aj (A4 (jR (jG 0 1 ⟨[V 3 (pt 0 9),V 14 (.fsl 1 (List.map cS a2)),V 15 (iv (List.length a2:Int)),V 16 (iv x4),V 18 (iv x4)],[W 0 9 (AJ a0)],1⟩ ?_)))))
   refine A5 (i:=1) (mo:=ixl a2 x4) rfl rfl rfl rfl (fun _ hc=>EV (c:=cS) (sz:=1) (e:=9) (kk:=.i64) (by kernel_rfl) (by kernel_rfl) (by kernel_rfl) (by kernel_rfl) hc) (fun _=>rfl) ?_
   intro x9 h9
   refine jG 2 3 ⟨[V 3 (pt 0 9),V 7 (iv x4),V 8 (bs x9),V 14 (.fsl 1 (List.map cS a2)),V 15 (iv (List.length a2:Int)),V 16 (iv x4)],[W 0 9 (AJ a0)],1⟩ ?_
   refine jN (jS ⟨[V 3 (pt 0 9),V 7 (iv x4),V 8 (bs x9),V 9 (bs [48]),V 14 (.fsl 1 (List.map cS a2)),V 15 (iv (List.length a2:Int)),V 16 (iv x4)],[W 0 9 (AJ a0)],1⟩ ?_)
   refine Aj ?_
   refine BA (fun x11=>⟨[V 3 (pt 0 9),V 8 (bs x9),V 9 (bs x11),V 14 (.fsl 1 (List.map cS a2)),V 15 (iv (List.length a2:Int)),V 16 (iv x4)],[W 0 9 (AJ a0)],1⟩) (fun x11=>.normal) ?_ ?_
   ·refine jR (jG 0 5 ⟨[V 3 (pt 0 9),V 7 (iv x4),V 8 (bs x9),V 9 (bs [48]),V 14 (.fsl 1 (List.map cS a2)),V 15 (iv (List.length a2:Int)),V 16 (iv x4),V 25 (bv (decide (x4 < (List.length (List.map cS a0.Release):Int))))],[W 0 9 (AJ a0)],1⟩ ?_)
    simp only[List.length_map]
    refine jN ?_
    refine jIf ?_ ?_
    ·refine CY (jG 0 3 ⟨[V 3 (pt 0 9),V 8 (bs x9),V 14 (.fsl 1 (List.map cS a2)),V 15 (iv (List.length a2:Int)),V 16 (iv x4),V 27 (.fsl 1 (List.map cS a0.Release)),V 28 (iv x4)],[W 0 9 (AJ a0)],1⟩ ?_)
     refine A5 (i:=3) (mo:=ixl a0.Release x4) rfl rfl rfl rfl (fun _ hc=>EV (c:=cS) (sz:=1) (e:=9) (kk:=.i64) (by kernel_rfl) (by kernel_rfl) (by kernel_rfl) (by kernel_rfl) hc) (fun _=>rfl) ?_
     intro x12 h12
     refine jG 4 2 ⟨[V 3 (pt 0 9),V 8 (bs x9),V 9 (bs x12),V 14 (.fsl 1 (List.map cS a2)),V 15 (iv (List.length a2:Int)),V 16 (iv x4)],[W 0 9 (AJ a0)],1⟩ ?_
     exact Ad rfl (AU rfl (wkR [(0,some 0)] (Am _) (pc (hC 0) AD)))
    exact Ah (AU rfl (wkR [(0,some 0)] (Am _) (pc (hC 0) AD)))
   intro x11
   refine Ab (jS ⟨[V 3 (pt 0 9),V 14 (.fsl 1 (List.map cS a2)),V 15 (iv (List.length a2:Int)),V 16 (iv x4),V 33 (bv (!(x11 == x9)))],[W 0 9 (AJ a0)],1⟩ ?_)
   refine jIf ?_ ?_
   ·refine jS ⟨[V 6 (bv false)],[],1⟩ ?_
    exact Ae (BG (Ar (Bm rfl nofun BV)))
   refine Ah (BX (Ab (jT ⟨[V 3 (pt 0 9),V 14 (.fsl 1 (List.map cS a2)),V 15 (iv (List.length a2:Int)),V 16 (iv (w64 (x4 + 1)))],[W 0 9 (AJ a0)],1⟩ ?_)))
   exact C7 (wkR [(0,some 0)] (Am _) (pc (hC 0) AD))
  exact Cp (Cq (Bm rfl nofun BV))
 rintro (_ | _)
 ·exact BG (Ar (BO (bv false)))
 refine C6 (Ab (jS ⟨[V 6 (bv true)],[],0⟩ ?_))
 exact Ae (BO (bv true)))
abbrev Ql:List LO:=[BT 1 67 0 0,Ag 2 4]
abbrev Qm:List LO:=[AA 4 67 1 0 0,AA 5 39 4 2 0,AF 6 4 5 4]
abbrev Qn:List LO:=[AA 7 67 1 2 0,AF 8 34 7 34,AA 9 67 1 3 0,AA 10 34 9 0 0,AF 11 9 10 9,AA 12 67 1 3 0,AA 13 34 12 1 0,AF 14 32 13 32,AN 15 61 #[AE 8,AE 11,AE 14] #[34,9,32] 4,AB 2 15 4]
abbrev Qo:List LO:=[AA 16 67 1 2 0,AF 17 34 16 34,BH 3 34 0,AO 34 3 17 0]
abbrev Qp:List LO:=[AA 18 67 1 3 0,AA 19 34 18 8 0,AF 20 32 19 32,Ai 21 #[AE 20] #[32] 3,Aw 22 3 21 0 3 4]
abbrev Qq:List LO:=[AF 23 34 3 34,AN 24 87 #[AE 23] #[34] 34,AO 34 3 24 0]
abbrev Qr:List LO:=[AF 25 34 3 34,AA 26 67 1 3 0,AF 27 34 26 34,AN 28 65 #[AE 25,AE 27] #[34,34] 3,Aw 29 3 28 0 3 4,AB 2 29 4]
abbrev SJ:LC:=.seq (.reg false Ql) (.seq (.seq (.reg false Qm) (.cond (AE 6) (.seq (.reg false Qn) .ret) .skip)) (.seq (.reg false Qo) (.seq (.seq (.reg false Qp) (.cond (AE 22) (.reg false Qq) .skip)) (.seq (.reg false Qr) .ret))))
theorem SK:Bf E 57 30 [.tmp 2] SJ:=Bp Go.Proofs.Tryz.f57
noncomputable def Dc (a0:AZ):Option (Bool):=(if a0.c.Star=true then Option.bind (Fv (Ac.mk a0.v.Epoch a0.v.Release a0.v.Pre a0.v.PreNum a0.v.Post a0.v.PostNum a0.v.Dev a0.v.DevNum a0.v.Local) a0.w.Epoch a0.w.Release) (fun x1=>some x1) else Option.bind ((if ((List.length a0.w.Local:Int) == 0)=true then Option.bind (Jc (Ac.mk a0.v.Epoch a0.v.Release a0.v.Pre a0.v.PreNum a0.v.Post a0.v.PostNum a0.v.Dev a0.v.DevNum a0.v.Local)) (fun x12=>some (x12.Epoch,x12.Release,x12.Pre,x12.PreNum,x12.Post,x12.PostNum,x12.Dev,x12.DevNum,x12.Local)) else some (a0.v.Epoch,a0.v.Release,a0.v.Pre,a0.v.PreNum,a0.v.Post,a0.v.PostNum,a0.v.Dev,a0.v.DevNum,a0.v.Local)):Option (Str × List Str × Int × Str × Bool × Str × Bool × Str × List Str)) (fun (x3,x4,x5,x6,x7,x8,x9,x10,x11)=>Option.bind (Fu (Ac.mk x3 x4 x5 x6 x7 x8 x9 x10 x11) (Ac.mk a0.w.Epoch a0.w.Release a0.w.Pre a0.w.PreNum a0.w.Post a0.w.PostNum a0.w.Dev a0.w.DevNum a0.w.Local)) (fun x13=>some (x13 == 0))))
theorem JG (a0:AZ):Ct E 57 [.agg (AT a0)] (Dc a0) (fun r:Bool=>bv r):=CN SK (by
 unfold Dc
 refine jS ⟨[V 1 (pt 0 22)],[W 0 22 (AT a0)],1⟩ ?_
 refine Aj (jS ⟨[V 1 (pt 0 22),V 6 (bv a0.c.Star)],[W 0 22 (AT a0)],1⟩ ?_)
 refine jIf ?_ ?_
 ·refine jR (jG 0 8 ⟨[V 8 (.agg (AJ a0.v)),V 11 (bs a0.w.Epoch),V 14 (.fsl 1 (List.map cS a0.w.Release))],[],1⟩ ?_)
  refine jK 8 (OZ a0.v a0.w.Epoch a0.w.Release) ?_
  intro x1 h1
  refine jG 9 1 ⟨[V 2 (bv x1)],[],1⟩ ?_
  exact jN (Ae (Ar (BO (bv x1))))
 refine Ah (Ab (jS ⟨[V 1 (pt 0 22),V 3 (pt 1 9)],[W 0 22 (AT a0),W 1 9 (AJ a0.v)],2⟩ ?_))
 refine Aj ?_
 refine BA (fun (x3,x4,x5,x6,x7,x8,x9,x10,x11)=>⟨[V 1 (pt 0 22),V 3 (pt 1 9)],[W 0 22 (AT a0),W 1 9 [bs x3,.fsl 1 (List.map cS x4),.s (.int .u8 x5),bs x6,bv x7,bs x8,bv x9,bs x10,.fsl 1 (List.map cS x11)]],2⟩) (fun (x3,x4,x5,x6,x7,x8,x9,x10,x11)=>.normal) ?_ ?_
 ·refine jR (jG 0 5 ⟨[V 1 (pt 0 22),V 3 (pt 1 9),V 22 (bv ((List.length (List.map cS a0.w.Local):Int) == 0))],[W 0 22 (AT a0),W 1 9 (AJ a0.v)],2⟩ ?_)
  simp only[List.length_map]
  refine jN ?_
  refine jIf ?_ ?_
  ·refine CY (jG 0 1 ⟨[V 1 (pt 0 22),V 3 (pt 1 9),V 23 (.agg (AJ a0.v))],[W 0 22 (AT a0),W 1 9 (AJ a0.v)],2⟩ ?_)
   refine jK 1 (UA a0.v) ?_
   intro x12 h12
   refine jG 2 1 ⟨[V 1 (pt 0 22),V 3 (pt 1 9)],[W 0 22 (AT a0),W 1 9 (AJ x12)],2⟩ ?_
   exact Ad rfl (AU rfl (wkR [(0,some 0),(1,some 1)] (Am _) (pc (hC 0) (pc (hC 1) AD))))
  exact Ah (AU rfl (wkR [(0,some 0),(1,some 1)] (Am _) (pc (hC 0) (pc (hC 1) AD))))
 rintro⟨x3,x4,x5,x6,x7,x8,x9,x10,x11⟩
 refine Ab (jR (jG 0 3 ⟨[V 25 (.agg [bs x3,.fsl 1 (List.map cS x4),.s (.int .u8 x5),bs x6,bv x7,bs x8,bv x9,bs x10,.fsl 1 (List.map cS x11)]),V 27 (.agg (AJ a0.w))],[],2⟩ ?_))
 refine jK 3 (Hp (Ac.mk x3 x4 x5 x6 x7 x8 x9 x10 x11) a0.w) ?_
 intro x13 h13
 refine jG 4 2 ⟨[V 2 (bv (x13 == 0))],[],2⟩ ?_
 exact jN (Ae (BO (bv (x13 == 0)))))
abbrev WD:List LO:=[BT 1 67 0 0,Ag 2 4]
abbrev WE:List LO:=[AF 3 67 1 67,AN 4 57 #[AE 3] #[67] 4,BR 5 4 4 4,AB 2 5 4]
abbrev Xp:LC:=.seq (.reg false WD) (.seq (.reg false WE) .ret)
theorem Xq:Bf E 58 6 [.tmp 2] Xp:=Bp Go.Proofs.Tryz.f58
noncomputable def Hx (a0:AZ):Option (Bool):=Option.bind (Dc (AZ.mk (AK.mk a0.c.Op a0.c.Ver a0.c.Star) a0.text (Ac.mk a0.v.Epoch a0.v.Release a0.v.Pre a0.v.PreNum a0.v.Post a0.v.PostNum a0.v.Dev a0.v.DevNum a0.v.Local) (Ac.mk a0.w.Epoch a0.w.Release a0.w.Pre a0.w.PreNum a0.w.Post a0.w.PostNum a0.w.Dev a0.w.DevNum a0.w.Local))) (fun x1=>some (!x1))
theorem WC (a0:AZ):Ct E 58 [.agg (AT a0)] (Hx a0) (fun r:Bool=>bv r):=CN Xq (by
 unfold Hx
 refine jS ⟨[V 1 (pt 0 22)],[W 0 22 (AT a0)],1⟩ ?_
 refine jR (jG 0 1 ⟨[V 3 (.agg (AT a0))],[],1⟩ ?_)
 refine jK 1 (JG (AZ.mk (AK.mk a0.c.Op a0.c.Ver a0.c.Star) a0.text a0.v a0.w)) ?_
 intro x1 h1
 refine jG 2 2 ⟨[V 2 (bv (!x1))],[],1⟩ ?_
 exact jN (Ae (BO (bv (!x1)))))
abbrev PY:List LO:=[BT 1 67 0 0,Ap 2 0 3]
abbrev PZ:List LO:=[AA 3 67 1 2 0,AF 4 34 3 34,AN 5 87 #[AE 4] #[34] 34,AA 6 67 1 3 0,AF 7 34 6 34,AN 8 65 #[AE 5,AE 7] #[34,34] 3,AB 2 8 3]
abbrev Qs:LC:=.seq (.reg false PY) (.seq (.reg true PZ) .ret)
theorem Qt:Bf E 60 9 [.tmp 2] Qs:=Bp Go.Proofs.Tryz.f60
noncomputable def Cm (a0:AZ):Option (Int):=Option.bind (Jc (Ac.mk a0.v.Epoch a0.v.Release a0.v.Pre a0.v.PreNum a0.v.Post a0.v.PostNum a0.v.Dev a0.v.DevNum a0.v.Local)) (fun x1=>Option.bind (Fu x1 (Ac.mk a0.w.Epoch a0.w.Release a0.w.Pre a0.w.PreNum a0.w.Post a0.w.PostNum a0.w.Dev a0.w.DevNum a0.w.Local)) (fun x2=>some x2))
theorem FB (a0:AZ):Ct E 60 [.agg (AT a0)] (Cm a0) (fun r:Int=>iv r):=CN Qt (by
 unfold Cm
 refine jS ⟨[V 1 (pt 0 22)],[W 0 22 (AT a0)],1⟩ ?_
 refine jR (jG 0 2 ⟨[V 1 (pt 0 22),V 4 (.agg (AJ a0.v))],[W 0 22 (AT a0)],1⟩ ?_)
 refine jK 2 (UA a0.v) ?_
 intro x1 h1
 refine jG 3 2 ⟨[V 5 (.agg (AJ x1)),V 7 (.agg (AJ a0.w))],[],1⟩ ?_
 refine jK 5 (Hp x1 a0.w) ?_
 intro x2 h2
 refine jG 6 1 ⟨[V 2 (iv x2)],[],1⟩ ?_
 exact jN (Ae (BO (iv x2))))
abbrev WG:List LO:=[BT 1 67 0 0,Ag 2 4]
abbrev WH:List LO:=[AF 3 67 1 67,AN 4 60 #[AE 3] #[67] 3,DH 5 3 4 0 3 4,lm 6 5 4,AM 7 67 1 2 0 6 true,Aa 8 34 7 34 6 true,AM 9 67 1 3 0 6 true,AM 10 34 9 0 0 6 true,Aa 11 9 10 9 6 true,AM 12 67 1 3 0 6 true,AM 13 34 12 1 0 6 true,Aa 14 32 13 32 6 true,AM 15 67 1 3 0 6 true,AM 16 34 15 1 0 6 true,Aa 17 32 16 32 6 true,BF 18 #[AE 17] #[32] 3 6 true,lg 19 (.binOp .sub 3 (AE 18) (.const (.int .i64 1)) 3) 3 6 true,lg 20 (.slice 32 (AE 14) none (some (AE 19)) none) 32 6 true,A7 21 61 #[AE 8,AE 11,AE 20] #[34,9,32] 4 6 true,AS 22 6 21 4,AB 2 22 4]
abbrev Xr:LC:=.seq (.reg false WG) (.seq (.reg true WH) .ret)
theorem Xs:Bf E 59 23 [.tmp 2] Xr:=Bp Go.Proofs.Tryz.f59
noncomputable def Hy (a0:AZ):Option (Bool):=Option.bind (Cm (AZ.mk (AK.mk a0.c.Op a0.c.Ver a0.c.Star) a0.text (Ac.mk a0.v.Epoch a0.v.Release a0.v.Pre a0.v.PreNum a0.v.Post a0.v.PostNum a0.v.Dev a0.v.DevNum a0.v.Local) (Ac.mk a0.w.Epoch a0.w.Release a0.w.Pre a0.w.PreNum a0.w.Post a0.w.PostNum a0.w.Dev a0.w.DevNum a0.w.Local))) (fun x1=>Option.bind (if (decide (x1≥0))=true then Option.bind (E0 a0.w.Release 0 (w64 ((List.length a0.w.Release:Int) - 1))) (fun x5=>Option.bind (Fv (Ac.mk a0.v.Epoch a0.v.Release a0.v.Pre a0.v.PreNum a0.v.Post a0.v.PostNum a0.v.Dev a0.v.DevNum a0.v.Local) a0.w.Epoch x5) (fun x6=>some x6)) else some false:Option (Bool)) (fun x4=>some x4))
theorem WF (a0:AZ):Ct E 59 [.agg (AT a0)] (Hy a0) (fun r:Bool=>bv r):=CN Xs (by
 unfold Hy
 refine jS ⟨[V 1 (pt 0 22)],[W 0 22 (AT a0)],1⟩ ?_
 refine jR (jG 0 1 ⟨[V 1 (pt 0 22),V 3 (.agg (AT a0))],[W 0 22 (AT a0)],1⟩ ?_)
 refine jK 1 (FB (AZ.mk (AK.mk a0.c.Op a0.c.Ver a0.c.Star) a0.text a0.v a0.w)) ?_
 intro x1 h1
 refine jG 2 2 ⟨[V 1 (pt 0 22),V 6 (bv (decide (x1≥0)))],[W 0 22 (AT a0)],1⟩ ?_
 refine A2 4 16 (fun x4=>⟨[V 22 (bv x4)],[],0⟩) ?_ ?_
 ·refine jSp 6 ?_ ?_
  ·refine jG 0 13 ⟨[(6,.lit true),V 8 (.agg (AJ a0.v)),V 11 (bs a0.w.Epoch),V 14 (.fsl 1 (List.map cS a0.w.Release)),V 19 (iv (w64 ((List.length (List.map cS a0.w.Release):Int) - 1)))],[],1⟩ ?_
   simp only[List.length_map]
   refine A5 (i:=13) (mo:=E0 a0.w.Release 0 (w64 ((List.length a0.w.Release:Int) - 1))) rfl rfl rfl rfl (fun _ hc=>ACT (c:=cS) (sz:=1) (e:=9) (by kernel_rfl) (by kernel_rfl) (by kernel_rfl) (by kernel_rfl) (by kernel_rfl) hc) (fun _=>rfl) ?_
   intro x5 h5
   refine jK 14 (OZ a0.v a0.w.Epoch x5) ?_
   intro x6 h6
   refine jG 15 1 ⟨[V 22 (bv x6)],[],1⟩ ?_
   exact Ad rfl (AU rfl BV)
  refine jG 0 16 ⟨[V 22 (bv false)],[],1⟩ ?_
  exact Ad rfl (AU rfl BV)
 intro x4
 refine jG 20 1 ⟨[V 2 (bv x4)],[],0⟩ ?_
 exact jN (Ae (BO (bv x4))))
abbrev WK:List LO:=[BT 1 67 0 0,Ag 2 4]
abbrev WL:List LO:=[AF 3 67 1 67,AN 4 60 #[AE 3] #[67] 3,lo 5 (.binOp .leq 3 (AE 4) (.const (.int .i64 0)) 3) 4,AB 2 5 4]
abbrev Xt:LC:=.seq (.reg false WK) (.seq (.reg false WL) .ret)
theorem Xu:Bf E 62 6 [.tmp 2] Xt:=Bp Go.Proofs.Tryz.f62
noncomputable def Hz (a0:AZ):Option (Bool):=Option.bind (Cm (AZ.mk (AK.mk a0.c.Op a0.c.Ver a0.c.Star) a0.text (Ac.mk a0.v.Epoch a0.v.Release a0.v.Pre a0.v.PreNum a0.v.Post a0.v.PostNum a0.v.Dev a0.v.DevNum a0.v.Local) (Ac.mk a0.w.Epoch a0.w.Release a0.w.Pre a0.w.PreNum a0.w.Post a0.w.PostNum a0.w.Dev a0.w.DevNum a0.w.Local))) (fun x1=>some (decide (x1≤0)))
theorem WJ (a0:AZ):Ct E 62 [.agg (AT a0)] (Hz a0) (fun r:Bool=>bv r):=CN Xu (by
 unfold Hz
 refine jS ⟨[V 1 (pt 0 22)],[W 0 22 (AT a0)],1⟩ ?_
 refine jR (jG 0 1 ⟨[V 3 (.agg (AT a0))],[],1⟩ ?_)
 refine jK 1 (FB (AZ.mk (AK.mk a0.c.Op a0.c.Ver a0.c.Star) a0.text a0.v a0.w)) ?_
 intro x1 h1
 refine jG 2 2 ⟨[V 2 (bv (decide (x1≤0)))],[],1⟩ ?_
 exact jN (Ae (BO (bv (decide (x1≤0))))))
abbrev WN:List LO:=[BT 1 67 0 0,Ag 2 4]
abbrev WO:List LO:=[AF 3 67 1 67,AN 4 60 #[AE 3] #[67] 3,DH 5 3 4 0 3 4,AB 2 5 4]
abbrev Xv:LC:=.seq (.reg false WN) (.seq (.reg false WO) .ret)
theorem Xw:Bf E 63 6 [.tmp 2] Xv:=Bp Go.Proofs.Tryz.f63
noncomputable def HI (a0:AZ):Option (Bool):=Option.bind (Cm (AZ.mk (AK.mk a0.c.Op a0.c.Ver a0.c.Star) a0.text (Ac.mk a0.v.Epoch a0.v.Release a0.v.Pre a0.v.PreNum a0.v.Post a0.v.PostNum a0.v.Dev a0.v.DevNum a0.v.Local) (Ac.mk a0.w.Epoch a0.w.Release a0.w.Pre a0.w.PreNum a0.w.Post a0.w.PostNum a0.w.Dev a0.w.DevNum a0.w.Local))) (fun x1=>some (decide (x1≥0)))
theorem WM (a0:AZ):Ct E 63 [.agg (AT a0)] (HI a0) (fun r:Bool=>bv r):=CN Xw (by
 unfold HI
 refine jS ⟨[V 1 (pt 0 22)],[W 0 22 (AT a0)],1⟩ ?_
 refine jR (jG 0 1 ⟨[V 3 (.agg (AT a0))],[],1⟩ ?_)
 refine jK 1 (FB (AZ.mk (AK.mk a0.c.Op a0.c.Ver a0.c.Star) a0.text a0.v a0.w)) ?_
 intro x1 h1
 refine jG 2 2 ⟨[V 2 (bv (decide (x1≥0)))],[],1⟩ ?_
 exact jN (Ae (BO (bv (decide (x1≥0))))))
abbrev dI:List LO:=[BT 1 34 0 0,BH 2 34 0]
abbrev d3:List LO:=[AA 3 34 1 0 0,AF 4 9 3 9,AA 5 34 1 1 0,AF 6 32 5 32,lo 7 (.build 34 #[(0,AE 4),(1,AE 6)]) 34,AO 34 2 7 0]
abbrev jQ:LC:=.seq (.reg false dI) (.seq (.reg false d3) .ret)
theorem jU:Bf E 98 8 [.cell 2 34] jQ:=Bp Go.Proofs.Tryz.f98
noncomputable def KN (a0:Ac):Option (Ac):=some (Ac.mk a0.Epoch a0.Release 0 [] false [] false [] [])
theorem SL (a0:Ac):Ct E 98 [.agg (AJ a0)] (KN a0) (fun r:Ac=>.agg (AJ r)):=CN jU (by
 unfold KN
 refine jS ⟨[V 1 (pt 0 9),V 2 (pt 1 9)],[W 0 9 (AJ a0),W 1 9 [bs [],AQ,.s (.int .u8 0),bs [],bv false,bs [],bv false,bs [],AQ]],2⟩ ?_
 refine jS ⟨[V 2 (pt 1 9)],[W 1 9 [bs a0.Epoch,.fsl 1 (List.map cS a0.Release),.s (.int .u8 0),bs [],bv false,bs [],bv false,bs [],AQ]],2⟩ ?_
 exact Ae (Hk (.inr rfl) (v:=.agg [bs a0.Epoch,.fsl 1 (List.map cS a0.Release),.s (.int .u8 0),bs [],bv false,bs [],bv false,bs [],AQ]) (by kernel_rfl) (Gw (AR rfl (AR rfl (AR rfl (AR rfl (AR rfl (AR rfl (AR rfl (AR rfl (AR rfl (BL _))))))))))) (LT (AL (AP _) (AL (AP _) (AL (AP _) (AL (AP _) (AL (AP _) (AL (AP _) (AL (AP _) (AL (AP _) (AL (HH _) Ax))))))))))))
abbrev Qj:List LO:=[BT 1 67 0 0,Ag 2 4]
abbrev Qk:List LO:=[AA 3 67 1 2 0,AF 4 34 3 34,AN 5 98 #[AE 4] #[34] 34,AA 6 67 1 3 0,AF 7 34 6 34,AN 8 98 #[AE 7] #[34] 34,AN 9 65 #[AE 5,AE 8] #[34,34] 3,Aw 10 3 9 0 3 4,AB 2 10 4]
abbrev SG:LC:=.seq (.reg false Qj) (.seq (.reg true Qk) .ret)
theorem SH:Bf E 66 11 [.tmp 2] SG:=Bp Go.Proofs.Tryz.f66
noncomputable def Db (a0:AZ):Option (Bool):=Option.bind (KN (Ac.mk a0.v.Epoch a0.v.Release a0.v.Pre a0.v.PreNum a0.v.Post a0.v.PostNum a0.v.Dev a0.v.DevNum a0.v.Local)) (fun x1=>Option.bind (KN (Ac.mk a0.w.Epoch a0.w.Release a0.w.Pre a0.w.PreNum a0.w.Post a0.w.PostNum a0.w.Dev a0.w.DevNum a0.w.Local)) (fun x2=>Option.bind (Fu x1 x2) (fun x3=>some (x3 == 0))))
theorem JF (a0:AZ):Ct E 66 [.agg (AT a0)] (Db a0) (fun r:Bool=>bv r):=CN SH (by
 unfold Db
 refine jS ⟨[V 1 (pt 0 22)],[W 0 22 (AT a0)],1⟩ ?_
 refine jR (jG 0 2 ⟨[V 1 (pt 0 22),V 4 (.agg (AJ a0.v))],[W 0 22 (AT a0)],1⟩ ?_)
 refine jK 2 (SL a0.v) ?_
 intro x1 h1
 refine jG 3 2 ⟨[V 5 (.agg (AJ x1)),V 7 (.agg (AJ a0.w))],[],1⟩ ?_
 refine jK 5 (SL a0.w) ?_
 intro x2 h2
 refine jK 6 (Hp x1 x2) ?_
 intro x3 h3
 refine jG 7 2 ⟨[V 2 (bv (x3 == 0))],[],1⟩ ?_
 exact jN (Ae (BO (bv (x3 == 0)))))
abbrev WQ:List LO:=[BT 1 67 0 0,Ag 2 4]
abbrev WR:List LO:=[AA 3 67 1 2 0,AF 4 34 3 34,AA 5 67 1 3 0,AF 6 34 5 34,AN 7 65 #[AE 4,AE 6] #[34,34] 3,D0 8 3 7 0 3 4,lm 9 8 4,AM 10 67 1 2 0 9 true,Aa 11 34 10 34 9 true,A7 12 34 #[AE 11] #[34] 4 9 true,lmg 13 12 4 9 true,AM 14 67 1 3 0 13 true,Aa 15 34 14 34 13 true,A7 16 34 #[AE 15] #[34] 4 13 true,Ay 17 4 16 4 13 true,Dr 18 13 17 4 9 true,lmg 19 18 4 9 true,Aa 20 67 1 67 19 true,A7 21 66 #[AE 20] #[67] 4 19 true,Dr 22 19 21 4 9 true,Ay 23 4 22 4 9 true,AS 24 9 23 4,AB 2 24 4]
abbrev Xx:LC:=.seq (.reg false WQ) (.seq (.reg false WR) .ret)
theorem Xy:Bf E 64 25 [.tmp 2] Xx:=Bp Go.Proofs.Tryz.f64
noncomputable def H5 (a0:AZ):Option (Bool):=Option.bind (Fu (Ac.mk a0.v.Epoch a0.v.Release a0.v.Pre a0.v.PreNum a0.v.Post a0.v.PostNum a0.v.Dev a0.v.DevNum a0.v.Local) (Ac.mk a0.w.Epoch a0.w.Release a0.w.Pre a0.w.PreNum a0.w.Post a0.w.PostNum a0.w.Dev a0.w.DevNum a0.w.Local)) (fun x1=>Option.bind (if (decide (x1 < 0))=true then Option.bind (J3 (Ac.mk a0.v.Epoch a0.v.Release a0.v.Pre a0.v.PreNum a0.v.Post a0.v.PostNum a0.v.Dev a0.v.DevNum a0.v.Local)) (fun x8=>Option.bind (if x8=true then Option.bind (J3 (Ac.mk a0.w.Epoch a0.w.Release a0.w.Pre a0.w.PreNum a0.w.Post a0.w.PostNum a0.w.Dev a0.w.DevNum a0.w.Local)) (fun x11=>some (!x11)) else some false:Option (Bool)) (fun x10=>Option.bind (if x10=true then Option.bind (Db (AZ.mk (AK.mk a0.c.Op a0.c.Ver a0.c.Star) a0.text (Ac.mk a0.v.Epoch a0.v.Release a0.v.Pre a0.v.PreNum a0.v.Post a0.v.PostNum a0.v.Dev a0.v.DevNum a0.v.Local) (Ac.mk a0.w.Epoch a0.w.Release a0.w.Pre a0.w.PreNum a0.w.Post a0.w.PostNum a0.w.Dev a0.w.DevNum a0.w.Local))) (fun x14=>some x14) else some false:Option (Bool)) (fun x13=>some (!x13)))) else some false:Option (Bool)) (fun x7=>some x7))
theorem WP (a0:AZ):Ct E 64 [.agg (AT a0)] (H5 a0) (fun r:Bool=>bv r):=CN Xy (by
 unfold H5
 refine jS ⟨[V 1 (pt 0 22)],[W 0 22 (AT a0)],1⟩ ?_
 refine jR (jG 0 4 ⟨[V 1 (pt 0 22),V 4 (.agg (AJ a0.v)),V 6 (.agg (AJ a0.w))],[W 0 22 (AT a0)],1⟩ ?_)
 refine jK 4 (Hp a0.v a0.w) ?_
 intro x1 h1
 refine jG 5 2 ⟨[V 1 (pt 0 22),V 9 (bv (decide (x1 < 0)))],[W 0 22 (AT a0)],1⟩ ?_
 refine A2 7 15 (fun x7=>⟨[V 24 (bv x7)],[],0⟩) ?_ ?_
 ·refine jSp 9 ?_ ?_
  ·refine jG 0 2 ⟨[V 1 (pt 0 22),(9,.lit true),V 11 (.agg (AJ a0.v))],[W 0 22 (AT a0)],1⟩ ?_
   refine jK 2 (PM a0.v) ?_
   intro x8 h8
   refine jG 3 1 ⟨[V 1 (pt 0 22),(9,.lit true),V 13 (bv x8)],[W 0 22 (AT a0)],1⟩ ?_
   refine A2 4 5 (fun x10=>⟨[V 1 (pt 0 22),V 9 (bv true),V 18 (bv x10)],[W 0 22 (AT a0)],1⟩) ?_ ?_
   ·refine jSp 13 ?_ ?_
    ·refine jG 0 2 ⟨[V 1 (pt 0 22),(9,.lit true),(13,.lit true),V 15 (.agg (AJ a0.w))],[W 0 22 (AT a0)],1⟩ ?_
     refine jK 2 (PM a0.w) ?_
     intro x11 h11
     refine jG 3 2 ⟨[V 1 (pt 0 22),(9,.lit true),V 18 (bv (!x11))],[W 0 22 (AT a0)],1⟩ ?_
     exact Ad rfl (AU rfl (wkR [(0,some 0)] (Am _) (pc (hC 0) AD)))
    refine jG 0 5 ⟨[V 1 (pt 0 22),(9,.lit true),V 18 (bv false)],[W 0 22 (AT a0)],1⟩ ?_
    exact Ad rfl (AU rfl (wkR [(0,some 0)] (Am _) (pc (hC 0) AD)))
   intro x10
   refine y9 (g:=9) (b:=true) (by kernel_rfl) ?_
   refine jG 9 1 ⟨[V 1 (pt 0 22),(9,.lit true),V 19 (bv x10)],[W 0 22 (AT a0)],1⟩ ?_
   refine A2 10 3 (fun x13=>⟨[V 9 (bv true),V 22 (bv x13)],[],0⟩) ?_ ?_
   ·refine jSp 19 ?_ ?_
    ·refine jG 0 1 ⟨[(9,.lit true),(19,.lit true),V 20 (.agg (AT a0))],[],1⟩ ?_
     refine jK 1 (JF (AZ.mk (AK.mk a0.c.Op a0.c.Ver a0.c.Star) a0.text a0.v a0.w)) ?_
     intro x14 h14
     refine jG 2 1 ⟨[(9,.lit true),V 22 (bv x14)],[],1⟩ ?_
     exact Ad rfl (AU rfl BV)
    refine jG 0 3 ⟨[(9,.lit true),V 22 (bv false)],[],1⟩ ?_
    exact Ad rfl (AU rfl BV)
   intro x13
   refine y9 (g:=9) (b:=true) (by kernel_rfl) ?_
   refine jG 13 2 ⟨[V 24 (bv (!x13))],[],0⟩ ?_
   exact Ad rfl (AU rfl BV)
  refine jG 0 15 ⟨[V 24 (bv false)],[],1⟩ ?_
  exact Ad rfl (AU rfl BV)
 intro x7
 refine jG 22 1 ⟨[V 2 (bv x7)],[],0⟩ ?_
 exact jN (Ae (BO (bv x7))))
abbrev WT:List LO:=[BT 1 67 0 0,Ag 2 4]
abbrev WU:List LO:=[AA 3 67 1 2 0,AF 4 34 3 34,AA 5 67 1 3 0,AF 6 34 5 34,AN 7 65 #[AE 4,AE 6] #[34,34] 3,DJ 8 3 7 0 3 4,lm 9 8 4,Aa 10 67 1 67 9 true,A7 11 66 #[AE 10] #[67] 4 9 true,lmg 12 11 4 9 true,AM 13 67 1 2 0 12 true,AM 14 34 13 8 0 12 true,Aa 15 32 14 32 12 true,BF 16 #[AE 15] #[32] 3 12 true,lg 17 (.binOp .gtr 3 (AE 16) (.const (.int .i64 0)) 3) 4 12 true,lmg 18 17 4 12 true,AM 19 67 1 2 0 18 false,AM 20 34 19 4 0 18 false,Aa 21 4 20 4 18 false,lmg 22 21 4 18 false,AM 23 67 1 3 0 22 true,AM 24 34 23 4 0 22 true,Aa 25 4 24 4 22 true,Ay 26 4 25 4 22 true,Dr 27 22 26 4 18 false,FR 28 18 27 4 12 true,Dr 29 12 28 4 9 true,Ay 30 4 29 4 9 true,AS 31 9 30 4,AB 2 31 4]
abbrev Xz:LC:=.seq (.reg false WT) (.seq (.reg false WU) .ret)
theorem XI:Bf E 67 32 [.tmp 2] Xz:=Bp Go.Proofs.Tryz.f67
noncomputable def H6 (a0:AZ):Option (Bool):=Option.bind (Fu (Ac.mk a0.v.Epoch a0.v.Release a0.v.Pre a0.v.PreNum a0.v.Post a0.v.PostNum a0.v.Dev a0.v.DevNum a0.v.Local) (Ac.mk a0.w.Epoch a0.w.Release a0.w.Pre a0.w.PreNum a0.w.Post a0.w.PostNum a0.w.Dev a0.w.DevNum a0.w.Local)) (fun x1=>Option.bind (if (decide (x1 > 0))=true then Option.bind (Db (AZ.mk (AK.mk a0.c.Op a0.c.Ver a0.c.Star) a0.text (Ac.mk a0.v.Epoch a0.v.Release a0.v.Pre a0.v.PreNum a0.v.Post a0.v.PostNum a0.v.Dev a0.v.DevNum a0.v.Local) (Ac.mk a0.w.Epoch a0.w.Release a0.w.Pre a0.w.PreNum a0.w.Post a0.w.PostNum a0.w.Dev a0.w.DevNum a0.w.Local))) (fun x4=>some (!(x4 && ((decide ((List.length a0.v.Local:Int) > 0)) || (a0.v.Post && (!a0.w.Post)))))) else some false:Option (Bool)) (fun x3=>some x3))
theorem WS (a0:AZ):Ct E 67 [.agg (AT a0)] (H6 a0) (fun r:Bool=>bv r):=CN XI (by
 unfold H6
 refine jS ⟨[V 1 (pt 0 22)],[W 0 22 (AT a0)],1⟩ ?_
 refine jR (jG 0 4 ⟨[V 1 (pt 0 22),V 4 (.agg (AJ a0.v)),V 6 (.agg (AJ a0.w))],[W 0 22 (AT a0)],1⟩ ?_)
 refine jK 4 (Hp a0.v a0.w) ?_
 intro x1 h1
 refine jG 5 2 ⟨[V 1 (pt 0 22),V 9 (bv (decide (x1 > 0)))],[W 0 22 (AT a0)],1⟩ ?_
 refine A2 7 22 (fun x3=>⟨[V 31 (bv x3)],[],0⟩) ?_ ?_
 ·refine jSp 9 ?_ ?_
  ·refine jG 0 1 ⟨[V 1 (pt 0 22),(9,.lit true),V 10 (.agg (AT a0))],[W 0 22 (AT a0)],1⟩ ?_
   refine jK 1 (JF (AZ.mk (AK.mk a0.c.Op a0.c.Ver a0.c.Star) a0.text a0.v a0.w)) ?_
   intro x4 h4
   refine jG 2 20 ⟨[V 31 (bv (!(x4 && ((decide ((List.length (List.map cS a0.v.Local):Int) > 0)) || (a0.v.Post && (!a0.w.Post))))))],[],1⟩ ?_
   simp only[List.length_map]
   exact Ad rfl (AU rfl BV)
  refine jG 0 22 ⟨[V 31 (bv false)],[],1⟩ ?_
  exact Ad rfl (AU rfl BV)
 intro x3
 refine jG 29 1 ⟨[V 2 (bv x3)],[],0⟩ ?_
 exact jN (Ae (BO (bv x3))))
abbrev WW:List LO:=[BT 1 67 0 0,Ag 2 4]
abbrev WX:List LO:=[AA 3 67 1 1 0,AF 4 9 3 9,AN 5 49 #[AE 4] #[9] 9,AA 6 67 1 0 0,AA 7 39 6 1 0,AF 8 9 7 9,AN 9 49 #[AE 8] #[9] 9,CV 10 9 5 9 9 4,AB 2 10 4]
abbrev X0:LC:=.seq (.reg false WW) (.seq (.reg true WX) .ret)
theorem X1:Bf E 68 11 [.tmp 2] X0:=Bp Go.Proofs.Tryz.f68
noncomputable def H7 (a0:AZ):Option (Bool):=Option.bind (Gh a0.text) (fun x1=>Option.bind (Gh a0.c.Ver) (fun x2=>some (x1 == x2)))
theorem WV (a0:AZ):Ct E 68 [.agg (AT a0)] (H7 a0) (fun r:Bool=>bv r):=CN X1 (by
 unfold H7
 refine jS ⟨[V 1 (pt 0 22)],[W 0 22 (AT a0)],1⟩ ?_
 refine jR (jG 0 2 ⟨[V 1 (pt 0 22),V 4 (bs a0.text)],[W 0 22 (AT a0)],1⟩ ?_)
 refine jK 2 (J8 a0.text) ?_
 intro x1 h1
 refine jG 3 3 ⟨[V 5 (bs x1),V 8 (bs a0.c.Ver)],[],1⟩ ?_
 refine jK 6 (J8 a0.c.Ver) ?_
 intro x2 h2
 refine jG 7 2 ⟨[V 2 (bv (x1 == x2))],[],1⟩ ?_
 exact jN (Ae (BO (bv (x1 == x2)))))
abbrev Yz:List LO:=[BT 2 39 0 0,Ag 4 4]
abbrev YI:List LO:=[lm 10 1 9,AN 11 31 #[AE 10] #[9] 35,lm 9 11 35,Aq 12 9 0 34,Aq 13 9 1 25,BH 5 34 0,BH 6 25 0,AO 34 5 12 0,AO 25 6 13 0]
abbrev Y0:List LO:=[AA 14 25 6 0 0,AF 15 23 14 23,BM 16 23 15 0 23 4,lm 17 16 4,Aa 18 39 2 39 17 false,A7 19 32 #[AE 18] #[39] 4 17 false,Ay 20 4 19 4 17 false,Ak 21 17 20 4]
abbrev Y1:List LO:=[Ag 4 4]
abbrev Y2:List LO:=[AA 23 39 2 1 0,AF 24 9 23 9,AN 25 31 #[AE 24] #[9] 35,lm 22 25 35,Aq 26 22 0 34,Aq 27 22 1 25,BH 7 34 0,BH 8 25 0,AO 34 7 26 0,AO 25 8 27 0]
abbrev Y3:List LO:=[AN 28 33 #[] #[] 64,AA 29 39 2 0 0,AF 30 9 29 9,lo 31 (.lookup 64 (AE 28) (AE 30) false) 63,AF 32 39 2 39,lm 33 1 9,AF 34 34 5 34,AF 35 34 7 34,lo 36 (.build 67 #[(0,AE 32),(1,AE 33),(2,AE 34),(3,AE 35)]) 67,lo 37 (.call ⟨.value (AE 31),#[AE 36],#[67]⟩) 4,AB 4 37 4]
abbrev dQ:LC:=.seq (.reg false Yz) (.seq (.reg false YI) (.seq (.seq (.reg false Y0) (.cond (AE 21) (.seq (.reg false Y1) .ret) .skip)) (.seq (.reg false Y2) (.seq (.reg true Y3) .ret))))
theorem dR:Bf E 12 38 [.tmp 4] dQ:=Bp Go.Proofs.Tryz.f12
noncomputable def Gr (a0:AK) (a1:Str):Option (Bool):=Option.bind (Gp a1) (fun x1=>Option.bind (if (x1.2.Err != 0)=true then some true else Option.bind (Je a0) (fun x4=>some (!x4)):Option (Bool)) (fun x3=>(if x3=true then some false else Option.bind (Gp a0.Ver) (fun x5=>Option.bind (LX) (fun x6=>(if (a0.Op == [61,61])=true then Option.bind (Dc (AZ.mk a0 a1 (Ac.mk x1.1.Epoch x1.1.Release x1.1.Pre x1.1.PreNum x1.1.Post x1.1.PostNum x1.1.Dev x1.1.DevNum x1.1.Local) (Ac.mk x5.1.Epoch x5.1.Release x5.1.Pre x5.1.PreNum x5.1.Post x5.1.PostNum x5.1.Dev x5.1.DevNum x5.1.Local))) (fun x14=>some x14) else (if (a0.Op == [33,61])=true then Option.bind (Hx (AZ.mk a0 a1 (Ac.mk x1.1.Epoch x1.1.Release x1.1.Pre x1.1.PreNum x1.1.Post x1.1.PostNum x1.1.Dev x1.1.DevNum x1.1.Local) (Ac.mk x5.1.Epoch x5.1.Release x5.1.Pre x5.1.PreNum x5.1.Post x5.1.PostNum x5.1.Dev x5.1.DevNum x5.1.Local))) (fun x13=>some x13) else (if (a0.Op == [126,61])=true then Option.bind (Hy (AZ.mk a0 a1 (Ac.mk x1.1.Epoch x1.1.Release x1.1.Pre x1.1.PreNum x1.1.Post x1.1.PostNum x1.1.Dev x1.1.DevNum x1.1.Local) (Ac.mk x5.1.Epoch x5.1.Release x5.1.Pre x5.1.PreNum x5.1.Post x5.1.PostNum x5.1.Dev x5.1.DevNum x5.1.Local))) (fun x12=>some x12) else (if (a0.Op == [60,61])=true then Option.bind (Hz (AZ.mk a0 a1 (Ac.mk x1.1.Epoch x1.1.Release x1.1.Pre x1.1.PreNum x1.1.Post x1.1.PostNum x1.1.Dev x1.1.DevNum x1.1.Local) (Ac.mk x5.1.Epoch x5.1.Release x5.1.Pre x5.1.PreNum x5.1.Post x5.1.PostNum x5.1.Dev x5.1.DevNum x5.1.Local))) (fun x11=>some x11) else (if (a0.Op == [62,61])=true then Option.bind (HI (AZ.mk a0 a1 (Ac.mk x1.1.Epoch x1.1.Release x1.1.Pre x1.1.PreNum x1.1.Post x1.1.PostNum x1.1.Dev x1.1.DevNum x1.1.Local) (Ac.mk x5.1.Epoch x5.1.Release x5.1.Pre x5.1.PreNum x5.1.Post x5.1.PostNum x5.1.Dev x5.1.DevNum x5.1.Local))) (fun x10=>some x10) else (if (a0.Op == [60])=true then Option.bind (H5 (AZ.mk a0 a1 (Ac.mk x1.1.Epoch x1.1.Release x1.1.Pre x1.1.PreNum x1.1.Post x1.1.PostNum x1.1.Dev x1.1.DevNum x1.1.Local) (Ac.mk x5.1.Epoch x5.1.Release x5.1.Pre x5.1.PreNum x5.1.Post x5.1.PostNum x5.1.Dev x5.1.DevNum x5.1.Local))) (fun x9=>some x9) else (if (a0.Op == [62])=true then Option.bind (H6 (AZ.mk a0 a1 (Ac.mk x1.1.Epoch x1.1.Release x1.1.Pre x1.1.PreNum x1.1.Post x1.1.PostNum x1.1.Dev x1.1.DevNum x1.1.Local) (Ac.mk x5.1.Epoch x5.1.Release x5.1.Pre x5.1.PreNum x5.1.Post x5.1.PostNum x5.1.Dev x5.1.DevNum x5.1.Local))) (fun x8=>some x8) else (if (a0.Op == [61,61,61])=true then Option.bind (H7 (AZ.mk a0 a1 (Ac.mk x1.1.Epoch x1.1.Release x1.1.Pre x1.1.PreNum x1.1.Post x1.1.PostNum x1.1.Dev x1.1.DevNum x1.1.Local) (Ac.mk x5.1.Epoch x5.1.Release x5.1.Pre x5.1.PreNum x5.1.Post x5.1.PostNum x5.1.Dev x5.1.DevNum x5.1.Local))) (fun x7=>some x7) else none)))))))))))))
theorem QT (a0:AK) (a1:Str):Ct E 12 [.agg [bs a0.Op,bs a0.Ver,bv a0.Star],bs a1] (Gr a0 a1) (fun r:Bool=>bv r):=CN dR (by
 unfold Gr
 refine jS ⟨[V 1 (bs a1),V 2 (pt 0 3)],[W 0 3 [bs a0.Op,bs a0.Ver,bv a0.Star]],1⟩ ?_
 refine jR (jG 0 1 ⟨[V 1 (bs a1),V 2 (pt 0 3),V 10 (bs a1)],[W 0 3 [bs a0.Op,bs a0.Ver,bv a0.Star]],1⟩ ?_)
 refine jK 1 (Hr a1) ?_
 intro x1 h1
 refine jG 2 7 ⟨[V 1 (bs a1),V 2 (pt 0 3),V 5 (pt 1 9),V 6 (pt 2 2)],[W 0 3 [bs a0.Op,bs a0.Ver,bv a0.Star],W 1 9 (AJ x1.1),W 2 2 [iv x1.2.Err,iv x1.2.At]],3⟩ ?_
 refine jN (Aj (jR (jG 0 4 ⟨[V 1 (bs a1),V 2 (pt 0 3),V 5 (pt 1 9),V 17 (bv (x1.2.Err != 0))],[W 0 3 [bs a0.Op,bs a0.Ver,bv a0.Star],W 1 9 (AJ x1.1)],3⟩ ?_)))
 refine A2 4 4 (fun x3=>⟨[V 1 (bs a1),V 2 (pt 0 3),V 5 (pt 1 9),V 21 (bv x3)],[W 0 3 [bs a0.Op,bs a0.Ver,bv a0.Star],W 1 9 (AJ x1.1)],2⟩) ?_ ?_
 ·refine jSp 17 ?_ ?_
  ·refine jG 0 4 ⟨[V 1 (bs a1),V 2 (pt 0 3),V 5 (pt 1 9),V 21 (bv true)],[W 0 3 [bs a0.Op,bs a0.Ver,bv a0.Star],W 1 9 (AJ x1.1)],3⟩ ?_
   exact Ad rfl (AU rfl (wkR [(0,some 0),(1,some 1)] (Am _) (pc (hC 0) (pc (hC 1) AD))))
  refine jG 0 1 ⟨[V 1 (bs a1),V 2 (pt 0 3),V 5 (pt 1 9),(17,.lit false),V 18 (.agg [bs a0.Op,bs a0.Ver,bv a0.Star])],[W 0 3 [bs a0.Op,bs a0.Ver,bv a0.Star],W 1 9 (AJ x1.1)],3⟩ ?_
  refine jK 1 (UC a0) ?_
  intro x4 h4
  refine jG 2 2 ⟨[V 1 (bs a1),V 2 (pt 0 3),V 5 (pt 1 9),V 21 (bv (!x4))],[W 0 3 [bs a0.Op,bs a0.Ver,bv a0.Star],W 1 9 (AJ x1.1)],3⟩ ?_
  exact Ad rfl (AU rfl (wkR [(0,some 0),(1,some 1)] (Am _) (pc (hC 0) (pc (hC 1) AD))))
 intro x3
 refine jN ?_
 refine jIf ?_ ?_
 ·refine jS ⟨[V 4 (bv false)],[],2⟩ ?_
  exact Ae (Ar (BO (bv false)))
 refine Ah (Ab (jR (jG 0 2 ⟨[V 1 (bs a1),V 2 (pt 0 3),V 5 (pt 1 9),V 24 (bs a0.Ver)],[W 0 3 [bs a0.Op,bs a0.Ver,bv a0.Star],W 1 9 (AJ x1.1)],2⟩ ?_)))
 refine jK 2 (Hr a0.Ver) ?_
 intro x5 h5
 refine jG 3 7 ⟨[V 1 (bs a1),V 2 (pt 0 3),V 5 (pt 1 9),V 7 (pt 2 9)],[W 0 3 [bs a0.Op,bs a0.Ver,bv a0.Star],W 1 9 (AJ x1.1),W 2 9 (AJ x5.1)],4⟩ ?_
 refine jN (jR ?_)
 refine jK 0 (ZQ) ?_
 intro x6 h6
 refine jG 1 2 ⟨[V 1 (bs a1),V 2 (pt 0 3),V 5 (pt 1 9),V 7 (pt 2 9),V 28 (.fmp [(.string ⟨#[61,61]⟩,.func (.func 57) #[] #[]),(.string ⟨#[33,61]⟩,.func (.func 58) #[] #[]),(.string ⟨#[126,61]⟩,.func (.func 59) #[] #[]),(.string ⟨#[60,61]⟩,.func (.func 62) #[] #[]),(.string ⟨#[62,61]⟩,.func (.func 63) #[] #[]),(.string ⟨#[60]⟩,.func (.func 64) #[] #[]),(.string ⟨#[62]⟩,.func (.func 67) #[] #[]),(.string ⟨#[61,61,61]⟩,.func (.func 68) #[] #[])]),V 30 (bs a0.Op)],[W 0 3 [bs a0.Op,bs a0.Ver,bv a0.Star],W 1 9 (AJ x1.1),W 2 9 (AJ x5.1)],4⟩ ?_
 refine YP (fun hk8=>?_) (fun _=>?_)
 ·refine GW (i:=3) (v:=.fn 57 []) (us:=[]) rfl rfl rfl rfl (GU (kt:=9) (et:=63) (es:=[(.string ⟨#[61,61]⟩,.func (.func 57) #[] #[]),(.string ⟨#[33,61]⟩,.func (.func 58) #[] #[]),(.string ⟨#[126,61]⟩,.func (.func 59) #[] #[]),(.string ⟨#[60,61]⟩,.func (.func 62) #[] #[]),(.string ⟨#[62,61]⟩,.func (.func 63) #[] #[]),(.string ⟨#[60]⟩,.func (.func 64) #[] #[]),(.string ⟨#[62]⟩,.func (.func 67) #[] #[]),(.string ⟨#[61,61,61]⟩,.func (.func 68) #[] #[])]) (kj:=[61,61]) hk8 (by kernel_rfl) (by kernel_rfl) (by kernel_rfl) (by kernel_rfl)) rfl ?_
  refine jG 4 5 ⟨[V 31 (.fn 57 []),V 36 (.agg (AT (AZ.mk a0 a1 x1.1 x5.1)))],[],4⟩ ?_
  refine B7 (i:=9) rfl rfl rfl rfl (g:=57) (caps:=[]) (avs:=[.agg (AT (AZ.mk a0 a1 x1.1 x5.1))]) (vs:=[.agg (AT (AZ.mk a0 a1 x1.1 x5.1))]) (by kernel_rfl) (by kernel_rfl) rfl (AR rfl (BL _)) (AL (AP _) Ax) (JG (AZ.mk a0 a1 x1.1 x5.1)) (fun _=>rfl) (fun _=>rfl) ?_
  intro x14 h14
  refine jG 10 1 ⟨[V 4 (bv x14)],[],4⟩ ?_
  exact jN (Ae (BO (bv x14)))
 refine YP (fun hk7=>?_) (fun _=>?_)
 ·refine GW (i:=3) (v:=.fn 58 []) (us:=[]) rfl rfl rfl rfl (GU (kt:=9) (et:=63) (es:=[(.string ⟨#[61,61]⟩,.func (.func 57) #[] #[]),(.string ⟨#[33,61]⟩,.func (.func 58) #[] #[]),(.string ⟨#[126,61]⟩,.func (.func 59) #[] #[]),(.string ⟨#[60,61]⟩,.func (.func 62) #[] #[]),(.string ⟨#[62,61]⟩,.func (.func 63) #[] #[]),(.string ⟨#[60]⟩,.func (.func 64) #[] #[]),(.string ⟨#[62]⟩,.func (.func 67) #[] #[]),(.string ⟨#[61,61,61]⟩,.func (.func 68) #[] #[])]) (kj:=[33,61]) hk7 (by kernel_rfl) (by kernel_rfl) (by kernel_rfl) (by kernel_rfl)) rfl ?_
  refine jG 4 5 ⟨[V 31 (.fn 58 []),V 36 (.agg (AT (AZ.mk a0 a1 x1.1 x5.1)))],[],4⟩ ?_
  refine B7 (i:=9) rfl rfl rfl rfl (g:=58) (caps:=[]) (avs:=[.agg (AT (AZ.mk a0 a1 x1.1 x5.1))]) (vs:=[.agg (AT (AZ.mk a0 a1 x1.1 x5.1))]) (by kernel_rfl) (by kernel_rfl) rfl (AR rfl (BL _)) (AL (AP _) Ax) (WC (AZ.mk a0 a1 x1.1 x5.1)) (fun _=>rfl) (fun _=>rfl) ?_
  intro x13 h13
  refine jG 10 1 ⟨[V 4 (bv x13)],[],4⟩ ?_
  exact jN (Ae (BO (bv x13)))
 refine YP (fun hk6=>?_) (fun _=>?_)
 ·refine GW (i:=3) (v:=.fn 59 []) (us:=[]) rfl rfl rfl rfl (GU (kt:=9) (et:=63) (es:=[(.string ⟨#[61,61]⟩,.func (.func 57) #[] #[]),(.string ⟨#[33,61]⟩,.func (.func 58) #[] #[]),(.string ⟨#[126,61]⟩,.func (.func 59) #[] #[]),(.string ⟨#[60,61]⟩,.func (.func 62) #[] #[]),(.string ⟨#[62,61]⟩,.func (.func 63) #[] #[]),(.string ⟨#[60]⟩,.func (.func 64) #[] #[]),(.string ⟨#[62]⟩,.func (.func 67) #[] #[]),(.string ⟨#[61,61,61]⟩,.func (.func 68) #[] #[])]) (kj:=[126,61]) hk6 (by kernel_rfl) (by kernel_rfl) (by kernel_rfl) (by kernel_rfl)) rfl ?_
  refine jG 4 5 ⟨[V 31 (.fn 59 []),V 36 (.agg (AT (AZ.mk a0 a1 x1.1 x5.1)))],[],4⟩ ?_
  refine B7 (i:=9) rfl rfl rfl rfl (g:=59) (caps:=[]) (avs:=[.agg (AT (AZ.mk a0 a1 x1.1 x5.1))]) (vs:=[.agg (AT (AZ.mk a0 a1 x1.1 x5.1))]) (by kernel_rfl) (by kernel_rfl) rfl (AR rfl (BL _)) (AL (AP _) Ax) (WF (AZ.mk a0 a1 x1.1 x5.1)) (fun _=>rfl) (fun _=>rfl) ?_
  intro x12 h12
  refine jG 10 1 ⟨[V 4 (bv x12)],[],4⟩ ?_
  exact jN (Ae (BO (bv x12)))
 refine YP (fun hk5=>?_) (fun _=>?_)
 ·refine GW (i:=3) (v:=.fn 62 []) (us:=[]) rfl rfl rfl rfl (GU (kt:=9) (et:=63) (es:=[(.string ⟨#[61,61]⟩,.func (.func 57) #[] #[]),(.string ⟨#[33,61]⟩,.func (.func 58) #[] #[]),(.string ⟨#[126,61]⟩,.func (.func 59) #[] #[]),(.string ⟨#[60,61]⟩,.func (.func 62) #[] #[]),(.string ⟨#[62,61]⟩,.func (.func 63) #[] #[]),(.string ⟨#[60]⟩,.func (.func 64) #[] #[]),(.string ⟨#[62]⟩,.func (.func 67) #[] #[]),(.string ⟨#[61,61,61]⟩,.func (.func 68) #[] #[])]) (kj:=[60,61]) hk5 (by kernel_rfl) (by kernel_rfl) (by kernel_rfl) (by kernel_rfl)) rfl ?_
  refine jG 4 5 ⟨[V 31 (.fn 62 []),V 36 (.agg (AT (AZ.mk a0 a1 x1.1 x5.1)))],[],4⟩ ?_
  refine B7 (i:=9) rfl rfl rfl rfl (g:=62) (caps:=[]) (avs:=[.agg (AT (AZ.mk a0 a1 x1.1 x5.1))]) (vs:=[.agg (AT (AZ.mk a0 a1 x1.1 x5.1))]) (by kernel_rfl) (by kernel_rfl) rfl (AR rfl (BL _)) (AL (AP _) Ax) (WJ (AZ.mk a0 a1 x1.1 x5.1)) (fun _=>rfl) (fun _=>rfl) ?_
  intro x11 h11
  refine jG 10 1 ⟨[V 4 (bv x11)],[],4⟩ ?_
  exact jN (Ae (BO (bv x11)))
 refine YP (fun hk4=>?_) (fun _=>?_)
 ·refine GW (i:=3) (v:=.fn 63 []) (us:=[]) rfl rfl rfl rfl (GU (kt:=9) (et:=63) (es:=[(.string ⟨#[61,61]⟩,.func (.func 57) #[] #[]),(.string ⟨#[33,61]⟩,.func (.func 58) #[] #[]),(.string ⟨#[126,61]⟩,.func (.func 59) #[] #[]),(.string ⟨#[60,61]⟩,.func (.func 62) #[] #[]),(.string ⟨#[62,61]⟩,.func (.func 63) #[] #[]),(.string ⟨#[60]⟩,.func (.func 64) #[] #[]),(.string ⟨#[62]⟩,.func (.func 67) #[] #[]),(.string ⟨#[61,61,61]⟩,.func (.func 68) #[] #[])]) (kj:=[62,61]) hk4 (by kernel_rfl) (by kernel_rfl) (by kernel_rfl) (by kernel_rfl)) rfl ?_
  refine jG 4 5 ⟨[V 31 (.fn 63 []),V 36 (.agg (AT (AZ.mk a0 a1 x1.1 x5.1)))],[],4⟩ ?_
  refine B7 (i:=9) rfl rfl rfl rfl (g:=63) (caps:=[]) (avs:=[.agg (AT (AZ.mk a0 a1 x1.1 x5.1))]) (vs:=[.agg (AT (AZ.mk a0 a1 x1.1 x5.1))]) (by kernel_rfl) (by kernel_rfl) rfl (AR rfl (BL _)) (AL (AP _) Ax) (WM (AZ.mk a0 a1 x1.1 x5.1)) (fun _=>rfl) (fun _=>rfl) ?_
  intro x10 h10
  refine jG 10 1 ⟨[V 4 (bv x10)],[],4⟩ ?_
  exact jN (Ae (BO (bv x10)))
 refine YP (fun hk3=>?_) (fun _=>?_)
 ·refine GW (i:=3) (v:=.fn 64 []) (us:=[]) rfl rfl rfl rfl (GU (kt:=9) (et:=63) (es:=[(.string ⟨#[61,61]⟩,.func (.func 57) #[] #[]),(.string ⟨#[33,61]⟩,.func (.func 58) #[] #[]),(.string ⟨#[126,61]⟩,.func (.func 59) #[] #[]),(.string ⟨#[60,61]⟩,.func (.func 62) #[] #[]),(.string ⟨#[62,61]⟩,.func (.func 63) #[] #[]),(.string ⟨#[60]⟩,.func (.func 64) #[] #[]),(.string ⟨#[62]⟩,.func (.func 67) #[] #[]),(.string ⟨#[61,61,61]⟩,.func (.func 68) #[] #[])]) (kj:=[60]) hk3 (by kernel_rfl) (by kernel_rfl) (by kernel_rfl) (by kernel_rfl)) rfl ?_
  refine jG 4 5 ⟨[V 31 (.fn 64 []),V 36 (.agg (AT (AZ.mk a0 a1 x1.1 x5.1)))],[],4⟩ ?_
  refine B7 (i:=9) rfl rfl rfl rfl (g:=64) (caps:=[]) (avs:=[.agg (AT (AZ.mk a0 a1 x1.1 x5.1))]) (vs:=[.agg (AT (AZ.mk a0 a1 x1.1 x5.1))]) (by kernel_rfl) (by kernel_rfl) rfl (AR rfl (BL _)) (AL (AP _) Ax) (WP (AZ.mk a0 a1 x1.1 x5.1)) (fun _=>rfl) (fun _=>rfl) ?_
  intro x9 h9
  refine jG 10 1 ⟨[V 4 (bv x9)],[],4⟩ ?_
  exact jN (Ae (BO (bv x9)))
 refine YP (fun hk2=>?_) (fun _=>?_)
 ·refine GW (i:=3) (v:=.fn 67 []) (us:=[]) rfl rfl rfl rfl (GU (kt:=9) (et:=63) (es:=[(.string ⟨#[61,61]⟩,.func (.func 57) #[] #[]),(.string ⟨#[33,61]⟩,.func (.func 58) #[] #[]),(.string ⟨#[126,61]⟩,.func (.func 59) #[] #[]),(.string ⟨#[60,61]⟩,.func (.func 62) #[] #[]),(.string ⟨#[62,61]⟩,.func (.func 63) #[] #[]),(.string ⟨#[60]⟩,.func (.func 64) #[] #[]),(.string ⟨#[62]⟩,.func (.func 67) #[] #[]),(.string ⟨#[61,61,61]⟩,.func (.func 68) #[] #[])]) (kj:=[62]) hk2 (by kernel_rfl) (by kernel_rfl) (by kernel_rfl) (by kernel_rfl)) rfl ?_
  refine jG 4 5 ⟨[V 31 (.fn 67 []),V 36 (.agg (AT (AZ.mk a0 a1 x1.1 x5.1)))],[],4⟩ ?_
  refine B7 (i:=9) rfl rfl rfl rfl (g:=67) (caps:=[]) (avs:=[.agg (AT (AZ.mk a0 a1 x1.1 x5.1))]) (vs:=[.agg (AT (AZ.mk a0 a1 x1.1 x5.1))]) (by kernel_rfl) (by kernel_rfl) rfl (AR rfl (BL _)) (AL (AP _) Ax) (WS (AZ.mk a0 a1 x1.1 x5.1)) (fun _=>rfl) (fun _=>rfl) ?_
  intro x8 h8
  refine jG 10 1 ⟨[V 4 (bv x8)],[],4⟩ ?_
  exact jN (Ae (BO (bv x8)))
 refine YP (fun hk1=>?_) (fun _=>?_)
 ·refine GW (i:=3) (v:=.fn 68 []) (us:=[]) rfl rfl rfl rfl (GU (kt:=9) (et:=63) (es:=[(.string ⟨#[61,61]⟩,.func (.func 57) #[] #[]),(.string ⟨#[33,61]⟩,.func (.func 58) #[] #[]),(.string ⟨#[126,61]⟩,.func (.func 59) #[] #[]),(.string ⟨#[60,61]⟩,.func (.func 62) #[] #[]),(.string ⟨#[62,61]⟩,.func (.func 63) #[] #[]),(.string ⟨#[60]⟩,.func (.func 64) #[] #[]),(.string ⟨#[62]⟩,.func (.func 67) #[] #[]),(.string ⟨#[61,61,61]⟩,.func (.func 68) #[] #[])]) (kj:=[61,61,61]) hk1 (by kernel_rfl) (by kernel_rfl) (by kernel_rfl) (by kernel_rfl)) rfl ?_
  refine jG 4 5 ⟨[V 31 (.fn 68 []),V 36 (.agg (AT (AZ.mk a0 a1 x1.1 x5.1)))],[],4⟩ ?_
  refine B7 (i:=9) rfl rfl rfl rfl (g:=68) (caps:=[]) (avs:=[.agg (AT (AZ.mk a0 a1 x1.1 x5.1))]) (vs:=[.agg (AT (AZ.mk a0 a1 x1.1 x5.1))]) (by kernel_rfl) (by kernel_rfl) rfl (AR rfl (BL _)) (AL (AP _) Ax) (WV (AZ.mk a0 a1 x1.1 x5.1)) (fun _=>rfl) (fun _=>rfl) ?_
  intro x7 h7
  refine jG 10 1 ⟨[V 4 (bv x7)],[],4⟩ ?_
  exact jN (Ae (BO (bv x7)))
 exact AEO)
abbrev jD:List LO:=[Ag 2 4]
abbrev jE:List LO:=[lm 7 0 22,Ai 8 #[AE 7] #[22] 3,CG 9 0 3]
abbrev jF:List LO:=[Al 10 3 9 8 3 0]
abbrev jH:List LO:=[A6 11 22 7 9 0,AF 12 39 11 39,BH 4 39 0,AO 39 4 12 0]
abbrev jJ:List LO:=[AA 13 39 4 0 0,AF 14 9 13 9]
abbrev jL:List LO:=[BK 16 9 14 #[33,61] 9 4,AB 15 16 4]
abbrev jM:List LO:=[BK 17 9 14 #[60] 9 4,AB 15 17 4]
abbrev jO:List LO:=[BK 18 9 14 #[62] 9 4,AB 15 18 4]
abbrev jP:List LO:=[BK 19 9 14 #[61,61,61] 9 4,AB 15 19 4]
abbrev dV:List LO:=[AA 21 39 4 1 0,AF 22 9 21 9,AN 23 31 #[AE 22] #[9] 35,lm 20 23 35,Aq 24 20 0 34,Aq 25 20 1 25,BH 5 34 0,BH 6 25 0,AO 34 5 24 0,AO 25 6 25 0]
abbrev dW:List LO:=[AA 26 39 4 2 0,AF 27 4 26 4,BR 28 4 27 4,lm 29 28 4,AM 30 25 6 0 0 29 true,Aa 31 23 30 23 29 true,lg 32 (.binOp .eql 23 (AE 31) (.const (.int .i64 0)) 23) 4 29 true,AS 33 29 32 4,lm 34 33 4,Aa 35 39 4 39 34 true,A7 36 32 #[AE 35] #[39] 4 34 true,AS 37 34 36 4,lm 38 37 4,Aa 39 34 5 34 38 true,A7 40 34 #[AE 39] #[34] 4 38 true,AS 41 38 40 4]
abbrev dX:List LO:=[Ed 2 4]
abbrev dY:List LO:=[Af 42 3 9 1 3 3,lm 9 42 3]
abbrev dZ:List LO:=[Ag 2 4]
abbrev qM:LC:=.seq (.reg false jD) (.seq (.seq (.reg false jE) (.block 0 (.loop (.seq (.reg false jF) (.seq (.cond (AE 10) .skip (.exit 0)) (.seq (.block 1 (.seq (.reg false jH) (.seq (.seq (.reg false jJ) (.block 2 (.seq (.seq (.reg false jL) (.cond (AE 15) .skip (.seq (.reg false jM) (.cond (AE 15) .skip (.seq (.reg false jO) (.cond (AE 15) .skip (.reg false jP))))))) (.cond (AE 15) (.exit 1) .skip)))) (.seq (.reg false dV) (.seq (.reg false dW) (.cond (AE 41) (.seq (.reg false dX) .ret) .skip)))))) (.reg false dY))))))) (.seq (.reg false dZ) .ret))
theorem qN:Bf E 35 43 [.tmp 2] qM:=Bp Go.Proofs.Tryz.f35
noncomputable def J4 (a0:(List AK)):Int→Option (Step (Int) ((Unit) ⊕ (Unit))):=fun x8=>(if (decide (x8 < (List.length a0:Int)))=true then Option.bind (Option.bind (ixl a0 x8) (fun x24=>Option.bind ((if (x24.Op == [33,61])=true then some true else (if (x24.Op == [60])=true then some true else (if (x24.Op == [62])=true then some true else some (x24.Op == [61,61,61])))):Option (Bool)) (fun x25=>(if x25=true then some (Sum.inl ()) else Option.bind (Gp x24.Ver) (fun x26=>Option.bind (if ((!x24.Star) && (x26.2.Err == 0))=true then Option.bind (Je x24) (fun x29=>some x29) else some false:Option (Bool)) (fun x28=>Option.bind (if x28=true then Option.bind (J3 (Ac.mk x26.1.Epoch x26.1.Release x26.1.Pre x26.1.PreNum x26.1.Post x26.1.PostNum x26.1.Dev x26.1.DevNum x26.1.Local)) (fun x32=>some x32) else some false:Option (Bool)) (fun x31=>(if x31=true then some (Sum.inr ()) else some (Sum.inl ())))))))):Option ((Unit) ⊕ (Unit))) (fun y=>match y with | Sum.inl _=>some (Step.next (w64 (x8 + 1))) | Sum.inr _=>some (Step.done (Sum.inl ()))) else some (Step.done (Sum.inr ())))
noncomputable def ME (a0:(List AK)):Option (Bool):=Option.bind (CD (J4 a0) 0) (fun y=>match y with | Sum.inl _=>some true | Sum.inr _=>some false)
theorem jC (a0:(List AK)):Ct E 35 [.fsl 3 (List.map AC a0)] (ME a0) (fun r:Bool=>bv r):=CN qN (by
 unfold ME
 refine jS ⟨[V 0 (.fsl 3 (List.map AC a0))],[],0⟩ ?_
 refine Aj (jR (jG 0 3 ⟨[V 7 (.fsl 3 (List.map AC a0)),V 8 (iv (List.length (List.map AC a0):Int)),V 9 (iv 0)],[],0⟩ ?_))
 simp only[List.length_map]
 refine jN (A4 ?_)
 refine BA (fun y=>match y with | Sum.inl _=>⟨[V 2 (bv true)],[],0⟩ | Sum.inr _=>⟨[],[],0⟩) (fun y=>match y with | Sum.inl _=>.ret | Sum.inr _=>(.exit 0)) (C5 (fun x8=>⟨[V 7 (.fsl 3 (List.map AC a0)),V 8 (iv (List.length a0:Int)),V 9 (iv x8)],[],0⟩) BV ?_) ?_
 ·intro x8
  unfold J4
  refine jS ⟨[V 7 (.fsl 3 (List.map AC a0)),V 8 (iv (List.length a0:Int)),V 9 (iv x8),V 10 (bv (decide (x8 < (List.length a0:Int))))],[],0⟩ ?_
  refine Aj ?_
  refine jIf ?_ ?_
  ·refine Ah (Ab (Aj ?_))
   refine BA (fun y=>match y with | Sum.inl _=>⟨[V 7 (.fsl 3 (List.map AC a0)),V 8 (iv (List.length a0:Int)),V 9 (iv x8)],[],0⟩ | Sum.inr _=>⟨[V 2 (bv true)],[],0⟩) (fun y=>match y with | Sum.inl _=>.normal | Sum.inr _=>.ret) ?_ ?_
   ·refine A4 (jR ?_)
    refine A5 (i:=0) (mo:=ixl a0 x8) rfl rfl rfl rfl (fun _ hc=>EV (c:=AC) (sz:=3) (e:=39) (kk:=.i64) (by kernel_rfl) (by kernel_rfl) (by kernel_rfl) (by kernel_rfl) hc) (fun _=>rfl) ?_
    intro x24 h24
    refine jG 1 3 ⟨[V 4 (pt 0 3),V 7 (.fsl 3 (List.map AC a0)),V 8 (iv (List.length a0:Int)),V 9 (iv x8)],[W 0 3 [bs x24.Op,bs x24.Ver,bv x24.Star]],1⟩ ?_
    refine jN (Aj (jS ⟨[V 4 (pt 0 3),V 7 (.fsl 3 (List.map AC a0)),V 8 (iv (List.length a0:Int)),V 9 (iv x8),V 14 (bs x24.Op)],[W 0 3 [bs x24.Op,bs x24.Ver,bv x24.Star]],1⟩ ?_))
    refine A4 (Aj ?_)
    refine BA (fun x25=>⟨[V 4 (pt 0 3),V 7 (.fsl 3 (List.map AC a0)),V 8 (iv (List.length a0:Int)),V 9 (iv x8),V 15 (bv x25)],[W 0 3 [bs x24.Op,bs x24.Ver,bv x24.Star]],1⟩) (fun x25=>.normal) ?_ ?_
    ·refine jS ⟨[V 4 (pt 0 3),V 7 (.fsl 3 (List.map AC a0)),V 8 (iv (List.length a0:Int)),V 9 (iv x8),V 14 (bs x24.Op),V 15 (bv (x24.Op == [33,61]))],[W 0 3 [bs x24.Op,bs x24.Ver,bv x24.Star]],1⟩ ?_
     refine jIf ?_ ?_
     ·exact Ah (AU rfl (wkR [(0,some 0)] (Am _) (pc (hC 0) AD)))
     refine jS ⟨[V 4 (pt 0 3),V 7 (.fsl 3 (List.map AC a0)),V 8 (iv (List.length a0:Int)),V 9 (iv x8),V 14 (bs x24.Op),V 15 (bv (x24.Op == [60]))],[W 0 3 [bs x24.Op,bs x24.Ver,bv x24.Star]],1⟩ ?_
     refine jIf ?_ ?_
     ·exact Ah (AU rfl (wkR [(0,some 0)] (Am _) (pc (hC 0) AD)))
     refine jS ⟨[V 4 (pt 0 3),V 7 (.fsl 3 (List.map AC a0)),V 8 (iv (List.length a0:Int)),V 9 (iv x8),V 14 (bs x24.Op),V 15 (bv (x24.Op == [62]))],[W 0 3 [bs x24.Op,bs x24.Ver,bv x24.Star]],1⟩ ?_
     refine jIf ?_ ?_
     ·exact Ah (AU rfl (wkR [(0,some 0)] (Am _) (pc (hC 0) AD)))
     refine jT ⟨[V 4 (pt 0 3),V 7 (.fsl 3 (List.map AC a0)),V 8 (iv (List.length a0:Int)),V 9 (iv x8),V 15 (bv (x24.Op == [61,61,61]))],[W 0 3 [bs x24.Op,bs x24.Ver,bv x24.Star]],1⟩ ?_
     exact AU rfl (wkR [(0,some 0)] (Am _) (pc (hC 0) AD))
    intro x25
    refine Ab ?_
    refine jIf ?_ ?_
    ·refine Cp ?_
     refine AAl rfl ?_
     exact Cq (C6 (AU rfl BV))
    refine Ah (BX (Ab (jR (jG 0 2 ⟨[V 4 (pt 0 3),V 7 (.fsl 3 (List.map AC a0)),V 8 (iv (List.length a0:Int)),V 9 (iv x8),V 22 (bs x24.Ver)],[W 0 3 [bs x24.Op,bs x24.Ver,bv x24.Star]],1⟩ ?_))))
    refine jK 2 (Hr x24.Ver) ?_
    intro x26 h26
    refine jG 3 7 ⟨[V 4 (pt 0 3),V 5 (pt 1 9),V 6 (pt 2 2),V 7 (.fsl 3 (List.map AC a0)),V 8 (iv (List.length a0:Int)),V 9 (iv x8)],[W 0 3 [bs x24.Op,bs x24.Ver,bv x24.Star],W 1 9 (AJ x26.1),W 2 2 [iv x26.2.Err,iv x26.2.At]],3⟩ ?_
    refine jN (jR (jG 0 9 ⟨[V 4 (pt 0 3),V 5 (pt 1 9),V 7 (.fsl 3 (List.map AC a0)),V 8 (iv (List.length a0:Int)),V 9 (iv x8),V 34 (bv ((!x24.Star) && (x26.2.Err == 0)))],[W 0 3 [bs x24.Op,bs x24.Ver,bv x24.Star],W 1 9 (AJ x26.1)],3⟩ ?_))
    refine A2 9 3 (fun x28=>⟨[V 5 (pt 0 9),V 7 (.fsl 3 (List.map AC a0)),V 8 (iv (List.length a0:Int)),V 9 (iv x8),V 37 (bv x28)],[W 0 9 (AJ x26.1)],1⟩) ?_ ?_
    ·refine jSp 34 ?_ ?_
     ·refine jG 0 1 ⟨[V 5 (pt 1 9),V 7 (.fsl 3 (List.map AC a0)),V 8 (iv (List.length a0:Int)),V 9 (iv x8),(34,.lit true),V 35 (.agg [bs x24.Op,bs x24.Ver,bv x24.Star])],[W 1 9 (AJ x26.1)],3⟩ ?_
      refine jK 1 (UC x24) ?_
      intro x29 h29
      refine jG 2 1 ⟨[V 5 (pt 1 9),V 7 (.fsl 3 (List.map AC a0)),V 8 (iv (List.length a0:Int)),V 9 (iv x8),V 37 (bv x29)],[W 1 9 (AJ x26.1)],3⟩ ?_
      exact Ad rfl (AU rfl (wkR [(0,some 1)] (Am _) (pc (hC 1) AD)))
     refine jG 0 3 ⟨[V 5 (pt 1 9),V 7 (.fsl 3 (List.map AC a0)),V 8 (iv (List.length a0:Int)),V 9 (iv x8),V 37 (bv false)],[W 1 9 (AJ x26.1)],3⟩ ?_
     exact Ad rfl (AU rfl (wkR [(0,some 1)] (Am _) (pc (hC 1) AD)))
    intro x28
    refine jG 12 1 ⟨[V 5 (pt 0 9),V 7 (.fsl 3 (List.map AC a0)),V 8 (iv (List.length a0:Int)),V 9 (iv x8),V 38 (bv x28)],[W 0 9 (AJ x26.1)],1⟩ ?_
    refine A2 13 3 (fun x31=>⟨[V 7 (.fsl 3 (List.map AC a0)),V 8 (iv (List.length a0:Int)),V 9 (iv x8),V 41 (bv x31)],[],0⟩) ?_ ?_
    ·refine jSp 38 ?_ ?_
     ·refine jG 0 1 ⟨[V 7 (.fsl 3 (List.map AC a0)),V 8 (iv (List.length a0:Int)),V 9 (iv x8),(38,.lit true),V 39 (.agg (AJ x26.1))],[],1⟩ ?_
      refine jK 1 (PM x26.1) ?_
      intro x32 h32
      refine jG 2 1 ⟨[V 7 (.fsl 3 (List.map AC a0)),V 8 (iv (List.length a0:Int)),V 9 (iv x8),V 41 (bv x32)],[],1⟩ ?_
      exact Ad rfl (AU rfl BV)
     refine jG 0 3 ⟨[V 7 (.fsl 3 (List.map AC a0)),V 8 (iv (List.length a0:Int)),V 9 (iv x8),V 41 (bv false)],[],1⟩ ?_
     exact Ad rfl (AU rfl BV)
    intro x31
    refine jN ?_
    refine jIf ?_ ?_
    ·refine jS ⟨[V 2 (bv true)],[],0⟩ ?_
     exact Ae (BG (AU rfl BV))
    exact Ah (BX (AU rfl BV))
   rintro (_ | _)
   ·refine Ab (jT ⟨[V 7 (.fsl 3 (List.map AC a0)),V 8 (iv (List.length a0:Int)),V 9 (iv (w64 (x8 + 1)))],[],0⟩ ?_)
    exact C7 BV
   exact Ar (Bm rfl nofun BV)
  exact Cp (Cq (Bm rfl nofun BV))
 rintro (_ | _)
 ·exact BG (Ar (BO (bv true)))
 refine C6 (Ab (jS ⟨[V 2 (bv false)],[],0⟩ ?_))
 exact Ae (BO (bv false)))
abbrev Y4:List LO:=[Ag 4 4]
abbrev Y5:List LO:=[lm 13 0 9,AN 14 6 #[AE 13] #[9] 26,lm 12 14 26,Aq 15 12 0 22,Aq 16 12 1 25,BH 6 25 0,AB 5 15 22,AO 25 6 16 0]
abbrev Y6:List LO:=[lm 18 1 9,AN 19 31 #[AE 18] #[9] 35,lm 17 19 35,Aq 20 17 0 34,Aq 21 17 1 25,BH 7 34 0,BH 8 25 0,AO 34 7 20 0,AO 25 8 21 0]
abbrev Y7:List LO:=[AA 22 25 6 0 0,AF 23 23 22 23,BM 24 23 23 0 23 4,lm 25 24 4,AM 26 25 8 0 0 25 false,Aa 27 23 26 23 25 false,lg 28 (.binOp .neq 23 (AE 27) (.const (.int .i64 0)) 23) 4 25 false,Ak 29 25 28 4]
abbrev Y8:List LO:=[Ag 4 4]
abbrev Y9:List LO:=[Ed 9 4]
abbrev ZA:List LO:=[lm 30 5 22,Ai 31 #[AE 30] #[22] 3,CG 32 0 3]
abbrev ZB:List LO:=[Al 33 3 32 31 3 0]
abbrev ZC:List LO:=[A6 34 22 30 32 0,AF 35 39 34 39,BH 11 39 0,AO 39 11 35 0]
abbrev XZ:List LO:=[AF 36 39 11 39,lm 37 1 9,AN 38 12 #[AE 36,AE 37] #[39,9] 4,BR 39 4 38 4]
abbrev Xa:List LO:=[Ag 9 4]
abbrev Xb:List LO:=[Af 40 3 32 1 3 3,lm 32 40 3]
abbrev Xc:List LO:=[lm 41 9 4,lm 42 41 4,Aa 43 34 7 34 42 true,A7 44 34 #[AE 43] #[34] 4 42 true,Ay 45 4 44 4 42 true,lmg 46 45 4 42 true,lmg 47 5 22 46 false,A7 48 35 #[AE 47] #[22] 4 46 false,FR 49 46 48 4 42 true,AS 50 42 49 4,AB 4 50 4]
abbrev dS:LC:=.seq (.reg false Y4) (.scope (.seq (.reg false Y5) (.seq (.reg false Y6) (.seq (.seq (.reg false Y7) (.cond (AE 29) (.seq (.reg false Y8) .ret) .skip)) (.seq (.reg false Y9) (.seq .label (.seq (.seq (.reg false ZA) (.block 0 (.loop (.seq (.reg false ZB) (.seq (.cond (AE 33) .skip (.exit 0)) (.seq (.block 1 (.seq (.reg false ZC) (.seq (.reg false XZ) (.cond (AE 39) (.seq (.reg false Xa) (.exit 0)) .skip)))) (.reg false Xb))))))) (.seq (.reg false Xc) .ret))))))))
theorem dT:Bf E 16 51 [.tmp 4] dS:=Bp Go.Proofs.Tryz.f16
noncomputable def FU (a1:Str) (x1:List AK):Int→Option (Step (Int) (Bool)):=fun x7=>(if (decide (x7 < (List.length x1:Int)))=true then Option.bind (ixl x1 x7) (fun x12=>Option.bind (Gr x12 a1) (fun x13=>(if (!x13)=true then some (Step.done false) else some (Step.next (w64 (x7 + 1)))))) else some (Step.done true))
noncomputable def CM (a0:Str) (a1:Str):Option (Bool):=Option.bind (D2 a0) (fun (x1,x2,x3)=>Option.bind (Gp a1) (fun x4=>(if ((x2 != 0) || (x4.2.Err != 0))=true then some false else Option.bind (CD (FU a1 x1) 0) (fun x11=>Option.bind (if x11=true then Option.bind (J3 (Ac.mk x4.1.Epoch x4.1.Release x4.1.Pre x4.1.PreNum x4.1.Post x4.1.PostNum x4.1.Dev x4.1.DevNum x4.1.Local)) (fun x18=>Option.bind (if (!x18)=true then some true else Option.bind (ME x1) (fun x21=>some x21):Option (Bool)) (fun x20=>some (true && x20))) else some false:Option (Bool)) (fun x17=>some x17)))))
theorem CP (a0:Str) (a1:Str):Ct E 16 [bs a0,bs a1] (CM a0 a1) (fun r:Bool=>bv r):=CN dT (by
 unfold CM
 refine jS ⟨[V 0 (bs a0),V 1 (bs a1)],[],0⟩ ?_
 refine AC6 ?_
 refine jR (jG 0 1 ⟨[V 1 (bs a1),V 13 (bs a0)],[],0⟩ ?_)
 refine BC 1 [] [(0,some 0)] (fun r:List AK × Int × Int=>[(0,.rows 3 (List.map AC r.1))]) (fun r:List AK × Int × Int=>.tup [.osl 0 0 (List.length r.1) 3,.agg [iv r.2.1,iv r.2.2]]) 2 (FV a0) AD (fun r=>(pc (.inr (hL 0 (AY A3 _))) AD)) ?_
 rintro⟨x1,x2,x3⟩ hm1
 refine jG 2 6 ⟨[V 1 (bs a1),V 5 (.osl 0 0 (List.length x1) 3),V 6 (pt 2 2)],[(0,.rows 3 (List.map AC x1)),W 2 2 [iv x2,iv x3]],3⟩ ?_
 refine jN (jR (jG 0 1 ⟨[V 1 (bs a1),V 5 (.osl 0 0 (List.length x1) 3),V 6 (pt 2 2),V 18 (bs a1)],[(0,.rows 3 (List.map AC x1)),W 2 2 [iv x2,iv x3]],3⟩ ?_))
 refine jK 1 (Hr a1) ?_
 intro x4 h4
 refine jG 2 7 ⟨[V 1 (bs a1),V 5 (.osl 0 0 (List.length x1) 3),V 6 (pt 2 2),V 7 (pt 3 9),V 8 (pt 4 2)],[(0,.rows 3 (List.map AC x1)),W 2 2 [iv x2,iv x3],W 3 9 (AJ x4.1),W 4 2 [iv x4.2.Err,iv x4.2.At]],5⟩ ?_
 refine jN (Aj (jS ⟨[V 1 (bs a1),V 5 (.osl 0 0 (List.length x1) 3),V 7 (pt 3 9),V 29 (bv ((x2 != 0) || (x4.2.Err != 0)))],[(0,.rows 3 (List.map AC x1)),W 3 9 (AJ x4.1)],5⟩ ?_))
 refine jIf ?_ ?_
 ·refine jS ⟨[V 4 (bv false)],[],5⟩ ?_
  refine Ae (Ar ?_)
  refine mE ?_
  exact BO (bv false)
 refine Ah (Ab (jS ⟨[V 1 (bs a1),V 5 (.osl 0 0 (List.length x1) 3),V 7 (pt 3 9),V 9 (bv true)],[(0,.rows 3 (List.map AC x1)),W 3 9 (AJ x4.1)],5⟩ ?_))
 refine Aj ?_
 refine AC4 ?_
 refine Ab (Aj (jS ⟨[V 1 (bs a1),V 5 (.osl 0 0 (List.length x1) 3),V 7 (pt 3 9),V 9 (bv true),V 30 (.osl 0 0 (List.length x1) 3),V 31 (iv (List.length x1:Int)),V 32 (iv 0)],[(0,.rows 3 (List.map AC x1)),W 3 9 (AJ x4.1)],5⟩ ?_))
 refine A4 ?_
 refine BA (fun x11=>⟨[V 5 (.osl 0 0 (List.length x1) 3),V 7 (pt 1 9),V 9 (bv x11)],[(0,.rows 3 (List.map AC x1)),W 1 9 (AJ x4.1)],2⟩) (fun x11=>(.exit 0)) (C5 (fun x7=>⟨[V 1 (bs a1),V 5 (.osl 0 0 (List.length x1) 3),V 7 (pt 1 9),V 9 (bv true),V 30 (.osl 0 0 (List.length x1) 3),V 31 (iv (List.length x1:Int)),V 32 (iv x7)],[(0,.rows 3 (List.map AC x1)),W 1 9 (AJ x4.1)],2⟩) (wkR [(0,some 0),(1,some 3)] (Am _) (pc (hL 0 (AY A3 _)) (pc (hC 3) AD))) ?_) ?_
 ·intro x7
  unfold FU
  refine jS ⟨[V 1 (bs a1),V 5 (.osl 0 0 (List.length x1) 3),V 7 (pt 1 9),V 9 (bv true),V 30 (.osl 0 0 (List.length x1) 3),V 31 (iv (List.length x1:Int)),V 32 (iv x7),V 33 (bv (decide (x7 < (List.length x1:Int))))],[(0,.rows 3 (List.map AC x1)),W 1 9 (AJ x4.1)],2⟩ ?_
  refine Aj ?_
  refine jIf ?_ ?_
  ·refine Ah (Ab (Aj (A4 (jR ?_))))
   refine A5 (i:=0) (mo:=ixl x1 x7) rfl rfl rfl rfl (fun _ hc=>Ns (sz:=3) (e:=39) (kk:=.i64) (id:=0) (by kernel_rfl) (by kernel_rfl) (by kernel_rfl) (by kernel_rfl) hc) (fun _=>rfl) ?_
   intro x12 h12
   refine GW (i:=1) (v:=.agg [bs x12.Op,bs x12.Ver,bv x12.Star]) rfl rfl rfl rfl (aJ (l:=x1) (c:=AC) (id:=0) (k:=(Int.toNat x7)) (sz:=3) (off:=0) (a:=x12) (by kernel_rfl) (by kernel_rfl) (Rb h12).2.2 (by kernel_rfl)) rfl ?_
   refine jG 2 2 ⟨[V 1 (bs a1),V 5 (.osl 0 0 (List.length x1) 3),V 7 (pt 1 9),V 9 (bv true),V 11 (pt 2 3),V 30 (.osl 0 0 (List.length x1) 3),V 31 (iv (List.length x1:Int)),V 32 (iv x7)],[(0,.rows 3 (List.map AC x1)),W 1 9 (AJ x4.1),W 2 3 [bs x12.Op,bs x12.Ver,bv x12.Star]],3⟩ ?_
   refine jN (jR (jG 0 2 ⟨[V 1 (bs a1),V 5 (.osl 0 0 (List.length x1) 3),V 7 (pt 1 9),V 9 (bv true),V 30 (.osl 0 0 (List.length x1) 3),V 31 (iv (List.length x1:Int)),V 32 (iv x7),V 36 (.agg [bs x12.Op,bs x12.Ver,bv x12.Star]),V 37 (bs a1)],[(0,.rows 3 (List.map AC x1)),W 1 9 (AJ x4.1)],3⟩ ?_))
   refine jK 2 (QT x12 a1) ?_
   intro x13 h13
   refine jG 3 1 ⟨[V 1 (bs a1),V 5 (.osl 0 0 (List.length x1) 3),V 7 (pt 1 9),V 9 (bv true),V 30 (.osl 0 0 (List.length x1) 3),V 31 (iv (List.length x1:Int)),V 32 (iv x7),V 39 (bv (!x13))],[(0,.rows 3 (List.map AC x1)),W 1 9 (AJ x4.1)],3⟩ ?_
   refine jN ?_
   refine jIf ?_ ?_
   ·refine jS ⟨[V 5 (.osl 0 0 (List.length x1) 3),V 7 (pt 1 9),V 9 (bv false)],[(0,.rows 3 (List.map AC x1)),W 1 9 (AJ x4.1)],3⟩ ?_
    refine Cp ?_
    refine AAl rfl ?_
    exact Cq (Bm rfl nofun (wkR [(0,some 0),(1,some 1)] (Am _) (pc (hL 0 (AY A3 _)) (pc (hC 1) AD))))
   refine Ah (BX (Ab (jT ⟨[V 1 (bs a1),V 5 (.osl 0 0 (List.length x1) 3),V 7 (pt 1 9),V 9 (bv true),V 30 (.osl 0 0 (List.length x1) 3),V 31 (iv (List.length x1:Int)),V 32 (iv (w64 (x7 + 1)))],[(0,.rows 3 (List.map AC x1)),W 1 9 (AJ x4.1)],3⟩ ?_)))
   exact C7 (wkR [(0,some 0),(1,some 1)] (Am _) (pc (hL 0 (AY A3 _)) (pc (hC 1) AD)))
  exact Cp (Cq (Bm rfl nofun (wkR [(0,some 0),(1,some 1)] (Am _) (pc (hL 0 (AY A3 _)) (pc (hC 1) AD)))))
 intro x11
 refine C6 (Ab (jR (jG 0 2 ⟨[V 5 (.osl 0 0 (List.length x1) 3),V 7 (pt 1 9),V 42 (bv x11)],[(0,.rows 3 (List.map AC x1)),W 1 9 (AJ x4.1)],2⟩ ?_)))
 refine A2 2 8 (fun x17=>⟨[V 50 (bv x17)],[],0⟩) ?_ ?_
 ·refine jSp 42 ?_ ?_
  ·refine jG 0 1 ⟨[V 5 (.osl 0 0 (List.length x1) 3),(42,.lit true),V 43 (.agg (AJ x4.1))],[(0,.rows 3 (List.map AC x1))],2⟩ ?_
   refine jK 1 (PM x4.1) ?_
   intro x18 h18
   refine jG 2 2 ⟨[V 5 (.osl 0 0 (List.length x1) 3),(42,.lit true),V 46 (bv (!x18))],[(0,.rows 3 (List.map AC x1))],2⟩ ?_
   refine A2 4 3 (fun x20=>⟨[V 42 (bv true),V 49 (bv x20)],[],0⟩) ?_ ?_
   ·refine jSp 46 ?_ ?_
    ·refine jG 0 3 ⟨[(42,.lit true),V 49 (bv true)],[],2⟩ ?_
     exact Ad rfl (AU rfl BV)
    refine jG 0 1 ⟨[(42,.lit true),(46,.lit false),V 47 (.osl 0 0 (List.length x1) 3)],[(0,.rows 3 (List.map AC x1))],2⟩ ?_
    refine By (i:=1) rfl rfl rfl rfl (vs:=[.osl 0 0 (List.length x1) 3]) (by kernel_rfl) (AR (EI Mq (by kernel_rfl)) (BL _)) (AL (AP _) Ax) (jC x1) (fun _=>rfl) (fun _=>rfl) ?_
    intro x21 h21
    refine jG 2 1 ⟨[(42,.lit true),V 49 (bv x21)],[],2⟩ ?_
    exact Ad rfl (AU rfl BV)
   intro x20
   refine jG 7 1 ⟨[V 50 (bv (true && x20))],[],0⟩ ?_
   exact Ad rfl (AU rfl BV)
  refine jG 0 8 ⟨[V 50 (bv false)],[],2⟩ ?_
  exact Ad rfl (AU rfl BV)
 intro x17
 refine jG 10 1 ⟨[V 4 (bv x17)],[],0⟩ ?_
 refine jN (Ae ?_)
 refine mE ?_
 exact BO (bv x17))
end Go.Vm

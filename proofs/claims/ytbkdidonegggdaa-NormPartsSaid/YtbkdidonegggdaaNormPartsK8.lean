/-
  Texts of a proof, part 8: an ideal semantics of the program, its functions in shallow form, contracts of them. No statement of the seat is proved here.
-/
import Derived.Test.YtbkdidonegggdaaNormPartsK7
set_option linter.all false
noncomputable section
set_option maxRecDepth 100000
set_option linter.unusedVariables false
namespace Go.Proofs.Ytbkdidonegggdaa
namespace Idl
noncomputable section
abbrev OH:=Option (IV×Hp)
abbrev AH:=List Ref
abbrev iq (n:Int):IV:=.fv (.int .i64 n)
def SB (x133:IV) (h173:Hp) (x172 x134:IV) (h4:Hp) (x131 x132:IV) (q128:List IV→Hp→OH):OH :=
 Ac 2 x133 fun x176=>Bj x176 x172 h173 fun h177 _ _=>BF EE 3 x134 (.fv (.int .i64 1)) fun x180=>Bt (h4.own.map (·.1)) [10499081,10502148] [x131,x132,x133,x180] h177 fun h181=>q128 [x131,x132,x133,x180] h181
def Sc (x133:IV) (h160:Hp) (x152 x134:IV) (h4:Hp) (x131 x132:IV) (q128:List IV→Hp→OH):OH :=
 Ac 2 x133 fun x163=>Af x163 h160 fun x164 _=>Ai 3 x152 h160 fun x166 _=>Ax (Ah EE 29 1 [(0,x166)]) 10502147 h160 fun x168 h169 _ _=>Ax (AT EE 10502148 false .append [29,29] [x164,x168]) 10502148 h169 fun x172 h173 _ _=>SB x133 h173 x172 x134 h4 x131 x132 q128
def PI (x146:IV) (h147:Hp) (x150:IV) (ih:Aa) (x133 x134:IV) (h4:Hp) (x131 x132:IV) (q128:List IV→Hp→OH):OH :=
 AK 1 x146 fun x151=>AJ 10499081 (.row [.fv (.int .i64 0),.fv (.int .i64 0),.nils] false) (.ptr (.own 10499081) 0) h147 fun x152 h153 _ _=>Ak 3 x152 x150 h153 fun h156 _ _=>Aj [] false false ih 19 [x151] h156 fun x159 h160 _ _=>Al x159 (Ao [.fv (.bool true)] h160) (Sc x133 h160 x152 x134 h4 x131 x132 q128)
def R7 (h130:Hp) (x140 x134:IV) (ih:Aa) (x133:IV) (h4:Hp) (x131 x132:IV) (q128:List IV→Hp→OH):OH :=
 Af x140 h130 fun x141 _=>Bf 3 x141 x134 fun x143=>Ai 3 x143 h130 fun x144 _=>Aj [] false false ih 18 [x144] h130 fun x146 h147 _ _=>AK 0 x146 fun x150=>PI x146 h147 x150 ih x133 x134 h4 x131 x132 q128
def Si (ih:Aa) (h216:Hp) (x220 x222:IV):OH :=
 Aj [] false false ih 37 [x220,x222] h216 fun x224 h225 _ _=>Ao [x224] h225
def QO (x219:IV) (h216:Hp) (x133 x132:IV) (ih:Aa):OH :=
 Al x219 (Ao [.fv (.bool true)] h216) (Ai 3 x133 h216 fun x220 _=>Ai 3 x132 h216 fun x222 _=>Si ih h216 x220 x222)
def R8 (ih:Aa) (h194:Hp) (x189 x133 x132:IV):OH :=
 Aj [] false false ih 19 [x189] h194 fun x197 h198 _ _=>Ab x197 false h198 (fun k201=>Ai 3 x133 h198 fun x202 r203=>k201 x202 h198 r203 []) fun x204 h205 _ _=>Ab x197 false h205 (fun k208=>Aj [] false false ih 22 [x204] h205 k208) fun x209 h210 _ _=>Ab x197 false h210 (fun k213=>IH EE 3 x209 (.fv (.int .i64 0)) fun x214=>k213 x214 h210 [] []) fun x215 h216 _ _=>AF x197 (.fv (.bool true)) x215 fun x219=>QO x219 h216 x133 x132 ih
def Qt (ih:Aa) (h130:Hp) (x182 x133 x132:IV):OH :=
 Aj [] false false ih 18 [x182] h130 fun x184 h185 _ _=>AK 0 x184 fun x188=>AK 1 x184 fun x189=>AJ 10503173 (.row [.fv (.int .i64 0),.fv (.int .i64 0),.nils] false) (.ptr (.own 10503173) 0) h185 fun x190 h191 _ _=>Ak 3 x190 x188 h191 fun h194 _ _=>R8 ih h194 x189 x133 x132
def QL (h130:Hp) (x135 x134 x131:IV) (ih:Aa) (x133:IV) (h4:Hp) (x132:IV) (q128:List IV→Hp→OH):OH :=
 Af x135 h130 fun x136 _=>Ca x136 fun x138=>Hg EE 3 x134 x138 fun x139=>Al x139 (Ac 2 x131 fun x140=>R7 h130 x140 x134 ih x133 h4 x131 x132 q128) (Ai 3 x133 h130 fun x182 _=>Qt ih h130 x182 x133 x132)
def Zg (l129:List IV) (h130:Hp) (ih:Aa) (h4:Hp) (q128:List IV→Hp→OH):OH :=
 AA l129 fun x131 l228=>AA l228 fun x132 l229=>AA l229 fun x133 l230=>AA l230 fun x134 _=>Ac 2 x131 fun x135=>QL h130 x135 x134 x131 ih x133 h4 x132 q128
def RS (h4 h125:Hp) (x77 x95 x121:IV) (n:Nat) (ih:Aa):OH :=
 Bt (h4.own.map (·.1)) [10499081,10502148] [x77,x95,x121,.fv (.int .i64 0)] h125 fun h232=>BD n (fun q128 l129 h130=>Zg l129 h130 ih h4 q128) [x77,x95,x121,.fv (.int .i64 0)] h232
def RQ (x77:IV) (h110:Hp) (x115:IV) (h4:Hp) (x95:IV) (n:Nat) (ih:Aa):OH :=
 Ac 1 x77 fun x117=>Af x117 h110 fun x118 _=>Bv [.fv (.int .i64 0),.fv (.int .i64 0),.nils] [(0,1,x115),(1,1,x118)] fun x120=>AJ 10494981 (.row [.fv (.int .i64 0),.fv (.int .i64 0),.nils] false) (.ptr (.own 10494981) 0) h110 fun x121 h122 _ _=>Ak 3 x121 x120 h122 fun h125 _ _=>RS h4 h125 x77 x95 x121 n ih
def Qe (x102 x109:IV) (h110:Hp) (x77:IV) (h4:Hp) (x95:IV) (n:Nat) (ih:Aa):OH :=
 AF x102 (.fv (.bool true)) x109 fun x113=>Al x113 (Ao [.fv (.bool true)] h110) (Ac 0 x77 fun x114=>Af x114 h110 fun x115 _=>RQ x77 h110 x115 h4 x95 n ih)
def Q8 (h90:Hp) (x93 x72 x94:IV) (ih:Aa) (x77:IV) (h4:Hp) (n:Nat):OH :=
 AJ 10491909 (.row [.fv (.int .i64 0),.fv (.int .i64 0),.nils] false) (.ptr (.own 10491909) 0) h90 fun x95 h96 _ _=>Ak 3 x95 x93 h96 fun h99 _ _=>CC (KS .not x72) fun x102=>Ab x102 false h99 (fun k103=>k103 x94 h99 [] []) fun x104 h105 _ _=>Ab x102 false h105 (fun k108=>Aj [] false false ih 19 [x104] h105 k108) fun x109 h110 _ _=>Qe x102 x109 h110 x77 h4 x95 n ih
def Ra (h81:Hp) (x77 x71:IV) (ih:Aa) (x72:IV) (h4:Hp) (n:Nat):OH :=
 Ak 3 x77 x71 h81 fun h84 _ _=>Ai 3 x77 h84 fun x87 _=>Aj [] false false ih 18 [x87] h84 fun x89 h90 _ _=>AK 0 x89 fun x93=>AK 1 x89 fun x94=>Q8 h90 x93 x72 x94 ih x77 h4 n
def P1 (x65:IV) (h66:Hp) (x70:IV) (ih:Aa) (h4:Hp) (n:Nat):OH :=
 AK 2 x65 fun x71=>AK 3 x65 fun x72=>AJ 10490890 (.row [.fv (.int .i64 0),.fv (.int .i64 0),.nils] false) (.ptr (.own 10490890) 0) h66 fun x73 h74 _ _=>AJ 10490891 (.row [.fv (.int .i64 0),.fv (.int .i64 0),.nils] false) (.ptr (.own 10490891) 0) h74 fun x77 h78 _ _=>Ak 3 x73 x70 h78 fun h81 _ _=>Ra h81 x77 x71 ih x72 h4 n
def PN (h57:Hp) (x5 x9:IV) (ih:Aa) (x0 x3:IV) (h4:Hp) (n:Nat):OH :=
 Ai 3 x5 h57 fun x61 _=>Ai 3 x9 h57 fun x63 _=>Aj [] false false ih 17 [x0,x61,x63,x3] h57 fun x65 h66 _ _=>AK 0 x65 fun _=>AK 1 x65 fun x70=>P1 x65 h66 x70 ih h4 n
def Q5 (h38:Hp) (x41 x9:IV) (ih:Aa) (x5 x0 x3:IV) (h4:Hp) (n:Nat):OH :=
 Ab x41 false h38 (fun k42=>Ai 3 x9 h38 fun x43 r44=>k42 x43 h38 r44 []) fun x45 h46 _ _=>Ab x41 false h46 (fun k49=>Aj [] false false ih 16 [x45] h46 k49) fun x50 h51 _ _=>Ab x41 false h51 (fun k54=>CC (KS .not x50) fun x55=>k54 x55 h51 [] []) fun x56 h57 _ _=>AF x41 (.fv (.bool true)) x56 fun x60=>Al x60 (Ao [.fv (.bool true)] h57) (PN h57 x5 x9 ih x0 x3 h4 n)
def PX (x18:IV) (h19:Hp) (x5:IV) (ih:Aa) (x9 x0 x3:IV) (h4:Hp) (n:Nat):OH :=
 CC (KS .not x18) fun x22=>Ab x22 false h19 (fun k23=>Ai 3 x5 h19 fun x24 r25=>k23 x24 h19 r25 []) fun x26 h27 _ _=>Ab x22 false h27 (fun k30=>Aj [] false false ih 16 [x26] h27 k30) fun x31 h32 _ _=>Ab x22 false h32 (fun k35=>CC (KS .not x31) fun x36=>k35 x36 h32 [] []) fun x37 h38 _ _=>AF x22 (.fv (.bool true)) x37 fun x41=>Q5 h38 x41 x9 ih x5 x0 x3 h4 n
def S10 (ih:Aa) (n:Nat) (x0 x1 x2 x3:IV) (h4:Hp):OH :=
 Bg 10485760 x1 h4 fun x5 h6 _ _=>Bg 10485761 x2 h6 fun x9 h10 _ _=>Aj [] false false ih 14 [] h10 fun x13 h14 _ _=>CC (KS .not x13) fun x17=>Al x17 (Ao [.fv (.bool false)] h14) (Aj [] false false ih 15 [x0] h14 fun x18 h19 _ _=>PX x18 h19 x5 ih x9 x0 x3 h4 n)
theorem Akk (ih:Aa) (n:Nat) (x0 x1 x2 x3:IV) (h4:Hp):AE EE ih ft.get n 10 [x0,x1,x2,x3] h4=S10 ih n x0 x1 x2 x3 h4:=by kernel_rfl
def AiW (x362 x381:IV) (h382:Hp):OH :=
 AF x362 x381 (.fv (.bool false)) fun x385=>Ao [x385] h382
def AhS (h354:Hp) (x283:IV) (ih:Aa) (x358 x265:IV):OH :=
 Ai 3 x283 h354 fun x360 _=>Aj [] false false ih 37 [x358,x360] h354 fun x362 h363 _ _=>Ab x362 true h363 (fun k366=>Ai 3 x265 h363 fun x367 r368=>k366 x367 h363 r368 []) fun x369 h370 _ _=>Ab x362 true h370 (fun k373=>Ai 3 x283 h370 fun x374 r375=>k373 x374 h370 r375 []) fun x376 h377 _ _=>Ab x362 true h377 (fun k380=>Aj [] false false ih 37 [x369,x376] h377 k380) fun x381 h382 _ _=>AiW x362 x381 h382
def Aix (h343:Hp) (x338:IV) (ih:Aa) (x342 x261 x283 x265:IV):OH :=
 Ab x338 false h343 (fun k346=>Aj [] false false ih 22 [x342] h343 k346) fun x347 h348 _ _=>Ab x338 false h348 (fun k351=>IH EE 3 x347 (.fv (.int .i64 0)) fun x352=>k351 x352 h348 [] []) fun x353 h354 _ _=>AF x338 (.fv (.bool true)) x353 fun x357=>Al x357 (Ao [.fv (.bool true)] h354) (Ai 3 x261 h354 fun x358 _=>AhS h354 x283 ih x358 x265)
def AiJ (h316:Hp) (x319 x261:IV) (ih:Aa) (x265 x283:IV):OH :=
 Ab x319 false h316 (fun k320=>Ai 3 x261 h316 fun x321 r322=>k320 x321 h316 r322 []) fun x323 h324 _ _=>Ab x319 false h324 (fun k327=>Aj [] false false ih 22 [x323] h324 k327) fun x328 h329 _ _=>Ab x319 false h329 (fun k332=>IH EE 3 x328 (.fv (.int .i64 0)) fun x333=>k332 x333 h329 [] []) fun x334 h335 _ _=>AF x319 (.fv (.bool true)) x334 fun x338=>Ab x338 false h335 (fun k339=>Ai 3 x265 h335 fun x340 r341=>k339 x340 h335 r341 []) fun x342 h343 _ _=>Aix h343 x338 ih x342 x261 x283 x265
def AiD (h299:Hp) (x298 x296:IV) (ih:Aa) (x282 x297 x261 x265 x283:IV):OH :=
 Ak 3 x298 x296 h299 fun h302 _ _=>Aj [] false false ih 19 [x282] h302 fun x305 h306 _ _=>Ab x305 false h306 (fun k309=>k309 x297 h306 [] []) fun x310 h311 _ _=>Ab x305 false h311 (fun k314=>Aj [] false false ih 19 [x310] h311 k314) fun x315 h316 _ _=>AF x305 (.fv (.bool true)) x315 fun x319=>AiJ h316 x319 x261 ih x265 x283
def AgF (h287:Hp) (x265:IV) (ih:Aa) (x282 x261 x283:IV):OH :=
 Ai 3 x265 h287 fun x290 _=>Aj [] false false ih 18 [x290] h287 fun x292 h293 _ _=>AK 0 x292 fun x296=>AK 1 x292 fun x297=>AJ 12597253 (.row [.fv (.int .i64 0),.fv (.int .i64 0),.nils] false) (.ptr (.own 12597253) 0) h293 fun x298 h299 _ _=>AiD h299 x298 x296 ih x282 x297 x261 x265 x283
def Ais (ih:Aa) (h272:Hp) (x275 x265 x261:IV):OH :=
 Aj [] false false ih 18 [x275] h272 fun x277 h278 _ _=>AK 0 x277 fun x281=>AK 1 x277 fun x282=>AJ 12596229 (.row [.fv (.int .i64 0),.fv (.int .i64 0),.nils] false) (.ptr (.own 12596229) 0) h278 fun x283 h284 _ _=>Ak 3 x283 x281 h284 fun h287 _ _=>AgF h287 x265 ih x282 x261 x283
def Aih (h266:Hp) (x261 x249 x265 x257:IV) (ih:Aa):OH :=
 Ak 3 x261 x249 h266 fun h269 r270 w271=>Ad [] r270 w271 (Ak 3 x265 x257 h269 fun h272 r273 w274=>Ad [] r273 w274 (Ai 3 x261 h272 fun x275 _=>Ais ih h272 x275 x265 x261))
def AiU (r259 w260:AH) (h258:Hp) (r256 r254 r251 w252 r248 r246:AH) (x249 x257:IV) (ih:Aa):OH :=
 Ad [] r259 w260 (AJ 12595206 (.row [.fv (.int .i64 0),.fv (.int .i64 0),.nils] false) (.ptr (.own 12595206) 0) h258 fun x261 h262 r263 w264=>Ad [(r259,w260),(r256,[]),(r254,[]),(r251,w252),(r248,[]),(r246,[])] r263 w264 (AJ 12595207 (.row [.fv (.int .i64 0),.fv (.int .i64 0),.nils] false) (.ptr (.own 12595207) 0) h262 fun x265 h266 r267 w268=>Ad [(r263,w264),(r259,w260),(r256,[]),(r254,[]),(r251,w252),(r248,[]),(r246,[])] r267 w268 (Aih h266 x261 x249 x265 x257 ih)))
def AgH (h250:Hp) (x157:IV) (r251 w252 r248 r246:AH) (x142:IV) (ih:Aa) (x249:IV):OH :=
 Ai 3 x157 h250 fun x253 r254=>Ad [(r251,w252),(r248,[]),(r246,[])] r254 [] (Ai 3 x142 h250 fun x255 r256=>Ad [(r254,[]),(r251,w252),(r248,[]),(r246,[])] r256 [] (Aj [] false false ih 30 [x253,.fv (.int .i64 0),x255] h250 fun x257 h258 r259 w260=>AiU r259 w260 h258 r256 r254 r251 w252 r248 r246 x249 x257 ih))
def Ag0 (r246:AH) (h241:Hp) (x142:IV) (ih:Aa) (x245 x157:IV):OH :=
 Ad [] r246 [] (Ai 3 x142 h241 fun x247 r248=>Ad [(r246,[])] r248 [] (Aj [] false false ih 30 [x245,.fv (.int .i64 0),x247] h241 fun x249 h250 r251 w252=>Ad [] r251 w252 (AgH h250 x157 r251 w252 r248 r246 x142 ih x249)))
def AiV (h230:Hp) (x225:IV) (ih:Aa) (x229 x119 x142 x157:IV):OH :=
 Ab x225 false h230 (fun k233=>Aj [] false false ih 36 [x229] h230 k233) fun x234 h235 _ _=>Ab x225 false h235 (fun k238=>KU EE 3 x234 (.fv (.int .i64 20)) fun x239=>k238 x239 h235 [] []) fun x240 h241 _ _=>AF x225 (.fv (.bool true)) x240 fun x244=>Al x244 (Ao [.fv (.bool true)] h241) (Ai 3 x119 h241 fun x245 r246=>Ag0 r246 h241 x142 ih x245 x157)
def AgN (h203:Hp) (x206 x157:IV) (ih:Aa) (x142 x119:IV):OH :=
 Ab x206 false h203 (fun k207=>Ai 3 x157 h203 fun x208 r209=>k207 x208 h203 r209 []) fun x210 h211 _ _=>Ab x206 false h211 (fun k214=>Aj [] false false ih 36 [x210] h211 k214) fun x215 h216 _ _=>Ab x206 false h216 (fun k219=>KU EE 3 x215 (.fv (.int .i64 400)) fun x220=>k219 x220 h216 [] []) fun x221 h222 _ _=>AF x206 (.fv (.bool true)) x221 fun x225=>Ab x225 false h222 (fun k226=>Ai 3 x142 h222 fun x227 r228=>k226 x227 h222 r228 []) fun x229 h230 _ _=>AiV h230 x225 ih x229 x119 x142 x157
def Ag2 (x176 x183:IV) (h184:Hp) (x119:IV) (ih:Aa) (x157 x142:IV):OH :=
 AF x176 (.fv (.bool true)) x183 fun x187=>Ab x187 false h184 (fun k188=>Ai 3 x119 h184 fun x189 r190=>k188 x189 h184 r190 []) fun x191 h192 _ _=>Ab x187 false h192 (fun k195=>Aj [] false false ih 36 [x191] h192 k195) fun x196 h197 _ _=>Ab x187 false h197 (fun k200=>KU EE 3 x196 (.fv (.int .i64 400)) fun x201=>k200 x201 h197 [] []) fun x202 h203 _ _=>AF x187 (.fv (.bool true)) x202 fun x206=>AgN h203 x206 x157 ih x142 x119
def AiG (h161:Hp) (x164 x141 x156:IV) (ih:Aa) (x119 x157 x142:IV):OH :=
 Ab x164 false h161 (fun k165=>k165 x141 h161 [] []) fun x166 h167 _ _=>Ab x164 false h167 (fun k170=>CC (KS .not x166) fun x171=>k170 x171 h167 [] []) fun x172 h173 _ _=>AF x164 (.fv (.bool true)) x172 fun x176=>Ab x176 false h173 (fun k177=>k177 x156 h173 [] []) fun x178 h179 _ _=>Ab x176 false h179 (fun k182=>Aj [] false false ih 19 [x178] h179 k182) fun x183 h184 _ _=>Ag2 x176 x183 h184 x119 ih x157 x142
def Aha (x151:IV) (h152:Hp) (x118 x141:IV) (ih:Aa) (x119 x142:IV):OH :=
 AK 0 x151 fun x155=>AK 1 x151 fun x156=>AJ 12592133 (.row [.fv (.int .i64 0),.fv (.int .i64 0),.nils] false) (.ptr (.own 12592133) 0) h152 fun x157 h158 _ _=>Ak 3 x157 x155 h158 fun h161 _ _=>CC (KS .not x118) fun x164=>AiG h161 x164 x141 x156 ih x119 x157 x142
def Ag5 (r144 w145 r138 w139 r135 r132 w133 r128 w129:AH) (h143:Hp) (x142 x140 x119:IV) (ih:Aa) (x118 x141:IV):OH :=
 Ad [(r138,w139),(r135,[]),(r132,w133),(r128,w129)] r144 w145 (Ak 3 x142 x140 h143 fun h146 r147 w148=>Ad [] r147 w148 (Ai 3 x119 h146 fun x149 _=>Aj [] false false ih 18 [x149] h146 fun x151 h152 _ _=>Aha x151 h152 x118 x141 ih x119 x142))
def AhL (ih:Aa) (h131:Hp) (x126 x130 x134:IV) (r135 r132 w133 r128 w129:AH) (x119 x118:IV):OH :=
 Aj [] false false ih 26 [x126,x130,x134,.fv (.int .i64 2)] h131 fun x136 h137 r138 w139=>Ad [] r138 w139 (AK 0 x136 fun x140=>AK 1 x136 fun x141=>AJ 12591112 (.row [.fv (.int .i64 0),.fv (.int .i64 0),.nils] false) (.ptr (.own 12591112) 0) h137 fun x142 h143 r144 w145=>Ag5 r144 w145 r138 w139 r135 r132 w133 r128 w129 h143 x142 x140 x119 ih x118 x141)
def Ag4 (r128 w129:AH) (ih:Aa) (h127:Hp) (x13 x126 x119 x118:IV):OH :=
 Ad [] r128 w129 (Aj [] false false ih 42 [] h127 fun x130 h131 r132 w133=>Ad [] r132 w133 (Ai 3 x13 h131 fun x134 r135=>Ad [(r132,w133),(r128,w129)] r135 [] (AhL ih h131 x126 x130 x134 r135 r132 w133 r128 w129 x119 x118)))
def Ahb (x113:IV) (h114:Hp) (ih:Aa) (x0 x13:IV):OH :=
 AK 0 x113 fun x117=>AK 1 x113 fun x118=>AJ 12590087 (.row [.fv (.int .i64 0),.fv (.int .i64 0),.nils] false) (.ptr (.own 12590087) 0) h114 fun x119 h120 _ _=>Ak 3 x119 x117 h120 fun h123 _ _=>Aj [] false false ih 24 [x0] h123 fun x126 h127 r128 w129=>Ag4 r128 w129 ih h127 x13 x126 x119 x118
def Ahi (h99:Hp) (x98 x5:IV) (ih:Aa) (x92 x0 x13:IV):OH :=
 AJ 12589059 (.row [.fv (.int .i64 0),.fv (.int .i64 0),.nils] false) (.ptr (.own 12589059) 0) h99 fun x102 h103 _ _=>Ak 3 x102 x98 h103 fun h106 _ _=>Ai 3 x102 h106 fun x109 _=>Ai 3 x5 h106 fun x111 _=>Aj [] false false ih 26 [x92,x109,x111,.fv (.int .i64 4)] h106 fun x113 h114 _ _=>Ahb x113 h114 ih x0 x13
def Ah4 (ih:Aa) (h80:Hp) (x0 x9 x5 x13:IV):OH :=
 Aj [] false false ih 24 [x0] h80 fun x84 h85 _ _=>Aj [] false false ih 42 [] h85 fun x88 h89 _ _=>Aj [] false false ih 29 [x84,.fv (.int .i64 1),x88] h89 fun x92 h93 _ _=>Ai 3 x9 h93 fun x96 _=>Aj [] false false ih 25 [x92,x96,.fv (.int .i64 1)] h93 fun x98 h99 _ _=>Ahi h99 x98 x5 ih x92 x0 x13
def AiO (h61:Hp) (x64 x13:IV) (ih:Aa) (x0 x9 x5:IV):OH :=
 Ab x64 false h61 (fun k65=>Ai 3 x13 h61 fun x66 r67=>k65 x66 h61 r67 []) fun x68 h69 _ _=>Ab x64 false h69 (fun k72=>Aj [] false false ih 16 [x68] h69 k72) fun x73 h74 _ _=>Ab x64 false h74 (fun k77=>CC (KS .not x73) fun x78=>k77 x78 h74 [] []) fun x79 h80 _ _=>AF x64 (.fv (.bool true)) x79 fun x83=>Al x83 (Ao [.fv (.bool true)] h80) (Ah4 ih h80 x0 x9 x5 x13)
def Aiv (x26 x41:IV) (h42:Hp) (x9:IV) (ih:Aa) (x13 x0 x5:IV):OH :=
 AF x26 (.fv (.bool true)) x41 fun x45=>Ab x45 false h42 (fun k46=>Ai 3 x9 h42 fun x47 r48=>k46 x47 h42 r48 []) fun x49 h50 _ _=>Ab x45 false h50 (fun k53=>Aj [] false false ih 16 [x49] h50 k53) fun x54 h55 _ _=>Ab x45 false h55 (fun k58=>CC (KS .not x54) fun x59=>k58 x59 h55 [] []) fun x60 h61 _ _=>AF x45 (.fv (.bool true)) x60 fun x64=>AiO h61 x64 x13 ih x0 x9 x5
def AgG (ih:Aa) (h18:Hp) (x0 x5 x9 x13:IV):OH :=
 Aj [] false false ih 15 [x0] h18 fun x22 h23 _ _=>CC (KS .not x22) fun x26=>Ab x26 false h23 (fun k27=>Ai 3 x5 h23 fun x28 r29=>k27 x28 h23 r29 []) fun x30 h31 _ _=>Ab x26 false h31 (fun k34=>Aj [] false false ih 16 [x30] h31 k34) fun x35 h36 _ _=>Ab x26 false h36 (fun k39=>CC (KS .not x35) fun x40=>k39 x40 h36 [] []) fun x41 h42 _ _=>Aiv x26 x41 h42 x9 ih x13 x0 x5
def S12 (ih:Aa) (n:Nat) (x0 x1 x2 x3:IV) (h4:Hp):OH :=
 Bg 12582912 x1 h4 fun x5 h6 _ _=>Bg 12582913 x2 h6 fun x9 h10 _ _=>Bg 12582914 x3 h10 fun x13 h14 _ _=>Aj [] false false ih 14 [] h14 fun x17 h18 _ _=>CC (KS .not x17) fun x21=>Al x21 (Ao [.fv (.bool false)] h18) (AgG ih h18 x0 x5 x9 x13)
theorem Amw (ih:Aa) (n:Nat) (x0 x1 x2 x3:IV) (h4:Hp):AE EE ih ft.get n 12 [x0,x1,x2,x3] h4=S12 ih n x0 x1 x2 x3 h4:=by kernel_rfl
def Aj2 (h70:Hp) (x60:IV) (ih:Aa) (x64 x69:IV):OH :=
 Ab x60 true h70 (fun k73=>Aj [] false false ih 21 [x64,x69] h70 k73) fun x74 h75 r76 w77=>Ad [] r76 w77 (AF x60 x74 (.fv (.bool false)) fun x78=>Ao [x78] h75)
def AkS (x52:IV) (h57:Hp) (x53:IV) (ih:Aa):OH :=
 A2 EE 37 x52 (.fv (.int .i64 0)) fun x60=>Ab x60 true h57 (fun k61=>Ai 3 x53 h57 fun x62 r63=>k61 x62 h57 r63 []) fun x64 h65 r66 w67=>Ad [] r66 w67 (Ab x60 true h65 (fun k68=>Aj [] false false ih 35 [.fv (.int .i64 2)] h65 k68) fun x69 h70 r71 w72=>Ad [(r66,w67)] r71 w72 (Aj2 h70 x60 ih x64 x69))
def Akg (x47:IV) (h48:Hp) (r49 w50 r45 w46 r41 w42 r37 w38 r33 w34 r30 r27 w28 r24:AH) (x51:IV) (ih:Aa):OH :=
 AK 1 x47 fun x52=>AJ 14682123 (.row [.fv (.int .i64 0),.fv (.int .i64 0),.nils] false) (.ptr (.own 14682123) 0) h48 fun x53 h54 r55 w56=>Ad [(r49,w50),(r45,w46),(r41,w42),(r37,w38),(r33,w34),(r30,[]),(r27,w28),(r24,[])] r55 w56 (Ak 3 x53 x51 h54 fun h57 r58 w59=>Ad [] r58 w59 (AkS x52 h57 x53 ih))
def AjZ (ih:Aa) (h40:Hp) (x39:IV) (r41 w42 r37 w38 r33 w34 r30 r27 w28 r24:AH):OH :=
 Aj [] false false ih 27 [.fv (.int .i64 8),x39] h40 fun x43 h44 r45 w46=>Ad [] r45 w46 (Aj [] false false ih 20 [x43] h44 fun x47 h48 r49 w50=>Ad [] r49 w50 (AK 0 x47 fun x51=>Akg x47 h48 r49 w50 r45 w46 r41 w42 r37 w38 r33 w34 r30 r27 w28 r24 x51 ih))
def AlJ (r33 w34:AH) (ih:Aa) (h32:Hp) (x31:IV) (r30 r27 w28 r24:AH):OH :=
 Ad [] r33 w34 (Aj [] false false ih 27 [.fv (.int .i64 7),x31] h32 fun x35 h36 r37 w38=>Ad [] r37 w38 (Ax (Ah EE 29 1 [(0,x35)]) 14682117 h36 fun x39 h40 r41 w42=>Ad [] r41 w42 (AjZ ih h40 x39 r41 w42 r37 w38 r33 w34 r30 r27 w28 r24)))
def Akt (ih:Aa) (h20:Hp) (r24:AH) (x9 x23:IV):OH :=
 Aj [] false false ih 35 [.fv (.int .i64 2)] h20 fun x25 h26 r27 w28=>Ad [(r24,[])] r27 w28 (Ai 3 x9 h26 fun x29 r30=>Ad [(r27,w28),(r24,[])] r30 [] (Ax (Ah EE 29 3 [(0,x23),(1,x25),(2,x29)]) 14682115 h26 fun x31 h32 r33 w34=>AlJ r33 w34 ih h32 x31 r30 r27 w28 r24))
def AjQ (h10:Hp) (x9 x1 x8:IV) (ih:Aa):OH :=
 AJ 14681094 (.row [.fv (.int .i64 0),.fv (.int .i64 0),.nils] false) (.ptr (.own 14681094) 0) h10 fun x13 h14 _ _=>Ak 3 x9 x1 h14 fun h17 _ _=>Ak 3 x13 x8 h17 fun h20 _ _=>Ai 3 x13 h20 fun x23 r24=>Ad [] r24 [] (Akt ih h20 r24 x9 x23)
def S14 (ih:Aa) (n:Nat) (h0:Hp):OH :=
 Bv [.fv (.int .i64 0),.fv (.int .i64 0),.nils] [(0,1,.fv (.int .i64 11))] fun x1=>Bv [.fv (.int .i64 0),.fv (.int .i64 0),.nils] [(0,1,.fv (.int .i64 10))] fun x2=>Bv [.fv (.int .i64 0),.fv (.int .i64 0),.nils] [(0,1,.fv (.int .i64 10))] fun x3=>Ax (Ah EE 29 2 [(0,x2),(1,x3)]) 14681091 h0 fun x4 h5 _ _=>Bv [.fv (.int .i64 0),.fv (.int .i64 0),.nils] [(0,1,.fv (.int .i64 6)),(2,1,x4)] fun x8=>AJ 14681093 (.row [.fv (.int .i64 0),.fv (.int .i64 0),.nils] false) (.ptr (.own 14681093) 0) h5 fun x9 h10 _ _=>AjQ h10 x9 x1 x8 ih
theorem Ama (ih:Aa) (n:Nat) (h0:Hp):AE EE ih ft.get n 14 [] h0=S14 ih n h0:=by kernel_rfl
def Le (x6:IV) (q2:List IV→Hp→OH) (h13:Hp) (x5:IV):OH :=
 BF EE 3 x6 (.fv (.int .i64 1)) fun x17=>q2 [x5,x17] h13
def Ls (x5 x6:IV) (h4:Hp) (ih:Aa) (q2:List IV→Hp→OH):OH :=
 Bf 3 x5 x6 fun x9=>Ai 3 x9 h4 fun x10 _=>Aj [] false false ih 16 [x10] h4 fun x12 h13 _ _=>CC (KS .not x12) fun x16=>Al x16 (Ao [.fv (.bool false)] h13) (Le x6 q2 h13 x5)
def Lp (x5:IV) (h4:Hp):OH :=
 Ca x5 fun x18=>leS EE 3 x18 (.fv (.int .i64 6)) fun x19=>Ao [x19] h4
def Ny (l3:List IV) (h4:Hp) (ih:Aa) (q2:List IV→Hp→OH):OH :=
 AA l3 fun x5 l20=>AA l20 fun x6 _=>Ca x5 fun x7=>Hg EE 3 x6 x7 fun x8=>Al x8 (Ls x5 x6 h4 ih q2) (Lp x5 h4)
def S15 (ih:Aa) (n:Nat) (x0:IV) (h1:Hp):OH :=
 BD n (fun q2 l3 h4=>Ny l3 h4 ih q2) [x0,.fv (.int .i64 0)] h1
theorem AkM (ih:Aa) (n:Nat) (x0:IV) (h1:Hp):AE EE ih ft.get n 15 [x0] h1=S15 ih n x0 h1:=by kernel_rfl
def S16 (ih:Aa) (n:Nat) (x0:IV) (h1:Hp):OH :=
 Bg 16777216 x0 h1 fun x2 h3 _ _=>Ai 3 x2 h3 fun x6 _=>Aj [] false false ih 47 [x6,.fv (.int .i64 300)] h3 fun x8 h9 _ _=>Hg EE 3 x8 (.fv (.int .i64 300)) fun x12=>Ao [x12] h9
theorem AjS (ih:Aa) (n:Nat) (x0:IV) (h1:Hp):AE EE ih ft.get n 16 [x0] h1=S16 ih n x0 h1:=by kernel_rfl
def Yn (r85 w86:AH) (h84:Hp) (x13 x17 x21:IV):OH :=
 Ad [] r85 w86 (AC true 3 x13 h84 fun x87=>AC true 3 x17 h84 fun x88=>Ao [x21,x87,x88,.fv (.bool false)] h84)
def AaY (ih:Aa) (h71:Hp) (r76:AH) (x13 x75 x17 x21:IV):OH :=
 Aj [] false false ih 43 [.fv (.int .i64 0)] h71 fun x77 h78 r79 w80=>Ad [(r76,[])] r79 w80 (Ak 3 x13 x75 h78 fun h81 r82 w83=>Ad [] r82 w83 (Ak 3 x17 x77 h81 fun h84 r85 w86=>Yn r85 w86 h84 x13 x17 x21))
def Aa8 (r97 w98:AH) (h96:Hp) (x13 x17 x21:IV):OH :=
 Ad [] r97 w98 (AC true 3 x13 h96 fun x99=>AC true 3 x17 h96 fun x100=>Ao [x21,x99,x100,.fv (.bool true)] h96)
def YI (h71:Hp) (x48:IV) (r90:AH) (x13 x89 x17 x21:IV):OH :=
 Ai 3 x48 h71 fun x91 r92=>Ad [(r90,[])] r92 [] (Ak 3 x13 x89 h71 fun h93 r94 w95=>Ad [(r92,[])] r94 w95 (Ak 3 x17 x91 h93 fun h96 r97 w98=>Aa8 r97 w98 h96 x13 x17 x21))
def Aa5 (x55 x70:IV) (h71:Hp) (x31:IV) (ih:Aa) (x13 x17 x21 x48:IV):OH :=
 AF x55 (.fv (.bool true)) x70 fun x74=>Al x74 (Ai 3 x31 h71 fun x75 r76=>Ad [] r76 [] (AaY ih h71 r76 x13 x75 x17 x21)) (Ai 3 x31 h71 fun x89 r90=>Ad [] r90 [] (YI h71 x48 r90 x13 x89 x17 x21))
def Zn (h49:Hp) (x48 x46 x47:IV) (ih:Aa) (x31 x13 x17 x21:IV):OH :=
 Ak 3 x48 x46 h49 fun h52 _ _=>CC (KS .not x47) fun x55=>Ab x55 false h52 (fun k56=>Ai 3 x48 h52 fun x57 r58=>k56 x57 h52 r58 []) fun x59 h60 _ _=>Ab x55 false h60 (fun k63=>Aj [] false false ih 22 [x59] h60 k63) fun x64 h65 _ _=>Ab x55 false h65 (fun k68=>IH EE 3 x64 (.fv (.int .i64 0)) fun x69=>k68 x69 h65 [] []) fun x70 h71 _ _=>Aa5 x55 x70 h71 x31 ih x13 x17 x21 x48
def Aaa (h35:Hp) (x5:IV) (ih:Aa) (x21 x38 x31 x13 x17:IV):OH :=
 Ai 3 x5 h35 fun x40 _=>Aj [] false false ih 32 [x21,x38,x40,.fv (.int .i64 5)] h35 fun x42 h43 _ _=>AK 0 x42 fun x46=>AK 1 x42 fun x47=>AJ 17829895 (.row [.fv (.int .i64 0),.fv (.int .i64 0),.nils] false) (.ptr (.own 17829895) 0) h43 fun x48 h49 _ _=>Zn h49 x48 x46 x47 ih x31 x13 x17 x21
def Z7 (h22:Hp) (x9:IV) (ih:Aa) (x5 x21 x13 x17:IV):OH :=
 Ai 3 x9 h22 fun x25 _=>Aj [] false false ih 33 [x25,.fv (.int .i64 2)] h22 fun x27 h28 _ _=>AJ 17828866 (.row [.fv (.int .i64 0),.fv (.int .i64 0),.nils] false) (.ptr (.own 17828866) 0) h28 fun x31 h32 _ _=>Ak 3 x31 x27 h32 fun h35 _ _=>Ai 3 x31 h35 fun x38 _=>Aaa h35 x5 ih x21 x38 x31 x13 x17
def Wo (r161 w162:AH) (h160:Hp) (x13 x17 x21:IV):OH :=
 Ad [] r161 w162 (AC true 3 x13 h160 fun x163=>AC true 3 x17 h160 fun x164=>Ao [x21,x163,x164,.fv (.bool false)] h160)
def XR (ih:Aa) (h147:Hp) (r152:AH) (x13 x151 x17 x21:IV):OH :=
 Aj [] false false ih 27 [.fv (.int .i64 11),.nils] h147 fun x153 h154 r155 w156=>Ad [(r152,[])] r155 w156 (Ak 3 x13 x151 h154 fun h157 r158 w159=>Ad [] r158 w159 (Ak 3 x17 x153 h157 fun h160 r161 w162=>Wo r161 w162 h160 x13 x17 x21))
def Xj (r173 w174:AH) (h172:Hp) (x13 x17 x21:IV):OH :=
 Ad [] r173 w174 (AC true 3 x13 h172 fun x175=>AC true 3 x17 h172 fun x176=>Ao [x21,x175,x176,.fv (.bool true)] h172)
def VX (h147:Hp) (x124:IV) (r166:AH) (x13 x165 x17 x21:IV):OH :=
 Ai 3 x124 h147 fun x167 r168=>Ad [(r166,[])] r168 [] (Ak 3 x13 x165 h147 fun h169 r170 w171=>Ad [(r168,[])] r170 w171 (Ak 3 x17 x167 h169 fun h172 r173 w174=>Xj r173 w174 h172 x13 x17 x21))
def Aag (x131 x146:IV) (h147:Hp) (x107:IV) (ih:Aa) (x13 x17 x21 x124:IV):OH :=
 AF x131 (.fv (.bool true)) x146 fun x150=>Al x150 (Ai 3 x107 h147 fun x151 r152=>Ad [] r152 [] (XR ih h147 r152 x13 x151 x17 x21)) (Ai 3 x107 h147 fun x165 r166=>Ad [] r166 [] (VX h147 x124 r166 x13 x165 x17 x21))
def Aas (h125:Hp) (x124 x122 x123:IV) (ih:Aa) (x107 x13 x17 x21:IV):OH :=
 Ak 3 x124 x122 h125 fun h128 _ _=>CC (KS .not x123) fun x131=>Ab x131 false h128 (fun k132=>Ai 3 x124 h128 fun x133 r134=>k132 x133 h128 r134 []) fun x135 h136 _ _=>Ab x131 false h136 (fun k139=>Aj [] false false ih 22 [x135] h136 k139) fun x140 h141 _ _=>Ab x131 false h141 (fun k144=>IH EE 3 x140 (.fv (.int .i64 0)) fun x145=>k144 x145 h141 [] []) fun x146 h147 _ _=>Aag x131 x146 h147 x107 ih x13 x17 x21 x124
def Abu (h111:Hp) (x5:IV) (ih:Aa) (x21 x114 x107 x13 x17:IV):OH :=
 Ai 3 x5 h111 fun x116 _=>Aj [] false false ih 26 [x21,x114,x116,.fv (.int .i64 5)] h111 fun x118 h119 _ _=>AK 0 x118 fun x122=>AK 1 x118 fun x123=>AJ 17835015 (.row [.fv (.int .i64 0),.fv (.int .i64 0),.nils] false) (.ptr (.own 17835015) 0) h119 fun x124 h125 _ _=>Aas h125 x124 x122 x123 ih x107 x13 x17 x21
def Yc (h22:Hp) (x9:IV) (ih:Aa) (x21 x5 x13 x17:IV):OH :=
 Ai 3 x9 h22 fun x101 _=>Aj [] false false ih 25 [x21,x101,.fv (.int .i64 2)] h22 fun x103 h104 _ _=>AJ 17833987 (.row [.fv (.int .i64 0),.fv (.int .i64 0),.nils] false) (.ptr (.own 17833987) 0) h104 fun x107 h108 _ _=>Ak 3 x107 x103 h108 fun h111 _ _=>Ai 3 x107 h111 fun x114 _=>Abu h111 x5 ih x21 x114 x107 x13 x17
def S17 (ih:Aa) (n:Nat) (x0 x1 x2 x3:IV) (h4:Hp):OH :=
 Bg 17825792 x1 h4 fun x5 h6 _ _=>Bg 17825793 x2 h6 fun x9 h10 _ _=>AJ 17825795 (.row [.fv (.int .i64 0),.fv (.int .i64 0),.nils] false) (.ptr (.own 17825795) 0) h10 fun x13 h14 _ _=>AJ 17825796 (.row [.fv (.int .i64 0),.fv (.int .i64 0),.nils] false) (.ptr (.own 17825796) 0) h14 fun x17 h18 _ _=>Aj [] false false ih 24 [x0] h18 fun x21 h22 _ _=>Al x3 (Z7 h22 x9 ih x5 x21 x13 x17) (Yc h22 x9 ih x21 x5 x13 x17)
theorem AjR (ih:Aa) (n:Nat) (x0 x1 x2 x3:IV) (h4:Hp):AE EE ih ft.get n 17 [x0,x1,x2,x3] h4=S17 ih n x0 x1 x2 x3 h4:=by kernel_rfl
def UT (r43 w44 r41:AH) (h42:Hp) (x6 x40:IV):OH :=
 Ad [(r41,[])] r43 w44 (AC true 3 x6 h42 fun x45=>Ao [x45,x40] h42)
def Ul (x11:IV) (h29:Hp) (x6 x37:IV):OH :=
 AB x11 fun x38=>Ac 2 x38 fun x39=>Af x39 h29 fun x40 r41=>Ad [] r41 [] (Ak 3 x6 x37 h29 fun h42 r43 w44=>UT r43 w44 r41 h42 x6 x40)
def VB (h29:Hp) (x6 x46:IV):OH :=
 Ak 3 x6 x46 h29 fun h48 _ _=>AC true 3 x6 h48 fun x51=>Ao [x51,.fv (.int .i64 0)] h48
def Uq (h29:Hp) (x33 x11 x6 x25:IV):OH :=
 Af x33 h29 fun x34 _=>IH EE 3 x34 (.fv (.int .i64 0)) fun x36=>Al x36 (Bv [.fv (.int .i64 0),.fv (.int .i64 0),.nils] [] fun x37=>Ul x11 h29 x6 x37) (Ai 3 x25 h29 fun x46 _=>VB h29 x6 x46)
def UJ (ih:Aa) (h18:Hp) (x11 x17 x6:IV):OH :=
 Aj [true,false,false,false] false false ih 48 [x11,x17,.fv (.int .i64 0),.fv (.int .i64 1)] h18 fun x21 h22 _ _=>AJ 18876421 (.row [.fv (.int .i64 0),.fv (.int .i64 0),.nils] false) (.ptr (.own 18876421) 0) h22 fun x25 h26 _ _=>Ak 3 x25 x21 h26 fun h29 _ _=>AB x11 fun x32=>Ac 2 x32 fun x33=>Uq h29 x33 x11 x6 x25
def S18 (ih:Aa) (n:Nat) (x0:IV) (h1:Hp):OH :=
 Bg 18874368 x0 h1 fun x2 h3 _ _=>AJ 18874369 (.row [.fv (.int .i64 0),.fv (.int .i64 0),.nils] false) (.ptr (.own 18874369) 0) h3 fun x6 h7 _ _=>Bv [.fv (.int .i64 0),.fv (.int .i64 0),.fv (.int .i64 0)] [] fun x10=>Bg 18875393 x10 h7 fun x11 h12 _ _=>Ai 3 x2 h12 fun x15 _=>Aj [true,false,false] false false ih 49 [x11,x15,.nils] h12 fun x17 h18 _ _=>UJ ih h18 x11 x17 x6
theorem AmL (ih:Aa) (n:Nat) (x0:IV) (h1:Hp):AE EE ih ft.get n 18 [x0] h1=S18 ih n x0 h1:=by kernel_rfl
def S19 (ih:Aa) (n:Nat) (x0:IV) (h1:Hp):OH :=
 A2 EE 3 x0 (.fv (.int .i64 17)) fun x2=>Ab x2 false h1 (fun k3=>k3 x0 h1 [] []) fun x4 h5 _ _=>Ab x2 false h5 (fun k8=>A2 EE 3 x4 (.fv (.int .i64 5)) fun x9=>k8 x9 h5 [] []) fun x10 h11 _ _=>AF x2 (.fv (.bool true)) x10 fun x14=>Ao [x14] h11
theorem Akm (ih:Aa) (n:Nat) (x0:IV) (h1:Hp):AE EE ih ft.get n 19 [x0] h1=S19 ih n x0 h1:=by kernel_rfl
def MB (h13:Hp) (x6:IV):OH :=
 Bv [.fv (.int .i64 0),.fv (.int .i64 0),.nils] [] fun x17=>Ak 3 x6 x17 h13 fun h18 _ _=>AC true 3 x6 h18 fun x21=>Ao [x21,.fv (.int .i64 1)] h18
def NV (r43 w44 r41:AH) (h42:Hp) (x6 x40:IV):OH :=
 Ad [(r41,[])] r43 w44 (AC true 3 x6 h42 fun x45=>Ao [x45,x40] h42)
def N8 (x22:IV) (h29:Hp) (x6 x37:IV):OH :=
 AB x22 fun x38=>Ac 3 x38 fun x39=>Af x39 h29 fun x40 r41=>Ad [] r41 [] (Ak 3 x6 x37 h29 fun h42 r43 w44=>NV r43 w44 r41 h42 x6 x40)
def MF (h67:Hp) (x6 x65:IV):OH :=
 AC true 3 x6 h67 fun x70=>Ao [x70,x65] h67
def NF (x63:IV) (h54:Hp) (x6 x62:IV):OH :=
 Ac 3 x63 fun x64=>Af x64 h54 fun x65 r66=>Ad [] r66 [] (Ak 3 x6 x62 h54 fun h67 r68 w69=>Ad [(r66,[])] r68 w69 (MF h67 x6 x65))
def MY (h73:Hp) (x6:IV):OH :=
 AC true 3 x6 h73 fun x76=>Ao [x76,.fv (.int .i64 0)] h73
def ND (x59 x22:IV) (h54:Hp) (x6 x50:IV):OH :=
 IH EE 37 x59 (.fv (.int .i64 0)) fun x61=>Al x61 (Bv [.fv (.int .i64 0),.fv (.int .i64 0),.nils] [] fun x62=>AB x22 fun x63=>NF x63 h54 x6 x62) (Ai 3 x50 h54 fun x71 _=>Ak 3 x6 x71 h54 fun h73 _ _=>MY h73 x6)
def Of (h47:Hp) (x46 x22 x6:IV):OH :=
 AJ 20978691 (.row [.fv (.int .i64 0),.fv (.int .i64 0),.nils] false) (.ptr (.own 20978691) 0) h47 fun x50 h51 _ _=>Ak 3 x50 x46 h51 fun h54 _ _=>AB x22 fun x57=>Ac 3 x57 fun x58=>Af x58 h54 fun x59 _=>ND x59 x22 h54 x6 x50
def NP (h29:Hp) (x33 x22 x6:IV) (ih:Aa) (x28:IV):OH :=
 Af x33 h29 fun x34 _=>IH EE 37 x34 (.fv (.int .i64 0)) fun x36=>Al x36 (Bv [.fv (.int .i64 0),.fv (.int .i64 0),.nils] [] fun x37=>N8 x22 h29 x6 x37) (Aj [true,false,false,false] false false ih 53 [x22,x28,.fv (.int .i64 0),.fv (.int .i64 1)] h29 fun x46 h47 _ _=>Of h47 x46 x22 x6)
def N5 (ih:Aa) (h13:Hp) (x2 x6:IV):OH :=
 Af2 ih 51 [] h13 fun x22 h23 _ _=>Ai 3 x2 h23 fun x26 _=>Aj [true,false,false] false false ih 52 [x22,.fv .nilp,x26] h23 fun x28 h29 _ _=>AB x22 fun x32=>Ac 3 x32 fun x33=>NP h29 x33 x22 x6 ih x28
def S20 (ih:Aa) (n:Nat) (x0:IV) (h1:Hp):OH :=
 Bg 20971520 x0 h1 fun x2 h3 _ _=>AJ 20971521 (.row [.fv (.int .i64 0),.fv (.int .i64 0),.nils] false) (.ptr (.own 20971521) 0) h3 fun x6 h7 _ _=>Ai 3 x2 h7 fun x10 _=>Aj [] false false ih 50 [x10] h7 fun x12 h13 _ _=>CC (KS .not x12) fun x16=>Al x16 (MB h13 x6) (N5 ih h13 x2 x6)
theorem Amj (ih:Aa) (n:Nat) (x0:IV) (h1:Hp):AE EE ih ft.get n 20 [x0] h1=S20 ih n x0 h1:=by kernel_rfl
def FX (x101:IV) (q96:List IV→Hp→OH) (h120:Hp) (x99 x100:IV):OH :=
 BF EE 3 x101 (.fv (.int .i64 1)) fun x124=>q96 [x99,x100,x124] h120
def FP (r118 r112 r109:AH) (ih:Aa) (h98:Hp) (x111 x117 x101:IV) (q96:List IV→Hp→OH) (x99 x100:IV):OH :=
 Ad [(r112,[]),(r109,[])] r118 [] (Aj [] false false ih 21 [x111,x117] h98 fun x119 h120 r121 w122=>Ad [] r121 w122 (CC (KS .not x119) fun x123=>Al x123 (Ao [.fv (.bool false)] h120) (FX x101 q96 h120 x99 x100)))
def FM (x100:IV) (h98:Hp) (r112 r109:AH) (x101:IV) (ih:Aa) (x111:IV) (q96:List IV→Hp→OH) (x99:IV):OH :=
 Ac 2 x100 fun x113=>Af x113 h98 fun x114 r115=>Ad [(r112,[]),(r109,[])] r115 [] (Bf 3 x114 x101 fun x116=>Ai 3 x116 h98 fun x117 r118=>FP r118 r112 r109 ih h98 x111 x117 x101 q96 x99 x100)
def Gc (h98:Hp) (x107 x101 x100:IV) (ih:Aa) (q96:List IV→Hp→OH) (x99:IV):OH :=
 Af x107 h98 fun x108 r109=>Ad [] r109 [] (Bf 3 x108 x101 fun x110=>Ai 3 x110 h98 fun x111 r112=>Ad [] r112 [] (FM x100 h98 r112 r109 x101 ih x111 q96 x99))
def Gj (x103 x101 x99:IV) (h98:Hp) (x100:IV) (ih:Aa) (q96:List IV→Hp→OH):OH :=
 Ca x103 fun x105=>Hg EE 3 x101 x105 fun x106=>Al x106 (Ac 2 x99 fun x107=>Gc h98 x107 x101 x100 ih q96 x99) (Ao [.fv (.bool true)] h98)
def Mr (l97:List IV) (h98:Hp) (ih:Aa) (q96:List IV→Hp→OH):OH :=
 AA l97 fun x99 l125=>AA l125 fun x100 l126=>AA l126 fun x101 _=>Ac 2 x99 fun x102=>Af x102 h98 fun x103 _=>Gj x103 x101 x99 h98 x100 ih q96
def Gf (x95:IV) (h92:Hp) (n:Nat) (x3 x7:IV) (ih:Aa):OH :=
 Al x95 (Ao [.fv (.bool false)] h92) (BD n (fun q96 l97 h98=>Mr l97 h98 ih q96) [x3,x7,.fv (.int .i64 0)] h92)
def Gi (h67:Hp) (x50 x7 x66:IV) (n:Nat) (x3:IV) (ih:Aa):OH :=
 Ab x50 false h67 (fun k70=>Ac 2 x7 fun x71=>k70 x71 h67 [] []) fun x72 h73 _ _=>Ab x50 false h73 (fun k76=>Af x72 h73 fun x77 r78=>k76 x77 h73 r78 []) fun x79 h80 _ _=>Ab x50 false h80 (fun k83=>Ca x79 fun x84=>k83 x84 h80 [] []) fun x85 h86 _ _=>Ab x50 false h86 (fun k89=>IH EE 3 x66 x85 fun x90=>k89 x90 h86 [] []) fun x91 h92 _ _=>AF x50 (.fv (.bool true)) x91 fun x95=>Gf x95 h92 n x3 x7 ih
def Gb (h41:Hp) (x17 x27 x40 x3 x7:IV) (n:Nat) (ih:Aa):OH :=
 Ab x17 false h41 (fun k44=>IH EE 3 x27 x40 fun x45=>k44 x45 h41 [] []) fun x46 h47 _ _=>AF x17 (.fv (.bool true)) x46 fun x50=>Ab x50 false h47 (fun k51=>Ac 2 x3 fun x52=>k51 x52 h47 [] []) fun x53 h54 _ _=>Ab x50 false h54 (fun k57=>Af x53 h54 fun x58 r59=>k57 x58 h54 r59 []) fun x60 h61 _ _=>Ab x50 false h61 (fun k64=>Ca x60 fun x65=>k64 x65 h61 [] []) fun x66 h67 _ _=>Gi h67 x50 x7 x66 n x3 ih
def FW (x12 x15:IV) (h8:Hp) (x3 x7:IV) (n:Nat) (ih:Aa):OH :=
 IH EE 3 x12 x15 fun x17=>Ab x17 false h8 (fun k18=>Ac 1 x3 fun x19=>k18 x19 h8 [] []) fun x20 h21 _ _=>Ab x17 false h21 (fun k24=>Af x20 h21 fun x25 r26=>k24 x25 h21 r26 []) fun x27 h28 _ _=>Ab x17 false h28 (fun k31=>Ac 1 x7 fun x32=>k31 x32 h28 [] []) fun x33 h34 _ _=>Ab x17 false h34 (fun k37=>Af x33 h34 fun x38 r39=>k37 x38 h34 r39 []) fun x40 h41 _ _=>Gb h41 x17 x27 x40 x3 x7 n ih
def S21 (ih:Aa) (n:Nat) (x0 x1:IV) (h2:Hp):OH :=
 Bg 22020096 x0 h2 fun x3 h4 _ _=>Bg 22020097 x1 h4 fun x7 h8 _ _=>Ac 0 x3 fun x11=>Af x11 h8 fun x12 _=>Ac 0 x7 fun x14=>Af x14 h8 fun x15 _=>FW x12 x15 h8 x3 x7 n ih
theorem AkO (ih:Aa) (n:Nat) (x0 x1:IV) (h2:Hp):AE EE ih ft.get n 21 [x0,x1] h2=S21 ih n x0 x1 h2:=by kernel_rfl
def Age (x17:IV) (h14:Hp):OH :=
 Ac 1 x17 fun x18=>Af x18 h14 fun x19 _=>Ao [x19] h14
def S22 (ih:Aa) (n:Nat) (x0:IV) (h1:Hp):OH :=
 Bg 23068672 x0 h1 fun x2 h3 _ _=>Bv [.fv (.int .i64 0),.fv (.int .i64 0)] [] fun x6=>Bg 23069697 x6 h3 fun x7 h8 _ _=>Ai 3 x2 h8 fun x11 _=>Aj [true,false,false] false false ih 54 [x7,x11,.fv (.int .i64 1)] h8 fun _ h14 _ _=>AB x7 fun x17=>Age x17 h14
theorem AkZ (ih:Aa) (n:Nat) (x0:IV) (h1:Hp):AE EE ih ft.get n 22 [x0] h1=S22 ih n x0 h1:=by kernel_rfl
def U5 (x7:IV) (h1 h24:Hp) (x5 x23:IV) (q2:List IV→Hp→OH):OH :=
 BF EE 3 x7 (.fv (.int .i64 1)) fun x25=>Bt (h1.own.map (·.1)) [25171978] [x5,x23,x25] h24 fun h26=>q2 [x5,x23,x25] h26
def UI (ih:Aa) (h53:Hp) (x6 x59:IV) (j1_56:IV→Hp→OH):OH :=
 Aj [] false false ih 29 [x6,.fv (.int .i64 0),x59] h53 fun x61 h62 _ _=>j1_56 x61 h62
def UL (r54 w55:AH) (j1_22:IV→Hp→OH) (x48:IV) (h53:Hp) (x49:IV) (ih:Aa) (x6:IV):OH :=
 Ad [] r54 w55 ((fun (j1_56:IV→Hp→OH)=>Al x48 (Ai 3 x49 h53 fun x59 _=>UI ih h53 x6 x59 j1_56) (j1_56 x6 h53)) fun x57 h58=>j1_22 x57 h58)
def Vi (x43:IV) (h44:Hp) (r45 w46 r42 r38 w39:AH) (j1_22:IV→Hp→OH) (ih:Aa) (x6:IV):OH :=
 AK 0 x43 fun x47=>AK 1 x43 fun x48=>AJ 25171978 (.row [.fv (.int .i64 0),.fv (.int .i64 0),.nils] false) (.ptr (.own 25171978) 0) h44 fun x49 h50 r51 w52=>Ad [(r45,w46),(r42,[]),(r38,w39)] r51 w52 (Ak 3 x49 x47 h50 fun h53 r54 w55=>UL r54 w55 j1_22 x48 h53 x49 ih x6)
def Vq (x5 x7:IV) (h37:Hp) (r38 w39:AH) (ih:Aa) (x6 x36:IV) (j1_22:IV→Hp→OH):OH :=
 Bf 3 x5 x7 fun x40=>Ai 3 x40 h37 fun x41 r42=>Ad [(r38,w39)] r42 [] (Aj [] false false ih 26 [x6,x36,x41,.fv (.int .i64 2)] h37 fun x43 h44 r45 w46=>Ad [] r45 w46 (Vi x43 h44 r45 w46 r42 r38 w39 j1_22 ih x6))
def Us (ih:Aa) (h32:Hp) (x6 x66:IV) (j1_22:IV→Hp→OH):OH :=
 Aj [] false false ih 25 [x6,x66,.fv (.int .i64 2)] h32 fun x68 h69 _ _=>Aj [] false false ih 29 [x6,.fv (.int .i64 1),x68] h69 fun x72 h73 _ _=>j1_22 x72 h73
def Ve (x35:IV) (ih:Aa) (h32:Hp) (x5 x7 x6:IV) (j1_22:IV→Hp→OH):OH :=
 Al x35 (Aj [] false false ih 27 [.fv (.int .i64 14),.nils] h32 fun x36 h37 r38 w39=>Ad [] r38 w39 (Vq x5 x7 h37 r38 w39 ih x6 x36 j1_22)) (Bf 3 x5 x7 fun x65=>Ai 3 x65 h32 fun x66 _=>Us ih h32 x6 x66 j1_22)
def VG (x5 x7:IV) (h18:Hp) (ih:Aa) (x6:IV) (j1_22:IV→Hp→OH):OH :=
 Bf 3 x5 x7 fun x27=>Ac 1 x27 fun x28=>Af x28 h18 fun x29 _=>Aj [] false false ih 55 [x29,.fv (.int .i64 3)] h18 fun x31 h32 _ _=>A2 EE 3 x31 (.fv (.int .i64 0)) fun x35=>Ve x35 ih h32 x5 x7 x6 j1_22
def UX (h4:Hp) (x9 x7:IV) (h1:Hp) (x5:IV) (q2:List IV→Hp→OH) (ih:Aa) (x6:IV):OH :=
 Ab x9 true h4 (fun k10=>k10 x7 h4 [] []) fun x11 h12 _ _=>Ab x9 true h12 (fun k15=>Hg EE 3 x11 (.fv (.int .i64 4)) fun x16=>k15 x16 h12 [] []) fun x17 h18 _ _=>AF x9 x17 (.fv (.bool false)) fun x21=>Al x21 ((fun (j1_22:IV→Hp→OH)=>VG x5 x7 h18 ih x6 j1_22) fun x23 h24=>U5 x7 h1 h24 x5 x23 q2) (Ao [x6] h18)
def Afl (l3:List IV) (h4 h1:Hp) (q2:List IV→Hp→OH) (ih:Aa):OH :=
 AA l3 fun x5 l76=>AA l76 fun x6 l77=>AA l77 fun x7 _=>Ca x5 fun x8=>Hg EE 3 x7 x8 fun x9=>UX h4 x9 x7 h1 x5 q2 ih x6
def S24 (ih:Aa) (n:Nat) (x0:IV) (h1:Hp):OH :=
 Bt (h1.own.map (·.1)) [25171978] [x0,.nils,.fv (.int .i64 0)] h1 fun h79=>BD n (fun q2 l3 h4=>Afl l3 h4 h1 q2 ih) [x0,.nils,.fv (.int .i64 0)] h79
theorem Aj8 (ih:Aa) (n:Nat) (x0:IV) (h1:Hp):AE EE ih ft.get n 24 [x0] h1=S24 ih n x0 h1:=by kernel_rfl
def Abr (h29:Hp) (x8:IV):OH :=
 AC true 3 x8 h29 fun x32=>Ao [x32] h29
def V9 (ih:Aa) (h24:Hp) (x8:IV):OH :=
 Aj [] false false ih 27 [.fv (.int .i64 14),.nils] h24 fun x34 h35 _ _=>Ak 3 x8 x34 h35 fun h38 _ _=>AC true 3 x8 h38 fun x41=>Ao [x41] h38
def Wh (h46:Hp) (x45:IV) (ih:Aa) (x8:IV):OH :=
 Ax (Ah EE 29 1 [(0,x45)]) 26225666 h46 fun x49 h50 _ _=>Aj [] false false ih 27 [.fv (.int .i64 18),x49] h50 fun x53 h54 _ _=>Ak 3 x8 x53 h54 fun h57 _ _=>AC true 3 x8 h57 fun x60=>Ao [x60] h57
def Wy (ih:Aa) (h24:Hp) (x8:IV):OH :=
 Aj [] false false ih 57 [.fv (.int .i64 0)] h24 fun x62 h63 _ _=>Ak 3 x8 x62 h63 fun h66 _ _=>AC true 3 x8 h66 fun x69=>Ao [x69] h66
def Z6 (r116 w117:AH) (h115:Hp) (x8 x114:IV):OH :=
 Ad [] r116 w117 (Ak 3 x8 x114 h115 fun h118 r119 w120=>Ad [] r119 w120 (AC true 3 x8 h118 fun x121=>Ao [x121] h118))
def Yo (ih:Aa) (h102:Hp) (x95 x101 x105:IV) (r92:AH) (x91 x8:IV):OH :=
 Aj [] false false ih 25 [x95,x101,x105] h102 fun x106 h107 r108 w109=>Ad [(r92,[])] r108 w109 (Ax (Ah EE 29 2 [(0,x91),(1,x106)]) 26231817 h107 fun x110 h111 r112 w113=>Ad [] r112 w113 (Aj [] false false ih 27 [.fv (.int .i64 3),x110] h111 fun x114 h115 r116 w117=>Z6 r116 w117 h115 x8 x114))
def Yb (h96:Hp) (x4:IV) (r97 w98 r94 r92:AH) (ih:Aa) (x2 x95 x91 x8:IV):OH :=
 Ai 3 x4 h96 fun x99 r100=>Ad [(r97,w98),(r94,[]),(r92,[])] r100 [] (Aj [] false false ih 58 [x99,.fv (.int .i64 1)] h96 fun x101 h102 r103 w104=>Ad [(r92,[])] r103 w104 (A9 EE 3 x2 (.fv (.int .i64 1)) fun x105=>Yo ih h102 x95 x101 x105 r92 x91 x8))
def Xi (r92:AH) (h88:Hp) (x84:IV) (ih:Aa) (x0 x4 x2 x91 x8:IV):OH :=
 Ad [] r92 [] (Ai 3 x84 h88 fun x93 r94=>Ad [(r92,[])] r94 [] (Aj [] false false ih 29 [x0,.fv (.int .i64 1),x93] h88 fun x95 h96 r97 w98=>Ad [(r92,[])] r97 w98 (Yb h96 x4 r97 w98 r94 r92 ih x2 x95 x91 x8)))
def Zs (x2:IV) (ih:Aa) (h76:Hp) (x0 x75 x4 x8:IV):OH :=
 A9 EE 3 x2 (.fv (.int .i64 1)) fun x79=>Aj [] false false ih 25 [x0,x75,x79] h76 fun x80 h81 _ _=>AJ 26230790 (.row [.fv (.int .i64 0),.fv (.int .i64 0),.nils] false) (.ptr (.own 26230790) 0) h81 fun x84 h85 _ _=>Ak 3 x84 x80 h85 fun h88 _ _=>Ai 3 x84 h88 fun x91 r92=>Xi r92 h88 x84 ih x0 x4 x2 x91 x8
def XT (h168:Hp) (x8:IV):OH :=
 AC true 3 x8 h168 fun x171=>Ao [x171] h168
def AbF (r162 w163:AH) (ih:Aa) (h161:Hp) (x160 x8:IV):OH :=
 Ad [] r162 w163 (Aj [] false false ih 27 [.fv (.int .i64 6),x160] h161 fun x164 h165 r166 w167=>Ad [] r166 w167 (Ak 3 x8 x164 h165 fun h168 r169 w170=>Ad [] r169 w170 (XT h168 x8)))
def W6 (r153 w154 r142:AH) (x2:IV) (ih:Aa) (h152:Hp) (x145 x151 x141 x8:IV):OH :=
 Ad [(r142,[])] r153 w154 (A9 EE 3 x2 (.fv (.int .i64 1)) fun x155=>Aj [] false false ih 25 [x145,x151,x155] h152 fun x156 h157 r158 w159=>Ad [(r142,[])] r158 w159 (Ax (Ah EE 29 2 [(0,x141),(1,x156)]) 26234889 h157 fun x160 h161 r162 w163=>AbF r162 w163 ih h161 x160 x8))
def Aan (ih:Aa) (h138:Hp) (x0 x143:IV) (r142:AH) (x4:IV) (r144:AH) (x2 x141 x8:IV):OH :=
 Aj [] false false ih 29 [x0,.fv (.int .i64 1),x143] h138 fun x145 h146 r147 w148=>Ad [(r142,[])] r147 w148 (Ai 3 x4 h146 fun x149 r150=>Ad [(r147,w148),(r144,[]),(r142,[])] r150 [] (Aj [] false false ih 58 [x149,.fv (.int .i64 1)] h146 fun x151 h152 r153 w154=>W6 r153 w154 r142 x2 ih h152 x145 x151 x141 x8))
def WQ (h135:Hp) (x134 x130:IV) (ih:Aa) (x0 x4 x2 x8:IV):OH :=
 Ak 3 x134 x130 h135 fun h138 _ _=>Ai 3 x134 h138 fun x141 r142=>Ad [] r142 [] (Ai 3 x134 h138 fun x143 r144=>Ad [(r142,[])] r144 [] (Aan ih h138 x0 x143 r142 x4 r144 x2 x141 x8))
def WH (h72:Hp) (x4:IV) (ih:Aa) (x2 x0 x8:IV):OH :=
 Ai 3 x4 h72 fun x123 _=>Aj [] false false ih 58 [x123,.fv (.int .i64 0)] h72 fun x125 h126 _ _=>A9 EE 3 x2 (.fv (.int .i64 1)) fun x129=>Aj [] false false ih 25 [x0,x125,x129] h126 fun x130 h131 _ _=>AJ 26233862 (.row [.fv (.int .i64 0),.fv (.int .i64 0),.nils] false) (.ptr (.own 26233862) 0) h131 fun x134 h135 _ _=>WQ h135 x134 x130 ih x0 x4 x2 x8
def Abq (h201:Hp) (x8:IV):OH :=
 AC true 3 x8 h201 fun x204=>Ao [x204] h201
def Xd (ih:Aa) (h208:Hp) (x207 x8:IV):OH :=
 Aj [] false false ih 27 [.fv (.int .i64 18),x207] h208 fun x211 h212 _ _=>Ak 3 x8 x211 h212 fun h215 _ _=>AC true 3 x8 h215 fun x218=>Ao [x218] h215
def AbI (x188:IV) (ih:Aa) (h193:Hp) (x8 x189:IV):OH :=
 CC (KS .not x188) fun x196=>Al x196 (Aj [] false false ih 56 [] h193 fun x197 h198 _ _=>Ak 3 x8 x197 h198 fun h201 _ _=>Abq h201 x8) (Ai 3 x189 h193 fun x205 _=>Ax (Ah EE 29 1 [(0,x205)]) 26238977 h193 fun x207 h208 _ _=>Xd ih h208 x207 x8)
def V4 (x183:IV) (h184:Hp) (r185 w186 r180 w181 r177 r174 w175:AH) (x187:IV) (ih:Aa) (x8:IV):OH :=
 AK 1 x183 fun x188=>AJ 26235914 (.row [.fv (.int .i64 0),.fv (.int .i64 0),.nils] false) (.ptr (.own 26235914) 0) h184 fun x189 h190 r191 w192=>Ad [(r185,w186),(r180,w181),(r177,[]),(r174,w175)] r191 w192 (Ak 3 x189 x187 h190 fun h193 r194 w195=>Ad [] r194 w195 (AbI x188 ih h193 x8 x189))
def XS (r180 w181:AH) (x2:IV) (ih:Aa) (h179:Hp) (x0 x172 x178:IV) (r177 r174 w175:AH) (x8:IV):OH :=
 Ad [] r180 w181 (A9 EE 3 x2 (.fv (.int .i64 1)) fun x182=>Aj [] false false ih 26 [x0,x172,x178,x182] h179 fun x183 h184 r185 w186=>Ad [] r185 w186 (AK 0 x183 fun x187=>V4 x183 h184 r185 w186 r180 w181 r177 r174 w175 x187 ih x8))
def AbW (ih:Aa) (h72:Hp) (x4 x2 x0 x8:IV):OH :=
 Aj [] false false ih 27 [.fv (.int .i64 14),.nils] h72 fun x172 h173 r174 w175=>Ad [] r174 w175 (Ai 3 x4 h173 fun x176 r177=>Ad [(r174,w175)] r177 [] (Aj [] false false ih 58 [x176,.fv (.int .i64 0)] h173 fun x178 h179 r180 w181=>XS r180 w181 x2 ih h179 x0 x172 x178 r177 r174 w175 x8))
def XG (x71:IV) (h72:Hp) (x4:IV) (ih:Aa) (x2 x0 x8 x20:IV):OH :=
 Al x71 (Ai 3 x4 h72 fun x73 _=>Aj [] false false ih 58 [x73,.fv (.int .i64 0)] h72 fun x75 h76 _ _=>Zs x2 ih h76 x0 x75 x4 x8) (A2 EE 3 x20 (.fv (.int .i64 7)) fun x122=>Al x122 (WH h72 x4 ih x2 x0 x8) (AbW ih h72 x4 x2 x0 x8))
def YK (x4:IV) (ih:Aa) (x2 x0 x8 x20:IV) (h24:Hp):OH :=
 (fun (j1_70:IV→Hp→OH)=>A2 EE 3 x20 (.fv (.int .i64 5)) fun x219=>Al x219 (j1_70 x219 h24) (A2 EE 3 x20 (.fv (.int .i64 6)) fun x220=>j1_70 x220 h24)) fun x71 h72=>XG x71 h72 x4 ih x2 x0 x8 x20
def W8 (x20:IV) (h24:Hp) (x4:IV) (ih:Aa) (x8 x2 x0:IV):OH :=
 A2 EE 3 x20 (.fv (.int .i64 3)) fun x42=>Al x42 (Ai 3 x4 h24 fun x43 _=>Aj [] false false ih 33 [x43,.fv (.int .i64 1)] h24 fun x45 h46 _ _=>Wh h46 x45 ih x8) (A2 EE 3 x20 (.fv (.int .i64 4)) fun x61=>Al x61 (Wy ih h24 x8) (YK x4 ih x2 x0 x8 x20 h24))
def Wi (x23:IV) (ih:Aa) (h24:Hp) (x8 x20 x4 x2 x0:IV):OH :=
 Al x23 (Aj [] false false ih 56 [] h24 fun x25 h26 _ _=>Ak 3 x8 x25 h26 fun h29 _ _=>Abr h29 x8) (A2 EE 3 x20 (.fv (.int .i64 2)) fun x33=>Al x33 (V9 ih h24 x8) (W8 x20 h24 x4 ih x8 x2 x0))
def Wq (ih:Aa) (x8 x20 x4 x2 x0:IV) (h21:Hp):OH :=
 (fun (j1_22:IV→Hp→OH)=>A2 EE 3 x20 (.fv (.int .i64 0)) fun x221=>Al x221 (j1_22 x221 h21) (A2 EE 3 x20 (.fv (.int .i64 1)) fun x222=>j1_22 x222 h21)) fun x23 h24=>Wi x23 ih h24 x8 x20 x4 x2 x0
def AbL (x15:IV) (j1_19:IV→Hp→OH) (h232:Hp):OH :=
 CP EE 3 .rem x15 (.fv (.int .i64 5)) fun x236=>j1_19 x236 h232
def Zt (x2:IV) (h16:Hp) (x15:IV) (j1_19:IV→Hp→OH):OH :=
 leS EE 3 x2 (.fv (.int .i64 0)) fun x223=>Ab x223 true h16 (fun k224=>k224 x15 h16 [] []) fun x225 h226 _ _=>Ab x223 true h226 (fun k229=>KU EE 3 x225 (.fv (.int .i64 4)) fun x230=>k229 x230 h226 [] []) fun x231 h232 _ _=>AF x223 x231 (.fv (.bool false)) fun x235=>Al x235 (AbL x15 j1_19 h232) (j1_19 x15 h232)
def S25 (ih:Aa) (n:Nat) (x0 x1 x2:IV) (h3:Hp):OH :=
 Bg 26214400 x1 h3 fun x4 h5 _ _=>AJ 26214401 (.row [.fv (.int .i64 0),.fv (.int .i64 0),.nils] false) (.ptr (.own 26214401) 0) h5 fun x8 h9 _ _=>Ac 0 x4 fun x12=>Af x12 h9 fun x13 _=>Aj [] false false ih 55 [x13,.fv (.int .i64 9)] h9 fun x15 h16 _ _=>(fun (j1_19:IV→Hp→OH)=>Zt x2 h16 x15 j1_19) fun x20 h21=>Wq ih x8 x20 x4 x2 x0 h21
theorem AkL (ih:Aa) (n:Nat) (x0 x1 x2:IV) (h3:Hp):AE EE ih ft.get n 25 [x0,x1,x2] h3=S25 ih n x0 x1 x2 h3:=by kernel_rfl
def ZV (h25:Hp) (x13 x29:IV):OH :=
 Ak 3 x13 x29 h25 fun h30 _ _=>AC true 3 x13 h30 fun x33=>Ao [x33,.fv (.bool false)] h30
def Ab5 (h91:Hp) (x13 x44:IV):OH :=
 AC true 3 x13 h91 fun x94=>Ao [x94,x44] h91
def YJ (h126:Hp) (x13 x129 x130:IV):OH :=
 Ak 3 x13 x129 h126 fun h131 _ _=>AC true 3 x13 h131 fun x134=>Ao [x134,x130] h131
def Aap (h117:Hp) (x5 x9:IV) (ih:Aa) (x0 x3 x13:IV):OH :=
 Ai 3 x5 h117 fun x121 _=>Ai 3 x9 h117 fun x123 _=>Aj [] false false ih 60 [x0,x121,x123,x3] h117 fun x125 h126 _ _=>AK 0 x125 fun x129=>AK 1 x125 fun x130=>YJ h126 x13 x129 x130
def Aci (ih:Aa) (h140:Hp) (x0 x141 x143 x3 x13:IV):OH :=
 Aj [] false false ih 61 [x0,x141,x143,x3] h140 fun x145 h146 _ _=>AK 0 x145 fun x149=>AK 1 x145 fun x150=>Ak 3 x13 x149 h146 fun h151 _ _=>AC true 3 x13 h151 fun x154=>Ao [x154,x150] h151
def YV (r209 w210:AH) (h208:Hp) (x13 x184:IV):OH :=
 Ad [] r209 w210 (AC true 3 x13 h208 fun x211=>Ao [x211,x184] h208)
def Aak (h189:Hp) (x196 x198:IV) (ih:Aa) (x13 x184:IV):OH :=
 Ax (Ah EE 29 2 [(0,x196),(1,x198)]) 27279365 h189 fun x200 h201 r202 w203=>Ad [] r202 w203 (Aj [] false false ih 27 [.fv (.int .i64 4),x200] h201 fun x204 h205 r206 w207=>Ad [] r206 w207 (Ak 3 x13 x204 h205 fun h208 r209 w210=>YV r209 w210 h208 x13 x184))
def W7 (x193:IV) (h189:Hp) (x185:IV) (r194:AH) (ih:Aa) (x13 x184:IV):OH :=
 Bf 3 x193 (.fv (.int .i64 0)) fun x195=>Ai 3 x195 h189 fun x196 r197=>Ad [] r197 [] (Ai 3 x185 h189 fun x198 r199=>Ad [(r197,[]),(r194,[])] r199 [] (Aak h189 x196 x198 ih x13 x184))
def Yd (h186:Hp) (x185 x183 x5:IV) (ih:Aa) (x13 x184:IV):OH :=
 Ak 3 x185 x183 h186 fun h189 r190 w191=>Ad [] r190 w191 (Ac 2 x5 fun x192=>Af x192 h189 fun x193 r194=>Ad [] r194 [] (W7 x193 h189 x185 r194 ih x13 x184))
def AbN (r181 w182:AH) (x179:IV) (h180:Hp) (r176 w177 r173 r171 r168 r164 w165 r161 r158:AH) (x5:IV) (ih:Aa) (x13:IV):OH :=
 Ad [] r181 w182 (AK 0 x179 fun x183=>AK 1 x179 fun x184=>AJ 27278354 (.row [.fv (.int .i64 0),.fv (.int .i64 0),.nils] false) (.ptr (.own 27278354) 0) h180 fun x185 h186 r187 w188=>Ad [(r181,w182),(r176,w177),(r173,[]),(r171,[]),(r168,[]),(r164,w165),(r161,[]),(r158,[])] r187 w188 (Yd h186 x185 x183 x5 ih x13 x184))
def Wc (r173 r171 r168 r164 w165 r161 r158:AH) (ih:Aa) (h163:Hp) (x172 x3 x162 x170 x5 x13:IV):OH :=
 Ad [(r171,[]),(r168,[]),(r164,w165),(r161,[]),(r158,[])] r173 [] (Aj [] false false ih 58 [x172,.fv (.int .i64 0)] h163 fun x174 h175 r176 w177=>Ad [(r171,[]),(r168,[])] r176 w177 (A9 EE 3 x3 (.fv (.int .i64 1)) fun x178=>Aj [] false false ih 26 [x162,x170,x174,x178] h175 fun x179 h180 r181 w182=>AbN r181 w182 x179 h180 r176 w177 r173 r171 r168 r164 w165 r161 r158 x5 ih x13))
def Aby (r168 r164 w165 r161 r158:AH) (x167:IV) (h163:Hp) (x9:IV) (ih:Aa) (x3 x162 x5 x13:IV):OH :=
 Ad [(r164,w165),(r161,[]),(r158,[])] r168 [] (Bf 3 x167 (.fv (.int .i64 1)) fun x169=>Ai 3 x169 h163 fun x170 r171=>Ad [(r164,w165),(r161,[]),(r158,[])] r171 [] (Ai 3 x9 h163 fun x172 r173=>Wc r173 r171 r168 r164 w165 r161 r158 ih h163 x172 x3 x162 x170 x5 x13))
def W9 (r161:AH) (ih:Aa) (h140:Hp) (x0 x160 x5:IV) (r158:AH) (x9 x3 x13:IV):OH :=
 Ad [] r161 [] (Aj [] false false ih 29 [x0,.fv (.int .i64 1),x160] h140 fun x162 h163 r164 w165=>Ad [] r164 w165 (Ac 2 x5 fun x166=>Af x166 h163 fun x167 r168=>Aby r168 r164 w165 r161 r158 x167 h163 x9 ih x3 x162 x5 x13))
def AbX (x5:IV) (h140:Hp) (ih:Aa) (x0 x9 x3 x13:IV):OH :=
 Ac 2 x5 fun x156=>Af x156 h140 fun x157 r158=>Ad [] r158 [] (Bf 3 x157 (.fv (.int .i64 0)) fun x159=>Ai 3 x159 h140 fun x160 r161=>W9 r161 ih h140 x0 x160 x5 r158 x9 x3 x13)
def Zk (h236:Hp) (x13 x240 x44:IV):OH :=
 Ak 3 x13 x240 h236 fun h242 _ _=>AC true 3 x13 h242 fun x245=>Ao [x245,x44] h242
def Abk (h275:Hp) (x278 x280 x282:IV) (ih:Aa) (x13 x270:IV):OH :=
 Ax (Ah EE 29 3 [(0,x278),(1,x280),(2,x282)]) 27285507 h275 fun x284 h285 _ _=>Aj [] false false ih 27 [.fv (.int .i64 7),x284] h285 fun x288 h289 _ _=>Ak 3 x13 x288 h289 fun h292 _ _=>AC true 3 x13 h292 fun x295=>Ao [x295,x270] h292
def Z5 (h272:Hp) (x271 x269 x5 x232:IV) (ih:Aa) (x13 x270:IV):OH :=
 Ak 3 x271 x269 h272 fun h275 r276 w277=>Ad [] r276 w277 (Ai 3 x5 h275 fun x278 _=>Ai 3 x232 h275 fun x280 _=>Ai 3 x271 h275 fun x282 _=>Abk h275 x278 x280 x282 ih x13 x270)
def We (r267 w268:AH) (x265:IV) (h266:Hp) (r262 w263 r259 r256 w257 r253 r251 r248:AH) (x5 x232:IV) (ih:Aa) (x13:IV):OH :=
 Ad [] r267 w268 (AK 0 x265 fun x269=>AK 1 x265 fun x270=>AJ 27284495 (.row [.fv (.int .i64 0),.fv (.int .i64 0),.nils] false) (.ptr (.own 27284495) 0) h266 fun x271 h272 r273 w274=>Ad [(r267,w268),(r262,w263),(r259,[]),(r256,w257),(r253,[]),(r251,[]),(r248,[])] r273 w274 (Z5 h272 x271 x269 x5 x232 ih x13 x270))
def AbR (r259 r256 w257 r253 r251 r248:AH) (ih:Aa) (h255:Hp) (x258 x3 x0 x254 x5 x232 x13:IV):OH :=
 Ad [(r256,w257),(r253,[]),(r251,[]),(r248,[])] r259 [] (Aj [] false false ih 58 [x258,.fv (.int .i64 1)] h255 fun x260 h261 r262 w263=>Ad [] r262 w263 (A9 EE 3 x3 (.fv (.int .i64 1)) fun x264=>Aj [] false false ih 26 [x0,x254,x260,x264] h261 fun x265 h266 r267 w268=>We r267 w268 x265 h266 r262 w263 r259 r256 w257 r253 r251 r248 x5 x232 ih x13))
def X8 (h236:Hp) (x232:IV) (r251 r248:AH) (ih:Aa) (x250 x9 x3 x0 x5 x13:IV):OH :=
 Ai 3 x232 h236 fun x252 r253=>Ad [(r251,[]),(r248,[])] r253 [] (Aj [] false false ih 30 [x250,.fv (.int .i64 0),x252] h236 fun x254 h255 r256 w257=>Ad [] r256 w257 (Ai 3 x9 h255 fun x258 r259=>AbR r259 r256 w257 r253 r251 r248 ih h255 x258 x3 x0 x254 x5 x232 x13))
def Xu (h236:Hp) (x246 x232:IV) (ih:Aa) (x9 x3 x0 x5 x13:IV):OH :=
 Af x246 h236 fun x247 r248=>Ad [] r248 [] (Bf 3 x247 (.fv (.int .i64 1)) fun x249=>Ai 3 x249 h236 fun x250 r251=>Ad [] r251 [] (X8 h236 x232 r251 r248 ih x250 x9 x3 x0 x5 x13))
def WE (h233:Hp) (x232 x230 x231 x45 x13 x44 x5:IV) (ih:Aa) (x9 x3 x0:IV):OH :=
 Ak 3 x232 x230 h233 fun h236 r237 w238=>Ad [] r237 w238 (CC (KS .not x231) fun x239=>Al x239 (Ai 3 x45 h236 fun x240 _=>Zk h236 x13 x240 x44) (Ac 2 x5 fun x246=>Xu h236 x246 x232 ih x9 x3 x0 x5 x13))
def Abw (r228 w229:AH) (x226:IV) (h227:Hp) (r223 w224 r220 r218 r215:AH) (x45 x13 x44 x5:IV) (ih:Aa) (x9 x3 x0:IV):OH :=
 Ad [] r228 w229 (AK 0 x226 fun x230=>AK 1 x226 fun x231=>AJ 27281421 (.row [.fv (.int .i64 0),.fv (.int .i64 0),.nils] false) (.ptr (.own 27281421) 0) h227 fun x232 h233 r234 w235=>Ad [(r228,w229),(r223,w224),(r220,[]),(r218,[]),(r215,[])] r234 w235 (WE h233 x232 x230 x231 x45 x13 x44 x5 ih x9 x3 x0))
def Y7 (r220 r218 r215:AH) (ih:Aa) (h140:Hp) (x219 x3 x0 x217 x45 x13 x44 x5 x9:IV):OH :=
 Ad [(r218,[]),(r215,[])] r220 [] (Aj [] false false ih 58 [x219,.fv (.int .i64 0)] h140 fun x221 h222 r223 w224=>Ad [(r218,[]),(r215,[])] r223 w224 (A9 EE 3 x3 (.fv (.int .i64 1)) fun x225=>Aj [] false false ih 26 [x0,x217,x221,x225] h222 fun x226 h227 r228 w229=>Abw r228 w229 x226 h227 r223 w224 r220 r218 r215 x45 x13 x44 x5 ih x9 x3 x0))
def V0 (r215:AH) (x214:IV) (h140:Hp) (x9:IV) (ih:Aa) (x3 x0 x45 x13 x44 x5:IV):OH :=
 Ad [] r215 [] (Bf 3 x214 (.fv (.int .i64 0)) fun x216=>Ai 3 x216 h140 fun x217 r218=>Ad [] r218 [] (Ai 3 x9 h140 fun x219 r220=>Y7 r220 r218 r215 ih h140 x219 x3 x0 x217 x45 x13 x44 x5 x9))
def Xg (h320:Hp) (x323:IV) (ih:Aa) (x13 x315:IV):OH :=
 Ax (Ah EE 29 1 [(0,x323)]) 27288577 h320 fun x325 h326 _ _=>Aj [] false false ih 27 [.fv (.int .i64 19),x325] h326 fun x329 h330 _ _=>Ak 3 x13 x329 h330 fun h333 _ _=>AC true 3 x13 h333 fun x336=>Ao [x336,x315] h333
def Aaq (h311:Hp) (r312 w313 r307 w308 r304 r302 r299:AH) (x314:IV) (ih:Aa) (x13 x315:IV):OH :=
 AJ 27287565 (.row [.fv (.int .i64 0),.fv (.int .i64 0),.nils] false) (.ptr (.own 27287565) 0) h311 fun x316 h317 r318 w319=>Ad [(r312,w313),(r307,w308),(r304,[]),(r302,[]),(r299,[])] r318 w319 (Ak 3 x316 x314 h317 fun h320 r321 w322=>Ad [] r321 w322 (Ai 3 x316 h320 fun x323 _=>Xg h320 x323 ih x13 x315))
def ZG (x3:IV) (ih:Aa) (h306:Hp) (x0 x301 x305:IV) (r307 w308 r304 r302 r299:AH) (x13:IV):OH :=
 A9 EE 3 x3 (.fv (.int .i64 1)) fun x309=>Aj [] false false ih 32 [x0,x301,x305,x309] h306 fun x310 h311 r312 w313=>Ad [] r312 w313 (AK 0 x310 fun x314=>AK 1 x310 fun x315=>Aaq h311 r312 w313 r307 w308 r304 r302 r299 x314 ih x13 x315)
def YG (r302:AH) (h140:Hp) (x9:IV) (r299:AH) (ih:Aa) (x3 x0 x301 x13:IV):OH :=
 Ad [] r302 [] (Ai 3 x9 h140 fun x303 r304=>Ad [(r302,[]),(r299,[])] r304 [] (Aj [] false false ih 58 [x303,.fv (.int .i64 0)] h140 fun x305 h306 r307 w308=>Ad [(r302,[]),(r299,[])] r307 w308 (ZG x3 ih h306 x0 x301 x305 r307 w308 r304 r302 r299 x13)))
def Aa6 (x5:IV) (h140:Hp) (x9:IV) (ih:Aa) (x3 x0 x13:IV):OH :=
 Ac 2 x5 fun x297=>Af x297 h140 fun x298 r299=>Ad [] r299 [] (Bf 3 x298 (.fv (.int .i64 0)) fun x300=>Ai 3 x300 h140 fun x301 r302=>YG r302 h140 x9 r299 ih x3 x0 x301 x13)
def Ze (h140:Hp) (x45 x13 x44:IV):OH :=
 Ai 3 x45 h140 fun x337 _=>Ak 3 x13 x337 h140 fun h339 _ _=>AC true 3 x13 h339 fun x342=>Ao [x342,x44] h339
def ZP (x136 x5:IV) (h140:Hp) (x9:IV) (ih:Aa) (x3 x0 x45 x13 x44:IV):OH :=
 A2 EE 3 x136 (.fv (.int .i64 6)) fun x212=>Al x212 (Ac 2 x5 fun x213=>Af x213 h140 fun x214 r215=>V0 r215 x214 h140 x9 ih x3 x0 x45 x13 x44 x5) (A2 EE 3 x136 (.fv (.int .i64 18)) fun x296=>Al x296 (Aa6 x5 h140 x9 ih x3 x0 x13) (Ze h140 x45 x13 x44))
def ZW (x139:IV) (h140:Hp) (x5 x9:IV) (ih:Aa) (x0 x3 x13 x136 x45 x44:IV):OH :=
 Al x139 (Ai 3 x5 h140 fun x141 _=>Ai 3 x9 h140 fun x143 _=>Aci ih h140 x0 x141 x143 x3 x13) (A2 EE 3 x136 (.fv (.int .i64 3)) fun x155=>Al x155 (AbX x5 h140 ih x0 x9 x3 x13) (ZP x136 x5 h140 x9 ih x3 x0 x45 x13 x44))
def Z9 (x136:IV) (j1_138:IV→Hp→OH) (h117:Hp):OH :=
 A2 EE 3 x136 (.fv (.int .i64 14)) fun x344=>Al x344 (j1_138 x344 h117) (A2 EE 3 x136 (.fv (.int .i64 2)) fun x345=>j1_138 x345 h117)
def Yr (x5:IV) (h117:Hp) (x9:IV) (ih:Aa) (x0 x3 x13 x45 x44:IV):OH :=
 Ac 0 x5 fun x135=>Af x135 h117 fun x136 _=>(fun (j1_138:IV→Hp→OH)=>A2 EE 3 x136 (.fv (.int .i64 10)) fun x343=>Al x343 (j1_138 x343 h117) (Z9 x136 j1_138 h117)) fun x139 h140=>ZW x139 h140 x5 x9 ih x0 x3 x13 x136 x45 x44
def YH (h99:Hp) (x95 x98:IV) (ih:Aa) (x5 x9 x0 x3 x13 x45 x44:IV):OH :=
 Ab x95 true h99 (fun k102=>Af x98 h99 fun x103 r104=>k102 x103 h99 r104 []) fun x105 h106 _ _=>Ab x95 true h106 (fun k109=>Aj [] false false ih 55 [x105,.fv (.int .i64 7)] h106 k109) fun x110 h111 _ _=>Ab x95 true h111 (fun k114=>A2 EE 3 x110 (.fv (.int .i64 6)) fun x115=>k114 x115 h111 [] []) fun x116 h117 _ _=>AF x95 x116 (.fv (.bool false)) fun x120=>Al x120 (Aap h117 x5 x9 ih x0 x3 x13) (Yr x5 h117 x9 ih x0 x3 x13 x45 x44)
def Zi (x88:IV) (h85:Hp) (x45 x13 x44 x3 x9:IV) (ih:Aa) (x5 x0:IV):OH :=
 Al x88 (Ai 3 x45 h85 fun x89 _=>Ak 3 x13 x89 h85 fun h91 _ _=>Ab5 h91 x13 x44) (KU EE 3 x3 (.fv (.int .i64 0)) fun x95=>Ab x95 true h85 (fun k96=>Ac 0 x9 fun x97=>k96 x97 h85 [] []) fun x98 h99 _ _=>YH h99 x95 x98 ih x5 x9 x0 x3 x13 x45 x44)
def AbT (h67:Hp) (x44 x66 x3 x45 x13 x9:IV) (ih:Aa) (x5 x0:IV):OH :=
 Ab x44 true h67 (fun k70=>A2 EE 3 x66 (.fv (.int .i64 0)) fun x71=>k70 x71 h67 [] []) fun x72 h73 _ _=>AF x44 x72 (.fv (.bool false)) fun x76=>Ab x76 false h73 (fun k77=>k77 x3 h73 [] []) fun x78 h79 _ _=>Ab x76 false h79 (fun k82=>Hg EE 3 x78 (.fv (.int .i64 (-4))) fun x83=>k82 x83 h79 [] []) fun x84 h85 _ _=>AF x76 (.fv (.bool true)) x84 fun x88=>Zi x88 h85 x45 x13 x44 x3 x9 ih x5 x0
def AbC (h40:Hp) (x43 x44 x9:IV) (ih:Aa) (x3 x13 x5 x0:IV):OH :=
 AJ 27267080 (.row [.fv (.int .i64 0),.fv (.int .i64 0),.nils] false) (.ptr (.own 27267080) 0) h40 fun x45 h46 _ _=>Ak 3 x45 x43 h46 fun h49 _ _=>Ab x44 true h49 (fun k52=>Ac 0 x9 fun x53=>k52 x53 h49 [] []) fun x54 h55 _ _=>Ab x44 true h55 (fun k58=>Af x54 h55 fun x59 r60=>k58 x59 h55 r60 []) fun x61 h62 _ _=>Ab x44 true h62 (fun k65=>Aj [] false false ih 55 [x61,.fv (.int .i64 3)] h62 k65) fun x66 h67 _ _=>AbT h67 x44 x66 x3 x45 x13 x9 ih x5 x0
def WV (x9:IV) (h25:Hp) (ih:Aa) (x0 x34 x3 x13 x5:IV):OH :=
 Ac 1 x9 fun x36=>Af x36 h25 fun x37 _=>Aj [] false false ih 59 [x0,.fv (.int .i64 1),x34,x37] h25 fun x39 h40 _ _=>AK 0 x39 fun x43=>AK 1 x39 fun x44=>AbC h40 x43 x44 x9 ih x3 x13 x5 x0
def XM (x19:IV) (h20:Hp) (x5 x23 x13 x9:IV) (ih:Aa) (x0 x3:IV):OH :=
 AK 1 x19 fun x24=>Ak 3 x5 x23 h20 fun h25 _ _=>IH EE 3 x24 (.fv (.int .i64 0)) fun x28=>Al x28 (Bv [.fv (.int .i64 0),.fv (.int .i64 0),.nils] [] fun x29=>ZV h25 x13 x29) (Ai 3 x5 h25 fun x34 _=>WV x9 h25 ih x0 x34 x3 x13 x5)
def S26 (ih:Aa) (n:Nat) (x0 x1 x2 x3:IV) (h4:Hp):OH :=
 Bg 27262976 x1 h4 fun x5 h6 _ _=>Bg 27262977 x2 h6 fun x9 h10 _ _=>AJ 27262978 (.row [.fv (.int .i64 0),.fv (.int .i64 0),.nils] false) (.ptr (.own 27262978) 0) h10 fun x13 h14 _ _=>Ai 3 x5 h14 fun x17 _=>Aj [] false false ih 18 [x17] h14 fun x19 h20 _ _=>AK 0 x19 fun x23=>XM x19 h20 x5 x23 x13 x9 ih x0 x3
theorem AjG (ih:Aa) (n:Nat) (x0 x1 x2 x3:IV) (h4:Hp):AE EE ih ft.get n 26 [x0,x1,x2,x3] h4=S26 ih n x0 x1 x2 x3 h4:=by kernel_rfl
def S27 (ih:Aa) (n:Nat) (x0 x1:IV) (h2:Hp):OH :=
 AJ 28311552 (.row [.fv (.int .i64 0),.fv (.int .i64 0),.nils] false) (.ptr (.own 28311552) 0) h2 fun x3 h4 _ _=>Bv [.fv (.int .i64 0),.fv (.int .i64 0),.nils] [(0,1,x0),(2,1,x1)] fun x7=>Ak 3 x3 x7 h4 fun h8 _ _=>AC true 3 x3 h8 fun x11=>Ao [x11] h8
theorem AlQ (ih:Aa) (n:Nat) (x0 x1:IV) (h2:Hp):AE EE ih ft.get n 27 [x0,x1] h2=S27 ih n x0 x1 h2:=by kernel_rfl
def UW (r25 w26:AH) (h24:Hp) (x23:IV):OH :=
 Ad [] r25 w26 (Ao [x23] h24)
def U6 (r17 r14 w15 r10 w11:AH) (x1 x16:IV) (h13:Hp) (x12:IV):OH :=
 Ad [(r14,w15),(r10,w11)] r17 [] (Bv [.fv (.int .i64 0),.fv (.int .i64 0),.fv (.int .i64 0),.nils] [(0,1,x1),(1,3,x16)] fun x18=>Ax (Ah EE 28 1 [(0,x18)]) 30409734 h13 fun x19 h20 r21 w22=>Ad [(r14,w15),(r10,w11)] r21 w22 (Ax (AT EE 30409735 false .append [28,28] [x12,x19]) 30409735 h20 fun x23 h24 r25 w26=>UW r25 w26 h24 x23))
def S29 (ih:Aa) (n:Nat) (x0 x1 x2:IV) (h3:Hp):OH :=
 Bg 30408704 x2 h3 fun x4 h5 _ _=>Ax (Ah EE 28 0 []) 30409728 h5 fun x8 h9 r10 w11=>Ad [] r10 w11 (Ax (AT EE 30409730 false .append [28,28] [x8,x0]) 30409730 h9 fun x12 h13 r14 w15=>Ad [] r14 w15 (Ai 3 x4 h13 fun x16 r17=>U6 r17 r14 w15 r10 w11 x1 x16 h13 x12))
theorem AjE (ih:Aa) (n:Nat) (x0 x1 x2:IV) (h3:Hp):AE EE ih ft.get n 29 [x0,x1,x2] h3=S29 ih n x0 x1 x2 h3:=by kernel_rfl
def Aez (h21:Hp) (x12 x20:IV):OH :=
 Ak 3 x12 x20 h21 fun h24 _ _=>AC true 3 x12 h24 fun x27=>Ao [x27] h24
def S30 (ih:Aa) (n:Nat) (x0 x1 x2:IV) (h3:Hp):OH :=
 Bg 31457280 x0 h3 fun x4 h5 _ _=>Bg 31457281 x2 h5 fun x8 h9 _ _=>AJ 31457282 (.row [.fv (.int .i64 0),.fv (.int .i64 0),.nils] false) (.ptr (.own 31457282) 0) h9 fun x12 h13 _ _=>Ai 3 x4 h13 fun x16 _=>Ai 3 x8 h13 fun x18 _=>Aj [] false false ih 62 [x16,x1,.fv (.int .i64 0),x18] h13 fun x20 h21 _ _=>Aez h21 x12 x20
theorem Amk (ih:Aa) (n:Nat) (x0 x1 x2:IV) (h3:Hp):AE EE ih ft.get n 30 [x0,x1,x2] h3=S30 ih n x0 x1 x2 h3:=by kernel_rfl
def Gm (h68:Hp) (x71 x67 x36:IV) (h3:Hp) (x31 x32 x33 x34 x35:IV) (q28:List IV→Hp→OH):OH :=
 Bj x71 x67 h68 fun h72 r73 w74=>Ad [] r73 w74 (BF EE 3 x36 (.fv (.int .i64 1)) fun x75=>Bt (h3.own.map (·.1)) [32513040] [x31,x32,x33,x34,x35,x75] h72 fun h76=>q28 [x31,x32,x33,x34,x35,x75] h76)
def FQ (h60:Hp) (x59:IV) (r44:AH) (x43 x35 x36:IV) (h3:Hp) (x31 x32 x33 x34:IV) (q28:List IV→Hp→OH):OH :=
 Ax (Ah EE 29 1 [(0,x59)]) 32513039 h60 fun x63 h64 r65 w66=>Ad [(r44,[])] r65 w66 (Ax (AT EE 32513040 false .append [29,29] [x43,x63]) 32513040 h64 fun x67 h68 r69 w70=>Ad [] r69 w70 (Ac 2 x35 fun x71=>Gm h68 x71 x67 x36 h3 x31 x32 x33 x34 x35 q28))
def F6 (ih:Aa) (h30:Hp) (x52 x36:IV) (r50 r47 r44:AH) (x32 x49 x31 x43 x35:IV) (h3:Hp) (x33 x34:IV) (q28:List IV→Hp→OH):OH :=
 Aj [] false false ih 63 [x52,x36] h30 fun x54 h55 r56 w57=>Ad [(r50,[]),(r47,[]),(r44,[])] r56 w57 (BF EE 3 x32 x54 fun x58=>Aj [] false false ih 31 [x49,x31,x58] h55 fun x59 h60 r61 w62=>Ad [(r44,[])] r61 w62 (FQ h60 x59 r44 x43 x35 x36 h3 x31 x32 x33 x34 q28))
def Gd (h30:Hp) (x48:IV) (r44:AH) (x33:IV) (r47:AH) (ih:Aa) (x36 x32 x31 x43 x35:IV) (h3:Hp) (x34:IV) (q28:List IV→Hp→OH):OH :=
 Ai 3 x48 h30 fun x49 r50=>Ad [(r44,[])] r50 [] (Ac 0 x33 fun x51=>Af x51 h30 fun x52 r53=>Ad [(r50,[]),(r47,[]),(r44,[])] r53 [] (F6 ih h30 x52 x36 r50 r47 r44 x32 x49 x31 x43 x35 h3 x33 x34 q28))
def FY (r44:AH) (x33:IV) (h30:Hp) (x36:IV) (ih:Aa) (x32 x31 x43 x35:IV) (h3:Hp) (x34:IV) (q28:List IV→Hp→OH):OH :=
 Ad [] r44 [] (Ac 2 x33 fun x45=>Af x45 h30 fun x46 r47=>Ad [(r44,[])] r47 [] (Bf 3 x46 x36 fun x48=>Gd h30 x48 r44 x33 r47 ih x36 x32 x31 x43 x35 h3 x34 q28))
def Gg (h79:Hp) (x34:IV):OH :=
 AC true 3 x34 h79 fun x82=>Ao [x82] h79
def FO (x41 x35:IV) (h30:Hp) (x33 x36:IV) (ih:Aa) (x32 x31:IV) (h3:Hp) (x34:IV) (q28:List IV→Hp→OH):OH :=
 Al x41 (Ac 2 x35 fun x42=>Af x42 h30 fun x43 r44=>FY r44 x33 h30 x36 ih x32 x31 x43 x35 h3 x34 q28) (Ai 3 x35 h30 fun x77 _=>Ak 3 x34 x77 h30 fun h79 _ _=>Gg h79 x34)
def Ge (l87:List IV) (x33:IV) (h30:Hp) (x35:IV) (ih:Aa) (x32 x31:IV) (h3:Hp) (x34:IV) (q28:List IV→Hp→OH):OH :=
 AA l87 fun x36 _=>Ac 2 x33 fun x37=>Af x37 h30 fun x38 _=>Ca x38 fun x40=>Hg EE 3 x36 x40 fun x41=>FO x41 x35 h30 x33 x36 ih x32 x31 h3 x34 q28
def II (l29:List IV) (h30:Hp) (ih:Aa) (h3:Hp) (q28:List IV→Hp→OH):OH :=
 AA l29 fun x31 l83=>AA l83 fun x32 l84=>AA l84 fun x33 l85=>AA l85 fun x34 l86=>AA l86 fun x35 l87=>Ge l87 x33 h30 x35 ih x32 x31 h3 x34 q28
def Gl (h3 h27:Hp) (x1 x2 x4 x8 x19:IV) (n:Nat) (ih:Aa):OH :=
 Bt (h3.own.map (·.1)) [32513040] [x1,x2,x4,x8,x19,.fv (.int .i64 0)] h27 fun h89=>BD n (fun q28 l29 h30=>II l29 h30 ih h3 q28) [x1,x2,x4,x8,x19,.fv (.int .i64 0)] h89
def F9 (h115:Hp) (x119 x1 x19:IV) (j0_26:Hp→OH):OH :=
 Af x119 h115 fun x120 _=>BF EE 3 x120 x1 fun x122=>Ac 1 x19 fun x123=>Bj x123 x122 h115 fun h124 _ _=>j0_26 h124
def F4 (h109:Hp) (x93 x103 x108 x4 x1 x19:IV) (j0_26:Hp→OH):OH :=
 Ab x93 true h109 (fun k112=>geS EE 3 x103 x108 fun x113=>k112 x113 h109 [] []) fun x114 h115 _ _=>AF x93 x114 (.fv (.bool false)) fun x118=>Al x118 (Ac 1 x4 fun x119=>F9 h115 x119 x1 x19 j0_26) (j0_26 h115)
def F8 (h23:Hp) (x90 x4 x2 x1 x19:IV) (j0_26:Hp→OH):OH :=
 Af x90 h23 fun x91 _=>A2 EE 3 x91 (.fv (.int .i64 1)) fun x93=>Ab x93 true h23 (fun k94=>Ac 1 x4 fun x95=>k94 x95 h23 [] []) fun x96 h97 _ _=>Ab x93 true h97 (fun k100=>Af x96 h97 fun x101 r102=>k100 x101 h97 r102 []) fun x103 h104 _ _=>Ab x93 true h104 (fun k107=>k107 x2 h104 [] []) fun x108 h109 _ _=>F4 h109 x93 x103 x108 x4 x1 x19 j0_26
def FN (x13 x16:IV) (h9 h3:Hp) (x1 x2 x4 x8:IV) (n:Nat) (ih:Aa):OH :=
 Bv [.fv (.int .i64 0),.fv (.int .i64 0),.nils] [(0,1,x13),(1,1,x16)] fun x18=>AJ 32506885 (.row [.fv (.int .i64 0),.fv (.int .i64 0),.nils] false) (.ptr (.own 32506885) 0) h9 fun x19 h20 _ _=>Ak 3 x19 x18 h20 fun h23 _ _=>(fun (j0_26:Hp→OH)=>Ac 0 x4 fun x90=>F8 h23 x90 x4 x2 x1 x19 j0_26) fun h27=>Gl h3 h27 x1 x2 x4 x8 x19 n ih
def S31 (ih:Aa) (n:Nat) (x0 x1 x2:IV) (h3:Hp):OH :=
 Bg 32505856 x0 h3 fun x4 h5 _ _=>AJ 32505857 (.row [.fv (.int .i64 0),.fv (.int .i64 0),.nils] false) (.ptr (.own 32505857) 0) h5 fun x8 h9 _ _=>Ac 0 x4 fun x12=>Af x12 h9 fun x13 _=>Ac 1 x4 fun x15=>Af x15 h9 fun x16 _=>FN x13 x16 h9 h3 x1 x2 x4 x8 n ih
theorem AkY (ih:Aa) (n:Nat) (x0 x1 x2:IV) (h3:Hp):AE EE ih ft.get n 31 [x0,x1,x2] h3=S31 ih n x0 x1 x2 h3:=by kernel_rfl
def V7 (h25:Hp) (x13 x29:IV):OH :=
 Ak 3 x13 x29 h25 fun h30 _ _=>AC true 3 x13 h30 fun x33=>Ao [x33,.fv (.bool false)] h30
def YZ (h91:Hp) (x13 x44:IV):OH :=
 AC true 3 x13 h91 fun x94=>Ao [x94,x44] h91
def V1 (h126:Hp) (x13 x129 x130:IV):OH :=
 Ak 3 x13 x129 h126 fun h131 _ _=>AC true 3 x13 h131 fun x134=>Ao [x134,x130] h131
def X4 (h117:Hp) (x5 x9:IV) (ih:Aa) (x0 x3 x13:IV):OH :=
 Ai 3 x5 h117 fun x121 _=>Ai 3 x9 h117 fun x123 _=>Aj [] false false ih 64 [x0,x121,x123,x3] h117 fun x125 h126 _ _=>AK 0 x125 fun x129=>AK 1 x125 fun x130=>V1 h126 x13 x129 x130
def WG (h221:Hp) (x179 x201 x13 x224:IV):OH :=
 Ab x179 true h221 (fun k225=>k225 x201 h221 [] []) fun x226 h227 _ _=>AF x179 x226 (.fv (.bool false)) fun x230=>Ak 3 x13 x224 h227 fun h231 r232 w233=>Ad [] r232 w233 (AC true 3 x13 h231 fun x234=>Ao [x234,x230] h231)
def YF (h213:Hp) (x202:IV) (r217 r214 w215 r211:AH) (x216 x212 x179 x201 x13:IV):OH :=
 Ai 3 x202 h213 fun x218 r219=>Ad [(r217,[]),(r214,w215),(r211,[])] r219 [] (Ax (Ah EE 29 2 [(0,x216),(1,x218)]) 33568773 h213 fun x220 h221 r222 w223=>Ad [(r214,w215),(r211,[])] r222 w223 (Bv [.fv (.int .i64 0),.fv (.int .i64 0),.nils] [(0,1,.fv (.int .i64 26)),(1,1,x212),(2,1,x220)] fun x224=>WG h221 x179 x201 x13 x224))
def AaM (r211:AH) (ih:Aa) (h206:Hp) (x210 x180 x202 x179 x201 x13:IV):OH :=
 Ad [] r211 [] (Aj [] false false ih 55 [x210,.fv (.int .i64 5)] h206 fun x212 h213 r214 w215=>Ad [] r214 w215 (Ai 3 x180 h213 fun x216 r217=>Ad [(r214,w215),(r211,[])] r217 [] (YF h213 x202 r217 r214 w215 r211 x216 x212 x179 x201 x13)))
def YA (r204 w205 r198 w199 r193 w194 r190 r188:AH) (h203:Hp) (x202 x200 x9:IV) (ih:Aa) (x180 x179 x201 x13:IV):OH :=
 Ad [(r198,w199),(r193,w194),(r190,[]),(r188,[])] r204 w205 (Ak 3 x202 x200 h203 fun h206 r207 w208=>Ad [] r207 w208 (Ac 1 x9 fun x209=>Af x209 h206 fun x210 r211=>AaM r211 ih h206 x210 x180 x202 x179 x201 x13))
def Aah (ih:Aa) (h192:Hp) (x0 x187 x191 x195:IV) (r193 w194 r190 r188:AH) (x9 x180 x179 x13:IV):OH :=
 Aj [] false false ih 32 [x0,x187,x191,x195] h192 fun x196 h197 r198 w199=>Ad [] r198 w199 (AK 0 x196 fun x200=>AK 1 x196 fun x201=>AJ 33567754 (.row [.fv (.int .i64 0),.fv (.int .i64 0),.nils] false) (.ptr (.own 33567754) 0) h197 fun x202 h203 r204 w205=>YA r204 w205 r198 w199 r193 w194 r190 r188 h203 x202 x200 x9 ih x180 x179 x201 x13)
def AbO (h184:Hp) (x9:IV) (r188:AH) (ih:Aa) (x3 x0 x187 x180 x179 x13:IV):OH :=
 Ai 3 x9 h184 fun x189 r190=>Ad [(r188,[])] r190 [] (Aj [] false false ih 58 [x189,.fv (.int .i64 1)] h184 fun x191 h192 r193 w194=>Ad [(r188,[])] r193 w194 (A9 EE 3 x3 (.fv (.int .i64 1)) fun x195=>Aah ih h192 x0 x187 x191 x195 r193 w194 r190 r188 x9 x180 x179 x13))
def Ab9 (r182 w183 r176 w177 r171 w172 r168 r166:AH) (h181:Hp) (x180 x178 x5 x9:IV) (ih:Aa) (x3 x0 x179 x13:IV):OH :=
 Ad [(r176,w177),(r171,w172),(r168,[]),(r166,[])] r182 w183 (Ak 3 x180 x178 h181 fun h184 r185 w186=>Ad [] r185 w186 (Ai 3 x5 h184 fun x187 r188=>Ad [] r188 [] (AbO h184 x9 r188 ih x3 x0 x187 x180 x179 x13)))
def AaN (ih:Aa) (h170:Hp) (x0 x165 x169 x173:IV) (r171 w172 r168 r166:AH) (x5 x9 x3 x13:IV):OH :=
 Aj [] false false ih 32 [x0,x165,x169,x173] h170 fun x174 h175 r176 w177=>Ad [] r176 w177 (AK 0 x174 fun x178=>AK 1 x174 fun x179=>AJ 33566730 (.row [.fv (.int .i64 0),.fv (.int .i64 0),.nils] false) (.ptr (.own 33566730) 0) h175 fun x180 h181 r182 w183=>Ab9 r182 w183 r176 w177 r171 w172 r168 r166 h181 x180 x178 x5 x9 ih x3 x0 x179 x13)
def X5 (h161:Hp) (x9:IV) (r166:AH) (ih:Aa) (x3 x0 x165 x5 x13:IV):OH :=
 Ai 3 x9 h161 fun x167 r168=>Ad [(r166,[])] r168 [] (Aj [] false false ih 58 [x167,.fv (.int .i64 0)] h161 fun x169 h170 r171 w172=>Ad [(r166,[])] r171 w172 (A9 EE 3 x3 (.fv (.int .i64 1)) fun x173=>AaN ih h170 x0 x165 x169 x173 r171 w172 r168 r166 x5 x9 x3 x13))
def VY (ih:Aa) (h161:Hp) (x236 x13:IV):OH :=
 Aj [] false false ih 55 [x236,.fv (.int .i64 20)] h161 fun x238 h239 _ _=>A9 EE 3 x238 (.fv (.int .i64 5)) fun x242=>Aj [] false false ih 43 [x242] h239 fun x243 h244 _ _=>Ak 3 x13 x243 h244 fun h247 _ _=>AC true 3 x13 h247 fun x250=>Ao [x250,.fv (.bool true)] h247
def Abz (x164:IV) (h161:Hp) (x5 x9:IV) (ih:Aa) (x3 x0 x13:IV):OH :=
 Al x164 (Ai 3 x5 h161 fun x165 r166=>Ad [] r166 [] (X5 h161 x9 r166 ih x3 x0 x165 x5 x13)) (Ac 1 x9 fun x235=>Af x235 h161 fun x236 _=>VY ih h161 x236 x13)
def Aa0 (h117:Hp) (x139 x9:IV) (ih:Aa) (x5 x3 x0 x13:IV):OH :=
 Ab x139 true h117 (fun k140=>Ac 0 x9 fun x141=>k140 x141 h117 [] []) fun x142 h143 _ _=>Ab x139 true h143 (fun k146=>Af x142 h143 fun x147 r148=>k146 x147 h143 r148 []) fun x149 h150 _ _=>Ab x139 true h150 (fun k153=>Aj [] false false ih 55 [x149,.fv (.int .i64 2)] h150 k153) fun x154 h155 _ _=>Ab x139 true h155 (fun k158=>A2 EE 3 x154 (.fv (.int .i64 1)) fun x159=>k158 x159 h155 [] []) fun x160 h161 _ _=>AF x139 x160 (.fv (.bool false)) fun x164=>Abz x164 h161 x5 x9 ih x3 x0 x13
def AbZ (r309 w310:AH) (h308:Hp) (x13 x284:IV):OH :=
 Ad [] r309 w310 (AC true 3 x13 h308 fun x311=>Ao [x311,x284] h308)
def YB (h289:Hp) (x296 x298:IV) (ih:Aa) (x13 x284:IV):OH :=
 Ax (Ah EE 29 2 [(0,x296),(1,x298)]) 33572869 h289 fun x300 h301 r302 w303=>Ad [] r302 w303 (Aj [] false false ih 27 [.fv (.int .i64 20),x300] h301 fun x304 h305 r306 w307=>Ad [] r306 w307 (Ak 3 x13 x304 h305 fun h308 r309 w310=>AbZ r309 w310 h308 x13 x284))
def Zx (x293:IV) (h289:Hp) (x285:IV) (r294:AH) (ih:Aa) (x13 x284:IV):OH :=
 Bf 3 x293 (.fv (.int .i64 0)) fun x295=>Ai 3 x295 h289 fun x296 r297=>Ad [] r297 [] (Ai 3 x285 h289 fun x298 r299=>Ad [(r297,[]),(r294,[])] r299 [] (YB h289 x296 x298 ih x13 x284))
def AaL (h286:Hp) (x285 x283 x5:IV) (ih:Aa) (x13 x284:IV):OH :=
 Ak 3 x285 x283 h286 fun h289 r290 w291=>Ad [] r290 w291 (Ac 2 x5 fun x292=>Af x292 h289 fun x293 r294=>Ad [] r294 [] (Zx x293 h289 x285 r294 ih x13 x284))
def X2 (r281 w282:AH) (x279:IV) (h280:Hp) (r276 w277 r273 r270 w271 r267 r264 r260 w261 r257 r254:AH) (x5:IV) (ih:Aa) (x13:IV):OH :=
 Ad [] r281 w282 (AK 0 x279 fun x283=>AK 1 x279 fun x284=>AJ 33571859 (.row [.fv (.int .i64 0),.fv (.int .i64 0),.nils] false) (.ptr (.own 33571859) 0) h280 fun x285 h286 r287 w288=>Ad [(r281,w282),(r276,w277),(r273,[]),(r270,w271),(r267,[]),(r264,[]),(r260,w261),(r257,[]),(r254,[])] r287 w288 (AaL h286 x285 x283 x5 ih x13 x284))
def XH (r273 r270 w271 r267 r264 r260 w261 r257 r254:AH) (ih:Aa) (h269:Hp) (x272 x3 x258 x268 x5 x13:IV):OH :=
 Ad [(r270,w271),(r267,[]),(r264,[]),(r260,w261),(r257,[]),(r254,[])] r273 [] (Aj [] false false ih 58 [x272,.fv (.int .i64 0)] h269 fun x274 h275 r276 w277=>Ad [] r276 w277 (A9 EE 3 x3 (.fv (.int .i64 1)) fun x278=>Aj [] false false ih 32 [x258,x268,x274,x278] h275 fun x279 h280 r281 w282=>X2 r281 w282 x279 h280 r276 w277 r273 r270 w271 r267 r264 r260 w261 r257 r254 x5 ih x13))
def Zv (h259:Hp) (x265:IV) (r260 w261 r257 r254:AH) (ih:Aa) (x9:IV) (r264:AH) (x3 x258 x5 x13:IV):OH :=
 Ai 3 x265 h259 fun x266 r267=>Ad [(r260,w261),(r257,[]),(r254,[])] r267 [] (Aj [] false false ih 31 [x266,.fv (.int .i64 1),.fv (.int .i64 0)] h259 fun x268 h269 r270 w271=>Ad [] r270 w271 (Ai 3 x9 h269 fun x272 r273=>XH r273 r270 w271 r267 r264 r260 w261 r257 r254 ih h269 x272 x3 x258 x268 x5 x13))
def WI (r260 w261:AH) (x5:IV) (h259:Hp) (r257 r254:AH) (ih:Aa) (x9 x3 x258 x13:IV):OH :=
 Ad [] r260 w261 (Ac 2 x5 fun x262=>Af x262 h259 fun x263 r264=>Ad [(r260,w261),(r257,[]),(r254,[])] r264 [] (Bf 3 x263 (.fv (.int .i64 1)) fun x265=>Zv h259 x265 r260 w261 r257 r254 ih x9 r264 x3 x258 x5 x13))
def Aaf (r254:AH) (x253:IV) (h117:Hp) (ih:Aa) (x0 x5 x9 x3 x13:IV):OH :=
 Ad [] r254 [] (Bf 3 x253 (.fv (.int .i64 0)) fun x255=>Ai 3 x255 h117 fun x256 r257=>Ad [] r257 [] (Aj [] false false ih 29 [x0,.fv (.int .i64 0),x256] h117 fun x258 h259 r260 w261=>WI r260 w261 x5 h259 r257 r254 ih x9 x3 x258 x13))
def WZ (h383:Hp) (x13 x382:IV):OH :=
 AC true 3 x13 h383 fun x386=>Ao [x386,x382] h383
def Ach (h362:Hp) (x365 x367:IV) (ih:Aa) (x331 x357 x13:IV):OH :=
 Ax (Ah EE 29 2 [(0,x365),(1,x367)]) 33576962 h362 fun x369 h370 _ _=>Aj [] false false ih 27 [.fv (.int .i64 22),x369] h370 fun x373 h374 _ _=>Ab x331 true h374 (fun k377=>k377 x357 h374 [] []) fun x378 h379 _ _=>AF x331 x378 (.fv (.bool false)) fun x382=>Ak 3 x13 x373 h379 fun h383 _ _=>WZ h383 x13 x382
def Aae (r360 w361 r354 w355 r349 w350 r346 r344 r341:AH) (h359:Hp) (x358 x356 x332:IV) (ih:Aa) (x331 x357 x13:IV):OH :=
 Ad [(r354,w355),(r349,w350),(r346,[]),(r344,[]),(r341,[])] r360 w361 (Ak 3 x358 x356 h359 fun h362 r363 w364=>Ad [] r363 w364 (Ai 3 x332 h362 fun x365 _=>Ai 3 x358 h362 fun x367 _=>Ach h362 x365 x367 ih x331 x357 x13))
def Zr (ih:Aa) (h348:Hp) (x0 x343 x347 x351:IV) (r349 w350 r346 r344 r341:AH) (x332 x331 x13:IV):OH :=
 Aj [] false false ih 32 [x0,x343,x347,x351] h348 fun x352 h353 r354 w355=>Ad [] r354 w355 (AK 0 x352 fun x356=>AK 1 x352 fun x357=>AJ 33575949 (.row [.fv (.int .i64 0),.fv (.int .i64 0),.nils] false) (.ptr (.own 33575949) 0) h353 fun x358 h359 r360 w361=>Aae r360 w361 r354 w355 r349 w350 r346 r344 r341 h359 x358 x356 x332 ih x331 x357 x13)
def Z4 (h336:Hp) (x9:IV) (r344 r341:AH) (ih:Aa) (x3 x0 x343 x332 x331 x13:IV):OH :=
 Ai 3 x9 h336 fun x345 r346=>Ad [(r344,[]),(r341,[])] r346 [] (Aj [] false false ih 58 [x345,.fv (.int .i64 1)] h336 fun x347 h348 r349 w350=>Ad [(r344,[]),(r341,[])] r349 w350 (A9 EE 3 x3 (.fv (.int .i64 1)) fun x351=>Zr ih h348 x0 x343 x347 x351 r349 w350 r346 r344 r341 x332 x331 x13))
def Abm (h336:Hp) (x339 x9:IV) (ih:Aa) (x3 x0 x332 x331 x13:IV):OH :=
 Af x339 h336 fun x340 r341=>Ad [] r341 [] (Bf 3 x340 (.fv (.int .i64 1)) fun x342=>Ai 3 x342 h336 fun x343 r344=>Ad [] r344 [] (Z4 h336 x9 r344 r341 ih x3 x0 x343 x332 x331 x13))
def Acf (h327:Hp) (r328 w329 r323 w324 r320 r318 r315:AH) (x330 x5 x9:IV) (ih:Aa) (x3 x0 x331 x13:IV):OH :=
 AJ 33574925 (.row [.fv (.int .i64 0),.fv (.int .i64 0),.nils] false) (.ptr (.own 33574925) 0) h327 fun x332 h333 r334 w335=>Ad [(r328,w329),(r323,w324),(r320,[]),(r318,[]),(r315,[])] r334 w335 (Ak 3 x332 x330 h333 fun h336 r337 w338=>Ad [] r337 w338 (Ac 2 x5 fun x339=>Abm h336 x339 x9 ih x3 x0 x332 x331 x13))
def ZF (x3:IV) (ih:Aa) (h322:Hp) (x0 x317 x321:IV) (r323 w324 r320 r318 r315:AH) (x5 x9 x13:IV):OH :=
 A9 EE 3 x3 (.fv (.int .i64 1)) fun x325=>Aj [] false false ih 32 [x0,x317,x321,x325] h322 fun x326 h327 r328 w329=>Ad [] r328 w329 (AK 0 x326 fun x330=>AK 1 x326 fun x331=>Acf h327 r328 w329 r323 w324 r320 r318 r315 x330 x5 x9 ih x3 x0 x331 x13)
def Ab0 (r318:AH) (h117:Hp) (x9:IV) (r315:AH) (ih:Aa) (x3 x0 x317 x5 x13:IV):OH :=
 Ad [] r318 [] (Ai 3 x9 h117 fun x319 r320=>Ad [(r318,[]),(r315,[])] r320 [] (Aj [] false false ih 58 [x319,.fv (.int .i64 0)] h117 fun x321 h322 r323 w324=>Ad [(r318,[]),(r315,[])] r323 w324 (ZF x3 ih h322 x0 x317 x321 r323 w324 r320 r318 r315 x5 x9 x13)))
def Wj (x5:IV) (h117:Hp) (x9:IV) (ih:Aa) (x3 x0 x13:IV):OH :=
 Ac 2 x5 fun x313=>Af x313 h117 fun x314 r315=>Ad [] r315 [] (Bf 3 x314 (.fv (.int .i64 0)) fun x316=>Ai 3 x316 h117 fun x317 r318=>Ab0 r318 h117 x9 r315 ih x3 x0 x317 x5 x13)
def YE (h117:Hp) (x45 x13 x44:IV):OH :=
 Ai 3 x45 h117 fun x387 _=>Ak 3 x13 x387 h117 fun h389 _ _=>AC true 3 x13 h389 fun x392=>Ao [x392,x44] h389
def Abd (x251 x5:IV) (h117:Hp) (ih:Aa) (x0 x9 x3 x13 x136 x45 x44:IV):OH :=
 Al x251 (Ac 2 x5 fun x252=>Af x252 h117 fun x253 r254=>Aaf r254 x253 h117 ih x0 x5 x9 x3 x13) (A2 EE 3 x136 (.fv (.int .i64 17)) fun x312=>Al x312 (Wj x5 h117 x9 ih x3 x0 x13) (YE h117 x45 x13 x44))
def Yp (x5:IV) (h117:Hp) (x3 x9:IV) (ih:Aa) (x0 x13 x45 x44:IV):OH :=
 Ac 0 x5 fun x135=>Af x135 h117 fun x136 _=>A2 EE 3 x136 (.fv (.int .i64 15)) fun x138=>Al x138 (KU EE 3 x3 (.fv (.int .i64 0)) fun x139=>Aa0 h117 x139 x9 ih x5 x3 x0 x13) (A2 EE 3 x136 (.fv (.int .i64 16)) fun x251=>Abd x251 x5 h117 ih x0 x9 x3 x13 x136 x45 x44)
def Yt (h99:Hp) (x95 x98:IV) (ih:Aa) (x5 x9 x0 x3 x13 x45 x44:IV):OH :=
 Ab x95 true h99 (fun k102=>Af x98 h99 fun x103 r104=>k102 x103 h99 r104 []) fun x105 h106 _ _=>Ab x95 true h106 (fun k109=>Aj [] false false ih 55 [x105,.fv (.int .i64 3)] h106 k109) fun x110 h111 _ _=>Ab x95 true h111 (fun k114=>A2 EE 3 x110 (.fv (.int .i64 1)) fun x115=>k114 x115 h111 [] []) fun x116 h117 _ _=>AF x95 x116 (.fv (.bool false)) fun x120=>Al x120 (X4 h117 x5 x9 ih x0 x3 x13) (Yp x5 h117 x3 x9 ih x0 x13 x45 x44)
def Abl (x88:IV) (h85:Hp) (x45 x13 x44 x3 x9:IV) (ih:Aa) (x5 x0:IV):OH :=
 Al x88 (Ai 3 x45 h85 fun x89 _=>Ak 3 x13 x89 h85 fun h91 _ _=>YZ h91 x13 x44) (KU EE 3 x3 (.fv (.int .i64 0)) fun x95=>Ab x95 true h85 (fun k96=>Ac 0 x9 fun x97=>k96 x97 h85 [] []) fun x98 h99 _ _=>Yt h99 x95 x98 ih x5 x9 x0 x3 x13 x45 x44)
def Yv (h67:Hp) (x44 x66 x3 x45 x13 x9:IV) (ih:Aa) (x5 x0:IV):OH :=
 Ab x44 true h67 (fun k70=>A2 EE 3 x66 (.fv (.int .i64 0)) fun x71=>k70 x71 h67 [] []) fun x72 h73 _ _=>AF x44 x72 (.fv (.bool false)) fun x76=>Ab x76 false h73 (fun k77=>k77 x3 h73 [] []) fun x78 h79 _ _=>Ab x76 false h79 (fun k82=>Hg EE 3 x78 (.fv (.int .i64 (-4))) fun x83=>k82 x83 h79 [] []) fun x84 h85 _ _=>AF x76 (.fv (.bool true)) x84 fun x88=>Abl x88 h85 x45 x13 x44 x3 x9 ih x5 x0
def Aca (h40:Hp) (x43 x44 x9:IV) (ih:Aa) (x3 x13 x5 x0:IV):OH :=
 AJ 33558536 (.row [.fv (.int .i64 0),.fv (.int .i64 0),.nils] false) (.ptr (.own 33558536) 0) h40 fun x45 h46 _ _=>Ak 3 x45 x43 h46 fun h49 _ _=>Ab x44 true h49 (fun k52=>Ac 0 x9 fun x53=>k52 x53 h49 [] []) fun x54 h55 _ _=>Ab x44 true h55 (fun k58=>Af x54 h55 fun x59 r60=>k58 x59 h55 r60 []) fun x61 h62 _ _=>Ab x44 true h62 (fun k65=>Aj [] false false ih 55 [x61,.fv (.int .i64 3)] h62 k65) fun x66 h67 _ _=>Yv h67 x44 x66 x3 x45 x13 x9 ih x5 x0
def Abs (x9:IV) (h25:Hp) (ih:Aa) (x0 x34 x3 x13 x5:IV):OH :=
 Ac 1 x9 fun x36=>Af x36 h25 fun x37 _=>Aj [] false false ih 59 [x0,.fv (.int .i64 0),x34,x37] h25 fun x39 h40 _ _=>AK 0 x39 fun x43=>AK 1 x39 fun x44=>Aca h40 x43 x44 x9 ih x3 x13 x5 x0
def Zh (x19:IV) (h20:Hp) (x5 x23 x13 x9:IV) (ih:Aa) (x0 x3:IV):OH :=
 AK 1 x19 fun x24=>Ak 3 x5 x23 h20 fun h25 _ _=>IH EE 3 x24 (.fv (.int .i64 0)) fun x28=>Al x28 (Bv [.fv (.int .i64 0),.fv (.int .i64 0),.nils] [] fun x29=>V7 h25 x13 x29) (Ai 3 x5 h25 fun x34 _=>Abs x9 h25 ih x0 x34 x3 x13 x5)
def S32 (ih:Aa) (n:Nat) (x0 x1 x2 x3:IV) (h4:Hp):OH :=
 Bg 33554432 x1 h4 fun x5 h6 _ _=>Bg 33554433 x2 h6 fun x9 h10 _ _=>AJ 33554434 (.row [.fv (.int .i64 0),.fv (.int .i64 0),.nils] false) (.ptr (.own 33554434) 0) h10 fun x13 h14 _ _=>Ai 3 x5 h14 fun x17 _=>Aj [] false false ih 18 [x17] h14 fun x19 h20 _ _=>AK 0 x19 fun x23=>Zh x19 h20 x5 x23 x13 x9 ih x0 x3
theorem Al7 (ih:Aa) (n:Nat) (x0 x1 x2 x3:IV) (h4:Hp):AE EE ih ft.get n 32 [x0,x1,x2,x3] h4=S32 ih n x0 x1 x2 x3 h4:=by kernel_rfl
def QA (h32:Hp) (x7 x31:IV):OH :=
 Ak 3 x7 x31 h32 fun h35 _ _=>AC true 3 x7 h35 fun x38=>Ao [x38] h35
def RZ (r72 w73:AH) (h71:Hp) (x7:IV):OH :=
 Ad [] r72 w73 (AC true 3 x7 h71 fun x74=>Ao [x74] h71)
def RN (h60:Hp) (x48 x59:IV) (ih:Aa) (x40 x7:IV):OH :=
 Ax (Ah EE 29 2 [(0,x48),(1,x59)]) 34607117 h60 fun x63 h64 r65 w66=>Ad [] r65 w66 (Aj [] false false ih 27 [x40,x63] h64 fun x67 h68 r69 w70=>Ad [] r69 w70 (Ak 3 x7 x67 h68 fun h71 r72 w73=>RZ r72 w73 h71 x7))
def PT (ih:Aa) (h49:Hp) (x52 x1 x48 x40 x7:IV):OH :=
 Aj [] false false ih 58 [x52,.fv (.int .i64 1)] h49 fun x54 h55 r56 w57=>Ad [] r56 w57 (A9 EE 3 x1 (.fv (.int .i64 1)) fun x58=>Aj [] false false ih 33 [x54,x58] h55 fun x59 h60 r61 w62=>Ad [] r61 w62 (RN h60 x48 x59 ih x40 x7))
def PJ (x1:IV) (ih:Aa) (h44:Hp) (x43 x3:IV) (r45 w46 r42:AH) (x40 x7:IV):OH :=
 A9 EE 3 x1 (.fv (.int .i64 1)) fun x47=>Aj [] false false ih 33 [x43,x47] h44 fun x48 h49 r50 w51=>Ad [] r50 w51 (Ai 3 x3 h49 fun x52 r53=>Ad [(r50,w51),(r45,w46),(r42,[])] r53 [] (PT ih h49 x52 x1 x48 x40 x7))
def PD (x39:IV) (h27:Hp) (x3:IV) (ih:Aa) (x1 x7:IV):OH :=
 A9 EE 3 x39 (.fv (.int .i64 2)) fun x40=>Ai 3 x3 h27 fun x41 r42=>Ad [] r42 [] (Aj [] false false ih 58 [x41,.fv (.int .i64 0)] h27 fun x43 h44 r45 w46=>Ad [] r45 w46 (PJ x1 ih h44 x43 x3 r45 w46 r42 x40 x7))
def P5 (h15:Hp) (x18 x14:IV) (ih:Aa) (x7 x3 x1:IV):OH :=
 Ab x18 false h15 (fun k19=>k19 x14 h15 [] []) fun x20 h21 _ _=>Ab x18 false h21 (fun k24=>Hg EE 3 x20 (.fv (.int .i64 2)) fun x25=>k24 x25 h21 [] []) fun x26 h27 _ _=>AF x18 (.fv (.bool true)) x26 fun x30=>Al x30 (Aj [] false false ih 27 [.fv (.int .i64 15),.nils] h27 fun x31 h32 _ _=>QA h32 x7 x31) (BF EE 3 (.fv (.int .i64 16)) x14 fun x39=>PD x39 h27 x3 ih x1 x7)
def S33 (ih:Aa) (n:Nat) (x0 x1:IV) (h2:Hp):OH :=
 Bg 34603008 x0 h2 fun x3 h4 _ _=>AJ 34603009 (.row [.fv (.int .i64 0),.fv (.int .i64 0),.nils] false) (.ptr (.own 34603009) 0) h4 fun x7 h8 _ _=>Ac 1 x3 fun x11=>Af x11 h8 fun x12 _=>Aj [] false false ih 55 [x12,.fv (.int .i64 4)] h8 fun x14 h15 _ _=>leS EE 3 x1 (.fv (.int .i64 0)) fun x18=>P5 h15 x18 x14 ih x7 x3 x1
theorem Akq (ih:Aa) (n:Nat) (x0 x1:IV) (h2:Hp):AE EE ih ft.get n 33 [x0,x1] h2=S33 ih n x0 x1 h2:=by kernel_rfl
def S34 (ih:Aa) (n:Nat) (x0:IV) (h1:Hp):OH :=
 AJ 35651584 (.row [.fv (.int .i64 0),.fv (.int .i64 0),.nils] false) (.ptr (.own 35651584) 0) h1 fun x2 h3 _ _=>Bv [.fv (.int .i64 0),.fv (.int .i64 0),.nils] [(0,1,.fv (.int .i64 1)),(1,1,x0)] fun x6=>Ak 3 x2 x6 h3 fun h7 _ _=>AC true 3 x2 h7 fun x10=>Ao [x10] h7
theorem AlT (ih:Aa) (n:Nat) (x0:IV) (h1:Hp):AE EE ih ft.get n 34 [x0] h1=S34 ih n x0 h1:=by kernel_rfl
def Qj (ih:Aa) (h28:Hp) (x27 x22 x23:IV) (q17:List IV→Hp→OH) (x20 x21:IV):OH :=
 Aj [] false false ih 27 [.fv (.int .i64 12),x27] h28 fun x31 h32 _ _=>Ak 3 x22 x31 h32 fun h35 _ _=>BF EE 3 x23 (.fv (.int .i64 1)) fun x38=>q17 [x20,x21,x22,x38] h35
def PF (h41:Hp) (x21:IV):OH :=
 AC true 3 x21 h41 fun x44=>Ao [x44] h41
def RJ (x24:IV) (h19:Hp) (x22:IV) (ih:Aa) (x23:IV) (q17:List IV→Hp→OH) (x20 x21:IV):OH :=
 Al x24 (Ai 3 x22 h19 fun x25 _=>Ax (Ah EE 29 1 [(0,x25)]) 36705281 h19 fun x27 h28 _ _=>Qj ih h28 x27 x22 x23 q17 x20 x21) (Ai 3 x22 h19 fun x39 _=>Ak 3 x21 x39 h19 fun h41 _ _=>PF h41 x21)
def UU (l18:List IV) (h19:Hp) (ih:Aa) (q17:List IV→Hp→OH):OH :=
 AA l18 fun x20 l45=>AA l45 fun x21 l46=>AA l46 fun x22 l47=>AA l47 fun x23 _=>Hg EE 3 x23 x20 fun x24=>RJ x24 h19 x22 ih x23 q17 x20 x21
def S35 (ih:Aa) (n:Nat) (x0:IV) (h1:Hp):OH :=
 AJ 36700160 (.row [.fv (.int .i64 0),.fv (.int .i64 0),.nils] false) (.ptr (.own 36700160) 0) h1 fun x2 h3 _ _=>Aj [] false false ih 27 [.fv (.int .i64 11),.nils] h3 fun x6 h7 _ _=>AJ 36701185 (.row [.fv (.int .i64 0),.fv (.int .i64 0),.nils] false) (.ptr (.own 36701185) 0) h7 fun x10 h11 _ _=>Ak 3 x10 x6 h11 fun h14 _ _=>BD n (fun q17 l18 h19=>UU l18 h19 ih q17) [x0,x2,x10,.fv (.int .i64 0)] h14
theorem Alh (ih:Aa) (n:Nat) (x0:IV) (h1:Hp):AE EE ih ft.get n 35 [x0] h1=S35 ih n x0 h1:=by kernel_rfl
def AjV (x11:IV) (q6:List IV→Hp→OH) (h24:Hp) (x9 x27:IV):OH :=
 BF EE 3 x11 (.fv (.int .i64 1)) fun x28=>q6 [x9,x27,x28] h24
def Amf (h8:Hp) (x17 x11:IV) (ih:Aa) (x10:IV) (q6:List IV→Hp→OH) (x9:IV):OH :=
 Af x17 h8 fun x18 _=>Bf 3 x18 x11 fun x20=>Ai 3 x20 h8 fun x21 _=>Aj [] false false ih 36 [x21] h8 fun x23 h24 _ _=>BF EE 3 x10 x23 fun x27=>AjV x11 q6 h24 x9 x27
def AjK (x13 x11 x9:IV) (h8:Hp) (ih:Aa) (x10:IV) (q6:List IV→Hp→OH):OH :=
 Ca x13 fun x15=>Hg EE 3 x11 x15 fun x16=>Al x16 (Ac 2 x9 fun x17=>Amf h8 x17 x11 ih x10 q6 x9) (Ao [x10] h8)
def Ak6 (l7:List IV) (h8:Hp) (ih:Aa) (q6:List IV→Hp→OH):OH :=
 AA l7 fun x9 l29=>AA l29 fun x10 l30=>AA l30 fun x11 _=>Ac 2 x9 fun x12=>Af x12 h8 fun x13 _=>AjK x13 x11 x9 h8 ih x10 q6
def S36 (ih:Aa) (n:Nat) (x0:IV) (h1:Hp):OH :=
 Bg 37748736 x0 h1 fun x2 h3 _ _=>BD n (fun q6 l7 h8=>Ak6 l7 h8 ih q6) [x2,.fv (.int .i64 1),.fv (.int .i64 0)] h3
theorem Akl (ih:Aa) (n:Nat) (x0:IV) (h1:Hp):AE EE ih ft.get n 36 [x0] h1=S36 ih n x0 h1:=by kernel_rfl
def Aex (h38:Hp) (x26:IV) (ih:Aa) (x30 x37:IV):OH :=
 Ab x26 true h38 (fun k41=>Aj [] false false ih 21 [x30,x37] h38 k41) fun x42 h43 _ _=>AF x26 x42 (.fv (.bool false)) fun x46=>Ao [x46] h43
def Aeg (h14:Hp) (x17 x18 x7:IV) (ih:Aa):OH :=
 AJ 38798341 (.row [.fv (.int .i64 0),.fv (.int .i64 0),.nils] false) (.ptr (.own 38798341) 0) h14 fun x19 h20 _ _=>Ak 3 x19 x17 h20 fun h23 _ _=>A2 EE 37 x18 (.fv (.int .i64 0)) fun x26=>Ab x26 true h23 (fun k27=>Ai 3 x19 h23 fun x28 r29=>k27 x28 h23 r29 []) fun x30 h31 _ _=>Ab x26 true h31 (fun k34=>Ai 3 x7 h31 fun x35 r36=>k34 x35 h31 r36 []) fun x37 h38 _ _=>Aex h38 x26 ih x30 x37
def S37 (ih:Aa) (n:Nat) (x0 x1:IV) (h2:Hp):OH :=
 Bg 38797312 x0 h2 fun x3 h4 _ _=>Bg 38797313 x1 h4 fun x7 h8 _ _=>Ai 3 x3 h8 fun x11 _=>Aj [] false false ih 20 [x11] h8 fun x13 h14 _ _=>AK 0 x13 fun x17=>AK 1 x13 fun x18=>Aeg h14 x17 x18 x7 ih
theorem Alx (ih:Aa) (n:Nat) (x0 x1:IV) (h2:Hp):AE EE ih ft.get n 37 [x0,x1] h2=S37 ih n x0 x1 h2:=by kernel_rfl
def S42 (ih:Aa) (n:Nat) (h0:Hp):OH :=
 AJ 44040192 (.row [.fv (.int .i64 0),.fv (.int .i64 0),.nils] false) (.ptr (.own 44040192) 0) h0 fun x1 h2 _ _=>Aj [] false false ih 27 [.fv (.int .i64 10),.nils] h2 fun x5 h6 _ _=>Ak 3 x1 x5 h6 fun h9 _ _=>AC true 3 x1 h9 fun x12=>Ao [x12] h9
theorem AmF (ih:Aa) (n:Nat) (h0:Hp):AE EE ih ft.get n 42 [] h0=S42 ih n h0:=by kernel_rfl
def S43 (ih:Aa) (n:Nat) (x0:IV) (h1:Hp):OH :=
 AJ 45088768 (.row [.fv (.int .i64 0),.fv (.int .i64 0),.nils] false) (.ptr (.own 45088768) 0) h1 fun x2 h3 _ _=>Bv [.fv (.int .i64 0),.fv (.int .i64 0),.nils] [(0,1,.fv (.int .i64 25)),(1,1,x0)] fun x6=>Ak 3 x2 x6 h3 fun h7 _ _=>AC true 3 x2 h7 fun x10=>Ao [x10] h7
theorem Al0 (ih:Aa) (n:Nat) (x0:IV) (h1:Hp):AE EE ih ft.get n 43 [x0] h1=S43 ih n x0 h1:=by kernel_rfl
def Sb (x29:IV) (h65:Hp) (x64 x30:IV) (h1:Hp) (x27 x28:IV) (q24:List IV→Hp→OH):OH :=
 Ac 2 x29 fun x68=>Bj x68 x64 h65 fun h69 _ _=>BF EE 3 x30 (.fv (.int .i64 1)) fun x72=>Bt (h1.own.map (·.1)) [48239622,48242692] [x27,x28,x29,x72] h69 fun h73=>q24 [x27,x28,x29,x72] h73
def Q9 (x29:IV) (h54:Hp) (x46 x30:IV) (h1:Hp) (x27 x28:IV) (q24:List IV→Hp→OH):OH :=
 Ac 2 x29 fun x55=>Af x55 h54 fun x56 _=>Ai 3 x46 h54 fun x58 _=>Ax (Ah EE 29 1 [(0,x58)]) 48242691 h54 fun x60 h61 _ _=>Ax (AT EE 48242692 false .append [29,29] [x56,x60]) 48242692 h61 fun x64 h65 _ _=>Sb x29 h65 x64 x30 h1 x27 x28 q24
def RK (h126:Hp) (x46 x125:IV) (j0_53:Hp→OH):OH :=
 Ak 3 x46 x125 h126 fun h129 _ _=>j0_53 h129
def Sx (h115:Hp) (x74 x95 x114:IV) (ih:Aa) (x46:IV) (j0_53:Hp→OH):OH :=
 Ab x74 true h115 (fun k118=>AF x95 (.fv (.bool true)) x114 fun x119=>k118 x119 h115 [] []) fun x120 h121 _ _=>AF x74 x120 (.fv (.bool false)) fun x124=>Al x124 (Aj [] false false ih 27 [.fv (.int .i64 11),.nils] h121 fun x125 h126 _ _=>RK h126 x46 x125 j0_53) (j0_53 h121)
def RX (h85:Hp) (x74 x84 x27:IV) (ih:Aa) (x46:IV) (j0_53:Hp→OH):OH :=
 Ab x74 true h85 (fun k88=>A2 EE 3 x84 (.fv (.int .i64 4)) fun x89=>k88 x89 h85 [] []) fun x90 h91 _ _=>Ab x74 true h91 (fun k94=>k94 x90 h91 [] []) fun x95 h96 _ _=>Ab x95 false h96 (fun k99=>Ac 0 x27 fun x100=>k99 x100 h96 [] []) fun x101 h102 _ _=>Ab x95 false h102 (fun k105=>Af x101 h102 fun x106 r107=>k105 x106 h102 r107 []) fun x108 h109 _ _=>Ab x95 false h109 (fun k112=>A2 EE 3 x108 (.fv (.int .i64 7)) fun x113=>k112 x113 h109 [] []) fun x114 h115 _ _=>Sx h115 x74 x95 x114 ih x46 j0_53
def Qs (h47:Hp) (x46 x42 x29 x30:IV) (h1:Hp) (x27 x28:IV) (q24:List IV→Hp→OH) (ih:Aa):OH :=
 Ak 3 x46 x42 h47 fun h50 _ _=>(fun (j0_53:Hp→OH)=>A2 EE 3 x30 (.fv (.int .i64 0)) fun x74=>Ab x74 true h50 (fun k75=>Ac 0 x27 fun x76=>k75 x76 h50 [] []) fun x77 h78 _ _=>Ab x74 true h78 (fun k81=>Af x77 h78 fun x82 r83=>k81 x82 h78 r83 []) fun x84 h85 _ _=>RX h85 x74 x84 x27 ih x46 j0_53) fun h54=>Q9 x29 h54 x46 x30 h1 x27 x28 q24
def QQ (h26:Hp) (x36 x30:IV) (ih:Aa) (x29:IV) (h1:Hp) (x27 x28:IV) (q24:List IV→Hp→OH):OH :=
 Af x36 h26 fun x37 _=>Bf 3 x37 x30 fun x39=>Ai 3 x39 h26 fun x40 _=>Aj [] false false ih 46 [x40] h26 fun x42 h43 _ _=>AJ 48239622 (.row [.fv (.int .i64 0),.fv (.int .i64 0),.nils] false) (.ptr (.own 48239622) 0) h43 fun x46 h47 _ _=>Qs h47 x46 x42 x29 x30 h1 x27 x28 q24 ih
def QM (ih:Aa) (h299:Hp) (x296 x298 x28:IV):OH :=
 Aj [] false false ih 30 [x296,.fv (.int .i64 0),x298] h299 fun x302 h303 r304 w305=>Ad [] r304 w305 (Ak 3 x28 x302 h303 fun h306 r307 w308=>Ad [] r307 w308 (AC true 3 x28 h306 fun x309=>Ao [x309] h306))
def PP (x293:IV) (h284:Hp) (ih:Aa) (r294 r290:AH) (x28:IV):OH :=
 Bf 3 x293 (.fv (.int .i64 0)) fun x295=>Ai 3 x295 h284 fun x296 r297=>Ad [] r297 [] (Aj [] false false ih 27 [.fv (.int .i64 11),.nils] h284 fun x298 h299 r300 w301=>Ad [(r297,[]),(r294,[]),(r290,[])] r300 w301 (QM ih h299 x296 x298 x28))
def PK (r290:AH) (x289:IV) (h284:Hp) (ih:Aa) (x28:IV):OH :=
 Ad [] r290 [] (Bf 3 x289 (.fv (.int .i64 1)) fun x291=>Ac 2 x291 fun x292=>Af x292 h284 fun x293 r294=>Ad [] r294 [] (PP x293 h284 ih r294 r290 x28))
def RH (h484:Hp) (x495 x28:IV):OH :=
 Ai 3 x495 h484 fun x496 _=>Ak 3 x28 x496 h484 fun h498 _ _=>AC true 3 x28 h498 fun x501=>Ao [x501] h498
def PM (h484:Hp) (x488 x28:IV):OH :=
 Af x488 h484 fun x489 _=>Bf 3 x489 (.fv (.int .i64 1)) fun x491=>Ac 2 x491 fun x492=>Af x492 h484 fun x493 _=>Bf 3 x493 (.fv (.int .i64 0)) fun x495=>RH h484 x495 x28
def Rr (h484:Hp) (x28 x502:IV):OH :=
 Ak 3 x28 x502 h484 fun h504 _ _=>AC true 3 x28 h504 fun x507=>Ao [x507] h504
def Rj (h479:Hp) (x391:IV) (ih:Aa) (x433 x478 x29 x28:IV):OH :=
 Ab x391 true h479 (fun k482=>Aj [] false false ih 21 [x433,x478] h479 k482) fun x483 h484 r485 w486=>Ad [] r485 w486 (AF x391 x483 (.fv (.bool false)) fun x487=>Al x487 (Ac 2 x29 fun x488=>PM h484 x488 x28) (Ai 3 x29 h484 fun x502 _=>Rr h484 x28 x502))
def Sd (h459:Hp) (x391 x458:IV) (r435 w436 r422 w423 r403 w404:AH) (ih:Aa) (x433 x29 x28:IV):OH :=
 Ab x391 true h459 (fun k462=>Af x458 h459 fun x463 r464=>k462 x463 h459 r464 []) fun x465 h466 r467 w468=>Ad [(r435,w436),(r422,w423),(r403,w404)] r467 w468 (Ab x391 true h466 (fun k469=>Bf 3 x465 (.fv (.int .i64 0)) fun x470=>k469 x470 h466 [] []) fun x471 h472 _ _=>Ab x391 true h472 (fun k475=>Ai 3 x471 h472 fun x476 r477=>k475 x476 h472 r477 []) fun x478 h479 r480 w481=>Ad [(r435,w436),(r422,w423),(r403,w404)] r480 w481 (Rj h479 x391 ih x433 x478 x29 x28))
def PH (h434:Hp) (x391 x29:IV) (r435 w436 r422 w423 r403 w404:AH) (ih:Aa) (x433 x28:IV):OH :=
 Ab x391 true h434 (fun k437=>Ac 2 x29 fun x438=>k437 x438 h434 [] []) fun x439 h440 _ _=>Ab x391 true h440 (fun k443=>Af x439 h440 fun x444 r445=>k443 x444 h440 r445 []) fun x446 h447 r448 w449=>Ad [(r435,w436),(r422,w423),(r403,w404)] r448 w449 (Ab x391 true h447 (fun k450=>Bf 3 x446 (.fv (.int .i64 2)) fun x451=>k450 x451 h447 [] []) fun x452 h453 _ _=>Ab x391 true h453 (fun k456=>Ac 2 x452 fun x457=>k456 x457 h453 [] []) fun x458 h459 _ _=>Sd h459 x391 x458 r435 w436 r422 w423 r403 w404 ih x433 x29 x28)
def Rx (h414:Hp) (x391 x413 x29:IV) (r403 w404:AH) (ih:Aa) (x28:IV):OH :=
 Ab x391 true h414 (fun k417=>Af x413 h414 fun x418 r419=>k417 x418 h414 r419 []) fun x420 h421 r422 w423=>Ad [] r422 w423 (Ab x391 true h421 (fun k424=>Bf 3 x420 (.fv (.int .i64 0)) fun x425=>k424 x425 h421 [] []) fun x426 h427 _ _=>Ab x391 true h427 (fun k430=>Ai 3 x426 h427 fun x431 r432=>k430 x431 h427 r432 []) fun x433 h434 r435 w436=>Ad [] r435 w436 (PH h434 x391 x29 r435 w436 r422 w423 r403 w404 ih x433 x28))
def Rn (h388:Hp) (x391 x29:IV) (ih:Aa) (x28:IV):OH :=
 Ab x391 true h388 (fun k392=>Ac 2 x29 fun x393=>k392 x393 h388 [] []) fun x394 h395 _ _=>Ab x391 true h395 (fun k398=>Af x394 h395 fun x399 r400=>k398 x399 h395 r400 []) fun x401 h402 r403 w404=>Ad [] r403 w404 (Ab x391 true h402 (fun k405=>Bf 3 x401 (.fv (.int .i64 1)) fun x406=>k405 x406 h402 [] []) fun x407 h408 _ _=>Ab x391 true h408 (fun k411=>Ac 2 x407 fun x412=>k411 x412 h408 [] []) fun x413 h414 _ _=>Rx h414 x391 x413 x29 r403 w404 ih x28)
def Qq (h369:Hp) (x352 x368 x29:IV) (ih:Aa) (x28:IV):OH :=
 Ab x352 true h369 (fun k372=>Ac 0 x368 fun x373=>k372 x373 h369 [] []) fun x374 h375 _ _=>Ab x352 true h375 (fun k378=>Af x374 h375 fun x379 r380=>k378 x379 h375 r380 []) fun x381 h382 r383 w384=>Ad [] r383 w384 (Ab x352 true h382 (fun k385=>A2 EE 3 x381 (.fv (.int .i64 9)) fun x386=>k385 x386 h382 [] []) fun x387 h388 _ _=>AF x352 x387 (.fv (.bool false)) fun x391=>Rn h388 x391 x29 ih x28)
def Sf (x313 x348:IV) (h349:Hp) (x29:IV) (ih:Aa) (x28:IV):OH :=
 AF x313 x348 (.fv (.bool false)) fun x352=>Ab x352 true h349 (fun k353=>Ac 2 x29 fun x354=>k353 x354 h349 [] []) fun x355 h356 _ _=>Ab x352 true h356 (fun k359=>Af x355 h356 fun x360 r361=>k359 x360 h356 r361 []) fun x362 h363 r364 w365=>Ad [] r364 w365 (Ab x352 true h363 (fun k366=>Bf 3 x362 (.fv (.int .i64 2)) fun x367=>k366 x367 h363 [] []) fun x368 h369 _ _=>Qq h369 x352 x368 x29 ih x28)
def RO (h324:Hp) (x313 x323 x29:IV) (ih:Aa) (x28:IV):OH :=
 Ab x313 true h324 (fun k327=>Bf 3 x323 (.fv (.int .i64 1)) fun x328=>k327 x328 h324 [] []) fun x329 h330 _ _=>Ab x313 true h330 (fun k333=>Ac 0 x329 fun x334=>k333 x334 h330 [] []) fun x335 h336 _ _=>Ab x313 true h336 (fun k339=>Af x335 h336 fun x340 r341=>k339 x340 h336 r341 []) fun x342 h343 r344 w345=>Ad [] r344 w345 (Ab x313 true h343 (fun k346=>A2 EE 3 x342 (.fv (.int .i64 8)) fun x347=>k346 x347 h343 [] []) fun x348 h349 _ _=>Sf x313 x348 h349 x29 ih x28)
def Rw (r312:AH) (x311:IV) (h284:Hp) (x29:IV) (ih:Aa) (x28:IV):OH :=
 Ad [] r312 [] (A2 EE 3 x311 (.fv (.int .i64 7)) fun x313=>Ab x313 true h284 (fun k314=>Ac 2 x29 fun x315=>k314 x315 h284 [] []) fun x316 h317 _ _=>Ab x313 true h317 (fun k320=>Af x316 h317 fun x321 r322=>k320 x321 h317 r322 []) fun x323 h324 r325 w326=>Ad [] r325 w326 (RO h324 x313 x323 x29 ih x28))
def Sz (x230 x283 x29:IV) (h284:Hp) (ih:Aa) (x28 x27:IV):OH :=
 AF x230 x283 (.fv (.bool false)) fun x287=>Al x287 (Ac 2 x29 fun x288=>Af x288 h284 fun x289 r290=>PK r290 x289 h284 ih x28) (Ac 0 x27 fun x310=>Af x310 h284 fun x311 r312=>Rw r312 x311 h284 x29 ih x28)
def Qo (h266:Hp) (x230 x265:IV) (ih:Aa) (x29 x28 x27:IV):OH :=
 Ab x230 true h266 (fun k269=>Ai 3 x265 h266 fun x270 r271=>k269 x270 h266 r271 []) fun x272 h273 r274 w275=>Ad [] r274 w275 (Ab x230 true h273 (fun k276=>Aj [] false false ih 68 [x272,.fv (.int .i64 0)] h273 k276) fun x277 h278 r279 w280=>Ad [] r279 w280 (Ab x230 true h278 (fun k281=>CC (KS .not x277) fun x282=>k281 x282 h278 [] []) fun x283 h284 _ _=>Sz x230 x283 x29 h284 ih x28 x27))
def PA (h241:Hp) (x230 x240:IV) (ih:Aa) (x29 x28 x27:IV):OH :=
 Ab x230 true h241 (fun k244=>Bf 3 x240 (.fv (.int .i64 1)) fun x245=>k244 x245 h241 [] []) fun x246 h247 _ _=>Ab x230 true h247 (fun k250=>Ac 2 x246 fun x251=>k250 x251 h247 [] []) fun x252 h253 _ _=>Ab x230 true h253 (fun k256=>Af x252 h253 fun x257 r258=>k256 x257 h253 r258 []) fun x259 h260 r261 w262=>Ad [] r261 w262 (Ab x230 true h260 (fun k263=>Bf 3 x259 (.fv (.int .i64 0)) fun x264=>k263 x264 h260 [] []) fun x265 h266 _ _=>Qo h266 x230 x265 ih x29 x28 x27)
def SC (r228 w229:AH) (x174 x226:IV) (h227:Hp) (x29:IV) (ih:Aa) (x28 x27:IV):OH :=
 Ad [] r228 w229 (AF x174 x226 (.fv (.bool false)) fun x230=>Ab x230 true h227 (fun k231=>Ac 2 x29 fun x232=>k231 x232 h227 [] []) fun x233 h234 _ _=>Ab x230 true h234 (fun k237=>Af x233 h234 fun x238 r239=>k237 x238 h234 r239 []) fun x240 h241 r242 w243=>Ad [] r242 w243 (PA h241 x230 x240 ih x29 x28 x27))
def RA (h210:Hp) (x174 x209:IV) (ih:Aa) (r205 w206 r186 w187:AH) (x29 x28 x27:IV):OH :=
 Ab x174 true h210 (fun k213=>Ai 3 x209 h210 fun x214 r215=>k213 x214 h210 r215 []) fun x216 h217 r218 w219=>Ad [] r218 w219 (Ab x174 true h217 (fun k220=>Aj [] false false ih 34 [.fv (.int .i64 0)] h217 k220) fun x221 h222 r223 w224=>Ad [(r218,w219),(r205,w206),(r186,w187)] r223 w224 (Ab x174 true h222 (fun k225=>Aj [] false false ih 21 [x216,x221] h222 k225) fun x226 h227 r228 w229=>SC r228 w229 x174 x226 h227 x29 ih x28 x27))
def PS (h185:Hp) (x174 x184:IV) (ih:Aa) (r186 w187:AH) (x29 x28 x27:IV):OH :=
 Ab x174 true h185 (fun k188=>Bf 3 x184 (.fv (.int .i64 1)) fun x189=>k188 x189 h185 [] []) fun x190 h191 _ _=>Ab x174 true h191 (fun k194=>Ac 2 x190 fun x195=>k194 x195 h191 [] []) fun x196 h197 _ _=>Ab x174 true h197 (fun k200=>Af x196 h197 fun x201 r202=>k200 x201 h197 r202 []) fun x203 h204 r205 w206=>Ad [] r205 w206 (Ab x174 true h204 (fun k207=>Bf 3 x203 (.fv (.int .i64 1)) fun x208=>k207 x208 h204 [] []) fun x209 h210 _ _=>RA h210 x174 x209 ih r205 w206 r186 w187 x29 x28 x27)
def Sa (h165:Hp) (x135 x164 x29:IV) (ih:Aa) (x28 x27:IV):OH :=
 Ab x135 true h165 (fun k168=>A2 EE 3 x164 (.fv (.int .i64 5)) fun x169=>k168 x169 h165 [] []) fun x170 h171 _ _=>AF x135 x170 (.fv (.bool false)) fun x174=>Ab x174 true h171 (fun k175=>Ac 2 x29 fun x176=>k175 x176 h171 [] []) fun x177 h178 _ _=>Ab x174 true h178 (fun k181=>Af x177 h178 fun x182 r183=>k181 x182 h178 r183 []) fun x184 h185 r186 w187=>Ad [] r186 w187 (PS h185 x174 x184 ih r186 w187 x29 x28 x27)
def QE (r147 w148:AH) (h146:Hp) (x135 x145 x29:IV) (ih:Aa) (x28 x27:IV):OH :=
 Ad [] r147 w148 (Ab x135 true h146 (fun k149=>Bf 3 x145 (.fv (.int .i64 1)) fun x150=>k149 x150 h146 [] []) fun x151 h152 _ _=>Ab x135 true h152 (fun k155=>Ac 0 x151 fun x156=>k155 x156 h152 [] []) fun x157 h158 _ _=>Ab x135 true h158 (fun k161=>Af x157 h158 fun x162 r163=>k161 x162 h158 r163 []) fun x164 h165 r166 w167=>Ad [] r166 w167 (Sa h165 x135 x164 x29 ih x28 x27))
def Qy (h26:Hp) (x132 x29:IV) (ih:Aa) (x28 x27:IV):OH :=
 Af x132 h26 fun x133 r134=>Ad [] r134 [] (A2 EE 3 x133 (.fv (.int .i64 4)) fun x135=>Ab x135 true h26 (fun k136=>Ac 2 x29 fun x137=>k136 x137 h26 [] []) fun x138 h139 _ _=>Ab x135 true h139 (fun k142=>Af x138 h139 fun x143 r144=>k142 x143 h139 r144 []) fun x145 h146 r147 w148=>QE r147 w148 h146 x135 x145 x29 ih x28 x27)
def QC (h26:Hp) (x31 x30 x27:IV) (ih:Aa) (x29:IV) (h1:Hp) (x28:IV) (q24:List IV→Hp→OH):OH :=
 Af x31 h26 fun x32 _=>Ca x32 fun x34=>Hg EE 3 x30 x34 fun x35=>Al x35 (Ac 2 x27 fun x36=>QQ h26 x36 x30 ih x29 h1 x27 x28 q24) (Ac 0 x27 fun x132=>Qy h26 x132 x29 ih x28 x27)
def HN (l25:List IV) (h26:Hp) (ih:Aa) (h1:Hp) (q24:List IV→Hp→OH):OH :=
 AA l25 fun x27 l508=>AA l508 fun x28 l509=>AA l509 fun x29 l510=>AA l510 fun x30 _=>Ac 2 x27 fun x31=>QC h26 x31 x30 x27 ih x29 h1 x28 q24
def RR (x11 x14:IV) (h7 h1:Hp) (x2 x6:IV) (n:Nat) (ih:Aa):OH :=
 Bv [.fv (.int .i64 0),.fv (.int .i64 0),.nils] [(0,1,x11),(1,1,x14)] fun x16=>AJ 48235525 (.row [.fv (.int .i64 0),.fv (.int .i64 0),.nils] false) (.ptr (.own 48235525) 0) h7 fun x17 h18 _ _=>Ak 3 x17 x16 h18 fun h21 _ _=>Bt (h1.own.map (·.1)) [48239622,48242692] [x2,x6,x17,.fv (.int .i64 0)] h21 fun h512=>BD n (fun q24 l25 h26=>HN l25 h26 ih h1 q24) [x2,x6,x17,.fv (.int .i64 0)] h512
def S46 (ih:Aa) (n:Nat) (x0:IV) (h1:Hp):OH :=
 Bg 48234496 x0 h1 fun x2 h3 _ _=>AJ 48234497 (.row [.fv (.int .i64 0),.fv (.int .i64 0),.nils] false) (.ptr (.own 48234497) 0) h3 fun x6 h7 _ _=>Ac 0 x2 fun x10=>Af x10 h7 fun x11 _=>Ac 1 x2 fun x13=>Af x13 h7 fun x14 _=>RR x11 x14 h7 h1 x2 x6 n ih
theorem Akr (ih:Aa) (n:Nat) (x0:IV) (h1:Hp):AE EE ih ft.get n 46 [x0] h1=S46 ih n x0 h1:=by kernel_rfl
def MZ (x12 x43 x13:IV) (q7:List IV→Hp→OH) (h44:Hp) (x10 x11:IV):OH :=
 BF EE 3 x12 x43 fun x47=>BF EE 3 x13 (.fv (.int .i64 1)) fun x48=>q7 [x10,x11,x47,x48] h44
def MA (h32:Hp) (x36 x13 x10 x12:IV) (ih:Aa) (q7:List IV→Hp→OH) (x11:IV):OH :=
 Af x36 h32 fun x37 _=>Bf 3 x37 x13 fun x39=>Ai 3 x39 h32 fun x40 _=>A9 EE 3 x10 x12 fun x42=>Aj [] false false ih 47 [x40,x42] h32 fun x43 h44 _ _=>MZ x12 x43 x13 q7 h44 x10 x11
def Na (h26:Hp) (x18 x20 x25 x11 x13 x10 x12:IV) (ih:Aa) (q7:List IV→Hp→OH):OH :=
 Ab x18 true h26 (fun k29=>Hg EE 3 x20 x25 fun x30=>k29 x30 h26 [] []) fun x31 h32 _ _=>AF x18 x31 (.fv (.bool false)) fun x35=>Al x35 (Ac 2 x11 fun x36=>MA h32 x36 x13 x10 x12 ih q7 x11) (Ao [x12] h32)
def Ol (h9:Hp) (x14 x13 x12 x10 x11:IV) (ih:Aa) (q7:List IV→Hp→OH):OH :=
 Af x14 h9 fun x15 _=>Ca x15 fun x17=>Hg EE 3 x13 x17 fun x18=>Ab x18 true h9 (fun k19=>k19 x12 h9 [] []) fun x20 h21 _ _=>Ab x18 true h21 (fun k24=>k24 x10 h21 [] []) fun x25 h26 _ _=>Na h26 x18 x20 x25 x11 x13 x10 x12 ih q7
def Sr (l8:List IV) (h9:Hp) (ih:Aa) (q7:List IV→Hp→OH):OH :=
 AA l8 fun x10 l49=>AA l49 fun x11 l50=>AA l50 fun x12 l51=>AA l51 fun x13 _=>Ac 2 x11 fun x14=>Ol h9 x14 x13 x12 x10 x11 ih q7
def S47 (ih:Aa) (n:Nat) (x0 x1:IV) (h2:Hp):OH :=
 Bg 49283072 x0 h2 fun x3 h4 _ _=>BD n (fun q7 l8 h9=>Sr l8 h9 ih q7) [x1,x3,.fv (.int .i64 1),.fv (.int .i64 0)] h4
theorem AlC (ih:Aa) (n:Nat) (x0 x1:IV) (h2:Hp):AE EE ih ft.get n 47 [x0,x1] h2=S47 ih n x0 x1 h2:=by kernel_rfl
def EO (h20:Hp) (x5:IV):OH :=
 Bv [.fv (.int .i64 0),.fv (.int .i64 0),.nils] [] fun x26=>Ak 3 x5 x26 h20 fun h27 _ _=>AC true 3 x5 h27 fun x30=>Ao [x30] h27
def Eu (ih:Aa) (h20:Hp) (x41 x5:IV):OH :=
 Aj [] false false ih 34 [x41] h20 fun x42 h43 _ _=>Ak 3 x5 x42 h43 fun h46 _ _=>AC true 3 x5 h46 fun x49=>Ao [x49] h46
def En (x2 x1:IV) (h20:Hp) (ih:Aa) (x5:IV):OH :=
 A9 EE 3 x2 (.fv (.int .i64 1)) fun x36=>AB x1 fun x37=>Ac 1 x37 fun x38=>Af x38 h20 fun x39 _=>A9 EE 3 x36 x39 fun x41=>Eu ih h20 x41 x5
def Ez (h4 h126:Hp) (x98 x99 x100 x101 x102 x103 x129:IV) (q66:List IV→Hp→OH):OH :=
 Bt (h4.own.map (·.1)) [50351109,50353163] [x98,x99,x100,x101,x102,x103,x129] h126 fun h130=>q66 [x98,x99,x100,x101,x102,x103,x129] h130
def Ep (r123 w124:AH) (x103:IV) (h122:Hp) (x121 x104:IV) (h4:Hp) (x98 x99 x100 x101 x102:IV) (q66:List IV→Hp→OH):OH :=
 Ad [] r123 w124 (Ac 2 x103 fun x125=>Bj x125 x121 h122 fun h126 r127 w128=>Ad [] r127 w128 (BF EE 3 x104 (.fv (.int .i64 1)) fun x129=>Ez h4 h126 x98 x99 x100 x101 x102 x103 x129 q66))
def El (ih:Aa) (h107:Hp) (x98 x106 x111 x112:IV) (r110:AH) (x109 x103 x104:IV) (h4:Hp) (x99 x100 x101 x102:IV) (q66:List IV→Hp→OH):OH :=
 Aj [true,false,false,false] false false ih 48 [x98,x106,x111,x112] h107 fun x113 h114 r115 w116=>Ad [(r110,[])] r115 w116 (Ax (Ah EE 29 1 [(0,x113)]) 50353162 h114 fun x117 h118 r119 w120=>Ad [(r110,[])] r119 w120 (Ax (AT EE 50353163 false .append [29,29] [x109,x117]) 50353163 h118 fun x121 h122 r123 w124=>Ep r123 w124 x103 h122 x121 x104 h4 x98 x99 x100 x101 x102 q66))
def GQ (x103:IV) (h107:Hp) (x100 x105 x101:IV) (ih:Aa) (x98 x106 x104:IV) (h4:Hp) (x99 x102:IV) (q66:List IV→Hp→OH):OH :=
 Ac 2 x103 fun x108=>Af x108 h107 fun x109 r110=>Ad [] r110 [] (BF EE 3 x100 x105 fun x111=>BF EE 3 x101 (.fv (.int .i64 1)) fun x112=>El ih h107 x98 x106 x111 x112 r110 x109 x103 x104 h4 x99 x100 x101 x102 q66)
def EF (h4 h162:Hp) (x139 x140 x141 x142 x143 x144 x145 x146 x147 x161 x165:IV) (q136:List IV→Hp→OH):OH :=
 Bt (h4.own.map (·.1)) [50351109] [x139,x140,x141,x142,x143,x144,x145,x146,x147,x161,x165] h162 fun h166=>q136 [x139,x140,x141,x142,x143,x144,x145,x146,x147,x161,x165] h166
def ED (x151:IV) (h138:Hp) (ih:Aa) (x148 x149:IV) (h4:Hp) (x139 x140 x141 x142 x143 x144 x145 x146 x147:IV) (q136:List IV→Hp→OH):OH :=
 Bv [.fv (.int .i64 0),.fv (.int .i64 0),.nils,.nils,.fv (.int .i64 0),.fv (.int .i64 0),.nils] [(0,1,.fv (.int .i64 1)),(1,1,x151)] fun x152=>fzS (J1 true 50351109 x152) 50351109 x152 h138 fun x153 h154 _ _=>Ax (Ah EE 93 1 [(0,x153)]) 50351110 h154 fun x157 h158 _ _=>Aj [] false false ih 69 [x148,x157] h158 fun x161 h162 _ _=>BF EE 3 x149 (.fv (.int .i64 1)) fun x165=>EF h4 h162 x139 x140 x141 x142 x143 x144 x145 x146 x147 x161 x165 q136
def EP (x167:IV) (h138:Hp) (ih:Aa) (x139 x148:IV) (j9_97:IV→IV→IV→IV→IV→IV→IV→IV→IV→Hp→OH) (x140 x141 x142 x143 x144 x145 x146:IV):OH :=
 Ac 4 x167 fun x168=>Ai 3 x168 h138 fun x169 _=>Aj [true,false,false] false false ih 49 [x139,x169,x148] h138 fun x171 h172 _ _=>j9_97 x139 x140 x141 x142 x143 x144 x145 x146 x171 h172
def Ey (l184:List IV) (x146 x141:IV) (h138:Hp) (ih:Aa) (x148:IV) (h4:Hp) (x139 x140 x142 x143 x144 x145 x147:IV) (q136:List IV→Hp→OH) (j9_97:IV→IV→IV→IV→IV→IV→IV→IV→IV→Hp→OH):OH :=
 AA l184 fun x149 _=>Hg EE 3 x149 x146 fun x150=>Al x150 (BF EE 3 x141 x149 fun x151=>ED x151 h138 ih x148 x149 h4 x139 x140 x141 x142 x143 x144 x145 x146 x147 q136) (AB x147 fun x167=>EP x167 h138 ih x139 x148 j9_97 x140 x141 x142 x143 x144 x145 x146)
def EA (l179:List IV) (x141:IV) (h138:Hp) (ih:Aa) (h4:Hp) (x139 x140 x142 x143:IV) (q136:List IV→Hp→OH) (j9_97:IV→IV→IV→IV→IV→IV→IV→IV→IV→Hp→OH):OH :=
 AA l179 fun x144 l180=>AA l180 fun x145 l181=>AA l181 fun x146 l182=>AA l182 fun x147 l183=>AA l183 fun x148 l184=>Ey l184 x146 x141 h138 ih x148 h4 x139 x140 x142 x143 x144 x145 x147 q136 j9_97
def G4 (l137:List IV) (h138:Hp) (ih:Aa) (h4:Hp) (q136:List IV→Hp→OH) (j9_97:IV→IV→IV→IV→IV→IV→IV→IV→IV→Hp→OH):OH :=
 AA l137 fun x139 l175=>AA l175 fun x140 l176=>AA l176 fun x141 l177=>AA l177 fun x142 l178=>AA l178 fun x143 l179=>EA l179 x141 h138 ih h4 x139 x140 x142 x143 q136 j9_97
def EN (h87:Hp) (x133:IV) (h4:Hp) (x69 x70 x71 x72 x73 x74 x75 x86 x95:IV) (n:Nat) (ih:Aa) (j9_97:IV→IV→IV→IV→IV→IV→IV→IV→IV→Hp→OH):OH :=
 Af x133 h87 fun x134 _=>Bt (h4.own.map (·.1)) [50351109] [x69,x70,x71,x72,x73,x74,x75,x86,x95,x134,.fv (.int .i64 0)] h87 fun h186=>BD n (fun q136 l137 h138=>G4 l137 h138 ih h4 q136 j9_97) [x69,x70,x71,x72,x73,x74,x75,x86,x95,x134,.fv (.int .i64 0)] h186
def Er (x131 x95:IV) (h87 h4:Hp) (x69 x70 x71 x72 x73 x74 x75 x86:IV) (n:Nat) (ih:Aa) (j9_97:IV→IV→IV→IV→IV→IV→IV→IV→IV→Hp→OH):OH :=
 Al x131 (AB x95 fun x132=>Ac 3 x132 fun x133=>EN h87 x133 h4 x69 x70 x71 x72 x73 x74 x75 x86 x95 n ih j9_97) (j9_97 x69 x70 x71 x72 x73 x74 x75 x86 x95 h87)
def EK (h87:Hp) (x91 x75:IV) (ih:Aa) (h4:Hp) (q66:List IV→Hp→OH) (x86 x69 x70 x71 x72 x73 x74:IV) (n:Nat):OH :=
 Af x91 h87 fun x92 _=>Bf 1 x92 x75 fun x94=>Af x94 h87 fun x95 _=>(fun (j9_97:IV→IV→IV→IV→IV→IV→IV→IV→IV→Hp→OH)=>KU EE 3 x86 (.fv (.int .i64 0)) fun x131=>Er x131 x95 h87 h4 x69 x70 x71 x72 x73 x74 x75 x86 n ih j9_97) fun x98 x99 x100 x101 x102 x103 x104 x105 x106 h107=>GQ x103 h107 x100 x105 x101 ih x98 x106 x104 h4 x99 x102 q66
def EM (x82:IV) (h68:Hp) (ih:Aa) (x75 x70:IV) (h4:Hp) (q66:List IV→Hp→OH) (x69 x71 x72 x73 x74:IV) (n:Nat):OH :=
 Ac 0 x82 fun x83=>Af x83 h68 fun x84 _=>Aj [] false false ih 63 [x84,x75] h68 fun x86 h87 _ _=>AB x70 fun x90=>Ac 2 x90 fun x91=>EK h87 x91 x75 ih h4 q66 x86 x69 x70 x71 x72 x73 x74 n
def Em (h68:Hp) (x73 x187:IV):OH :=
 Ak 3 x73 x187 h68 fun h189 _ _=>AC true 3 x73 h189 fun x192=>Ao [x192] h189
def EG (x78 x75 x70:IV) (h68:Hp) (ih:Aa) (h4:Hp) (q66:List IV→Hp→OH) (x69 x71 x72 x73 x74:IV) (n:Nat):OH :=
 Ca x78 fun x80=>Hg EE 3 x75 x80 fun x81=>Al x81 (AB x70 fun x82=>EM x82 h68 ih x75 x70 h4 q66 x69 x71 x72 x73 x74 n) (Ai 3 x74 h68 fun x187 _=>Em h68 x73 x187)
def Ej (l197:List IV) (x70:IV) (h68:Hp) (ih:Aa) (h4:Hp) (q66:List IV→Hp→OH) (x69 x71 x72 x73:IV) (n:Nat):OH :=
 AA l197 fun x74 l198=>AA l198 fun x75 _=>AB x70 fun x76=>Ac 2 x76 fun x77=>Af x77 h68 fun x78 _=>EG x78 x75 x70 h68 ih h4 q66 x69 x71 x72 x73 x74 n
def E9 (l67:List IV) (h68:Hp) (ih:Aa) (h4:Hp) (q66:List IV→Hp→OH) (n:Nat):OH :=
 AA l67 fun x69 l193=>AA l193 fun x70 l194=>AA l194 fun x71 l195=>AA l195 fun x72 l196=>AA l196 fun x73 l197=>Ej l197 x70 h68 ih h4 q66 x69 x71 x72 x73 n
def Ek (r61 w62 r57 r53:AH) (h60:Hp) (x59 x58:IV) (h4:Hp) (x0 x1 x2 x3 x5:IV) (n:Nat) (ih:Aa):OH :=
 Ad [(r57,[]),(r53,[])] r61 w62 (Ak 3 x59 x58 h60 fun h63 r64 w65=>Ad [] r64 w65 (Bt (h4.own.map (·.1)) [50351109,50353163] [x0,x1,x2,x3,x5,x59,.fv (.int .i64 0)] h63 fun h200=>BD n (fun q66 l67 h68=>E9 l67 h68 ih h4 q66 n) [x0,x1,x2,x3,x5,x59,.fv (.int .i64 0)] h200))
def EH (x54:IV) (h20:Hp) (r53:AH) (x52:IV) (h4:Hp) (x0 x1 x2 x3 x5:IV) (n:Nat) (ih:Aa):OH :=
 Ac 1 x54 fun x55=>Af x55 h20 fun x56 r57=>Ad [(r53,[])] r57 [] (Bv [.fv (.int .i64 0),.fv (.int .i64 0),.nils] [(0,1,x52),(1,1,x56)] fun x58=>AJ 50339849 (.row [.fv (.int .i64 0),.fv (.int .i64 0),.nils] false) (.ptr (.own 50339849) 0) h20 fun x59 h60 r61 w62=>Ek r61 w62 r57 r53 h60 x59 x58 h4 x0 x1 x2 x3 x5 n ih)
def Es (x1:IV) (h20 h4:Hp) (x0 x2 x3 x5:IV) (n:Nat) (ih:Aa):OH :=
 AB x1 fun x50=>Ac 0 x50 fun x51=>Af x51 h20 fun x52 r53=>Ad [] r53 [] (AB x1 fun x54=>EH x54 h20 r53 x52 h4 x0 x1 x2 x3 x5 n ih)
def Eo (x1:IV) (h20:Hp) (x2:IV) (ih:Aa) (x5:IV) (h4:Hp) (x0 x3:IV) (n:Nat):OH :=
 AB x1 fun x31=>Ac 0 x31 fun x32=>Af x32 h20 fun x33 _=>A2 EE 3 x33 (.fv (.int .i64 1)) fun x35=>Al x35 (En x2 x1 h20 ih x5) (Es x1 h20 h4 x0 x2 x3 x5 n ih)
def Ew (x0:IV) (h20:Hp) (x5 x1 x2:IV) (ih:Aa) (h4:Hp) (x3:IV) (n:Nat):OH :=
 AB x0 fun x21=>Ac 2 x21 fun x22=>Af x22 h20 fun x23 _=>IH EE 3 x23 (.fv (.int .i64 0)) fun x25=>Al x25 (EO h20 x5) (Eo x1 h20 x2 ih x5 h4 x0 x3 n)
def EI (x259:IV) (h255:Hp) (j0_19:Hp→OH):OH :=
 Ac 2 x259 fun x260=>Bj x260 (.fv (.int .i64 5)) h255 fun h261 _ _=>j0_19 h261
def EL (h249:Hp) (x205 x237 x248 x0:IV) (j0_19:Hp→OH):OH :=
 Ab x205 true h249 (fun k252=>AF x237 (.fv (.bool true)) x248 fun x253=>k252 x253 h249 [] []) fun x254 h255 _ _=>AF x205 x254 (.fv (.bool false)) fun x258=>Al x258 (AB x0 fun x259=>EI x259 h255 j0_19) (j0_19 h255)
def EC (h220:Hp) (x205 x219 x3 x0:IV) (j0_19:Hp→OH):OH :=
 Ab x205 true h220 (fun k223=>Af x219 h220 fun x224 r225=>k223 x224 h220 r225 []) fun x226 h227 _ _=>Ab x205 true h227 (fun k230=>KU EE 3 x226 (.fv (.int .i64 3000)) fun x231=>k230 x231 h227 [] []) fun x232 h233 _ _=>Ab x205 true h233 (fun k236=>k236 x232 h233 [] []) fun x237 h238 _ _=>Ab x237 false h238 (fun k241=>k241 x3 h238 [] []) fun x242 h243 _ _=>Ab x237 false h243 (fun k246=>KU EE 3 x242 (.fv (.int .i64 120)) fun x247=>k246 x247 h243 [] []) fun x248 h249 _ _=>EL h249 x205 x237 x248 x0 j0_19
def EQ (h16:Hp) (x202 x0 x3:IV) (j0_19:Hp→OH):OH :=
 Af x202 h16 fun x203 _=>A2 EE 3 x203 (.fv (.int .i64 0)) fun x205=>Ab x205 true h16 (fun k206=>k206 x0 h16 [] []) fun x207 h208 _ _=>Ab x205 true h208 (fun k211=>AB x207 fun x212=>k211 x212 h208 [] []) fun x213 h214 _ _=>Ab x205 true h214 (fun k217=>Ac 1 x213 fun x218=>k217 x218 h214 [] []) fun x219 h220 _ _=>EC h220 x205 x219 x3 x0 j0_19
def Et (x14:IV) (h6:Hp) (x13 x0 x5 x1 x2:IV) (ih:Aa) (h4:Hp) (x3:IV) (n:Nat):OH :=
 Ac 1 x14 fun x15=>Bj x15 x13 h6 fun h16 _ _=>(fun (j0_19:Hp→OH)=>AB x0 fun x201=>Ac 2 x201 fun x202=>EQ h16 x202 x0 x3 j0_19) fun h20=>Ew x0 h20 x5 x1 x2 ih h4 x3 n
def S48 (ih:Aa) (n:Nat) (x0 x1 x2 x3:IV) (h4:Hp):OH :=
 AJ 50331648 (.row [.fv (.int .i64 0),.fv (.int .i64 0),.nils] false) (.ptr (.own 50331648) 0) h4 fun x5 h6 _ _=>AB x0 fun x9=>Ac 1 x9 fun x10=>Af x10 h6 fun x11 _=>BF EE 3 x11 (.fv (.int .i64 1)) fun x13=>AB x0 fun x14=>Et x14 h6 x13 x0 x5 x1 x2 ih h4 x3 n
theorem AjJ (ih:Aa) (n:Nat) (x0 x1 x2 x3:IV) (h4:Hp):AE EE ih ft.get n 48 [x0,x1,x2,x3] h4=S48 ih n x0 x1 x2 x3 h4:=by kernel_rfl
def IL (h5:Hp):OH :=
 Bv [.fv (.int .i64 0),.fv (.int .i64 0),.nils,.nils,.fv (.int .i64 0),.fv (.int .i64 0),.nils] [(0,1,.fv (.int .i64 11))] fun x13=>Bg 51382273 x13 h5 fun x14 h15 _ _=>Ao [x14] h15
def Ir (h5:Hp) (x33:IV):OH :=
 Af x33 h5 fun x34 _=>Ao [x34] h5
def Ib (x27 x4:IV) (h5:Hp) (x2:IV):OH :=
 A9 EE 3 x27 (.fv (.int .i64 1)) fun x28=>Ac 1 x4 fun x29=>Af x29 h5 fun x30 _=>A9 EE 3 x28 x30 fun x32=>Bf 1 x2 x32 fun x33=>Ir h5 x33
def HS (h5:Hp) (x42:IV):OH :=
 Bg 51386375 x42 h5 fun x43 h44 _ _=>Ao [x43] h44
def Iv (x36 x4:IV) (h5:Hp):OH :=
 A9 EE 3 x36 (.fv (.int .i64 1)) fun x37=>Ac 1 x4 fun x38=>Af x38 h5 fun x39 _=>A9 EE 3 x37 x39 fun x41=>Bv [.fv (.int .i64 0),.fv (.int .i64 0),.nils,.nils,.fv (.int .i64 0),.fv (.int .i64 0),.nils] [(0,1,.fv (.int .i64 1)),(1,1,x41)] fun x42=>HS h5 x42
def Is (h5:Hp) (x22 x2 x4:IV):OH :=
 Af x22 h5 fun x23 _=>Ca x2 fun x25=>Hg EE 3 x23 x25 fun x26=>Al x26 (Ca x2 fun x27=>Ib x27 x4 h5 x2) (Ca x2 fun x36=>Iv x36 x4 h5)
def Iz (x65:IV) (h3 h72:Hp) (x61 x62 x63 x64:IV) (q58:List IV→Hp→OH):OH :=
 BF EE 3 x65 (.fv (.int .i64 1)) fun x73=>Bt (h3.own.map (·.1)) [51392524,51392526,51393550] [x61,x62,x63,x64,x73] h72 fun h74=>q58 [x61,x62,x63,x64,x73] h74
def H9 (x64:IV) (h103:Hp) (x102:IV) (j0_71:Hp→OH):OH :=
 AB x64 fun x106=>Ac 2 x106 fun x107=>Bj x107 x102 h103 fun h108 r109 w110=>Ad [] r109 w110 (j0_71 h108)
def IK (r96 w97 r86:AH) (h95:Hp) (x94 x85 x64:IV) (j0_71:Hp→OH):OH :=
 Ad [(r86,[])] r96 w97 (Ax (Ah EE 93 1 [(0,x94)]) 51392525 h95 fun x98 h99 r100 w101=>Ad [(r86,[])] r100 w101 (Ax (AT EE 51392526 false .append [93,93] [x85,x98]) 51392526 h99 fun x102 h103 r104 w105=>Ad [] r104 w105 (H9 x64 h103 x102 j0_71)))
def IB (x88 x65:IV) (h79:Hp) (r86:AH) (x62 x85 x64:IV) (j0_71:Hp→OH):OH :=
 Bf 3 x88 x65 fun x90=>Ai 3 x90 h79 fun x91 r92=>Ad [(r86,[])] r92 [] (Bv [.fv (.int .i64 0),.fv (.int .i64 0),.nils,.nils,.fv (.int .i64 0),.fv (.int .i64 0),.nils] [(3,1,x62),(4,3,x91)] fun x93=>Bg 51392524 x93 h79 fun x94 h95 r96 w97=>IK r96 w97 r86 h95 x94 x85 x64 j0_71)
def Im (h79:Hp) (x84 x63 x65 x62 x64:IV) (j0_71:Hp→OH):OH :=
 Af x84 h79 fun x85 r86=>Ad [] r86 [] (Ac 2 x63 fun x87=>Af x87 h79 fun x88 r89=>Ad [(r86,[])] r89 [] (IB x88 x65 h79 r86 x62 x85 x64 j0_71))
def IP (x133:IV) (h130:Hp) (x129:IV) (j0_71:Hp→OH):OH :=
 Ac 2 x133 fun x134=>Bj x134 x129 h130 fun h135 r136 w137=>Ad [] r136 w137 (j0_71 h135)
def IM (h122:Hp) (x121:IV) (r114:AH) (x113 x64:IV) (j0_71:Hp→OH):OH :=
 Ax (Ah EE 93 1 [(0,x121)]) 51393549 h122 fun x125 h126 r127 w128=>Ad [(r114,[])] r127 w128 (Ax (AT EE 51393550 false .append [93,93] [x113,x125]) 51393550 h126 fun x129 h130 r131 w132=>Ad [] r131 w132 (AB x64 fun x133=>IP x133 h130 x129 j0_71))
def H3 (x116 x65:IV) (h79:Hp) (r114:AH) (ih:Aa) (x61 x62 x113 x64:IV) (j0_71:Hp→OH):OH :=
 Bf 3 x116 x65 fun x118=>Ai 3 x118 h79 fun x119 r120=>Ad [(r114,[])] r120 [] (Aj [true,false,false] false false ih 49 [x61,x119,x62] h79 fun x121 h122 r123 w124=>Ad [(r114,[])] r123 w124 (IM h122 x121 r114 x113 x64 j0_71))
def Iq (h79:Hp) (x112 x63 x65:IV) (ih:Aa) (x61 x62 x64:IV) (j0_71:Hp→OH):OH :=
 Af x112 h79 fun x113 r114=>Ad [] r114 [] (Ac 2 x63 fun x115=>Af x115 h79 fun x116 r117=>Ad [(r114,[])] r117 [] (H3 x116 x65 h79 r114 ih x61 x62 x113 x64 j0_71))
def Ih (x82 x64:IV) (h79:Hp) (x63 x65 x62:IV) (j0_71:Hp→OH) (ih:Aa) (x61:IV):OH :=
 Al x82 (AB x64 fun x83=>Ac 2 x83 fun x84=>Im h79 x84 x63 x65 x62 x64 j0_71) (AB x64 fun x111=>Ac 2 x111 fun x112=>Iq h79 x112 x63 x65 ih x61 x62 x64 j0_71)
def Ia (x65:IV) (h3:Hp) (x61 x62 x63 x64:IV) (q58:List IV→Hp→OH) (h60:Hp) (ih:Aa):OH :=
 (fun (j0_71:Hp→OH)=>Ac 0 x63 fun x75=>Af x75 h60 fun x76 _=>Aj [] false false ih 63 [x76,x65] h60 fun x78 h79 _ _=>KU EE 3 x78 (.fv (.int .i64 0)) fun x82=>Ih x82 x64 h79 x63 x65 x62 j0_71 ih x61) fun h72=>Iz x65 h3 h72 x61 x62 x63 x64 q58
def IA (ih:Aa) (h60:Hp) (x61 x64:IV):OH :=
 Aj [true,false] false false ih 70 [x61,x64] h60 fun x138 h139 _ _=>Ao [x138] h139
def H8 (x63:IV) (h60:Hp) (x65:IV) (h3:Hp) (x61 x62 x64:IV) (q58:List IV→Hp→OH) (ih:Aa):OH :=
 Ac 2 x63 fun x66=>Af x66 h60 fun x67 _=>Ca x67 fun x69=>Hg EE 3 x65 x69 fun x70=>Al x70 (Ia x65 h3 x61 x62 x63 x64 q58 h60 ih) (IA ih h60 x61 x64)
def Yf (l59:List IV) (h60 h3:Hp) (q58:List IV→Hp→OH) (ih:Aa):OH :=
 AA l59 fun x61 l142=>AA l142 fun x62 l143=>AA l143 fun x63 l144=>AA l144 fun x64 l145=>AA l145 fun x65 _=>H8 x63 h60 x65 h3 x61 x62 x64 q58 ih
def Ic (h3 h55:Hp) (x0 x2 x4 x54:IV) (n:Nat) (ih:Aa):OH :=
 Bt (h3.own.map (·.1)) [51392524,51392526,51393550] [x0,x2,x4,x54,.fv (.int .i64 0)] h55 fun h147=>BD n (fun q58 l59 h60=>Yf l59 h60 h3 q58 ih) [x0,x2,x4,x54,.fv (.int .i64 0)] h147
def Ip (h5:Hp) (x47 x4:IV) (h3:Hp) (x0 x2:IV) (n:Nat) (ih:Aa):OH :=
 Af x47 h5 fun x48 _=>Ac 1 x4 fun x50=>Af x50 h5 fun x51 _=>Bv [.fv (.int .i64 0),.fv (.int .i64 0),.nils,.nils,.fv (.int .i64 0),.fv (.int .i64 0),.nils] [(0,1,x48),(1,1,x51)] fun x53=>Bg 51387397 x53 h5 fun x54 h55 _ _=>Ic h3 h55 x0 x2 x4 x54 n ih
def Ii (x4:IV) (h5:Hp) (x2:IV) (h3:Hp) (x0:IV) (n:Nat) (ih:Aa):OH :=
 Ac 0 x4 fun x18=>Af x18 h5 fun x19 _=>A2 EE 3 x19 (.fv (.int .i64 1)) fun x21=>Al x21 (Ac 1 x4 fun x22=>Is h5 x22 x2 x4) (Ac 0 x4 fun x47=>Ip h5 x47 x4 h3 x0 x2 n ih)
def S49 (ih:Aa) (n:Nat) (x0 x1 x2:IV) (h3:Hp):OH :=
 Bg 51380224 x1 h3 fun x4 h5 _ _=>AB x0 fun x8=>Ac 2 x8 fun x9=>Af x9 h5 fun x10 _=>IH EE 3 x10 (.fv (.int .i64 0)) fun x12=>Al x12 (IL h5) (Ii x4 h5 x2 h3 x0 n ih)
theorem AkV (ih:Aa) (n:Nat) (x0 x1 x2:IV) (h3:Hp):AE EE ih ft.get n 49 [x0,x1,x2] h3=S49 ih n x0 x1 x2 h3:=by kernel_rfl
def JQ (h1 h119:Hp) (x102 x103 x123:IV) (q99:List IV→Hp→OH):OH :=
 Bt (h1.own.map (·.1)) [52434946] [x102,x103,x123] h119 fun h124=>q99 [x102,x103,x123] h124
def KC (ih:Aa) (h113:Hp) (x116 x104:IV) (h1:Hp) (x102 x103:IV) (q99:List IV→Hp→OH):OH :=
 Aj [] false false ih 50 [x116] h113 fun x118 h119 _ _=>CC (KS .not x118) fun x122=>Al x122 (Ao [.fv (.bool false)] h119) (BF EE 3 x104 (.fv (.int .i64 1)) fun x123=>JQ h1 h119 x102 x103 x123 q99)
def JE (x102 x104:IV) (h101:Hp) (ih:Aa) (h1:Hp) (x103:IV) (q99:List IV→Hp→OH):OH :=
 Bf 3 x102 x104 fun x106=>Ai 3 x106 h101 fun x107 _=>AJ 52434946 (.row [.fv (.int .i64 0),.fv (.int .i64 0),.nils] false) (.ptr (.own 52434946) 0) h101 fun x109 h110 _ _=>Ak 3 x109 x107 h110 fun h113 _ _=>Ai 3 x109 h113 fun x116 _=>KC ih h113 x116 x104 h1 x102 x103 q99
def JC (l100:List IV) (h101:Hp) (ih:Aa) (h1:Hp) (q99:List IV→Hp→OH):OH :=
 AA l100 fun x102 l125=>AA l125 fun x103 l126=>AA l126 fun x104 _=>Hg EE 3 x104 x103 fun x105=>Al x105 (JE x102 x104 h101 ih h1 x103 q99) (Ao [.fv (.bool true)] h101)
def KD (x2:IV) (h91 h1:Hp) (n:Nat) (ih:Aa):OH :=
 Ac 2 x2 fun x95=>Af x95 h91 fun x96 _=>Ca x96 fun x98=>Bt (h1.own.map (·.1)) [52434946] [x96,x98,.fv (.int .i64 0)] h91 fun h128=>BD n (fun q99 l100 h101=>JC l100 h101 ih h1 q99) [x96,x98,.fv (.int .i64 0)] h128
def Kn (h72:Hp) (x65 x71 x44 x2:IV) (h1:Hp) (n:Nat) (ih:Aa):OH :=
 Ab x65 true h72 (fun k75=>Af x71 h72 fun x76 r77=>k75 x76 h72 r77 []) fun x78 h79 _ _=>Ab x65 true h79 (fun k82=>Hg EE 3 x78 (.fv (.int .i64 0)) fun x83=>k82 x83 h79 [] []) fun x84 h85 _ _=>Ab x44 false h85 (fun k88=>AF x65 x84 (.fv (.bool false)) fun x89=>k88 x89 h85 [] []) fun x90 h91 _ _=>AF x44 (.fv (.bool true)) x90 fun x94=>Al x94 (Ao [.fv (.bool false)] h91) (KD x2 h91 h1 n ih)
def KK (h41:Hp) (x44 x2:IV) (h1:Hp) (n:Nat) (ih:Aa):OH :=
 Ab x44 false h41 (fun k45=>Ac 0 x2 fun x46=>k45 x46 h41 [] []) fun x47 h48 _ _=>Ab x44 false h48 (fun k51=>Af x47 h48 fun x52 r53=>k51 x52 h48 r53 []) fun x54 h55 _ _=>Ab x44 false h55 (fun k58=>A2 EE 3 x54 (.fv (.int .i64 1)) fun x59=>k58 x59 h55 [] []) fun x60 h61 _ _=>Ab x44 false h61 (fun k64=>k64 x60 h61 [] []) fun x65 h66 _ _=>Ab x65 true h66 (fun k69=>Ac 1 x2 fun x70=>k69 x70 h66 [] []) fun x71 h72 _ _=>Kn h72 x65 x71 x44 x2 h1 n ih
def KQ (h16:Hp) (x13 x2 x15:IV) (h1:Hp) (n:Nat) (ih:Aa):OH :=
 Ab x13 true h16 (fun k19=>Ac 2 x2 fun x20=>k19 x20 h16 [] []) fun x21 h22 _ _=>Ab x13 true h22 (fun k25=>Af x21 h22 fun x26 r27=>k25 x26 h22 r27 []) fun x28 h29 _ _=>Ab x13 true h29 (fun k32=>Ca x28 fun x33=>k32 x33 h29 [] []) fun x34 h35 _ _=>Ab x13 true h35 (fun k38=>IH EE 3 x15 x34 fun x39=>k38 x39 h35 [] []) fun x40 h41 _ _=>AF x13 x40 (.fv (.bool false)) fun x44=>KK h41 x44 x2 h1 n ih
def S50 (ih:Aa) (n:Nat) (x0:IV) (h1:Hp):OH :=
 Bg 52428800 x0 h1 fun x2 h3 _ _=>Ac 0 x2 fun x6=>Af x6 h3 fun x7 _=>Aj [] false false ih 71 [x7] h3 fun x9 h10 _ _=>geS EE 3 x9 (.fv (.int .i64 0)) fun x13=>Ab x13 true h10 (fun k14=>k14 x9 h10 [] []) fun x15 h16 _ _=>KQ h16 x13 x2 x15 h1 n ih
theorem Akn (ih:Aa) (n:Nat) (x0:IV) (h1:Hp):AE EE ih ft.get n 50 [x0] h1=S50 ih n x0 h1:=by kernel_rfl
def RG (x2:IV) (h61:Hp) (x6:IV):OH :=
 AB x2 fun x64=>Ac 4 x64 fun x65=>Bj x65 x6 h61 fun h66 _ _=>Ao [x2] h66
def Qa (x46:IV) (h47:Hp) (x6 x2:IV):OH :=
 Bv [.fv (.nilf)] [(0,1,x46)] fun x50=>Ax (B0 EE 78 x6 (.fv (.int .i64 30)) x50) 53479445 h47 fun _ h52 _ _=>Ax (val (FH (.func 76) [x2] [])) 53479447 h52 fun x55 h56 _ _=>Bv [.fv (.nilf)] [(0,1,x55)] fun x59=>Ax (B0 EE 78 x6 (.fv (.int .i64 19)) x59) 53479449 h56 fun _ h61 _ _=>RG x2 h61 x6
def Sq (h29:Hp) (x6 x32 x2:IV):OH :=
 Ax (B0 EE 78 x6 (.fv (.int .i64 9)) x32) 53479437 h29 fun _ h34 _ _=>Ax (val (FH (.func 74) [x2] [])) 53479439 h34 fun x37 h38 _ _=>Bv [.fv (.nilf)] [(0,1,x37)] fun x41=>Ax (B0 EE 78 x6 (.fv (.int .i64 13)) x41) 53479441 h38 fun _ h43 _ _=>Ax (val (FH (.func 75) [x2] [])) 53479443 h43 fun x46 h47 _ _=>Qa x46 h47 x6 x2
def Vo (h16:Hp) (x2 x6:IV):OH :=
 Ax (val (FH (.func 73) [x2] [])) 53479431 h16 fun x19 h20 _ _=>Bv [.fv (.nilf)] [(0,1,x19)] fun x23=>Ax (B0 EE 78 x6 (.fv (.int .i64 8)) x23) 53479433 h20 fun _ h25 _ _=>Ax (val (FH (.func 73) [x2] [])) 53479435 h25 fun x28 h29 _ _=>Bv [.fv (.nilf)] [(0,1,x28)] fun x32=>Sq h29 x6 x32 x2
def S51 (ih:Aa) (n:Nat) (h0:Hp):OH :=
 Bv [.fv (.int .i64 0),.fv (.int .i64 0),.fv (.int .i64 0),.fv (.int .i64 0),.dead] [(0,1,.fv (.int .i64 100000)),(1,1,.fv (.int .i64 5000000))] fun x1=>Bg 53478401 x1 h0 fun x2 h3 _ _=>Ax (GB 53479425) 53479425 h3 fun x6 h7 _ _=>Ax (val (FH (.func 72) [x2] [])) 53479427 h7 fun x10 h11 _ _=>Bv [.fv (.nilf)] [(0,1,x10)] fun x14=>Ax (B0 EE 78 x6 (.fv (.int .i64 5)) x14) 53479429 h11 fun _ h16 _ _=>Vo h16 x2 x6
theorem Akw (ih:Aa) (n:Nat) (h0:Hp):AE EE ih ft.get n 51 [] h0=S51 ih n h0:=by kernel_rfl
def LZ (x4:IV) (h9:Hp) (ih:Aa) (x1:IV):OH :=
 Ac 1 x4 fun x16=>Af x16 h9 fun x17 _=>Aj [] false false ih 78 [x1,x17] h9 fun x19 h20 _ _=>Ao [x19] h20
def Mb (x62:IV) (h3 h65:Hp) (x56 x57 x58 x59 x60 x61:IV) (q53:List IV→Hp→OH):OH :=
 BF EE 3 x62 (.fv (.int .i64 1)) fun x66=>Bt (h3.own.map (·.1)) [54535171] [x56,x57,x58,x59,x60,x61,x66] h65 fun h67=>q53 [x56,x57,x58,x59,x60,x61,x66] h67
def Mf (ih:Aa) (h82:Hp) (x56 x57 x90:IV) (r89:AH) (x88 x62:IV) (j0_64:Hp→OH):OH :=
 Aj [true,false,false] false false ih 52 [x56,x57,x90] h82 fun x92 h93 r94 w95=>Ad [(r89,[])] r94 w95 (Bf 1 x88 x62 fun x96=>Bj x96 x92 h93 fun h97 r98 w99=>Ad [] r98 w99 (j0_64 h97))
def Mk (x86:IV) (h82:Hp) (x71:IV) (ih:Aa) (x56 x57 x62:IV) (j0_64:Hp→OH):OH :=
 Ac 2 x86 fun x87=>Af x87 h82 fun x88 r89=>Ad [] r89 [] (Ai 3 x71 h82 fun x90 r91=>Ad [(r89,[])] r91 [] (Mf ih h82 x56 x57 x90 r89 x88 x62 j0_64))
def LY (h75:Hp) (x78:IV) (ih:Aa) (x62 x59 x71 x56 x57:IV) (j0_64:Hp→OH):OH :=
 Af x78 h75 fun x79 _=>Aj [] false false ih 79 [x79,x62] h75 fun x81 h82 _ _=>A2 EE 3 x81 (.fv (.int .i64 0)) fun x85=>Al x85 (AB x59 fun x86=>Mk x86 h82 x71 ih x56 x57 x62 j0_64) (j0_64 h82)
def Mc (x60 x62:IV) (h55:Hp) (x58:IV) (ih:Aa) (x59 x56 x57:IV) (j0_64:Hp→OH):OH :=
 Bf 3 x60 x62 fun x68=>Ai 3 x68 h55 fun x69 _=>AJ 54535171 (.row [.fv (.int .i64 0),.fv (.int .i64 0),.nils] false) (.ptr (.own 54535171) 0) h55 fun x71 h72 _ _=>Ak 3 x71 x69 h72 fun h75 _ _=>Ac 0 x58 fun x78=>LY h75 x78 ih x62 x59 x71 x56 x57 j0_64
def Me (x100:IV) (h55:Hp) (x59:IV) (ih:Aa) (x56:IV):OH :=
 Ac 3 x100 fun x101=>Af x101 h55 fun x102 _=>IH EE 37 x102 (.fv (.int .i64 0)) fun x104=>Al x104 (Ao [x59] h55) (Aj [true,false] false false ih 80 [x56,x59] h55 fun x105 h106 _ _=>Ao [x105] h106)
def L8 (l113:List IV) (h3:Hp) (x56 x57 x58 x59 x60:IV) (q53:List IV→Hp→OH) (h55:Hp) (ih:Aa):OH :=
 AA l113 fun x61 l114=>AA l114 fun x62 _=>Hg EE 3 x62 x61 fun x63=>Al x63 ((fun (j0_64:Hp→OH)=>Mc x60 x62 h55 x58 ih x59 x56 x57 j0_64) fun h65=>Mb x62 h3 h65 x56 x57 x58 x59 x60 x61 q53) (AB x56 fun x100=>Me x100 h55 x59 ih x56)
def Abt (l54:List IV) (h3:Hp) (q53:List IV→Hp→OH) (h55:Hp) (ih:Aa):OH :=
 AA l54 fun x56 l109=>AA l109 fun x57 l110=>AA l110 fun x58 l111=>AA l111 fun x59 l112=>AA l112 fun x60 l113=>L8 l113 h3 x56 x57 x58 x59 x60 q53 h55 ih
def L1 (x50:IV) (h3 h41:Hp) (x0 x1 x4 x40:IV) (n:Nat) (ih:Aa):OH :=
 Ca x50 fun x52=>Bt (h3.own.map (·.1)) [54535171] [x0,x1,x4,x40,x50,x52,.fv (.int .i64 0)] h41 fun h116=>BD n (fun q53 l54 h55=>Abt l54 h3 q53 h55 ih) [x0,x1,x4,x40,x50,x52,.fv (.int .i64 0)] h116
def Mg (x46:IV) (h41:Hp) (x40 x4:IV) (h3:Hp) (x0 x1:IV) (n:Nat) (ih:Aa):OH :=
 IH EE 37 x46 (.fv (.int .i64 0)) fun x48=>Al x48 (Ao [x40] h41) (Ac 2 x4 fun x49=>Af x49 h41 fun x50 _=>L1 x50 h3 h41 x0 x1 x4 x40 n ih)
def Ms (h34:Hp) (x39 x0 x4:IV) (h3:Hp) (x1:IV) (n:Nat) (ih:Aa):OH :=
 Bg 54530059 x39 h34 fun x40 h41 r42 w43=>Ad [] r42 w43 (AB x0 fun x44=>Ac 3 x44 fun x45=>Af x45 h41 fun x46 _=>Mg x46 h41 x40 x4 h3 x0 x1 n ih)
def L6 (h9:Hp) (x32:IV) (r28 r25:AH) (x4:IV) (r31:AH) (x24 x27 x1 x0:IV) (h3:Hp) (n:Nat) (ih:Aa):OH :=
 Ax (BM EE 54530055 104 x32 x32) 54530055 h9 fun x33 h34 r35 w36=>Ad [(r28,[]),(r25,[])] r35 w36 (Ai 3 x4 h34 fun x37 r38=>Ad [(r35,w36),(r31,[]),(r28,[]),(r25,[])] r38 [] (Bv [.fv (.int .i64 0),.fv (.int .i64 0),.nils,.fv (.int .i64 0),.fv (.int .i64 0),.nils,.fv (.nilp)] [(0,1,x24),(1,1,x27),(2,1,x33),(3,3,x37),(6,1,x1)] fun x39=>Ms h34 x39 x0 x4 h3 x1 n ih))
def Mv (r28 r25:AH) (x4:IV) (h9:Hp) (x24 x27 x1 x0:IV) (h3:Hp) (n:Nat) (ih:Aa):OH :=
 Ad [(r25,[])] r28 [] (Ac 2 x4 fun x29=>Af x29 h9 fun x30 r31=>Ad [(r28,[]),(r25,[])] r31 [] (Ca x30 fun x32=>L6 h9 x32 r28 r25 x4 r31 x24 x27 x1 x0 h3 n ih))
def Ma (x4:IV) (h9:Hp) (x1 x0:IV) (h3:Hp) (n:Nat) (ih:Aa):OH :=
 Ac 0 x4 fun x23=>Af x23 h9 fun x24 r25=>Ad [] r25 [] (Ac 1 x4 fun x26=>Af x26 h9 fun x27 r28=>Mv r28 r25 x4 h9 x24 x27 x1 x0 h3 n ih)
def S52 (ih:Aa) (n:Nat) (x0 x1 x2:IV) (h3:Hp):OH :=
 Bg 54525952 x2 h3 fun x4 h5 _ _=>Aj [true] false false ih 77 [x0] h5 fun _ h9 _ _=>Ac 0 x4 fun x12=>Af x12 h9 fun x13 _=>A2 EE 3 x13 (.fv (.int .i64 1)) fun x15=>Al x15 (LZ x4 h9 ih x1) (Ma x4 h9 x1 x0 h3 n ih)
theorem AmE (ih:Aa) (n:Nat) (x0 x1 x2:IV) (h3:Hp):AE EE ih ft.get n 52 [x0,x1,x2] h3=S52 ih n x0 x1 x2 h3:=by kernel_rfl
def Dc (h21:Hp) (x5:IV):OH :=
 AC true 3 x5 h21 fun x24=>Ao [x24] h21
def Dl (h12:Hp) (x5 x36:IV):OH :=
 Ak 3 x5 x36 h12 fun h37 _ _=>AC true 3 x5 h37 fun x40=>Ao [x40] h37
def Dd (x1:IV) (h12:Hp) (x30 x5:IV):OH :=
 AB x1 fun x31=>Ac 1 x31 fun x32=>Af x32 h12 fun x33 _=>A9 EE 3 x30 x33 fun x35=>Bv [.fv (.int .i64 0),.fv (.int .i64 0),.nils] [(0,1,.fv (.int .i64 1)),(1,1,x35)] fun x36=>Dl h12 x5 x36
def C4 (h90:Hp) (x83:IV):OH :=
 Bv [.fv (.int .i64 0),.fv (.int .i64 0),.nils] [] fun x96=>Ak 3 x83 x96 h90 fun h97 _ _=>AC true 3 x83 h97 fun x100=>Ao [x100] h97
def C5 (x89:IV) (h4 h108:Hp) (x79 x80 x81 x82 x83 x84 x88:IV) (q51:List IV→Hp→OH):OH :=
 BF EE 3 x89 (.fv (.int .i64 1)) fun x111=>Bt (h4.own.map (·.1)) [55589889,55593990] [x79,x80,x81,x82,x83,x84,x88,x111] h108 fun h112=>q51 [x79,x80,x81,x82,x83,x84,x88,x111] h112
def Db (x81 x87 x82:IV) (ih:Aa) (h90:Hp) (x79 x86 x84 x85 x89:IV) (h4:Hp) (x80 x83 x88:IV) (q51:List IV→Hp→OH):OH :=
 BF EE 3 x81 x87 fun x101=>BF EE 3 x82 (.fv (.int .i64 1)) fun x102=>Aj [true,false,false,false] false false ih 53 [x79,x86,x101,x102] h90 fun x103 h104 _ _=>Bf 3 x84 x85 fun x107=>Ak 3 x107 x103 h104 fun h108 _ _=>C5 x89 h4 h108 x79 x80 x81 x82 x83 x84 x88 q51
def CB (x79:IV) (h90:Hp) (x83 x81 x87 x82:IV) (ih:Aa) (x86 x84 x85 x89:IV) (h4:Hp) (x80 x88:IV) (q51:List IV→Hp→OH):OH :=
 AB x79 fun x91=>Ac 3 x91 fun x92=>Af x92 h90 fun x93 _=>IH EE 37 x93 (.fv (.int .i64 0)) fun x95=>Al x95 (C4 h90 x83) (Db x81 x87 x82 ih h90 x79 x86 x84 x85 x89 h4 x80 x83 x88 q51)
def DG (x134:IV) (h4 h143:Hp) (x122 x123 x124 x125 x126 x127 x128 x129 x130 x131 x132 x133:IV) (q119:List IV→Hp→OH):OH :=
 BF EE 3 x134 (.fv (.int .i64 1)) fun x146=>Bt (h4.own.map (·.1)) [55593990] [x122,x123,x124,x125,x126,x127,x128,x129,x130,x131,x132,x133,x146] h143 fun h147=>q119 [x122,x123,x124,x125,x126,x127,x128,x129,x130,x131,x132,x133,x146] h147
def DS (x124 x134:IV) (h121:Hp) (x130:IV) (h4:Hp) (x122 x123 x125 x126 x127 x128 x129 x131 x132 x133:IV) (q119:List IV→Hp→OH):OH :=
 BF EE 3 x124 x134 fun x136=>Bv [.fv (.int .i64 0),.fv (.int .i64 0),.nils,.fv (.int .i64 0),.fv (.int .i64 0),.nils,.fv (.nilp)] [(0,1,.fv (.int .i64 1)),(1,1,x136)] fun x137=>fzS (J1 true 55593990 x137) 55593990 x137 h121 fun x138 h139 _ _=>Bf 1 x130 x134 fun x142=>Bj x142 x138 h139 fun h143 _ _=>DG x134 h4 h143 x122 x123 x124 x125 x126 x127 x128 x129 x130 x131 x132 x133 q119
def DI (ih:Aa) (h121:Hp) (x122 x123 x128 x130:IV) (j11_78:IV→IV→IV→IV→IV→IV→IV→IV→IV→IV→IV→Hp→OH) (x124 x125 x126 x127 x129 x131 x132:IV):OH :=
 Aj [true,false,false,false] false false ih 81 [x122,x123,x128,x130] h121 fun x148 h149 _ _=>j11_78 x122 x123 x124 x125 x126 x127 x128 x148 x129 x131 x132 h149
def Dw (l161:List IV) (x124:IV) (h121:Hp) (x130:IV) (h4:Hp) (x122 x123 x125 x126 x127 x128 x129 x131:IV) (q119:List IV→Hp→OH) (ih:Aa) (j11_78:IV→IV→IV→IV→IV→IV→IV→IV→IV→IV→IV→Hp→OH):OH :=
 AA l161 fun x132 l162=>AA l162 fun x133 l163=>AA l163 fun x134 _=>Hg EE 3 x134 x133 fun x135=>Al x135 (DS x124 x134 h121 x130 h4 x122 x123 x125 x126 x127 x128 x129 x131 x132 x133 q119) (DI ih h121 x122 x123 x128 x130 j11_78 x124 x125 x126 x127 x129 x131 x132)
def Ds (l156:List IV) (x124:IV) (h121 h4:Hp) (x122 x123 x125 x126:IV) (q119:List IV→Hp→OH) (ih:Aa) (j11_78:IV→IV→IV→IV→IV→IV→IV→IV→IV→IV→IV→Hp→OH):OH :=
 AA l156 fun x127 l157=>AA l157 fun x128 l158=>AA l158 fun x129 l159=>AA l159 fun x130 l160=>AA l160 fun x131 l161=>Dw l161 x124 h121 x130 h4 x122 x123 x125 x126 x127 x128 x129 x131 q119 ih j11_78
def E7 (l120:List IV) (h121 h4:Hp) (q119:List IV→Hp→OH) (ih:Aa) (j11_78:IV→IV→IV→IV→IV→IV→IV→IV→IV→IV→IV→Hp→OH):OH :=
 AA l120 fun x122 l152=>AA l152 fun x123 l153=>AA l153 fun x124 l154=>AA l154 fun x125 l155=>AA l155 fun x126 l156=>Ds l156 x124 h121 h4 x122 x123 x125 x126 q119 ih j11_78
def DM (h4 h115:Hp) (x54 x55 x56 x57 x58 x59 x61 x74 x114 x60 x118:IV) (n:Nat) (ih:Aa) (j11_78:IV→IV→IV→IV→IV→IV→IV→IV→IV→IV→IV→Hp→OH):OH :=
 Bt (h4.own.map (·.1)) [55593990] [x54,x55,x56,x57,x58,x59,x61,x74,x114,x60,x61,x118,.fv (.int .i64 0)] h115 fun h165=>BD n (fun q119 l120 h121=>E7 l120 h121 h4 q119 ih j11_78) [x54,x55,x56,x57,x58,x59,x61,x74,x114,x60,x61,x118,.fv (.int .i64 0)] h165
def C6 (x113:IV) (h75:Hp) (x74:IV) (h4:Hp) (x54 x55 x56 x57 x58 x59 x61 x60:IV) (n:Nat) (ih:Aa) (j11_78:IV→IV→IV→IV→IV→IV→IV→IV→IV→IV→IV→Hp→OH) (x68:IV):OH :=
 Al x113 (Ax (BM EE 55589889 104 x74 x74) 55589889 h75 fun x114 h115 _ _=>Ca x114 fun x118=>DM h4 h115 x54 x55 x56 x57 x58 x59 x61 x74 x114 x60 x118 n ih j11_78) (j11_78 x54 x55 x56 x57 x58 x59 x61 x68 x74 x60 x61 h75)
def Du (r73 r69 r66:AH) (ih:Aa) (h53:Hp) (x72 x61:IV) (h4:Hp) (q51:List IV→Hp→OH) (x54 x55 x56 x57 x58 x59 x60:IV) (n:Nat) (x68:IV):OH :=
 Ad [(r69,[]),(r66,[])] r73 [] (Aj [] false false ih 79 [x72,x61] h53 fun x74 h75 r76 w77=>Ad [(r69,[]),(r66,[])] r76 w77 ((fun (j11_78:IV→IV→IV→IV→IV→IV→IV→IV→IV→IV→IV→Hp→OH)=>KU EE 3 x74 (.fv (.int .i64 0)) fun x113=>C6 x113 h75 x74 h4 x54 x55 x56 x57 x58 x59 x61 x60 n ih j11_78 x68) fun x79 x80 x81 x82 x83 x84 x85 x86 x87 x88 x89 h90=>CB x79 h90 x83 x81 x87 x82 ih x86 x84 x85 x89 h4 x80 x88 q51))
def Dq (h53:Hp) (x67 x55:IV) (r66:AH) (ih:Aa) (x61:IV) (h4:Hp) (q51:List IV→Hp→OH) (x54 x56 x57 x58 x59 x60:IV) (n:Nat):OH :=
 Af x67 h53 fun x68 r69=>Ad [] r69 [] (AB x55 fun x70=>Ac 0 x70 fun x71=>Af x71 h53 fun x72 r73=>Du r73 r69 r66 ih h53 x72 x61 h4 q51 x54 x55 x56 x57 x58 x59 x60 n x68)
def Dn (x55:IV) (h53:Hp) (x61:IV) (ih:Aa) (h4:Hp) (q51:List IV→Hp→OH) (x54 x56 x57 x58 x59 x60:IV) (n:Nat):OH :=
 AB x55 fun x63=>Ac 2 x63 fun x64=>Af x64 h53 fun x65 r66=>Ad [] r66 [] (Bf 1 x65 x61 fun x67=>Dq h53 x67 x55 r66 ih x61 h4 q51 x54 x56 x57 x58 x59 x60 n)
def Df (r176 w177:AH) (h175:Hp) (x58:IV):OH :=
 Ad [] r176 w177 (AC true 3 x58 h175 fun x178=>Ao [x178] h175)
def Do (x170:IV) (h53:Hp) (r169:AH) (x168 x59 x58:IV):OH :=
 Ac 1 x170 fun x171=>Af x171 h53 fun x172 r173=>Ad [(r169,[])] r173 [] (Bv [.fv (.int .i64 0),.fv (.int .i64 0),.nils] [(0,1,x168),(1,1,x172),(2,1,x59)] fun x174=>Ak 3 x58 x174 h53 fun h175 r176 w177=>Df r176 w177 h175 x58)
def C9 (x55:IV) (h53:Hp) (x59 x58:IV):OH :=
 AB x55 fun x166=>Ac 0 x166 fun x167=>Af x167 h53 fun x168 r169=>Ad [] r169 [] (AB x55 fun x170=>Do x170 h53 r169 x168 x59 x58)
def DK (l183:List IV) (x55:IV) (h53:Hp) (ih:Aa) (h4:Hp) (q51:List IV→Hp→OH) (x54 x56 x57 x58:IV) (n:Nat):OH :=
 AA l183 fun x59 l184=>AA l184 fun x60 l185=>AA l185 fun x61 _=>Hg EE 3 x61 x60 fun x62=>Al x62 (Dn x55 h53 x61 ih h4 q51 x54 x56 x57 x58 x59 x60 n) (C9 x55 h53 x59 x58)
def E8 (l52:List IV) (h53:Hp) (ih:Aa) (h4:Hp) (q51:List IV→Hp→OH) (n:Nat):OH :=
 AA l52 fun x54 l179=>AA l179 fun x55 l180=>AA l180 fun x56 l181=>AA l181 fun x57 l182=>AA l182 fun x58 l183=>DK l183 x55 h53 ih h4 q51 x54 x56 x57 x58 n
def DN (h4 h47:Hp) (x0 x1 x2 x3 x5 x46 x50:IV) (n:Nat) (ih:Aa):OH :=
 Bt (h4.own.map (·.1)) [55589889,55593990] [x0,x1,x2,x3,x5,x46,x50,.fv (.int .i64 0)] h47 fun h187=>BD n (fun q51 l52 h53=>E8 l52 h53 ih h4 q51 n) [x0,x1,x2,x3,x5,x46,x50,.fv (.int .i64 0)] h187
def DC (x41:IV) (h12 h4:Hp) (x0 x1 x2 x3 x5:IV) (n:Nat) (ih:Aa):OH :=
 Ac 2 x41 fun x42=>Af x42 h12 fun x43 _=>Ca x43 fun x45=>Ax (BM EE 55583749 29 x45 x45) 55583749 h12 fun x46 h47 _ _=>Ca x46 fun x50=>DN h4 h47 x0 x1 x2 x3 x5 x46 x50 n ih
def DU (h12:Hp) (x26 x2 x1 x5:IV) (h4:Hp) (x0 x3:IV) (n:Nat) (ih:Aa):OH :=
 Af x26 h12 fun x27 _=>A2 EE 3 x27 (.fv (.int .i64 1)) fun x29=>Al x29 (A9 EE 3 x2 (.fv (.int .i64 1)) fun x30=>Dd x1 h12 x30 x5) (AB x1 fun x41=>DC x41 h12 h4 x0 x1 x2 x3 x5 n ih)
def Dy (x19:IV) (h12:Hp) (x5 x1 x2:IV) (h4:Hp) (x0 x3:IV) (n:Nat) (ih:Aa):OH :=
 Al x19 (Bv [.fv (.int .i64 0),.fv (.int .i64 0),.nils] [] fun x20=>Ak 3 x5 x20 h12 fun h21 _ _=>Dc h21 x5) (AB x1 fun x25=>Ac 0 x25 fun x26=>DU h12 x26 x2 x1 x5 h4 x0 x3 n ih)
def E3 (ih:Aa) (h10:Hp) (x0 x5 x1 x2:IV) (h4:Hp) (x3:IV) (n:Nat):OH :=
 Aj [true] false false ih 77 [x0] h10 fun _ h12 _ _=>AB x0 fun x15=>Ac 3 x15 fun x16=>Af x16 h12 fun x17 _=>IH EE 37 x17 (.fv (.int .i64 0)) fun x19=>Dy x19 h12 x5 x1 x2 h4 x0 x3 n ih
def DO (x256:IV) (h252:Hp) (j0_9:Hp→OH):OH :=
 Ac 3 x256 fun x257=>Bj x257 (.fv (.int .i64 5)) h252 fun h258 _ _=>j0_9 h258
def DL (h246:Hp) (x202 x234 x245 x0:IV) (j0_9:Hp→OH):OH :=
 Ab x202 true h246 (fun k249=>AF x234 (.fv (.bool true)) x245 fun x250=>k249 x250 h246 [] []) fun x251 h252 _ _=>AF x202 x251 (.fv (.bool false)) fun x255=>Al x255 (AB x0 fun x256=>DO x256 h252 j0_9) (j0_9 h252)
def Dp (h217:Hp) (x202 x216 x3 x0:IV) (j0_9:Hp→OH):OH :=
 Ab x202 true h217 (fun k220=>Af x216 h217 fun x221 r222=>k220 x221 h217 r222 []) fun x223 h224 _ _=>Ab x202 true h224 (fun k227=>KU EE 3 x223 (.fv (.int .i64 3000)) fun x228=>k227 x228 h224 [] []) fun x229 h230 _ _=>Ab x202 true h230 (fun k233=>k233 x229 h230 [] []) fun x234 h235 _ _=>Ab x234 false h235 (fun k238=>k238 x3 h235 [] []) fun x239 h240 _ _=>Ab x234 false h240 (fun k243=>KU EE 3 x239 (.fv (.int .i64 120)) fun x244=>k243 x244 h240 [] []) fun x245 h246 _ _=>DL h246 x202 x234 x245 x0 j0_9
def C8 (h195:Hp) (x199 x0 x3:IV) (j0_9:Hp→OH):OH :=
 Af x199 h195 fun x200 _=>A2 EE 37 x200 (.fv (.int .i64 0)) fun x202=>Ab x202 true h195 (fun k203=>k203 x0 h195 [] []) fun x204 h205 _ _=>Ab x202 true h205 (fun k208=>AB x204 fun x209=>k208 x209 h205 [] []) fun x210 h211 _ _=>Ab x202 true h211 (fun k214=>Ac 2 x210 fun x215=>k214 x215 h211 [] []) fun x216 h217 _ _=>Dp h217 x202 x216 x3 x0 j0_9
def Dx (x0:IV) (h6:Hp) (x192 x3:IV) (j0_9:Hp→OH):OH :=
 AB x0 fun x193=>Ac 2 x193 fun x194=>Bj x194 x192 h6 fun h195 _ _=>AB x0 fun x198=>Ac 3 x198 fun x199=>C8 h195 x199 x0 x3 j0_9
def S53 (ih:Aa) (n:Nat) (x0 x1 x2 x3:IV) (h4:Hp):OH :=
 AJ 55574528 (.row [.fv (.int .i64 0),.fv (.int .i64 0),.nils] false) (.ptr (.own 55574528) 0) h4 fun x5 h6 _ _=>(fun (j0_9:Hp→OH)=>AB x0 fun x188=>Ac 2 x188 fun x189=>Af x189 h6 fun x190 _=>BF EE 3 x190 (.fv (.int .i64 1)) fun x192=>Dx x0 h6 x192 x3 j0_9) fun h10=>E3 ih h10 x0 x5 x1 x2 h4 x3 n
theorem Aj1 (ih:Aa) (n:Nat) (x0 x1 x2 x3:IV) (h4:Hp):AE EE ih ft.get n 53 [x0,x1,x2,x3] h4=S53 ih n x0 x1 x2 x3 h4:=by kernel_rfl
def JM (ih:Aa) (h59:Hp) (x23 x67 x69 x26:IV) (q20:List IV→Hp→OH) (x24 x25:IV):OH :=
 Aj [true,false,false] false false ih 54 [x23,x67,x69] h59 fun _ h71 _ _=>BF EE 3 x26 (.fv (.int .i64 1)) fun x74=>q20 [x23,x24,x25,x74] h71
def JW (x25:IV) (h59:Hp) (x26 x24:IV) (ih:Aa) (x23:IV) (q20:List IV→Hp→OH):OH :=
 Ac 2 x25 fun x63=>Af x63 h59 fun x64 _=>Bf 3 x64 x26 fun x66=>Ai 3 x66 h59 fun x67 _=>BF EE 3 x24 (.fv (.int .i64 1)) fun x69=>JM ih h59 x23 x67 x69 x26 q20 x24 x25
def KL (h40:Hp) (x31 x39 x25 x26 x24:IV) (ih:Aa) (x23:IV) (q20:List IV→Hp→OH):OH :=
 Ab x31 true h40 (fun k43=>Ac 1 x39 fun x44=>k43 x44 h40 [] []) fun x45 h46 _ _=>Ab x31 true h46 (fun k49=>Af x45 h46 fun x50 r51=>k49 x50 h46 r51 []) fun x52 h53 _ _=>Ab x31 true h53 (fun k56=>A2 EE 3 x52 (.fv (.int .i64 0)) fun x57=>k56 x57 h53 [] []) fun x58 h59 _ _=>AF x31 x58 (.fv (.bool false)) fun x62=>Al x62 (JW x25 h59 x26 x24 ih x23 q20) (Ao [] h59)
def JY (h22:Hp) (x27 x26 x23 x25 x24:IV) (ih:Aa) (q20:List IV→Hp→OH):OH :=
 Af x27 h22 fun x28 _=>Ca x28 fun x30=>Hg EE 3 x26 x30 fun x31=>Ab x31 true h22 (fun k32=>k32 x23 h22 [] []) fun x33 h34 _ _=>Ab x31 true h34 (fun k37=>AB x33 fun x38=>k37 x38 h34 [] []) fun x39 h40 _ _=>KL h40 x31 x39 x25 x26 x24 ih x23 q20
def Jz (l21:List IV) (h22:Hp) (ih:Aa) (q20:List IV→Hp→OH):OH :=
 AA l21 fun x23 l75=>AA l75 fun x24 l76=>AA l76 fun x25 l77=>AA l77 fun x26 _=>Ac 2 x25 fun x27=>JY h22 x27 x26 x23 x25 x24 ih q20
def JB (n:Nat) (h19:Hp) (x0 x2 x4:IV) (ih:Aa):OH :=
 BD n (fun q20 l21 h22=>Jz l21 h22 ih q20) [x0,x2,x4,.fv (.int .i64 0)] h19
def Ky (h92:Hp) (x97:IV) (j0_18:Hp→OH):OH :=
 Bj x97 (.fv (.int .i64 5)) h92 fun h98 _ _=>j0_18 h98
def JS (x151:IV) (h147:Hp) (j0_18:Hp→OH):OH :=
 Ac 1 x151 fun x152=>Bj x152 (.fv (.int .i64 1)) h147 fun h153 _ _=>j0_18 h153
def J4 (r142 w143:AH) (h141:Hp) (x112 x140 x0:IV) (j0_18:Hp→OH):OH :=
 Ad [] r142 w143 (Ab x112 false h141 (fun k144=>CC (KS .not x140) fun x145=>k144 x145 h141 [] []) fun x146 h147 _ _=>AF x112 (.fv (.bool true)) x146 fun x150=>Al x150 (AB x0 fun x151=>JS x151 h147 j0_18) (j0_18 h147))
def JL (r124 w125:AH) (h123:Hp) (x112 x4:IV) (ih:Aa) (x122 x0:IV) (j0_18:Hp→OH):OH :=
 Ad [] r124 w125 (Ab x112 false h123 (fun k126=>Ac 1 x4 fun x127=>k126 x127 h123 [] []) fun x128 h129 _ _=>Ab x112 false h129 (fun k132=>Af x128 h129 fun x133 r134=>k132 x133 h129 r134 []) fun x135 h136 r137 w138=>Ad [(r124,w125)] r137 w138 (Ab x112 false h136 (fun k139=>Aj [] false false ih 83 [x122,x135] h136 k139) fun x140 h141 r142 w143=>J4 r142 w143 h141 x112 x140 x0 j0_18))
def Js (r110 r106 w107 r103:AH) (x109 x104:IV) (h105:Hp) (x4:IV) (ih:Aa) (x0:IV) (j0_18:Hp→OH):OH :=
 Ad [(r106,w107),(r103,[])] r110 [] (Ca x109 fun x111=>IH EE 3 x104 x111 fun x112=>Ab x112 false h105 (fun k113=>Ac 0 x4 fun x114=>k113 x114 h105 [] []) fun x115 h116 _ _=>Ab x112 false h116 (fun k119=>Af x115 h116 fun x120 r121=>k119 x120 h116 r121 []) fun x122 h123 r124 w125=>JL r124 w125 h123 x112 x4 ih x122 x0 j0_18)
def Kg (r103:AH) (ih:Aa) (h92:Hp) (x102 x4 x0:IV) (j0_18:Hp→OH):OH :=
 Ad [] r103 [] (Aj [] false false ih 82 [x102] h92 fun x104 h105 r106 w107=>Ad [] r106 w107 (Ac 2 x4 fun x108=>Af x108 h105 fun x109 r110=>Js r110 r106 w107 r103 x109 x104 h105 x4 ih x0 j0_18))
def Kw (x95 x0:IV) (h92:Hp) (j0_18:Hp→OH) (x4:IV) (ih:Aa):OH :=
 Al x95 (AB x0 fun x96=>Ac 1 x96 fun x97=>Ky h92 x97 j0_18) (Ac 0 x4 fun x101=>Af x101 h92 fun x102 r103=>Kg r103 ih h92 x102 x4 x0 j0_18)
def Ks (h15:Hp) (x80 x2 x0:IV) (j0_18:Hp→OH) (x4:IV) (ih:Aa):OH :=
 Af x80 h15 fun x81 _=>KU EE 3 x81 (.fv (.int .i64 3000)) fun x83=>Ab x83 false h15 (fun k84=>k84 x2 h15 [] []) fun x85 h86 _ _=>Ab x83 false h86 (fun k89=>KU EE 3 x85 (.fv (.int .i64 120)) fun x90=>k89 x90 h86 [] []) fun x91 h92 _ _=>AF x83 (.fv (.bool true)) x91 fun x95=>Kw x95 x0 h92 j0_18 x4 ih
def J0 (x13:IV) (h5:Hp) (x12:IV) (n:Nat) (x0 x2 x4:IV) (ih:Aa):OH :=
 Ac 0 x13 fun x14=>Bj x14 x12 h5 fun h15 _ _=>(fun (j0_18:Hp→OH)=>AB x0 fun x79=>Ac 0 x79 fun x80=>Ks h15 x80 x2 x0 j0_18 x4 ih) fun h19=>JB n h19 x0 x2 x4 ih
def S54 (ih:Aa) (n:Nat) (x0 x1 x2:IV) (h3:Hp):OH :=
 Bg 56623104 x1 h3 fun x4 h5 _ _=>AB x0 fun x8=>Ac 0 x8 fun x9=>Af x9 h5 fun x10 _=>BF EE 3 x10 (.fv (.int .i64 1)) fun x12=>AB x0 fun x13=>J0 x13 h5 x12 n x0 x2 x4 ih
theorem Ale (ih:Aa) (n:Nat) (x0 x1 x2:IV) (h3:Hp):AE EE ih ft.get n 54 [x0,x1,x2] h3=S54 ih n x0 x1 x2 h3:=by kernel_rfl
def S55 (ih:Aa) (n:Nat) (x0 x1:IV) (h2:Hp):OH :=
 CP EE 3 .rem x0 x1 fun x3=>(fun (j1_4:IV→Hp→OH)=>Hg EE 3 x3 (.fv (.int .i64 0)) fun x7=>Al x7 (BF EE 3 x3 x1 fun x8=>j1_4 x8 h2) (j1_4 x3 h2)) fun x5 h6=>Ao [x5] h6
theorem Al2 (ih:Aa) (n:Nat) (x0 x1:IV) (h2:Hp):AE EE ih ft.get n 55 [x0,x1] h2=S55 ih n x0 x1 h2:=by kernel_rfl
def S56 (ih:Aa) (n:Nat) (h0:Hp):OH :=
 AJ 58720256 (.row [.fv (.int .i64 0),.fv (.int .i64 0),.nils] false) (.ptr (.own 58720256) 0) h0 fun x1 h2 _ _=>Aj [] false false ih 27 [.fv (.int .i64 10),.nils] h2 fun x5 h6 _ _=>Ak 3 x1 x5 h6 fun h9 _ _=>AC true 3 x1 h9 fun x12=>Ao [x12] h9
theorem Alq (ih:Aa) (n:Nat) (h0:Hp):AE EE ih ft.get n 56 [] h0=S56 ih n h0:=by kernel_rfl
def S57 (ih:Aa) (n:Nat) (x0:IV) (h1:Hp):OH :=
 AJ 59768832 (.row [.fv (.int .i64 0),.fv (.int .i64 0),.nils] false) (.ptr (.own 59768832) 0) h1 fun x2 h3 _ _=>Bv [.fv (.int .i64 0),.fv (.int .i64 0),.nils] [(0,1,.fv (.int .i64 2)),(1,1,x0)] fun x6=>Ak 3 x2 x6 h3 fun h7 _ _=>AC true 3 x2 h7 fun x10=>Ao [x10] h7
theorem Aml (ih:Aa) (n:Nat) (x0:IV) (h1:Hp):AE EE ih ft.get n 57 [x0] h1=S57 ih n x0 h1:=by kernel_rfl
def Vj (x17 x1:IV) (h8:Hp) (x7:IV):OH :=
 Bf 3 x17 x1 fun x19=>Ai 3 x19 h8 fun x20 _=>Ak 3 x7 x20 h8 fun h22 _ _=>AC true 3 x7 h22 fun x25=>Ao [x25] h22
def Uo (x1 x34 x30:IV) (h8:Hp) (x7:IV):OH :=
 CP EE 3 .mul (.fv (.int .i64 7)) x1 fun x35=>BF EE 3 x34 x35 fun x36=>Bv [.fv (.int .i64 0),.fv (.int .i64 0),.nils] [(0,1,x30),(1,1,x36)] fun x37=>Ak 3 x7 x37 h8 fun h38 _ _=>AC true 3 x7 h38 fun x41=>Ao [x41] h38
def VD (x27 x1 x3:IV) (h8:Hp) (x7:IV):OH :=
 CP EE 3 .quo x27 (.fv (.int .i64 3)) fun x29=>BF EE 3 x29 x1 fun x30=>Ac 1 x3 fun x31=>Af x31 h8 fun x32 _=>CP EE 3 .quo x32 (.fv (.int .i64 5)) fun x34=>Uo x1 x34 x30 h8 x7
def VN (x15 x3:IV) (h8:Hp) (x1 x7:IV):OH :=
 Al x15 (Ac 2 x3 fun x16=>Af x16 h8 fun x17 _=>Vj x17 x1 h8 x7) (Ac 0 x3 fun x26=>Af x26 h8 fun x27 _=>VD x27 x1 x3 h8 x7)
def S58 (ih:Aa) (n:Nat) (x0 x1:IV) (h2:Hp):OH :=
 Bg 60817408 x0 h2 fun x3 h4 _ _=>AJ 60817409 (.row [.fv (.int .i64 0),.fv (.int .i64 0),.nils] false) (.ptr (.own 60817409) 0) h4 fun x7 h8 _ _=>Ac 2 x3 fun x11=>Af x11 h8 fun x12 _=>Ca x12 fun x14=>Hg EE 3 x1 x14 fun x15=>VN x15 x3 h8 x1 x7
theorem Alu (ih:Aa) (n:Nat) (x0 x1:IV) (h2:Hp):AE EE ih ft.get n 58 [x0,x1] h2=S58 ih n x0 x1 h2:=by kernel_rfl
def P2 (x22:IV) (h4 h27:Hp) (x16 x17 x18 x19 x20 x26:IV) (q13:List IV→Hp→OH):OH :=
 BF EE 3 x22 (.fv (.int .i64 1)) fun x28=>Bt (h4.own.map (·.1)) [61872144,61874179] [x16,x17,x18,x19,x20,x26,x28] h27 fun h29=>q13 [x16,x17,x18,x19,x20,x26,x28] h29
def Sn (h90:Hp) (x22 x21:IV) (j1_25:IV→Hp→OH):OH :=
 Ax (Ah EE 108 1 [(0,x22)]) 61874178 h90 fun x94 h95 _ _=>Ax (AT EE 61874179 false .append [108,108] [x21,x94]) 61874179 h95 fun x98 h99 _ _=>j1_25 x98 h99
def Sg (r86 w87:AH) (h85:Hp) (x63:IV) (ih:Aa) (x72 x84 x22 x21:IV) (j1_25:IV→Hp→OH):OH :=
 Ad [] r86 w87 (Ab x63 true h85 (fun k88=>Aj [] false false ih 21 [x72,x84] h85 k88) fun x89 h90 r91 w92=>Ad [] r91 w92 (AF x63 x89 (.fv (.bool false)) fun x93=>Al x93 (Sn h90 x22 x21 j1_25) (j1_25 x21 h90)))
def Qv (h68:Hp) (x63:IV) (ih:Aa) (x67 x19:IV) (r69 w70:AH) (x22 x21:IV) (j1_25:IV→Hp→OH):OH :=
 Ab x63 true h68 (fun k71=>Aj [] false false ih 46 [x67] h68 k71) fun x72 h73 r74 w75=>Ad [] r74 w75 (Ab x63 true h73 (fun k76=>Ai 3 x19 h73 fun x77 r78=>k76 x77 h73 r78 []) fun x79 h80 r81 w82=>Ad [(r74,w75),(r69,w70)] r81 w82 (Ab x63 true h80 (fun k83=>Aj [] false false ih 46 [x79] h80 k83) fun x84 h85 r86 w87=>Sg r86 w87 h85 x63 ih x72 x84 x22 x21 j1_25))
def P4 (h51:Hp) (x54 x55:IV) (ih:Aa) (x19 x22 x21:IV) (j1_25:IV→Hp→OH):OH :=
 AJ 61872144 (.row [.fv (.int .i64 0),.fv (.int .i64 0),.nils] false) (.ptr (.own 61872144) 0) h51 fun x56 h57 _ _=>Ak 3 x56 x54 h57 fun h60 _ _=>A2 EE 3 x55 (.fv (.int .i64 0)) fun x63=>Ab x63 true h60 (fun k64=>Ai 3 x56 h60 fun x65 r66=>k64 x65 h60 r66 []) fun x67 h68 r69 w70=>Ad [] r69 w70 (Qv h68 x63 ih x67 x19 r69 w70 x22 x21 j1_25)
def Pv (x22:IV) (ih:Aa) (h15:Hp) (x43 x19 x21:IV) (j1_25:IV→Hp→OH):OH :=
 BF EE 3 x22 (.fv (.int .i64 1)) fun x45=>Aj [] false false ih 31 [x43,x45,.fv (.int .i64 0)] h15 fun x46 h47 _ _=>Aj [] false false ih 18 [x46] h47 fun x50 h51 _ _=>AK 0 x50 fun x54=>AK 1 x50 fun x55=>P4 h51 x54 x55 ih x19 x22 x21 j1_25
def Ri (x38 x22 x16:IV) (h15:Hp) (ih:Aa) (x19 x21:IV) (j1_25:IV→Hp→OH):OH :=
 A9 EE 3 x38 (.fv (.int .i64 1)) fun x39=>A9 EE 3 x39 x22 fun x40=>Bf 4 x16 x40 fun x41=>Ac 1 x41 fun x42=>Ai 3 x42 h15 fun x43 _=>Pv x22 ih h15 x43 x19 x21 j1_25
def Sy (x33:IV) (h15:Hp) (x17:IV) (j1_25:IV→Hp→OH) (x21 x16 x22:IV) (ih:Aa) (x19:IV):OH :=
 Ac 0 x33 fun x34=>Af x34 h15 fun x35 _=>IH EE 3 x35 x17 fun x37=>Al x37 (j1_25 x21 h15) (Ca x16 fun x38=>Ri x38 x22 x16 h15 ih x19 x21 j1_25)
def QK (x22:IV) (h4:Hp) (x16 x17 x18 x19 x20:IV) (q13:List IV→Hp→OH) (h15:Hp) (x21:IV) (ih:Aa):OH :=
 (fun (j1_25:IV→Hp→OH)=>Ca x16 fun x30=>A9 EE 3 x30 (.fv (.int .i64 1)) fun x31=>A9 EE 3 x31 x22 fun x32=>Bf 4 x16 x32 fun x33=>Sy x33 h15 x17 j1_25 x21 x16 x22 ih x19) fun x26 h27=>P2 x22 h4 h27 x16 x17 x18 x19 x20 x26 q13
def Pu (h15:Hp) (x20 x104:IV):OH :=
 Ak 3 x20 x104 h15 fun h105 _ _=>AC true 3 x20 h105 fun x108=>Ao [x108,.fv (.bool false)] h105
def R6 (h121:Hp) (x20:IV):OH :=
 AC true 3 x20 h121 fun x124=>Ao [x124,.fv (.bool true)] h121
def Sw (ih:Aa) (h15:Hp) (x18 x109 x21 x20:IV):OH :=
 Aj [] false false ih 55 [x18,x109] h15 fun x110 h111 _ _=>Bf 1 x21 x110 fun x114=>Af x114 h111 fun x115 _=>Aj [] false false ih 34 [x115] h111 fun x117 h118 _ _=>Ak 3 x20 x117 h118 fun h121 _ _=>R6 h121 x20
def SA (x21:IV) (h15:Hp) (x20:IV) (ih:Aa) (x18:IV):OH :=
 Ca x21 fun x102=>A2 EE 3 x102 (.fv (.int .i64 0)) fun x103=>Al x103 (Bv [.fv (.int .i64 0),.fv (.int .i64 0),.nils] [] fun x104=>Pu h15 x20 x104) (Ca x21 fun x109=>Sw ih h15 x18 x109 x21 x20)
def PG (l129:List IV) (x16:IV) (h4:Hp) (x17 x18 x19 x20:IV) (q13:List IV→Hp→OH) (h15:Hp) (ih:Aa):OH :=
 AA l129 fun x21 l130=>AA l130 fun x22 _=>Ca x16 fun x23=>Hg EE 3 x22 x23 fun x24=>Al x24 (QK x22 h4 x16 x17 x18 x19 x20 q13 h15 x21 ih) (SA x21 h15 x20 ih x18)
def AbM (l14:List IV) (h4:Hp) (q13:List IV→Hp→OH) (h15:Hp) (ih:Aa):OH :=
 AA l14 fun x16 l125=>AA l125 fun x17 l126=>AA l126 fun x18 l127=>AA l127 fun x19 l128=>AA l128 fun x20 l129=>PG l129 x16 h4 x17 x18 x19 x20 q13 h15 ih
def S59 (ih:Aa) (n:Nat) (x0 x1 x2 x3:IV) (h4:Hp):OH :=
 Bg 61865984 x2 h4 fun x5 h6 _ _=>AJ 61865985 (.row [.fv (.int .i64 0),.fv (.int .i64 0),.nils] false) (.ptr (.own 61865985) 0) h6 fun x9 h10 _ _=>Bt (h4.own.map (·.1)) [61872144,61874179] [x0,x1,x3,x5,x9,.nils,.fv (.int .i64 0)] h10 fun h132=>BD n (fun q13 l14 h15=>AbM l14 h4 q13 h15 ih) [x0,x1,x3,x5,x9,.nils,.fv (.int .i64 0)] h132
theorem AkD (ih:Aa) (n:Nat) (x0 x1 x2 x3:IV) (h4:Hp):AE EE ih ft.get n 59 [x0,x1,x2,x3] h4=S59 ih n x0 x1 x2 x3 h4:=by kernel_rfl
def Ki (x48 x132:IV) (h133:Hp) (x13 x127:IV):OH :=
 AF x48 x132 (.fv (.bool false)) fun x136=>Ak 3 x13 x127 h133 fun h137 _ _=>AC true 3 x13 h137 fun x140=>Ao [x140,x136] h137
def Kv (h106:Hp) (x109 x111 x113:IV) (ih:Aa) (x48 x78 x13:IV):OH :=
 Ax (Ah EE 29 3 [(0,x109),(1,x111),(2,x113)]) 62920707 h106 fun x115 h116 _ _=>Aj [] false false ih 27 [.fv (.int .i64 7),x115] h116 fun x119 h120 _ _=>Ax (Ah EE 29 1 [(0,x119)]) 62920709 h120 fun x123 h124 _ _=>Aj [] false false ih 27 [.fv (.int .i64 8),x123] h124 fun x127 h128 _ _=>Ab x48 true h128 (fun k131=>k131 x78 h128 [] []) fun x132 h133 _ _=>Ki x48 x132 h133 x13 x127
def JH (h103:Hp) (x102 x98 x79 x49:IV) (ih:Aa) (x48 x78 x13:IV):OH :=
 Ak 3 x102 x98 h103 fun h106 r107 w108=>Ad [] r107 w108 (Ai 3 x102 h106 fun x109 _=>Ai 3 x79 h106 fun x111 _=>Ai 3 x49 h106 fun x113 _=>Kv h106 x109 x111 x113 ih x48 x78 x13)
def JP (r96 w97:AH) (ih:Aa) (h95:Hp) (x94:IV) (r92 w93 r89 r87:AH) (x79 x49 x48 x78 x13:IV):OH :=
 Ad [] r96 w97 (Aj [] false false ih 27 [.fv (.int .i64 6),x94] h95 fun x98 h99 r100 w101=>Ad [] r100 w101 (AJ 62919685 (.row [.fv (.int .i64 0),.fv (.int .i64 0),.nils] false) (.ptr (.own 62919685) 0) h99 fun x102 h103 r104 w105=>Ad [(r100,w101),(r96,w97),(r92,w93),(r89,[]),(r87,[])] r104 w105 (JH h103 x102 x98 x79 x49 ih x48 x78 x13)))
def JR (h83:Hp) (x27:IV) (r87:AH) (ih:Aa) (x86 x79 x49 x48 x78 x13:IV):OH :=
 Ai 3 x27 h83 fun x88 r89=>Ad [(r87,[])] r89 [] (Aj [] false false ih 31 [x88,.fv (.int .i64 1),.fv (.int .i64 0)] h83 fun x90 h91 r92 w93=>Ad [(r87,[])] r92 w93 (Ax (Ah EE 29 2 [(0,x86),(1,x90)]) 62919683 h91 fun x94 h95 r96 w97=>JP r96 w97 ih h95 x94 r92 w93 r89 r87 x79 x49 x48 x78 x13))
def JF (r81 w82 r75 w76 r70 w71 r67 r65:AH) (h80:Hp) (x79 x77 x5 x27:IV) (ih:Aa) (x49 x48 x78 x13:IV):OH :=
 Ad [(r75,w76),(r70,w71),(r67,[]),(r65,[])] r81 w82 (Ak 3 x79 x77 h80 fun h83 r84 w85=>Ad [] r84 w85 (Ai 3 x5 h83 fun x86 r87=>Ad [] r87 [] (JR h83 x27 r87 ih x86 x79 x49 x48 x78 x13)))
def Kp (ih:Aa) (h69:Hp) (x0 x64 x68 x72:IV) (r70 w71 r67 r65:AH) (x5 x27 x49 x48 x13:IV):OH :=
 Aj [] false false ih 26 [x0,x64,x68,x72] h69 fun x73 h74 r75 w76=>Ad [] r75 w76 (AK 0 x73 fun x77=>AK 1 x73 fun x78=>AJ 62918666 (.row [.fv (.int .i64 0),.fv (.int .i64 0),.nils] false) (.ptr (.own 62918666) 0) h74 fun x79 h80 r81 w82=>JF r81 w82 r75 w76 r70 w71 r67 r65 h80 x79 x77 x5 x27 ih x49 x48 x78 x13)
def Kc (h60:Hp) (x9:IV) (r65:AH) (ih:Aa) (x3 x0 x64 x5 x27 x49 x48 x13:IV):OH :=
 Ai 3 x9 h60 fun x66 r67=>Ad [(r65,[])] r67 [] (Aj [] false false ih 58 [x66,.fv (.int .i64 2)] h60 fun x68 h69 r70 w71=>Ad [(r65,[])] r70 w71 (A9 EE 3 x3 (.fv (.int .i64 2)) fun x72=>Kp ih h69 x0 x64 x68 x72 r70 w71 r67 r65 x5 x27 x49 x48 x13))
def Kk (h197:Hp) (x13 x191 x200:IV):OH :=
 Ak 3 x13 x191 h197 fun h201 r202 w203=>Ad [] r202 w203 (AC true 3 x13 h201 fun x204=>Ao [x204,x200] h201)
def JN (r189 w190:AH) (ih:Aa) (h188:Hp) (x187 x48 x165 x13:IV):OH :=
 Ad [] r189 w190 (Aj [] false false ih 27 [.fv (.int .i64 5),x187] h188 fun x191 h192 r193 w194=>Ad [] r193 w194 (Ab x48 true h192 (fun k195=>k195 x165 h192 [] []) fun x196 h197 _ _=>AF x48 x196 (.fv (.bool false)) fun x200=>Kk h197 x13 x191 x200))
def Jt (ih:Aa) (h178:Hp) (x177 x49:IV) (r179 w180 r176 r174:AH) (x48 x165 x13:IV):OH :=
 Aj [] false false ih 27 [.fv (.int .i64 4),x177] h178 fun x181 h182 r183 w184=>Ad [] r183 w184 (Ai 3 x49 h182 fun x185 r186=>Ad [(r183,w184),(r179,w180),(r176,[]),(r174,[])] r186 [] (Ax (Ah EE 29 2 [(0,x181),(1,x185)]) 62922757 h182 fun x187 h188 r189 w190=>JN r189 w190 ih h188 x187 x48 x165 x13))
def KI (r174:AH) (h170:Hp) (x166 x173:IV) (ih:Aa) (x49 x48 x165 x13:IV):OH :=
 Ad [] r174 [] (Ai 3 x166 h170 fun x175 r176=>Ad [(r174,[])] r176 [] (Ax (Ah EE 29 2 [(0,x173),(1,x175)]) 62922754 h170 fun x177 h178 r179 w180=>Ad [] r179 w180 (Jt ih h178 x177 x49 r179 w180 r176 r174 x48 x165 x13)))
def KP (h161:Hp) (r162 w163 r157 w158 r154 r151 w152 r148 r145 w146 r142:AH) (x164 x27:IV) (ih:Aa) (x49 x48 x165 x13:IV):OH :=
 AJ 62921741 (.row [.fv (.int .i64 0),.fv (.int .i64 0),.nils] false) (.ptr (.own 62921741) 0) h161 fun x166 h167 r168 w169=>Ad [(r162,w163),(r157,w158),(r154,[]),(r151,w152),(r148,[]),(r145,w146),(r142,[])] r168 w169 (Ak 3 x166 x164 h167 fun h170 r171 w172=>Ad [] r171 w172 (Ai 3 x27 h170 fun x173 r174=>KI r174 h170 x166 x173 ih x49 x48 x165 x13))
def Kr (x3:IV) (ih:Aa) (h156:Hp) (x143 x149 x155:IV) (r157 w158 r154 r151 w152 r148 r145 w146 r142:AH) (x27 x49 x48 x13:IV):OH :=
 A9 EE 3 x3 (.fv (.int .i64 2)) fun x159=>Aj [] false false ih 26 [x143,x149,x155,x159] h156 fun x160 h161 r162 w163=>Ad [] r162 w163 (AK 0 x160 fun x164=>AK 1 x160 fun x165=>KP h161 r162 w163 r157 w158 r154 r151 w152 r148 r145 w146 r142 x164 x27 ih x49 x48 x165 x13)
def KN (r151 w152:AH) (h150:Hp) (x9:IV) (r148 r145 w146 r142:AH) (ih:Aa) (x3 x143 x149 x27 x49 x48 x13:IV):OH :=
 Ad [] r151 w152 (Ai 3 x9 h150 fun x153 r154=>Ad [(r151,w152),(r148,[]),(r145,w146),(r142,[])] r154 [] (Aj [] false false ih 58 [x153,.fv (.int .i64 2)] h150 fun x155 h156 r157 w158=>Ad [] r157 w158 (Kr x3 ih h156 x143 x149 x155 r157 w158 r154 r151 w152 r148 r145 w146 r142 x27 x49 x48 x13)))
def Kz (ih:Aa) (h60:Hp) (x0 x141 x5:IV) (r142:AH) (x9 x3 x27 x49 x48 x13:IV):OH :=
 Aj [] false false ih 29 [x0,.fv (.int .i64 1),x141] h60 fun x143 h144 r145 w146=>Ad [] r145 w146 (Ai 3 x5 h144 fun x147 r148=>Ad [(r145,w146),(r142,[])] r148 [] (Aj [] false false ih 31 [x147,.fv (.int .i64 1),.fv (.int .i64 0)] h144 fun x149 h150 r151 w152=>KN r151 w152 h150 x9 r148 r145 w146 r142 ih x3 x143 x149 x27 x49 x48 x13))
def KO (x59:IV) (h60:Hp) (x5 x9:IV) (ih:Aa) (x3 x0 x27 x49 x48 x13:IV):OH :=
 A2 EE 3 x59 (.fv (.int .i64 0)) fun x63=>Al x63 (Ai 3 x5 h60 fun x64 r65=>Ad [] r65 [] (Kc h60 x9 r65 ih x3 x0 x64 x5 x27 x49 x48 x13)) (Ai 3 x27 h60 fun x141 r142=>Ad [] r142 [] (Kz ih h60 x0 x141 x5 r142 x9 x3 x27 x49 x48 x13))
def KG (h50:Hp) (x49 x47 x9:IV) (ih:Aa) (x5 x3 x0 x27 x48 x13:IV):OH :=
 Ak 3 x49 x47 h50 fun h53 r54 w55=>Ad [] r54 w55 (Ac 1 x9 fun x56=>Af x56 h53 fun x57 _=>Aj [] false false ih 55 [x57,.fv (.int .i64 3)] h53 fun x59 h60 _ _=>KO x59 h60 x5 x9 ih x3 x0 x27 x49 x48 x13)
def Kx (r45 w46:AH) (x43:IV) (h44:Hp) (r40 w41 r37 r35:AH) (x9:IV) (ih:Aa) (x5 x3 x0 x27 x13:IV):OH :=
 Ad [] r45 w46 (AK 0 x43 fun x47=>AK 1 x43 fun x48=>AJ 62916618 (.row [.fv (.int .i64 0),.fv (.int .i64 0),.nils] false) (.ptr (.own 62916618) 0) h44 fun x49 h50 r51 w52=>Ad [(r45,w46),(r40,w41),(r37,[]),(r35,[])] r51 w52 (KG h50 x49 x47 x9 ih x5 x3 x0 x27 x48 x13))
def KF (r37 r35:AH) (ih:Aa) (h31:Hp) (x36 x3 x0 x34 x9 x5 x27 x13:IV):OH :=
 Ad [(r35,[])] r37 [] (Aj [] false false ih 58 [x36,.fv (.int .i64 1)] h31 fun x38 h39 r40 w41=>Ad [(r35,[])] r40 w41 (A9 EE 3 x3 (.fv (.int .i64 2)) fun x42=>Aj [] false false ih 26 [x0,x34,x38,x42] h39 fun x43 h44 r45 w46=>Kx r45 w46 x43 h44 r40 w41 r37 r35 x9 ih x5 x3 x0 x27 x13))
def Jx (h24:Hp) (x23 x9:IV) (ih:Aa) (x3 x0 x5 x13:IV):OH :=
 AJ 62915588 (.row [.fv (.int .i64 0),.fv (.int .i64 0),.nils] false) (.ptr (.own 62915588) 0) h24 fun x27 h28 _ _=>Ak 3 x27 x23 h28 fun h31 _ _=>Ai 3 x27 h31 fun x34 r35=>Ad [] r35 [] (Ai 3 x9 h31 fun x36 r37=>KF r37 r35 ih h31 x36 x3 x0 x34 x9 x5 x27 x13)
def S60 (ih:Aa) (n:Nat) (x0 x1 x2 x3:IV) (h4:Hp):OH :=
 Bg 62914560 x1 h4 fun x5 h6 _ _=>Bg 62914561 x2 h6 fun x9 h10 _ _=>AJ 62914562 (.row [.fv (.int .i64 0),.fv (.int .i64 0),.nils] false) (.ptr (.own 62914562) 0) h10 fun x13 h14 _ _=>Ai 3 x9 h14 fun x17 _=>Aj [] false false ih 58 [x17,.fv (.int .i64 0)] h14 fun x19 h20 _ _=>Aj [] false false ih 25 [x0,x19,.fv (.int .i64 1)] h20 fun x23 h24 _ _=>Jx h24 x23 x9 ih x3 x0 x5 x13
theorem Alt (ih:Aa) (n:Nat) (x0 x1 x2 x3:IV) (h4:Hp):AE EE ih ft.get n 60 [x0,x1,x2,x3] h4=S60 ih n x0 x1 x2 x3 h4:=by kernel_rfl
def Xy (r186 w187:AH) (h185:Hp) (x13 x184:IV):OH :=
 Ad [] r186 w187 (AC true 3 x13 h185 fun x188=>Ao [x188,x184] h185)
def X7 (h170:Hp) (x79 x101 x145 x13 x169:IV):OH :=
 Ab x79 true h170 (fun k173=>k173 x101 h170 [] []) fun x174 h175 _ _=>AF x79 x174 (.fv (.bool false)) fun x178=>Ab x178 true h175 (fun k179=>k179 x145 h175 [] []) fun x180 h181 _ _=>AF x178 x180 (.fv (.bool false)) fun x184=>Ak 3 x13 x169 h181 fun h185 r186 w187=>Xy r186 w187 h185 x13 x184
def WW (r164 r162 r160 r157 w158 r154:AH) (h156:Hp) (x155 x159 x161 x163:IV) (ih:Aa) (x79 x101 x145 x13:IV):OH :=
 Ad [(r162,[]),(r160,[]),(r157,w158),(r154,[])] r164 [] (Ax (Ah EE 29 4 [(0,x155),(1,x159),(2,x161),(3,x163)]) 63968261 h156 fun x165 h166 r167 w168=>Ad [] r167 w168 (Aj [] false false ih 27 [.fv (.int .i64 13),x165] h166 fun x169 h170 r171 w172=>Ad [] r171 w172 (X7 h170 x79 x101 x145 x13 x169)))
def Abj (h156:Hp) (x102:IV) (r157 w158 r154:AH) (x146 x80 x155:IV) (ih:Aa) (x79 x101 x145 x13:IV):OH :=
 Ai 3 x102 h156 fun x159 r160=>Ad [(r157,w158),(r154,[])] r160 [] (Ai 3 x146 h156 fun x161 r162=>Ad [(r160,[]),(r157,w158),(r154,[])] r162 [] (Ai 3 x80 h156 fun x163 r164=>WW r164 r162 r160 r157 w158 r154 h156 x155 x159 x161 x163 ih x79 x101 x145 x13))
def X3 (r151 w152:AH) (h150:Hp) (x5:IV) (ih:Aa) (x102 x146 x80 x79 x101 x145 x13:IV):OH :=
 Ad [] r151 w152 (Ai 3 x5 h150 fun x153 r154=>Ad [] r154 [] (Aj [] false false ih 31 [x153,.fv (.int .i64 1),.fv (.int .i64 0)] h150 fun x155 h156 r157 w158=>Ad [] r157 w158 (Abj h156 x102 r157 w158 r154 x146 x80 x155 ih x79 x101 x145 x13)))
def ZS (x140:IV) (h141:Hp) (r142 w143 r137 w138 r134 r131 w132 r128 r125 w126 r121 w122 r118 r115 w116 r111 w112:AH) (x5:IV) (ih:Aa) (x102 x80 x79 x101 x13:IV):OH :=
 AK 0 x140 fun x144=>AK 1 x140 fun x145=>AJ 63967248 (.row [.fv (.int .i64 0),.fv (.int .i64 0),.nils] false) (.ptr (.own 63967248) 0) h141 fun x146 h147 r148 w149=>Ad [(r142,w143),(r137,w138),(r134,[]),(r131,w132),(r128,[]),(r125,w126),(r121,w122),(r118,[]),(r115,w116),(r111,w112)] r148 w149 (Ak 3 x146 x144 h147 fun h150 r151 w152=>X3 r151 w152 h150 x5 ih x102 x146 x80 x79 x101 x145 x13)
def AbB (ih:Aa) (h130:Hp) (x133 x3 x123 x129:IV) (r134 r131 w132 r128 r125 w126 r121 w122 r118 r115 w116 r111 w112:AH) (x5 x102 x80 x79 x101 x13:IV):OH :=
 Aj [] false false ih 58 [x133,.fv (.int .i64 2)] h130 fun x135 h136 r137 w138=>Ad [] r137 w138 (A9 EE 3 x3 (.fv (.int .i64 2)) fun x139=>Aj [] false false ih 26 [x123,x129,x135,x139] h136 fun x140 h141 r142 w143=>Ad [] r142 w143 (ZS x140 h141 r142 w143 r137 w138 r134 r131 w132 r128 r125 w126 r121 w122 r118 r115 w116 r111 w112 x5 ih x102 x80 x79 x101 x13))
def X6 (r128 r125 w126 r121 w122 r118 r115 w116 r111 w112:AH) (ih:Aa) (h124:Hp) (x127 x9 x3 x123 x5 x102 x80 x79 x101 x13:IV):OH :=
 Ad [(r125,w126),(r121,w122),(r118,[]),(r115,w116),(r111,w112)] r128 [] (Aj [] false false ih 31 [x127,.fv (.int .i64 2),.fv (.int .i64 0)] h124 fun x129 h130 r131 w132=>Ad [] r131 w132 (Ai 3 x9 h130 fun x133 r134=>Ad [(r131,w132),(r128,[]),(r125,w126),(r121,w122),(r118,[]),(r115,w116),(r111,w112)] r134 [] (AbB ih h130 x133 x3 x123 x129 r134 r131 w132 r128 r125 w126 r121 w122 r118 r115 w116 r111 w112 x5 x102 x80 x79 x101 x13)))
def YM (ih:Aa) (h114:Hp) (x117 x113 x5:IV) (r118 r115 w116 r111 w112:AH) (x9 x3 x102 x80 x79 x101 x13:IV):OH :=
 Aj [] false false ih 31 [x117,.fv (.int .i64 1),.fv (.int .i64 0)] h114 fun x119 h120 r121 w122=>Ad [] r121 w122 (Aj [] false false ih 29 [x113,.fv (.int .i64 1),x119] h120 fun x123 h124 r125 w126=>Ad [] r125 w126 (Ai 3 x5 h124 fun x127 r128=>X6 r128 r125 w126 r121 w122 r118 r115 w116 r111 w112 ih h124 x127 x9 x3 x123 x5 x102 x80 x79 x101 x13))
def Wf (r111 w112:AH) (ih:Aa) (h110:Hp) (x0 x109 x5 x9 x3 x102 x80 x79 x101 x13:IV):OH :=
 Ad [] r111 w112 (Aj [] false false ih 29 [x0,.fv (.int .i64 1),x109] h110 fun x113 h114 r115 w116=>Ad [] r115 w116 (Ai 3 x5 h114 fun x117 r118=>Ad [(r115,w116),(r111,w112)] r118 [] (YM ih h114 x117 x113 x5 r118 r115 w116 r111 w112 x9 x3 x102 x80 x79 x101 x13)))
def Y4 (h97:Hp) (r98 w99 r93 w94 r90 r88:AH) (x100:IV) (ih:Aa) (x0 x5 x9 x3 x80 x79 x101 x13:IV):OH :=
 AJ 63966218 (.row [.fv (.int .i64 0),.fv (.int .i64 0),.nils] false) (.ptr (.own 63966218) 0) h97 fun x102 h103 r104 w105=>Ad [(r98,w99),(r93,w94),(r90,[]),(r88,[])] r104 w105 (Ak 3 x102 x100 h103 fun h106 r107 w108=>Ad [] r107 w108 (Aj [] false false ih 56 [] h106 fun x109 h110 r111 w112=>Wf r111 w112 ih h110 x0 x109 x5 x9 x3 x102 x80 x79 x101 x13))
def YX (x3:IV) (ih:Aa) (h92:Hp) (x0 x87 x91:IV) (r93 w94 r90 r88:AH) (x5 x9 x80 x79 x13:IV):OH :=
 A9 EE 3 x3 (.fv (.int .i64 2)) fun x95=>Aj [] false false ih 26 [x0,x87,x91,x95] h92 fun x96 h97 r98 w99=>Ad [] r98 w99 (AK 0 x96 fun x100=>AK 1 x96 fun x101=>Y4 h97 r98 w99 r93 w94 r90 r88 x100 ih x0 x5 x9 x3 x80 x79 x101 x13)
def Xe (r88:AH) (h84:Hp) (x9:IV) (ih:Aa) (x3 x0 x87 x5 x80 x79 x13:IV):OH :=
 Ad [] r88 [] (Ai 3 x9 h84 fun x89 r90=>Ad [(r88,[])] r90 [] (Aj [] false false ih 58 [x89,.fv (.int .i64 1)] h84 fun x91 h92 r93 w94=>Ad [(r88,[])] r93 w94 (YX x3 ih h92 x0 x87 x91 r93 w94 r90 r88 x5 x9 x80 x79 x13)))
def Xh (h75:Hp) (r76 w77 r71 w72 r68 r65 w66:AH) (x78 x5 x9:IV) (ih:Aa) (x3 x0 x79 x13:IV):OH :=
 AJ 63965194 (.row [.fv (.int .i64 0),.fv (.int .i64 0),.nils] false) (.ptr (.own 63965194) 0) h75 fun x80 h81 r82 w83=>Ad [(r76,w77),(r71,w72),(r68,[]),(r65,w66)] r82 w83 (Ak 3 x80 x78 h81 fun h84 r85 w86=>Ad [] r85 w86 (Ai 3 x5 h84 fun x87 r88=>Xe r88 h84 x9 ih x3 x0 x87 x5 x80 x79 x13))
def Xk (x3:IV) (ih:Aa) (h70:Hp) (x0 x63 x69:IV) (r71 w72 r68 r65 w66:AH) (x5 x9 x13:IV):OH :=
 A9 EE 3 x3 (.fv (.int .i64 2)) fun x73=>Aj [] false false ih 26 [x0,x63,x69,x73] h70 fun x74 h75 r76 w77=>Ad [] r76 w77 (AK 0 x74 fun x78=>AK 1 x74 fun x79=>Xh h75 r76 w77 r71 w72 r68 r65 w66 x78 x5 x9 ih x3 x0 x79 x13)
def Abh (r65 w66:AH) (h64:Hp) (x9:IV) (ih:Aa) (x3 x0 x63 x5 x13:IV):OH :=
 Ad [] r65 w66 (Ai 3 x9 h64 fun x67 r68=>Ad [(r65,w66)] r68 [] (Aj [] false false ih 58 [x67,.fv (.int .i64 0)] h64 fun x69 h70 r71 w72=>Ad [] r71 w72 (Xk x3 ih h70 x0 x63 x69 r71 w72 r68 r65 w66 x5 x9 x13)))
def Aa1 (ih:Aa) (h244:Hp) (x243 x13 x233:IV):OH :=
 Aj [] false false ih 27 [.fv (.int .i64 12),x243] h244 fun x247 h248 _ _=>Ak 3 x13 x247 h248 fun h251 _ _=>AC true 3 x13 h251 fun x254=>Ao [x254,x233] h251
def WN (r236 w237 r230 w231 r225 w226 r222 r220:AH) (h235:Hp) (x234 x232:IV) (ih:Aa) (x13 x233:IV):OH :=
 Ad [(r230,w231),(r225,w226),(r222,[]),(r220,[])] r236 w237 (Ak 3 x234 x232 h235 fun h238 r239 w240=>Ad [] r239 w240 (Ai 3 x234 h238 fun x241 _=>Ax (Ah EE 29 1 [(0,x241)]) 63973377 h238 fun x243 h244 _ _=>Aa1 ih h244 x243 x13 x233))
def Aco (ih:Aa) (h224:Hp) (x0 x219 x223 x227:IV) (r225 w226 r222 r220:AH) (x13:IV):OH :=
 Aj [] false false ih 26 [x0,x219,x223,x227] h224 fun x228 h229 r230 w231=>Ad [] r230 w231 (AK 0 x228 fun x232=>AK 1 x228 fun x233=>AJ 63972362 (.row [.fv (.int .i64 0),.fv (.int .i64 0),.nils] false) (.ptr (.own 63972362) 0) h229 fun x234 h235 r236 w237=>WN r236 w237 r230 w231 r225 w226 r222 r220 h235 x234 x232 ih x13 x233)
def ZI (h215:Hp) (x9:IV) (r220:AH) (ih:Aa) (x3 x0 x219 x13:IV):OH :=
 Ai 3 x9 h215 fun x221 r222=>Ad [(r220,[])] r222 [] (Aj [] false false ih 58 [x221,.fv (.int .i64 0)] h215 fun x223 h224 r225 w226=>Ad [(r220,[])] r225 w226 (A9 EE 3 x3 (.fv (.int .i64 1)) fun x227=>Aco ih h224 x0 x219 x223 x227 r225 w226 r222 r220 x13))
def AbD (ih:Aa) (h215:Hp) (x256 x13:IV):OH :=
 Aj [] false false ih 55 [x256,.fv (.int .i64 4)] h215 fun x258 h259 _ _=>Aj [] false false ih 35 [x258] h259 fun x262 h263 _ _=>Ak 3 x13 x262 h263 fun h266 _ _=>AC true 3 x13 h266 fun x269=>Ao [x269,.fv (.bool true)] h266
def Zo (x218:IV) (h215:Hp) (x5 x9:IV) (ih:Aa) (x3 x0 x13:IV):OH :=
 Al x218 (Ai 3 x5 h215 fun x219 r220=>Ad [] r220 [] (ZI h215 x9 r220 ih x3 x0 x219 x13)) (Ac 1 x9 fun x255=>Af x255 h215 fun x256 _=>AbD ih h215 x256 x13)
def ZM (h59:Hp) (x193 x9:IV) (ih:Aa) (x5 x3 x0 x13:IV):OH :=
 Ab x193 true h59 (fun k194=>Ac 0 x9 fun x195=>k194 x195 h59 [] []) fun x196 h197 _ _=>Ab x193 true h197 (fun k200=>Af x196 h197 fun x201 r202=>k200 x201 h197 r202 []) fun x203 h204 _ _=>Ab x193 true h204 (fun k207=>Aj [] false false ih 55 [x203,.fv (.int .i64 2)] h204 k207) fun x208 h209 _ _=>Ab x193 true h209 (fun k212=>A2 EE 3 x208 (.fv (.int .i64 1)) fun x213=>k212 x213 h209 [] []) fun x214 h215 _ _=>AF x193 x214 (.fv (.bool false)) fun x218=>Zo x218 h215 x5 x9 ih x3 x0 x13
def AaE (x311 x362:IV) (h363:Hp) (x13 x357:IV):OH :=
 AF x311 x362 (.fv (.bool false)) fun x366=>Ak 3 x13 x357 h363 fun h367 r368 w369=>Ad [] r368 w369 (AC true 3 x13 h367 fun x370=>Ao [x370,x366] h367)
def ZY (h345:Hp) (x349 x351:IV) (r346 w347 r343:AH) (ih:Aa) (x348 x311 x333 x13:IV):OH :=
 Ax (Ah EE 29 2 [(0,x349),(1,x351)]) 63979526 h345 fun x353 h354 r355 w356=>Ad [(r346,w347),(r343,[])] r355 w356 (Aj [] false false ih 27 [x348,x353] h354 fun x357 h358 r359 w360=>Ad [] r359 w360 (Ab x311 true h358 (fun k361=>k361 x333 h358 [] []) fun x362 h363 _ _=>AaE x311 x362 h363 x13 x357))
def Ab8 (x344:IV) (h345:Hp) (x312:IV) (r346 w347 r343:AH) (x334:IV) (ih:Aa) (x311 x333 x13:IV):OH :=
 BF EE 3 (.fv (.int .i64 16)) x344 fun x348=>Ai 3 x312 h345 fun x349 r350=>Ad [(r346,w347),(r343,[])] r350 [] (Ai 3 x334 h345 fun x351 r352=>Ad [(r350,[]),(r346,w347),(r343,[])] r352 [] (ZY h345 x349 x351 r346 w347 r343 ih x348 x311 x333 x13))
def ZZ (x9:IV) (h338:Hp) (ih:Aa) (x312 x334 x311 x333 x13:IV):OH :=
 Ac 1 x9 fun x341=>Af x341 h338 fun x342 r343=>Ad [] r343 [] (Aj [] false false ih 55 [x342,.fv (.int .i64 2)] h338 fun x344 h345 r346 w347=>Ad [] r346 w347 (Ab8 x344 h345 x312 r346 w347 r343 x334 ih x311 x333 x13))
def Abo (x328:IV) (h329:Hp) (r330 w331 r325 w326 r322 r320:AH) (x332 x9:IV) (ih:Aa) (x312 x311 x13:IV):OH :=
 AK 1 x328 fun x333=>AJ 63978506 (.row [.fv (.int .i64 0),.fv (.int .i64 0),.nils] false) (.ptr (.own 63978506) 0) h329 fun x334 h335 r336 w337=>Ad [(r330,w331),(r325,w326),(r322,[]),(r320,[])] r336 w337 (Ak 3 x334 x332 h335 fun h338 r339 w340=>Ad [] r339 w340 (ZZ x9 h338 ih x312 x334 x311 x333 x13))
def Abe (r325 w326 r320:AH) (x3:IV) (ih:Aa) (h324:Hp) (x0 x319 x323:IV) (r322:AH) (x9 x312 x311 x13:IV):OH :=
 Ad [(r320,[])] r325 w326 (A9 EE 3 x3 (.fv (.int .i64 1)) fun x327=>Aj [] false false ih 26 [x0,x319,x323,x327] h324 fun x328 h329 r330 w331=>Ad [] r330 w331 (AK 0 x328 fun x332=>Abo x328 h329 r330 w331 r325 w326 r322 r320 x332 x9 ih x312 x311 x13))
def WR (h316:Hp) (x5 x9:IV) (ih:Aa) (x3 x0 x312 x311 x13:IV):OH :=
 Ai 3 x5 h316 fun x319 r320=>Ad [] r320 [] (Ai 3 x9 h316 fun x321 r322=>Ad [(r320,[])] r322 [] (Aj [] false false ih 58 [x321,.fv (.int .i64 1)] h316 fun x323 h324 r325 w326=>Abe r325 w326 r320 x3 ih h324 x0 x319 x323 r322 x9 x312 x311 x13))
def Y1 (x306:IV) (h307:Hp) (r308 w309 r303 w304 r300 r298:AH) (x310 x5 x9:IV) (ih:Aa) (x3 x0 x13:IV):OH :=
 AK 1 x306 fun x311=>AJ 63977482 (.row [.fv (.int .i64 0),.fv (.int .i64 0),.nils] false) (.ptr (.own 63977482) 0) h307 fun x312 h313 r314 w315=>Ad [(r308,w309),(r303,w304),(r300,[]),(r298,[])] r314 w315 (Ak 3 x312 x310 h313 fun h316 r317 w318=>Ad [] r317 w318 (WR h316 x5 x9 ih x3 x0 x312 x311 x13))
def Ace (r303 w304 r298:AH) (x3:IV) (ih:Aa) (h302:Hp) (x0 x297 x301:IV) (r300:AH) (x5 x9 x13:IV):OH :=
 Ad [(r298,[])] r303 w304 (A9 EE 3 x3 (.fv (.int .i64 1)) fun x305=>Aj [] false false ih 26 [x0,x297,x301,x305] h302 fun x306 h307 r308 w309=>Ad [] r308 w309 (AK 0 x306 fun x310=>Y1 x306 h307 r308 w309 r303 w304 r300 r298 x310 x5 x9 ih x3 x0 x13))
def Y3 (h293:Hp) (x5 x9:IV) (ih:Aa) (x3 x0 x13:IV):OH :=
 Ai 3 x5 h293 fun x297 r298=>Ad [] r298 [] (Ai 3 x9 h293 fun x299 r300=>Ad [(r298,[])] r300 [] (Aj [] false false ih 58 [x299,.fv (.int .i64 0)] h293 fun x301 h302 r303 w304=>Ace r303 w304 r298 x3 ih h302 x0 x297 x301 r300 x5 x9 x13))
def Zf (ih:Aa) (h293:Hp) (x13:IV):OH :=
 Aj [] false false ih 27 [.fv (.int .i64 15),.nils] h293 fun x371 h372 _ _=>Ak 3 x13 x371 h372 fun h375 _ _=>AC true 3 x13 h375 fun x378=>Ao [x378,.fv (.bool true)] h375
def Aab (h275:Hp) (x271 x274:IV) (ih:Aa) (x5 x9 x3 x0 x13:IV):OH :=
 Ab x271 true h275 (fun k278=>Af x274 h275 fun x279 r280=>k278 x279 h275 r280 []) fun x281 h282 _ _=>Ab x271 true h282 (fun k285=>Aj [] false false ih 55 [x281,.fv (.int .i64 5)] h282 k285) fun x286 h287 _ _=>Ab x271 true h287 (fun k290=>KU EE 3 x286 (.fv (.int .i64 1)) fun x291=>k290 x291 h287 [] []) fun x292 h293 _ _=>AF x271 x292 (.fv (.bool false)) fun x296=>Al x296 (Y3 h293 x5 x9 ih x3 x0 x13) (Zf ih h293 x13)
def Aad (x384:IV) (ih:Aa) (h59:Hp) (x13:IV):OH :=
 A9 EE 3 x384 (.fv (.int .i64 1)) fun x386=>Aj [] false false ih 57 [x386] h59 fun x387 h388 _ _=>Ak 3 x13 x387 h388 fun h391 _ _=>AC true 3 x13 h391 fun x394=>Ao [x394,.fv (.bool true)] h391
def Y5 (h491:Hp) (x13 x490:IV):OH :=
 AC true 3 x13 h491 fun x494=>Ao [x494,x490] h491
def ZK (r483 w484:AH) (h482:Hp) (x429 x457 x13 x481:IV):OH :=
 Ad [] r483 w484 (Ab x429 true h482 (fun k485=>k485 x457 h482 [] []) fun x486 h487 _ _=>AF x429 x486 (.fv (.bool false)) fun x490=>Ak 3 x13 x481 h487 fun h491 r492 w493=>Ad [] r492 w493 (Y5 h491 x13 x490))
def Xw (h466:Hp) (x458:IV) (r474 r472 r467 w468:AH) (x473:IV) (ih:Aa) (x471 x429 x457 x13:IV):OH :=
 Ai 3 x458 h466 fun x475 r476=>Ad [(r474,[]),(r472,[]),(r467,w468)] r476 [] (Ax (Ah EE 29 2 [(0,x473),(1,x475)]) 63987719 h466 fun x477 h478 r479 w480=>Ad [(r472,[]),(r467,w468)] r479 w480 (Aj [] false false ih 27 [x471,x477] h478 fun x481 h482 r483 w484=>ZK r483 w484 h482 x429 x457 x13 x481))
def AaK (x465 x469:IV) (h466:Hp) (x430:IV) (r467 w468:AH) (x458:IV) (ih:Aa) (x429 x457 x13:IV):OH :=
 Bf 1 x465 x469 fun x470=>Af x470 h466 fun x471 r472=>Ad [] r472 [] (Ai 3 x430 h466 fun x473 r474=>Ad [(r472,[]),(r467,w468)] r474 [] (Xw h466 x458 r474 r472 r467 w468 x473 ih x471 x429 x457 x13))
def Aba (h459:Hp) (x458 x456 x398 x430:IV) (ih:Aa) (x429 x457 x13:IV):OH :=
 Ak 3 x458 x456 h459 fun h462 r463 w464=>Ad [] r463 w464 (Ax (Ah EE 108 2 [(0,.fv (.int .i64 3)),(1,.fv (.int .i64 6))]) 63987712 h462 fun x465 h466 r467 w468=>Ad [] r467 w468 (A9 EE 3 x398 (.fv (.int .i64 2)) fun x469=>AaK x465 x469 h466 x430 r467 w468 x458 ih x429 x457 x13))
def Zl (r454 w455:AH) (x452:IV) (h453:Hp) (r449 w450 r446 r444 r441 w442 r438:AH) (x398 x430:IV) (ih:Aa) (x429 x13:IV):OH :=
 Ad [] r454 w455 (AK 0 x452 fun x456=>AK 1 x452 fun x457=>AJ 63986700 (.row [.fv (.int .i64 0),.fv (.int .i64 0),.nils] false) (.ptr (.own 63986700) 0) h453 fun x458 h459 r460 w461=>Ad [(r454,w455),(r449,w450),(r446,[]),(r444,[]),(r441,w442),(r438,[])] r460 w461 (Aba h459 x458 x456 x398 x430 ih x429 x457 x13))
def ZE (r446 r444 r441 w442 r438:AH) (ih:Aa) (h440:Hp) (x445 x3 x439 x443 x398 x430 x429 x13:IV):OH :=
 Ad [(r444,[]),(r441,w442),(r438,[])] r446 [] (Aj [] false false ih 58 [x445,.fv (.int .i64 1)] h440 fun x447 h448 r449 w450=>Ad [(r444,[])] r449 w450 (A9 EE 3 x3 (.fv (.int .i64 1)) fun x451=>Aj [] false false ih 26 [x439,x443,x447,x451] h448 fun x452 h453 r454 w455=>Zl r454 w455 x452 h453 r449 w450 r446 r444 r441 w442 r438 x398 x430 ih x429 x13))
def Aaw (ih:Aa) (h434:Hp) (x0 x437 x5:IV) (r438:AH) (x9 x3 x398 x430 x429 x13:IV):OH :=
 Aj [] false false ih 29 [x0,.fv (.int .i64 1),x437] h434 fun x439 h440 r441 w442=>Ad [] r441 w442 (Ai 3 x5 h440 fun x443 r444=>Ad [(r441,w442),(r438,[])] r444 [] (Ai 3 x9 h440 fun x445 r446=>ZE r446 r444 r441 w442 r438 ih h440 x445 x3 x439 x443 x398 x430 x429 x13))
def AaV (r432 w433 r426 w427 r421 w422 r418 r416:AH) (h431:Hp) (x430 x428:IV) (ih:Aa) (x0 x5 x9 x3 x398 x429 x13:IV):OH :=
 Ad [(r426,w427),(r421,w422),(r418,[]),(r416,[])] r432 w433 (Ak 3 x430 x428 h431 fun h434 r435 w436=>Ad [] r435 w436 (Ai 3 x430 h434 fun x437 r438=>Ad [] r438 [] (Aaw ih h434 x0 x437 x5 r438 x9 x3 x398 x430 x429 x13)))
def Yi (ih:Aa) (h420:Hp) (x0 x415 x419 x423:IV) (r421 w422 r418 r416:AH) (x5 x9 x3 x398 x13:IV):OH :=
 Aj [] false false ih 26 [x0,x415,x419,x423] h420 fun x424 h425 r426 w427=>Ad [] r426 w427 (AK 0 x424 fun x428=>AK 1 x424 fun x429=>AJ 63985674 (.row [.fv (.int .i64 0),.fv (.int .i64 0),.nils] false) (.ptr (.own 63985674) 0) h425 fun x430 h431 r432 w433=>AaV r432 w433 r426 w427 r421 w422 r418 r416 h431 x430 x428 ih x0 x5 x9 x3 x398 x429 x13)
def Za (h411:Hp) (x9:IV) (r416:AH) (ih:Aa) (x3 x0 x415 x5 x398 x13:IV):OH :=
 Ai 3 x9 h411 fun x417 r418=>Ad [(r416,[])] r418 [] (Aj [] false false ih 58 [x417,.fv (.int .i64 0)] h411 fun x419 h420 r421 w422=>Ad [(r416,[])] r421 w422 (A9 EE 3 x3 (.fv (.int .i64 1)) fun x423=>Yi ih h420 x0 x415 x419 x423 r421 w422 r418 r416 x5 x9 x3 x398 x13))
def Zp (h529:Hp) (x13:IV):OH :=
 AC true 3 x13 h529 fun x532=>Ao [x532,.fv (.bool true)] h529
def Aa2 (x515 x522:IV) (h523:Hp) (x13:IV):OH :=
 Bf 3 x515 x522 fun x526=>Ai 3 x526 h523 fun x527 r528=>Ad [] r528 [] (Ak 3 x13 x527 h523 fun h529 r530 w531=>Ad [] r530 w531 (Zp h529 x13))
def AbU (x9:IV) (h516:Hp) (r517 w518 r513 w514 r509 w510 r505 w506 r501 w502 r497 w498:AH) (ih:Aa) (x515 x13:IV):OH :=
 Ac 1 x9 fun x519=>Af x519 h516 fun x520 r521=>Ad [(r517,w518),(r513,w514),(r509,w510),(r505,w506),(r501,w502),(r497,w498)] r521 [] (Aj [] false false ih 55 [x520,.fv (.int .i64 3)] h516 fun x522 h523 r524 w525=>Ad [(r517,w518)] r524 w525 (Aa2 x515 x522 h523 x13))
def Xo (r509 w510:AH) (ih:Aa) (h508:Hp) (x507 x495 x499 x9:IV) (r505 w506 r501 w502 r497 w498:AH) (x13:IV):OH :=
 Ad [] r509 w510 (Aj [] false false ih 27 [.fv (.int .i64 18),x507] h508 fun x511 h512 r513 w514=>Ad [] r513 w514 (Ax (Ah EE 29 3 [(0,x495),(1,x499),(2,x511)]) 63988741 h512 fun x515 h516 r517 w518=>Ad [] r517 w518 (AbU x9 h516 r517 w518 r513 w514 r509 w510 r505 w506 r501 w502 r497 w498 ih x515 x13)))
def XU (ih:Aa) (h496:Hp) (x495 x9:IV) (r497 w498:AH) (x13:IV):OH :=
 Aj [] false false ih 27 [.fv (.int .i64 14),.nils] h496 fun x499 h500 r501 w502=>Ad [] r501 w502 (Aj [] false false ih 27 [.fv (.int .i64 15),.nils] h500 fun x503 h504 r505 w506=>Ad [] r505 w506 (Ax (Ah EE 29 1 [(0,x503)]) 63988739 h504 fun x507 h508 r509 w510=>Xo r509 w510 ih h508 x507 x495 x499 x9 r505 w506 r501 w502 r497 w498 x13))
def Wk (x414:IV) (h411:Hp) (x5 x9:IV) (ih:Aa) (x3 x0 x398 x13:IV):OH :=
 Al x414 (Ai 3 x5 h411 fun x415 r416=>Ad [] r416 [] (Za h411 x9 r416 ih x3 x0 x415 x5 x398 x13)) (Aj [] false false ih 56 [] h411 fun x495 h496 r497 w498=>Ad [] r497 w498 (XU ih h496 x495 x9 r497 w498 x13))
def Wz (ih:Aa) (h59:Hp) (x396 x3 x5 x9 x0 x13:IV):OH :=
 Aj [] false false ih 55 [x396,.fv (.int .i64 4)] h59 fun x398 h399 _ _=>KU EE 3 x3 (.fv (.int .i64 0)) fun x402=>Ab x402 true h399 (fun k403=>k403 x398 h399 [] []) fun x404 h405 _ _=>Ab x402 true h405 (fun k408=>KU EE 3 x404 (.fv (.int .i64 1)) fun x409=>k408 x409 h405 [] []) fun x410 h411 _ _=>AF x402 x410 (.fv (.bool false)) fun x414=>Wk x414 h411 x5 x9 ih x3 x0 x398 x13
def Xb (x380 x5:IV) (h59:Hp) (ih:Aa) (x13 x9 x3 x0:IV):OH :=
 KU EE 3 x380 (.fv (.int .i64 0)) fun x382=>Al x382 (Ac 1 x5 fun x383=>Af x383 h59 fun x384 _=>Aad x384 ih h59 x13) (Ac 0 x9 fun x395=>Af x395 h59 fun x396 _=>Wz ih h59 x396 x3 x5 x9 x0 x13)
def Xr (x270 x3:IV) (h59:Hp) (x9:IV) (ih:Aa) (x5 x0 x13:IV):OH :=
 Al x270 (KU EE 3 x3 (.fv (.int .i64 0)) fun x271=>Ab x271 true h59 (fun k272=>Ac 0 x9 fun x273=>k272 x273 h59 [] []) fun x274 h275 _ _=>Aab h275 x271 x274 ih x5 x9 x3 x0 x13) (Ac 1 x5 fun x379=>Af x379 h59 fun x380 _=>Xb x380 x5 h59 ih x13 x9 x3 x0)
def XQ (h59:Hp) (x189 x3 x9:IV) (ih:Aa) (x5 x0 x13:IV):OH :=
 Af x189 h59 fun x190 _=>A2 EE 3 x190 (.fv (.int .i64 10)) fun x192=>Al x192 (KU EE 3 x3 (.fv (.int .i64 0)) fun x193=>ZM h59 x193 x9 ih x5 x3 x0 x13) (A2 EE 3 x190 (.fv (.int .i64 14)) fun x270=>Xr x270 x3 h59 x9 ih x5 x0 x13)
def XA (h53:Hp) (x42 x52:IV) (ih:Aa) (x9 x3 x0 x5 x13:IV):OH :=
 Ab x42 true h53 (fun k56=>IH EE 3 x52 (.fv (.int .i64 2)) fun x57=>k56 x57 h53 [] []) fun x58 h59 _ _=>AF x42 x58 (.fv (.bool false)) fun x62=>Al x62 (Aj [] false false ih 56 [] h59 fun x63 h64 r65 w66=>Abh r65 w66 h64 x9 ih x3 x0 x63 x5 x13) (Ac 0 x5 fun x189=>XQ h59 x189 x3 x9 ih x5 x0 x13)
def Yq (h28:Hp) (x17:IV) (ih:Aa) (x27 x5 x9 x3 x0 x13:IV):OH :=
 Ab x17 true h28 (fun k31=>Aj [] false false ih 55 [x27,.fv (.int .i64 5)] h28 k31) fun x32 h33 _ _=>Ab x17 true h33 (fun k36=>A2 EE 3 x32 (.fv (.int .i64 4)) fun x37=>k36 x37 h33 [] []) fun x38 h39 _ _=>AF x17 x38 (.fv (.bool false)) fun x42=>Ab x42 true h39 (fun k43=>Ac 0 x5 fun x44=>k43 x44 h39 [] []) fun x45 h46 _ _=>Ab x42 true h46 (fun k49=>Af x45 h46 fun x50 r51=>k49 x50 h46 r51 []) fun x52 h53 _ _=>XA h53 x42 x52 ih x9 x3 x0 x5 x13
def S61 (ih:Aa) (n:Nat) (x0 x1 x2 x3:IV) (h4:Hp):OH :=
 Bg 63963136 x1 h4 fun x5 h6 _ _=>Bg 63963137 x2 h6 fun x9 h10 _ _=>AJ 63963138 (.row [.fv (.int .i64 0),.fv (.int .i64 0),.nils] false) (.ptr (.own 63963138) 0) h10 fun x13 h14 _ _=>KU EE 3 x3 (.fv (.int .i64 0)) fun x17=>Ab x17 true h14 (fun k18=>Ac 0 x9 fun x19=>k18 x19 h14 [] []) fun x20 h21 _ _=>Ab x17 true h21 (fun k24=>Af x20 h21 fun x25 r26=>k24 x25 h21 r26 []) fun x27 h28 _ _=>Yq h28 x17 ih x27 x5 x9 x3 x0 x13
theorem Alw (ih:Aa) (n:Nat) (x0 x1 x2 x3:IV) (h4:Hp):AE EE ih ft.get n 61 [x0,x1,x2,x3] h4=S61 ih n x0 x1 x2 x3 h4:=by kernel_rfl
end
end Idl
end Go.Proofs.Ytbkdidonegggdaa

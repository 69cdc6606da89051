/-
  Texts of a proof, part 8: an ideal semantics of the program, its functions in shallow form, contracts of them. No statement of the seat is proved here.
-/
import Derived.Test.YtbkdidonegggdaaNormShiftK7
set_option linter.all false
set_option maxRecDepth 100000
set_option linter.unusedVariables false
namespace Go.Proofs.Ytbkdidonegggdaa
namespace Idl
noncomputable section
abbrev OH:=Option (IV×Hp)
abbrev LRf:=List Ref
abbrev iq (n:Int):IV:=.fv (.int .i64 n)
def S11_135 (ih:Handler) (h122:Hp) (x125 x115 x121:IV):OH :=
 isoS [] false false ih 31 [x125,x115,.fv (.int .i64 0)] h122 fun x127 h128 r129 w130=>chkS [] r129 w130 (isoS [] false false ih 37 [x121,x127] h128 fun x131 h132 r133 w134=>chkS [] r133 w134 (outS1 [x131] h132))
def S11_136 (r120:LRf) (ih:Handler) (h116:Hp) (x119 x115 x96:IV):OH :=
 chkS [] r120 [] (isoS [] false false ih 31 [x119,x115,.fv (.int .i64 0)] h116 fun x121 h122 r123 w124=>chkS [] r123 w124 (loadA 3 x96 h122 fun x125 r126=>chkS [(r123,w124),(r120,[])] r126 [] (S11_135 ih h122 x125 x115 x121)))
def S11_137 (x103 x110:IV) (h111:Hp) (ih:Handler) (x3 x78 x96:IV):OH :=
 pickS x103 (.fv (.bool true)) x110 fun x114=>condS x114 (outS1 [.fv (.bool true)] h111) (isoS [] false false ih 28 [x3,.fv (.int .i64 50)] h111 fun x115 h116 _ _=>loadA 3 x78 h116 fun x119 r120=>S11_136 r120 ih h116 x119 x115 x96)
def S11_138 (h91:Hp) (x94 x73 x95:IV) (ih:Handler) (x3 x78:IV):OH :=
 newS 11540485 (.row [.fv (.int .i64 0),.fv (.int .i64 0),.nils] false) (.ptr (.own 11540485) 0) h91 fun x96 h97 _ _=>storeA 3 x96 x94 h97 fun h100 _ _=>optS (unR .not x73) fun x103=>guardS x103 false h100 (fun k104=>k104 x95 h100 [] []) fun x105 h106 _ _=>guardS x103 false h106 (fun k109=>isoS [] false false ih 19 [x105] h106 k109) fun x110 h111 _ _=>S11_137 x103 x110 h111 ih x3 x78 x96
def S11_139 (h82:Hp) (x78 x72:IV) (ih:Handler) (x73 x3:IV):OH :=
 storeA 3 x78 x72 h82 fun h85 _ _=>loadA 3 x78 h85 fun x88 _=>isoS [] false false ih 18 [x88] h85 fun x90 h91 _ _=>extS 0 x90 fun x94=>extS 1 x90 fun x95=>S11_138 h91 x94 x73 x95 ih x3 x78
def S11_140 (x66:IV) (h67:Hp) (x71:IV) (ih:Handler) (x3:IV):OH :=
 extS 2 x66 fun x72=>extS 3 x66 fun x73=>newS 11539466 (.row [.fv (.int .i64 0),.fv (.int .i64 0),.nils] false) (.ptr (.own 11539466) 0) h67 fun x74 h75 _ _=>newS 11539467 (.row [.fv (.int .i64 0),.fv (.int .i64 0),.nils] false) (.ptr (.own 11539467) 0) h75 fun x78 h79 _ _=>storeA 3 x74 x71 h79 fun h82 _ _=>S11_139 h82 x78 x72 ih x73 x3
def S11_141 (h58:Hp) (x6 x10:IV) (ih:Handler) (x0 x4 x3:IV):OH :=
 loadA 3 x6 h58 fun x62 _=>loadA 3 x10 h58 fun x64 _=>isoS [] false false ih 17 [x0,x62,x64,x4] h58 fun x66 h67 _ _=>extS 0 x66 fun _=>extS 1 x66 fun x71=>S11_140 x66 h67 x71 ih x3
def S11_142 (h39:Hp) (x42 x10:IV) (ih:Handler) (x6 x0 x4 x3:IV):OH :=
 guardS x42 false h39 (fun k43=>loadA 3 x10 h39 fun x44 r45=>k43 x44 h39 r45 []) fun x46 h47 _ _=>guardS x42 false h47 (fun k50=>isoS [] false false ih 16 [x46] h47 k50) fun x51 h52 _ _=>guardS x42 false h52 (fun k55=>optS (unR .not x51) fun x56=>k55 x56 h52 [] []) fun x57 h58 _ _=>pickS x42 (.fv (.bool true)) x57 fun x61=>condS x61 (outS1 [.fv (.bool true)] h58) (S11_141 h58 x6 x10 ih x0 x4 x3)
def S11_143 (x19:IV) (h20:Hp) (x6:IV) (ih:Handler) (x10 x0 x4 x3:IV):OH :=
 optS (unR .not x19) fun x23=>guardS x23 false h20 (fun k24=>loadA 3 x6 h20 fun x25 r26=>k24 x25 h20 r26 []) fun x27 h28 _ _=>guardS x23 false h28 (fun k31=>isoS [] false false ih 16 [x27] h28 k31) fun x32 h33 _ _=>guardS x23 false h33 (fun k36=>optS (unR .not x32) fun x37=>k36 x37 h33 [] []) fun x38 h39 _ _=>pickS x23 (.fv (.bool true)) x38 fun x42=>S11_142 h39 x42 x10 ih x6 x0 x4 x3
def S11 (ih:Handler) (n:Nat) (x0 x1 x2 x3 x4:IV) (h5:Hp):OH :=
 boxS 11534336 x1 h5 fun x6 h7 _ _=>boxS 11534337 x2 h7 fun x10 h11 _ _=>isoS [] false false ih 14 [] h11 fun x14 h15 _ _=>optS (unR .not x14) fun x18=>condS x18 (outS1 [.fv (.bool false)] h15) (isoS [] false false ih 15 [x0] h15 fun x19 h20 _ _=>S11_143 x19 h20 x6 ih x10 x0 x4 x3)
theorem S11_ok (ih:Handler) (n:Nat) (x0 x1 x2 x3 x4:IV) (h5:Hp):funS EE ih ft.get n 11 [x0,x1,x2,x3,x4] h5=S11 ih n x0 x1 x2 x3 x4 h5:=by kernel_rfl
def S12_386 (x362 x381:IV) (h382:Hp):OH :=
 pickS x362 x381 (.fv (.bool false)) fun x385=>outS1 [x385] h382
def S12_387 (h354:Hp) (x283:IV) (ih:Handler) (x358 x265:IV):OH :=
 loadA 3 x283 h354 fun x360 _=>isoS [] false false ih 37 [x358,x360] h354 fun x362 h363 _ _=>guardS x362 true h363 (fun k366=>loadA 3 x265 h363 fun x367 r368=>k366 x367 h363 r368 []) fun x369 h370 _ _=>guardS x362 true h370 (fun k373=>loadA 3 x283 h370 fun x374 r375=>k373 x374 h370 r375 []) fun x376 h377 _ _=>guardS x362 true h377 (fun k380=>isoS [] false false ih 37 [x369,x376] h377 k380) fun x381 h382 _ _=>S12_386 x362 x381 h382
def S12_388 (h343:Hp) (x338:IV) (ih:Handler) (x342 x261 x283 x265:IV):OH :=
 guardS x338 false h343 (fun k346=>isoS [] false false ih 22 [x342] h343 k346) fun x347 h348 _ _=>guardS x338 false h348 (fun k351=>neS EE 3 x347 (.fv (.int .i64 0)) fun x352=>k351 x352 h348 [] []) fun x353 h354 _ _=>pickS x338 (.fv (.bool true)) x353 fun x357=>condS x357 (outS1 [.fv (.bool true)] h354) (loadA 3 x261 h354 fun x358 _=>S12_387 h354 x283 ih x358 x265)
def S12_389 (h316:Hp) (x319 x261:IV) (ih:Handler) (x265 x283:IV):OH :=
 guardS x319 false h316 (fun k320=>loadA 3 x261 h316 fun x321 r322=>k320 x321 h316 r322 []) fun x323 h324 _ _=>guardS x319 false h324 (fun k327=>isoS [] false false ih 22 [x323] h324 k327) fun x328 h329 _ _=>guardS x319 false h329 (fun k332=>neS EE 3 x328 (.fv (.int .i64 0)) fun x333=>k332 x333 h329 [] []) fun x334 h335 _ _=>pickS x319 (.fv (.bool true)) x334 fun x338=>guardS x338 false h335 (fun k339=>loadA 3 x265 h335 fun x340 r341=>k339 x340 h335 r341 []) fun x342 h343 _ _=>S12_388 h343 x338 ih x342 x261 x283 x265
def S12_390 (h299:Hp) (x298 x296:IV) (ih:Handler) (x282 x297 x261 x265 x283:IV):OH :=
 storeA 3 x298 x296 h299 fun h302 _ _=>isoS [] false false ih 19 [x282] h302 fun x305 h306 _ _=>guardS x305 false h306 (fun k309=>k309 x297 h306 [] []) fun x310 h311 _ _=>guardS x305 false h311 (fun k314=>isoS [] false false ih 19 [x310] h311 k314) fun x315 h316 _ _=>pickS x305 (.fv (.bool true)) x315 fun x319=>S12_389 h316 x319 x261 ih x265 x283
def S12_391 (h287:Hp) (x265:IV) (ih:Handler) (x282 x261 x283:IV):OH :=
 loadA 3 x265 h287 fun x290 _=>isoS [] false false ih 18 [x290] h287 fun x292 h293 _ _=>extS 0 x292 fun x296=>extS 1 x292 fun x297=>newS 12597253 (.row [.fv (.int .i64 0),.fv (.int .i64 0),.nils] false) (.ptr (.own 12597253) 0) h293 fun x298 h299 _ _=>S12_390 h299 x298 x296 ih x282 x297 x261 x265 x283
def S12_392 (ih:Handler) (h272:Hp) (x275 x265 x261:IV):OH :=
 isoS [] false false ih 18 [x275] h272 fun x277 h278 _ _=>extS 0 x277 fun x281=>extS 1 x277 fun x282=>newS 12596229 (.row [.fv (.int .i64 0),.fv (.int .i64 0),.nils] false) (.ptr (.own 12596229) 0) h278 fun x283 h284 _ _=>storeA 3 x283 x281 h284 fun h287 _ _=>S12_391 h287 x265 ih x282 x261 x283
def S12_393 (h266:Hp) (x261 x249 x265 x257:IV) (ih:Handler):OH :=
 storeA 3 x261 x249 h266 fun h269 r270 w271=>chkS [] r270 w271 (storeA 3 x265 x257 h269 fun h272 r273 w274=>chkS [] r273 w274 (loadA 3 x261 h272 fun x275 _=>S12_392 ih h272 x275 x265 x261))
def S12_394 (r259 w260:LRf) (h258:Hp) (r256 r254 r251 w252 r248 r246:LRf) (x249 x257:IV) (ih:Handler):OH :=
 chkS [] r259 w260 (newS 12595206 (.row [.fv (.int .i64 0),.fv (.int .i64 0),.nils] false) (.ptr (.own 12595206) 0) h258 fun x261 h262 r263 w264=>chkS [(r259,w260),(r256,[]),(r254,[]),(r251,w252),(r248,[]),(r246,[])] r263 w264 (newS 12595207 (.row [.fv (.int .i64 0),.fv (.int .i64 0),.nils] false) (.ptr (.own 12595207) 0) h262 fun x265 h266 r267 w268=>chkS [(r263,w264),(r259,w260),(r256,[]),(r254,[]),(r251,w252),(r248,[]),(r246,[])] r267 w268 (S12_393 h266 x261 x249 x265 x257 ih)))
def S12_395 (h250:Hp) (x157:IV) (r251 w252 r248 r246:LRf) (x142:IV) (ih:Handler) (x249:IV):OH :=
 loadA 3 x157 h250 fun x253 r254=>chkS [(r251,w252),(r248,[]),(r246,[])] r254 [] (loadA 3 x142 h250 fun x255 r256=>chkS [(r254,[]),(r251,w252),(r248,[]),(r246,[])] r256 [] (isoS [] false false ih 30 [x253,.fv (.int .i64 0),x255] h250 fun x257 h258 r259 w260=>S12_394 r259 w260 h258 r256 r254 r251 w252 r248 r246 x249 x257 ih))
def S12_396 (r246:LRf) (h241:Hp) (x142:IV) (ih:Handler) (x245 x157:IV):OH :=
 chkS [] r246 [] (loadA 3 x142 h241 fun x247 r248=>chkS [(r246,[])] r248 [] (isoS [] false false ih 30 [x245,.fv (.int .i64 0),x247] h241 fun x249 h250 r251 w252=>chkS [] r251 w252 (S12_395 h250 x157 r251 w252 r248 r246 x142 ih x249)))
def S12_397 (h230:Hp) (x225:IV) (ih:Handler) (x229 x119 x142 x157:IV):OH :=
 guardS x225 false h230 (fun k233=>isoS [] false false ih 36 [x229] h230 k233) fun x234 h235 _ _=>guardS x225 false h235 (fun k238=>gtS EE 3 x234 (.fv (.int .i64 20)) fun x239=>k238 x239 h235 [] []) fun x240 h241 _ _=>pickS x225 (.fv (.bool true)) x240 fun x244=>condS x244 (outS1 [.fv (.bool true)] h241) (loadA 3 x119 h241 fun x245 r246=>S12_396 r246 h241 x142 ih x245 x157)
def S12_398 (h203:Hp) (x206 x157:IV) (ih:Handler) (x142 x119:IV):OH :=
 guardS x206 false h203 (fun k207=>loadA 3 x157 h203 fun x208 r209=>k207 x208 h203 r209 []) fun x210 h211 _ _=>guardS x206 false h211 (fun k214=>isoS [] false false ih 36 [x210] h211 k214) fun x215 h216 _ _=>guardS x206 false h216 (fun k219=>gtS EE 3 x215 (.fv (.int .i64 400)) fun x220=>k219 x220 h216 [] []) fun x221 h222 _ _=>pickS x206 (.fv (.bool true)) x221 fun x225=>guardS x225 false h222 (fun k226=>loadA 3 x142 h222 fun x227 r228=>k226 x227 h222 r228 []) fun x229 h230 _ _=>S12_397 h230 x225 ih x229 x119 x142 x157
def S12_399 (x176 x183:IV) (h184:Hp) (x119:IV) (ih:Handler) (x157 x142:IV):OH :=
 pickS x176 (.fv (.bool true)) x183 fun x187=>guardS x187 false h184 (fun k188=>loadA 3 x119 h184 fun x189 r190=>k188 x189 h184 r190 []) fun x191 h192 _ _=>guardS x187 false h192 (fun k195=>isoS [] false false ih 36 [x191] h192 k195) fun x196 h197 _ _=>guardS x187 false h197 (fun k200=>gtS EE 3 x196 (.fv (.int .i64 400)) fun x201=>k200 x201 h197 [] []) fun x202 h203 _ _=>pickS x187 (.fv (.bool true)) x202 fun x206=>S12_398 h203 x206 x157 ih x142 x119
def S12_400 (h161:Hp) (x164 x141 x156:IV) (ih:Handler) (x119 x157 x142:IV):OH :=
 guardS x164 false h161 (fun k165=>k165 x141 h161 [] []) fun x166 h167 _ _=>guardS x164 false h167 (fun k170=>optS (unR .not x166) fun x171=>k170 x171 h167 [] []) fun x172 h173 _ _=>pickS x164 (.fv (.bool true)) x172 fun x176=>guardS x176 false h173 (fun k177=>k177 x156 h173 [] []) fun x178 h179 _ _=>guardS x176 false h179 (fun k182=>isoS [] false false ih 19 [x178] h179 k182) fun x183 h184 _ _=>S12_399 x176 x183 h184 x119 ih x157 x142
def S12_401 (x151:IV) (h152:Hp) (x118 x141:IV) (ih:Handler) (x119 x142:IV):OH :=
 extS 0 x151 fun x155=>extS 1 x151 fun x156=>newS 12592133 (.row [.fv (.int .i64 0),.fv (.int .i64 0),.nils] false) (.ptr (.own 12592133) 0) h152 fun x157 h158 _ _=>storeA 3 x157 x155 h158 fun h161 _ _=>optS (unR .not x118) fun x164=>S12_400 h161 x164 x141 x156 ih x119 x157 x142
def S12_402 (r144 w145 r138 w139 r135 r132 w133 r128 w129:LRf) (h143:Hp) (x142 x140 x119:IV) (ih:Handler) (x118 x141:IV):OH :=
 chkS [(r138,w139),(r135,[]),(r132,w133),(r128,w129)] r144 w145 (storeA 3 x142 x140 h143 fun h146 r147 w148=>chkS [] r147 w148 (loadA 3 x119 h146 fun x149 _=>isoS [] false false ih 18 [x149] h146 fun x151 h152 _ _=>S12_401 x151 h152 x118 x141 ih x119 x142))
def S12_403 (ih:Handler) (h131:Hp) (x126 x130 x134:IV) (r135 r132 w133 r128 w129:LRf) (x119 x118:IV):OH :=
 isoS [] false false ih 26 [x126,x130,x134,.fv (.int .i64 2)] h131 fun x136 h137 r138 w139=>chkS [] r138 w139 (extS 0 x136 fun x140=>extS 1 x136 fun x141=>newS 12591112 (.row [.fv (.int .i64 0),.fv (.int .i64 0),.nils] false) (.ptr (.own 12591112) 0) h137 fun x142 h143 r144 w145=>S12_402 r144 w145 r138 w139 r135 r132 w133 r128 w129 h143 x142 x140 x119 ih x118 x141)
def S12_404 (r128 w129:LRf) (ih:Handler) (h127:Hp) (x13 x126 x119 x118:IV):OH :=
 chkS [] r128 w129 (isoS [] false false ih 42 [] h127 fun x130 h131 r132 w133=>chkS [] r132 w133 (loadA 3 x13 h131 fun x134 r135=>chkS [(r132,w133),(r128,w129)] r135 [] (S12_403 ih h131 x126 x130 x134 r135 r132 w133 r128 w129 x119 x118)))
def S12_405 (x113:IV) (h114:Hp) (ih:Handler) (x0 x13:IV):OH :=
 extS 0 x113 fun x117=>extS 1 x113 fun x118=>newS 12590087 (.row [.fv (.int .i64 0),.fv (.int .i64 0),.nils] false) (.ptr (.own 12590087) 0) h114 fun x119 h120 _ _=>storeA 3 x119 x117 h120 fun h123 _ _=>isoS [] false false ih 24 [x0] h123 fun x126 h127 r128 w129=>S12_404 r128 w129 ih h127 x13 x126 x119 x118
def S12_406 (h99:Hp) (x98 x5:IV) (ih:Handler) (x92 x0 x13:IV):OH :=
 newS 12589059 (.row [.fv (.int .i64 0),.fv (.int .i64 0),.nils] false) (.ptr (.own 12589059) 0) h99 fun x102 h103 _ _=>storeA 3 x102 x98 h103 fun h106 _ _=>loadA 3 x102 h106 fun x109 _=>loadA 3 x5 h106 fun x111 _=>isoS [] false false ih 26 [x92,x109,x111,.fv (.int .i64 4)] h106 fun x113 h114 _ _=>S12_405 x113 h114 ih x0 x13
def S12_407 (ih:Handler) (h80:Hp) (x0 x9 x5 x13:IV):OH :=
 isoS [] false false ih 24 [x0] h80 fun x84 h85 _ _=>isoS [] false false ih 42 [] h85 fun x88 h89 _ _=>isoS [] false false ih 29 [x84,.fv (.int .i64 1),x88] h89 fun x92 h93 _ _=>loadA 3 x9 h93 fun x96 _=>isoS [] false false ih 25 [x92,x96,.fv (.int .i64 1)] h93 fun x98 h99 _ _=>S12_406 h99 x98 x5 ih x92 x0 x13
def S12_408 (h61:Hp) (x64 x13:IV) (ih:Handler) (x0 x9 x5:IV):OH :=
 guardS x64 false h61 (fun k65=>loadA 3 x13 h61 fun x66 r67=>k65 x66 h61 r67 []) fun x68 h69 _ _=>guardS x64 false h69 (fun k72=>isoS [] false false ih 16 [x68] h69 k72) fun x73 h74 _ _=>guardS x64 false h74 (fun k77=>optS (unR .not x73) fun x78=>k77 x78 h74 [] []) fun x79 h80 _ _=>pickS x64 (.fv (.bool true)) x79 fun x83=>condS x83 (outS1 [.fv (.bool true)] h80) (S12_407 ih h80 x0 x9 x5 x13)
def S12_409 (x26 x41:IV) (h42:Hp) (x9:IV) (ih:Handler) (x13 x0 x5:IV):OH :=
 pickS x26 (.fv (.bool true)) x41 fun x45=>guardS x45 false h42 (fun k46=>loadA 3 x9 h42 fun x47 r48=>k46 x47 h42 r48 []) fun x49 h50 _ _=>guardS x45 false h50 (fun k53=>isoS [] false false ih 16 [x49] h50 k53) fun x54 h55 _ _=>guardS x45 false h55 (fun k58=>optS (unR .not x54) fun x59=>k58 x59 h55 [] []) fun x60 h61 _ _=>pickS x45 (.fv (.bool true)) x60 fun x64=>S12_408 h61 x64 x13 ih x0 x9 x5
def S12_410 (ih:Handler) (h18:Hp) (x0 x5 x9 x13:IV):OH :=
 isoS [] false false ih 15 [x0] h18 fun x22 h23 _ _=>optS (unR .not x22) fun x26=>guardS x26 false h23 (fun k27=>loadA 3 x5 h23 fun x28 r29=>k27 x28 h23 r29 []) fun x30 h31 _ _=>guardS x26 false h31 (fun k34=>isoS [] false false ih 16 [x30] h31 k34) fun x35 h36 _ _=>guardS x26 false h36 (fun k39=>optS (unR .not x35) fun x40=>k39 x40 h36 [] []) fun x41 h42 _ _=>S12_409 x26 x41 h42 x9 ih x13 x0 x5
def S12 (ih:Handler) (n:Nat) (x0 x1 x2 x3:IV) (h4:Hp):OH :=
 boxS 12582912 x1 h4 fun x5 h6 _ _=>boxS 12582913 x2 h6 fun x9 h10 _ _=>boxS 12582914 x3 h10 fun x13 h14 _ _=>isoS [] false false ih 14 [] h14 fun x17 h18 _ _=>optS (unR .not x17) fun x21=>condS x21 (outS1 [.fv (.bool false)] h18) (S12_410 ih h18 x0 x5 x9 x13)
theorem S12_ok (ih:Handler) (n:Nat) (x0 x1 x2 x3:IV) (h4:Hp):funS EE ih ft.get n 12 [x0,x1,x2,x3] h4=S12 ih n x0 x1 x2 x3 h4:=by kernel_rfl
def S14_79 (h70:Hp) (x60:IV) (ih:Handler) (x64 x69:IV):OH :=
 guardS x60 true h70 (fun k73=>isoS [] false false ih 21 [x64,x69] h70 k73) fun x74 h75 r76 w77=>chkS [] r76 w77 (pickS x60 x74 (.fv (.bool false)) fun x78=>outS1 [x78] h75)
def S14_80 (x52:IV) (h57:Hp) (x53:IV) (ih:Handler):OH :=
 eqS EE 37 x52 (.fv (.int .i64 0)) fun x60=>guardS x60 true h57 (fun k61=>loadA 3 x53 h57 fun x62 r63=>k61 x62 h57 r63 []) fun x64 h65 r66 w67=>chkS [] r66 w67 (guardS x60 true h65 (fun k68=>isoS [] false false ih 35 [.fv (.int .i64 2)] h65 k68) fun x69 h70 r71 w72=>chkS [(r66,w67)] r71 w72 (S14_79 h70 x60 ih x64 x69))
def S14_81 (x47:IV) (h48:Hp) (r49 w50 r45 w46 r41 w42 r37 w38 r33 w34 r30 r27 w28 r24:LRf) (x51:IV) (ih:Handler):OH :=
 extS 1 x47 fun x52=>newS 14682123 (.row [.fv (.int .i64 0),.fv (.int .i64 0),.nils] false) (.ptr (.own 14682123) 0) h48 fun x53 h54 r55 w56=>chkS [(r49,w50),(r45,w46),(r41,w42),(r37,w38),(r33,w34),(r30,[]),(r27,w28),(r24,[])] r55 w56 (storeA 3 x53 x51 h54 fun h57 r58 w59=>chkS [] r58 w59 (S14_80 x52 h57 x53 ih))
def S14_82 (ih:Handler) (h40:Hp) (x39:IV) (r41 w42 r37 w38 r33 w34 r30 r27 w28 r24:LRf):OH :=
 isoS [] false false ih 27 [.fv (.int .i64 8),x39] h40 fun x43 h44 r45 w46=>chkS [] r45 w46 (isoS [] false false ih 20 [x43] h44 fun x47 h48 r49 w50=>chkS [] r49 w50 (extS 0 x47 fun x51=>S14_81 x47 h48 r49 w50 r45 w46 r41 w42 r37 w38 r33 w34 r30 r27 w28 r24 x51 ih))
def S14_83 (r33 w34:LRf) (ih:Handler) (h32:Hp) (x31:IV) (r30 r27 w28 r24:LRf):OH :=
 chkS [] r33 w34 (isoS [] false false ih 27 [.fv (.int .i64 7),x31] h32 fun x35 h36 r37 w38=>chkS [] r37 w38 (genS (pcBuildSlice EE 29 1 [(0,x35)]) 14682117 h36 fun x39 h40 r41 w42=>chkS [] r41 w42 (S14_82 ih h40 x39 r41 w42 r37 w38 r33 w34 r30 r27 w28 r24)))
def S14_84 (ih:Handler) (h20:Hp) (r24:LRf) (x9 x23:IV):OH :=
 isoS [] false false ih 35 [.fv (.int .i64 2)] h20 fun x25 h26 r27 w28=>chkS [(r24,[])] r27 w28 (loadA 3 x9 h26 fun x29 r30=>chkS [(r27,w28),(r24,[])] r30 [] (genS (pcBuildSlice EE 29 3 [(0,x23),(1,x25),(2,x29)]) 14682115 h26 fun x31 h32 r33 w34=>S14_83 r33 w34 ih h32 x31 r30 r27 w28 r24))
def S14_85 (h10:Hp) (x9 x1 x8:IV) (ih:Handler):OH :=
 newS 14681094 (.row [.fv (.int .i64 0),.fv (.int .i64 0),.nils] false) (.ptr (.own 14681094) 0) h10 fun x13 h14 _ _=>storeA 3 x9 x1 h14 fun h17 _ _=>storeA 3 x13 x8 h17 fun h20 _ _=>loadA 3 x13 h20 fun x23 r24=>chkS [] r24 [] (S14_84 ih h20 r24 x9 x23)
def S14 (ih:Handler) (n:Nat) (h0:Hp):OH :=
 bldS [.fv (.int .i64 0),.fv (.int .i64 0),.nils] [(0,1,.fv (.int .i64 11))] fun x1=>bldS [.fv (.int .i64 0),.fv (.int .i64 0),.nils] [(0,1,.fv (.int .i64 10))] fun x2=>bldS [.fv (.int .i64 0),.fv (.int .i64 0),.nils] [(0,1,.fv (.int .i64 10))] fun x3=>genS (pcBuildSlice EE 29 2 [(0,x2),(1,x3)]) 14681091 h0 fun x4 h5 _ _=>bldS [.fv (.int .i64 0),.fv (.int .i64 0),.nils] [(0,1,.fv (.int .i64 6)),(2,1,x4)] fun x8=>newS 14681093 (.row [.fv (.int .i64 0),.fv (.int .i64 0),.nils] false) (.ptr (.own 14681093) 0) h5 fun x9 h10 _ _=>S14_85 h10 x9 x1 x8 ih
theorem S14_ok (ih:Handler) (n:Nat) (h0:Hp):funS EE ih ft.get n 14 [] h0=S14 ih n h0:=by kernel_rfl
def S15_22 (x6:IV) (q2:List IV→Hp→OH) (h13:Hp) (x5:IV):OH :=
 addS EE 3 x6 (.fv (.int .i64 1)) fun x17=>q2 [x5,x17] h13
def S15_23 (x5 x6:IV) (h4:Hp) (ih:Handler) (q2:List IV→Hp→OH):OH :=
 ixS 3 x5 x6 fun x9=>loadA 3 x9 h4 fun x10 _=>isoS [] false false ih 16 [x10] h4 fun x12 h13 _ _=>optS (unR .not x12) fun x16=>condS x16 (outS1 [.fv (.bool false)] h13) (S15_22 x6 q2 h13 x5)
def S15_24 (x5:IV) (h4:Hp):OH :=
 lenS x5 fun x18=>leS EE 3 x18 (.fv (.int .i64 6)) fun x19=>outS1 [x19] h4
def S15_25 (l3:List IV) (h4:Hp) (ih:Handler) (q2:List IV→Hp→OH):OH :=
 uncS l3 fun x5 l20=>uncS l20 fun x6 _=>lenS x5 fun x7=>ltS EE 3 x6 x7 fun x8=>condS x8 (S15_23 x5 x6 h4 ih q2) (S15_24 x5 h4)
def S15 (ih:Handler) (n:Nat) (x0:IV) (h1:Hp):OH :=
 loopS n (fun q2 l3 h4=>S15_25 l3 h4 ih q2) [x0,.fv (.int .i64 0)] h1
theorem S15_ok (ih:Handler) (n:Nat) (x0:IV) (h1:Hp):funS EE ih ft.get n 15 [x0] h1=S15 ih n x0 h1:=by kernel_rfl
def S16 (ih:Handler) (n:Nat) (x0:IV) (h1:Hp):OH :=
 boxS 16777216 x0 h1 fun x2 h3 _ _=>loadA 3 x2 h3 fun x6 _=>isoS [] false false ih 47 [x6,.fv (.int .i64 300)] h3 fun x8 h9 _ _=>ltS EE 3 x8 (.fv (.int .i64 300)) fun x12=>outS1 [x12] h9
theorem S16_ok (ih:Handler) (n:Nat) (x0:IV) (h1:Hp):funS EE ih ft.get n 16 [x0] h1=S16 ih n x0 h1:=by kernel_rfl
def S17_177 (r85 w86:LRf) (h84:Hp) (x13 x17 x21:IV):OH :=
 chkS [] r85 w86 (cellS true 3 x13 h84 fun x87=>cellS true 3 x17 h84 fun x88=>outS1 [x21,x87,x88,.fv (.bool false)] h84)
def S17_178 (ih:Handler) (h71:Hp) (r76:LRf) (x13 x75 x17 x21:IV):OH :=
 isoS [] false false ih 43 [.fv (.int .i64 0)] h71 fun x77 h78 r79 w80=>chkS [(r76,[])] r79 w80 (storeA 3 x13 x75 h78 fun h81 r82 w83=>chkS [] r82 w83 (storeA 3 x17 x77 h81 fun h84 r85 w86=>S17_177 r85 w86 h84 x13 x17 x21))
def S17_179 (r97 w98:LRf) (h96:Hp) (x13 x17 x21:IV):OH :=
 chkS [] r97 w98 (cellS true 3 x13 h96 fun x99=>cellS true 3 x17 h96 fun x100=>outS1 [x21,x99,x100,.fv (.bool true)] h96)
def S17_180 (h71:Hp) (x48:IV) (r90:LRf) (x13 x89 x17 x21:IV):OH :=
 loadA 3 x48 h71 fun x91 r92=>chkS [(r90,[])] r92 [] (storeA 3 x13 x89 h71 fun h93 r94 w95=>chkS [(r92,[])] r94 w95 (storeA 3 x17 x91 h93 fun h96 r97 w98=>S17_179 r97 w98 h96 x13 x17 x21))
def S17_181 (x55 x70:IV) (h71:Hp) (x31:IV) (ih:Handler) (x13 x17 x21 x48:IV):OH :=
 pickS x55 (.fv (.bool true)) x70 fun x74=>condS x74 (loadA 3 x31 h71 fun x75 r76=>chkS [] r76 [] (S17_178 ih h71 r76 x13 x75 x17 x21)) (loadA 3 x31 h71 fun x89 r90=>chkS [] r90 [] (S17_180 h71 x48 r90 x13 x89 x17 x21))
def S17_182 (h49:Hp) (x48 x46 x47:IV) (ih:Handler) (x31 x13 x17 x21:IV):OH :=
 storeA 3 x48 x46 h49 fun h52 _ _=>optS (unR .not x47) fun x55=>guardS x55 false h52 (fun k56=>loadA 3 x48 h52 fun x57 r58=>k56 x57 h52 r58 []) fun x59 h60 _ _=>guardS x55 false h60 (fun k63=>isoS [] false false ih 22 [x59] h60 k63) fun x64 h65 _ _=>guardS x55 false h65 (fun k68=>neS EE 3 x64 (.fv (.int .i64 0)) fun x69=>k68 x69 h65 [] []) fun x70 h71 _ _=>S17_181 x55 x70 h71 x31 ih x13 x17 x21 x48
def S17_183 (h35:Hp) (x5:IV) (ih:Handler) (x21 x38 x31 x13 x17:IV):OH :=
 loadA 3 x5 h35 fun x40 _=>isoS [] false false ih 32 [x21,x38,x40,.fv (.int .i64 5)] h35 fun x42 h43 _ _=>extS 0 x42 fun x46=>extS 1 x42 fun x47=>newS 17829895 (.row [.fv (.int .i64 0),.fv (.int .i64 0),.nils] false) (.ptr (.own 17829895) 0) h43 fun x48 h49 _ _=>S17_182 h49 x48 x46 x47 ih x31 x13 x17 x21
def S17_184 (h22:Hp) (x9:IV) (ih:Handler) (x5 x21 x13 x17:IV):OH :=
 loadA 3 x9 h22 fun x25 _=>isoS [] false false ih 33 [x25,.fv (.int .i64 2)] h22 fun x27 h28 _ _=>newS 17828866 (.row [.fv (.int .i64 0),.fv (.int .i64 0),.nils] false) (.ptr (.own 17828866) 0) h28 fun x31 h32 _ _=>storeA 3 x31 x27 h32 fun h35 _ _=>loadA 3 x31 h35 fun x38 _=>S17_183 h35 x5 ih x21 x38 x31 x13 x17
def S17_185 (r161 w162:LRf) (h160:Hp) (x13 x17 x21:IV):OH :=
 chkS [] r161 w162 (cellS true 3 x13 h160 fun x163=>cellS true 3 x17 h160 fun x164=>outS1 [x21,x163,x164,.fv (.bool false)] h160)
def S17_186 (ih:Handler) (h147:Hp) (r152:LRf) (x13 x151 x17 x21:IV):OH :=
 isoS [] false false ih 27 [.fv (.int .i64 11),.nils] h147 fun x153 h154 r155 w156=>chkS [(r152,[])] r155 w156 (storeA 3 x13 x151 h154 fun h157 r158 w159=>chkS [] r158 w159 (storeA 3 x17 x153 h157 fun h160 r161 w162=>S17_185 r161 w162 h160 x13 x17 x21))
def S17_187 (r173 w174:LRf) (h172:Hp) (x13 x17 x21:IV):OH :=
 chkS [] r173 w174 (cellS true 3 x13 h172 fun x175=>cellS true 3 x17 h172 fun x176=>outS1 [x21,x175,x176,.fv (.bool true)] h172)
def S17_188 (h147:Hp) (x124:IV) (r166:LRf) (x13 x165 x17 x21:IV):OH :=
 loadA 3 x124 h147 fun x167 r168=>chkS [(r166,[])] r168 [] (storeA 3 x13 x165 h147 fun h169 r170 w171=>chkS [(r168,[])] r170 w171 (storeA 3 x17 x167 h169 fun h172 r173 w174=>S17_187 r173 w174 h172 x13 x17 x21))
def S17_189 (x131 x146:IV) (h147:Hp) (x107:IV) (ih:Handler) (x13 x17 x21 x124:IV):OH :=
 pickS x131 (.fv (.bool true)) x146 fun x150=>condS x150 (loadA 3 x107 h147 fun x151 r152=>chkS [] r152 [] (S17_186 ih h147 r152 x13 x151 x17 x21)) (loadA 3 x107 h147 fun x165 r166=>chkS [] r166 [] (S17_188 h147 x124 r166 x13 x165 x17 x21))
def S17_190 (h125:Hp) (x124 x122 x123:IV) (ih:Handler) (x107 x13 x17 x21:IV):OH :=
 storeA 3 x124 x122 h125 fun h128 _ _=>optS (unR .not x123) fun x131=>guardS x131 false h128 (fun k132=>loadA 3 x124 h128 fun x133 r134=>k132 x133 h128 r134 []) fun x135 h136 _ _=>guardS x131 false h136 (fun k139=>isoS [] false false ih 22 [x135] h136 k139) fun x140 h141 _ _=>guardS x131 false h141 (fun k144=>neS EE 3 x140 (.fv (.int .i64 0)) fun x145=>k144 x145 h141 [] []) fun x146 h147 _ _=>S17_189 x131 x146 h147 x107 ih x13 x17 x21 x124
def S17_191 (h111:Hp) (x5:IV) (ih:Handler) (x21 x114 x107 x13 x17:IV):OH :=
 loadA 3 x5 h111 fun x116 _=>isoS [] false false ih 26 [x21,x114,x116,.fv (.int .i64 5)] h111 fun x118 h119 _ _=>extS 0 x118 fun x122=>extS 1 x118 fun x123=>newS 17835015 (.row [.fv (.int .i64 0),.fv (.int .i64 0),.nils] false) (.ptr (.own 17835015) 0) h119 fun x124 h125 _ _=>S17_190 h125 x124 x122 x123 ih x107 x13 x17 x21
def S17_192 (h22:Hp) (x9:IV) (ih:Handler) (x21 x5 x13 x17:IV):OH :=
 loadA 3 x9 h22 fun x101 _=>isoS [] false false ih 25 [x21,x101,.fv (.int .i64 2)] h22 fun x103 h104 _ _=>newS 17833987 (.row [.fv (.int .i64 0),.fv (.int .i64 0),.nils] false) (.ptr (.own 17833987) 0) h104 fun x107 h108 _ _=>storeA 3 x107 x103 h108 fun h111 _ _=>loadA 3 x107 h111 fun x114 _=>S17_191 h111 x5 ih x21 x114 x107 x13 x17
def S17 (ih:Handler) (n:Nat) (x0 x1 x2 x3:IV) (h4:Hp):OH :=
 boxS 17825792 x1 h4 fun x5 h6 _ _=>boxS 17825793 x2 h6 fun x9 h10 _ _=>newS 17825795 (.row [.fv (.int .i64 0),.fv (.int .i64 0),.nils] false) (.ptr (.own 17825795) 0) h10 fun x13 h14 _ _=>newS 17825796 (.row [.fv (.int .i64 0),.fv (.int .i64 0),.nils] false) (.ptr (.own 17825796) 0) h14 fun x17 h18 _ _=>isoS [] false false ih 24 [x0] h18 fun x21 h22 _ _=>condS x3 (S17_184 h22 x9 ih x5 x21 x13 x17) (S17_192 h22 x9 ih x21 x5 x13 x17)
theorem S17_ok (ih:Handler) (n:Nat) (x0 x1 x2 x3:IV) (h4:Hp):funS EE ih ft.get n 17 [x0,x1,x2,x3] h4=S17 ih n x0 x1 x2 x3 h4:=by kernel_rfl
def S18_52 (r43 w44 r41:LRf) (h42:Hp) (x6 x40:IV):OH :=
 chkS [(r41,[])] r43 w44 (cellS true 3 x6 h42 fun x45=>outS1 [x45,x40] h42)
def S18_53 (x11:IV) (h29:Hp) (x6 x37:IV):OH :=
 nilS x11 fun x38=>faddrS 2 x38 fun x39=>load1 x39 h29 fun x40 r41=>chkS [] r41 [] (storeA 3 x6 x37 h29 fun h42 r43 w44=>S18_52 r43 w44 r41 h42 x6 x40)
def S18_54 (h29:Hp) (x6 x46:IV):OH :=
 storeA 3 x6 x46 h29 fun h48 _ _=>cellS true 3 x6 h48 fun x51=>outS1 [x51,.fv (.int .i64 0)] h48
def S18_55 (h29:Hp) (x33 x11 x6 x25:IV):OH :=
 load1 x33 h29 fun x34 _=>neS EE 3 x34 (.fv (.int .i64 0)) fun x36=>condS x36 (bldS [.fv (.int .i64 0),.fv (.int .i64 0),.nils] [] fun x37=>S18_53 x11 h29 x6 x37) (loadA 3 x25 h29 fun x46 _=>S18_54 h29 x6 x46)
def S18_56 (ih:Handler) (h18:Hp) (x11 x17 x6:IV):OH :=
 isoS [true,false,false,false] false false ih 48 [x11,x17,.fv (.int .i64 0),.fv (.int .i64 1)] h18 fun x21 h22 _ _=>newS 18876421 (.row [.fv (.int .i64 0),.fv (.int .i64 0),.nils] false) (.ptr (.own 18876421) 0) h22 fun x25 h26 _ _=>storeA 3 x25 x21 h26 fun h29 _ _=>nilS x11 fun x32=>faddrS 2 x32 fun x33=>S18_55 h29 x33 x11 x6 x25
def S18 (ih:Handler) (n:Nat) (x0:IV) (h1:Hp):OH :=
 boxS 18874368 x0 h1 fun x2 h3 _ _=>newS 18874369 (.row [.fv (.int .i64 0),.fv (.int .i64 0),.nils] false) (.ptr (.own 18874369) 0) h3 fun x6 h7 _ _=>bldS [.fv (.int .i64 0),.fv (.int .i64 0),.fv (.int .i64 0)] [] fun x10=>boxS 18875393 x10 h7 fun x11 h12 _ _=>loadA 3 x2 h12 fun x15 _=>isoS [true,false,false] false false ih 49 [x11,x15,.nils] h12 fun x17 h18 _ _=>S18_56 ih h18 x11 x17 x6
theorem S18_ok (ih:Handler) (n:Nat) (x0:IV) (h1:Hp):funS EE ih ft.get n 18 [x0] h1=S18 ih n x0 h1:=by kernel_rfl
def S19 (ih:Handler) (n:Nat) (x0:IV) (h1:Hp):OH :=
 eqS EE 3 x0 (.fv (.int .i64 17)) fun x2=>guardS x2 false h1 (fun k3=>k3 x0 h1 [] []) fun x4 h5 _ _=>guardS x2 false h5 (fun k8=>eqS EE 3 x4 (.fv (.int .i64 5)) fun x9=>k8 x9 h5 [] []) fun x10 h11 _ _=>pickS x2 (.fv (.bool true)) x10 fun x14=>outS1 [x14] h11
theorem S19_ok (ih:Handler) (n:Nat) (x0:IV) (h1:Hp):funS EE ih ft.get n 19 [x0] h1=S19 ih n x0 h1:=by kernel_rfl
def S20_77 (h13:Hp) (x6:IV):OH :=
 bldS [.fv (.int .i64 0),.fv (.int .i64 0),.nils] [] fun x17=>storeA 3 x6 x17 h13 fun h18 _ _=>cellS true 3 x6 h18 fun x21=>outS1 [x21,.fv (.int .i64 1)] h18
def S20_78 (r43 w44 r41:LRf) (h42:Hp) (x6 x40:IV):OH :=
 chkS [(r41,[])] r43 w44 (cellS true 3 x6 h42 fun x45=>outS1 [x45,x40] h42)
def S20_79 (x22:IV) (h29:Hp) (x6 x37:IV):OH :=
 nilS x22 fun x38=>faddrS 3 x38 fun x39=>load1 x39 h29 fun x40 r41=>chkS [] r41 [] (storeA 3 x6 x37 h29 fun h42 r43 w44=>S20_78 r43 w44 r41 h42 x6 x40)
def S20_80 (h67:Hp) (x6 x65:IV):OH :=
 cellS true 3 x6 h67 fun x70=>outS1 [x70,x65] h67
def S20_81 (x63:IV) (h54:Hp) (x6 x62:IV):OH :=
 faddrS 3 x63 fun x64=>load1 x64 h54 fun x65 r66=>chkS [] r66 [] (storeA 3 x6 x62 h54 fun h67 r68 w69=>chkS [(r66,[])] r68 w69 (S20_80 h67 x6 x65))
def S20_82 (h73:Hp) (x6:IV):OH :=
 cellS true 3 x6 h73 fun x76=>outS1 [x76,.fv (.int .i64 0)] h73
def S20_83 (x59 x22:IV) (h54:Hp) (x6 x50:IV):OH :=
 neS EE 37 x59 (.fv (.int .i64 0)) fun x61=>condS x61 (bldS [.fv (.int .i64 0),.fv (.int .i64 0),.nils] [] fun x62=>nilS x22 fun x63=>S20_81 x63 h54 x6 x62) (loadA 3 x50 h54 fun x71 _=>storeA 3 x6 x71 h54 fun h73 _ _=>S20_82 h73 x6)
def S20_84 (h47:Hp) (x46 x22 x6:IV):OH :=
 newS 20978691 (.row [.fv (.int .i64 0),.fv (.int .i64 0),.nils] false) (.ptr (.own 20978691) 0) h47 fun x50 h51 _ _=>storeA 3 x50 x46 h51 fun h54 _ _=>nilS x22 fun x57=>faddrS 3 x57 fun x58=>load1 x58 h54 fun x59 _=>S20_83 x59 x22 h54 x6 x50
def S20_85 (h29:Hp) (x33 x22 x6:IV) (ih:Handler) (x28:IV):OH :=
 load1 x33 h29 fun x34 _=>neS EE 37 x34 (.fv (.int .i64 0)) fun x36=>condS x36 (bldS [.fv (.int .i64 0),.fv (.int .i64 0),.nils] [] fun x37=>S20_79 x22 h29 x6 x37) (isoS [true,false,false,false] false false ih 53 [x22,x28,.fv (.int .i64 0),.fv (.int .i64 1)] h29 fun x46 h47 _ _=>S20_84 h47 x46 x22 x6)
def S20_86 (ih:Handler) (h13:Hp) (x2 x6:IV):OH :=
 inlS ih 51 [] h13 fun x22 h23 _ _=>loadA 3 x2 h23 fun x26 _=>isoS [true,false,false] false false ih 52 [x22,.fv .nilp,x26] h23 fun x28 h29 _ _=>nilS x22 fun x32=>faddrS 3 x32 fun x33=>S20_85 h29 x33 x22 x6 ih x28
def S20 (ih:Handler) (n:Nat) (x0:IV) (h1:Hp):OH :=
 boxS 20971520 x0 h1 fun x2 h3 _ _=>newS 20971521 (.row [.fv (.int .i64 0),.fv (.int .i64 0),.nils] false) (.ptr (.own 20971521) 0) h3 fun x6 h7 _ _=>loadA 3 x2 h7 fun x10 _=>isoS [] false false ih 50 [x10] h7 fun x12 h13 _ _=>optS (unR .not x12) fun x16=>condS x16 (S20_77 h13 x6) (S20_86 ih h13 x2 x6)
theorem S20_ok (ih:Handler) (n:Nat) (x0:IV) (h1:Hp):funS EE ih ft.get n 20 [x0] h1=S20 ih n x0 h1:=by kernel_rfl
def S21_128 (x101:IV) (q96:List IV→Hp→OH) (h120:Hp) (x99 x100:IV):OH :=
 addS EE 3 x101 (.fv (.int .i64 1)) fun x124=>q96 [x99,x100,x124] h120
def S21_129 (r118 r112 r109:LRf) (ih:Handler) (h98:Hp) (x111 x117 x101:IV) (q96:List IV→Hp→OH) (x99 x100:IV):OH :=
 chkS [(r112,[]),(r109,[])] r118 [] (isoS [] false false ih 21 [x111,x117] h98 fun x119 h120 r121 w122=>chkS [] r121 w122 (optS (unR .not x119) fun x123=>condS x123 (outS1 [.fv (.bool false)] h120) (S21_128 x101 q96 h120 x99 x100)))
def S21_130 (x100:IV) (h98:Hp) (r112 r109:LRf) (x101:IV) (ih:Handler) (x111:IV) (q96:List IV→Hp→OH) (x99:IV):OH :=
 faddrS 2 x100 fun x113=>load1 x113 h98 fun x114 r115=>chkS [(r112,[]),(r109,[])] r115 [] (ixS 3 x114 x101 fun x116=>loadA 3 x116 h98 fun x117 r118=>S21_129 r118 r112 r109 ih h98 x111 x117 x101 q96 x99 x100)
def S21_131 (h98:Hp) (x107 x101 x100:IV) (ih:Handler) (q96:List IV→Hp→OH) (x99:IV):OH :=
 load1 x107 h98 fun x108 r109=>chkS [] r109 [] (ixS 3 x108 x101 fun x110=>loadA 3 x110 h98 fun x111 r112=>chkS [] r112 [] (S21_130 x100 h98 r112 r109 x101 ih x111 q96 x99))
def S21_132 (x103 x101 x99:IV) (h98:Hp) (x100:IV) (ih:Handler) (q96:List IV→Hp→OH):OH :=
 lenS x103 fun x105=>ltS EE 3 x101 x105 fun x106=>condS x106 (faddrS 2 x99 fun x107=>S21_131 h98 x107 x101 x100 ih q96 x99) (outS1 [.fv (.bool true)] h98)
def S21_133 (l97:List IV) (h98:Hp) (ih:Handler) (q96:List IV→Hp→OH):OH :=
 uncS l97 fun x99 l125=>uncS l125 fun x100 l126=>uncS l126 fun x101 _=>faddrS 2 x99 fun x102=>load1 x102 h98 fun x103 _=>S21_132 x103 x101 x99 h98 x100 ih q96
def S21_134 (x95:IV) (h92:Hp) (n:Nat) (x3 x7:IV) (ih:Handler):OH :=
 condS x95 (outS1 [.fv (.bool false)] h92) (loopS n (fun q96 l97 h98=>S21_133 l97 h98 ih q96) [x3,x7,.fv (.int .i64 0)] h92)
def S21_135 (h67:Hp) (x50 x7 x66:IV) (n:Nat) (x3:IV) (ih:Handler):OH :=
 guardS x50 false h67 (fun k70=>faddrS 2 x7 fun x71=>k70 x71 h67 [] []) fun x72 h73 _ _=>guardS x50 false h73 (fun k76=>load1 x72 h73 fun x77 r78=>k76 x77 h73 r78 []) fun x79 h80 _ _=>guardS x50 false h80 (fun k83=>lenS x79 fun x84=>k83 x84 h80 [] []) fun x85 h86 _ _=>guardS x50 false h86 (fun k89=>neS EE 3 x66 x85 fun x90=>k89 x90 h86 [] []) fun x91 h92 _ _=>pickS x50 (.fv (.bool true)) x91 fun x95=>S21_134 x95 h92 n x3 x7 ih
def S21_136 (h41:Hp) (x17 x27 x40 x3 x7:IV) (n:Nat) (ih:Handler):OH :=
 guardS x17 false h41 (fun k44=>neS EE 3 x27 x40 fun x45=>k44 x45 h41 [] []) fun x46 h47 _ _=>pickS x17 (.fv (.bool true)) x46 fun x50=>guardS x50 false h47 (fun k51=>faddrS 2 x3 fun x52=>k51 x52 h47 [] []) fun x53 h54 _ _=>guardS x50 false h54 (fun k57=>load1 x53 h54 fun x58 r59=>k57 x58 h54 r59 []) fun x60 h61 _ _=>guardS x50 false h61 (fun k64=>lenS x60 fun x65=>k64 x65 h61 [] []) fun x66 h67 _ _=>S21_135 h67 x50 x7 x66 n x3 ih
def S21_137 (x12 x15:IV) (h8:Hp) (x3 x7:IV) (n:Nat) (ih:Handler):OH :=
 neS EE 3 x12 x15 fun x17=>guardS x17 false h8 (fun k18=>faddrS 1 x3 fun x19=>k18 x19 h8 [] []) fun x20 h21 _ _=>guardS x17 false h21 (fun k24=>load1 x20 h21 fun x25 r26=>k24 x25 h21 r26 []) fun x27 h28 _ _=>guardS x17 false h28 (fun k31=>faddrS 1 x7 fun x32=>k31 x32 h28 [] []) fun x33 h34 _ _=>guardS x17 false h34 (fun k37=>load1 x33 h34 fun x38 r39=>k37 x38 h34 r39 []) fun x40 h41 _ _=>S21_136 h41 x17 x27 x40 x3 x7 n ih
def S21 (ih:Handler) (n:Nat) (x0 x1:IV) (h2:Hp):OH :=
 boxS 22020096 x0 h2 fun x3 h4 _ _=>boxS 22020097 x1 h4 fun x7 h8 _ _=>faddrS 0 x3 fun x11=>load1 x11 h8 fun x12 _=>faddrS 0 x7 fun x14=>load1 x14 h8 fun x15 _=>S21_137 x12 x15 h8 x3 x7 n ih
theorem S21_ok (ih:Handler) (n:Nat) (x0 x1:IV) (h2:Hp):funS EE ih ft.get n 21 [x0,x1] h2=S21 ih n x0 x1 h2:=by kernel_rfl
def S22_21 (x17:IV) (h14:Hp):OH :=
 faddrS 1 x17 fun x18=>load1 x18 h14 fun x19 _=>outS1 [x19] h14
def S22 (ih:Handler) (n:Nat) (x0:IV) (h1:Hp):OH :=
 boxS 23068672 x0 h1 fun x2 h3 _ _=>bldS [.fv (.int .i64 0),.fv (.int .i64 0)] [] fun x6=>boxS 23069697 x6 h3 fun x7 h8 _ _=>loadA 3 x2 h8 fun x11 _=>isoS [true,false,false] false false ih 54 [x7,x11,.fv (.int .i64 1)] h8 fun _ h14 _ _=>nilS x7 fun x17=>S22_21 x17 h14
theorem S22_ok (ih:Handler) (n:Nat) (x0:IV) (h1:Hp):funS EE ih ft.get n 22 [x0] h1=S22 ih n x0 h1:=by kernel_rfl
def S24_80 (x7:IV) (h1 h24:Hp) (x5 x23:IV) (q2:List IV→Hp→OH):OH :=
 addS EE 3 x7 (.fv (.int .i64 1)) fun x25=>dropS (h1.own.map (·.1)) [25171978] [x5,x23,x25] h24 fun h26=>q2 [x5,x23,x25] h26
def S24_81 (ih:Handler) (h53:Hp) (x6 x59:IV) (j1_56:IV→Hp→OH):OH :=
 isoS [] false false ih 29 [x6,.fv (.int .i64 0),x59] h53 fun x61 h62 _ _=>j1_56 x61 h62
def S24_82 (r54 w55:LRf) (j1_22:IV→Hp→OH) (x48:IV) (h53:Hp) (x49:IV) (ih:Handler) (x6:IV):OH :=
 chkS [] r54 w55 ((fun (j1_56:IV→Hp→OH)=>condS x48 (loadA 3 x49 h53 fun x59 _=>S24_81 ih h53 x6 x59 j1_56) (j1_56 x6 h53)) fun x57 h58=>j1_22 x57 h58)
def S24_83 (x43:IV) (h44:Hp) (r45 w46 r42 r38 w39:LRf) (j1_22:IV→Hp→OH) (ih:Handler) (x6:IV):OH :=
 extS 0 x43 fun x47=>extS 1 x43 fun x48=>newS 25171978 (.row [.fv (.int .i64 0),.fv (.int .i64 0),.nils] false) (.ptr (.own 25171978) 0) h44 fun x49 h50 r51 w52=>chkS [(r45,w46),(r42,[]),(r38,w39)] r51 w52 (storeA 3 x49 x47 h50 fun h53 r54 w55=>S24_82 r54 w55 j1_22 x48 h53 x49 ih x6)
def S24_84 (x5 x7:IV) (h37:Hp) (r38 w39:LRf) (ih:Handler) (x6 x36:IV) (j1_22:IV→Hp→OH):OH :=
 ixS 3 x5 x7 fun x40=>loadA 3 x40 h37 fun x41 r42=>chkS [(r38,w39)] r42 [] (isoS [] false false ih 26 [x6,x36,x41,.fv (.int .i64 2)] h37 fun x43 h44 r45 w46=>chkS [] r45 w46 (S24_83 x43 h44 r45 w46 r42 r38 w39 j1_22 ih x6))
def S24_85 (ih:Handler) (h32:Hp) (x6 x66:IV) (j1_22:IV→Hp→OH):OH :=
 isoS [] false false ih 25 [x6,x66,.fv (.int .i64 2)] h32 fun x68 h69 _ _=>isoS [] false false ih 29 [x6,.fv (.int .i64 1),x68] h69 fun x72 h73 _ _=>j1_22 x72 h73
def S24_86 (x35:IV) (ih:Handler) (h32:Hp) (x5 x7 x6:IV) (j1_22:IV→Hp→OH):OH :=
 condS x35 (isoS [] false false ih 27 [.fv (.int .i64 14),.nils] h32 fun x36 h37 r38 w39=>chkS [] r38 w39 (S24_84 x5 x7 h37 r38 w39 ih x6 x36 j1_22)) (ixS 3 x5 x7 fun x65=>loadA 3 x65 h32 fun x66 _=>S24_85 ih h32 x6 x66 j1_22)
def S24_87 (x5 x7:IV) (h18:Hp) (ih:Handler) (x6:IV) (j1_22:IV→Hp→OH):OH :=
 ixS 3 x5 x7 fun x27=>faddrS 1 x27 fun x28=>load1 x28 h18 fun x29 _=>isoS [] false false ih 55 [x29,.fv (.int .i64 3)] h18 fun x31 h32 _ _=>eqS EE 3 x31 (.fv (.int .i64 0)) fun x35=>S24_86 x35 ih h32 x5 x7 x6 j1_22
def S24_88 (h4:Hp) (x9 x7:IV) (h1:Hp) (x5:IV) (q2:List IV→Hp→OH) (ih:Handler) (x6:IV):OH :=
 guardS x9 true h4 (fun k10=>k10 x7 h4 [] []) fun x11 h12 _ _=>guardS x9 true h12 (fun k15=>ltS EE 3 x11 (.fv (.int .i64 4)) fun x16=>k15 x16 h12 [] []) fun x17 h18 _ _=>pickS x9 x17 (.fv (.bool false)) fun x21=>condS x21 ((fun (j1_22:IV→Hp→OH)=>S24_87 x5 x7 h18 ih x6 j1_22) fun x23 h24=>S24_80 x7 h1 h24 x5 x23 q2) (outS1 [x6] h18)
def S24_89 (l3:List IV) (h4 h1:Hp) (q2:List IV→Hp→OH) (ih:Handler):OH :=
 uncS l3 fun x5 l76=>uncS l76 fun x6 l77=>uncS l77 fun x7 _=>lenS x5 fun x8=>ltS EE 3 x7 x8 fun x9=>S24_88 h4 x9 x7 h1 x5 q2 ih x6
def S24 (ih:Handler) (n:Nat) (x0:IV) (h1:Hp):OH :=
 dropS (h1.own.map (·.1)) [25171978] [x0,.nils,.fv (.int .i64 0)] h1 fun h79=>loopS n (fun q2 l3 h4=>S24_89 l3 h4 h1 q2 ih) [x0,.nils,.fv (.int .i64 0)] h79
theorem S24_ok (ih:Handler) (n:Nat) (x0:IV) (h1:Hp):funS EE ih ft.get n 24 [x0] h1=S24 ih n x0 h1:=by kernel_rfl
def S25_237 (h29:Hp) (x8:IV):OH :=
 cellS true 3 x8 h29 fun x32=>outS1 [x32] h29
def S25_238 (ih:Handler) (h24:Hp) (x8:IV):OH :=
 isoS [] false false ih 27 [.fv (.int .i64 14),.nils] h24 fun x34 h35 _ _=>storeA 3 x8 x34 h35 fun h38 _ _=>cellS true 3 x8 h38 fun x41=>outS1 [x41] h38
def S25_239 (h46:Hp) (x45:IV) (ih:Handler) (x8:IV):OH :=
 genS (pcBuildSlice EE 29 1 [(0,x45)]) 26225666 h46 fun x49 h50 _ _=>isoS [] false false ih 27 [.fv (.int .i64 18),x49] h50 fun x53 h54 _ _=>storeA 3 x8 x53 h54 fun h57 _ _=>cellS true 3 x8 h57 fun x60=>outS1 [x60] h57
def S25_240 (ih:Handler) (h24:Hp) (x8:IV):OH :=
 isoS [] false false ih 57 [.fv (.int .i64 0)] h24 fun x62 h63 _ _=>storeA 3 x8 x62 h63 fun h66 _ _=>cellS true 3 x8 h66 fun x69=>outS1 [x69] h66
def S25_241 (r116 w117:LRf) (h115:Hp) (x8 x114:IV):OH :=
 chkS [] r116 w117 (storeA 3 x8 x114 h115 fun h118 r119 w120=>chkS [] r119 w120 (cellS true 3 x8 h118 fun x121=>outS1 [x121] h118))
def S25_242 (ih:Handler) (h102:Hp) (x95 x101 x105:IV) (r92:LRf) (x91 x8:IV):OH :=
 isoS [] false false ih 25 [x95,x101,x105] h102 fun x106 h107 r108 w109=>chkS [(r92,[])] r108 w109 (genS (pcBuildSlice EE 29 2 [(0,x91),(1,x106)]) 26231817 h107 fun x110 h111 r112 w113=>chkS [] r112 w113 (isoS [] false false ih 27 [.fv (.int .i64 3),x110] h111 fun x114 h115 r116 w117=>S25_241 r116 w117 h115 x8 x114))
def S25_243 (h96:Hp) (x4:IV) (r97 w98 r94 r92:LRf) (ih:Handler) (x2 x95 x91 x8:IV):OH :=
 loadA 3 x4 h96 fun x99 r100=>chkS [(r97,w98),(r94,[]),(r92,[])] r100 [] (isoS [] false false ih 58 [x99,.fv (.int .i64 1)] h96 fun x101 h102 r103 w104=>chkS [(r92,[])] r103 w104 (subS EE 3 x2 (.fv (.int .i64 1)) fun x105=>S25_242 ih h102 x95 x101 x105 r92 x91 x8))
def S25_244 (r92:LRf) (h88:Hp) (x84:IV) (ih:Handler) (x0 x4 x2 x91 x8:IV):OH :=
 chkS [] r92 [] (loadA 3 x84 h88 fun x93 r94=>chkS [(r92,[])] r94 [] (isoS [] false false ih 29 [x0,.fv (.int .i64 1),x93] h88 fun x95 h96 r97 w98=>chkS [(r92,[])] r97 w98 (S25_243 h96 x4 r97 w98 r94 r92 ih x2 x95 x91 x8)))
def S25_245 (x2:IV) (ih:Handler) (h76:Hp) (x0 x75 x4 x8:IV):OH :=
 subS EE 3 x2 (.fv (.int .i64 1)) fun x79=>isoS [] false false ih 25 [x0,x75,x79] h76 fun x80 h81 _ _=>newS 26230790 (.row [.fv (.int .i64 0),.fv (.int .i64 0),.nils] false) (.ptr (.own 26230790) 0) h81 fun x84 h85 _ _=>storeA 3 x84 x80 h85 fun h88 _ _=>loadA 3 x84 h88 fun x91 r92=>S25_244 r92 h88 x84 ih x0 x4 x2 x91 x8
def S25_246 (h168:Hp) (x8:IV):OH :=
 cellS true 3 x8 h168 fun x171=>outS1 [x171] h168
def S25_247 (r162 w163:LRf) (ih:Handler) (h161:Hp) (x160 x8:IV):OH :=
 chkS [] r162 w163 (isoS [] false false ih 27 [.fv (.int .i64 6),x160] h161 fun x164 h165 r166 w167=>chkS [] r166 w167 (storeA 3 x8 x164 h165 fun h168 r169 w170=>chkS [] r169 w170 (S25_246 h168 x8)))
def S25_248 (r153 w154 r142:LRf) (x2:IV) (ih:Handler) (h152:Hp) (x145 x151 x141 x8:IV):OH :=
 chkS [(r142,[])] r153 w154 (subS EE 3 x2 (.fv (.int .i64 1)) fun x155=>isoS [] false false ih 25 [x145,x151,x155] h152 fun x156 h157 r158 w159=>chkS [(r142,[])] r158 w159 (genS (pcBuildSlice EE 29 2 [(0,x141),(1,x156)]) 26234889 h157 fun x160 h161 r162 w163=>S25_247 r162 w163 ih h161 x160 x8))
def S25_249 (ih:Handler) (h138:Hp) (x0 x143:IV) (r142:LRf) (x4:IV) (r144:LRf) (x2 x141 x8:IV):OH :=
 isoS [] false false ih 29 [x0,.fv (.int .i64 1),x143] h138 fun x145 h146 r147 w148=>chkS [(r142,[])] r147 w148 (loadA 3 x4 h146 fun x149 r150=>chkS [(r147,w148),(r144,[]),(r142,[])] r150 [] (isoS [] false false ih 58 [x149,.fv (.int .i64 1)] h146 fun x151 h152 r153 w154=>S25_248 r153 w154 r142 x2 ih h152 x145 x151 x141 x8))
def S25_250 (h135:Hp) (x134 x130:IV) (ih:Handler) (x0 x4 x2 x8:IV):OH :=
 storeA 3 x134 x130 h135 fun h138 _ _=>loadA 3 x134 h138 fun x141 r142=>chkS [] r142 [] (loadA 3 x134 h138 fun x143 r144=>chkS [(r142,[])] r144 [] (S25_249 ih h138 x0 x143 r142 x4 r144 x2 x141 x8))
def S25_251 (h72:Hp) (x4:IV) (ih:Handler) (x2 x0 x8:IV):OH :=
 loadA 3 x4 h72 fun x123 _=>isoS [] false false ih 58 [x123,.fv (.int .i64 0)] h72 fun x125 h126 _ _=>subS EE 3 x2 (.fv (.int .i64 1)) fun x129=>isoS [] false false ih 25 [x0,x125,x129] h126 fun x130 h131 _ _=>newS 26233862 (.row [.fv (.int .i64 0),.fv (.int .i64 0),.nils] false) (.ptr (.own 26233862) 0) h131 fun x134 h135 _ _=>S25_250 h135 x134 x130 ih x0 x4 x2 x8
def S25_252 (h201:Hp) (x8:IV):OH :=
 cellS true 3 x8 h201 fun x204=>outS1 [x204] h201
def S25_253 (ih:Handler) (h208:Hp) (x207 x8:IV):OH :=
 isoS [] false false ih 27 [.fv (.int .i64 18),x207] h208 fun x211 h212 _ _=>storeA 3 x8 x211 h212 fun h215 _ _=>cellS true 3 x8 h215 fun x218=>outS1 [x218] h215
def S25_254 (x188:IV) (ih:Handler) (h193:Hp) (x8 x189:IV):OH :=
 optS (unR .not x188) fun x196=>condS x196 (isoS [] false false ih 56 [] h193 fun x197 h198 _ _=>storeA 3 x8 x197 h198 fun h201 _ _=>S25_252 h201 x8) (loadA 3 x189 h193 fun x205 _=>genS (pcBuildSlice EE 29 1 [(0,x205)]) 26238977 h193 fun x207 h208 _ _=>S25_253 ih h208 x207 x8)
def S25_255 (x183:IV) (h184:Hp) (r185 w186 r180 w181 r177 r174 w175:LRf) (x187:IV) (ih:Handler) (x8:IV):OH :=
 extS 1 x183 fun x188=>newS 26235914 (.row [.fv (.int .i64 0),.fv (.int .i64 0),.nils] false) (.ptr (.own 26235914) 0) h184 fun x189 h190 r191 w192=>chkS [(r185,w186),(r180,w181),(r177,[]),(r174,w175)] r191 w192 (storeA 3 x189 x187 h190 fun h193 r194 w195=>chkS [] r194 w195 (S25_254 x188 ih h193 x8 x189))
def S25_256 (r180 w181:LRf) (x2:IV) (ih:Handler) (h179:Hp) (x0 x172 x178:IV) (r177 r174 w175:LRf) (x8:IV):OH :=
 chkS [] r180 w181 (subS EE 3 x2 (.fv (.int .i64 1)) fun x182=>isoS [] false false ih 26 [x0,x172,x178,x182] h179 fun x183 h184 r185 w186=>chkS [] r185 w186 (extS 0 x183 fun x187=>S25_255 x183 h184 r185 w186 r180 w181 r177 r174 w175 x187 ih x8))
def S25_257 (ih:Handler) (h72:Hp) (x4 x2 x0 x8:IV):OH :=
 isoS [] false false ih 27 [.fv (.int .i64 14),.nils] h72 fun x172 h173 r174 w175=>chkS [] r174 w175 (loadA 3 x4 h173 fun x176 r177=>chkS [(r174,w175)] r177 [] (isoS [] false false ih 58 [x176,.fv (.int .i64 0)] h173 fun x178 h179 r180 w181=>S25_256 r180 w181 x2 ih h179 x0 x172 x178 r177 r174 w175 x8))
def S25_258 (x71:IV) (h72:Hp) (x4:IV) (ih:Handler) (x2 x0 x8 x20:IV):OH :=
 condS x71 (loadA 3 x4 h72 fun x73 _=>isoS [] false false ih 58 [x73,.fv (.int .i64 0)] h72 fun x75 h76 _ _=>S25_245 x2 ih h76 x0 x75 x4 x8) (eqS EE 3 x20 (.fv (.int .i64 7)) fun x122=>condS x122 (S25_251 h72 x4 ih x2 x0 x8) (S25_257 ih h72 x4 x2 x0 x8))
def S25_259 (x4:IV) (ih:Handler) (x2 x0 x8 x20:IV) (h24:Hp):OH :=
 (fun (j1_70:IV→Hp→OH)=>eqS EE 3 x20 (.fv (.int .i64 5)) fun x219=>condS x219 (j1_70 x219 h24) (eqS EE 3 x20 (.fv (.int .i64 6)) fun x220=>j1_70 x220 h24)) fun x71 h72=>S25_258 x71 h72 x4 ih x2 x0 x8 x20
def S25_260 (x20:IV) (h24:Hp) (x4:IV) (ih:Handler) (x8 x2 x0:IV):OH :=
 eqS EE 3 x20 (.fv (.int .i64 3)) fun x42=>condS x42 (loadA 3 x4 h24 fun x43 _=>isoS [] false false ih 33 [x43,.fv (.int .i64 1)] h24 fun x45 h46 _ _=>S25_239 h46 x45 ih x8) (eqS EE 3 x20 (.fv (.int .i64 4)) fun x61=>condS x61 (S25_240 ih h24 x8) (S25_259 x4 ih x2 x0 x8 x20 h24))
def S25_261 (x23:IV) (ih:Handler) (h24:Hp) (x8 x20 x4 x2 x0:IV):OH :=
 condS x23 (isoS [] false false ih 56 [] h24 fun x25 h26 _ _=>storeA 3 x8 x25 h26 fun h29 _ _=>S25_237 h29 x8) (eqS EE 3 x20 (.fv (.int .i64 2)) fun x33=>condS x33 (S25_238 ih h24 x8) (S25_260 x20 h24 x4 ih x8 x2 x0))
def S25_262 (ih:Handler) (x8 x20 x4 x2 x0:IV) (h21:Hp):OH :=
 (fun (j1_22:IV→Hp→OH)=>eqS EE 3 x20 (.fv (.int .i64 0)) fun x221=>condS x221 (j1_22 x221 h21) (eqS EE 3 x20 (.fv (.int .i64 1)) fun x222=>j1_22 x222 h21)) fun x23 h24=>S25_261 x23 ih h24 x8 x20 x4 x2 x0
def S25_263 (x15:IV) (j1_19:IV→Hp→OH) (h232:Hp):OH :=
 binS EE 3 .rem x15 (.fv (.int .i64 5)) fun x236=>j1_19 x236 h232
def S25_264 (x2:IV) (h16:Hp) (x15:IV) (j1_19:IV→Hp→OH):OH :=
 leS EE 3 x2 (.fv (.int .i64 0)) fun x223=>guardS x223 true h16 (fun k224=>k224 x15 h16 [] []) fun x225 h226 _ _=>guardS x223 true h226 (fun k229=>gtS EE 3 x225 (.fv (.int .i64 4)) fun x230=>k229 x230 h226 [] []) fun x231 h232 _ _=>pickS x223 x231 (.fv (.bool false)) fun x235=>condS x235 (S25_263 x15 j1_19 h232) (j1_19 x15 h232)
def S25 (ih:Handler) (n:Nat) (x0 x1 x2:IV) (h3:Hp):OH :=
 boxS 26214400 x1 h3 fun x4 h5 _ _=>newS 26214401 (.row [.fv (.int .i64 0),.fv (.int .i64 0),.nils] false) (.ptr (.own 26214401) 0) h5 fun x8 h9 _ _=>faddrS 0 x4 fun x12=>load1 x12 h9 fun x13 _=>isoS [] false false ih 55 [x13,.fv (.int .i64 9)] h9 fun x15 h16 _ _=>(fun (j1_19:IV→Hp→OH)=>S25_264 x2 h16 x15 j1_19) fun x20 h21=>S25_262 ih x8 x20 x4 x2 x0 h21
theorem S25_ok (ih:Handler) (n:Nat) (x0 x1 x2:IV) (h3:Hp):funS EE ih ft.get n 25 [x0,x1,x2] h3=S25 ih n x0 x1 x2 h3:=by kernel_rfl
def S26_346 (h25:Hp) (x13 x29:IV):OH :=
 storeA 3 x13 x29 h25 fun h30 _ _=>cellS true 3 x13 h30 fun x33=>outS1 [x33,.fv (.bool false)] h30
def S26_347 (h91:Hp) (x13 x44:IV):OH :=
 cellS true 3 x13 h91 fun x94=>outS1 [x94,x44] h91
def S26_348 (h126:Hp) (x13 x129 x130:IV):OH :=
 storeA 3 x13 x129 h126 fun h131 _ _=>cellS true 3 x13 h131 fun x134=>outS1 [x134,x130] h131
def S26_349 (h117:Hp) (x5 x9:IV) (ih:Handler) (x0 x3 x13:IV):OH :=
 loadA 3 x5 h117 fun x121 _=>loadA 3 x9 h117 fun x123 _=>isoS [] false false ih 60 [x0,x121,x123,x3] h117 fun x125 h126 _ _=>extS 0 x125 fun x129=>extS 1 x125 fun x130=>S26_348 h126 x13 x129 x130
def S26_350 (ih:Handler) (h140:Hp) (x0 x141 x143 x3 x13:IV):OH :=
 isoS [] false false ih 61 [x0,x141,x143,x3] h140 fun x145 h146 _ _=>extS 0 x145 fun x149=>extS 1 x145 fun x150=>storeA 3 x13 x149 h146 fun h151 _ _=>cellS true 3 x13 h151 fun x154=>outS1 [x154,x150] h151
def S26_351 (r209 w210:LRf) (h208:Hp) (x13 x184:IV):OH :=
 chkS [] r209 w210 (cellS true 3 x13 h208 fun x211=>outS1 [x211,x184] h208)
def S26_352 (h189:Hp) (x196 x198:IV) (ih:Handler) (x13 x184:IV):OH :=
 genS (pcBuildSlice EE 29 2 [(0,x196),(1,x198)]) 27279365 h189 fun x200 h201 r202 w203=>chkS [] r202 w203 (isoS [] false false ih 27 [.fv (.int .i64 4),x200] h201 fun x204 h205 r206 w207=>chkS [] r206 w207 (storeA 3 x13 x204 h205 fun h208 r209 w210=>S26_351 r209 w210 h208 x13 x184))
def S26_353 (x193:IV) (h189:Hp) (x185:IV) (r194:LRf) (ih:Handler) (x13 x184:IV):OH :=
 ixS 3 x193 (.fv (.int .i64 0)) fun x195=>loadA 3 x195 h189 fun x196 r197=>chkS [] r197 [] (loadA 3 x185 h189 fun x198 r199=>chkS [(r197,[]),(r194,[])] r199 [] (S26_352 h189 x196 x198 ih x13 x184))
def S26_354 (h186:Hp) (x185 x183 x5:IV) (ih:Handler) (x13 x184:IV):OH :=
 storeA 3 x185 x183 h186 fun h189 r190 w191=>chkS [] r190 w191 (faddrS 2 x5 fun x192=>load1 x192 h189 fun x193 r194=>chkS [] r194 [] (S26_353 x193 h189 x185 r194 ih x13 x184))
def S26_355 (r181 w182:LRf) (x179:IV) (h180:Hp) (r176 w177 r173 r171 r168 r164 w165 r161 r158:LRf) (x5:IV) (ih:Handler) (x13:IV):OH :=
 chkS [] r181 w182 (extS 0 x179 fun x183=>extS 1 x179 fun x184=>newS 27278354 (.row [.fv (.int .i64 0),.fv (.int .i64 0),.nils] false) (.ptr (.own 27278354) 0) h180 fun x185 h186 r187 w188=>chkS [(r181,w182),(r176,w177),(r173,[]),(r171,[]),(r168,[]),(r164,w165),(r161,[]),(r158,[])] r187 w188 (S26_354 h186 x185 x183 x5 ih x13 x184))
def S26_356 (r173 r171 r168 r164 w165 r161 r158:LRf) (ih:Handler) (h163:Hp) (x172 x3 x162 x170 x5 x13:IV):OH :=
 chkS [(r171,[]),(r168,[]),(r164,w165),(r161,[]),(r158,[])] r173 [] (isoS [] false false ih 58 [x172,.fv (.int .i64 0)] h163 fun x174 h175 r176 w177=>chkS [(r171,[]),(r168,[])] r176 w177 (subS EE 3 x3 (.fv (.int .i64 1)) fun x178=>isoS [] false false ih 26 [x162,x170,x174,x178] h175 fun x179 h180 r181 w182=>S26_355 r181 w182 x179 h180 r176 w177 r173 r171 r168 r164 w165 r161 r158 x5 ih x13))
def S26_357 (r168 r164 w165 r161 r158:LRf) (x167:IV) (h163:Hp) (x9:IV) (ih:Handler) (x3 x162 x5 x13:IV):OH :=
 chkS [(r164,w165),(r161,[]),(r158,[])] r168 [] (ixS 3 x167 (.fv (.int .i64 1)) fun x169=>loadA 3 x169 h163 fun x170 r171=>chkS [(r164,w165),(r161,[]),(r158,[])] r171 [] (loadA 3 x9 h163 fun x172 r173=>S26_356 r173 r171 r168 r164 w165 r161 r158 ih h163 x172 x3 x162 x170 x5 x13))
def S26_358 (r161:LRf) (ih:Handler) (h140:Hp) (x0 x160 x5:IV) (r158:LRf) (x9 x3 x13:IV):OH :=
 chkS [] r161 [] (isoS [] false false ih 29 [x0,.fv (.int .i64 1),x160] h140 fun x162 h163 r164 w165=>chkS [] r164 w165 (faddrS 2 x5 fun x166=>load1 x166 h163 fun x167 r168=>S26_357 r168 r164 w165 r161 r158 x167 h163 x9 ih x3 x162 x5 x13))
def S26_359 (x5:IV) (h140:Hp) (ih:Handler) (x0 x9 x3 x13:IV):OH :=
 faddrS 2 x5 fun x156=>load1 x156 h140 fun x157 r158=>chkS [] r158 [] (ixS 3 x157 (.fv (.int .i64 0)) fun x159=>loadA 3 x159 h140 fun x160 r161=>S26_358 r161 ih h140 x0 x160 x5 r158 x9 x3 x13)
def S26_360 (h236:Hp) (x13 x240 x44:IV):OH :=
 storeA 3 x13 x240 h236 fun h242 _ _=>cellS true 3 x13 h242 fun x245=>outS1 [x245,x44] h242
def S26_361 (h275:Hp) (x278 x280 x282:IV) (ih:Handler) (x13 x270:IV):OH :=
 genS (pcBuildSlice EE 29 3 [(0,x278),(1,x280),(2,x282)]) 27285507 h275 fun x284 h285 _ _=>isoS [] false false ih 27 [.fv (.int .i64 7),x284] h285 fun x288 h289 _ _=>storeA 3 x13 x288 h289 fun h292 _ _=>cellS true 3 x13 h292 fun x295=>outS1 [x295,x270] h292
def S26_362 (h272:Hp) (x271 x269 x5 x232:IV) (ih:Handler) (x13 x270:IV):OH :=
 storeA 3 x271 x269 h272 fun h275 r276 w277=>chkS [] r276 w277 (loadA 3 x5 h275 fun x278 _=>loadA 3 x232 h275 fun x280 _=>loadA 3 x271 h275 fun x282 _=>S26_361 h275 x278 x280 x282 ih x13 x270)
def S26_363 (r267 w268:LRf) (x265:IV) (h266:Hp) (r262 w263 r259 r256 w257 r253 r251 r248:LRf) (x5 x232:IV) (ih:Handler) (x13:IV):OH :=
 chkS [] r267 w268 (extS 0 x265 fun x269=>extS 1 x265 fun x270=>newS 27284495 (.row [.fv (.int .i64 0),.fv (.int .i64 0),.nils] false) (.ptr (.own 27284495) 0) h266 fun x271 h272 r273 w274=>chkS [(r267,w268),(r262,w263),(r259,[]),(r256,w257),(r253,[]),(r251,[]),(r248,[])] r273 w274 (S26_362 h272 x271 x269 x5 x232 ih x13 x270))
def S26_364 (r259 r256 w257 r253 r251 r248:LRf) (ih:Handler) (h255:Hp) (x258 x3 x0 x254 x5 x232 x13:IV):OH :=
 chkS [(r256,w257),(r253,[]),(r251,[]),(r248,[])] r259 [] (isoS [] false false ih 58 [x258,.fv (.int .i64 1)] h255 fun x260 h261 r262 w263=>chkS [] r262 w263 (subS EE 3 x3 (.fv (.int .i64 1)) fun x264=>isoS [] false false ih 26 [x0,x254,x260,x264] h261 fun x265 h266 r267 w268=>S26_363 r267 w268 x265 h266 r262 w263 r259 r256 w257 r253 r251 r248 x5 x232 ih x13))
def S26_365 (h236:Hp) (x232:IV) (r251 r248:LRf) (ih:Handler) (x250 x9 x3 x0 x5 x13:IV):OH :=
 loadA 3 x232 h236 fun x252 r253=>chkS [(r251,[]),(r248,[])] r253 [] (isoS [] false false ih 30 [x250,.fv (.int .i64 0),x252] h236 fun x254 h255 r256 w257=>chkS [] r256 w257 (loadA 3 x9 h255 fun x258 r259=>S26_364 r259 r256 w257 r253 r251 r248 ih h255 x258 x3 x0 x254 x5 x232 x13))
def S26_366 (h236:Hp) (x246 x232:IV) (ih:Handler) (x9 x3 x0 x5 x13:IV):OH :=
 load1 x246 h236 fun x247 r248=>chkS [] r248 [] (ixS 3 x247 (.fv (.int .i64 1)) fun x249=>loadA 3 x249 h236 fun x250 r251=>chkS [] r251 [] (S26_365 h236 x232 r251 r248 ih x250 x9 x3 x0 x5 x13))
def S26_367 (h233:Hp) (x232 x230 x231 x45 x13 x44 x5:IV) (ih:Handler) (x9 x3 x0:IV):OH :=
 storeA 3 x232 x230 h233 fun h236 r237 w238=>chkS [] r237 w238 (optS (unR .not x231) fun x239=>condS x239 (loadA 3 x45 h236 fun x240 _=>S26_360 h236 x13 x240 x44) (faddrS 2 x5 fun x246=>S26_366 h236 x246 x232 ih x9 x3 x0 x5 x13))
def S26_368 (r228 w229:LRf) (x226:IV) (h227:Hp) (r223 w224 r220 r218 r215:LRf) (x45 x13 x44 x5:IV) (ih:Handler) (x9 x3 x0:IV):OH :=
 chkS [] r228 w229 (extS 0 x226 fun x230=>extS 1 x226 fun x231=>newS 27281421 (.row [.fv (.int .i64 0),.fv (.int .i64 0),.nils] false) (.ptr (.own 27281421) 0) h227 fun x232 h233 r234 w235=>chkS [(r228,w229),(r223,w224),(r220,[]),(r218,[]),(r215,[])] r234 w235 (S26_367 h233 x232 x230 x231 x45 x13 x44 x5 ih x9 x3 x0))
def S26_369 (r220 r218 r215:LRf) (ih:Handler) (h140:Hp) (x219 x3 x0 x217 x45 x13 x44 x5 x9:IV):OH :=
 chkS [(r218,[]),(r215,[])] r220 [] (isoS [] false false ih 58 [x219,.fv (.int .i64 0)] h140 fun x221 h222 r223 w224=>chkS [(r218,[]),(r215,[])] r223 w224 (subS EE 3 x3 (.fv (.int .i64 1)) fun x225=>isoS [] false false ih 26 [x0,x217,x221,x225] h222 fun x226 h227 r228 w229=>S26_368 r228 w229 x226 h227 r223 w224 r220 r218 r215 x45 x13 x44 x5 ih x9 x3 x0))
def S26_370 (r215:LRf) (x214:IV) (h140:Hp) (x9:IV) (ih:Handler) (x3 x0 x45 x13 x44 x5:IV):OH :=
 chkS [] r215 [] (ixS 3 x214 (.fv (.int .i64 0)) fun x216=>loadA 3 x216 h140 fun x217 r218=>chkS [] r218 [] (loadA 3 x9 h140 fun x219 r220=>S26_369 r220 r218 r215 ih h140 x219 x3 x0 x217 x45 x13 x44 x5 x9))
def S26_371 (h320:Hp) (x323:IV) (ih:Handler) (x13 x315:IV):OH :=
 genS (pcBuildSlice EE 29 1 [(0,x323)]) 27288577 h320 fun x325 h326 _ _=>isoS [] false false ih 27 [.fv (.int .i64 19),x325] h326 fun x329 h330 _ _=>storeA 3 x13 x329 h330 fun h333 _ _=>cellS true 3 x13 h333 fun x336=>outS1 [x336,x315] h333
def S26_372 (h311:Hp) (r312 w313 r307 w308 r304 r302 r299:LRf) (x314:IV) (ih:Handler) (x13 x315:IV):OH :=
 newS 27287565 (.row [.fv (.int .i64 0),.fv (.int .i64 0),.nils] false) (.ptr (.own 27287565) 0) h311 fun x316 h317 r318 w319=>chkS [(r312,w313),(r307,w308),(r304,[]),(r302,[]),(r299,[])] r318 w319 (storeA 3 x316 x314 h317 fun h320 r321 w322=>chkS [] r321 w322 (loadA 3 x316 h320 fun x323 _=>S26_371 h320 x323 ih x13 x315))
def S26_373 (x3:IV) (ih:Handler) (h306:Hp) (x0 x301 x305:IV) (r307 w308 r304 r302 r299:LRf) (x13:IV):OH :=
 subS EE 3 x3 (.fv (.int .i64 1)) fun x309=>isoS [] false false ih 32 [x0,x301,x305,x309] h306 fun x310 h311 r312 w313=>chkS [] r312 w313 (extS 0 x310 fun x314=>extS 1 x310 fun x315=>S26_372 h311 r312 w313 r307 w308 r304 r302 r299 x314 ih x13 x315)
def S26_374 (r302:LRf) (h140:Hp) (x9:IV) (r299:LRf) (ih:Handler) (x3 x0 x301 x13:IV):OH :=
 chkS [] r302 [] (loadA 3 x9 h140 fun x303 r304=>chkS [(r302,[]),(r299,[])] r304 [] (isoS [] false false ih 58 [x303,.fv (.int .i64 0)] h140 fun x305 h306 r307 w308=>chkS [(r302,[]),(r299,[])] r307 w308 (S26_373 x3 ih h306 x0 x301 x305 r307 w308 r304 r302 r299 x13)))
def S26_375 (x5:IV) (h140:Hp) (x9:IV) (ih:Handler) (x3 x0 x13:IV):OH :=
 faddrS 2 x5 fun x297=>load1 x297 h140 fun x298 r299=>chkS [] r299 [] (ixS 3 x298 (.fv (.int .i64 0)) fun x300=>loadA 3 x300 h140 fun x301 r302=>S26_374 r302 h140 x9 r299 ih x3 x0 x301 x13)
def S26_376 (h140:Hp) (x45 x13 x44:IV):OH :=
 loadA 3 x45 h140 fun x337 _=>storeA 3 x13 x337 h140 fun h339 _ _=>cellS true 3 x13 h339 fun x342=>outS1 [x342,x44] h339
def S26_377 (x136 x5:IV) (h140:Hp) (x9:IV) (ih:Handler) (x3 x0 x45 x13 x44:IV):OH :=
 eqS EE 3 x136 (.fv (.int .i64 6)) fun x212=>condS x212 (faddrS 2 x5 fun x213=>load1 x213 h140 fun x214 r215=>S26_370 r215 x214 h140 x9 ih x3 x0 x45 x13 x44 x5) (eqS EE 3 x136 (.fv (.int .i64 18)) fun x296=>condS x296 (S26_375 x5 h140 x9 ih x3 x0 x13) (S26_376 h140 x45 x13 x44))
def S26_378 (x139:IV) (h140:Hp) (x5 x9:IV) (ih:Handler) (x0 x3 x13 x136 x45 x44:IV):OH :=
 condS x139 (loadA 3 x5 h140 fun x141 _=>loadA 3 x9 h140 fun x143 _=>S26_350 ih h140 x0 x141 x143 x3 x13) (eqS EE 3 x136 (.fv (.int .i64 3)) fun x155=>condS x155 (S26_359 x5 h140 ih x0 x9 x3 x13) (S26_377 x136 x5 h140 x9 ih x3 x0 x45 x13 x44))
def S26_379 (x136:IV) (j1_138:IV→Hp→OH) (h117:Hp):OH :=
 eqS EE 3 x136 (.fv (.int .i64 14)) fun x344=>condS x344 (j1_138 x344 h117) (eqS EE 3 x136 (.fv (.int .i64 2)) fun x345=>j1_138 x345 h117)
def S26_380 (x5:IV) (h117:Hp) (x9:IV) (ih:Handler) (x0 x3 x13 x45 x44:IV):OH :=
 faddrS 0 x5 fun x135=>load1 x135 h117 fun x136 _=>(fun (j1_138:IV→Hp→OH)=>eqS EE 3 x136 (.fv (.int .i64 10)) fun x343=>condS x343 (j1_138 x343 h117) (S26_379 x136 j1_138 h117)) fun x139 h140=>S26_378 x139 h140 x5 x9 ih x0 x3 x13 x136 x45 x44
def S26_381 (h99:Hp) (x95 x98:IV) (ih:Handler) (x5 x9 x0 x3 x13 x45 x44:IV):OH :=
 guardS x95 true h99 (fun k102=>load1 x98 h99 fun x103 r104=>k102 x103 h99 r104 []) fun x105 h106 _ _=>guardS x95 true h106 (fun k109=>isoS [] false false ih 55 [x105,.fv (.int .i64 7)] h106 k109) fun x110 h111 _ _=>guardS x95 true h111 (fun k114=>eqS EE 3 x110 (.fv (.int .i64 6)) fun x115=>k114 x115 h111 [] []) fun x116 h117 _ _=>pickS x95 x116 (.fv (.bool false)) fun x120=>condS x120 (S26_349 h117 x5 x9 ih x0 x3 x13) (S26_380 x5 h117 x9 ih x0 x3 x13 x45 x44)
def S26_382 (x88:IV) (h85:Hp) (x45 x13 x44 x3 x9:IV) (ih:Handler) (x5 x0:IV):OH :=
 condS x88 (loadA 3 x45 h85 fun x89 _=>storeA 3 x13 x89 h85 fun h91 _ _=>S26_347 h91 x13 x44) (gtS EE 3 x3 (.fv (.int .i64 0)) fun x95=>guardS x95 true h85 (fun k96=>faddrS 0 x9 fun x97=>k96 x97 h85 [] []) fun x98 h99 _ _=>S26_381 h99 x95 x98 ih x5 x9 x0 x3 x13 x45 x44)
def S26_383 (h67:Hp) (x44 x66 x3 x45 x13 x9:IV) (ih:Handler) (x5 x0:IV):OH :=
 guardS x44 true h67 (fun k70=>eqS EE 3 x66 (.fv (.int .i64 0)) fun x71=>k70 x71 h67 [] []) fun x72 h73 _ _=>pickS x44 x72 (.fv (.bool false)) fun x76=>guardS x76 false h73 (fun k77=>k77 x3 h73 [] []) fun x78 h79 _ _=>guardS x76 false h79 (fun k82=>ltS EE 3 x78 (.fv (.int .i64 (-4))) fun x83=>k82 x83 h79 [] []) fun x84 h85 _ _=>pickS x76 (.fv (.bool true)) x84 fun x88=>S26_382 x88 h85 x45 x13 x44 x3 x9 ih x5 x0
def S26_384 (h40:Hp) (x43 x44 x9:IV) (ih:Handler) (x3 x13 x5 x0:IV):OH :=
 newS 27267080 (.row [.fv (.int .i64 0),.fv (.int .i64 0),.nils] false) (.ptr (.own 27267080) 0) h40 fun x45 h46 _ _=>storeA 3 x45 x43 h46 fun h49 _ _=>guardS x44 true h49 (fun k52=>faddrS 0 x9 fun x53=>k52 x53 h49 [] []) fun x54 h55 _ _=>guardS x44 true h55 (fun k58=>load1 x54 h55 fun x59 r60=>k58 x59 h55 r60 []) fun x61 h62 _ _=>guardS x44 true h62 (fun k65=>isoS [] false false ih 55 [x61,.fv (.int .i64 3)] h62 k65) fun x66 h67 _ _=>S26_383 h67 x44 x66 x3 x45 x13 x9 ih x5 x0
def S26_385 (x9:IV) (h25:Hp) (ih:Handler) (x0 x34 x3 x13 x5:IV):OH :=
 faddrS 1 x9 fun x36=>load1 x36 h25 fun x37 _=>isoS [] false false ih 59 [x0,.fv (.int .i64 1),x34,x37] h25 fun x39 h40 _ _=>extS 0 x39 fun x43=>extS 1 x39 fun x44=>S26_384 h40 x43 x44 x9 ih x3 x13 x5 x0
def S26_386 (x19:IV) (h20:Hp) (x5 x23 x13 x9:IV) (ih:Handler) (x0 x3:IV):OH :=
 extS 1 x19 fun x24=>storeA 3 x5 x23 h20 fun h25 _ _=>neS EE 3 x24 (.fv (.int .i64 0)) fun x28=>condS x28 (bldS [.fv (.int .i64 0),.fv (.int .i64 0),.nils] [] fun x29=>S26_346 h25 x13 x29) (loadA 3 x5 h25 fun x34 _=>S26_385 x9 h25 ih x0 x34 x3 x13 x5)
def S26 (ih:Handler) (n:Nat) (x0 x1 x2 x3:IV) (h4:Hp):OH :=
 boxS 27262976 x1 h4 fun x5 h6 _ _=>boxS 27262977 x2 h6 fun x9 h10 _ _=>newS 27262978 (.row [.fv (.int .i64 0),.fv (.int .i64 0),.nils] false) (.ptr (.own 27262978) 0) h10 fun x13 h14 _ _=>loadA 3 x5 h14 fun x17 _=>isoS [] false false ih 18 [x17] h14 fun x19 h20 _ _=>extS 0 x19 fun x23=>S26_386 x19 h20 x5 x23 x13 x9 ih x0 x3
theorem S26_ok (ih:Handler) (n:Nat) (x0 x1 x2 x3:IV) (h4:Hp):funS EE ih ft.get n 26 [x0,x1,x2,x3] h4=S26 ih n x0 x1 x2 x3 h4:=by kernel_rfl
def S27 (ih:Handler) (n:Nat) (x0 x1:IV) (h2:Hp):OH :=
 newS 28311552 (.row [.fv (.int .i64 0),.fv (.int .i64 0),.nils] false) (.ptr (.own 28311552) 0) h2 fun x3 h4 _ _=>bldS [.fv (.int .i64 0),.fv (.int .i64 0),.nils] [(0,1,x0),(2,1,x1)] fun x7=>storeA 3 x3 x7 h4 fun h8 _ _=>cellS true 3 x3 h8 fun x11=>outS1 [x11] h8
theorem S27_ok (ih:Handler) (n:Nat) (x0 x1:IV) (h2:Hp):funS EE ih ft.get n 27 [x0,x1] h2=S27 ih n x0 x1 h2:=by kernel_rfl
def S28 (ih:Handler) (n:Nat) (x0 x1:IV) (h2:Hp):OH :=
 binS EE 3 .rem x0 x1 fun x3=>(fun (j1_4:IV→Hp→OH)=>ltS EE 3 x3 (.fv (.int .i64 0)) fun x7=>condS x7 (addS EE 3 x3 x1 fun x8=>j1_4 x8 h2) (j1_4 x3 h2)) fun x5 h6=>outS1 [x5] h6
theorem S28_ok (ih:Handler) (n:Nat) (x0 x1:IV) (h2:Hp):funS EE ih ft.get n 28 [x0,x1] h2=S28 ih n x0 x1 h2:=by kernel_rfl
def S29_27 (r25 w26:LRf) (h24:Hp) (x23:IV):OH :=
 chkS [] r25 w26 (outS1 [x23] h24)
def S29_28 (r17 r14 w15 r10 w11:LRf) (x1 x16:IV) (h13:Hp) (x12:IV):OH :=
 chkS [(r14,w15),(r10,w11)] r17 [] (bldS [.fv (.int .i64 0),.fv (.int .i64 0),.fv (.int .i64 0),.nils] [(0,1,x1),(1,3,x16)] fun x18=>genS (pcBuildSlice EE 28 1 [(0,x18)]) 30409734 h13 fun x19 h20 r21 w22=>chkS [(r14,w15),(r10,w11)] r21 w22 (genS (builtinR EE 30409735 false .append [28,28] [x12,x19]) 30409735 h20 fun x23 h24 r25 w26=>S29_27 r25 w26 h24 x23))
def S29 (ih:Handler) (n:Nat) (x0 x1 x2:IV) (h3:Hp):OH :=
 boxS 30408704 x2 h3 fun x4 h5 _ _=>genS (pcBuildSlice EE 28 0 []) 30409728 h5 fun x8 h9 r10 w11=>chkS [] r10 w11 (genS (builtinR EE 30409730 false .append [28,28] [x8,x0]) 30409730 h9 fun x12 h13 r14 w15=>chkS [] r14 w15 (loadA 3 x4 h13 fun x16 r17=>S29_28 r17 r14 w15 r10 w11 x1 x16 h13 x12))
theorem S29_ok (ih:Handler) (n:Nat) (x0 x1 x2:IV) (h3:Hp):funS EE ih ft.get n 29 [x0,x1,x2] h3=S29 ih n x0 x1 x2 h3:=by kernel_rfl
def S30_28 (h21:Hp) (x12 x20:IV):OH :=
 storeA 3 x12 x20 h21 fun h24 _ _=>cellS true 3 x12 h24 fun x27=>outS1 [x27] h24
def S30 (ih:Handler) (n:Nat) (x0 x1 x2:IV) (h3:Hp):OH :=
 boxS 31457280 x0 h3 fun x4 h5 _ _=>boxS 31457281 x2 h5 fun x8 h9 _ _=>newS 31457282 (.row [.fv (.int .i64 0),.fv (.int .i64 0),.nils] false) (.ptr (.own 31457282) 0) h9 fun x12 h13 _ _=>loadA 3 x4 h13 fun x16 _=>loadA 3 x8 h13 fun x18 _=>isoS [] false false ih 62 [x16,x1,.fv (.int .i64 0),x18] h13 fun x20 h21 _ _=>S30_28 h21 x12 x20
theorem S30_ok (ih:Handler) (n:Nat) (x0 x1 x2:IV) (h3:Hp):funS EE ih ft.get n 30 [x0,x1,x2] h3=S30 ih n x0 x1 x2 h3:=by kernel_rfl
def S31_127 (h68:Hp) (x71 x67 x36:IV) (h3:Hp) (x31 x32 x33 x34 x35:IV) (q28:List IV→Hp→OH):OH :=
 store1 x71 x67 h68 fun h72 r73 w74=>chkS [] r73 w74 (addS EE 3 x36 (.fv (.int .i64 1)) fun x75=>dropS (h3.own.map (·.1)) [32513040] [x31,x32,x33,x34,x35,x75] h72 fun h76=>q28 [x31,x32,x33,x34,x35,x75] h76)
def S31_128 (h60:Hp) (x59:IV) (r44:LRf) (x43 x35 x36:IV) (h3:Hp) (x31 x32 x33 x34:IV) (q28:List IV→Hp→OH):OH :=
 genS (pcBuildSlice EE 29 1 [(0,x59)]) 32513039 h60 fun x63 h64 r65 w66=>chkS [(r44,[])] r65 w66 (genS (builtinR EE 32513040 false .append [29,29] [x43,x63]) 32513040 h64 fun x67 h68 r69 w70=>chkS [] r69 w70 (faddrS 2 x35 fun x71=>S31_127 h68 x71 x67 x36 h3 x31 x32 x33 x34 x35 q28))
def S31_129 (ih:Handler) (h30:Hp) (x52 x36:IV) (r50 r47 r44:LRf) (x32 x49 x31 x43 x35:IV) (h3:Hp) (x33 x34:IV) (q28:List IV→Hp→OH):OH :=
 isoS [] false false ih 63 [x52,x36] h30 fun x54 h55 r56 w57=>chkS [(r50,[]),(r47,[]),(r44,[])] r56 w57 (addS EE 3 x32 x54 fun x58=>isoS [] false false ih 31 [x49,x31,x58] h55 fun x59 h60 r61 w62=>chkS [(r44,[])] r61 w62 (S31_128 h60 x59 r44 x43 x35 x36 h3 x31 x32 x33 x34 q28))
def S31_130 (h30:Hp) (x48:IV) (r44:LRf) (x33:IV) (r47:LRf) (ih:Handler) (x36 x32 x31 x43 x35:IV) (h3:Hp) (x34:IV) (q28:List IV→Hp→OH):OH :=
 loadA 3 x48 h30 fun x49 r50=>chkS [(r44,[])] r50 [] (faddrS 0 x33 fun x51=>load1 x51 h30 fun x52 r53=>chkS [(r50,[]),(r47,[]),(r44,[])] r53 [] (S31_129 ih h30 x52 x36 r50 r47 r44 x32 x49 x31 x43 x35 h3 x33 x34 q28))
def S31_131 (r44:LRf) (x33:IV) (h30:Hp) (x36:IV) (ih:Handler) (x32 x31 x43 x35:IV) (h3:Hp) (x34:IV) (q28:List IV→Hp→OH):OH :=
 chkS [] r44 [] (faddrS 2 x33 fun x45=>load1 x45 h30 fun x46 r47=>chkS [(r44,[])] r47 [] (ixS 3 x46 x36 fun x48=>S31_130 h30 x48 r44 x33 r47 ih x36 x32 x31 x43 x35 h3 x34 q28))
def S31_132 (h79:Hp) (x34:IV):OH :=
 cellS true 3 x34 h79 fun x82=>outS1 [x82] h79
def S31_133 (x41 x35:IV) (h30:Hp) (x33 x36:IV) (ih:Handler) (x32 x31:IV) (h3:Hp) (x34:IV) (q28:List IV→Hp→OH):OH :=
 condS x41 (faddrS 2 x35 fun x42=>load1 x42 h30 fun x43 r44=>S31_131 r44 x33 h30 x36 ih x32 x31 x43 x35 h3 x34 q28) (loadA 3 x35 h30 fun x77 _=>storeA 3 x34 x77 h30 fun h79 _ _=>S31_132 h79 x34)
def S31_134 (l87:List IV) (x33:IV) (h30:Hp) (x35:IV) (ih:Handler) (x32 x31:IV) (h3:Hp) (x34:IV) (q28:List IV→Hp→OH):OH :=
 uncS l87 fun x36 _=>faddrS 2 x33 fun x37=>load1 x37 h30 fun x38 _=>lenS x38 fun x40=>ltS EE 3 x36 x40 fun x41=>S31_133 x41 x35 h30 x33 x36 ih x32 x31 h3 x34 q28
def S31_135 (l29:List IV) (h30:Hp) (ih:Handler) (h3:Hp) (q28:List IV→Hp→OH):OH :=
 uncS l29 fun x31 l83=>uncS l83 fun x32 l84=>uncS l84 fun x33 l85=>uncS l85 fun x34 l86=>uncS l86 fun x35 l87=>S31_134 l87 x33 h30 x35 ih x32 x31 h3 x34 q28
def S31_136 (h3 h27:Hp) (x1 x2 x4 x8 x19:IV) (n:Nat) (ih:Handler):OH :=
 dropS (h3.own.map (·.1)) [32513040] [x1,x2,x4,x8,x19,.fv (.int .i64 0)] h27 fun h89=>loopS n (fun q28 l29 h30=>S31_135 l29 h30 ih h3 q28) [x1,x2,x4,x8,x19,.fv (.int .i64 0)] h89
def S31_137 (h115:Hp) (x119 x1 x19:IV) (j0_26:Hp→OH):OH :=
 load1 x119 h115 fun x120 _=>addS EE 3 x120 x1 fun x122=>faddrS 1 x19 fun x123=>store1 x123 x122 h115 fun h124 _ _=>j0_26 h124
def S31_138 (h109:Hp) (x93 x103 x108 x4 x1 x19:IV) (j0_26:Hp→OH):OH :=
 guardS x93 true h109 (fun k112=>geS EE 3 x103 x108 fun x113=>k112 x113 h109 [] []) fun x114 h115 _ _=>pickS x93 x114 (.fv (.bool false)) fun x118=>condS x118 (faddrS 1 x4 fun x119=>S31_137 h115 x119 x1 x19 j0_26) (j0_26 h115)
def S31_139 (h23:Hp) (x90 x4 x2 x1 x19:IV) (j0_26:Hp→OH):OH :=
 load1 x90 h23 fun x91 _=>eqS EE 3 x91 (.fv (.int .i64 1)) fun x93=>guardS x93 true h23 (fun k94=>faddrS 1 x4 fun x95=>k94 x95 h23 [] []) fun x96 h97 _ _=>guardS x93 true h97 (fun k100=>load1 x96 h97 fun x101 r102=>k100 x101 h97 r102 []) fun x103 h104 _ _=>guardS x93 true h104 (fun k107=>k107 x2 h104 [] []) fun x108 h109 _ _=>S31_138 h109 x93 x103 x108 x4 x1 x19 j0_26
def S31_140 (x13 x16:IV) (h9 h3:Hp) (x1 x2 x4 x8:IV) (n:Nat) (ih:Handler):OH :=
 bldS [.fv (.int .i64 0),.fv (.int .i64 0),.nils] [(0,1,x13),(1,1,x16)] fun x18=>newS 32506885 (.row [.fv (.int .i64 0),.fv (.int .i64 0),.nils] false) (.ptr (.own 32506885) 0) h9 fun x19 h20 _ _=>storeA 3 x19 x18 h20 fun h23 _ _=>(fun (j0_26:Hp→OH)=>faddrS 0 x4 fun x90=>S31_139 h23 x90 x4 x2 x1 x19 j0_26) fun h27=>S31_136 h3 h27 x1 x2 x4 x8 x19 n ih
def S31 (ih:Handler) (n:Nat) (x0 x1 x2:IV) (h3:Hp):OH :=
 boxS 32505856 x0 h3 fun x4 h5 _ _=>newS 32505857 (.row [.fv (.int .i64 0),.fv (.int .i64 0),.nils] false) (.ptr (.own 32505857) 0) h5 fun x8 h9 _ _=>faddrS 0 x4 fun x12=>load1 x12 h9 fun x13 _=>faddrS 1 x4 fun x15=>load1 x15 h9 fun x16 _=>S31_140 x13 x16 h9 h3 x1 x2 x4 x8 n ih
theorem S31_ok (ih:Handler) (n:Nat) (x0 x1 x2:IV) (h3:Hp):funS EE ih ft.get n 31 [x0,x1,x2] h3=S31 ih n x0 x1 x2 h3:=by kernel_rfl
def S32_393 (h25:Hp) (x13 x29:IV):OH :=
 storeA 3 x13 x29 h25 fun h30 _ _=>cellS true 3 x13 h30 fun x33=>outS1 [x33,.fv (.bool false)] h30
def S32_394 (h91:Hp) (x13 x44:IV):OH :=
 cellS true 3 x13 h91 fun x94=>outS1 [x94,x44] h91
def S32_395 (h126:Hp) (x13 x129 x130:IV):OH :=
 storeA 3 x13 x129 h126 fun h131 _ _=>cellS true 3 x13 h131 fun x134=>outS1 [x134,x130] h131
def S32_396 (h117:Hp) (x5 x9:IV) (ih:Handler) (x0 x3 x13:IV):OH :=
 loadA 3 x5 h117 fun x121 _=>loadA 3 x9 h117 fun x123 _=>isoS [] false false ih 64 [x0,x121,x123,x3] h117 fun x125 h126 _ _=>extS 0 x125 fun x129=>extS 1 x125 fun x130=>S32_395 h126 x13 x129 x130
def S32_397 (h221:Hp) (x179 x201 x13 x224:IV):OH :=
 guardS x179 true h221 (fun k225=>k225 x201 h221 [] []) fun x226 h227 _ _=>pickS x179 x226 (.fv (.bool false)) fun x230=>storeA 3 x13 x224 h227 fun h231 r232 w233=>chkS [] r232 w233 (cellS true 3 x13 h231 fun x234=>outS1 [x234,x230] h231)
def S32_398 (h213:Hp) (x202:IV) (r217 r214 w215 r211:LRf) (x216 x212 x179 x201 x13:IV):OH :=
 loadA 3 x202 h213 fun x218 r219=>chkS [(r217,[]),(r214,w215),(r211,[])] r219 [] (genS (pcBuildSlice EE 29 2 [(0,x216),(1,x218)]) 33568773 h213 fun x220 h221 r222 w223=>chkS [(r214,w215),(r211,[])] r222 w223 (bldS [.fv (.int .i64 0),.fv (.int .i64 0),.nils] [(0,1,.fv (.int .i64 26)),(1,1,x212),(2,1,x220)] fun x224=>S32_397 h221 x179 x201 x13 x224))
def S32_399 (r211:LRf) (ih:Handler) (h206:Hp) (x210 x180 x202 x179 x201 x13:IV):OH :=
 chkS [] r211 [] (isoS [] false false ih 55 [x210,.fv (.int .i64 5)] h206 fun x212 h213 r214 w215=>chkS [] r214 w215 (loadA 3 x180 h213 fun x216 r217=>chkS [(r214,w215),(r211,[])] r217 [] (S32_398 h213 x202 r217 r214 w215 r211 x216 x212 x179 x201 x13)))
def S32_400 (r204 w205 r198 w199 r193 w194 r190 r188:LRf) (h203:Hp) (x202 x200 x9:IV) (ih:Handler) (x180 x179 x201 x13:IV):OH :=
 chkS [(r198,w199),(r193,w194),(r190,[]),(r188,[])] r204 w205 (storeA 3 x202 x200 h203 fun h206 r207 w208=>chkS [] r207 w208 (faddrS 1 x9 fun x209=>load1 x209 h206 fun x210 r211=>S32_399 r211 ih h206 x210 x180 x202 x179 x201 x13))
def S32_401 (ih:Handler) (h192:Hp) (x0 x187 x191 x195:IV) (r193 w194 r190 r188:LRf) (x9 x180 x179 x13:IV):OH :=
 isoS [] false false ih 32 [x0,x187,x191,x195] h192 fun x196 h197 r198 w199=>chkS [] r198 w199 (extS 0 x196 fun x200=>extS 1 x196 fun x201=>newS 33567754 (.row [.fv (.int .i64 0),.fv (.int .i64 0),.nils] false) (.ptr (.own 33567754) 0) h197 fun x202 h203 r204 w205=>S32_400 r204 w205 r198 w199 r193 w194 r190 r188 h203 x202 x200 x9 ih x180 x179 x201 x13)
def S32_402 (h184:Hp) (x9:IV) (r188:LRf) (ih:Handler) (x3 x0 x187 x180 x179 x13:IV):OH :=
 loadA 3 x9 h184 fun x189 r190=>chkS [(r188,[])] r190 [] (isoS [] false false ih 58 [x189,.fv (.int .i64 1)] h184 fun x191 h192 r193 w194=>chkS [(r188,[])] r193 w194 (subS EE 3 x3 (.fv (.int .i64 1)) fun x195=>S32_401 ih h192 x0 x187 x191 x195 r193 w194 r190 r188 x9 x180 x179 x13))
def S32_403 (r182 w183 r176 w177 r171 w172 r168 r166:LRf) (h181:Hp) (x180 x178 x5 x9:IV) (ih:Handler) (x3 x0 x179 x13:IV):OH :=
 chkS [(r176,w177),(r171,w172),(r168,[]),(r166,[])] r182 w183 (storeA 3 x180 x178 h181 fun h184 r185 w186=>chkS [] r185 w186 (loadA 3 x5 h184 fun x187 r188=>chkS [] r188 [] (S32_402 h184 x9 r188 ih x3 x0 x187 x180 x179 x13)))
def S32_404 (ih:Handler) (h170:Hp) (x0 x165 x169 x173:IV) (r171 w172 r168 r166:LRf) (x5 x9 x3 x13:IV):OH :=
 isoS [] false false ih 32 [x0,x165,x169,x173] h170 fun x174 h175 r176 w177=>chkS [] r176 w177 (extS 0 x174 fun x178=>extS 1 x174 fun x179=>newS 33566730 (.row [.fv (.int .i64 0),.fv (.int .i64 0),.nils] false) (.ptr (.own 33566730) 0) h175 fun x180 h181 r182 w183=>S32_403 r182 w183 r176 w177 r171 w172 r168 r166 h181 x180 x178 x5 x9 ih x3 x0 x179 x13)
def S32_405 (h161:Hp) (x9:IV) (r166:LRf) (ih:Handler) (x3 x0 x165 x5 x13:IV):OH :=
 loadA 3 x9 h161 fun x167 r168=>chkS [(r166,[])] r168 [] (isoS [] false false ih 58 [x167,.fv (.int .i64 0)] h161 fun x169 h170 r171 w172=>chkS [(r166,[])] r171 w172 (subS EE 3 x3 (.fv (.int .i64 1)) fun x173=>S32_404 ih h170 x0 x165 x169 x173 r171 w172 r168 r166 x5 x9 x3 x13))
def S32_406 (ih:Handler) (h161:Hp) (x236 x13:IV):OH :=
 isoS [] false false ih 55 [x236,.fv (.int .i64 20)] h161 fun x238 h239 _ _=>subS EE 3 x238 (.fv (.int .i64 5)) fun x242=>isoS [] false false ih 43 [x242] h239 fun x243 h244 _ _=>storeA 3 x13 x243 h244 fun h247 _ _=>cellS true 3 x13 h247 fun x250=>outS1 [x250,.fv (.bool true)] h247
def S32_407 (x164:IV) (h161:Hp) (x5 x9:IV) (ih:Handler) (x3 x0 x13:IV):OH :=
 condS x164 (loadA 3 x5 h161 fun x165 r166=>chkS [] r166 [] (S32_405 h161 x9 r166 ih x3 x0 x165 x5 x13)) (faddrS 1 x9 fun x235=>load1 x235 h161 fun x236 _=>S32_406 ih h161 x236 x13)
def S32_408 (h117:Hp) (x139 x9:IV) (ih:Handler) (x5 x3 x0 x13:IV):OH :=
 guardS x139 true h117 (fun k140=>faddrS 0 x9 fun x141=>k140 x141 h117 [] []) fun x142 h143 _ _=>guardS x139 true h143 (fun k146=>load1 x142 h143 fun x147 r148=>k146 x147 h143 r148 []) fun x149 h150 _ _=>guardS x139 true h150 (fun k153=>isoS [] false false ih 55 [x149,.fv (.int .i64 2)] h150 k153) fun x154 h155 _ _=>guardS x139 true h155 (fun k158=>eqS EE 3 x154 (.fv (.int .i64 1)) fun x159=>k158 x159 h155 [] []) fun x160 h161 _ _=>pickS x139 x160 (.fv (.bool false)) fun x164=>S32_407 x164 h161 x5 x9 ih x3 x0 x13
def S32_409 (r309 w310:LRf) (h308:Hp) (x13 x284:IV):OH :=
 chkS [] r309 w310 (cellS true 3 x13 h308 fun x311=>outS1 [x311,x284] h308)
def S32_410 (h289:Hp) (x296 x298:IV) (ih:Handler) (x13 x284:IV):OH :=
 genS (pcBuildSlice EE 29 2 [(0,x296),(1,x298)]) 33572869 h289 fun x300 h301 r302 w303=>chkS [] r302 w303 (isoS [] false false ih 27 [.fv (.int .i64 20),x300] h301 fun x304 h305 r306 w307=>chkS [] r306 w307 (storeA 3 x13 x304 h305 fun h308 r309 w310=>S32_409 r309 w310 h308 x13 x284))
def S32_411 (x293:IV) (h289:Hp) (x285:IV) (r294:LRf) (ih:Handler) (x13 x284:IV):OH :=
 ixS 3 x293 (.fv (.int .i64 0)) fun x295=>loadA 3 x295 h289 fun x296 r297=>chkS [] r297 [] (loadA 3 x285 h289 fun x298 r299=>chkS [(r297,[]),(r294,[])] r299 [] (S32_410 h289 x296 x298 ih x13 x284))
def S32_412 (h286:Hp) (x285 x283 x5:IV) (ih:Handler) (x13 x284:IV):OH :=
 storeA 3 x285 x283 h286 fun h289 r290 w291=>chkS [] r290 w291 (faddrS 2 x5 fun x292=>load1 x292 h289 fun x293 r294=>chkS [] r294 [] (S32_411 x293 h289 x285 r294 ih x13 x284))
def S32_413 (r281 w282:LRf) (x279:IV) (h280:Hp) (r276 w277 r273 r270 w271 r267 r264 r260 w261 r257 r254:LRf) (x5:IV) (ih:Handler) (x13:IV):OH :=
 chkS [] r281 w282 (extS 0 x279 fun x283=>extS 1 x279 fun x284=>newS 33571859 (.row [.fv (.int .i64 0),.fv (.int .i64 0),.nils] false) (.ptr (.own 33571859) 0) h280 fun x285 h286 r287 w288=>chkS [(r281,w282),(r276,w277),(r273,[]),(r270,w271),(r267,[]),(r264,[]),(r260,w261),(r257,[]),(r254,[])] r287 w288 (S32_412 h286 x285 x283 x5 ih x13 x284))
def S32_414 (r273 r270 w271 r267 r264 r260 w261 r257 r254:LRf) (ih:Handler) (h269:Hp) (x272 x3 x258 x268 x5 x13:IV):OH :=
 chkS [(r270,w271),(r267,[]),(r264,[]),(r260,w261),(r257,[]),(r254,[])] r273 [] (isoS [] false false ih 58 [x272,.fv (.int .i64 0)] h269 fun x274 h275 r276 w277=>chkS [] r276 w277 (subS EE 3 x3 (.fv (.int .i64 1)) fun x278=>isoS [] false false ih 32 [x258,x268,x274,x278] h275 fun x279 h280 r281 w282=>S32_413 r281 w282 x279 h280 r276 w277 r273 r270 w271 r267 r264 r260 w261 r257 r254 x5 ih x13))
def S32_415 (h259:Hp) (x265:IV) (r260 w261 r257 r254:LRf) (ih:Handler) (x9:IV) (r264:LRf) (x3 x258 x5 x13:IV):OH :=
 loadA 3 x265 h259 fun x266 r267=>chkS [(r260,w261),(r257,[]),(r254,[])] r267 [] (isoS [] false false ih 31 [x266,.fv (.int .i64 1),.fv (.int .i64 0)] h259 fun x268 h269 r270 w271=>chkS [] r270 w271 (loadA 3 x9 h269 fun x272 r273=>S32_414 r273 r270 w271 r267 r264 r260 w261 r257 r254 ih h269 x272 x3 x258 x268 x5 x13))
def S32_416 (r260 w261:LRf) (x5:IV) (h259:Hp) (r257 r254:LRf) (ih:Handler) (x9 x3 x258 x13:IV):OH :=
 chkS [] r260 w261 (faddrS 2 x5 fun x262=>load1 x262 h259 fun x263 r264=>chkS [(r260,w261),(r257,[]),(r254,[])] r264 [] (ixS 3 x263 (.fv (.int .i64 1)) fun x265=>S32_415 h259 x265 r260 w261 r257 r254 ih x9 r264 x3 x258 x5 x13))
def S32_417 (r254:LRf) (x253:IV) (h117:Hp) (ih:Handler) (x0 x5 x9 x3 x13:IV):OH :=
 chkS [] r254 [] (ixS 3 x253 (.fv (.int .i64 0)) fun x255=>loadA 3 x255 h117 fun x256 r257=>chkS [] r257 [] (isoS [] false false ih 29 [x0,.fv (.int .i64 0),x256] h117 fun x258 h259 r260 w261=>S32_416 r260 w261 x5 h259 r257 r254 ih x9 x3 x258 x13))
def S32_418 (h383:Hp) (x13 x382:IV):OH :=
 cellS true 3 x13 h383 fun x386=>outS1 [x386,x382] h383
def S32_419 (h362:Hp) (x365 x367:IV) (ih:Handler) (x331 x357 x13:IV):OH :=
 genS (pcBuildSlice EE 29 2 [(0,x365),(1,x367)]) 33576962 h362 fun x369 h370 _ _=>isoS [] false false ih 27 [.fv (.int .i64 22),x369] h370 fun x373 h374 _ _=>guardS x331 true h374 (fun k377=>k377 x357 h374 [] []) fun x378 h379 _ _=>pickS x331 x378 (.fv (.bool false)) fun x382=>storeA 3 x13 x373 h379 fun h383 _ _=>S32_418 h383 x13 x382
def S32_420 (r360 w361 r354 w355 r349 w350 r346 r344 r341:LRf) (h359:Hp) (x358 x356 x332:IV) (ih:Handler) (x331 x357 x13:IV):OH :=
 chkS [(r354,w355),(r349,w350),(r346,[]),(r344,[]),(r341,[])] r360 w361 (storeA 3 x358 x356 h359 fun h362 r363 w364=>chkS [] r363 w364 (loadA 3 x332 h362 fun x365 _=>loadA 3 x358 h362 fun x367 _=>S32_419 h362 x365 x367 ih x331 x357 x13))
def S32_421 (ih:Handler) (h348:Hp) (x0 x343 x347 x351:IV) (r349 w350 r346 r344 r341:LRf) (x332 x331 x13:IV):OH :=
 isoS [] false false ih 32 [x0,x343,x347,x351] h348 fun x352 h353 r354 w355=>chkS [] r354 w355 (extS 0 x352 fun x356=>extS 1 x352 fun x357=>newS 33575949 (.row [.fv (.int .i64 0),.fv (.int .i64 0),.nils] false) (.ptr (.own 33575949) 0) h353 fun x358 h359 r360 w361=>S32_420 r360 w361 r354 w355 r349 w350 r346 r344 r341 h359 x358 x356 x332 ih x331 x357 x13)
def S32_422 (h336:Hp) (x9:IV) (r344 r341:LRf) (ih:Handler) (x3 x0 x343 x332 x331 x13:IV):OH :=
 loadA 3 x9 h336 fun x345 r346=>chkS [(r344,[]),(r341,[])] r346 [] (isoS [] false false ih 58 [x345,.fv (.int .i64 1)] h336 fun x347 h348 r349 w350=>chkS [(r344,[]),(r341,[])] r349 w350 (subS EE 3 x3 (.fv (.int .i64 1)) fun x351=>S32_421 ih h348 x0 x343 x347 x351 r349 w350 r346 r344 r341 x332 x331 x13))
def S32_423 (h336:Hp) (x339 x9:IV) (ih:Handler) (x3 x0 x332 x331 x13:IV):OH :=
 load1 x339 h336 fun x340 r341=>chkS [] r341 [] (ixS 3 x340 (.fv (.int .i64 1)) fun x342=>loadA 3 x342 h336 fun x343 r344=>chkS [] r344 [] (S32_422 h336 x9 r344 r341 ih x3 x0 x343 x332 x331 x13))
def S32_424 (h327:Hp) (r328 w329 r323 w324 r320 r318 r315:LRf) (x330 x5 x9:IV) (ih:Handler) (x3 x0 x331 x13:IV):OH :=
 newS 33574925 (.row [.fv (.int .i64 0),.fv (.int .i64 0),.nils] false) (.ptr (.own 33574925) 0) h327 fun x332 h333 r334 w335=>chkS [(r328,w329),(r323,w324),(r320,[]),(r318,[]),(r315,[])] r334 w335 (storeA 3 x332 x330 h333 fun h336 r337 w338=>chkS [] r337 w338 (faddrS 2 x5 fun x339=>S32_423 h336 x339 x9 ih x3 x0 x332 x331 x13))
def S32_425 (x3:IV) (ih:Handler) (h322:Hp) (x0 x317 x321:IV) (r323 w324 r320 r318 r315:LRf) (x5 x9 x13:IV):OH :=
 subS EE 3 x3 (.fv (.int .i64 1)) fun x325=>isoS [] false false ih 32 [x0,x317,x321,x325] h322 fun x326 h327 r328 w329=>chkS [] r328 w329 (extS 0 x326 fun x330=>extS 1 x326 fun x331=>S32_424 h327 r328 w329 r323 w324 r320 r318 r315 x330 x5 x9 ih x3 x0 x331 x13)
def S32_426 (r318:LRf) (h117:Hp) (x9:IV) (r315:LRf) (ih:Handler) (x3 x0 x317 x5 x13:IV):OH :=
 chkS [] r318 [] (loadA 3 x9 h117 fun x319 r320=>chkS [(r318,[]),(r315,[])] r320 [] (isoS [] false false ih 58 [x319,.fv (.int .i64 0)] h117 fun x321 h322 r323 w324=>chkS [(r318,[]),(r315,[])] r323 w324 (S32_425 x3 ih h322 x0 x317 x321 r323 w324 r320 r318 r315 x5 x9 x13)))
def S32_427 (x5:IV) (h117:Hp) (x9:IV) (ih:Handler) (x3 x0 x13:IV):OH :=
 faddrS 2 x5 fun x313=>load1 x313 h117 fun x314 r315=>chkS [] r315 [] (ixS 3 x314 (.fv (.int .i64 0)) fun x316=>loadA 3 x316 h117 fun x317 r318=>S32_426 r318 h117 x9 r315 ih x3 x0 x317 x5 x13)
def S32_428 (h117:Hp) (x45 x13 x44:IV):OH :=
 loadA 3 x45 h117 fun x387 _=>storeA 3 x13 x387 h117 fun h389 _ _=>cellS true 3 x13 h389 fun x392=>outS1 [x392,x44] h389
def S32_429 (x251 x5:IV) (h117:Hp) (ih:Handler) (x0 x9 x3 x13 x136 x45 x44:IV):OH :=
 condS x251 (faddrS 2 x5 fun x252=>load1 x252 h117 fun x253 r254=>S32_417 r254 x253 h117 ih x0 x5 x9 x3 x13) (eqS EE 3 x136 (.fv (.int .i64 17)) fun x312=>condS x312 (S32_427 x5 h117 x9 ih x3 x0 x13) (S32_428 h117 x45 x13 x44))
def S32_430 (x5:IV) (h117:Hp) (x3 x9:IV) (ih:Handler) (x0 x13 x45 x44:IV):OH :=
 faddrS 0 x5 fun x135=>load1 x135 h117 fun x136 _=>eqS EE 3 x136 (.fv (.int .i64 15)) fun x138=>condS x138 (gtS EE 3 x3 (.fv (.int .i64 0)) fun x139=>S32_408 h117 x139 x9 ih x5 x3 x0 x13) (eqS EE 3 x136 (.fv (.int .i64 16)) fun x251=>S32_429 x251 x5 h117 ih x0 x9 x3 x13 x136 x45 x44)
def S32_431 (h99:Hp) (x95 x98:IV) (ih:Handler) (x5 x9 x0 x3 x13 x45 x44:IV):OH :=
 guardS x95 true h99 (fun k102=>load1 x98 h99 fun x103 r104=>k102 x103 h99 r104 []) fun x105 h106 _ _=>guardS x95 true h106 (fun k109=>isoS [] false false ih 55 [x105,.fv (.int .i64 3)] h106 k109) fun x110 h111 _ _=>guardS x95 true h111 (fun k114=>eqS EE 3 x110 (.fv (.int .i64 1)) fun x115=>k114 x115 h111 [] []) fun x116 h117 _ _=>pickS x95 x116 (.fv (.bool false)) fun x120=>condS x120 (S32_396 h117 x5 x9 ih x0 x3 x13) (S32_430 x5 h117 x3 x9 ih x0 x13 x45 x44)
def S32_432 (x88:IV) (h85:Hp) (x45 x13 x44 x3 x9:IV) (ih:Handler) (x5 x0:IV):OH :=
 condS x88 (loadA 3 x45 h85 fun x89 _=>storeA 3 x13 x89 h85 fun h91 _ _=>S32_394 h91 x13 x44) (gtS EE 3 x3 (.fv (.int .i64 0)) fun x95=>guardS x95 true h85 (fun k96=>faddrS 0 x9 fun x97=>k96 x97 h85 [] []) fun x98 h99 _ _=>S32_431 h99 x95 x98 ih x5 x9 x0 x3 x13 x45 x44)
def S32_433 (h67:Hp) (x44 x66 x3 x45 x13 x9:IV) (ih:Handler) (x5 x0:IV):OH :=
 guardS x44 true h67 (fun k70=>eqS EE 3 x66 (.fv (.int .i64 0)) fun x71=>k70 x71 h67 [] []) fun x72 h73 _ _=>pickS x44 x72 (.fv (.bool false)) fun x76=>guardS x76 false h73 (fun k77=>k77 x3 h73 [] []) fun x78 h79 _ _=>guardS x76 false h79 (fun k82=>ltS EE 3 x78 (.fv (.int .i64 (-4))) fun x83=>k82 x83 h79 [] []) fun x84 h85 _ _=>pickS x76 (.fv (.bool true)) x84 fun x88=>S32_432 x88 h85 x45 x13 x44 x3 x9 ih x5 x0
def S32_434 (h40:Hp) (x43 x44 x9:IV) (ih:Handler) (x3 x13 x5 x0:IV):OH :=
 newS 33558536 (.row [.fv (.int .i64 0),.fv (.int .i64 0),.nils] false) (.ptr (.own 33558536) 0) h40 fun x45 h46 _ _=>storeA 3 x45 x43 h46 fun h49 _ _=>guardS x44 true h49 (fun k52=>faddrS 0 x9 fun x53=>k52 x53 h49 [] []) fun x54 h55 _ _=>guardS x44 true h55 (fun k58=>load1 x54 h55 fun x59 r60=>k58 x59 h55 r60 []) fun x61 h62 _ _=>guardS x44 true h62 (fun k65=>isoS [] false false ih 55 [x61,.fv (.int .i64 3)] h62 k65) fun x66 h67 _ _=>S32_433 h67 x44 x66 x3 x45 x13 x9 ih x5 x0
def S32_435 (x9:IV) (h25:Hp) (ih:Handler) (x0 x34 x3 x13 x5:IV):OH :=
 faddrS 1 x9 fun x36=>load1 x36 h25 fun x37 _=>isoS [] false false ih 59 [x0,.fv (.int .i64 0),x34,x37] h25 fun x39 h40 _ _=>extS 0 x39 fun x43=>extS 1 x39 fun x44=>S32_434 h40 x43 x44 x9 ih x3 x13 x5 x0
def S32_436 (x19:IV) (h20:Hp) (x5 x23 x13 x9:IV) (ih:Handler) (x0 x3:IV):OH :=
 extS 1 x19 fun x24=>storeA 3 x5 x23 h20 fun h25 _ _=>neS EE 3 x24 (.fv (.int .i64 0)) fun x28=>condS x28 (bldS [.fv (.int .i64 0),.fv (.int .i64 0),.nils] [] fun x29=>S32_393 h25 x13 x29) (loadA 3 x5 h25 fun x34 _=>S32_435 x9 h25 ih x0 x34 x3 x13 x5)
def S32 (ih:Handler) (n:Nat) (x0 x1 x2 x3:IV) (h4:Hp):OH :=
 boxS 33554432 x1 h4 fun x5 h6 _ _=>boxS 33554433 x2 h6 fun x9 h10 _ _=>newS 33554434 (.row [.fv (.int .i64 0),.fv (.int .i64 0),.nils] false) (.ptr (.own 33554434) 0) h10 fun x13 h14 _ _=>loadA 3 x5 h14 fun x17 _=>isoS [] false false ih 18 [x17] h14 fun x19 h20 _ _=>extS 0 x19 fun x23=>S32_436 x19 h20 x5 x23 x13 x9 ih x0 x3
theorem S32_ok (ih:Handler) (n:Nat) (x0 x1 x2 x3:IV) (h4:Hp):funS EE ih ft.get n 32 [x0,x1,x2,x3] h4=S32 ih n x0 x1 x2 x3 h4:=by kernel_rfl
def S33_75 (h32:Hp) (x7 x31:IV):OH :=
 storeA 3 x7 x31 h32 fun h35 _ _=>cellS true 3 x7 h35 fun x38=>outS1 [x38] h35
def S33_76 (r72 w73:LRf) (h71:Hp) (x7:IV):OH :=
 chkS [] r72 w73 (cellS true 3 x7 h71 fun x74=>outS1 [x74] h71)
def S33_77 (h60:Hp) (x48 x59:IV) (ih:Handler) (x40 x7:IV):OH :=
 genS (pcBuildSlice EE 29 2 [(0,x48),(1,x59)]) 34607117 h60 fun x63 h64 r65 w66=>chkS [] r65 w66 (isoS [] false false ih 27 [x40,x63] h64 fun x67 h68 r69 w70=>chkS [] r69 w70 (storeA 3 x7 x67 h68 fun h71 r72 w73=>S33_76 r72 w73 h71 x7))
def S33_78 (ih:Handler) (h49:Hp) (x52 x1 x48 x40 x7:IV):OH :=
 isoS [] false false ih 58 [x52,.fv (.int .i64 1)] h49 fun x54 h55 r56 w57=>chkS [] r56 w57 (subS EE 3 x1 (.fv (.int .i64 1)) fun x58=>isoS [] false false ih 33 [x54,x58] h55 fun x59 h60 r61 w62=>chkS [] r61 w62 (S33_77 h60 x48 x59 ih x40 x7))
def S33_79 (x1:IV) (ih:Handler) (h44:Hp) (x43 x3:IV) (r45 w46 r42:LRf) (x40 x7:IV):OH :=
 subS EE 3 x1 (.fv (.int .i64 1)) fun x47=>isoS [] false false ih 33 [x43,x47] h44 fun x48 h49 r50 w51=>chkS [] r50 w51 (loadA 3 x3 h49 fun x52 r53=>chkS [(r50,w51),(r45,w46),(r42,[])] r53 [] (S33_78 ih h49 x52 x1 x48 x40 x7))
def S33_80 (x39:IV) (h27:Hp) (x3:IV) (ih:Handler) (x1 x7:IV):OH :=
 subS EE 3 x39 (.fv (.int .i64 2)) fun x40=>loadA 3 x3 h27 fun x41 r42=>chkS [] r42 [] (isoS [] false false ih 58 [x41,.fv (.int .i64 0)] h27 fun x43 h44 r45 w46=>chkS [] r45 w46 (S33_79 x1 ih h44 x43 x3 r45 w46 r42 x40 x7))
def S33_81 (h15:Hp) (x18 x14:IV) (ih:Handler) (x7 x3 x1:IV):OH :=
 guardS x18 false h15 (fun k19=>k19 x14 h15 [] []) fun x20 h21 _ _=>guardS x18 false h21 (fun k24=>ltS EE 3 x20 (.fv (.int .i64 2)) fun x25=>k24 x25 h21 [] []) fun x26 h27 _ _=>pickS x18 (.fv (.bool true)) x26 fun x30=>condS x30 (isoS [] false false ih 27 [.fv (.int .i64 15),.nils] h27 fun x31 h32 _ _=>S33_75 h32 x7 x31) (addS EE 3 (.fv (.int .i64 16)) x14 fun x39=>S33_80 x39 h27 x3 ih x1 x7)
def S33 (ih:Handler) (n:Nat) (x0 x1:IV) (h2:Hp):OH :=
 boxS 34603008 x0 h2 fun x3 h4 _ _=>newS 34603009 (.row [.fv (.int .i64 0),.fv (.int .i64 0),.nils] false) (.ptr (.own 34603009) 0) h4 fun x7 h8 _ _=>faddrS 1 x3 fun x11=>load1 x11 h8 fun x12 _=>isoS [] false false ih 55 [x12,.fv (.int .i64 4)] h8 fun x14 h15 _ _=>leS EE 3 x1 (.fv (.int .i64 0)) fun x18=>S33_81 h15 x18 x14 ih x7 x3 x1
theorem S33_ok (ih:Handler) (n:Nat) (x0 x1:IV) (h2:Hp):funS EE ih ft.get n 33 [x0,x1] h2=S33 ih n x0 x1 h2:=by kernel_rfl
def S34 (ih:Handler) (n:Nat) (x0:IV) (h1:Hp):OH :=
 newS 35651584 (.row [.fv (.int .i64 0),.fv (.int .i64 0),.nils] false) (.ptr (.own 35651584) 0) h1 fun x2 h3 _ _=>bldS [.fv (.int .i64 0),.fv (.int .i64 0),.nils] [(0,1,.fv (.int .i64 1)),(1,1,x0)] fun x6=>storeA 3 x2 x6 h3 fun h7 _ _=>cellS true 3 x2 h7 fun x10=>outS1 [x10] h7
theorem S34_ok (ih:Handler) (n:Nat) (x0:IV) (h1:Hp):funS EE ih ft.get n 34 [x0] h1=S34 ih n x0 h1:=by kernel_rfl
def S35_49 (ih:Handler) (h28:Hp) (x27 x22 x23:IV) (q17:List IV→Hp→OH) (x20 x21:IV):OH :=
 isoS [] false false ih 27 [.fv (.int .i64 12),x27] h28 fun x31 h32 _ _=>storeA 3 x22 x31 h32 fun h35 _ _=>addS EE 3 x23 (.fv (.int .i64 1)) fun x38=>q17 [x20,x21,x22,x38] h35
def S35_50 (h41:Hp) (x21:IV):OH :=
 cellS true 3 x21 h41 fun x44=>outS1 [x44] h41
def S35_51 (x24:IV) (h19:Hp) (x22:IV) (ih:Handler) (x23:IV) (q17:List IV→Hp→OH) (x20 x21:IV):OH :=
 condS x24 (loadA 3 x22 h19 fun x25 _=>genS (pcBuildSlice EE 29 1 [(0,x25)]) 36705281 h19 fun x27 h28 _ _=>S35_49 ih h28 x27 x22 x23 q17 x20 x21) (loadA 3 x22 h19 fun x39 _=>storeA 3 x21 x39 h19 fun h41 _ _=>S35_50 h41 x21)
def S35_52 (l18:List IV) (h19:Hp) (ih:Handler) (q17:List IV→Hp→OH):OH :=
 uncS l18 fun x20 l45=>uncS l45 fun x21 l46=>uncS l46 fun x22 l47=>uncS l47 fun x23 _=>ltS EE 3 x23 x20 fun x24=>S35_51 x24 h19 x22 ih x23 q17 x20 x21
def S35 (ih:Handler) (n:Nat) (x0:IV) (h1:Hp):OH :=
 newS 36700160 (.row [.fv (.int .i64 0),.fv (.int .i64 0),.nils] false) (.ptr (.own 36700160) 0) h1 fun x2 h3 _ _=>isoS [] false false ih 27 [.fv (.int .i64 11),.nils] h3 fun x6 h7 _ _=>newS 36701185 (.row [.fv (.int .i64 0),.fv (.int .i64 0),.nils] false) (.ptr (.own 36701185) 0) h7 fun x10 h11 _ _=>storeA 3 x10 x6 h11 fun h14 _ _=>loopS n (fun q17 l18 h19=>S35_52 l18 h19 ih q17) [x0,x2,x10,.fv (.int .i64 0)] h14
theorem S35_ok (ih:Handler) (n:Nat) (x0:IV) (h1:Hp):funS EE ih ft.get n 35 [x0] h1=S35 ih n x0 h1:=by kernel_rfl
def S36_32 (x11:IV) (q6:List IV→Hp→OH) (h24:Hp) (x9 x27:IV):OH :=
 addS EE 3 x11 (.fv (.int .i64 1)) fun x28=>q6 [x9,x27,x28] h24
def S36_33 (h8:Hp) (x17 x11:IV) (ih:Handler) (x10:IV) (q6:List IV→Hp→OH) (x9:IV):OH :=
 load1 x17 h8 fun x18 _=>ixS 3 x18 x11 fun x20=>loadA 3 x20 h8 fun x21 _=>isoS [] false false ih 36 [x21] h8 fun x23 h24 _ _=>addS EE 3 x10 x23 fun x27=>S36_32 x11 q6 h24 x9 x27
def S36_34 (x13 x11 x9:IV) (h8:Hp) (ih:Handler) (x10:IV) (q6:List IV→Hp→OH):OH :=
 lenS x13 fun x15=>ltS EE 3 x11 x15 fun x16=>condS x16 (faddrS 2 x9 fun x17=>S36_33 h8 x17 x11 ih x10 q6 x9) (outS1 [x10] h8)
def S36_35 (l7:List IV) (h8:Hp) (ih:Handler) (q6:List IV→Hp→OH):OH :=
 uncS l7 fun x9 l29=>uncS l29 fun x10 l30=>uncS l30 fun x11 _=>faddrS 2 x9 fun x12=>load1 x12 h8 fun x13 _=>S36_34 x13 x11 x9 h8 ih x10 q6
def S36 (ih:Handler) (n:Nat) (x0:IV) (h1:Hp):OH :=
 boxS 37748736 x0 h1 fun x2 h3 _ _=>loopS n (fun q6 l7 h8=>S36_35 l7 h8 ih q6) [x2,.fv (.int .i64 1),.fv (.int .i64 0)] h3
theorem S36_ok (ih:Handler) (n:Nat) (x0:IV) (h1:Hp):funS EE ih ft.get n 36 [x0] h1=S36 ih n x0 h1:=by kernel_rfl
def S37_47 (h38:Hp) (x26:IV) (ih:Handler) (x30 x37:IV):OH :=
 guardS x26 true h38 (fun k41=>isoS [] false false ih 21 [x30,x37] h38 k41) fun x42 h43 _ _=>pickS x26 x42 (.fv (.bool false)) fun x46=>outS1 [x46] h43
def S37_48 (h14:Hp) (x17 x18 x7:IV) (ih:Handler):OH :=
 newS 38798341 (.row [.fv (.int .i64 0),.fv (.int .i64 0),.nils] false) (.ptr (.own 38798341) 0) h14 fun x19 h20 _ _=>storeA 3 x19 x17 h20 fun h23 _ _=>eqS EE 37 x18 (.fv (.int .i64 0)) fun x26=>guardS x26 true h23 (fun k27=>loadA 3 x19 h23 fun x28 r29=>k27 x28 h23 r29 []) fun x30 h31 _ _=>guardS x26 true h31 (fun k34=>loadA 3 x7 h31 fun x35 r36=>k34 x35 h31 r36 []) fun x37 h38 _ _=>S37_47 h38 x26 ih x30 x37
def S37 (ih:Handler) (n:Nat) (x0 x1:IV) (h2:Hp):OH :=
 boxS 38797312 x0 h2 fun x3 h4 _ _=>boxS 38797313 x1 h4 fun x7 h8 _ _=>loadA 3 x3 h8 fun x11 _=>isoS [] false false ih 20 [x11] h8 fun x13 h14 _ _=>extS 0 x13 fun x17=>extS 1 x13 fun x18=>S37_48 h14 x17 x18 x7 ih
theorem S37_ok (ih:Handler) (n:Nat) (x0 x1:IV) (h2:Hp):funS EE ih ft.get n 37 [x0,x1] h2=S37 ih n x0 x1 h2:=by kernel_rfl
def S42 (ih:Handler) (n:Nat) (h0:Hp):OH :=
 newS 44040192 (.row [.fv (.int .i64 0),.fv (.int .i64 0),.nils] false) (.ptr (.own 44040192) 0) h0 fun x1 h2 _ _=>isoS [] false false ih 27 [.fv (.int .i64 10),.nils] h2 fun x5 h6 _ _=>storeA 3 x1 x5 h6 fun h9 _ _=>cellS true 3 x1 h9 fun x12=>outS1 [x12] h9
theorem S42_ok (ih:Handler) (n:Nat) (h0:Hp):funS EE ih ft.get n 42 [] h0=S42 ih n h0:=by kernel_rfl
def S43 (ih:Handler) (n:Nat) (x0:IV) (h1:Hp):OH :=
 newS 45088768 (.row [.fv (.int .i64 0),.fv (.int .i64 0),.nils] false) (.ptr (.own 45088768) 0) h1 fun x2 h3 _ _=>bldS [.fv (.int .i64 0),.fv (.int .i64 0),.nils] [(0,1,.fv (.int .i64 25)),(1,1,x0)] fun x6=>storeA 3 x2 x6 h3 fun h7 _ _=>cellS true 3 x2 h7 fun x10=>outS1 [x10] h7
theorem S43_ok (ih:Handler) (n:Nat) (x0:IV) (h1:Hp):funS EE ih ft.get n 43 [x0] h1=S43 ih n x0 h1:=by kernel_rfl
def S46_513 (x29:IV) (h65:Hp) (x64 x30:IV) (h1:Hp) (x27 x28:IV) (q24:List IV→Hp→OH):OH :=
 faddrS 2 x29 fun x68=>store1 x68 x64 h65 fun h69 _ _=>addS EE 3 x30 (.fv (.int .i64 1)) fun x72=>dropS (h1.own.map (·.1)) [48239622,48242692] [x27,x28,x29,x72] h69 fun h73=>q24 [x27,x28,x29,x72] h73
def S46_514 (x29:IV) (h54:Hp) (x46 x30:IV) (h1:Hp) (x27 x28:IV) (q24:List IV→Hp→OH):OH :=
 faddrS 2 x29 fun x55=>load1 x55 h54 fun x56 _=>loadA 3 x46 h54 fun x58 _=>genS (pcBuildSlice EE 29 1 [(0,x58)]) 48242691 h54 fun x60 h61 _ _=>genS (builtinR EE 48242692 false .append [29,29] [x56,x60]) 48242692 h61 fun x64 h65 _ _=>S46_513 x29 h65 x64 x30 h1 x27 x28 q24
def S46_515 (h126:Hp) (x46 x125:IV) (j0_53:Hp→OH):OH :=
 storeA 3 x46 x125 h126 fun h129 _ _=>j0_53 h129
def S46_516 (h115:Hp) (x74 x95 x114:IV) (ih:Handler) (x46:IV) (j0_53:Hp→OH):OH :=
 guardS x74 true h115 (fun k118=>pickS x95 (.fv (.bool true)) x114 fun x119=>k118 x119 h115 [] []) fun x120 h121 _ _=>pickS x74 x120 (.fv (.bool false)) fun x124=>condS x124 (isoS [] false false ih 27 [.fv (.int .i64 11),.nils] h121 fun x125 h126 _ _=>S46_515 h126 x46 x125 j0_53) (j0_53 h121)
def S46_517 (h85:Hp) (x74 x84 x27:IV) (ih:Handler) (x46:IV) (j0_53:Hp→OH):OH :=
 guardS x74 true h85 (fun k88=>eqS EE 3 x84 (.fv (.int .i64 4)) fun x89=>k88 x89 h85 [] []) fun x90 h91 _ _=>guardS x74 true h91 (fun k94=>k94 x90 h91 [] []) fun x95 h96 _ _=>guardS x95 false h96 (fun k99=>faddrS 0 x27 fun x100=>k99 x100 h96 [] []) fun x101 h102 _ _=>guardS x95 false h102 (fun k105=>load1 x101 h102 fun x106 r107=>k105 x106 h102 r107 []) fun x108 h109 _ _=>guardS x95 false h109 (fun k112=>eqS EE 3 x108 (.fv (.int .i64 7)) fun x113=>k112 x113 h109 [] []) fun x114 h115 _ _=>S46_516 h115 x74 x95 x114 ih x46 j0_53
def S46_518 (h47:Hp) (x46 x42 x29 x30:IV) (h1:Hp) (x27 x28:IV) (q24:List IV→Hp→OH) (ih:Handler):OH :=
 storeA 3 x46 x42 h47 fun h50 _ _=>(fun (j0_53:Hp→OH)=>eqS EE 3 x30 (.fv (.int .i64 0)) fun x74=>guardS x74 true h50 (fun k75=>faddrS 0 x27 fun x76=>k75 x76 h50 [] []) fun x77 h78 _ _=>guardS x74 true h78 (fun k81=>load1 x77 h78 fun x82 r83=>k81 x82 h78 r83 []) fun x84 h85 _ _=>S46_517 h85 x74 x84 x27 ih x46 j0_53) fun h54=>S46_514 x29 h54 x46 x30 h1 x27 x28 q24
def S46_519 (h26:Hp) (x36 x30:IV) (ih:Handler) (x29:IV) (h1:Hp) (x27 x28:IV) (q24:List IV→Hp→OH):OH :=
 load1 x36 h26 fun x37 _=>ixS 3 x37 x30 fun x39=>loadA 3 x39 h26 fun x40 _=>isoS [] false false ih 46 [x40] h26 fun x42 h43 _ _=>newS 48239622 (.row [.fv (.int .i64 0),.fv (.int .i64 0),.nils] false) (.ptr (.own 48239622) 0) h43 fun x46 h47 _ _=>S46_518 h47 x46 x42 x29 x30 h1 x27 x28 q24 ih
def S46_520 (ih:Handler) (h299:Hp) (x296 x298 x28:IV):OH :=
 isoS [] false false ih 30 [x296,.fv (.int .i64 0),x298] h299 fun x302 h303 r304 w305=>chkS [] r304 w305 (storeA 3 x28 x302 h303 fun h306 r307 w308=>chkS [] r307 w308 (cellS true 3 x28 h306 fun x309=>outS1 [x309] h306))
def S46_521 (x293:IV) (h284:Hp) (ih:Handler) (r294 r290:LRf) (x28:IV):OH :=
 ixS 3 x293 (.fv (.int .i64 0)) fun x295=>loadA 3 x295 h284 fun x296 r297=>chkS [] r297 [] (isoS [] false false ih 27 [.fv (.int .i64 11),.nils] h284 fun x298 h299 r300 w301=>chkS [(r297,[]),(r294,[]),(r290,[])] r300 w301 (S46_520 ih h299 x296 x298 x28))
def S46_522 (r290:LRf) (x289:IV) (h284:Hp) (ih:Handler) (x28:IV):OH :=
 chkS [] r290 [] (ixS 3 x289 (.fv (.int .i64 1)) fun x291=>faddrS 2 x291 fun x292=>load1 x292 h284 fun x293 r294=>chkS [] r294 [] (S46_521 x293 h284 ih r294 r290 x28))
def S46_523 (h484:Hp) (x495 x28:IV):OH :=
 loadA 3 x495 h484 fun x496 _=>storeA 3 x28 x496 h484 fun h498 _ _=>cellS true 3 x28 h498 fun x501=>outS1 [x501] h498
def S46_524 (h484:Hp) (x488 x28:IV):OH :=
 load1 x488 h484 fun x489 _=>ixS 3 x489 (.fv (.int .i64 1)) fun x491=>faddrS 2 x491 fun x492=>load1 x492 h484 fun x493 _=>ixS 3 x493 (.fv (.int .i64 0)) fun x495=>S46_523 h484 x495 x28
def S46_525 (h484:Hp) (x28 x502:IV):OH :=
 storeA 3 x28 x502 h484 fun h504 _ _=>cellS true 3 x28 h504 fun x507=>outS1 [x507] h504
def S46_526 (h479:Hp) (x391:IV) (ih:Handler) (x433 x478 x29 x28:IV):OH :=
 guardS x391 true h479 (fun k482=>isoS [] false false ih 21 [x433,x478] h479 k482) fun x483 h484 r485 w486=>chkS [] r485 w486 (pickS x391 x483 (.fv (.bool false)) fun x487=>condS x487 (faddrS 2 x29 fun x488=>S46_524 h484 x488 x28) (loadA 3 x29 h484 fun x502 _=>S46_525 h484 x28 x502))
def S46_527 (h459:Hp) (x391 x458:IV) (r435 w436 r422 w423 r403 w404:LRf) (ih:Handler) (x433 x29 x28:IV):OH :=
 guardS x391 true h459 (fun k462=>load1 x458 h459 fun x463 r464=>k462 x463 h459 r464 []) fun x465 h466 r467 w468=>chkS [(r435,w436),(r422,w423),(r403,w404)] r467 w468 (guardS x391 true h466 (fun k469=>ixS 3 x465 (.fv (.int .i64 0)) fun x470=>k469 x470 h466 [] []) fun x471 h472 _ _=>guardS x391 true h472 (fun k475=>loadA 3 x471 h472 fun x476 r477=>k475 x476 h472 r477 []) fun x478 h479 r480 w481=>chkS [(r435,w436),(r422,w423),(r403,w404)] r480 w481 (S46_526 h479 x391 ih x433 x478 x29 x28))
def S46_528 (h434:Hp) (x391 x29:IV) (r435 w436 r422 w423 r403 w404:LRf) (ih:Handler) (x433 x28:IV):OH :=
 guardS x391 true h434 (fun k437=>faddrS 2 x29 fun x438=>k437 x438 h434 [] []) fun x439 h440 _ _=>guardS x391 true h440 (fun k443=>load1 x439 h440 fun x444 r445=>k443 x444 h440 r445 []) fun x446 h447 r448 w449=>chkS [(r435,w436),(r422,w423),(r403,w404)] r448 w449 (guardS x391 true h447 (fun k450=>ixS 3 x446 (.fv (.int .i64 2)) fun x451=>k450 x451 h447 [] []) fun x452 h453 _ _=>guardS x391 true h453 (fun k456=>faddrS 2 x452 fun x457=>k456 x457 h453 [] []) fun x458 h459 _ _=>S46_527 h459 x391 x458 r435 w436 r422 w423 r403 w404 ih x433 x29 x28)
def S46_529 (h414:Hp) (x391 x413 x29:IV) (r403 w404:LRf) (ih:Handler) (x28:IV):OH :=
 guardS x391 true h414 (fun k417=>load1 x413 h414 fun x418 r419=>k417 x418 h414 r419 []) fun x420 h421 r422 w423=>chkS [] r422 w423 (guardS x391 true h421 (fun k424=>ixS 3 x420 (.fv (.int .i64 0)) fun x425=>k424 x425 h421 [] []) fun x426 h427 _ _=>guardS x391 true h427 (fun k430=>loadA 3 x426 h427 fun x431 r432=>k430 x431 h427 r432 []) fun x433 h434 r435 w436=>chkS [] r435 w436 (S46_528 h434 x391 x29 r435 w436 r422 w423 r403 w404 ih x433 x28))
def S46_530 (h388:Hp) (x391 x29:IV) (ih:Handler) (x28:IV):OH :=
 guardS x391 true h388 (fun k392=>faddrS 2 x29 fun x393=>k392 x393 h388 [] []) fun x394 h395 _ _=>guardS x391 true h395 (fun k398=>load1 x394 h395 fun x399 r400=>k398 x399 h395 r400 []) fun x401 h402 r403 w404=>chkS [] r403 w404 (guardS x391 true h402 (fun k405=>ixS 3 x401 (.fv (.int .i64 1)) fun x406=>k405 x406 h402 [] []) fun x407 h408 _ _=>guardS x391 true h408 (fun k411=>faddrS 2 x407 fun x412=>k411 x412 h408 [] []) fun x413 h414 _ _=>S46_529 h414 x391 x413 x29 r403 w404 ih x28)
def S46_531 (h369:Hp) (x352 x368 x29:IV) (ih:Handler) (x28:IV):OH :=
 guardS x352 true h369 (fun k372=>faddrS 0 x368 fun x373=>k372 x373 h369 [] []) fun x374 h375 _ _=>guardS x352 true h375 (fun k378=>load1 x374 h375 fun x379 r380=>k378 x379 h375 r380 []) fun x381 h382 r383 w384=>chkS [] r383 w384 (guardS x352 true h382 (fun k385=>eqS EE 3 x381 (.fv (.int .i64 9)) fun x386=>k385 x386 h382 [] []) fun x387 h388 _ _=>pickS x352 x387 (.fv (.bool false)) fun x391=>S46_530 h388 x391 x29 ih x28)
def S46_532 (x313 x348:IV) (h349:Hp) (x29:IV) (ih:Handler) (x28:IV):OH :=
 pickS x313 x348 (.fv (.bool false)) fun x352=>guardS x352 true h349 (fun k353=>faddrS 2 x29 fun x354=>k353 x354 h349 [] []) fun x355 h356 _ _=>guardS x352 true h356 (fun k359=>load1 x355 h356 fun x360 r361=>k359 x360 h356 r361 []) fun x362 h363 r364 w365=>chkS [] r364 w365 (guardS x352 true h363 (fun k366=>ixS 3 x362 (.fv (.int .i64 2)) fun x367=>k366 x367 h363 [] []) fun x368 h369 _ _=>S46_531 h369 x352 x368 x29 ih x28)
def S46_533 (h324:Hp) (x313 x323 x29:IV) (ih:Handler) (x28:IV):OH :=
 guardS x313 true h324 (fun k327=>ixS 3 x323 (.fv (.int .i64 1)) fun x328=>k327 x328 h324 [] []) fun x329 h330 _ _=>guardS x313 true h330 (fun k333=>faddrS 0 x329 fun x334=>k333 x334 h330 [] []) fun x335 h336 _ _=>guardS x313 true h336 (fun k339=>load1 x335 h336 fun x340 r341=>k339 x340 h336 r341 []) fun x342 h343 r344 w345=>chkS [] r344 w345 (guardS x313 true h343 (fun k346=>eqS EE 3 x342 (.fv (.int .i64 8)) fun x347=>k346 x347 h343 [] []) fun x348 h349 _ _=>S46_532 x313 x348 h349 x29 ih x28)
def S46_534 (r312:LRf) (x311:IV) (h284:Hp) (x29:IV) (ih:Handler) (x28:IV):OH :=
 chkS [] r312 [] (eqS EE 3 x311 (.fv (.int .i64 7)) fun x313=>guardS x313 true h284 (fun k314=>faddrS 2 x29 fun x315=>k314 x315 h284 [] []) fun x316 h317 _ _=>guardS x313 true h317 (fun k320=>load1 x316 h317 fun x321 r322=>k320 x321 h317 r322 []) fun x323 h324 r325 w326=>chkS [] r325 w326 (S46_533 h324 x313 x323 x29 ih x28))
def S46_535 (x230 x283 x29:IV) (h284:Hp) (ih:Handler) (x28 x27:IV):OH :=
 pickS x230 x283 (.fv (.bool false)) fun x287=>condS x287 (faddrS 2 x29 fun x288=>load1 x288 h284 fun x289 r290=>S46_522 r290 x289 h284 ih x28) (faddrS 0 x27 fun x310=>load1 x310 h284 fun x311 r312=>S46_534 r312 x311 h284 x29 ih x28)
def S46_536 (h266:Hp) (x230 x265:IV) (ih:Handler) (x29 x28 x27:IV):OH :=
 guardS x230 true h266 (fun k269=>loadA 3 x265 h266 fun x270 r271=>k269 x270 h266 r271 []) fun x272 h273 r274 w275=>chkS [] r274 w275 (guardS x230 true h273 (fun k276=>isoS [] false false ih 68 [x272,.fv (.int .i64 0)] h273 k276) fun x277 h278 r279 w280=>chkS [] r279 w280 (guardS x230 true h278 (fun k281=>optS (unR .not x277) fun x282=>k281 x282 h278 [] []) fun x283 h284 _ _=>S46_535 x230 x283 x29 h284 ih x28 x27))
def S46_537 (h241:Hp) (x230 x240:IV) (ih:Handler) (x29 x28 x27:IV):OH :=
 guardS x230 true h241 (fun k244=>ixS 3 x240 (.fv (.int .i64 1)) fun x245=>k244 x245 h241 [] []) fun x246 h247 _ _=>guardS x230 true h247 (fun k250=>faddrS 2 x246 fun x251=>k250 x251 h247 [] []) fun x252 h253 _ _=>guardS x230 true h253 (fun k256=>load1 x252 h253 fun x257 r258=>k256 x257 h253 r258 []) fun x259 h260 r261 w262=>chkS [] r261 w262 (guardS x230 true h260 (fun k263=>ixS 3 x259 (.fv (.int .i64 0)) fun x264=>k263 x264 h260 [] []) fun x265 h266 _ _=>S46_536 h266 x230 x265 ih x29 x28 x27)
def S46_538 (r228 w229:LRf) (x174 x226:IV) (h227:Hp) (x29:IV) (ih:Handler) (x28 x27:IV):OH :=
 chkS [] r228 w229 (pickS x174 x226 (.fv (.bool false)) fun x230=>guardS x230 true h227 (fun k231=>faddrS 2 x29 fun x232=>k231 x232 h227 [] []) fun x233 h234 _ _=>guardS x230 true h234 (fun k237=>load1 x233 h234 fun x238 r239=>k237 x238 h234 r239 []) fun x240 h241 r242 w243=>chkS [] r242 w243 (S46_537 h241 x230 x240 ih x29 x28 x27))
def S46_539 (h210:Hp) (x174 x209:IV) (ih:Handler) (r205 w206 r186 w187:LRf) (x29 x28 x27:IV):OH :=
 guardS x174 true h210 (fun k213=>loadA 3 x209 h210 fun x214 r215=>k213 x214 h210 r215 []) fun x216 h217 r218 w219=>chkS [] r218 w219 (guardS x174 true h217 (fun k220=>isoS [] false false ih 34 [.fv (.int .i64 0)] h217 k220) fun x221 h222 r223 w224=>chkS [(r218,w219),(r205,w206),(r186,w187)] r223 w224 (guardS x174 true h222 (fun k225=>isoS [] false false ih 21 [x216,x221] h222 k225) fun x226 h227 r228 w229=>S46_538 r228 w229 x174 x226 h227 x29 ih x28 x27))
def S46_540 (h185:Hp) (x174 x184:IV) (ih:Handler) (r186 w187:LRf) (x29 x28 x27:IV):OH :=
 guardS x174 true h185 (fun k188=>ixS 3 x184 (.fv (.int .i64 1)) fun x189=>k188 x189 h185 [] []) fun x190 h191 _ _=>guardS x174 true h191 (fun k194=>faddrS 2 x190 fun x195=>k194 x195 h191 [] []) fun x196 h197 _ _=>guardS x174 true h197 (fun k200=>load1 x196 h197 fun x201 r202=>k200 x201 h197 r202 []) fun x203 h204 r205 w206=>chkS [] r205 w206 (guardS x174 true h204 (fun k207=>ixS 3 x203 (.fv (.int .i64 1)) fun x208=>k207 x208 h204 [] []) fun x209 h210 _ _=>S46_539 h210 x174 x209 ih r205 w206 r186 w187 x29 x28 x27)
def S46_541 (h165:Hp) (x135 x164 x29:IV) (ih:Handler) (x28 x27:IV):OH :=
 guardS x135 true h165 (fun k168=>eqS EE 3 x164 (.fv (.int .i64 5)) fun x169=>k168 x169 h165 [] []) fun x170 h171 _ _=>pickS x135 x170 (.fv (.bool false)) fun x174=>guardS x174 true h171 (fun k175=>faddrS 2 x29 fun x176=>k175 x176 h171 [] []) fun x177 h178 _ _=>guardS x174 true h178 (fun k181=>load1 x177 h178 fun x182 r183=>k181 x182 h178 r183 []) fun x184 h185 r186 w187=>chkS [] r186 w187 (S46_540 h185 x174 x184 ih r186 w187 x29 x28 x27)
def S46_542 (r147 w148:LRf) (h146:Hp) (x135 x145 x29:IV) (ih:Handler) (x28 x27:IV):OH :=
 chkS [] r147 w148 (guardS x135 true h146 (fun k149=>ixS 3 x145 (.fv (.int .i64 1)) fun x150=>k149 x150 h146 [] []) fun x151 h152 _ _=>guardS x135 true h152 (fun k155=>faddrS 0 x151 fun x156=>k155 x156 h152 [] []) fun x157 h158 _ _=>guardS x135 true h158 (fun k161=>load1 x157 h158 fun x162 r163=>k161 x162 h158 r163 []) fun x164 h165 r166 w167=>chkS [] r166 w167 (S46_541 h165 x135 x164 x29 ih x28 x27))
def S46_543 (h26:Hp) (x132 x29:IV) (ih:Handler) (x28 x27:IV):OH :=
 load1 x132 h26 fun x133 r134=>chkS [] r134 [] (eqS EE 3 x133 (.fv (.int .i64 4)) fun x135=>guardS x135 true h26 (fun k136=>faddrS 2 x29 fun x137=>k136 x137 h26 [] []) fun x138 h139 _ _=>guardS x135 true h139 (fun k142=>load1 x138 h139 fun x143 r144=>k142 x143 h139 r144 []) fun x145 h146 r147 w148=>S46_542 r147 w148 h146 x135 x145 x29 ih x28 x27)
def S46_544 (h26:Hp) (x31 x30 x27:IV) (ih:Handler) (x29:IV) (h1:Hp) (x28:IV) (q24:List IV→Hp→OH):OH :=
 load1 x31 h26 fun x32 _=>lenS x32 fun x34=>ltS EE 3 x30 x34 fun x35=>condS x35 (faddrS 2 x27 fun x36=>S46_519 h26 x36 x30 ih x29 h1 x27 x28 q24) (faddrS 0 x27 fun x132=>S46_543 h26 x132 x29 ih x28 x27)
def S46_545 (l25:List IV) (h26:Hp) (ih:Handler) (h1:Hp) (q24:List IV→Hp→OH):OH :=
 uncS l25 fun x27 l508=>uncS l508 fun x28 l509=>uncS l509 fun x29 l510=>uncS l510 fun x30 _=>faddrS 2 x27 fun x31=>S46_544 h26 x31 x30 x27 ih x29 h1 x28 q24
def S46_546 (x11 x14:IV) (h7 h1:Hp) (x2 x6:IV) (n:Nat) (ih:Handler):OH :=
 bldS [.fv (.int .i64 0),.fv (.int .i64 0),.nils] [(0,1,x11),(1,1,x14)] fun x16=>newS 48235525 (.row [.fv (.int .i64 0),.fv (.int .i64 0),.nils] false) (.ptr (.own 48235525) 0) h7 fun x17 h18 _ _=>storeA 3 x17 x16 h18 fun h21 _ _=>dropS (h1.own.map (·.1)) [48239622,48242692] [x2,x6,x17,.fv (.int .i64 0)] h21 fun h512=>loopS n (fun q24 l25 h26=>S46_545 l25 h26 ih h1 q24) [x2,x6,x17,.fv (.int .i64 0)] h512
def S46 (ih:Handler) (n:Nat) (x0:IV) (h1:Hp):OH :=
 boxS 48234496 x0 h1 fun x2 h3 _ _=>newS 48234497 (.row [.fv (.int .i64 0),.fv (.int .i64 0),.nils] false) (.ptr (.own 48234497) 0) h3 fun x6 h7 _ _=>faddrS 0 x2 fun x10=>load1 x10 h7 fun x11 _=>faddrS 1 x2 fun x13=>load1 x13 h7 fun x14 _=>S46_546 x11 x14 h7 h1 x2 x6 n ih
theorem S46_ok (ih:Handler) (n:Nat) (x0:IV) (h1:Hp):funS EE ih ft.get n 46 [x0] h1=S46 ih n x0 h1:=by kernel_rfl
def S47_53 (x12 x43 x13:IV) (q7:List IV→Hp→OH) (h44:Hp) (x10 x11:IV):OH :=
 addS EE 3 x12 x43 fun x47=>addS EE 3 x13 (.fv (.int .i64 1)) fun x48=>q7 [x10,x11,x47,x48] h44
def S47_54 (h32:Hp) (x36 x13 x10 x12:IV) (ih:Handler) (q7:List IV→Hp→OH) (x11:IV):OH :=
 load1 x36 h32 fun x37 _=>ixS 3 x37 x13 fun x39=>loadA 3 x39 h32 fun x40 _=>subS EE 3 x10 x12 fun x42=>isoS [] false false ih 47 [x40,x42] h32 fun x43 h44 _ _=>S47_53 x12 x43 x13 q7 h44 x10 x11
def S47_55 (h26:Hp) (x18 x20 x25 x11 x13 x10 x12:IV) (ih:Handler) (q7:List IV→Hp→OH):OH :=
 guardS x18 true h26 (fun k29=>ltS EE 3 x20 x25 fun x30=>k29 x30 h26 [] []) fun x31 h32 _ _=>pickS x18 x31 (.fv (.bool false)) fun x35=>condS x35 (faddrS 2 x11 fun x36=>S47_54 h32 x36 x13 x10 x12 ih q7 x11) (outS1 [x12] h32)
def S47_56 (h9:Hp) (x14 x13 x12 x10 x11:IV) (ih:Handler) (q7:List IV→Hp→OH):OH :=
 load1 x14 h9 fun x15 _=>lenS x15 fun x17=>ltS EE 3 x13 x17 fun x18=>guardS x18 true h9 (fun k19=>k19 x12 h9 [] []) fun x20 h21 _ _=>guardS x18 true h21 (fun k24=>k24 x10 h21 [] []) fun x25 h26 _ _=>S47_55 h26 x18 x20 x25 x11 x13 x10 x12 ih q7
def S47_57 (l8:List IV) (h9:Hp) (ih:Handler) (q7:List IV→Hp→OH):OH :=
 uncS l8 fun x10 l49=>uncS l49 fun x11 l50=>uncS l50 fun x12 l51=>uncS l51 fun x13 _=>faddrS 2 x11 fun x14=>S47_56 h9 x14 x13 x12 x10 x11 ih q7
def S47 (ih:Handler) (n:Nat) (x0 x1:IV) (h2:Hp):OH :=
 boxS 49283072 x0 h2 fun x3 h4 _ _=>loopS n (fun q7 l8 h9=>S47_57 l8 h9 ih q7) [x1,x3,.fv (.int .i64 1),.fv (.int .i64 0)] h4
theorem S47_ok (ih:Handler) (n:Nat) (x0 x1:IV) (h2:Hp):funS EE ih ft.get n 47 [x0,x1] h2=S47 ih n x0 x1 h2:=by kernel_rfl
def S48_264 (h20:Hp) (x5:IV):OH :=
 bldS [.fv (.int .i64 0),.fv (.int .i64 0),.nils] [] fun x26=>storeA 3 x5 x26 h20 fun h27 _ _=>cellS true 3 x5 h27 fun x30=>outS1 [x30] h27
def S48_265 (ih:Handler) (h20:Hp) (x41 x5:IV):OH :=
 isoS [] false false ih 34 [x41] h20 fun x42 h43 _ _=>storeA 3 x5 x42 h43 fun h46 _ _=>cellS true 3 x5 h46 fun x49=>outS1 [x49] h46
def S48_266 (x2 x1:IV) (h20:Hp) (ih:Handler) (x5:IV):OH :=
 subS EE 3 x2 (.fv (.int .i64 1)) fun x36=>nilS x1 fun x37=>faddrS 1 x37 fun x38=>load1 x38 h20 fun x39 _=>subS EE 3 x36 x39 fun x41=>S48_265 ih h20 x41 x5
def S48_267 (h4 h126:Hp) (x98 x99 x100 x101 x102 x103 x129:IV) (q66:List IV→Hp→OH):OH :=
 dropS (h4.own.map (·.1)) [50351109,50353163] [x98,x99,x100,x101,x102,x103,x129] h126 fun h130=>q66 [x98,x99,x100,x101,x102,x103,x129] h130
def S48_268 (r123 w124:LRf) (x103:IV) (h122:Hp) (x121 x104:IV) (h4:Hp) (x98 x99 x100 x101 x102:IV) (q66:List IV→Hp→OH):OH :=
 chkS [] r123 w124 (faddrS 2 x103 fun x125=>store1 x125 x121 h122 fun h126 r127 w128=>chkS [] r127 w128 (addS EE 3 x104 (.fv (.int .i64 1)) fun x129=>S48_267 h4 h126 x98 x99 x100 x101 x102 x103 x129 q66))
def S48_269 (ih:Handler) (h107:Hp) (x98 x106 x111 x112:IV) (r110:LRf) (x109 x103 x104:IV) (h4:Hp) (x99 x100 x101 x102:IV) (q66:List IV→Hp→OH):OH :=
 isoS [true,false,false,false] false false ih 48 [x98,x106,x111,x112] h107 fun x113 h114 r115 w116=>chkS [(r110,[])] r115 w116 (genS (pcBuildSlice EE 29 1 [(0,x113)]) 50353162 h114 fun x117 h118 r119 w120=>chkS [(r110,[])] r119 w120 (genS (builtinR EE 50353163 false .append [29,29] [x109,x117]) 50353163 h118 fun x121 h122 r123 w124=>S48_268 r123 w124 x103 h122 x121 x104 h4 x98 x99 x100 x101 x102 q66))
def S48_270 (x103:IV) (h107:Hp) (x100 x105 x101:IV) (ih:Handler) (x98 x106 x104:IV) (h4:Hp) (x99 x102:IV) (q66:List IV→Hp→OH):OH :=
 faddrS 2 x103 fun x108=>load1 x108 h107 fun x109 r110=>chkS [] r110 [] (addS EE 3 x100 x105 fun x111=>addS EE 3 x101 (.fv (.int .i64 1)) fun x112=>S48_269 ih h107 x98 x106 x111 x112 r110 x109 x103 x104 h4 x99 x100 x101 x102 q66)
def S48_271 (h4 h162:Hp) (x139 x140 x141 x142 x143 x144 x145 x146 x147 x161 x165:IV) (q136:List IV→Hp→OH):OH :=
 dropS (h4.own.map (·.1)) [50351109] [x139,x140,x141,x142,x143,x144,x145,x146,x147,x161,x165] h162 fun h166=>q136 [x139,x140,x141,x142,x143,x144,x145,x146,x147,x161,x165] h166
def S48_272 (x151:IV) (h138:Hp) (ih:Handler) (x148 x149:IV) (h4:Hp) (x139 x140 x141 x142 x143 x144 x145 x146 x147:IV) (q136:List IV→Hp→OH):OH :=
 bldS [.fv (.int .i64 0),.fv (.int .i64 0),.nils,.nils,.fv (.int .i64 0),.fv (.int .i64 0),.nils] [(0,1,.fv (.int .i64 1)),(1,1,x151)] fun x152=>fzS (pcBox true 50351109 x152) 50351109 x152 h138 fun x153 h154 _ _=>genS (pcBuildSlice EE 93 1 [(0,x153)]) 50351110 h154 fun x157 h158 _ _=>isoS [] false false ih 69 [x148,x157] h158 fun x161 h162 _ _=>addS EE 3 x149 (.fv (.int .i64 1)) fun x165=>S48_271 h4 h162 x139 x140 x141 x142 x143 x144 x145 x146 x147 x161 x165 q136
def S48_273 (x167:IV) (h138:Hp) (ih:Handler) (x139 x148:IV) (j9_97:IV→IV→IV→IV→IV→IV→IV→IV→IV→Hp→OH) (x140 x141 x142 x143 x144 x145 x146:IV):OH :=
 faddrS 4 x167 fun x168=>loadA 3 x168 h138 fun x169 _=>isoS [true,false,false] false false ih 49 [x139,x169,x148] h138 fun x171 h172 _ _=>j9_97 x139 x140 x141 x142 x143 x144 x145 x146 x171 h172
def S48_274 (l184:List IV) (x146 x141:IV) (h138:Hp) (ih:Handler) (x148:IV) (h4:Hp) (x139 x140 x142 x143 x144 x145 x147:IV) (q136:List IV→Hp→OH) (j9_97:IV→IV→IV→IV→IV→IV→IV→IV→IV→Hp→OH):OH :=
 uncS l184 fun x149 _=>ltS EE 3 x149 x146 fun x150=>condS x150 (addS EE 3 x141 x149 fun x151=>S48_272 x151 h138 ih x148 x149 h4 x139 x140 x141 x142 x143 x144 x145 x146 x147 q136) (nilS x147 fun x167=>S48_273 x167 h138 ih x139 x148 j9_97 x140 x141 x142 x143 x144 x145 x146)
def S48_275 (l179:List IV) (x141:IV) (h138:Hp) (ih:Handler) (h4:Hp) (x139 x140 x142 x143:IV) (q136:List IV→Hp→OH) (j9_97:IV→IV→IV→IV→IV→IV→IV→IV→IV→Hp→OH):OH :=
 uncS l179 fun x144 l180=>uncS l180 fun x145 l181=>uncS l181 fun x146 l182=>uncS l182 fun x147 l183=>uncS l183 fun x148 l184=>S48_274 l184 x146 x141 h138 ih x148 h4 x139 x140 x142 x143 x144 x145 x147 q136 j9_97
def S48_276 (l137:List IV) (h138:Hp) (ih:Handler) (h4:Hp) (q136:List IV→Hp→OH) (j9_97:IV→IV→IV→IV→IV→IV→IV→IV→IV→Hp→OH):OH :=
 uncS l137 fun x139 l175=>uncS l175 fun x140 l176=>uncS l176 fun x141 l177=>uncS l177 fun x142 l178=>uncS l178 fun x143 l179=>S48_275 l179 x141 h138 ih h4 x139 x140 x142 x143 q136 j9_97
def S48_277 (h87:Hp) (x133:IV) (h4:Hp) (x69 x70 x71 x72 x73 x74 x75 x86 x95:IV) (n:Nat) (ih:Handler) (j9_97:IV→IV→IV→IV→IV→IV→IV→IV→IV→Hp→OH):OH :=
 load1 x133 h87 fun x134 _=>dropS (h4.own.map (·.1)) [50351109] [x69,x70,x71,x72,x73,x74,x75,x86,x95,x134,.fv (.int .i64 0)] h87 fun h186=>loopS n (fun q136 l137 h138=>S48_276 l137 h138 ih h4 q136 j9_97) [x69,x70,x71,x72,x73,x74,x75,x86,x95,x134,.fv (.int .i64 0)] h186
def S48_278 (x131 x95:IV) (h87 h4:Hp) (x69 x70 x71 x72 x73 x74 x75 x86:IV) (n:Nat) (ih:Handler) (j9_97:IV→IV→IV→IV→IV→IV→IV→IV→IV→Hp→OH):OH :=
 condS x131 (nilS x95 fun x132=>faddrS 3 x132 fun x133=>S48_277 h87 x133 h4 x69 x70 x71 x72 x73 x74 x75 x86 x95 n ih j9_97) (j9_97 x69 x70 x71 x72 x73 x74 x75 x86 x95 h87)
def S48_279 (h87:Hp) (x91 x75:IV) (ih:Handler) (h4:Hp) (q66:List IV→Hp→OH) (x86 x69 x70 x71 x72 x73 x74:IV) (n:Nat):OH :=
 load1 x91 h87 fun x92 _=>ixS 1 x92 x75 fun x94=>load1 x94 h87 fun x95 _=>(fun (j9_97:IV→IV→IV→IV→IV→IV→IV→IV→IV→Hp→OH)=>gtS EE 3 x86 (.fv (.int .i64 0)) fun x131=>S48_278 x131 x95 h87 h4 x69 x70 x71 x72 x73 x74 x75 x86 n ih j9_97) fun x98 x99 x100 x101 x102 x103 x104 x105 x106 h107=>S48_270 x103 h107 x100 x105 x101 ih x98 x106 x104 h4 x99 x102 q66
def S48_280 (x82:IV) (h68:Hp) (ih:Handler) (x75 x70:IV) (h4:Hp) (q66:List IV→Hp→OH) (x69 x71 x72 x73 x74:IV) (n:Nat):OH :=
 faddrS 0 x82 fun x83=>load1 x83 h68 fun x84 _=>isoS [] false false ih 63 [x84,x75] h68 fun x86 h87 _ _=>nilS x70 fun x90=>faddrS 2 x90 fun x91=>S48_279 h87 x91 x75 ih h4 q66 x86 x69 x70 x71 x72 x73 x74 n
def S48_281 (h68:Hp) (x73 x187:IV):OH :=
 storeA 3 x73 x187 h68 fun h189 _ _=>cellS true 3 x73 h189 fun x192=>outS1 [x192] h189
def S48_282 (x78 x75 x70:IV) (h68:Hp) (ih:Handler) (h4:Hp) (q66:List IV→Hp→OH) (x69 x71 x72 x73 x74:IV) (n:Nat):OH :=
 lenS x78 fun x80=>ltS EE 3 x75 x80 fun x81=>condS x81 (nilS x70 fun x82=>S48_280 x82 h68 ih x75 x70 h4 q66 x69 x71 x72 x73 x74 n) (loadA 3 x74 h68 fun x187 _=>S48_281 h68 x73 x187)
def S48_283 (l197:List IV) (x70:IV) (h68:Hp) (ih:Handler) (h4:Hp) (q66:List IV→Hp→OH) (x69 x71 x72 x73:IV) (n:Nat):OH :=
 uncS l197 fun x74 l198=>uncS l198 fun x75 _=>nilS x70 fun x76=>faddrS 2 x76 fun x77=>load1 x77 h68 fun x78 _=>S48_282 x78 x75 x70 h68 ih h4 q66 x69 x71 x72 x73 x74 n
def S48_284 (l67:List IV) (h68:Hp) (ih:Handler) (h4:Hp) (q66:List IV→Hp→OH) (n:Nat):OH :=
 uncS l67 fun x69 l193=>uncS l193 fun x70 l194=>uncS l194 fun x71 l195=>uncS l195 fun x72 l196=>uncS l196 fun x73 l197=>S48_283 l197 x70 h68 ih h4 q66 x69 x71 x72 x73 n
def S48_285 (r61 w62 r57 r53:LRf) (h60:Hp) (x59 x58:IV) (h4:Hp) (x0 x1 x2 x3 x5:IV) (n:Nat) (ih:Handler):OH :=
 chkS [(r57,[]),(r53,[])] r61 w62 (storeA 3 x59 x58 h60 fun h63 r64 w65=>chkS [] r64 w65 (dropS (h4.own.map (·.1)) [50351109,50353163] [x0,x1,x2,x3,x5,x59,.fv (.int .i64 0)] h63 fun h200=>loopS n (fun q66 l67 h68=>S48_284 l67 h68 ih h4 q66 n) [x0,x1,x2,x3,x5,x59,.fv (.int .i64 0)] h200))
def S48_286 (x54:IV) (h20:Hp) (r53:LRf) (x52:IV) (h4:Hp) (x0 x1 x2 x3 x5:IV) (n:Nat) (ih:Handler):OH :=
 faddrS 1 x54 fun x55=>load1 x55 h20 fun x56 r57=>chkS [(r53,[])] r57 [] (bldS [.fv (.int .i64 0),.fv (.int .i64 0),.nils] [(0,1,x52),(1,1,x56)] fun x58=>newS 50339849 (.row [.fv (.int .i64 0),.fv (.int .i64 0),.nils] false) (.ptr (.own 50339849) 0) h20 fun x59 h60 r61 w62=>S48_285 r61 w62 r57 r53 h60 x59 x58 h4 x0 x1 x2 x3 x5 n ih)
def S48_287 (x1:IV) (h20 h4:Hp) (x0 x2 x3 x5:IV) (n:Nat) (ih:Handler):OH :=
 nilS x1 fun x50=>faddrS 0 x50 fun x51=>load1 x51 h20 fun x52 r53=>chkS [] r53 [] (nilS x1 fun x54=>S48_286 x54 h20 r53 x52 h4 x0 x1 x2 x3 x5 n ih)
def S48_288 (x1:IV) (h20:Hp) (x2:IV) (ih:Handler) (x5:IV) (h4:Hp) (x0 x3:IV) (n:Nat):OH :=
 nilS x1 fun x31=>faddrS 0 x31 fun x32=>load1 x32 h20 fun x33 _=>eqS EE 3 x33 (.fv (.int .i64 1)) fun x35=>condS x35 (S48_266 x2 x1 h20 ih x5) (S48_287 x1 h20 h4 x0 x2 x3 x5 n ih)
def S48_289 (x0:IV) (h20:Hp) (x5 x1 x2:IV) (ih:Handler) (h4:Hp) (x3:IV) (n:Nat):OH :=
 nilS x0 fun x21=>faddrS 2 x21 fun x22=>load1 x22 h20 fun x23 _=>neS EE 3 x23 (.fv (.int .i64 0)) fun x25=>condS x25 (S48_264 h20 x5) (S48_288 x1 h20 x2 ih x5 h4 x0 x3 n)
def S48_290 (x259:IV) (h255:Hp) (j0_19:Hp→OH):OH :=
 faddrS 2 x259 fun x260=>store1 x260 (.fv (.int .i64 5)) h255 fun h261 _ _=>j0_19 h261
def S48_291 (h249:Hp) (x205 x237 x248 x0:IV) (j0_19:Hp→OH):OH :=
 guardS x205 true h249 (fun k252=>pickS x237 (.fv (.bool true)) x248 fun x253=>k252 x253 h249 [] []) fun x254 h255 _ _=>pickS x205 x254 (.fv (.bool false)) fun x258=>condS x258 (nilS x0 fun x259=>S48_290 x259 h255 j0_19) (j0_19 h255)
def S48_292 (h220:Hp) (x205 x219 x3 x0:IV) (j0_19:Hp→OH):OH :=
 guardS x205 true h220 (fun k223=>load1 x219 h220 fun x224 r225=>k223 x224 h220 r225 []) fun x226 h227 _ _=>guardS x205 true h227 (fun k230=>gtS EE 3 x226 (.fv (.int .i64 3000)) fun x231=>k230 x231 h227 [] []) fun x232 h233 _ _=>guardS x205 true h233 (fun k236=>k236 x232 h233 [] []) fun x237 h238 _ _=>guardS x237 false h238 (fun k241=>k241 x3 h238 [] []) fun x242 h243 _ _=>guardS x237 false h243 (fun k246=>gtS EE 3 x242 (.fv (.int .i64 120)) fun x247=>k246 x247 h243 [] []) fun x248 h249 _ _=>S48_291 h249 x205 x237 x248 x0 j0_19
def S48_293 (h16:Hp) (x202 x0 x3:IV) (j0_19:Hp→OH):OH :=
 load1 x202 h16 fun x203 _=>eqS EE 3 x203 (.fv (.int .i64 0)) fun x205=>guardS x205 true h16 (fun k206=>k206 x0 h16 [] []) fun x207 h208 _ _=>guardS x205 true h208 (fun k211=>nilS x207 fun x212=>k211 x212 h208 [] []) fun x213 h214 _ _=>guardS x205 true h214 (fun k217=>faddrS 1 x213 fun x218=>k217 x218 h214 [] []) fun x219 h220 _ _=>S48_292 h220 x205 x219 x3 x0 j0_19
def S48_294 (x14:IV) (h6:Hp) (x13 x0 x5 x1 x2:IV) (ih:Handler) (h4:Hp) (x3:IV) (n:Nat):OH :=
 faddrS 1 x14 fun x15=>store1 x15 x13 h6 fun h16 _ _=>(fun (j0_19:Hp→OH)=>nilS x0 fun x201=>faddrS 2 x201 fun x202=>S48_293 h16 x202 x0 x3 j0_19) fun h20=>S48_289 x0 h20 x5 x1 x2 ih h4 x3 n
def S48 (ih:Handler) (n:Nat) (x0 x1 x2 x3:IV) (h4:Hp):OH :=
 newS 50331648 (.row [.fv (.int .i64 0),.fv (.int .i64 0),.nils] false) (.ptr (.own 50331648) 0) h4 fun x5 h6 _ _=>nilS x0 fun x9=>faddrS 1 x9 fun x10=>load1 x10 h6 fun x11 _=>addS EE 3 x11 (.fv (.int .i64 1)) fun x13=>nilS x0 fun x14=>S48_294 x14 h6 x13 x0 x5 x1 x2 ih h4 x3 n
theorem S48_ok (ih:Handler) (n:Nat) (x0 x1 x2 x3:IV) (h4:Hp):funS EE ih ft.get n 48 [x0,x1,x2,x3] h4=S48 ih n x0 x1 x2 x3 h4:=by kernel_rfl
def S49_148 (h5:Hp):OH :=
 bldS [.fv (.int .i64 0),.fv (.int .i64 0),.nils,.nils,.fv (.int .i64 0),.fv (.int .i64 0),.nils] [(0,1,.fv (.int .i64 11))] fun x13=>boxS 51382273 x13 h5 fun x14 h15 _ _=>outS1 [x14] h15
def S49_149 (h5:Hp) (x33:IV):OH :=
 load1 x33 h5 fun x34 _=>outS1 [x34] h5
def S49_150 (x27 x4:IV) (h5:Hp) (x2:IV):OH :=
 subS EE 3 x27 (.fv (.int .i64 1)) fun x28=>faddrS 1 x4 fun x29=>load1 x29 h5 fun x30 _=>subS EE 3 x28 x30 fun x32=>ixS 1 x2 x32 fun x33=>S49_149 h5 x33
def S49_151 (h5:Hp) (x42:IV):OH :=
 boxS 51386375 x42 h5 fun x43 h44 _ _=>outS1 [x43] h44
def S49_152 (x36 x4:IV) (h5:Hp):OH :=
 subS EE 3 x36 (.fv (.int .i64 1)) fun x37=>faddrS 1 x4 fun x38=>load1 x38 h5 fun x39 _=>subS EE 3 x37 x39 fun x41=>bldS [.fv (.int .i64 0),.fv (.int .i64 0),.nils,.nils,.fv (.int .i64 0),.fv (.int .i64 0),.nils] [(0,1,.fv (.int .i64 1)),(1,1,x41)] fun x42=>S49_151 h5 x42
def S49_153 (h5:Hp) (x22 x2 x4:IV):OH :=
 load1 x22 h5 fun x23 _=>lenS x2 fun x25=>ltS EE 3 x23 x25 fun x26=>condS x26 (lenS x2 fun x27=>S49_150 x27 x4 h5 x2) (lenS x2 fun x36=>S49_152 x36 x4 h5)
def S49_154 (x65:IV) (h3 h72:Hp) (x61 x62 x63 x64:IV) (q58:List IV→Hp→OH):OH :=
 addS EE 3 x65 (.fv (.int .i64 1)) fun x73=>dropS (h3.own.map (·.1)) [51392524,51392526,51393550] [x61,x62,x63,x64,x73] h72 fun h74=>q58 [x61,x62,x63,x64,x73] h74
def S49_155 (x64:IV) (h103:Hp) (x102:IV) (j0_71:Hp→OH):OH :=
 nilS x64 fun x106=>faddrS 2 x106 fun x107=>store1 x107 x102 h103 fun h108 r109 w110=>chkS [] r109 w110 (j0_71 h108)
def S49_156 (r96 w97 r86:LRf) (h95:Hp) (x94 x85 x64:IV) (j0_71:Hp→OH):OH :=
 chkS [(r86,[])] r96 w97 (genS (pcBuildSlice EE 93 1 [(0,x94)]) 51392525 h95 fun x98 h99 r100 w101=>chkS [(r86,[])] r100 w101 (genS (builtinR EE 51392526 false .append [93,93] [x85,x98]) 51392526 h99 fun x102 h103 r104 w105=>chkS [] r104 w105 (S49_155 x64 h103 x102 j0_71)))
def S49_157 (x88 x65:IV) (h79:Hp) (r86:LRf) (x62 x85 x64:IV) (j0_71:Hp→OH):OH :=
 ixS 3 x88 x65 fun x90=>loadA 3 x90 h79 fun x91 r92=>chkS [(r86,[])] r92 [] (bldS [.fv (.int .i64 0),.fv (.int .i64 0),.nils,.nils,.fv (.int .i64 0),.fv (.int .i64 0),.nils] [(3,1,x62),(4,3,x91)] fun x93=>boxS 51392524 x93 h79 fun x94 h95 r96 w97=>S49_156 r96 w97 r86 h95 x94 x85 x64 j0_71)
def S49_158 (h79:Hp) (x84 x63 x65 x62 x64:IV) (j0_71:Hp→OH):OH :=
 load1 x84 h79 fun x85 r86=>chkS [] r86 [] (faddrS 2 x63 fun x87=>load1 x87 h79 fun x88 r89=>chkS [(r86,[])] r89 [] (S49_157 x88 x65 h79 r86 x62 x85 x64 j0_71))
def S49_159 (x133:IV) (h130:Hp) (x129:IV) (j0_71:Hp→OH):OH :=
 faddrS 2 x133 fun x134=>store1 x134 x129 h130 fun h135 r136 w137=>chkS [] r136 w137 (j0_71 h135)
def S49_160 (h122:Hp) (x121:IV) (r114:LRf) (x113 x64:IV) (j0_71:Hp→OH):OH :=
 genS (pcBuildSlice EE 93 1 [(0,x121)]) 51393549 h122 fun x125 h126 r127 w128=>chkS [(r114,[])] r127 w128 (genS (builtinR EE 51393550 false .append [93,93] [x113,x125]) 51393550 h126 fun x129 h130 r131 w132=>chkS [] r131 w132 (nilS x64 fun x133=>S49_159 x133 h130 x129 j0_71))
def S49_161 (x116 x65:IV) (h79:Hp) (r114:LRf) (ih:Handler) (x61 x62 x113 x64:IV) (j0_71:Hp→OH):OH :=
 ixS 3 x116 x65 fun x118=>loadA 3 x118 h79 fun x119 r120=>chkS [(r114,[])] r120 [] (isoS [true,false,false] false false ih 49 [x61,x119,x62] h79 fun x121 h122 r123 w124=>chkS [(r114,[])] r123 w124 (S49_160 h122 x121 r114 x113 x64 j0_71))
def S49_162 (h79:Hp) (x112 x63 x65:IV) (ih:Handler) (x61 x62 x64:IV) (j0_71:Hp→OH):OH :=
 load1 x112 h79 fun x113 r114=>chkS [] r114 [] (faddrS 2 x63 fun x115=>load1 x115 h79 fun x116 r117=>chkS [(r114,[])] r117 [] (S49_161 x116 x65 h79 r114 ih x61 x62 x113 x64 j0_71))
def S49_163 (x82 x64:IV) (h79:Hp) (x63 x65 x62:IV) (j0_71:Hp→OH) (ih:Handler) (x61:IV):OH :=
 condS x82 (nilS x64 fun x83=>faddrS 2 x83 fun x84=>S49_158 h79 x84 x63 x65 x62 x64 j0_71) (nilS x64 fun x111=>faddrS 2 x111 fun x112=>S49_162 h79 x112 x63 x65 ih x61 x62 x64 j0_71)
def S49_164 (x65:IV) (h3:Hp) (x61 x62 x63 x64:IV) (q58:List IV→Hp→OH) (h60:Hp) (ih:Handler):OH :=
 (fun (j0_71:Hp→OH)=>faddrS 0 x63 fun x75=>load1 x75 h60 fun x76 _=>isoS [] false false ih 63 [x76,x65] h60 fun x78 h79 _ _=>gtS EE 3 x78 (.fv (.int .i64 0)) fun x82=>S49_163 x82 x64 h79 x63 x65 x62 j0_71 ih x61) fun h72=>S49_154 x65 h3 h72 x61 x62 x63 x64 q58
def S49_165 (ih:Handler) (h60:Hp) (x61 x64:IV):OH :=
 isoS [true,false] false false ih 70 [x61,x64] h60 fun x138 h139 _ _=>outS1 [x138] h139
def S49_166 (x63:IV) (h60:Hp) (x65:IV) (h3:Hp) (x61 x62 x64:IV) (q58:List IV→Hp→OH) (ih:Handler):OH :=
 faddrS 2 x63 fun x66=>load1 x66 h60 fun x67 _=>lenS x67 fun x69=>ltS EE 3 x65 x69 fun x70=>condS x70 (S49_164 x65 h3 x61 x62 x63 x64 q58 h60 ih) (S49_165 ih h60 x61 x64)
def S49_167 (l59:List IV) (h60 h3:Hp) (q58:List IV→Hp→OH) (ih:Handler):OH :=
 uncS l59 fun x61 l142=>uncS l142 fun x62 l143=>uncS l143 fun x63 l144=>uncS l144 fun x64 l145=>uncS l145 fun x65 _=>S49_166 x63 h60 x65 h3 x61 x62 x64 q58 ih
def S49_168 (h3 h55:Hp) (x0 x2 x4 x54:IV) (n:Nat) (ih:Handler):OH :=
 dropS (h3.own.map (·.1)) [51392524,51392526,51393550] [x0,x2,x4,x54,.fv (.int .i64 0)] h55 fun h147=>loopS n (fun q58 l59 h60=>S49_167 l59 h60 h3 q58 ih) [x0,x2,x4,x54,.fv (.int .i64 0)] h147
def S49_169 (h5:Hp) (x47 x4:IV) (h3:Hp) (x0 x2:IV) (n:Nat) (ih:Handler):OH :=
 load1 x47 h5 fun x48 _=>faddrS 1 x4 fun x50=>load1 x50 h5 fun x51 _=>bldS [.fv (.int .i64 0),.fv (.int .i64 0),.nils,.nils,.fv (.int .i64 0),.fv (.int .i64 0),.nils] [(0,1,x48),(1,1,x51)] fun x53=>boxS 51387397 x53 h5 fun x54 h55 _ _=>S49_168 h3 h55 x0 x2 x4 x54 n ih
def S49_170 (x4:IV) (h5:Hp) (x2:IV) (h3:Hp) (x0:IV) (n:Nat) (ih:Handler):OH :=
 faddrS 0 x4 fun x18=>load1 x18 h5 fun x19 _=>eqS EE 3 x19 (.fv (.int .i64 1)) fun x21=>condS x21 (faddrS 1 x4 fun x22=>S49_153 h5 x22 x2 x4) (faddrS 0 x4 fun x47=>S49_169 h5 x47 x4 h3 x0 x2 n ih)
def S49 (ih:Handler) (n:Nat) (x0 x1 x2:IV) (h3:Hp):OH :=
 boxS 51380224 x1 h3 fun x4 h5 _ _=>nilS x0 fun x8=>faddrS 2 x8 fun x9=>load1 x9 h5 fun x10 _=>neS EE 3 x10 (.fv (.int .i64 0)) fun x12=>condS x12 (S49_148 h5) (S49_170 x4 h5 x2 h3 x0 n ih)
theorem S49_ok (ih:Handler) (n:Nat) (x0 x1 x2:IV) (h3:Hp):funS EE ih ft.get n 49 [x0,x1,x2] h3=S49 ih n x0 x1 x2 h3:=by kernel_rfl
def S50_129 (h1 h119:Hp) (x102 x103 x123:IV) (q99:List IV→Hp→OH):OH :=
 dropS (h1.own.map (·.1)) [52434946] [x102,x103,x123] h119 fun h124=>q99 [x102,x103,x123] h124
def S50_130 (ih:Handler) (h113:Hp) (x116 x104:IV) (h1:Hp) (x102 x103:IV) (q99:List IV→Hp→OH):OH :=
 isoS [] false false ih 50 [x116] h113 fun x118 h119 _ _=>optS (unR .not x118) fun x122=>condS x122 (outS1 [.fv (.bool false)] h119) (addS EE 3 x104 (.fv (.int .i64 1)) fun x123=>S50_129 h1 h119 x102 x103 x123 q99)
def S50_131 (x102 x104:IV) (h101:Hp) (ih:Handler) (h1:Hp) (x103:IV) (q99:List IV→Hp→OH):OH :=
 ixS 3 x102 x104 fun x106=>loadA 3 x106 h101 fun x107 _=>newS 52434946 (.row [.fv (.int .i64 0),.fv (.int .i64 0),.nils] false) (.ptr (.own 52434946) 0) h101 fun x109 h110 _ _=>storeA 3 x109 x107 h110 fun h113 _ _=>loadA 3 x109 h113 fun x116 _=>S50_130 ih h113 x116 x104 h1 x102 x103 q99
def S50_132 (l100:List IV) (h101:Hp) (ih:Handler) (h1:Hp) (q99:List IV→Hp→OH):OH :=
 uncS l100 fun x102 l125=>uncS l125 fun x103 l126=>uncS l126 fun x104 _=>ltS EE 3 x104 x103 fun x105=>condS x105 (S50_131 x102 x104 h101 ih h1 x103 q99) (outS1 [.fv (.bool true)] h101)
def S50_133 (x2:IV) (h91 h1:Hp) (n:Nat) (ih:Handler):OH :=
 faddrS 2 x2 fun x95=>load1 x95 h91 fun x96 _=>lenS x96 fun x98=>dropS (h1.own.map (·.1)) [52434946] [x96,x98,.fv (.int .i64 0)] h91 fun h128=>loopS n (fun q99 l100 h101=>S50_132 l100 h101 ih h1 q99) [x96,x98,.fv (.int .i64 0)] h128
def S50_134 (h72:Hp) (x65 x71 x44 x2:IV) (h1:Hp) (n:Nat) (ih:Handler):OH :=
 guardS x65 true h72 (fun k75=>load1 x71 h72 fun x76 r77=>k75 x76 h72 r77 []) fun x78 h79 _ _=>guardS x65 true h79 (fun k82=>ltS EE 3 x78 (.fv (.int .i64 0)) fun x83=>k82 x83 h79 [] []) fun x84 h85 _ _=>guardS x44 false h85 (fun k88=>pickS x65 x84 (.fv (.bool false)) fun x89=>k88 x89 h85 [] []) fun x90 h91 _ _=>pickS x44 (.fv (.bool true)) x90 fun x94=>condS x94 (outS1 [.fv (.bool false)] h91) (S50_133 x2 h91 h1 n ih)
def S50_135 (h41:Hp) (x44 x2:IV) (h1:Hp) (n:Nat) (ih:Handler):OH :=
 guardS x44 false h41 (fun k45=>faddrS 0 x2 fun x46=>k45 x46 h41 [] []) fun x47 h48 _ _=>guardS x44 false h48 (fun k51=>load1 x47 h48 fun x52 r53=>k51 x52 h48 r53 []) fun x54 h55 _ _=>guardS x44 false h55 (fun k58=>eqS EE 3 x54 (.fv (.int .i64 1)) fun x59=>k58 x59 h55 [] []) fun x60 h61 _ _=>guardS x44 false h61 (fun k64=>k64 x60 h61 [] []) fun x65 h66 _ _=>guardS x65 true h66 (fun k69=>faddrS 1 x2 fun x70=>k69 x70 h66 [] []) fun x71 h72 _ _=>S50_134 h72 x65 x71 x44 x2 h1 n ih
def S50_136 (h16:Hp) (x13 x2 x15:IV) (h1:Hp) (n:Nat) (ih:Handler):OH :=
 guardS x13 true h16 (fun k19=>faddrS 2 x2 fun x20=>k19 x20 h16 [] []) fun x21 h22 _ _=>guardS x13 true h22 (fun k25=>load1 x21 h22 fun x26 r27=>k25 x26 h22 r27 []) fun x28 h29 _ _=>guardS x13 true h29 (fun k32=>lenS x28 fun x33=>k32 x33 h29 [] []) fun x34 h35 _ _=>guardS x13 true h35 (fun k38=>neS EE 3 x15 x34 fun x39=>k38 x39 h35 [] []) fun x40 h41 _ _=>pickS x13 x40 (.fv (.bool false)) fun x44=>S50_135 h41 x44 x2 h1 n ih
def S50 (ih:Handler) (n:Nat) (x0:IV) (h1:Hp):OH :=
 boxS 52428800 x0 h1 fun x2 h3 _ _=>faddrS 0 x2 fun x6=>load1 x6 h3 fun x7 _=>isoS [] false false ih 71 [x7] h3 fun x9 h10 _ _=>geS EE 3 x9 (.fv (.int .i64 0)) fun x13=>guardS x13 true h10 (fun k14=>k14 x9 h10 [] []) fun x15 h16 _ _=>S50_136 h16 x13 x2 x15 h1 n ih
theorem S50_ok (ih:Handler) (n:Nat) (x0:IV) (h1:Hp):funS EE ih ft.get n 50 [x0] h1=S50 ih n x0 h1:=by kernel_rfl
def S51_69 (x2:IV) (h61:Hp) (x6:IV):OH :=
 nilS x2 fun x64=>faddrS 4 x64 fun x65=>store1 x65 x6 h61 fun h66 _ _=>outS1 [x2] h66
def S51_70 (x46:IV) (h47:Hp) (x6 x2:IV):OH :=
 bldS [.fv (.nilf)] [(0,1,x46)] fun x50=>genS (pcInsert EE 78 x6 (.fv (.int .i64 30)) x50) 53479445 h47 fun _ h52 _ _=>genS (val (mkFunc (.func 76) [x2] [])) 53479447 h52 fun x55 h56 _ _=>bldS [.fv (.nilf)] [(0,1,x55)] fun x59=>genS (pcInsert EE 78 x6 (.fv (.int .i64 19)) x59) 53479449 h56 fun _ h61 _ _=>S51_69 x2 h61 x6
def S51_71 (h29:Hp) (x6 x32 x2:IV):OH :=
 genS (pcInsert EE 78 x6 (.fv (.int .i64 9)) x32) 53479437 h29 fun _ h34 _ _=>genS (val (mkFunc (.func 74) [x2] [])) 53479439 h34 fun x37 h38 _ _=>bldS [.fv (.nilf)] [(0,1,x37)] fun x41=>genS (pcInsert EE 78 x6 (.fv (.int .i64 13)) x41) 53479441 h38 fun _ h43 _ _=>genS (val (mkFunc (.func 75) [x2] [])) 53479443 h43 fun x46 h47 _ _=>S51_70 x46 h47 x6 x2
def S51_72 (h16:Hp) (x2 x6:IV):OH :=
 genS (val (mkFunc (.func 73) [x2] [])) 53479431 h16 fun x19 h20 _ _=>bldS [.fv (.nilf)] [(0,1,x19)] fun x23=>genS (pcInsert EE 78 x6 (.fv (.int .i64 8)) x23) 53479433 h20 fun _ h25 _ _=>genS (val (mkFunc (.func 73) [x2] [])) 53479435 h25 fun x28 h29 _ _=>bldS [.fv (.nilf)] [(0,1,x28)] fun x32=>S51_71 h29 x6 x32 x2
def S51 (ih:Handler) (n:Nat) (h0:Hp):OH :=
 bldS [.fv (.int .i64 0),.fv (.int .i64 0),.fv (.int .i64 0),.fv (.int .i64 0),.dead] [(0,1,.fv (.int .i64 100000)),(1,1,.fv (.int .i64 5000000))] fun x1=>boxS 53478401 x1 h0 fun x2 h3 _ _=>genS (pcMakeMap 53479425) 53479425 h3 fun x6 h7 _ _=>genS (val (mkFunc (.func 72) [x2] [])) 53479427 h7 fun x10 h11 _ _=>bldS [.fv (.nilf)] [(0,1,x10)] fun x14=>genS (pcInsert EE 78 x6 (.fv (.int .i64 5)) x14) 53479429 h11 fun _ h16 _ _=>S51_72 h16 x2 x6
theorem S51_ok (ih:Handler) (n:Nat) (h0:Hp):funS EE ih ft.get n 51 [] h0=S51 ih n h0:=by kernel_rfl
def S52_117 (x4:IV) (h9:Hp) (ih:Handler) (x1:IV):OH :=
 faddrS 1 x4 fun x16=>load1 x16 h9 fun x17 _=>isoS [] false false ih 78 [x1,x17] h9 fun x19 h20 _ _=>outS1 [x19] h20
def S52_118 (x62:IV) (h3 h65:Hp) (x56 x57 x58 x59 x60 x61:IV) (q53:List IV→Hp→OH):OH :=
 addS EE 3 x62 (.fv (.int .i64 1)) fun x66=>dropS (h3.own.map (·.1)) [54535171] [x56,x57,x58,x59,x60,x61,x66] h65 fun h67=>q53 [x56,x57,x58,x59,x60,x61,x66] h67
def S52_119 (ih:Handler) (h82:Hp) (x56 x57 x90:IV) (r89:LRf) (x88 x62:IV) (j0_64:Hp→OH):OH :=
 isoS [true,false,false] false false ih 52 [x56,x57,x90] h82 fun x92 h93 r94 w95=>chkS [(r89,[])] r94 w95 (ixS 1 x88 x62 fun x96=>store1 x96 x92 h93 fun h97 r98 w99=>chkS [] r98 w99 (j0_64 h97))
def S52_120 (x86:IV) (h82:Hp) (x71:IV) (ih:Handler) (x56 x57 x62:IV) (j0_64:Hp→OH):OH :=
 faddrS 2 x86 fun x87=>load1 x87 h82 fun x88 r89=>chkS [] r89 [] (loadA 3 x71 h82 fun x90 r91=>chkS [(r89,[])] r91 [] (S52_119 ih h82 x56 x57 x90 r89 x88 x62 j0_64))
def S52_121 (h75:Hp) (x78:IV) (ih:Handler) (x62 x59 x71 x56 x57:IV) (j0_64:Hp→OH):OH :=
 load1 x78 h75 fun x79 _=>isoS [] false false ih 79 [x79,x62] h75 fun x81 h82 _ _=>eqS EE 3 x81 (.fv (.int .i64 0)) fun x85=>condS x85 (nilS x59 fun x86=>S52_120 x86 h82 x71 ih x56 x57 x62 j0_64) (j0_64 h82)
def S52_122 (x60 x62:IV) (h55:Hp) (x58:IV) (ih:Handler) (x59 x56 x57:IV) (j0_64:Hp→OH):OH :=
 ixS 3 x60 x62 fun x68=>loadA 3 x68 h55 fun x69 _=>newS 54535171 (.row [.fv (.int .i64 0),.fv (.int .i64 0),.nils] false) (.ptr (.own 54535171) 0) h55 fun x71 h72 _ _=>storeA 3 x71 x69 h72 fun h75 _ _=>faddrS 0 x58 fun x78=>S52_121 h75 x78 ih x62 x59 x71 x56 x57 j0_64
def S52_123 (x100:IV) (h55:Hp) (x59:IV) (ih:Handler) (x56:IV):OH :=
 faddrS 3 x100 fun x101=>load1 x101 h55 fun x102 _=>neS EE 37 x102 (.fv (.int .i64 0)) fun x104=>condS x104 (outS1 [x59] h55) (isoS [true,false] false false ih 80 [x56,x59] h55 fun x105 h106 _ _=>outS1 [x105] h106)
def S52_124 (l113:List IV) (h3:Hp) (x56 x57 x58 x59 x60:IV) (q53:List IV→Hp→OH) (h55:Hp) (ih:Handler):OH :=
 uncS l113 fun x61 l114=>uncS l114 fun x62 _=>ltS EE 3 x62 x61 fun x63=>condS x63 ((fun (j0_64:Hp→OH)=>S52_122 x60 x62 h55 x58 ih x59 x56 x57 j0_64) fun h65=>S52_118 x62 h3 h65 x56 x57 x58 x59 x60 x61 q53) (nilS x56 fun x100=>S52_123 x100 h55 x59 ih x56)
def S52_125 (l54:List IV) (h3:Hp) (q53:List IV→Hp→OH) (h55:Hp) (ih:Handler):OH :=
 uncS l54 fun x56 l109=>uncS l109 fun x57 l110=>uncS l110 fun x58 l111=>uncS l111 fun x59 l112=>uncS l112 fun x60 l113=>S52_124 l113 h3 x56 x57 x58 x59 x60 q53 h55 ih
def S52_126 (x50:IV) (h3 h41:Hp) (x0 x1 x4 x40:IV) (n:Nat) (ih:Handler):OH :=
 lenS x50 fun x52=>dropS (h3.own.map (·.1)) [54535171] [x0,x1,x4,x40,x50,x52,.fv (.int .i64 0)] h41 fun h116=>loopS n (fun q53 l54 h55=>S52_125 l54 h3 q53 h55 ih) [x0,x1,x4,x40,x50,x52,.fv (.int .i64 0)] h116
def S52_127 (x46:IV) (h41:Hp) (x40 x4:IV) (h3:Hp) (x0 x1:IV) (n:Nat) (ih:Handler):OH :=
 neS EE 37 x46 (.fv (.int .i64 0)) fun x48=>condS x48 (outS1 [x40] h41) (faddrS 2 x4 fun x49=>load1 x49 h41 fun x50 _=>S52_126 x50 h3 h41 x0 x1 x4 x40 n ih)
def S52_128 (h34:Hp) (x39 x0 x4:IV) (h3:Hp) (x1:IV) (n:Nat) (ih:Handler):OH :=
 boxS 54530059 x39 h34 fun x40 h41 r42 w43=>chkS [] r42 w43 (nilS x0 fun x44=>faddrS 3 x44 fun x45=>load1 x45 h41 fun x46 _=>S52_127 x46 h41 x40 x4 h3 x0 x1 n ih)
def S52_129 (h9:Hp) (x32:IV) (r28 r25:LRf) (x4:IV) (r31:LRf) (x24 x27 x1 x0:IV) (h3:Hp) (n:Nat) (ih:Handler):OH :=
 genS (pcMakeSlice EE 54530055 104 x32 x32) 54530055 h9 fun x33 h34 r35 w36=>chkS [(r28,[]),(r25,[])] r35 w36 (loadA 3 x4 h34 fun x37 r38=>chkS [(r35,w36),(r31,[]),(r28,[]),(r25,[])] r38 [] (bldS [.fv (.int .i64 0),.fv (.int .i64 0),.nils,.fv (.int .i64 0),.fv (.int .i64 0),.nils,.fv (.nilp)] [(0,1,x24),(1,1,x27),(2,1,x33),(3,3,x37),(6,1,x1)] fun x39=>S52_128 h34 x39 x0 x4 h3 x1 n ih))
def S52_130 (r28 r25:LRf) (x4:IV) (h9:Hp) (x24 x27 x1 x0:IV) (h3:Hp) (n:Nat) (ih:Handler):OH :=
 chkS [(r25,[])] r28 [] (faddrS 2 x4 fun x29=>load1 x29 h9 fun x30 r31=>chkS [(r28,[]),(r25,[])] r31 [] (lenS x30 fun x32=>S52_129 h9 x32 r28 r25 x4 r31 x24 x27 x1 x0 h3 n ih))
def S52_131 (x4:IV) (h9:Hp) (x1 x0:IV) (h3:Hp) (n:Nat) (ih:Handler):OH :=
 faddrS 0 x4 fun x23=>load1 x23 h9 fun x24 r25=>chkS [] r25 [] (faddrS 1 x4 fun x26=>load1 x26 h9 fun x27 r28=>S52_130 r28 r25 x4 h9 x24 x27 x1 x0 h3 n ih)
def S52 (ih:Handler) (n:Nat) (x0 x1 x2:IV) (h3:Hp):OH :=
 boxS 54525952 x2 h3 fun x4 h5 _ _=>isoS [true] false false ih 77 [x0] h5 fun _ h9 _ _=>faddrS 0 x4 fun x12=>load1 x12 h9 fun x13 _=>eqS EE 3 x13 (.fv (.int .i64 1)) fun x15=>condS x15 (S52_117 x4 h9 ih x1) (S52_131 x4 h9 x1 x0 h3 n ih)
theorem S52_ok (ih:Handler) (n:Nat) (x0 x1 x2:IV) (h3:Hp):funS EE ih ft.get n 52 [x0,x1,x2] h3=S52 ih n x0 x1 x2 h3:=by kernel_rfl
def S53_261 (h21:Hp) (x5:IV):OH :=
 cellS true 3 x5 h21 fun x24=>outS1 [x24] h21
def S53_262 (h12:Hp) (x5 x36:IV):OH :=
 storeA 3 x5 x36 h12 fun h37 _ _=>cellS true 3 x5 h37 fun x40=>outS1 [x40] h37
def S53_263 (x1:IV) (h12:Hp) (x30 x5:IV):OH :=
 nilS x1 fun x31=>faddrS 1 x31 fun x32=>load1 x32 h12 fun x33 _=>subS EE 3 x30 x33 fun x35=>bldS [.fv (.int .i64 0),.fv (.int .i64 0),.nils] [(0,1,.fv (.int .i64 1)),(1,1,x35)] fun x36=>S53_262 h12 x5 x36
def S53_264 (h90:Hp) (x83:IV):OH :=
 bldS [.fv (.int .i64 0),.fv (.int .i64 0),.nils] [] fun x96=>storeA 3 x83 x96 h90 fun h97 _ _=>cellS true 3 x83 h97 fun x100=>outS1 [x100] h97
def S53_265 (x89:IV) (h4 h108:Hp) (x79 x80 x81 x82 x83 x84 x88:IV) (q51:List IV→Hp→OH):OH :=
 addS EE 3 x89 (.fv (.int .i64 1)) fun x111=>dropS (h4.own.map (·.1)) [55589889,55593990] [x79,x80,x81,x82,x83,x84,x88,x111] h108 fun h112=>q51 [x79,x80,x81,x82,x83,x84,x88,x111] h112
def S53_266 (x81 x87 x82:IV) (ih:Handler) (h90:Hp) (x79 x86 x84 x85 x89:IV) (h4:Hp) (x80 x83 x88:IV) (q51:List IV→Hp→OH):OH :=
 addS EE 3 x81 x87 fun x101=>addS EE 3 x82 (.fv (.int .i64 1)) fun x102=>isoS [true,false,false,false] false false ih 53 [x79,x86,x101,x102] h90 fun x103 h104 _ _=>ixS 3 x84 x85 fun x107=>storeA 3 x107 x103 h104 fun h108 _ _=>S53_265 x89 h4 h108 x79 x80 x81 x82 x83 x84 x88 q51
def S53_267 (x79:IV) (h90:Hp) (x83 x81 x87 x82:IV) (ih:Handler) (x86 x84 x85 x89:IV) (h4:Hp) (x80 x88:IV) (q51:List IV→Hp→OH):OH :=
 nilS x79 fun x91=>faddrS 3 x91 fun x92=>load1 x92 h90 fun x93 _=>neS EE 37 x93 (.fv (.int .i64 0)) fun x95=>condS x95 (S53_264 h90 x83) (S53_266 x81 x87 x82 ih h90 x79 x86 x84 x85 x89 h4 x80 x83 x88 q51)
def S53_268 (x134:IV) (h4 h143:Hp) (x122 x123 x124 x125 x126 x127 x128 x129 x130 x131 x132 x133:IV) (q119:List IV→Hp→OH):OH :=
 addS EE 3 x134 (.fv (.int .i64 1)) fun x146=>dropS (h4.own.map (·.1)) [55593990] [x122,x123,x124,x125,x126,x127,x128,x129,x130,x131,x132,x133,x146] h143 fun h147=>q119 [x122,x123,x124,x125,x126,x127,x128,x129,x130,x131,x132,x133,x146] h147
def S53_269 (x124 x134:IV) (h121:Hp) (x130:IV) (h4:Hp) (x122 x123 x125 x126 x127 x128 x129 x131 x132 x133:IV) (q119:List IV→Hp→OH):OH :=
 addS EE 3 x124 x134 fun x136=>bldS [.fv (.int .i64 0),.fv (.int .i64 0),.nils,.fv (.int .i64 0),.fv (.int .i64 0),.nils,.fv (.nilp)] [(0,1,.fv (.int .i64 1)),(1,1,x136)] fun x137=>fzS (pcBox true 55593990 x137) 55593990 x137 h121 fun x138 h139 _ _=>ixS 1 x130 x134 fun x142=>store1 x142 x138 h139 fun h143 _ _=>S53_268 x134 h4 h143 x122 x123 x124 x125 x126 x127 x128 x129 x130 x131 x132 x133 q119
def S53_270 (ih:Handler) (h121:Hp) (x122 x123 x128 x130:IV) (j11_78:IV→IV→IV→IV→IV→IV→IV→IV→IV→IV→IV→Hp→OH) (x124 x125 x126 x127 x129 x131 x132:IV):OH :=
 isoS [true,false,false,false] false false ih 81 [x122,x123,x128,x130] h121 fun x148 h149 _ _=>j11_78 x122 x123 x124 x125 x126 x127 x128 x148 x129 x131 x132 h149
def S53_271 (l161:List IV) (x124:IV) (h121:Hp) (x130:IV) (h4:Hp) (x122 x123 x125 x126 x127 x128 x129 x131:IV) (q119:List IV→Hp→OH) (ih:Handler) (j11_78:IV→IV→IV→IV→IV→IV→IV→IV→IV→IV→IV→Hp→OH):OH :=
 uncS l161 fun x132 l162=>uncS l162 fun x133 l163=>uncS l163 fun x134 _=>ltS EE 3 x134 x133 fun x135=>condS x135 (S53_269 x124 x134 h121 x130 h4 x122 x123 x125 x126 x127 x128 x129 x131 x132 x133 q119) (S53_270 ih h121 x122 x123 x128 x130 j11_78 x124 x125 x126 x127 x129 x131 x132)
def S53_272 (l156:List IV) (x124:IV) (h121 h4:Hp) (x122 x123 x125 x126:IV) (q119:List IV→Hp→OH) (ih:Handler) (j11_78:IV→IV→IV→IV→IV→IV→IV→IV→IV→IV→IV→Hp→OH):OH :=
 uncS l156 fun x127 l157=>uncS l157 fun x128 l158=>uncS l158 fun x129 l159=>uncS l159 fun x130 l160=>uncS l160 fun x131 l161=>S53_271 l161 x124 h121 x130 h4 x122 x123 x125 x126 x127 x128 x129 x131 q119 ih j11_78
def S53_273 (l120:List IV) (h121 h4:Hp) (q119:List IV→Hp→OH) (ih:Handler) (j11_78:IV→IV→IV→IV→IV→IV→IV→IV→IV→IV→IV→Hp→OH):OH :=
 uncS l120 fun x122 l152=>uncS l152 fun x123 l153=>uncS l153 fun x124 l154=>uncS l154 fun x125 l155=>uncS l155 fun x126 l156=>S53_272 l156 x124 h121 h4 x122 x123 x125 x126 q119 ih j11_78
def S53_274 (h4 h115:Hp) (x54 x55 x56 x57 x58 x59 x61 x74 x114 x60 x118:IV) (n:Nat) (ih:Handler) (j11_78:IV→IV→IV→IV→IV→IV→IV→IV→IV→IV→IV→Hp→OH):OH :=
 dropS (h4.own.map (·.1)) [55593990] [x54,x55,x56,x57,x58,x59,x61,x74,x114,x60,x61,x118,.fv (.int .i64 0)] h115 fun h165=>loopS n (fun q119 l120 h121=>S53_273 l120 h121 h4 q119 ih j11_78) [x54,x55,x56,x57,x58,x59,x61,x74,x114,x60,x61,x118,.fv (.int .i64 0)] h165
def S53_275 (x113:IV) (h75:Hp) (x74:IV) (h4:Hp) (x54 x55 x56 x57 x58 x59 x61 x60:IV) (n:Nat) (ih:Handler) (j11_78:IV→IV→IV→IV→IV→IV→IV→IV→IV→IV→IV→Hp→OH) (x68:IV):OH :=
 condS x113 (genS (pcMakeSlice EE 55589889 104 x74 x74) 55589889 h75 fun x114 h115 _ _=>lenS x114 fun x118=>S53_274 h4 h115 x54 x55 x56 x57 x58 x59 x61 x74 x114 x60 x118 n ih j11_78) (j11_78 x54 x55 x56 x57 x58 x59 x61 x68 x74 x60 x61 h75)
def S53_276 (r73 r69 r66:LRf) (ih:Handler) (h53:Hp) (x72 x61:IV) (h4:Hp) (q51:List IV→Hp→OH) (x54 x55 x56 x57 x58 x59 x60:IV) (n:Nat) (x68:IV):OH :=
 chkS [(r69,[]),(r66,[])] r73 [] (isoS [] false false ih 79 [x72,x61] h53 fun x74 h75 r76 w77=>chkS [(r69,[]),(r66,[])] r76 w77 ((fun (j11_78:IV→IV→IV→IV→IV→IV→IV→IV→IV→IV→IV→Hp→OH)=>gtS EE 3 x74 (.fv (.int .i64 0)) fun x113=>S53_275 x113 h75 x74 h4 x54 x55 x56 x57 x58 x59 x61 x60 n ih j11_78 x68) fun x79 x80 x81 x82 x83 x84 x85 x86 x87 x88 x89 h90=>S53_267 x79 h90 x83 x81 x87 x82 ih x86 x84 x85 x89 h4 x80 x88 q51))
def S53_277 (h53:Hp) (x67 x55:IV) (r66:LRf) (ih:Handler) (x61:IV) (h4:Hp) (q51:List IV→Hp→OH) (x54 x56 x57 x58 x59 x60:IV) (n:Nat):OH :=
 load1 x67 h53 fun x68 r69=>chkS [] r69 [] (nilS x55 fun x70=>faddrS 0 x70 fun x71=>load1 x71 h53 fun x72 r73=>S53_276 r73 r69 r66 ih h53 x72 x61 h4 q51 x54 x55 x56 x57 x58 x59 x60 n x68)
def S53_278 (x55:IV) (h53:Hp) (x61:IV) (ih:Handler) (h4:Hp) (q51:List IV→Hp→OH) (x54 x56 x57 x58 x59 x60:IV) (n:Nat):OH :=
 nilS x55 fun x63=>faddrS 2 x63 fun x64=>load1 x64 h53 fun x65 r66=>chkS [] r66 [] (ixS 1 x65 x61 fun x67=>S53_277 h53 x67 x55 r66 ih x61 h4 q51 x54 x56 x57 x58 x59 x60 n)
def S53_279 (r176 w177:LRf) (h175:Hp) (x58:IV):OH :=
 chkS [] r176 w177 (cellS true 3 x58 h175 fun x178=>outS1 [x178] h175)
def S53_280 (x170:IV) (h53:Hp) (r169:LRf) (x168 x59 x58:IV):OH :=
 faddrS 1 x170 fun x171=>load1 x171 h53 fun x172 r173=>chkS [(r169,[])] r173 [] (bldS [.fv (.int .i64 0),.fv (.int .i64 0),.nils] [(0,1,x168),(1,1,x172),(2,1,x59)] fun x174=>storeA 3 x58 x174 h53 fun h175 r176 w177=>S53_279 r176 w177 h175 x58)
def S53_281 (x55:IV) (h53:Hp) (x59 x58:IV):OH :=
 nilS x55 fun x166=>faddrS 0 x166 fun x167=>load1 x167 h53 fun x168 r169=>chkS [] r169 [] (nilS x55 fun x170=>S53_280 x170 h53 r169 x168 x59 x58)
def S53_282 (l183:List IV) (x55:IV) (h53:Hp) (ih:Handler) (h4:Hp) (q51:List IV→Hp→OH) (x54 x56 x57 x58:IV) (n:Nat):OH :=
 uncS l183 fun x59 l184=>uncS l184 fun x60 l185=>uncS l185 fun x61 _=>ltS EE 3 x61 x60 fun x62=>condS x62 (S53_278 x55 h53 x61 ih h4 q51 x54 x56 x57 x58 x59 x60 n) (S53_281 x55 h53 x59 x58)
def S53_283 (l52:List IV) (h53:Hp) (ih:Handler) (h4:Hp) (q51:List IV→Hp→OH) (n:Nat):OH :=
 uncS l52 fun x54 l179=>uncS l179 fun x55 l180=>uncS l180 fun x56 l181=>uncS l181 fun x57 l182=>uncS l182 fun x58 l183=>S53_282 l183 x55 h53 ih h4 q51 x54 x56 x57 x58 n
def S53_284 (h4 h47:Hp) (x0 x1 x2 x3 x5 x46 x50:IV) (n:Nat) (ih:Handler):OH :=
 dropS (h4.own.map (·.1)) [55589889,55593990] [x0,x1,x2,x3,x5,x46,x50,.fv (.int .i64 0)] h47 fun h187=>loopS n (fun q51 l52 h53=>S53_283 l52 h53 ih h4 q51 n) [x0,x1,x2,x3,x5,x46,x50,.fv (.int .i64 0)] h187
def S53_285 (x41:IV) (h12 h4:Hp) (x0 x1 x2 x3 x5:IV) (n:Nat) (ih:Handler):OH :=
 faddrS 2 x41 fun x42=>load1 x42 h12 fun x43 _=>lenS x43 fun x45=>genS (pcMakeSlice EE 55583749 29 x45 x45) 55583749 h12 fun x46 h47 _ _=>lenS x46 fun x50=>S53_284 h4 h47 x0 x1 x2 x3 x5 x46 x50 n ih
def S53_286 (h12:Hp) (x26 x2 x1 x5:IV) (h4:Hp) (x0 x3:IV) (n:Nat) (ih:Handler):OH :=
 load1 x26 h12 fun x27 _=>eqS EE 3 x27 (.fv (.int .i64 1)) fun x29=>condS x29 (subS EE 3 x2 (.fv (.int .i64 1)) fun x30=>S53_263 x1 h12 x30 x5) (nilS x1 fun x41=>S53_285 x41 h12 h4 x0 x1 x2 x3 x5 n ih)
def S53_287 (x19:IV) (h12:Hp) (x5 x1 x2:IV) (h4:Hp) (x0 x3:IV) (n:Nat) (ih:Handler):OH :=
 condS x19 (bldS [.fv (.int .i64 0),.fv (.int .i64 0),.nils] [] fun x20=>storeA 3 x5 x20 h12 fun h21 _ _=>S53_261 h21 x5) (nilS x1 fun x25=>faddrS 0 x25 fun x26=>S53_286 h12 x26 x2 x1 x5 h4 x0 x3 n ih)
def S53_288 (ih:Handler) (h10:Hp) (x0 x5 x1 x2:IV) (h4:Hp) (x3:IV) (n:Nat):OH :=
 isoS [true] false false ih 77 [x0] h10 fun _ h12 _ _=>nilS x0 fun x15=>faddrS 3 x15 fun x16=>load1 x16 h12 fun x17 _=>neS EE 37 x17 (.fv (.int .i64 0)) fun x19=>S53_287 x19 h12 x5 x1 x2 h4 x0 x3 n ih
def S53_289 (x256:IV) (h252:Hp) (j0_9:Hp→OH):OH :=
 faddrS 3 x256 fun x257=>store1 x257 (.fv (.int .i64 5)) h252 fun h258 _ _=>j0_9 h258
def S53_290 (h246:Hp) (x202 x234 x245 x0:IV) (j0_9:Hp→OH):OH :=
 guardS x202 true h246 (fun k249=>pickS x234 (.fv (.bool true)) x245 fun x250=>k249 x250 h246 [] []) fun x251 h252 _ _=>pickS x202 x251 (.fv (.bool false)) fun x255=>condS x255 (nilS x0 fun x256=>S53_289 x256 h252 j0_9) (j0_9 h252)
def S53_291 (h217:Hp) (x202 x216 x3 x0:IV) (j0_9:Hp→OH):OH :=
 guardS x202 true h217 (fun k220=>load1 x216 h217 fun x221 r222=>k220 x221 h217 r222 []) fun x223 h224 _ _=>guardS x202 true h224 (fun k227=>gtS EE 3 x223 (.fv (.int .i64 3000)) fun x228=>k227 x228 h224 [] []) fun x229 h230 _ _=>guardS x202 true h230 (fun k233=>k233 x229 h230 [] []) fun x234 h235 _ _=>guardS x234 false h235 (fun k238=>k238 x3 h235 [] []) fun x239 h240 _ _=>guardS x234 false h240 (fun k243=>gtS EE 3 x239 (.fv (.int .i64 120)) fun x244=>k243 x244 h240 [] []) fun x245 h246 _ _=>S53_290 h246 x202 x234 x245 x0 j0_9
def S53_292 (h195:Hp) (x199 x0 x3:IV) (j0_9:Hp→OH):OH :=
 load1 x199 h195 fun x200 _=>eqS EE 37 x200 (.fv (.int .i64 0)) fun x202=>guardS x202 true h195 (fun k203=>k203 x0 h195 [] []) fun x204 h205 _ _=>guardS x202 true h205 (fun k208=>nilS x204 fun x209=>k208 x209 h205 [] []) fun x210 h211 _ _=>guardS x202 true h211 (fun k214=>faddrS 2 x210 fun x215=>k214 x215 h211 [] []) fun x216 h217 _ _=>S53_291 h217 x202 x216 x3 x0 j0_9
def S53_293 (x0:IV) (h6:Hp) (x192 x3:IV) (j0_9:Hp→OH):OH :=
 nilS x0 fun x193=>faddrS 2 x193 fun x194=>store1 x194 x192 h6 fun h195 _ _=>nilS x0 fun x198=>faddrS 3 x198 fun x199=>S53_292 h195 x199 x0 x3 j0_9
def S53 (ih:Handler) (n:Nat) (x0 x1 x2 x3:IV) (h4:Hp):OH :=
 newS 55574528 (.row [.fv (.int .i64 0),.fv (.int .i64 0),.nils] false) (.ptr (.own 55574528) 0) h4 fun x5 h6 _ _=>(fun (j0_9:Hp→OH)=>nilS x0 fun x188=>faddrS 2 x188 fun x189=>load1 x189 h6 fun x190 _=>addS EE 3 x190 (.fv (.int .i64 1)) fun x192=>S53_293 x0 h6 x192 x3 j0_9) fun h10=>S53_288 ih h10 x0 x5 x1 x2 h4 x3 n
theorem S53_ok (ih:Handler) (n:Nat) (x0 x1 x2 x3:IV) (h4:Hp):funS EE ih ft.get n 53 [x0,x1,x2,x3] h4=S53 ih n x0 x1 x2 x3 h4:=by kernel_rfl
def S54_156 (ih:Handler) (h59:Hp) (x23 x67 x69 x26:IV) (q20:List IV→Hp→OH) (x24 x25:IV):OH :=
 isoS [true,false,false] false false ih 54 [x23,x67,x69] h59 fun _ h71 _ _=>addS EE 3 x26 (.fv (.int .i64 1)) fun x74=>q20 [x23,x24,x25,x74] h71
def S54_157 (x25:IV) (h59:Hp) (x26 x24:IV) (ih:Handler) (x23:IV) (q20:List IV→Hp→OH):OH :=
 faddrS 2 x25 fun x63=>load1 x63 h59 fun x64 _=>ixS 3 x64 x26 fun x66=>loadA 3 x66 h59 fun x67 _=>addS EE 3 x24 (.fv (.int .i64 1)) fun x69=>S54_156 ih h59 x23 x67 x69 x26 q20 x24 x25
def S54_158 (h40:Hp) (x31 x39 x25 x26 x24:IV) (ih:Handler) (x23:IV) (q20:List IV→Hp→OH):OH :=
 guardS x31 true h40 (fun k43=>faddrS 1 x39 fun x44=>k43 x44 h40 [] []) fun x45 h46 _ _=>guardS x31 true h46 (fun k49=>load1 x45 h46 fun x50 r51=>k49 x50 h46 r51 []) fun x52 h53 _ _=>guardS x31 true h53 (fun k56=>eqS EE 3 x52 (.fv (.int .i64 0)) fun x57=>k56 x57 h53 [] []) fun x58 h59 _ _=>pickS x31 x58 (.fv (.bool false)) fun x62=>condS x62 (S54_157 x25 h59 x26 x24 ih x23 q20) (outS1 [] h59)
def S54_159 (h22:Hp) (x27 x26 x23 x25 x24:IV) (ih:Handler) (q20:List IV→Hp→OH):OH :=
 load1 x27 h22 fun x28 _=>lenS x28 fun x30=>ltS EE 3 x26 x30 fun x31=>guardS x31 true h22 (fun k32=>k32 x23 h22 [] []) fun x33 h34 _ _=>guardS x31 true h34 (fun k37=>nilS x33 fun x38=>k37 x38 h34 [] []) fun x39 h40 _ _=>S54_158 h40 x31 x39 x25 x26 x24 ih x23 q20
def S54_160 (l21:List IV) (h22:Hp) (ih:Handler) (q20:List IV→Hp→OH):OH :=
 uncS l21 fun x23 l75=>uncS l75 fun x24 l76=>uncS l76 fun x25 l77=>uncS l77 fun x26 _=>faddrS 2 x25 fun x27=>S54_159 h22 x27 x26 x23 x25 x24 ih q20
def S54_161 (n:Nat) (h19:Hp) (x0 x2 x4:IV) (ih:Handler):OH :=
 loopS n (fun q20 l21 h22=>S54_160 l21 h22 ih q20) [x0,x2,x4,.fv (.int .i64 0)] h19
def S54_162 (h92:Hp) (x97:IV) (j0_18:Hp→OH):OH :=
 store1 x97 (.fv (.int .i64 5)) h92 fun h98 _ _=>j0_18 h98
def S54_163 (x151:IV) (h147:Hp) (j0_18:Hp→OH):OH :=
 faddrS 1 x151 fun x152=>store1 x152 (.fv (.int .i64 1)) h147 fun h153 _ _=>j0_18 h153
def S54_164 (r142 w143:LRf) (h141:Hp) (x112 x140 x0:IV) (j0_18:Hp→OH):OH :=
 chkS [] r142 w143 (guardS x112 false h141 (fun k144=>optS (unR .not x140) fun x145=>k144 x145 h141 [] []) fun x146 h147 _ _=>pickS x112 (.fv (.bool true)) x146 fun x150=>condS x150 (nilS x0 fun x151=>S54_163 x151 h147 j0_18) (j0_18 h147))
def S54_165 (r124 w125:LRf) (h123:Hp) (x112 x4:IV) (ih:Handler) (x122 x0:IV) (j0_18:Hp→OH):OH :=
 chkS [] r124 w125 (guardS x112 false h123 (fun k126=>faddrS 1 x4 fun x127=>k126 x127 h123 [] []) fun x128 h129 _ _=>guardS x112 false h129 (fun k132=>load1 x128 h129 fun x133 r134=>k132 x133 h129 r134 []) fun x135 h136 r137 w138=>chkS [(r124,w125)] r137 w138 (guardS x112 false h136 (fun k139=>isoS [] false false ih 83 [x122,x135] h136 k139) fun x140 h141 r142 w143=>S54_164 r142 w143 h141 x112 x140 x0 j0_18))
def S54_166 (r110 r106 w107 r103:LRf) (x109 x104:IV) (h105:Hp) (x4:IV) (ih:Handler) (x0:IV) (j0_18:Hp→OH):OH :=
 chkS [(r106,w107),(r103,[])] r110 [] (lenS x109 fun x111=>neS EE 3 x104 x111 fun x112=>guardS x112 false h105 (fun k113=>faddrS 0 x4 fun x114=>k113 x114 h105 [] []) fun x115 h116 _ _=>guardS x112 false h116 (fun k119=>load1 x115 h116 fun x120 r121=>k119 x120 h116 r121 []) fun x122 h123 r124 w125=>S54_165 r124 w125 h123 x112 x4 ih x122 x0 j0_18)
def S54_167 (r103:LRf) (ih:Handler) (h92:Hp) (x102 x4 x0:IV) (j0_18:Hp→OH):OH :=
 chkS [] r103 [] (isoS [] false false ih 82 [x102] h92 fun x104 h105 r106 w107=>chkS [] r106 w107 (faddrS 2 x4 fun x108=>load1 x108 h105 fun x109 r110=>S54_166 r110 r106 w107 r103 x109 x104 h105 x4 ih x0 j0_18))
def S54_168 (x95 x0:IV) (h92:Hp) (j0_18:Hp→OH) (x4:IV) (ih:Handler):OH :=
 condS x95 (nilS x0 fun x96=>faddrS 1 x96 fun x97=>S54_162 h92 x97 j0_18) (faddrS 0 x4 fun x101=>load1 x101 h92 fun x102 r103=>S54_167 r103 ih h92 x102 x4 x0 j0_18)
def S54_169 (h15:Hp) (x80 x2 x0:IV) (j0_18:Hp→OH) (x4:IV) (ih:Handler):OH :=
 load1 x80 h15 fun x81 _=>gtS EE 3 x81 (.fv (.int .i64 3000)) fun x83=>guardS x83 false h15 (fun k84=>k84 x2 h15 [] []) fun x85 h86 _ _=>guardS x83 false h86 (fun k89=>gtS EE 3 x85 (.fv (.int .i64 120)) fun x90=>k89 x90 h86 [] []) fun x91 h92 _ _=>pickS x83 (.fv (.bool true)) x91 fun x95=>S54_168 x95 x0 h92 j0_18 x4 ih
def S54_170 (x13:IV) (h5:Hp) (x12:IV) (n:Nat) (x0 x2 x4:IV) (ih:Handler):OH :=
 faddrS 0 x13 fun x14=>store1 x14 x12 h5 fun h15 _ _=>(fun (j0_18:Hp→OH)=>nilS x0 fun x79=>faddrS 0 x79 fun x80=>S54_169 h15 x80 x2 x0 j0_18 x4 ih) fun h19=>S54_161 n h19 x0 x2 x4 ih
def S54 (ih:Handler) (n:Nat) (x0 x1 x2:IV) (h3:Hp):OH :=
 boxS 56623104 x1 h3 fun x4 h5 _ _=>nilS x0 fun x8=>faddrS 0 x8 fun x9=>load1 x9 h5 fun x10 _=>addS EE 3 x10 (.fv (.int .i64 1)) fun x12=>nilS x0 fun x13=>S54_170 x13 h5 x12 n x0 x2 x4 ih
theorem S54_ok (ih:Handler) (n:Nat) (x0 x1 x2:IV) (h3:Hp):funS EE ih ft.get n 54 [x0,x1,x2] h3=S54 ih n x0 x1 x2 h3:=by kernel_rfl
def S55 (ih:Handler) (n:Nat) (x0 x1:IV) (h2:Hp):OH :=
 binS EE 3 .rem x0 x1 fun x3=>(fun (j1_4:IV→Hp→OH)=>ltS EE 3 x3 (.fv (.int .i64 0)) fun x7=>condS x7 (addS EE 3 x3 x1 fun x8=>j1_4 x8 h2) (j1_4 x3 h2)) fun x5 h6=>outS1 [x5] h6
theorem S55_ok (ih:Handler) (n:Nat) (x0 x1:IV) (h2:Hp):funS EE ih ft.get n 55 [x0,x1] h2=S55 ih n x0 x1 h2:=by kernel_rfl
def S56 (ih:Handler) (n:Nat) (h0:Hp):OH :=
 newS 58720256 (.row [.fv (.int .i64 0),.fv (.int .i64 0),.nils] false) (.ptr (.own 58720256) 0) h0 fun x1 h2 _ _=>isoS [] false false ih 27 [.fv (.int .i64 10),.nils] h2 fun x5 h6 _ _=>storeA 3 x1 x5 h6 fun h9 _ _=>cellS true 3 x1 h9 fun x12=>outS1 [x12] h9
theorem S56_ok (ih:Handler) (n:Nat) (h0:Hp):funS EE ih ft.get n 56 [] h0=S56 ih n h0:=by kernel_rfl
def S57 (ih:Handler) (n:Nat) (x0:IV) (h1:Hp):OH :=
 newS 59768832 (.row [.fv (.int .i64 0),.fv (.int .i64 0),.nils] false) (.ptr (.own 59768832) 0) h1 fun x2 h3 _ _=>bldS [.fv (.int .i64 0),.fv (.int .i64 0),.nils] [(0,1,.fv (.int .i64 2)),(1,1,x0)] fun x6=>storeA 3 x2 x6 h3 fun h7 _ _=>cellS true 3 x2 h7 fun x10=>outS1 [x10] h7
theorem S57_ok (ih:Handler) (n:Nat) (x0:IV) (h1:Hp):funS EE ih ft.get n 57 [x0] h1=S57 ih n x0 h1:=by kernel_rfl
def S58_42 (x17 x1:IV) (h8:Hp) (x7:IV):OH :=
 ixS 3 x17 x1 fun x19=>loadA 3 x19 h8 fun x20 _=>storeA 3 x7 x20 h8 fun h22 _ _=>cellS true 3 x7 h22 fun x25=>outS1 [x25] h22
def S58_43 (x1 x34 x30:IV) (h8:Hp) (x7:IV):OH :=
 binS EE 3 .mul (.fv (.int .i64 7)) x1 fun x35=>addS EE 3 x34 x35 fun x36=>bldS [.fv (.int .i64 0),.fv (.int .i64 0),.nils] [(0,1,x30),(1,1,x36)] fun x37=>storeA 3 x7 x37 h8 fun h38 _ _=>cellS true 3 x7 h38 fun x41=>outS1 [x41] h38
def S58_44 (x27 x1 x3:IV) (h8:Hp) (x7:IV):OH :=
 binS EE 3 .quo x27 (.fv (.int .i64 3)) fun x29=>addS EE 3 x29 x1 fun x30=>faddrS 1 x3 fun x31=>load1 x31 h8 fun x32 _=>binS EE 3 .quo x32 (.fv (.int .i64 5)) fun x34=>S58_43 x1 x34 x30 h8 x7
def S58_45 (x15 x3:IV) (h8:Hp) (x1 x7:IV):OH :=
 condS x15 (faddrS 2 x3 fun x16=>load1 x16 h8 fun x17 _=>S58_42 x17 x1 h8 x7) (faddrS 0 x3 fun x26=>load1 x26 h8 fun x27 _=>S58_44 x27 x1 x3 h8 x7)
def S58 (ih:Handler) (n:Nat) (x0 x1:IV) (h2:Hp):OH :=
 boxS 60817408 x0 h2 fun x3 h4 _ _=>newS 60817409 (.row [.fv (.int .i64 0),.fv (.int .i64 0),.nils] false) (.ptr (.own 60817409) 0) h4 fun x7 h8 _ _=>faddrS 2 x3 fun x11=>load1 x11 h8 fun x12 _=>lenS x12 fun x14=>ltS EE 3 x1 x14 fun x15=>S58_45 x15 x3 h8 x1 x7
theorem S58_ok (ih:Handler) (n:Nat) (x0 x1:IV) (h2:Hp):funS EE ih ft.get n 58 [x0,x1] h2=S58 ih n x0 x1 h2:=by kernel_rfl
def S59_133 (x22:IV) (h4 h27:Hp) (x16 x17 x18 x19 x20 x26:IV) (q13:List IV→Hp→OH):OH :=
 addS EE 3 x22 (.fv (.int .i64 1)) fun x28=>dropS (h4.own.map (·.1)) [61872144,61874179] [x16,x17,x18,x19,x20,x26,x28] h27 fun h29=>q13 [x16,x17,x18,x19,x20,x26,x28] h29
def S59_134 (h90:Hp) (x22 x21:IV) (j1_25:IV→Hp→OH):OH :=
 genS (pcBuildSlice EE 108 1 [(0,x22)]) 61874178 h90 fun x94 h95 _ _=>genS (builtinR EE 61874179 false .append [108,108] [x21,x94]) 61874179 h95 fun x98 h99 _ _=>j1_25 x98 h99
def S59_135 (r86 w87:LRf) (h85:Hp) (x63:IV) (ih:Handler) (x72 x84 x22 x21:IV) (j1_25:IV→Hp→OH):OH :=
 chkS [] r86 w87 (guardS x63 true h85 (fun k88=>isoS [] false false ih 21 [x72,x84] h85 k88) fun x89 h90 r91 w92=>chkS [] r91 w92 (pickS x63 x89 (.fv (.bool false)) fun x93=>condS x93 (S59_134 h90 x22 x21 j1_25) (j1_25 x21 h90)))
def S59_136 (h68:Hp) (x63:IV) (ih:Handler) (x67 x19:IV) (r69 w70:LRf) (x22 x21:IV) (j1_25:IV→Hp→OH):OH :=
 guardS x63 true h68 (fun k71=>isoS [] false false ih 46 [x67] h68 k71) fun x72 h73 r74 w75=>chkS [] r74 w75 (guardS x63 true h73 (fun k76=>loadA 3 x19 h73 fun x77 r78=>k76 x77 h73 r78 []) fun x79 h80 r81 w82=>chkS [(r74,w75),(r69,w70)] r81 w82 (guardS x63 true h80 (fun k83=>isoS [] false false ih 46 [x79] h80 k83) fun x84 h85 r86 w87=>S59_135 r86 w87 h85 x63 ih x72 x84 x22 x21 j1_25))
def S59_137 (h51:Hp) (x54 x55:IV) (ih:Handler) (x19 x22 x21:IV) (j1_25:IV→Hp→OH):OH :=
 newS 61872144 (.row [.fv (.int .i64 0),.fv (.int .i64 0),.nils] false) (.ptr (.own 61872144) 0) h51 fun x56 h57 _ _=>storeA 3 x56 x54 h57 fun h60 _ _=>eqS EE 3 x55 (.fv (.int .i64 0)) fun x63=>guardS x63 true h60 (fun k64=>loadA 3 x56 h60 fun x65 r66=>k64 x65 h60 r66 []) fun x67 h68 r69 w70=>chkS [] r69 w70 (S59_136 h68 x63 ih x67 x19 r69 w70 x22 x21 j1_25)
def S59_138 (x22:IV) (ih:Handler) (h15:Hp) (x43 x19 x21:IV) (j1_25:IV→Hp→OH):OH :=
 addS EE 3 x22 (.fv (.int .i64 1)) fun x45=>isoS [] false false ih 31 [x43,x45,.fv (.int .i64 0)] h15 fun x46 h47 _ _=>isoS [] false false ih 18 [x46] h47 fun x50 h51 _ _=>extS 0 x50 fun x54=>extS 1 x50 fun x55=>S59_137 h51 x54 x55 ih x19 x22 x21 j1_25
def S59_139 (x38 x22 x16:IV) (h15:Hp) (ih:Handler) (x19 x21:IV) (j1_25:IV→Hp→OH):OH :=
 subS EE 3 x38 (.fv (.int .i64 1)) fun x39=>subS EE 3 x39 x22 fun x40=>ixS 4 x16 x40 fun x41=>faddrS 1 x41 fun x42=>loadA 3 x42 h15 fun x43 _=>S59_138 x22 ih h15 x43 x19 x21 j1_25
def S59_140 (x33:IV) (h15:Hp) (x17:IV) (j1_25:IV→Hp→OH) (x21 x16 x22:IV) (ih:Handler) (x19:IV):OH :=
 faddrS 0 x33 fun x34=>load1 x34 h15 fun x35 _=>neS EE 3 x35 x17 fun x37=>condS x37 (j1_25 x21 h15) (lenS x16 fun x38=>S59_139 x38 x22 x16 h15 ih x19 x21 j1_25)
def S59_141 (x22:IV) (h4:Hp) (x16 x17 x18 x19 x20:IV) (q13:List IV→Hp→OH) (h15:Hp) (x21:IV) (ih:Handler):OH :=
 (fun (j1_25:IV→Hp→OH)=>lenS x16 fun x30=>subS EE 3 x30 (.fv (.int .i64 1)) fun x31=>subS EE 3 x31 x22 fun x32=>ixS 4 x16 x32 fun x33=>S59_140 x33 h15 x17 j1_25 x21 x16 x22 ih x19) fun x26 h27=>S59_133 x22 h4 h27 x16 x17 x18 x19 x20 x26 q13
def S59_142 (h15:Hp) (x20 x104:IV):OH :=
 storeA 3 x20 x104 h15 fun h105 _ _=>cellS true 3 x20 h105 fun x108=>outS1 [x108,.fv (.bool false)] h105
def S59_143 (h121:Hp) (x20:IV):OH :=
 cellS true 3 x20 h121 fun x124=>outS1 [x124,.fv (.bool true)] h121
def S59_144 (ih:Handler) (h15:Hp) (x18 x109 x21 x20:IV):OH :=
 isoS [] false false ih 55 [x18,x109] h15 fun x110 h111 _ _=>ixS 1 x21 x110 fun x114=>load1 x114 h111 fun x115 _=>isoS [] false false ih 34 [x115] h111 fun x117 h118 _ _=>storeA 3 x20 x117 h118 fun h121 _ _=>S59_143 h121 x20
def S59_145 (x21:IV) (h15:Hp) (x20:IV) (ih:Handler) (x18:IV):OH :=
 lenS x21 fun x102=>eqS EE 3 x102 (.fv (.int .i64 0)) fun x103=>condS x103 (bldS [.fv (.int .i64 0),.fv (.int .i64 0),.nils] [] fun x104=>S59_142 h15 x20 x104) (lenS x21 fun x109=>S59_144 ih h15 x18 x109 x21 x20)
def S59_146 (l129:List IV) (x16:IV) (h4:Hp) (x17 x18 x19 x20:IV) (q13:List IV→Hp→OH) (h15:Hp) (ih:Handler):OH :=
 uncS l129 fun x21 l130=>uncS l130 fun x22 _=>lenS x16 fun x23=>ltS EE 3 x22 x23 fun x24=>condS x24 (S59_141 x22 h4 x16 x17 x18 x19 x20 q13 h15 x21 ih) (S59_145 x21 h15 x20 ih x18)
def S59_147 (l14:List IV) (h4:Hp) (q13:List IV→Hp→OH) (h15:Hp) (ih:Handler):OH :=
 uncS l14 fun x16 l125=>uncS l125 fun x17 l126=>uncS l126 fun x18 l127=>uncS l127 fun x19 l128=>uncS l128 fun x20 l129=>S59_146 l129 x16 h4 x17 x18 x19 x20 q13 h15 ih
def S59 (ih:Handler) (n:Nat) (x0 x1 x2 x3:IV) (h4:Hp):OH :=
 boxS 61865984 x2 h4 fun x5 h6 _ _=>newS 61865985 (.row [.fv (.int .i64 0),.fv (.int .i64 0),.nils] false) (.ptr (.own 61865985) 0) h6 fun x9 h10 _ _=>dropS (h4.own.map (·.1)) [61872144,61874179] [x0,x1,x3,x5,x9,.nils,.fv (.int .i64 0)] h10 fun h132=>loopS n (fun q13 l14 h15=>S59_147 l14 h4 q13 h15 ih) [x0,x1,x3,x5,x9,.nils,.fv (.int .i64 0)] h132
theorem S59_ok (ih:Handler) (n:Nat) (x0 x1 x2 x3:IV) (h4:Hp):funS EE ih ft.get n 59 [x0,x1,x2,x3] h4=S59 ih n x0 x1 x2 x3 h4:=by kernel_rfl
def S60_205 (x48 x132:IV) (h133:Hp) (x13 x127:IV):OH :=
 pickS x48 x132 (.fv (.bool false)) fun x136=>storeA 3 x13 x127 h133 fun h137 _ _=>cellS true 3 x13 h137 fun x140=>outS1 [x140,x136] h137
def S60_206 (h106:Hp) (x109 x111 x113:IV) (ih:Handler) (x48 x78 x13:IV):OH :=
 genS (pcBuildSlice EE 29 3 [(0,x109),(1,x111),(2,x113)]) 62920707 h106 fun x115 h116 _ _=>isoS [] false false ih 27 [.fv (.int .i64 7),x115] h116 fun x119 h120 _ _=>genS (pcBuildSlice EE 29 1 [(0,x119)]) 62920709 h120 fun x123 h124 _ _=>isoS [] false false ih 27 [.fv (.int .i64 8),x123] h124 fun x127 h128 _ _=>guardS x48 true h128 (fun k131=>k131 x78 h128 [] []) fun x132 h133 _ _=>S60_205 x48 x132 h133 x13 x127
def S60_207 (h103:Hp) (x102 x98 x79 x49:IV) (ih:Handler) (x48 x78 x13:IV):OH :=
 storeA 3 x102 x98 h103 fun h106 r107 w108=>chkS [] r107 w108 (loadA 3 x102 h106 fun x109 _=>loadA 3 x79 h106 fun x111 _=>loadA 3 x49 h106 fun x113 _=>S60_206 h106 x109 x111 x113 ih x48 x78 x13)
def S60_208 (r96 w97:LRf) (ih:Handler) (h95:Hp) (x94:IV) (r92 w93 r89 r87:LRf) (x79 x49 x48 x78 x13:IV):OH :=
 chkS [] r96 w97 (isoS [] false false ih 27 [.fv (.int .i64 6),x94] h95 fun x98 h99 r100 w101=>chkS [] r100 w101 (newS 62919685 (.row [.fv (.int .i64 0),.fv (.int .i64 0),.nils] false) (.ptr (.own 62919685) 0) h99 fun x102 h103 r104 w105=>chkS [(r100,w101),(r96,w97),(r92,w93),(r89,[]),(r87,[])] r104 w105 (S60_207 h103 x102 x98 x79 x49 ih x48 x78 x13)))
def S60_209 (h83:Hp) (x27:IV) (r87:LRf) (ih:Handler) (x86 x79 x49 x48 x78 x13:IV):OH :=
 loadA 3 x27 h83 fun x88 r89=>chkS [(r87,[])] r89 [] (isoS [] false false ih 31 [x88,.fv (.int .i64 1),.fv (.int .i64 0)] h83 fun x90 h91 r92 w93=>chkS [(r87,[])] r92 w93 (genS (pcBuildSlice EE 29 2 [(0,x86),(1,x90)]) 62919683 h91 fun x94 h95 r96 w97=>S60_208 r96 w97 ih h95 x94 r92 w93 r89 r87 x79 x49 x48 x78 x13))
def S60_210 (r81 w82 r75 w76 r70 w71 r67 r65:LRf) (h80:Hp) (x79 x77 x5 x27:IV) (ih:Handler) (x49 x48 x78 x13:IV):OH :=
 chkS [(r75,w76),(r70,w71),(r67,[]),(r65,[])] r81 w82 (storeA 3 x79 x77 h80 fun h83 r84 w85=>chkS [] r84 w85 (loadA 3 x5 h83 fun x86 r87=>chkS [] r87 [] (S60_209 h83 x27 r87 ih x86 x79 x49 x48 x78 x13)))
def S60_211 (ih:Handler) (h69:Hp) (x0 x64 x68 x72:IV) (r70 w71 r67 r65:LRf) (x5 x27 x49 x48 x13:IV):OH :=
 isoS [] false false ih 26 [x0,x64,x68,x72] h69 fun x73 h74 r75 w76=>chkS [] r75 w76 (extS 0 x73 fun x77=>extS 1 x73 fun x78=>newS 62918666 (.row [.fv (.int .i64 0),.fv (.int .i64 0),.nils] false) (.ptr (.own 62918666) 0) h74 fun x79 h80 r81 w82=>S60_210 r81 w82 r75 w76 r70 w71 r67 r65 h80 x79 x77 x5 x27 ih x49 x48 x78 x13)
def S60_212 (h60:Hp) (x9:IV) (r65:LRf) (ih:Handler) (x3 x0 x64 x5 x27 x49 x48 x13:IV):OH :=
 loadA 3 x9 h60 fun x66 r67=>chkS [(r65,[])] r67 [] (isoS [] false false ih 58 [x66,.fv (.int .i64 2)] h60 fun x68 h69 r70 w71=>chkS [(r65,[])] r70 w71 (subS EE 3 x3 (.fv (.int .i64 2)) fun x72=>S60_211 ih h69 x0 x64 x68 x72 r70 w71 r67 r65 x5 x27 x49 x48 x13))
def S60_213 (h197:Hp) (x13 x191 x200:IV):OH :=
 storeA 3 x13 x191 h197 fun h201 r202 w203=>chkS [] r202 w203 (cellS true 3 x13 h201 fun x204=>outS1 [x204,x200] h201)
def S60_214 (r189 w190:LRf) (ih:Handler) (h188:Hp) (x187 x48 x165 x13:IV):OH :=
 chkS [] r189 w190 (isoS [] false false ih 27 [.fv (.int .i64 5),x187] h188 fun x191 h192 r193 w194=>chkS [] r193 w194 (guardS x48 true h192 (fun k195=>k195 x165 h192 [] []) fun x196 h197 _ _=>pickS x48 x196 (.fv (.bool false)) fun x200=>S60_213 h197 x13 x191 x200))
def S60_215 (ih:Handler) (h178:Hp) (x177 x49:IV) (r179 w180 r176 r174:LRf) (x48 x165 x13:IV):OH :=
 isoS [] false false ih 27 [.fv (.int .i64 4),x177] h178 fun x181 h182 r183 w184=>chkS [] r183 w184 (loadA 3 x49 h182 fun x185 r186=>chkS [(r183,w184),(r179,w180),(r176,[]),(r174,[])] r186 [] (genS (pcBuildSlice EE 29 2 [(0,x181),(1,x185)]) 62922757 h182 fun x187 h188 r189 w190=>S60_214 r189 w190 ih h188 x187 x48 x165 x13))
def S60_216 (r174:LRf) (h170:Hp) (x166 x173:IV) (ih:Handler) (x49 x48 x165 x13:IV):OH :=
 chkS [] r174 [] (loadA 3 x166 h170 fun x175 r176=>chkS [(r174,[])] r176 [] (genS (pcBuildSlice EE 29 2 [(0,x173),(1,x175)]) 62922754 h170 fun x177 h178 r179 w180=>chkS [] r179 w180 (S60_215 ih h178 x177 x49 r179 w180 r176 r174 x48 x165 x13)))
def S60_217 (h161:Hp) (r162 w163 r157 w158 r154 r151 w152 r148 r145 w146 r142:LRf) (x164 x27:IV) (ih:Handler) (x49 x48 x165 x13:IV):OH :=
 newS 62921741 (.row [.fv (.int .i64 0),.fv (.int .i64 0),.nils] false) (.ptr (.own 62921741) 0) h161 fun x166 h167 r168 w169=>chkS [(r162,w163),(r157,w158),(r154,[]),(r151,w152),(r148,[]),(r145,w146),(r142,[])] r168 w169 (storeA 3 x166 x164 h167 fun h170 r171 w172=>chkS [] r171 w172 (loadA 3 x27 h170 fun x173 r174=>S60_216 r174 h170 x166 x173 ih x49 x48 x165 x13))
def S60_218 (x3:IV) (ih:Handler) (h156:Hp) (x143 x149 x155:IV) (r157 w158 r154 r151 w152 r148 r145 w146 r142:LRf) (x27 x49 x48 x13:IV):OH :=
 subS EE 3 x3 (.fv (.int .i64 2)) fun x159=>isoS [] false false ih 26 [x143,x149,x155,x159] h156 fun x160 h161 r162 w163=>chkS [] r162 w163 (extS 0 x160 fun x164=>extS 1 x160 fun x165=>S60_217 h161 r162 w163 r157 w158 r154 r151 w152 r148 r145 w146 r142 x164 x27 ih x49 x48 x165 x13)
def S60_219 (r151 w152:LRf) (h150:Hp) (x9:IV) (r148 r145 w146 r142:LRf) (ih:Handler) (x3 x143 x149 x27 x49 x48 x13:IV):OH :=
 chkS [] r151 w152 (loadA 3 x9 h150 fun x153 r154=>chkS [(r151,w152),(r148,[]),(r145,w146),(r142,[])] r154 [] (isoS [] false false ih 58 [x153,.fv (.int .i64 2)] h150 fun x155 h156 r157 w158=>chkS [] r157 w158 (S60_218 x3 ih h156 x143 x149 x155 r157 w158 r154 r151 w152 r148 r145 w146 r142 x27 x49 x48 x13)))
def S60_220 (ih:Handler) (h60:Hp) (x0 x141 x5:IV) (r142:LRf) (x9 x3 x27 x49 x48 x13:IV):OH :=
 isoS [] false false ih 29 [x0,.fv (.int .i64 1),x141] h60 fun x143 h144 r145 w146=>chkS [] r145 w146 (loadA 3 x5 h144 fun x147 r148=>chkS [(r145,w146),(r142,[])] r148 [] (isoS [] false false ih 31 [x147,.fv (.int .i64 1),.fv (.int .i64 0)] h144 fun x149 h150 r151 w152=>S60_219 r151 w152 h150 x9 r148 r145 w146 r142 ih x3 x143 x149 x27 x49 x48 x13))
def S60_221 (x59:IV) (h60:Hp) (x5 x9:IV) (ih:Handler) (x3 x0 x27 x49 x48 x13:IV):OH :=
 eqS EE 3 x59 (.fv (.int .i64 0)) fun x63=>condS x63 (loadA 3 x5 h60 fun x64 r65=>chkS [] r65 [] (S60_212 h60 x9 r65 ih x3 x0 x64 x5 x27 x49 x48 x13)) (loadA 3 x27 h60 fun x141 r142=>chkS [] r142 [] (S60_220 ih h60 x0 x141 x5 r142 x9 x3 x27 x49 x48 x13))
def S60_222 (h50:Hp) (x49 x47 x9:IV) (ih:Handler) (x5 x3 x0 x27 x48 x13:IV):OH :=
 storeA 3 x49 x47 h50 fun h53 r54 w55=>chkS [] r54 w55 (faddrS 1 x9 fun x56=>load1 x56 h53 fun x57 _=>isoS [] false false ih 55 [x57,.fv (.int .i64 3)] h53 fun x59 h60 _ _=>S60_221 x59 h60 x5 x9 ih x3 x0 x27 x49 x48 x13)
def S60_223 (r45 w46:LRf) (x43:IV) (h44:Hp) (r40 w41 r37 r35:LRf) (x9:IV) (ih:Handler) (x5 x3 x0 x27 x13:IV):OH :=
 chkS [] r45 w46 (extS 0 x43 fun x47=>extS 1 x43 fun x48=>newS 62916618 (.row [.fv (.int .i64 0),.fv (.int .i64 0),.nils] false) (.ptr (.own 62916618) 0) h44 fun x49 h50 r51 w52=>chkS [(r45,w46),(r40,w41),(r37,[]),(r35,[])] r51 w52 (S60_222 h50 x49 x47 x9 ih x5 x3 x0 x27 x48 x13))
def S60_224 (r37 r35:LRf) (ih:Handler) (h31:Hp) (x36 x3 x0 x34 x9 x5 x27 x13:IV):OH :=
 chkS [(r35,[])] r37 [] (isoS [] false false ih 58 [x36,.fv (.int .i64 1)] h31 fun x38 h39 r40 w41=>chkS [(r35,[])] r40 w41 (subS EE 3 x3 (.fv (.int .i64 2)) fun x42=>isoS [] false false ih 26 [x0,x34,x38,x42] h39 fun x43 h44 r45 w46=>S60_223 r45 w46 x43 h44 r40 w41 r37 r35 x9 ih x5 x3 x0 x27 x13))
def S60_225 (h24:Hp) (x23 x9:IV) (ih:Handler) (x3 x0 x5 x13:IV):OH :=
 newS 62915588 (.row [.fv (.int .i64 0),.fv (.int .i64 0),.nils] false) (.ptr (.own 62915588) 0) h24 fun x27 h28 _ _=>storeA 3 x27 x23 h28 fun h31 _ _=>loadA 3 x27 h31 fun x34 r35=>chkS [] r35 [] (loadA 3 x9 h31 fun x36 r37=>S60_224 r37 r35 ih h31 x36 x3 x0 x34 x9 x5 x27 x13)
def S60 (ih:Handler) (n:Nat) (x0 x1 x2 x3:IV) (h4:Hp):OH :=
 boxS 62914560 x1 h4 fun x5 h6 _ _=>boxS 62914561 x2 h6 fun x9 h10 _ _=>newS 62914562 (.row [.fv (.int .i64 0),.fv (.int .i64 0),.nils] false) (.ptr (.own 62914562) 0) h10 fun x13 h14 _ _=>loadA 3 x9 h14 fun x17 _=>isoS [] false false ih 58 [x17,.fv (.int .i64 0)] h14 fun x19 h20 _ _=>isoS [] false false ih 25 [x0,x19,.fv (.int .i64 1)] h20 fun x23 h24 _ _=>S60_225 h24 x23 x9 ih x3 x0 x5 x13
theorem S60_ok (ih:Handler) (n:Nat) (x0 x1 x2 x3:IV) (h4:Hp):funS EE ih ft.get n 60 [x0,x1,x2,x3] h4=S60 ih n x0 x1 x2 x3 h4:=by kernel_rfl
def S61_533 (r186 w187:LRf) (h185:Hp) (x13 x184:IV):OH :=
 chkS [] r186 w187 (cellS true 3 x13 h185 fun x188=>outS1 [x188,x184] h185)
def S61_534 (h170:Hp) (x79 x101 x145 x13 x169:IV):OH :=
 guardS x79 true h170 (fun k173=>k173 x101 h170 [] []) fun x174 h175 _ _=>pickS x79 x174 (.fv (.bool false)) fun x178=>guardS x178 true h175 (fun k179=>k179 x145 h175 [] []) fun x180 h181 _ _=>pickS x178 x180 (.fv (.bool false)) fun x184=>storeA 3 x13 x169 h181 fun h185 r186 w187=>S61_533 r186 w187 h185 x13 x184
def S61_535 (r164 r162 r160 r157 w158 r154:LRf) (h156:Hp) (x155 x159 x161 x163:IV) (ih:Handler) (x79 x101 x145 x13:IV):OH :=
 chkS [(r162,[]),(r160,[]),(r157,w158),(r154,[])] r164 [] (genS (pcBuildSlice EE 29 4 [(0,x155),(1,x159),(2,x161),(3,x163)]) 63968261 h156 fun x165 h166 r167 w168=>chkS [] r167 w168 (isoS [] false false ih 27 [.fv (.int .i64 13),x165] h166 fun x169 h170 r171 w172=>chkS [] r171 w172 (S61_534 h170 x79 x101 x145 x13 x169)))
def S61_536 (h156:Hp) (x102:IV) (r157 w158 r154:LRf) (x146 x80 x155:IV) (ih:Handler) (x79 x101 x145 x13:IV):OH :=
 loadA 3 x102 h156 fun x159 r160=>chkS [(r157,w158),(r154,[])] r160 [] (loadA 3 x146 h156 fun x161 r162=>chkS [(r160,[]),(r157,w158),(r154,[])] r162 [] (loadA 3 x80 h156 fun x163 r164=>S61_535 r164 r162 r160 r157 w158 r154 h156 x155 x159 x161 x163 ih x79 x101 x145 x13))
def S61_537 (r151 w152:LRf) (h150:Hp) (x5:IV) (ih:Handler) (x102 x146 x80 x79 x101 x145 x13:IV):OH :=
 chkS [] r151 w152 (loadA 3 x5 h150 fun x153 r154=>chkS [] r154 [] (isoS [] false false ih 31 [x153,.fv (.int .i64 1),.fv (.int .i64 0)] h150 fun x155 h156 r157 w158=>chkS [] r157 w158 (S61_536 h156 x102 r157 w158 r154 x146 x80 x155 ih x79 x101 x145 x13)))
def S61_538 (x140:IV) (h141:Hp) (r142 w143 r137 w138 r134 r131 w132 r128 r125 w126 r121 w122 r118 r115 w116 r111 w112:LRf) (x5:IV) (ih:Handler) (x102 x80 x79 x101 x13:IV):OH :=
 extS 0 x140 fun x144=>extS 1 x140 fun x145=>newS 63967248 (.row [.fv (.int .i64 0),.fv (.int .i64 0),.nils] false) (.ptr (.own 63967248) 0) h141 fun x146 h147 r148 w149=>chkS [(r142,w143),(r137,w138),(r134,[]),(r131,w132),(r128,[]),(r125,w126),(r121,w122),(r118,[]),(r115,w116),(r111,w112)] r148 w149 (storeA 3 x146 x144 h147 fun h150 r151 w152=>S61_537 r151 w152 h150 x5 ih x102 x146 x80 x79 x101 x145 x13)
def S61_539 (ih:Handler) (h130:Hp) (x133 x3 x123 x129:IV) (r134 r131 w132 r128 r125 w126 r121 w122 r118 r115 w116 r111 w112:LRf) (x5 x102 x80 x79 x101 x13:IV):OH :=
 isoS [] false false ih 58 [x133,.fv (.int .i64 2)] h130 fun x135 h136 r137 w138=>chkS [] r137 w138 (subS EE 3 x3 (.fv (.int .i64 2)) fun x139=>isoS [] false false ih 26 [x123,x129,x135,x139] h136 fun x140 h141 r142 w143=>chkS [] r142 w143 (S61_538 x140 h141 r142 w143 r137 w138 r134 r131 w132 r128 r125 w126 r121 w122 r118 r115 w116 r111 w112 x5 ih x102 x80 x79 x101 x13))
def S61_540 (r128 r125 w126 r121 w122 r118 r115 w116 r111 w112:LRf) (ih:Handler) (h124:Hp) (x127 x9 x3 x123 x5 x102 x80 x79 x101 x13:IV):OH :=
 chkS [(r125,w126),(r121,w122),(r118,[]),(r115,w116),(r111,w112)] r128 [] (isoS [] false false ih 31 [x127,.fv (.int .i64 2),.fv (.int .i64 0)] h124 fun x129 h130 r131 w132=>chkS [] r131 w132 (loadA 3 x9 h130 fun x133 r134=>chkS [(r131,w132),(r128,[]),(r125,w126),(r121,w122),(r118,[]),(r115,w116),(r111,w112)] r134 [] (S61_539 ih h130 x133 x3 x123 x129 r134 r131 w132 r128 r125 w126 r121 w122 r118 r115 w116 r111 w112 x5 x102 x80 x79 x101 x13)))
def S61_541 (ih:Handler) (h114:Hp) (x117 x113 x5:IV) (r118 r115 w116 r111 w112:LRf) (x9 x3 x102 x80 x79 x101 x13:IV):OH :=
 isoS [] false false ih 31 [x117,.fv (.int .i64 1),.fv (.int .i64 0)] h114 fun x119 h120 r121 w122=>chkS [] r121 w122 (isoS [] false false ih 29 [x113,.fv (.int .i64 1),x119] h120 fun x123 h124 r125 w126=>chkS [] r125 w126 (loadA 3 x5 h124 fun x127 r128=>S61_540 r128 r125 w126 r121 w122 r118 r115 w116 r111 w112 ih h124 x127 x9 x3 x123 x5 x102 x80 x79 x101 x13))
def S61_542 (r111 w112:LRf) (ih:Handler) (h110:Hp) (x0 x109 x5 x9 x3 x102 x80 x79 x101 x13:IV):OH :=
 chkS [] r111 w112 (isoS [] false false ih 29 [x0,.fv (.int .i64 1),x109] h110 fun x113 h114 r115 w116=>chkS [] r115 w116 (loadA 3 x5 h114 fun x117 r118=>chkS [(r115,w116),(r111,w112)] r118 [] (S61_541 ih h114 x117 x113 x5 r118 r115 w116 r111 w112 x9 x3 x102 x80 x79 x101 x13)))
def S61_543 (h97:Hp) (r98 w99 r93 w94 r90 r88:LRf) (x100:IV) (ih:Handler) (x0 x5 x9 x3 x80 x79 x101 x13:IV):OH :=
 newS 63966218 (.row [.fv (.int .i64 0),.fv (.int .i64 0),.nils] false) (.ptr (.own 63966218) 0) h97 fun x102 h103 r104 w105=>chkS [(r98,w99),(r93,w94),(r90,[]),(r88,[])] r104 w105 (storeA 3 x102 x100 h103 fun h106 r107 w108=>chkS [] r107 w108 (isoS [] false false ih 56 [] h106 fun x109 h110 r111 w112=>S61_542 r111 w112 ih h110 x0 x109 x5 x9 x3 x102 x80 x79 x101 x13))
def S61_544 (x3:IV) (ih:Handler) (h92:Hp) (x0 x87 x91:IV) (r93 w94 r90 r88:LRf) (x5 x9 x80 x79 x13:IV):OH :=
 subS EE 3 x3 (.fv (.int .i64 2)) fun x95=>isoS [] false false ih 26 [x0,x87,x91,x95] h92 fun x96 h97 r98 w99=>chkS [] r98 w99 (extS 0 x96 fun x100=>extS 1 x96 fun x101=>S61_543 h97 r98 w99 r93 w94 r90 r88 x100 ih x0 x5 x9 x3 x80 x79 x101 x13)
def S61_545 (r88:LRf) (h84:Hp) (x9:IV) (ih:Handler) (x3 x0 x87 x5 x80 x79 x13:IV):OH :=
 chkS [] r88 [] (loadA 3 x9 h84 fun x89 r90=>chkS [(r88,[])] r90 [] (isoS [] false false ih 58 [x89,.fv (.int .i64 1)] h84 fun x91 h92 r93 w94=>chkS [(r88,[])] r93 w94 (S61_544 x3 ih h92 x0 x87 x91 r93 w94 r90 r88 x5 x9 x80 x79 x13)))
def S61_546 (h75:Hp) (r76 w77 r71 w72 r68 r65 w66:LRf) (x78 x5 x9:IV) (ih:Handler) (x3 x0 x79 x13:IV):OH :=
 newS 63965194 (.row [.fv (.int .i64 0),.fv (.int .i64 0),.nils] false) (.ptr (.own 63965194) 0) h75 fun x80 h81 r82 w83=>chkS [(r76,w77),(r71,w72),(r68,[]),(r65,w66)] r82 w83 (storeA 3 x80 x78 h81 fun h84 r85 w86=>chkS [] r85 w86 (loadA 3 x5 h84 fun x87 r88=>S61_545 r88 h84 x9 ih x3 x0 x87 x5 x80 x79 x13))
def S61_547 (x3:IV) (ih:Handler) (h70:Hp) (x0 x63 x69:IV) (r71 w72 r68 r65 w66:LRf) (x5 x9 x13:IV):OH :=
 subS EE 3 x3 (.fv (.int .i64 2)) fun x73=>isoS [] false false ih 26 [x0,x63,x69,x73] h70 fun x74 h75 r76 w77=>chkS [] r76 w77 (extS 0 x74 fun x78=>extS 1 x74 fun x79=>S61_546 h75 r76 w77 r71 w72 r68 r65 w66 x78 x5 x9 ih x3 x0 x79 x13)
def S61_548 (r65 w66:LRf) (h64:Hp) (x9:IV) (ih:Handler) (x3 x0 x63 x5 x13:IV):OH :=
 chkS [] r65 w66 (loadA 3 x9 h64 fun x67 r68=>chkS [(r65,w66)] r68 [] (isoS [] false false ih 58 [x67,.fv (.int .i64 0)] h64 fun x69 h70 r71 w72=>chkS [] r71 w72 (S61_547 x3 ih h70 x0 x63 x69 r71 w72 r68 r65 w66 x5 x9 x13)))
def S61_549 (ih:Handler) (h244:Hp) (x243 x13 x233:IV):OH :=
 isoS [] false false ih 27 [.fv (.int .i64 12),x243] h244 fun x247 h248 _ _=>storeA 3 x13 x247 h248 fun h251 _ _=>cellS true 3 x13 h251 fun x254=>outS1 [x254,x233] h251
def S61_550 (r236 w237 r230 w231 r225 w226 r222 r220:LRf) (h235:Hp) (x234 x232:IV) (ih:Handler) (x13 x233:IV):OH :=
 chkS [(r230,w231),(r225,w226),(r222,[]),(r220,[])] r236 w237 (storeA 3 x234 x232 h235 fun h238 r239 w240=>chkS [] r239 w240 (loadA 3 x234 h238 fun x241 _=>genS (pcBuildSlice EE 29 1 [(0,x241)]) 63973377 h238 fun x243 h244 _ _=>S61_549 ih h244 x243 x13 x233))
def S61_551 (ih:Handler) (h224:Hp) (x0 x219 x223 x227:IV) (r225 w226 r222 r220:LRf) (x13:IV):OH :=
 isoS [] false false ih 26 [x0,x219,x223,x227] h224 fun x228 h229 r230 w231=>chkS [] r230 w231 (extS 0 x228 fun x232=>extS 1 x228 fun x233=>newS 63972362 (.row [.fv (.int .i64 0),.fv (.int .i64 0),.nils] false) (.ptr (.own 63972362) 0) h229 fun x234 h235 r236 w237=>S61_550 r236 w237 r230 w231 r225 w226 r222 r220 h235 x234 x232 ih x13 x233)
def S61_552 (h215:Hp) (x9:IV) (r220:LRf) (ih:Handler) (x3 x0 x219 x13:IV):OH :=
 loadA 3 x9 h215 fun x221 r222=>chkS [(r220,[])] r222 [] (isoS [] false false ih 58 [x221,.fv (.int .i64 0)] h215 fun x223 h224 r225 w226=>chkS [(r220,[])] r225 w226 (subS EE 3 x3 (.fv (.int .i64 1)) fun x227=>S61_551 ih h224 x0 x219 x223 x227 r225 w226 r222 r220 x13))
def S61_553 (ih:Handler) (h215:Hp) (x256 x13:IV):OH :=
 isoS [] false false ih 55 [x256,.fv (.int .i64 4)] h215 fun x258 h259 _ _=>isoS [] false false ih 35 [x258] h259 fun x262 h263 _ _=>storeA 3 x13 x262 h263 fun h266 _ _=>cellS true 3 x13 h266 fun x269=>outS1 [x269,.fv (.bool true)] h266
def S61_554 (x218:IV) (h215:Hp) (x5 x9:IV) (ih:Handler) (x3 x0 x13:IV):OH :=
 condS x218 (loadA 3 x5 h215 fun x219 r220=>chkS [] r220 [] (S61_552 h215 x9 r220 ih x3 x0 x219 x13)) (faddrS 1 x9 fun x255=>load1 x255 h215 fun x256 _=>S61_553 ih h215 x256 x13)
def S61_555 (h59:Hp) (x193 x9:IV) (ih:Handler) (x5 x3 x0 x13:IV):OH :=
 guardS x193 true h59 (fun k194=>faddrS 0 x9 fun x195=>k194 x195 h59 [] []) fun x196 h197 _ _=>guardS x193 true h197 (fun k200=>load1 x196 h197 fun x201 r202=>k200 x201 h197 r202 []) fun x203 h204 _ _=>guardS x193 true h204 (fun k207=>isoS [] false false ih 55 [x203,.fv (.int .i64 2)] h204 k207) fun x208 h209 _ _=>guardS x193 true h209 (fun k212=>eqS EE 3 x208 (.fv (.int .i64 1)) fun x213=>k212 x213 h209 [] []) fun x214 h215 _ _=>pickS x193 x214 (.fv (.bool false)) fun x218=>S61_554 x218 h215 x5 x9 ih x3 x0 x13
def S61_556 (x311 x362:IV) (h363:Hp) (x13 x357:IV):OH :=
 pickS x311 x362 (.fv (.bool false)) fun x366=>storeA 3 x13 x357 h363 fun h367 r368 w369=>chkS [] r368 w369 (cellS true 3 x13 h367 fun x370=>outS1 [x370,x366] h367)
def S61_557 (h345:Hp) (x349 x351:IV) (r346 w347 r343:LRf) (ih:Handler) (x348 x311 x333 x13:IV):OH :=
 genS (pcBuildSlice EE 29 2 [(0,x349),(1,x351)]) 63979526 h345 fun x353 h354 r355 w356=>chkS [(r346,w347),(r343,[])] r355 w356 (isoS [] false false ih 27 [x348,x353] h354 fun x357 h358 r359 w360=>chkS [] r359 w360 (guardS x311 true h358 (fun k361=>k361 x333 h358 [] []) fun x362 h363 _ _=>S61_556 x311 x362 h363 x13 x357))
def S61_558 (x344:IV) (h345:Hp) (x312:IV) (r346 w347 r343:LRf) (x334:IV) (ih:Handler) (x311 x333 x13:IV):OH :=
 addS EE 3 (.fv (.int .i64 16)) x344 fun x348=>loadA 3 x312 h345 fun x349 r350=>chkS [(r346,w347),(r343,[])] r350 [] (loadA 3 x334 h345 fun x351 r352=>chkS [(r350,[]),(r346,w347),(r343,[])] r352 [] (S61_557 h345 x349 x351 r346 w347 r343 ih x348 x311 x333 x13))
def S61_559 (x9:IV) (h338:Hp) (ih:Handler) (x312 x334 x311 x333 x13:IV):OH :=
 faddrS 1 x9 fun x341=>load1 x341 h338 fun x342 r343=>chkS [] r343 [] (isoS [] false false ih 55 [x342,.fv (.int .i64 2)] h338 fun x344 h345 r346 w347=>chkS [] r346 w347 (S61_558 x344 h345 x312 r346 w347 r343 x334 ih x311 x333 x13))
def S61_560 (x328:IV) (h329:Hp) (r330 w331 r325 w326 r322 r320:LRf) (x332 x9:IV) (ih:Handler) (x312 x311 x13:IV):OH :=
 extS 1 x328 fun x333=>newS 63978506 (.row [.fv (.int .i64 0),.fv (.int .i64 0),.nils] false) (.ptr (.own 63978506) 0) h329 fun x334 h335 r336 w337=>chkS [(r330,w331),(r325,w326),(r322,[]),(r320,[])] r336 w337 (storeA 3 x334 x332 h335 fun h338 r339 w340=>chkS [] r339 w340 (S61_559 x9 h338 ih x312 x334 x311 x333 x13))
def S61_561 (r325 w326 r320:LRf) (x3:IV) (ih:Handler) (h324:Hp) (x0 x319 x323:IV) (r322:LRf) (x9 x312 x311 x13:IV):OH :=
 chkS [(r320,[])] r325 w326 (subS EE 3 x3 (.fv (.int .i64 1)) fun x327=>isoS [] false false ih 26 [x0,x319,x323,x327] h324 fun x328 h329 r330 w331=>chkS [] r330 w331 (extS 0 x328 fun x332=>S61_560 x328 h329 r330 w331 r325 w326 r322 r320 x332 x9 ih x312 x311 x13))
def S61_562 (h316:Hp) (x5 x9:IV) (ih:Handler) (x3 x0 x312 x311 x13:IV):OH :=
 loadA 3 x5 h316 fun x319 r320=>chkS [] r320 [] (loadA 3 x9 h316 fun x321 r322=>chkS [(r320,[])] r322 [] (isoS [] false false ih 58 [x321,.fv (.int .i64 1)] h316 fun x323 h324 r325 w326=>S61_561 r325 w326 r320 x3 ih h324 x0 x319 x323 r322 x9 x312 x311 x13))
def S61_563 (x306:IV) (h307:Hp) (r308 w309 r303 w304 r300 r298:LRf) (x310 x5 x9:IV) (ih:Handler) (x3 x0 x13:IV):OH :=
 extS 1 x306 fun x311=>newS 63977482 (.row [.fv (.int .i64 0),.fv (.int .i64 0),.nils] false) (.ptr (.own 63977482) 0) h307 fun x312 h313 r314 w315=>chkS [(r308,w309),(r303,w304),(r300,[]),(r298,[])] r314 w315 (storeA 3 x312 x310 h313 fun h316 r317 w318=>chkS [] r317 w318 (S61_562 h316 x5 x9 ih x3 x0 x312 x311 x13))
def S61_564 (r303 w304 r298:LRf) (x3:IV) (ih:Handler) (h302:Hp) (x0 x297 x301:IV) (r300:LRf) (x5 x9 x13:IV):OH :=
 chkS [(r298,[])] r303 w304 (subS EE 3 x3 (.fv (.int .i64 1)) fun x305=>isoS [] false false ih 26 [x0,x297,x301,x305] h302 fun x306 h307 r308 w309=>chkS [] r308 w309 (extS 0 x306 fun x310=>S61_563 x306 h307 r308 w309 r303 w304 r300 r298 x310 x5 x9 ih x3 x0 x13))
def S61_565 (h293:Hp) (x5 x9:IV) (ih:Handler) (x3 x0 x13:IV):OH :=
 loadA 3 x5 h293 fun x297 r298=>chkS [] r298 [] (loadA 3 x9 h293 fun x299 r300=>chkS [(r298,[])] r300 [] (isoS [] false false ih 58 [x299,.fv (.int .i64 0)] h293 fun x301 h302 r303 w304=>S61_564 r303 w304 r298 x3 ih h302 x0 x297 x301 r300 x5 x9 x13))
def S61_566 (ih:Handler) (h293:Hp) (x13:IV):OH :=
 isoS [] false false ih 27 [.fv (.int .i64 15),.nils] h293 fun x371 h372 _ _=>storeA 3 x13 x371 h372 fun h375 _ _=>cellS true 3 x13 h375 fun x378=>outS1 [x378,.fv (.bool true)] h375
def S61_567 (h275:Hp) (x271 x274:IV) (ih:Handler) (x5 x9 x3 x0 x13:IV):OH :=
 guardS x271 true h275 (fun k278=>load1 x274 h275 fun x279 r280=>k278 x279 h275 r280 []) fun x281 h282 _ _=>guardS x271 true h282 (fun k285=>isoS [] false false ih 55 [x281,.fv (.int .i64 5)] h282 k285) fun x286 h287 _ _=>guardS x271 true h287 (fun k290=>gtS EE 3 x286 (.fv (.int .i64 1)) fun x291=>k290 x291 h287 [] []) fun x292 h293 _ _=>pickS x271 x292 (.fv (.bool false)) fun x296=>condS x296 (S61_565 h293 x5 x9 ih x3 x0 x13) (S61_566 ih h293 x13)
def S61_568 (x384:IV) (ih:Handler) (h59:Hp) (x13:IV):OH :=
 subS EE 3 x384 (.fv (.int .i64 1)) fun x386=>isoS [] false false ih 57 [x386] h59 fun x387 h388 _ _=>storeA 3 x13 x387 h388 fun h391 _ _=>cellS true 3 x13 h391 fun x394=>outS1 [x394,.fv (.bool true)] h391
def S61_569 (h491:Hp) (x13 x490:IV):OH :=
 cellS true 3 x13 h491 fun x494=>outS1 [x494,x490] h491
def S61_570 (r483 w484:LRf) (h482:Hp) (x429 x457 x13 x481:IV):OH :=
 chkS [] r483 w484 (guardS x429 true h482 (fun k485=>k485 x457 h482 [] []) fun x486 h487 _ _=>pickS x429 x486 (.fv (.bool false)) fun x490=>storeA 3 x13 x481 h487 fun h491 r492 w493=>chkS [] r492 w493 (S61_569 h491 x13 x490))
def S61_571 (h466:Hp) (x458:IV) (r474 r472 r467 w468:LRf) (x473:IV) (ih:Handler) (x471 x429 x457 x13:IV):OH :=
 loadA 3 x458 h466 fun x475 r476=>chkS [(r474,[]),(r472,[]),(r467,w468)] r476 [] (genS (pcBuildSlice EE 29 2 [(0,x473),(1,x475)]) 63987719 h466 fun x477 h478 r479 w480=>chkS [(r472,[]),(r467,w468)] r479 w480 (isoS [] false false ih 27 [x471,x477] h478 fun x481 h482 r483 w484=>S61_570 r483 w484 h482 x429 x457 x13 x481))
def S61_572 (x465 x469:IV) (h466:Hp) (x430:IV) (r467 w468:LRf) (x458:IV) (ih:Handler) (x429 x457 x13:IV):OH :=
 ixS 1 x465 x469 fun x470=>load1 x470 h466 fun x471 r472=>chkS [] r472 [] (loadA 3 x430 h466 fun x473 r474=>chkS [(r472,[]),(r467,w468)] r474 [] (S61_571 h466 x458 r474 r472 r467 w468 x473 ih x471 x429 x457 x13))
def S61_573 (h459:Hp) (x458 x456 x398 x430:IV) (ih:Handler) (x429 x457 x13:IV):OH :=
 storeA 3 x458 x456 h459 fun h462 r463 w464=>chkS [] r463 w464 (genS (pcBuildSlice EE 108 2 [(0,.fv (.int .i64 3)),(1,.fv (.int .i64 6))]) 63987712 h462 fun x465 h466 r467 w468=>chkS [] r467 w468 (subS EE 3 x398 (.fv (.int .i64 2)) fun x469=>S61_572 x465 x469 h466 x430 r467 w468 x458 ih x429 x457 x13))
def S61_574 (r454 w455:LRf) (x452:IV) (h453:Hp) (r449 w450 r446 r444 r441 w442 r438:LRf) (x398 x430:IV) (ih:Handler) (x429 x13:IV):OH :=
 chkS [] r454 w455 (extS 0 x452 fun x456=>extS 1 x452 fun x457=>newS 63986700 (.row [.fv (.int .i64 0),.fv (.int .i64 0),.nils] false) (.ptr (.own 63986700) 0) h453 fun x458 h459 r460 w461=>chkS [(r454,w455),(r449,w450),(r446,[]),(r444,[]),(r441,w442),(r438,[])] r460 w461 (S61_573 h459 x458 x456 x398 x430 ih x429 x457 x13))
def S61_575 (r446 r444 r441 w442 r438:LRf) (ih:Handler) (h440:Hp) (x445 x3 x439 x443 x398 x430 x429 x13:IV):OH :=
 chkS [(r444,[]),(r441,w442),(r438,[])] r446 [] (isoS [] false false ih 58 [x445,.fv (.int .i64 1)] h440 fun x447 h448 r449 w450=>chkS [(r444,[])] r449 w450 (subS EE 3 x3 (.fv (.int .i64 1)) fun x451=>isoS [] false false ih 26 [x439,x443,x447,x451] h448 fun x452 h453 r454 w455=>S61_574 r454 w455 x452 h453 r449 w450 r446 r444 r441 w442 r438 x398 x430 ih x429 x13))
def S61_576 (ih:Handler) (h434:Hp) (x0 x437 x5:IV) (r438:LRf) (x9 x3 x398 x430 x429 x13:IV):OH :=
 isoS [] false false ih 29 [x0,.fv (.int .i64 1),x437] h434 fun x439 h440 r441 w442=>chkS [] r441 w442 (loadA 3 x5 h440 fun x443 r444=>chkS [(r441,w442),(r438,[])] r444 [] (loadA 3 x9 h440 fun x445 r446=>S61_575 r446 r444 r441 w442 r438 ih h440 x445 x3 x439 x443 x398 x430 x429 x13))
def S61_577 (r432 w433 r426 w427 r421 w422 r418 r416:LRf) (h431:Hp) (x430 x428:IV) (ih:Handler) (x0 x5 x9 x3 x398 x429 x13:IV):OH :=
 chkS [(r426,w427),(r421,w422),(r418,[]),(r416,[])] r432 w433 (storeA 3 x430 x428 h431 fun h434 r435 w436=>chkS [] r435 w436 (loadA 3 x430 h434 fun x437 r438=>chkS [] r438 [] (S61_576 ih h434 x0 x437 x5 r438 x9 x3 x398 x430 x429 x13)))
def S61_578 (ih:Handler) (h420:Hp) (x0 x415 x419 x423:IV) (r421 w422 r418 r416:LRf) (x5 x9 x3 x398 x13:IV):OH :=
 isoS [] false false ih 26 [x0,x415,x419,x423] h420 fun x424 h425 r426 w427=>chkS [] r426 w427 (extS 0 x424 fun x428=>extS 1 x424 fun x429=>newS 63985674 (.row [.fv (.int .i64 0),.fv (.int .i64 0),.nils] false) (.ptr (.own 63985674) 0) h425 fun x430 h431 r432 w433=>S61_577 r432 w433 r426 w427 r421 w422 r418 r416 h431 x430 x428 ih x0 x5 x9 x3 x398 x429 x13)
def S61_579 (h411:Hp) (x9:IV) (r416:LRf) (ih:Handler) (x3 x0 x415 x5 x398 x13:IV):OH :=
 loadA 3 x9 h411 fun x417 r418=>chkS [(r416,[])] r418 [] (isoS [] false false ih 58 [x417,.fv (.int .i64 0)] h411 fun x419 h420 r421 w422=>chkS [(r416,[])] r421 w422 (subS EE 3 x3 (.fv (.int .i64 1)) fun x423=>S61_578 ih h420 x0 x415 x419 x423 r421 w422 r418 r416 x5 x9 x3 x398 x13))
def S61_580 (h529:Hp) (x13:IV):OH :=
 cellS true 3 x13 h529 fun x532=>outS1 [x532,.fv (.bool true)] h529
def S61_581 (x515 x522:IV) (h523:Hp) (x13:IV):OH :=
 ixS 3 x515 x522 fun x526=>loadA 3 x526 h523 fun x527 r528=>chkS [] r528 [] (storeA 3 x13 x527 h523 fun h529 r530 w531=>chkS [] r530 w531 (S61_580 h529 x13))
def S61_582 (x9:IV) (h516:Hp) (r517 w518 r513 w514 r509 w510 r505 w506 r501 w502 r497 w498:LRf) (ih:Handler) (x515 x13:IV):OH :=
 faddrS 1 x9 fun x519=>load1 x519 h516 fun x520 r521=>chkS [(r517,w518),(r513,w514),(r509,w510),(r505,w506),(r501,w502),(r497,w498)] r521 [] (isoS [] false false ih 55 [x520,.fv (.int .i64 3)] h516 fun x522 h523 r524 w525=>chkS [(r517,w518)] r524 w525 (S61_581 x515 x522 h523 x13))
def S61_583 (r509 w510:LRf) (ih:Handler) (h508:Hp) (x507 x495 x499 x9:IV) (r505 w506 r501 w502 r497 w498:LRf) (x13:IV):OH :=
 chkS [] r509 w510 (isoS [] false false ih 27 [.fv (.int .i64 18),x507] h508 fun x511 h512 r513 w514=>chkS [] r513 w514 (genS (pcBuildSlice EE 29 3 [(0,x495),(1,x499),(2,x511)]) 63988741 h512 fun x515 h516 r517 w518=>chkS [] r517 w518 (S61_582 x9 h516 r517 w518 r513 w514 r509 w510 r505 w506 r501 w502 r497 w498 ih x515 x13)))
def S61_584 (ih:Handler) (h496:Hp) (x495 x9:IV) (r497 w498:LRf) (x13:IV):OH :=
 isoS [] false false ih 27 [.fv (.int .i64 14),.nils] h496 fun x499 h500 r501 w502=>chkS [] r501 w502 (isoS [] false false ih 27 [.fv (.int .i64 15),.nils] h500 fun x503 h504 r505 w506=>chkS [] r505 w506 (genS (pcBuildSlice EE 29 1 [(0,x503)]) 63988739 h504 fun x507 h508 r509 w510=>S61_583 r509 w510 ih h508 x507 x495 x499 x9 r505 w506 r501 w502 r497 w498 x13))
def S61_585 (x414:IV) (h411:Hp) (x5 x9:IV) (ih:Handler) (x3 x0 x398 x13:IV):OH :=
 condS x414 (loadA 3 x5 h411 fun x415 r416=>chkS [] r416 [] (S61_579 h411 x9 r416 ih x3 x0 x415 x5 x398 x13)) (isoS [] false false ih 56 [] h411 fun x495 h496 r497 w498=>chkS [] r497 w498 (S61_584 ih h496 x495 x9 r497 w498 x13))
def S61_586 (ih:Handler) (h59:Hp) (x396 x3 x5 x9 x0 x13:IV):OH :=
 isoS [] false false ih 55 [x396,.fv (.int .i64 4)] h59 fun x398 h399 _ _=>gtS EE 3 x3 (.fv (.int .i64 0)) fun x402=>guardS x402 true h399 (fun k403=>k403 x398 h399 [] []) fun x404 h405 _ _=>guardS x402 true h405 (fun k408=>gtS EE 3 x404 (.fv (.int .i64 1)) fun x409=>k408 x409 h405 [] []) fun x410 h411 _ _=>pickS x402 x410 (.fv (.bool false)) fun x414=>S61_585 x414 h411 x5 x9 ih x3 x0 x398 x13
def S61_587 (x380 x5:IV) (h59:Hp) (ih:Handler) (x13 x9 x3 x0:IV):OH :=
 gtS EE 3 x380 (.fv (.int .i64 0)) fun x382=>condS x382 (faddrS 1 x5 fun x383=>load1 x383 h59 fun x384 _=>S61_568 x384 ih h59 x13) (faddrS 0 x9 fun x395=>load1 x395 h59 fun x396 _=>S61_586 ih h59 x396 x3 x5 x9 x0 x13)
def S61_588 (x270 x3:IV) (h59:Hp) (x9:IV) (ih:Handler) (x5 x0 x13:IV):OH :=
 condS x270 (gtS EE 3 x3 (.fv (.int .i64 0)) fun x271=>guardS x271 true h59 (fun k272=>faddrS 0 x9 fun x273=>k272 x273 h59 [] []) fun x274 h275 _ _=>S61_567 h275 x271 x274 ih x5 x9 x3 x0 x13) (faddrS 1 x5 fun x379=>load1 x379 h59 fun x380 _=>S61_587 x380 x5 h59 ih x13 x9 x3 x0)
def S61_589 (h59:Hp) (x189 x3 x9:IV) (ih:Handler) (x5 x0 x13:IV):OH :=
 load1 x189 h59 fun x190 _=>eqS EE 3 x190 (.fv (.int .i64 10)) fun x192=>condS x192 (gtS EE 3 x3 (.fv (.int .i64 0)) fun x193=>S61_555 h59 x193 x9 ih x5 x3 x0 x13) (eqS EE 3 x190 (.fv (.int .i64 14)) fun x270=>S61_588 x270 x3 h59 x9 ih x5 x0 x13)
def S61_590 (h53:Hp) (x42 x52:IV) (ih:Handler) (x9 x3 x0 x5 x13:IV):OH :=
 guardS x42 true h53 (fun k56=>neS EE 3 x52 (.fv (.int .i64 2)) fun x57=>k56 x57 h53 [] []) fun x58 h59 _ _=>pickS x42 x58 (.fv (.bool false)) fun x62=>condS x62 (isoS [] false false ih 56 [] h59 fun x63 h64 r65 w66=>S61_548 r65 w66 h64 x9 ih x3 x0 x63 x5 x13) (faddrS 0 x5 fun x189=>S61_589 h59 x189 x3 x9 ih x5 x0 x13)
def S61_591 (h28:Hp) (x17:IV) (ih:Handler) (x27 x5 x9 x3 x0 x13:IV):OH :=
 guardS x17 true h28 (fun k31=>isoS [] false false ih 55 [x27,.fv (.int .i64 5)] h28 k31) fun x32 h33 _ _=>guardS x17 true h33 (fun k36=>eqS EE 3 x32 (.fv (.int .i64 4)) fun x37=>k36 x37 h33 [] []) fun x38 h39 _ _=>pickS x17 x38 (.fv (.bool false)) fun x42=>guardS x42 true h39 (fun k43=>faddrS 0 x5 fun x44=>k43 x44 h39 [] []) fun x45 h46 _ _=>guardS x42 true h46 (fun k49=>load1 x45 h46 fun x50 r51=>k49 x50 h46 r51 []) fun x52 h53 _ _=>S61_590 h53 x42 x52 ih x9 x3 x0 x5 x13
def S61 (ih:Handler) (n:Nat) (x0 x1 x2 x3:IV) (h4:Hp):OH :=
 boxS 63963136 x1 h4 fun x5 h6 _ _=>boxS 63963137 x2 h6 fun x9 h10 _ _=>newS 63963138 (.row [.fv (.int .i64 0),.fv (.int .i64 0),.nils] false) (.ptr (.own 63963138) 0) h10 fun x13 h14 _ _=>gtS EE 3 x3 (.fv (.int .i64 0)) fun x17=>guardS x17 true h14 (fun k18=>faddrS 0 x9 fun x19=>k18 x19 h14 [] []) fun x20 h21 _ _=>guardS x17 true h21 (fun k24=>load1 x20 h21 fun x25 r26=>k24 x25 h21 r26 []) fun x27 h28 _ _=>S61_591 h28 x17 ih x27 x5 x9 x3 x0 x13
theorem S61_ok (ih:Handler) (n:Nat) (x0 x1 x2 x3:IV) (h4:Hp):funS EE ih ft.get n 61 [x0,x1,x2,x3] h4=S61 ih n x0 x1 x2 x3 h4:=by kernel_rfl
end
end Idl
end Go.Proofs.Ytbkdidonegggdaa

/-
  Texts of a proof, part 9: an ideal semantics of the program, its functions in shallow form, contracts of them. No statement of the seat is proved here.
-/
import Derived.Test.YtaifgaidaglblaaEqualAllK8
set_option linter.all false
noncomputable section
set_option maxRecDepth 100000
set_option linter.unusedVariables false
namespace Go.Proofs.Ytaifgaidaglblaa
namespace Idl
noncomputable section
def Lr (h4:Hp) (x11 x1:IV):OH :=
 Ae x11 h4 fun x12 _=>A5 EE 3 x12 x1 fun x14=>An [x14] h4
def LF (x18 x35:IV) (ih:Aa) (h36:Hp) (x30 x20:IV) (q15:List IV→Hp→OH) (x19:IV):OH :=
 BD EE 3 x18 x35 fun x39=>Al [] false false ih 54 [x30,x39] h36 fun x40 h41 r42 w43=>Ad [] r42 w43 (Am x40 (An [.fv (.bool true)] h41) (BD EE 3 x20 (.fv (.int .i64 1)) fun x44=>q15 [x18,x19,x44] h41))
def LW (x19:IV) (h17:Hp) (r31 r28:AI) (ih:Aa) (x20 x18 x30:IV) (q15:List IV→Hp→OH):OH :=
 Ac 0 x19 fun x32=>Ae x32 h17 fun x33 r34=>Ad [(r31,[]),(r28,[])] r34 [] (Al [] false false ih 51 [x33,x20] h17 fun x35 h36 r37 w38=>Ad [(r31,[]),(r28,[])] r37 w38 (LF x18 x35 ih h36 x30 x20 q15 x19))
def Ly (h17:Hp) (x26 x20 x19:IV) (ih:Aa) (x18:IV) (q15:List IV→Hp→OH):OH :=
 Ae x26 h17 fun x27 r28=>Ad [] r28 [] (A6 3 x27 x20 fun x29=>Ai 3 x29 h17 fun x30 r31=>Ad [] r31 [] (LW x19 h17 r31 r28 ih x20 x18 x30 q15))
def LO (x22 x20 x19:IV) (h17:Hp) (ih:Aa) (x18:IV) (q15:List IV→Hp→OH):OH :=
 BQ x22 fun x24=>GQ EE 3 x20 x24 fun x25=>Am x25 (Ac 2 x19 fun x26=>Ly h17 x26 x20 x19 ih x18 q15) (An [.fv (.bool false)] h17)
def Qa (l16:List IV) (h17:Hp) (ih:Aa) (q15:List IV→Hp→OH):OH :=
 Aw l16 fun x18 l45=>Aw l45 fun x19 l46=>Aw l46 fun x20 _=>Ac 2 x19 fun x21=>Ae x21 h17 fun x22 _=>LO x22 x20 x19 h17 ih x18 q15
def S54 (ih:Aa) (n:Nat) (x0 x1:IV) (h2:Hp):OH :=
 A1 56623104 x0 h2 fun x3 h4 _ _=>Ac 0 x3 fun x7=>Ae x7 h4 fun x8 _=>A5 EE 3 x8 (.fv (.int .i64 1)) fun x10=>Am x10 (Ac 1 x3 fun x11=>Lr h4 x11 x1) (BE n (fun q15 l16 h17=>Qa l16 h17 ih q15) [x1,x3,.fv (.int .i64 0)] h4)
theorem AnM (ih:Aa) (n:Nat) (x0 x1:IV) (h2:Hp):Ax EE ih ft.get n 54 [x0,x1] h2=S54 ih n x0 x1 h2:=by kernel_rfl
def NI (h13:Hp) (x6:IV):OH :=
 Bx [.fv (.int .i64 0),.fv (.int .i64 0),.nils] [] fun x17=>Aj 3 x6 x17 h13 fun h18 _ _=>Av true 3 x6 h18 fun x21=>An [x21,.fv (.int .i64 1)] h18
def NL (r43 w44 r41:AI) (h42:Hp) (x6 x40:IV):OH :=
 Ad [(r41,[])] r43 w44 (Av true 3 x6 h42 fun x45=>An [x45,x40] h42)
def Nq (x22:IV) (h29:Hp) (x6 x37:IV):OH :=
 AE x22 fun x38=>Ac 3 x38 fun x39=>Ae x39 h29 fun x40 r41=>Ad [] r41 [] (Aj 3 x6 x37 h29 fun h42 r43 w44=>NL r43 w44 r41 h42 x6 x40)
def OG (h67:Hp) (x6 x65:IV):OH :=
 Av true 3 x6 h67 fun x70=>An [x70,x65] h67
def OD (x63:IV) (h54:Hp) (x6 x62:IV):OH :=
 Ac 3 x63 fun x64=>Ae x64 h54 fun x65 r66=>Ad [] r66 [] (Aj 3 x6 x62 h54 fun h67 r68 w69=>Ad [(r66,[])] r68 w69 (OG h67 x6 x65))
def OR (h73:Hp) (x6:IV):OH :=
 Av true 3 x6 h73 fun x76=>An [x76,.fv (.int .i64 0)] h73
def NE (x59 x22:IV) (h54:Hp) (x6 x50:IV):OH :=
 Gy EE 37 x59 (.fv (.int .i64 0)) fun x61=>Am x61 (Bx [.fv (.int .i64 0),.fv (.int .i64 0),.nils] [] fun x62=>AE x22 fun x63=>OD x63 h54 x6 x62) (Ai 3 x50 h54 fun x71 _=>Aj 3 x6 x71 h54 fun h73 _ _=>OR h73 x6)
def Nc (h47:Hp) (x46 x22 x6:IV):OH :=
 AH 57678851 (.row [.fv (.int .i64 0),.fv (.int .i64 0),.nils] false) (.ptr (.own 57678851) 0) h47 fun x50 h51 _ _=>Aj 3 x50 x46 h51 fun h54 _ _=>AE x22 fun x57=>Ac 3 x57 fun x58=>Ae x58 h54 fun x59 _=>NE x59 x22 h54 x6 x50
def NY (h29:Hp) (x33 x22 x6:IV) (ih:Aa) (x28:IV):OH :=
 Ae x33 h29 fun x34 _=>Gy EE 37 x34 (.fv (.int .i64 0)) fun x36=>Am x36 (Bx [.fv (.int .i64 0),.fv (.int .i64 0),.nils] [] fun x37=>Nq x22 h29 x6 x37) (Al [true,false,false,false] false false ih 66 [x22,x28,.fv (.int .i64 0),.fv (.int .i64 1)] h29 fun x46 h47 _ _=>Nc h47 x46 x22 x6)
def Nl (ih:Aa) (h13:Hp) (x2 x6:IV):OH :=
 Ahy ih 64 [] h13 fun x22 h23 _ _=>Ai 3 x2 h23 fun x26 _=>Al [true,false,false] false false ih 65 [x22,.fv .nilp,x26] h23 fun x28 h29 _ _=>AE x22 fun x32=>Ac 3 x32 fun x33=>NY h29 x33 x22 x6 ih x28
def S55 (ih:Aa) (n:Nat) (x0:IV) (h1:Hp):OH :=
 A1 57671680 x0 h1 fun x2 h3 _ _=>AH 57671681 (.row [.fv (.int .i64 0),.fv (.int .i64 0),.nils] false) (.ptr (.own 57671681) 0) h3 fun x6 h7 _ _=>Ai 3 x2 h7 fun x10 _=>Al [] false false ih 63 [x10] h7 fun x12 h13 _ _=>CF (Lz .not x12) fun x16=>Am x16 (NI h13 x6) (Nl ih h13 x2 x6)
theorem AmZ (ih:Aa) (n:Nat) (x0:IV) (h1:Hp):Ax EE ih ft.get n 55 [x0] h1=S55 ih n x0 h1:=by kernel_rfl
def Af2 (h13:Hp) (x2:IV) (ih:Aa) (x6:IV):OH :=
 Ai 3 x2 h13 fun x17 _=>Al [] false false ih 67 [x17] h13 fun x19 h20 _ _=>Aj 3 x6 x19 h20 fun h23 _ _=>Av true 3 x6 h23 fun x26=>An [x26] h23
def AgR (h13:Hp) (x2:IV) (ih:Aa) (x6:IV):OH :=
 Ai 3 x2 h13 fun x27 _=>Al [] false false ih 68 [x27] h13 fun x29 h30 _ _=>Aj 3 x6 x29 h30 fun h33 _ _=>Av true 3 x6 h33 fun x36=>An [x36] h33
def S56 (ih:Aa) (n:Nat) (x0:IV) (h1:Hp):OH :=
 A1 58720256 x0 h1 fun x2 h3 _ _=>AH 58720257 (.row [.fv (.int .i64 0),.fv (.int .i64 0),.nils] false) (.ptr (.own 58720257) 0) h3 fun x6 h7 _ _=>Ai 3 x2 h7 fun x10 _=>Al [] false false ih 63 [x10] h7 fun x12 h13 _ _=>CF (Lz .not x12) fun x16=>Am x16 (Af2 h13 x2 ih x6) (AgR h13 x2 ih x6)
theorem Alj (ih:Aa) (n:Nat) (x0:IV) (h1:Hp):Ax EE ih ft.get n 56 [x0] h1=S56 ih n x0 h1:=by kernel_rfl
def Sx (h67:Hp) (x50 x66:IV) (ih:Aa) (x60:IV):OH :=
 Ab x50 true h67 (fun k70=>Ae x66 h67 fun x71 r72=>k70 x71 h67 r72 []) fun x73 h74 _ _=>Ab x50 true h74 (fun k77=>Al [] false false ih 69 [x60,x73,.fv (.func (.func 57) [] [])] h74 k77) fun x78 h79 _ _=>AF x50 x78 (.fv (.bool false)) fun x82=>An [x82] h79
def R5 (h41:Hp) (x17 x27 x40 x3 x7:IV) (ih:Aa):OH :=
 Ab x17 true h41 (fun k44=>A5 EE 3 x27 x40 fun x45=>k44 x45 h41 [] []) fun x46 h47 _ _=>AF x17 x46 (.fv (.bool false)) fun x50=>Ab x50 true h47 (fun k51=>Ac 2 x3 fun x52=>k51 x52 h47 [] []) fun x53 h54 _ _=>Ab x50 true h54 (fun k57=>Ae x53 h54 fun x58 r59=>k57 x58 h54 r59 []) fun x60 h61 _ _=>Ab x50 true h61 (fun k64=>Ac 2 x7 fun x65=>k64 x65 h61 [] []) fun x66 h67 _ _=>Sx h67 x50 x66 ih x60
def Rb (x12 x15:IV) (h8:Hp) (x3 x7:IV) (ih:Aa):OH :=
 A5 EE 3 x12 x15 fun x17=>Ab x17 true h8 (fun k18=>Ac 1 x3 fun x19=>k18 x19 h8 [] []) fun x20 h21 _ _=>Ab x17 true h21 (fun k24=>Ae x20 h21 fun x25 r26=>k24 x25 h21 r26 []) fun x27 h28 _ _=>Ab x17 true h28 (fun k31=>Ac 1 x7 fun x32=>k31 x32 h28 [] []) fun x33 h34 _ _=>Ab x17 true h34 (fun k37=>Ae x33 h34 fun x38 r39=>k37 x38 h34 r39 []) fun x40 h41 _ _=>R5 h41 x17 x27 x40 x3 x7 ih
def S57 (ih:Aa) (n:Nat) (x0 x1:IV) (h2:Hp):OH :=
 A1 59768832 x0 h2 fun x3 h4 _ _=>A1 59768833 x1 h4 fun x7 h8 _ _=>Ac 0 x3 fun x11=>Ae x11 h8 fun x12 _=>Ac 0 x7 fun x14=>Ae x14 h8 fun x15 _=>Rb x12 x15 h8 x3 x7 ih
theorem Anc (ih:Aa) (n:Nat) (x0 x1:IV) (h2:Hp):Ax EE ih ft.get n 57 [x0,x1] h2=S57 ih n x0 x1 h2:=by kernel_rfl
def S58 (ih:Aa) (n:Nat) (x0 x1:IV) (h2:Hp):OH :=
 Az (Ak EE 87 0 []) 60818432 h2 fun x3 h4 _ _=>Az (AW EE 60818434 false .append [87,87] [x3,x0]) 60818434 h4 fun x7 h8 _ _=>Az (AW EE 60818436 false .append [87,87] [x7,x1]) 60818436 h8 fun x11 h12 _ _=>An [x11] h12
theorem Alp (ih:Aa) (n:Nat) (x0 x1:IV) (h2:Hp):Ax EE ih ft.get n 58 [x0,x1] h2=S58 ih n x0 x1 h2:=by kernel_rfl
def Zl (r121 w122:AI) (h120:Hp) (x119:IV):OH :=
 Ad [] r121 w122 (An [x119] h120)
def AcK (h79:Hp) (x109:IV) (r103 r99:AI) (ih:Aa) (x102 x0 x98:IV):OH :=
 Az (Ak EE 87 1 [(0,x109)]) 61872143 h79 fun x111 h112 r113 w114=>Ad [(r103,[]),(r99,[])] r113 w114 (Al [] false false ih 58 [x102,x111] h112 fun x115 h116 r117 w118=>Ad [(r99,[])] r117 w118 (Al [true,false,false] false false ih 42 [x0,x98,x115] h116 fun x119 h120 r121 w122=>Zl r121 w122 h120 x119))
def WJ (h79:Hp) (x105:IV) (r103 r99:AI) (ih:Aa) (x102 x0 x98:IV):OH :=
 Ae x105 h79 fun x106 r107=>Ad [(r103,[]),(r99,[])] r107 [] (A6 1 x106 (.fv (.int .i64 1)) fun x108=>Ae x108 h79 fun x109 r110=>Ad [(r103,[]),(r99,[])] r110 [] (AcK h79 x109 r103 r99 ih x102 x0 x98))
def WZ (x100:IV) (h79:Hp) (r99:AI) (x1:IV) (ih:Aa) (x0 x98:IV):OH :=
 Ac 3 x100 fun x101=>Ae x101 h79 fun x102 r103=>Ad [(r99,[])] r103 [] (AE x1 fun x104=>Ac 2 x104 fun x105=>WJ h79 x105 r103 r99 ih x102 x0 x98)
def Yr (x94:IV) (h79:Hp) (x1:IV) (ih:Aa) (x0:IV):OH :=
 AE x94 fun x96=>Ac 4 x96 fun x97=>Ai 3 x97 h79 fun x98 r99=>Ad [] r99 [] (AE x94 fun x100=>WZ x100 h79 r99 x1 ih x0 x98)
def Yc (x87:IV) (h79:Hp) (x1:IV) (ih:Aa) (x0:IV):OH :=
 AE x87 fun x89=>Ac 2 x89 fun x90=>Ae x90 h79 fun x91 _=>A6 1 x91 (.fv (.int .i64 1)) fun x93=>Ae x93 h79 fun x94 _=>Yr x94 h79 x1 ih x0
def AbV (x1:IV) (h79:Hp) (ih:Aa) (x0:IV):OH :=
 AE x1 fun x82=>Ac 2 x82 fun x83=>Ae x83 h79 fun x84 _=>A6 1 x84 (.fv (.int .i64 0)) fun x86=>Ae x86 h79 fun x87 _=>Yc x87 h79 x1 ih x0
def ZJ (x235 x242:IV) (h223:Hp):OH :=
 A6 1 x235 x242 fun x243=>Ae x243 h223 fun x244 r245=>Ad [] r245 [] (An [x244] h223)
def X4 (x237:IV) (h223:Hp) (r236 r232 r229:AI) (x235:IV):OH :=
 Ac 0 x237 fun x238=>Ae x238 h223 fun x239 r240=>Ad [(r236,[]),(r232,[]),(r229,[])] r240 [] (BD EE 3 (.fv (.int .i64 1)) x239 fun x241=>Bd EE 3 x241 (.fv (.int .i64 8)) fun x242=>ZJ x235 x242 h223)
def AbC (x231:IV) (h223:Hp) (x1:IV) (r232 r229:AI):OH :=
 AE x231 fun x233=>Ac 2 x233 fun x234=>Ae x234 h223 fun x235 r236=>Ad [] r236 [] (AE x1 fun x237=>X4 x237 h223 r236 r232 r229 x235)
def AbP (h223:Hp) (x227 x1:IV):OH :=
 Ae x227 h223 fun x228 r229=>Ad [] r229 [] (A6 1 x228 (.fv (.int .i64 0)) fun x230=>Ae x230 h223 fun x231 r232=>Ad [] r232 [] (AbC x231 h223 x1 r232 r229))
def WQ (ih:Aa) (h218:Hp) (x0 x1:IV) (j0_3:Hp→OH):OH :=
 Al [true] false false ih 70 [x0] h218 fun x222 h223 _ _=>Am x222 (AE x1 fun x226=>Ac 2 x226 fun x227=>AbP h223 x227 x1) (j0_3 h223)
def AbG (x258:IV) (h250:Hp):OH :=
 AE x258 fun x260=>Ac 2 x260 fun x261=>Ae x261 h250 fun x262 _=>A6 1 x262 (.fv (.int .i64 0)) fun x264=>Ae x264 h250 fun x265 _=>An [x265] h250
def YT (x1:IV) (h250:Hp):OH :=
 AE x1 fun x253=>Ac 2 x253 fun x254=>Ae x254 h250 fun x255 _=>A6 1 x255 (.fv (.int .i64 0)) fun x257=>Ae x257 h250 fun x258 _=>AbG x258 h250
def Ym (h336:Hp) (x340:IV):OH :=
 Ae x340 h336 fun x341 _=>A6 1 x341 (.fv (.int .i64 1)) fun x343=>Ae x343 h336 fun x344 _=>An [x344] h336
def Acx (x335 x1:IV) (h336:Hp) (j0_3:Hp→OH):OH :=
 Am x335 (AE x1 fun x339=>Ac 2 x339 fun x340=>Ym h336 x340) (j0_3 h336)
def Abm (r483 w484 r480 r476:AI) (ih:Aa) (h482:Hp) (x479 x481 x0 x475:IV):OH :=
 Ad [(r480,[]),(r476,[])] r483 w484 (Al [] false false ih 58 [x479,x481] h482 fun x485 h486 r487 w488=>Ad [(r476,[])] r487 w488 (Al [true,false,false] false false ih 42 [x0,x475,x485] h486 fun x489 h490 r491 w492=>Ad [] r491 w492 (An [x489] h490)))
def AcE (x471:IV) (h463:Hp) (r476:AI) (x430 x462:IV) (ih:Aa) (x0 x475:IV):OH :=
 AE x471 fun x477=>Ac 3 x477 fun x478=>Ae x478 h463 fun x479 r480=>Ad [(r476,[])] r480 [] (Az (Ak EE 87 2 [(0,x430),(1,x462)]) 61888523 h463 fun x481 h482 r483 w484=>Abm r483 w484 r480 r476 ih h482 x479 x481 x0 x475)
def ZS (h463:Hp) (x470 x430 x462:IV) (ih:Aa) (x0:IV):OH :=
 Ae x470 h463 fun x471 _=>AE x471 fun x473=>Ac 4 x473 fun x474=>Ai 3 x474 h463 fun x475 r476=>Ad [] r476 [] (AcE x471 h463 r476 x430 x462 ih x0 x475)
def Ze (r464 w465:AI) (x1:IV) (h463:Hp) (x430 x462:IV) (ih:Aa) (x0:IV):OH :=
 Ad [] r464 w465 (AE x1 fun x466=>Ac 2 x466 fun x467=>Ae x467 h463 fun x468 _=>A6 1 x468 (.fv (.int .i64 2)) fun x470=>ZS h463 x470 x430 x462 ih x0)
def Wt (r455 w456:AI) (x453:IV) (h454:Hp) (ih:Aa) (x0 x1 x430:IV):OH :=
 Ad [] r455 w456 (Bx [.fv (.int .i64 0),.fv (.int .i64 0),.nils,.nils,.fv (.int .i64 0),.fv (.int .i64 0),.nils] [(0,1,.fv (.int .i64 13)),(2,1,x453)] fun x457=>A1 61886486 x457 h454 fun x458 h459 r460 w461=>Ad [] r460 w461 (Al [true,false] false false ih 59 [x0,x458] h459 fun x462 h463 r464 w465=>Ze r464 w465 x1 h463 x430 x462 ih x0))
def YM (r449 r445 r442 r438 r435:AI) (x448:IV) (h415:Hp) (x437 x444 x430:IV) (ih:Aa) (x0 x1:IV):OH :=
 Ad [(r445,[]),(r442,[]),(r438,[]),(r435,[])] r449 [] (A6 1 x448 (.fv (.int .i64 2)) fun x450=>Ae x450 h415 fun x451 r452=>Ad [(r445,[]),(r442,[]),(r438,[]),(r435,[])] r452 [] (Az (Ak EE 87 4 [(0,x437),(1,x444),(2,x451),(3,x430)]) 61886484 h415 fun x453 h454 r455 w456=>Wt r455 w456 x453 h454 ih x0 x1 x430))
def Abu (h415:Hp) (x443:IV) (r438 r435:AI) (x1:IV) (r442:AI) (x437 x430:IV) (ih:Aa) (x0:IV):OH :=
 Ae x443 h415 fun x444 r445=>Ad [(r438,[]),(r435,[])] r445 [] (AE x1 fun x446=>Ac 2 x446 fun x447=>Ae x447 h415 fun x448 r449=>YM r449 r445 r442 r438 r435 x448 h415 x437 x444 x430 ih x0 x1)
def Abq (x1:IV) (h415:Hp) (r438 r435:AI) (x437 x430:IV) (ih:Aa) (x0:IV):OH :=
 AE x1 fun x439=>Ac 2 x439 fun x440=>Ae x440 h415 fun x441 r442=>Ad [(r438,[]),(r435,[])] r442 [] (A6 1 x441 (.fv (.int .i64 1)) fun x443=>Abu h415 x443 r438 r435 x1 r442 x437 x430 ih x0)
def Zo (h415:Hp) (x433 x1 x430:IV) (ih:Aa) (x0:IV):OH :=
 Ae x433 h415 fun x434 r435=>Ad [] r435 [] (A6 1 x434 (.fv (.int .i64 0)) fun x436=>Ae x436 h415 fun x437 r438=>Ad [] r438 [] (Abq x1 h415 r438 r435 x437 x430 ih x0))
def Yq (h415:Hp) (x426 x1:IV) (ih:Aa) (x0:IV):OH :=
 Ae x426 h415 fun x427 _=>A6 1 x427 (.fv (.int .i64 0)) fun x429=>Ae x429 h415 fun x430 _=>AE x1 fun x432=>Ac 2 x432 fun x433=>Zo h415 x433 x1 x430 ih x0
def YS (h415:Hp) (x419 x1:IV) (ih:Aa) (x0:IV):OH :=
 Ae x419 h415 fun x420 _=>A6 1 x420 (.fv (.int .i64 3)) fun x422=>Ae x422 h415 fun x423 _=>AE x423 fun x425=>Ac 2 x425 fun x426=>Yq h415 x426 x1 ih x0
def Xs (ih:Aa) (h410:Hp) (x0 x1:IV) (j0_3:Hp→OH):OH :=
 Al [true] false false ih 70 [x0] h410 fun x414 h415 _ _=>Am x414 (AE x1 fun x418=>Ac 2 x418 fun x419=>YS h415 x419 x1 ih x0) (j0_3 h415)
def Aa2 (h391:Hp) (x350 x390:IV) (ih:Aa) (x0 x1:IV) (j0_3:Hp→OH):OH :=
 Ab x350 true h391 (fun k394=>Ac 0 x390 fun x395=>k394 x395 h391 [] []) fun x396 h397 _ _=>Ab x350 true h397 (fun k400=>Ae x396 h397 fun x401 r402=>k400 x401 h397 r402 []) fun x403 h404 _ _=>Ab x350 true h404 (fun k407=>A5 EE 3 x403 (.fv (.int .i64 12)) fun x408=>k407 x408 h404 [] []) fun x409 h410 _ _=>AF x350 x409 (.fv (.bool false)) fun x413=>Am x413 (Xs ih h410 x0 x1 j0_3) (j0_3 h410)
def ZG (h359:Hp) (x350 x358:IV) (ih:Aa) (x0 x1:IV) (j0_3:Hp→OH):OH :=
 Ab x350 true h359 (fun k362=>Ac 2 x358 fun x363=>k362 x363 h359 [] []) fun x364 h365 _ _=>Ab x350 true h365 (fun k368=>Ae x364 h365 fun x369 r370=>k368 x369 h365 r370 []) fun x371 h372 _ _=>Ab x350 true h372 (fun k375=>A6 1 x371 (.fv (.int .i64 3)) fun x376=>k375 x376 h372 [] []) fun x377 h378 _ _=>Ab x350 true h378 (fun k381=>Ae x377 h378 fun x382 r383=>k381 x382 h378 r383 []) fun x384 h385 _ _=>Ab x350 true h385 (fun k388=>AE x384 fun x389=>k388 x389 h385 [] []) fun x390 h391 _ _=>Aa2 h391 x350 x390 ih x0 x1 j0_3
def Ab4 (x346:IV) (h331:Hp) (x1:IV) (ih:Aa) (x0:IV) (j0_3:Hp→OH):OH :=
 Ac 0 x346 fun x347=>Ae x347 h331 fun x348 _=>A5 EE 3 x348 (.fv (.int .i64 13)) fun x350=>Ab x350 true h331 (fun k351=>k351 x1 h331 [] []) fun x352 h353 _ _=>Ab x350 true h353 (fun k356=>AE x352 fun x357=>k356 x357 h353 [] []) fun x358 h359 _ _=>ZG h359 x350 x358 ih x0 x1 j0_3
def Ab1 (h318:Hp) (x271 x317:IV) (ih:Aa) (x0 x1:IV) (j0_3:Hp→OH):OH :=
 Ab x271 true h318 (fun k321=>Ae x317 h318 fun x322 r323=>k321 x322 h318 r323 []) fun x324 h325 _ _=>Ab x271 true h325 (fun k328=>A5 EE 3 x324 (.fv (.int .i64 11)) fun x329=>k328 x329 h325 [] []) fun x330 h331 _ _=>AF x271 x330 (.fv (.bool false)) fun x334=>Am x334 (Al [true] false false ih 70 [x0] h331 fun x335 h336 _ _=>Acx x335 x1 h336 j0_3) (AE x1 fun x346=>Ab4 x346 h331 x1 ih x0 j0_3)
def AaT (h286:Hp) (x271 x285:IV) (ih:Aa) (x0 x1:IV) (j0_3:Hp→OH):OH :=
 Ab x271 true h286 (fun k289=>Ae x285 h286 fun x290 r291=>k289 x290 h286 r291 []) fun x292 h293 _ _=>Ab x271 true h293 (fun k296=>A6 1 x292 (.fv (.int .i64 3)) fun x297=>k296 x297 h293 [] []) fun x298 h299 _ _=>Ab x271 true h299 (fun k302=>Ae x298 h299 fun x303 r304=>k302 x303 h299 r304 []) fun x305 h306 _ _=>Ab x271 true h306 (fun k309=>AE x305 fun x310=>k309 x310 h306 [] []) fun x311 h312 _ _=>Ab x271 true h312 (fun k315=>Ac 0 x311 fun x316=>k315 x316 h312 [] []) fun x317 h318 _ _=>Ab1 h318 x271 x317 ih x0 x1 j0_3
def Xu (h248:Hp) (x268 x1:IV) (ih:Aa) (x0:IV) (j0_3:Hp→OH):OH :=
 Ae x268 h248 fun x269 _=>A5 EE 3 x269 (.fv (.int .i64 13)) fun x271=>Ab x271 true h248 (fun k272=>k272 x1 h248 [] []) fun x273 h274 _ _=>Ab x271 true h274 (fun k277=>AE x273 fun x278=>k277 x278 h274 [] []) fun x279 h280 _ _=>Ab x271 true h280 (fun k283=>Ac 2 x279 fun x284=>k283 x284 h280 [] []) fun x285 h286 _ _=>AaT h286 x271 x285 ih x0 x1 j0_3
def Acw (x247:IV) (ih:Aa) (h248:Hp) (x0 x1:IV) (j0_3:Hp→OH):OH :=
 Am x247 (Al [true] false false ih 70 [x0] h248 fun x249 h250 _ _=>Am x249 (YT x1 h250) (j0_3 h250)) (AE x1 fun x267=>Ac 0 x267 fun x268=>Xu h248 x268 x1 ih x0 j0_3)
def ZR (h612:Hp) (x565 x611:IV) (j1_246:IV→Hp→OH):OH :=
 Ab x565 true h612 (fun k615=>Ae x611 h612 fun x616 r617=>k615 x616 h612 r617 []) fun x618 h619 _ _=>Ab x565 true h619 (fun k622=>A5 EE 3 x618 (.fv (.int .i64 30)) fun x623=>k622 x623 h619 [] []) fun x624 h625 _ _=>AF x565 x624 (.fv (.bool false)) fun x628=>j1_246 x628 h625
def AcN (h580:Hp) (x565 x579:IV) (j1_246:IV→Hp→OH):OH :=
 Ab x565 true h580 (fun k583=>Ae x579 h580 fun x584 r585=>k583 x584 h580 r585 []) fun x586 h587 _ _=>Ab x565 true h587 (fun k590=>A6 1 x586 (.fv (.int .i64 0)) fun x591=>k590 x591 h587 [] []) fun x592 h593 _ _=>Ab x565 true h593 (fun k596=>Ae x592 h593 fun x597 r598=>k596 x597 h593 r598 []) fun x599 h600 _ _=>Ab x565 true h600 (fun k603=>AE x599 fun x604=>k603 x604 h600 [] []) fun x605 h606 _ _=>Ab x565 true h606 (fun k609=>Ac 0 x605 fun x610=>k609 x610 h606 [] []) fun x611 h612 _ _=>ZR h612 x565 x611 j1_246
def YD (h557:Hp) (x562 x1:IV) (j1_246:IV→Hp→OH):OH :=
 Ae x562 h557 fun x563 _=>A5 EE 3 x563 (.fv (.int .i64 19)) fun x565=>Ab x565 true h557 (fun k566=>k566 x1 h557 [] []) fun x567 h568 _ _=>Ab x565 true h568 (fun k571=>AE x567 fun x572=>k571 x572 h568 [] []) fun x573 h574 _ _=>Ab x565 true h574 (fun k577=>Ac 2 x573 fun x578=>k577 x578 h574 [] []) fun x579 h580 _ _=>AcN h580 x565 x579 j1_246
def XM (x497 x556:IV) (j1_246:IV→Hp→OH) (h557:Hp) (x1:IV):OH :=
 AF x497 x556 (.fv (.bool false)) fun x560=>Am x560 (j1_246 x560 h557) (AE x1 fun x561=>Ac 0 x561 fun x562=>YD h557 x562 x1 j1_246)
def AcR (h525:Hp) (x497 x524:IV) (j1_246:IV→Hp→OH) (x1:IV):OH :=
 Ab x497 true h525 (fun k528=>Ae x524 h525 fun x529 r530=>k528 x529 h525 r530 []) fun x531 h532 _ _=>Ab x497 true h532 (fun k535=>AE x531 fun x536=>k535 x536 h532 [] []) fun x537 h538 _ _=>Ab x497 true h538 (fun k541=>Ac 0 x537 fun x542=>k541 x542 h538 [] []) fun x543 h544 _ _=>Ab x497 true h544 (fun k547=>Ae x543 h544 fun x548 r549=>k547 x548 h544 r549 []) fun x550 h551 _ _=>Ab x497 true h551 (fun k554=>A5 EE 3 x550 (.fv (.int .i64 19)) fun x555=>k554 x555 h551 [] []) fun x556 h557 _ _=>XM x497 x556 j1_246 h557 x1
def Yn (h218:Hp) (x497 x1:IV) (j1_246:IV→Hp→OH):OH :=
 Ab x497 true h218 (fun k498=>k498 x1 h218 [] []) fun x499 h500 _ _=>Ab x497 true h500 (fun k503=>AE x499 fun x504=>k503 x504 h500 [] []) fun x505 h506 _ _=>Ab x497 true h506 (fun k509=>Ac 2 x505 fun x510=>k509 x510 h506 [] []) fun x511 h512 _ _=>Ab x497 true h512 (fun k515=>Ae x511 h512 fun x516 r517=>k515 x516 h512 r517 []) fun x518 h519 _ _=>Ab x497 true h519 (fun k522=>A6 1 x518 (.fv (.int .i64 0)) fun x523=>k522 x523 h519 [] []) fun x524 h525 _ _=>AcR h525 x497 x524 j1_246 x1
def YE (ih:Aa) (x0 x1:IV) (j0_3:Hp→OH) (h218:Hp):OH :=
 (fun (j1_246:IV→Hp→OH)=>AE x1 fun x493=>Ac 0 x493 fun x494=>Ae x494 h218 fun x495 _=>A5 EE 3 x495 (.fv (.int .i64 30)) fun x497=>Yn h218 x497 x1 j1_246) fun x247 h248=>Acw x247 ih h248 x0 x1 j0_3
def Zr (h199:Hp) (x158 x198:IV) (ih:Aa) (x0 x1:IV) (j0_3:Hp→OH):OH :=
 Ab x158 true h199 (fun k202=>Ac 0 x198 fun x203=>k202 x203 h199 [] []) fun x204 h205 _ _=>Ab x158 true h205 (fun k208=>Ae x204 h205 fun x209 r210=>k208 x209 h205 r210 []) fun x211 h212 _ _=>Ab x158 true h212 (fun k215=>A5 EE 3 x211 (.fv (.int .i64 7)) fun x216=>k215 x216 h212 [] []) fun x217 h218 _ _=>AF x158 x217 (.fv (.bool false)) fun x221=>Am x221 (WQ ih h218 x0 x1 j0_3) (YE ih x0 x1 j0_3 h218)
def AcQ (h167:Hp) (x158 x166:IV) (ih:Aa) (x0 x1:IV) (j0_3:Hp→OH):OH :=
 Ab x158 true h167 (fun k170=>Ac 2 x166 fun x171=>k170 x171 h167 [] []) fun x172 h173 _ _=>Ab x158 true h173 (fun k176=>Ae x172 h173 fun x177 r178=>k176 x177 h173 r178 []) fun x179 h180 _ _=>Ab x158 true h180 (fun k183=>A6 1 x179 (.fv (.int .i64 0)) fun x184=>k183 x184 h180 [] []) fun x185 h186 _ _=>Ab x158 true h186 (fun k189=>Ae x185 h186 fun x190 r191=>k189 x190 h186 r191 []) fun x192 h193 _ _=>Ab x158 true h193 (fun k196=>AE x192 fun x197=>k196 x197 h193 [] []) fun x198 h199 _ _=>Zr h199 x158 x198 ih x0 x1 j0_3
def AcL (h142:Hp) (x127 x141 x1:IV) (ih:Aa) (x0:IV) (j0_3:Hp→OH):OH :=
 Ab x127 false h142 (fun k145=>Ae x141 h142 fun x146 r147=>k145 x146 h142 r147 []) fun x148 h149 _ _=>Ab x127 false h149 (fun k152=>A5 EE 3 x148 (.fv (.int .i64 9)) fun x153=>k152 x153 h149 [] []) fun x154 h155 _ _=>AF x127 (.fv (.bool true)) x154 fun x158=>Ab x158 true h155 (fun k159=>k159 x1 h155 [] []) fun x160 h161 _ _=>Ab x158 true h161 (fun k164=>AE x160 fun x165=>k164 x165 h161 [] []) fun x166 h167 _ _=>AcQ h167 x158 x166 ih x0 x1 j0_3
def YI (h74:Hp) (x124 x1:IV) (ih:Aa) (x0:IV) (j0_3:Hp→OH):OH :=
 Ae x124 h74 fun x125 _=>A5 EE 3 x125 (.fv (.int .i64 8)) fun x127=>Ab x127 false h74 (fun k128=>k128 x1 h74 [] []) fun x129 h130 _ _=>Ab x127 false h130 (fun k133=>AE x129 fun x134=>k133 x134 h130 [] []) fun x135 h136 _ _=>Ab x127 false h136 (fun k139=>Ac 0 x135 fun x140=>k139 x140 h136 [] []) fun x141 h142 _ _=>AcL h142 x127 x141 x1 ih x0 j0_3
def ZA (x77:IV) (ih:Aa) (h74:Hp) (x0 x1:IV) (j0_3:Hp→OH):OH :=
 Am x77 (Al [true] false false ih 70 [x0] h74 fun x78 h79 _ _=>Am x78 (AbV x1 h79 ih x0) (j0_3 h79)) (AE x1 fun x123=>Ac 0 x123 fun x124=>YI h74 x124 x1 ih x0 j0_3)
def WA (h49:Hp) (x14 x48:IV) (ih:Aa) (x0 x1:IV) (j0_3:Hp→OH):OH :=
 Ab x14 true h49 (fun k52=>AE x48 fun x53=>k52 x53 h49 [] []) fun x54 h55 _ _=>Ab x14 true h55 (fun k58=>Ac 0 x54 fun x59=>k58 x59 h55 [] []) fun x60 h61 _ _=>Ab x14 true h61 (fun k64=>Ae x60 h61 fun x65 r66=>k64 x65 h61 r66 []) fun x67 h68 _ _=>Ab x14 true h68 (fun k71=>A5 EE 3 x67 (.fv (.int .i64 4)) fun x72=>k71 x72 h68 [] []) fun x73 h74 _ _=>AF x14 x73 (.fv (.bool false)) fun x77=>ZA x77 ih h74 x0 x1 j0_3
def Ab0 (h17:Hp) (x14 x16:IV) (ih:Aa) (x0 x1:IV) (j0_3:Hp→OH):OH :=
 Ab x14 true h17 (fun k20=>AE x16 fun x21=>k20 x21 h17 [] []) fun x22 h23 _ _=>Ab x14 true h23 (fun k26=>Ac 2 x22 fun x27=>k26 x27 h23 [] []) fun x28 h29 _ _=>Ab x14 true h29 (fun k32=>Ae x28 h29 fun x33 r34=>k32 x33 h29 r34 []) fun x35 h36 _ _=>Ab x14 true h36 (fun k39=>A6 1 x35 (.fv (.int .i64 0)) fun x40=>k39 x40 h36 [] []) fun x41 h42 _ _=>Ab x14 true h42 (fun k45=>Ae x41 h42 fun x46 r47=>k45 x46 h42 r47 []) fun x48 h49 _ _=>WA h49 x14 x48 ih x0 x1 j0_3
def W9 (x1:IV) (h2:Hp) (ih:Aa) (x0:IV) (j0_3:Hp→OH):OH :=
 AE x1 fun x10=>Ac 0 x10 fun x11=>Ae x11 h2 fun x12 _=>A5 EE 3 x12 (.fv (.int .i64 5)) fun x14=>Ab x14 true h2 (fun k15=>k15 x1 h2 [] []) fun x16 h17 _ _=>Ab0 h17 x14 x16 ih x0 x1 j0_3
def S59 (ih:Aa) (n:Nat) (x0 x1:IV) (h2:Hp):OH :=
 (fun (j0_3:Hp→OH)=>AE x0 fun x5=>Ac 2 x5 fun x6=>Ae x6 h2 fun x7 _=>Gy EE 3 x7 (.fv (.int .i64 0)) fun x9=>Am x9 (An [x1] h2) (W9 x1 h2 ih x0 j0_3)) fun h4=>An [x1] h4
theorem Ak8 (ih:Aa) (n:Nat) (x0 x1:IV) (h2:Hp):Ax EE ih ft.get n 59 [x0,x1] h2=S59 ih n x0 x1 h2:=by kernel_rfl
def Ig (h28:Hp) (x13 x27:IV):OH :=
 Aj 3 x13 x27 h28 fun h31 _ _=>Av true 3 x13 h31 fun x34=>An [x34] h31
def IC (x40:IV) (h14:Hp) (x13:IV):OH :=
 Bd EE 3 x40 (.fv (.int .i64 1)) fun x42=>Bx [.fv (.int .i64 0),.fv (.int .i64 0),.nils] [(0,1,.fv (.int .i64 1)),(1,1,x42)] fun x43=>Aj 3 x13 x43 h14 fun h44 _ _=>Av true 3 x13 h44 fun x47=>An [x47] h44
def Iw (h50:Hp) (x13:IV):OH :=
 Av true 3 x13 h50 fun x53=>An [x53] h50
def Ih (x36 x1 x5:IV) (h14:Hp) (x13:IV):OH :=
 Mk EE 3 x36 x1 fun x38=>Am x38 (Ac 1 x5 fun x39=>Ae x39 h14 fun x40 _=>IC x40 h14 x13) (Ai 3 x5 h14 fun x48 _=>Aj 3 x13 x48 h14 fun h50 _ _=>Iw h50 x13)
def H9 (x22 x1:IV) (h14:Hp) (x9:IV) (ih:Aa) (x2 x13 x5:IV):OH :=
 A5 EE 3 x22 x1 fun x24=>Am x24 (Ai 3 x9 h14 fun x25 _=>Al [] false false ih 25 [x25,x2,.fv (.int .i64 0)] h14 fun x27 h28 _ _=>Ig h28 x13 x27) (Ac 1 x5 fun x35=>Ae x35 h14 fun x36 _=>Ih x36 x1 x5 h14 x13)
def It (x76:IV) (h112:Hp) (x111 x77:IV) (h4:Hp) (x71 x72 x73 x74 x75:IV) (q68:List IV→Hp→OH):OH :=
 Ac 2 x76 fun x115=>BA x115 x111 h112 fun h116 r117 w118=>Ad [] r117 w118 (BD EE 3 x77 (.fv (.int .i64 1)) fun x119=>Bg (h4.own.map (·.1)) [62926864] [x71,x72,x73,x74,x75,x76,x119] h116 fun h120=>q68 [x71,x72,x73,x74,x75,x76,x119] h120)
def IN (r105 w106 r92:AI) (h104:Hp) (x103 x91 x76 x77:IV) (h4:Hp) (x71 x72 x73 x74 x75:IV) (q68:List IV→Hp→OH):OH :=
 Ad [(r92,[])] r105 w106 (Az (Ak EE 29 1 [(0,x103)]) 62926863 h104 fun x107 h108 r109 w110=>Ad [(r92,[])] r109 w110 (Az (AW EE 62926864 false .append [29,29] [x91,x107]) 62926864 h108 fun x111 h112 r113 w114=>Ad [] r113 w114 (It x76 h112 x111 x77 h4 x71 x72 x73 x74 x75 q68)))
def HM (x71 x86 x72:IV) (h87:Hp) (x74:IV) (r98 r95 r92:AI) (ih:Aa) (x97 x91 x76 x77:IV) (h4:Hp) (x73 x75:IV) (q68:List IV→Hp→OH):OH :=
 BD EE 3 x71 x86 fun x99=>BD EE 3 x72 x86 fun x100=>Ai 3 x74 h87 fun x101 r102=>Ad [(r98,[]),(r95,[]),(r92,[])] r102 [] (Al [] false false ih 60 [x97,x99,x100,x101] h87 fun x103 h104 r105 w106=>IN r105 w106 r92 h104 x103 x91 x76 x77 h4 x71 x72 x73 x74 x75 q68)
def IX (h87:Hp) (x93:IV) (r92:AI) (x77 x71 x86 x72 x74:IV) (ih:Aa) (x91 x76:IV) (h4:Hp) (x73 x75:IV) (q68:List IV→Hp→OH):OH :=
 Ae x93 h87 fun x94 r95=>Ad [(r92,[])] r95 [] (A6 3 x94 x77 fun x96=>Ai 3 x96 h87 fun x97 r98=>Ad [(r92,[])] r98 [] (HM x71 x86 x72 h87 x74 r98 r95 r92 ih x97 x91 x76 x77 h4 x73 x75 q68))
def IJ (ih:Aa) (h70:Hp) (x84 x77 x76 x73 x71 x72 x74:IV) (h4:Hp) (x75:IV) (q68:List IV→Hp→OH):OH :=
 Al [] false false ih 51 [x84,x77] h70 fun x86 h87 _ _=>Ac 2 x76 fun x90=>Ae x90 h87 fun x91 r92=>Ad [] r92 [] (Ac 2 x73 fun x93=>IX h87 x93 r92 x77 x71 x86 x72 x74 ih x91 x76 h4 x73 x75 q68)
def IT (h123:Hp) (x75:IV):OH :=
 Av true 3 x75 h123 fun x126=>An [x126] h123
def IQ (x77 x81 x73:IV) (h70:Hp) (ih:Aa) (x76 x71 x72 x74:IV) (h4:Hp) (x75:IV) (q68:List IV→Hp→OH):OH :=
 GQ EE 3 x77 x81 fun x82=>Am x82 (Ac 0 x73 fun x83=>Ae x83 h70 fun x84 _=>IJ ih h70 x84 x77 x76 x73 x71 x72 x74 h4 x75 q68) (Ai 3 x76 h70 fun x121 _=>Aj 3 x75 x121 h70 fun h123 _ _=>IT h123 x75)
def Ip (l131:List IV) (x73:IV) (h70:Hp) (ih:Aa) (x71 x72 x74:IV) (h4:Hp) (x75:IV) (q68:List IV→Hp→OH):OH :=
 Aw l131 fun x76 l132=>Aw l132 fun x77 _=>Ac 2 x73 fun x78=>Ae x78 h70 fun x79 _=>BQ x79 fun x81=>IQ x77 x81 x73 h70 ih x76 x71 x72 x74 h4 x75 q68
def IZ (l69:List IV) (h70:Hp) (ih:Aa) (h4:Hp) (q68:List IV→Hp→OH):OH :=
 Aw l69 fun x71 l127=>Aw l127 fun x72 l128=>Aw l128 fun x73 l129=>Aw l129 fun x74 l130=>Aw l130 fun x75 l131=>Ip l131 x73 h70 ih x71 x72 x74 h4 x75 q68
def Ie (h4 h65:Hp) (x1 x2 x5 x9 x13 x61:IV) (n:Nat) (ih:Aa):OH :=
 Bg (h4.own.map (·.1)) [62926864] [x1,x2,x5,x9,x13,x61,.fv (.int .i64 0)] h65 fun h134=>BE n (fun q68 l69 h70=>IZ l69 h70 ih h4 q68) [x1,x2,x5,x9,x13,x61,.fv (.int .i64 0)] h134
def IA (x5:IV) (h14:Hp) (x55:IV) (h4:Hp) (x1 x2 x9 x13:IV) (n:Nat) (ih:Aa):OH :=
 Ac 1 x5 fun x57=>Ae x57 h14 fun x58 _=>Bx [.fv (.int .i64 0),.fv (.int .i64 0),.nils] [(0,1,x55),(1,1,x58)] fun x60=>AH 62921733 (.row [.fv (.int .i64 0),.fv (.int .i64 0),.nils] false) (.ptr (.own 62921733) 0) h14 fun x61 h62 _ _=>Aj 3 x61 x60 h62 fun h65 _ _=>Ie h4 h65 x1 x2 x5 x9 x13 x61 n ih
def Ik (x20 x5:IV) (h14:Hp) (x1 x9:IV) (ih:Aa) (x2 x13:IV) (h4:Hp) (n:Nat):OH :=
 Am x20 (Ac 1 x5 fun x21=>Ae x21 h14 fun x22 _=>H9 x22 x1 h14 x9 ih x2 x13 x5) (Ac 0 x5 fun x54=>Ae x54 h14 fun x55 _=>IA x5 h14 x55 h4 x1 x2 x9 x13 n ih)
def S60 (ih:Aa) (n:Nat) (x0 x1 x2 x3:IV) (h4:Hp):OH :=
 A1 62914560 x0 h4 fun x5 h6 _ _=>A1 62914561 x3 h6 fun x9 h10 _ _=>AH 62914562 (.row [.fv (.int .i64 0),.fv (.int .i64 0),.nils] false) (.ptr (.own 62914562) 0) h10 fun x13 h14 _ _=>Ac 0 x5 fun x17=>Ae x17 h14 fun x18 _=>A5 EE 3 x18 (.fv (.int .i64 1)) fun x20=>Ik x20 x5 h14 x1 x9 ih x2 x13 h4 n
theorem Aml (ih:Aa) (n:Nat) (x0 x1 x2 x3:IV) (h4:Hp):Ax EE ih ft.get n 60 [x0,x1,x2,x3] h4=S60 ih n x0 x1 x2 x3 h4:=by kernel_rfl
def Rx (x12:IV) (h13:Hp) (x0:IV):OH :=
 Am x12 (An [.fv (.int .i64 3)] h13) (A5 EE 3 x0 (.fv (.int .i64 13)) fun x14=>Am x14 (An [.fv (.int .i64 4)] h13) (An [.fv (.int .i64 (-1))] h13))
def Rv (x15:IV) (j1_11:IV→Hp→OH) (h10:Hp) (x0:IV):OH :=
 Am x15 (j1_11 x15 h10) (A5 EE 3 x0 (.fv (.int .i64 27)) fun x16=>j1_11 x16 h10)
def RS (x9:IV) (h10:Hp) (x0:IV):OH :=
 Am x9 (An [.fv (.int .i64 2)] h10) ((fun (j1_11:IV→Hp→OH)=>A5 EE 3 x0 (.fv (.int .i64 7)) fun x15=>Rv x15 j1_11 h10 x0) fun x12 h13=>Rx x12 h13 x0)
def Rr (x0:IV) (j1_8:IV→Hp→OH) (h7:Hp):OH :=
 A5 EE 3 x0 (.fv (.int .i64 28)) fun x27=>Am x27 (j1_8 x27 h7) (A5 EE 3 x0 (.fv (.int .i64 29)) fun x28=>j1_8 x28 h7)
def S4 (x0:IV) (j1_8:IV→Hp→OH) (h7:Hp):OH :=
 A5 EE 3 x0 (.fv (.int .i64 22)) fun x25=>Am x25 (j1_8 x25 h7) (A5 EE 3 x0 (.fv (.int .i64 26)) fun x26=>Am x26 (j1_8 x26 h7) (Rr x0 j1_8 h7))
def Rm (x0:IV) (j1_8:IV→Hp→OH) (h7:Hp):OH :=
 A5 EE 3 x0 (.fv (.int .i64 20)) fun x23=>Am x23 (j1_8 x23 h7) (A5 EE 3 x0 (.fv (.int .i64 21)) fun x24=>Am x24 (j1_8 x24 h7) (S4 x0 j1_8 h7))
def P2 (x0:IV) (j1_8:IV→Hp→OH) (h7:Hp):OH :=
 A5 EE 3 x0 (.fv (.int .i64 16)) fun x21=>Am x21 (j1_8 x21 h7) (A5 EE 3 x0 (.fv (.int .i64 17)) fun x22=>Am x22 (j1_8 x22 h7) (Rm x0 j1_8 h7))
def Sz (x0:IV) (j1_8:IV→Hp→OH) (h7:Hp):OH :=
 A5 EE 3 x0 (.fv (.int .i64 5)) fun x19=>Am x19 (j1_8 x19 h7) (A5 EE 3 x0 (.fv (.int .i64 6)) fun x20=>Am x20 (j1_8 x20 h7) (P2 x0 j1_8 h7))
def Qg (x17:IV) (j1_8:IV→Hp→OH) (h7:Hp) (x0:IV):OH :=
 Am x17 (j1_8 x17 h7) (A5 EE 3 x0 (.fv (.int .i64 4)) fun x18=>Am x18 (j1_8 x18 h7) (Sz x0 j1_8 h7))
def P7 (x6:IV) (h7:Hp) (x0:IV):OH :=
 Am x6 (An [.fv (.int .i64 1)] h7) ((fun (j1_8:IV→Hp→OH)=>A5 EE 3 x0 (.fv (.int .i64 3)) fun x17=>Qg x17 j1_8 h7 x0) fun x9 h10=>RS x9 h10 x0)
def QJ (x0:IV) (j1_5:IV→Hp→OH) (h4:Hp):OH :=
 A5 EE 3 x0 (.fv (.int .i64 24)) fun x35=>Am x35 (j1_5 x35 h4) (A5 EE 3 x0 (.fv (.int .i64 30)) fun x36=>j1_5 x36 h4)
def QG (x0:IV) (j1_5:IV→Hp→OH) (h4:Hp):OH :=
 A5 EE 3 x0 (.fv (.int .i64 19)) fun x33=>Am x33 (j1_5 x33 h4) (A5 EE 3 x0 (.fv (.int .i64 23)) fun x34=>Am x34 (j1_5 x34 h4) (QJ x0 j1_5 h4))
def R4 (x0:IV) (j1_5:IV→Hp→OH) (h4:Hp):OH :=
 A5 EE 3 x0 (.fv (.int .i64 12)) fun x31=>Am x31 (j1_5 x31 h4) (A5 EE 3 x0 (.fv (.int .i64 18)) fun x32=>Am x32 (j1_5 x32 h4) (QG x0 j1_5 h4))
def Qq (x29:IV) (j1_5:IV→Hp→OH) (h4:Hp) (x0:IV):OH :=
 Am x29 (j1_5 x29 h4) (A5 EE 3 x0 (.fv (.int .i64 9)) fun x30=>Am x30 (j1_5 x30 h4) (R4 x0 j1_5 h4))
def SX (x3:IV) (h4:Hp) (x0:IV):OH :=
 Am x3 (An [.fv (.int .i64 0)] h4) ((fun (j1_5:IV→Hp→OH)=>A5 EE 3 x0 (.fv (.int .i64 8)) fun x29=>Qq x29 j1_5 h4 x0) fun x6 h7=>P7 x6 h7 x0)
def Sl (x0:IV) (j1_2:IV→Hp→OH) (h1:Hp):OH :=
 A5 EE 3 x0 (.fv (.int .i64 25)) fun x43=>j1_2 x43 h1
def QT (x0:IV) (j1_2:IV→Hp→OH) (h1:Hp):OH :=
 A5 EE 3 x0 (.fv (.int .i64 14)) fun x41=>Am x41 (j1_2 x41 h1) (A5 EE 3 x0 (.fv (.int .i64 15)) fun x42=>Am x42 (j1_2 x42 h1) (Sl x0 j1_2 h1))
def P1 (x0:IV) (j1_2:IV→Hp→OH) (h1:Hp):OH :=
 A5 EE 3 x0 (.fv (.int .i64 10)) fun x39=>Am x39 (j1_2 x39 h1) (A5 EE 3 x0 (.fv (.int .i64 11)) fun x40=>Am x40 (j1_2 x40 h1) (QT x0 j1_2 h1))
def S61 (ih:Aa) (n:Nat) (x0:IV) (h1:Hp):OH :=
 (fun (j1_2:IV→Hp→OH)=>A5 EE 3 x0 (.fv (.int .i64 1)) fun x37=>Am x37 (j1_2 x37 h1) (A5 EE 3 x0 (.fv (.int .i64 2)) fun x38=>Am x38 (j1_2 x38 h1) (P1 x0 j1_2 h1))) fun x3 h4=>SX x3 h4 x0
theorem Alz (ih:Aa) (n:Nat) (x0:IV) (h1:Hp):Ax EE ih ft.get n 61 [x0] h1=S61 ih n x0 h1:=by kernel_rfl
def Afm (h7:Hp) (x4 x6:IV):OH :=
 Ab x4 true h7 (fun k10=>leS EE 3 x6 (.fv (.int .i64 3000)) fun x11=>k10 x11 h7 [] []) fun x12 h13 _ _=>AF x4 x12 (.fv (.bool false)) fun x16=>An [x16] h13
def Ae9 (x1:IV) (h2:Hp):OH :=
 geS EE 3 x1 (.fv (.int .i64 0)) fun x18=>Ab x18 true h2 (fun k19=>k19 x1 h2 [] []) fun x20 h21 _ _=>Ab x18 true h21 (fun k24=>leS EE 3 x20 (.fv (.int .i64 2)) fun x25=>k24 x25 h21 [] []) fun x26 h27 _ _=>AF x18 x26 (.fv (.bool false)) fun x30=>An [x30] h27
def AhB (h35:Hp) (x32 x34:IV):OH :=
 Ab x32 true h35 (fun k38=>leS EE 3 x34 (.fv (.int .i64 4)) fun x39=>k38 x39 h35 [] []) fun x40 h41 _ _=>AF x32 x40 (.fv (.bool false)) fun x44=>An [x44] h41
def AhA (x1:IV) (h2:Hp):OH :=
 A5 EE 3 x1 (.fv (.int .i64 0)) fun x46=>An [x46] h2
def Af3 (x0 x1:IV) (h2:Hp):OH :=
 A5 EE 3 x0 (.fv (.int .i64 26)) fun x31=>Am x31 (geS EE 3 x1 (.fv (.int .i64 0)) fun x32=>Ab x32 true h2 (fun k33=>k33 x1 h2 [] []) fun x34 h35 _ _=>AhB h35 x32 x34) (A5 EE 3 x0 (.fv (.int .i64 25)) fun x45=>Am x45 (An [.fv (.bool true)] h2) (AhA x1 h2))
def S62 (ih:Aa) (n:Nat) (x0 x1:IV) (h2:Hp):OH :=
 A5 EE 3 x0 (.fv (.int .i64 1)) fun x3=>Am x3 (geS EE 3 x1 (.fv (.int .i64 0)) fun x4=>Ab x4 true h2 (fun k5=>k5 x1 h2 [] []) fun x6 h7 _ _=>Afm h7 x4 x6) (A5 EE 3 x0 (.fv (.int .i64 2)) fun x17=>Am x17 (Ae9 x1 h2) (Af3 x0 x1 h2))
theorem Am4 (ih:Aa) (n:Nat) (x0 x1:IV) (h2:Hp):Ax EE ih ft.get n 62 [x0,x1] h2=S62 ih n x0 x1 h2:=by kernel_rfl
def KU (h1 h119:Hp) (x102 x103 x123:IV) (q99:List IV→Hp→OH):OH :=
 Bg (h1.own.map (·.1)) [66066434] [x102,x103,x123] h119 fun h124=>q99 [x102,x103,x123] h124
def JJ (ih:Aa) (h113:Hp) (x116 x104:IV) (h1:Hp) (x102 x103:IV) (q99:List IV→Hp→OH):OH :=
 Al [] false false ih 63 [x116] h113 fun x118 h119 _ _=>CF (Lz .not x118) fun x122=>Am x122 (An [.fv (.bool false)] h119) (BD EE 3 x104 (.fv (.int .i64 1)) fun x123=>KU h1 h119 x102 x103 x123 q99)
def Ks (x102 x104:IV) (h101:Hp) (ih:Aa) (h1:Hp) (x103:IV) (q99:List IV→Hp→OH):OH :=
 A6 3 x102 x104 fun x106=>Ai 3 x106 h101 fun x107 _=>AH 66066434 (.row [.fv (.int .i64 0),.fv (.int .i64 0),.nils] false) (.ptr (.own 66066434) 0) h101 fun x109 h110 _ _=>Aj 3 x109 x107 h110 fun h113 _ _=>Ai 3 x109 h113 fun x116 _=>JJ ih h113 x116 x104 h1 x102 x103 q99
def KF (l100:List IV) (h101:Hp) (ih:Aa) (h1:Hp) (q99:List IV→Hp→OH):OH :=
 Aw l100 fun x102 l125=>Aw l125 fun x103 l126=>Aw l126 fun x104 _=>GQ EE 3 x104 x103 fun x105=>Am x105 (Ks x102 x104 h101 ih h1 x103 q99) (An [.fv (.bool true)] h101)
def K9 (x2:IV) (h91 h1:Hp) (n:Nat) (ih:Aa):OH :=
 Ac 2 x2 fun x95=>Ae x95 h91 fun x96 _=>BQ x96 fun x98=>Bg (h1.own.map (·.1)) [66066434] [x96,x98,.fv (.int .i64 0)] h91 fun h128=>BE n (fun q99 l100 h101=>KF l100 h101 ih h1 q99) [x96,x98,.fv (.int .i64 0)] h128
def J4 (h72:Hp) (x65 x71 x44 x2:IV) (h1:Hp) (n:Nat) (ih:Aa):OH :=
 Ab x65 true h72 (fun k75=>Ae x71 h72 fun x76 r77=>k75 x76 h72 r77 []) fun x78 h79 _ _=>Ab x65 true h79 (fun k82=>GQ EE 3 x78 (.fv (.int .i64 0)) fun x83=>k82 x83 h79 [] []) fun x84 h85 _ _=>Ab x44 false h85 (fun k88=>AF x65 x84 (.fv (.bool false)) fun x89=>k88 x89 h85 [] []) fun x90 h91 _ _=>AF x44 (.fv (.bool true)) x90 fun x94=>Am x94 (An [.fv (.bool false)] h91) (K9 x2 h91 h1 n ih)
def JN (h41:Hp) (x44 x2:IV) (h1:Hp) (n:Nat) (ih:Aa):OH :=
 Ab x44 false h41 (fun k45=>Ac 0 x2 fun x46=>k45 x46 h41 [] []) fun x47 h48 _ _=>Ab x44 false h48 (fun k51=>Ae x47 h48 fun x52 r53=>k51 x52 h48 r53 []) fun x54 h55 _ _=>Ab x44 false h55 (fun k58=>A5 EE 3 x54 (.fv (.int .i64 1)) fun x59=>k58 x59 h55 [] []) fun x60 h61 _ _=>Ab x44 false h61 (fun k64=>k64 x60 h61 [] []) fun x65 h66 _ _=>Ab x65 true h66 (fun k69=>Ac 1 x2 fun x70=>k69 x70 h66 [] []) fun x71 h72 _ _=>J4 h72 x65 x71 x44 x2 h1 n ih
def Kh (h16:Hp) (x13 x2 x15:IV) (h1:Hp) (n:Nat) (ih:Aa):OH :=
 Ab x13 true h16 (fun k19=>Ac 2 x2 fun x20=>k19 x20 h16 [] []) fun x21 h22 _ _=>Ab x13 true h22 (fun k25=>Ae x21 h22 fun x26 r27=>k25 x26 h22 r27 []) fun x28 h29 _ _=>Ab x13 true h29 (fun k32=>BQ x28 fun x33=>k32 x33 h29 [] []) fun x34 h35 _ _=>Ab x13 true h35 (fun k38=>Gy EE 3 x15 x34 fun x39=>k38 x39 h35 [] []) fun x40 h41 _ _=>AF x13 x40 (.fv (.bool false)) fun x44=>JN h41 x44 x2 h1 n ih
def S63 (ih:Aa) (n:Nat) (x0:IV) (h1:Hp):OH :=
 A1 66060288 x0 h1 fun x2 h3 _ _=>Ac 0 x2 fun x6=>Ae x6 h3 fun x7 _=>Al [] false false ih 71 [x7] h3 fun x9 h10 _ _=>geS EE 3 x9 (.fv (.int .i64 0)) fun x13=>Ab x13 true h10 (fun k14=>k14 x9 h10 [] []) fun x15 h16 _ _=>Kh h16 x13 x2 x15 h1 n ih
theorem AmJ (ih:Aa) (n:Nat) (x0:IV) (h1:Hp):Ax EE ih ft.get n 63 [x0] h1=S63 ih n x0 h1:=by kernel_rfl
def RJ (x2:IV) (h61:Hp) (x6:IV):OH :=
 AE x2 fun x64=>Ac 4 x64 fun x65=>BA x65 x6 h61 fun h66 _ _=>An [x2] h66
def RD (x46:IV) (h47:Hp) (x6 x2:IV):OH :=
 Bx [.fv (.nilf)] [(0,1,x46)] fun x50=>Az (B6 EE 100 x6 (.fv (.int .i64 30)) x50) 67110933 h47 fun _ h52 _ _=>Az (val (CG (.func 76) [x2] [])) 67110935 h52 fun x55 h56 _ _=>Bx [.fv (.nilf)] [(0,1,x55)] fun x59=>Az (B6 EE 100 x6 (.fv (.int .i64 19)) x59) 67110937 h56 fun _ h61 _ _=>RJ x2 h61 x6
def QO (h29:Hp) (x6 x32 x2:IV):OH :=
 Az (B6 EE 100 x6 (.fv (.int .i64 9)) x32) 67110925 h29 fun _ h34 _ _=>Az (val (CG (.func 74) [x2] [])) 67110927 h34 fun x37 h38 _ _=>Bx [.fv (.nilf)] [(0,1,x37)] fun x41=>Az (B6 EE 100 x6 (.fv (.int .i64 13)) x41) 67110929 h38 fun _ h43 _ _=>Az (val (CG (.func 75) [x2] [])) 67110931 h43 fun x46 h47 _ _=>RD x46 h47 x6 x2
def Vh (h16:Hp) (x2 x6:IV):OH :=
 Az (val (CG (.func 73) [x2] [])) 67110919 h16 fun x19 h20 _ _=>Bx [.fv (.nilf)] [(0,1,x19)] fun x23=>Az (B6 EE 100 x6 (.fv (.int .i64 8)) x23) 67110921 h20 fun _ h25 _ _=>Az (val (CG (.func 73) [x2] [])) 67110923 h25 fun x28 h29 _ _=>Bx [.fv (.nilf)] [(0,1,x28)] fun x32=>QO h29 x6 x32 x2
def S64 (ih:Aa) (n:Nat) (h0:Hp):OH :=
 Bx [.fv (.int .i64 0),.fv (.int .i64 0),.fv (.int .i64 0),.fv (.int .i64 0),.dead] [(0,1,.fv (.int .i64 100000)),(1,1,.fv (.int .i64 5000000))] fun x1=>A1 67109889 x1 h0 fun x2 h3 _ _=>Az (GL 67110913) 67110913 h3 fun x6 h7 _ _=>Az (val (CG (.func 72) [x2] [])) 67110915 h7 fun x10 h11 _ _=>Bx [.fv (.nilf)] [(0,1,x10)] fun x14=>Az (B6 EE 100 x6 (.fv (.int .i64 5)) x14) 67110917 h11 fun _ h16 _ _=>Vh h16 x2 x6
theorem Al0 (ih:Aa) (n:Nat) (h0:Hp):Ax EE ih ft.get n 64 [] h0=S64 ih n h0:=by kernel_rfl
def MC (x4:IV) (h9:Hp) (ih:Aa) (x1:IV):OH :=
 Ac 1 x4 fun x16=>Ae x16 h9 fun x17 _=>Al [] false false ih 78 [x1,x17] h9 fun x19 h20 _ _=>An [x19] h20
def MJ (x62:IV) (h3 h65:Hp) (x56 x57 x58 x59 x60 x61:IV) (q53:List IV→Hp→OH):OH :=
 BD EE 3 x62 (.fv (.int .i64 1)) fun x66=>Bg (h3.own.map (·.1)) [68166659] [x56,x57,x58,x59,x60,x61,x66] h65 fun h67=>q53 [x56,x57,x58,x59,x60,x61,x66] h67
def MF (ih:Aa) (h82:Hp) (x56 x57 x90:IV) (r89:AI) (x88 x62:IV) (j0_64:Hp→OH):OH :=
 Al [true,false,false] false false ih 65 [x56,x57,x90] h82 fun x92 h93 r94 w95=>Ad [(r89,[])] r94 w95 (A6 1 x88 x62 fun x96=>BA x96 x92 h93 fun h97 r98 w99=>Ad [] r98 w99 (j0_64 h97))
def MK (x86:IV) (h82:Hp) (x71:IV) (ih:Aa) (x56 x57 x62:IV) (j0_64:Hp→OH):OH :=
 Ac 2 x86 fun x87=>Ae x87 h82 fun x88 r89=>Ad [] r89 [] (Ai 3 x71 h82 fun x90 r91=>Ad [(r89,[])] r91 [] (MF ih h82 x56 x57 x90 r89 x88 x62 j0_64))
def M7 (h75:Hp) (x78:IV) (ih:Aa) (x62 x59 x71 x56 x57:IV) (j0_64:Hp→OH):OH :=
 Ae x78 h75 fun x79 _=>Al [] false false ih 79 [x79,x62] h75 fun x81 h82 _ _=>A5 EE 3 x81 (.fv (.int .i64 0)) fun x85=>Am x85 (AE x59 fun x86=>MK x86 h82 x71 ih x56 x57 x62 j0_64) (j0_64 h82)
def Mz (x60 x62:IV) (h55:Hp) (x58:IV) (ih:Aa) (x59 x56 x57:IV) (j0_64:Hp→OH):OH :=
 A6 3 x60 x62 fun x68=>Ai 3 x68 h55 fun x69 _=>AH 68166659 (.row [.fv (.int .i64 0),.fv (.int .i64 0),.nils] false) (.ptr (.own 68166659) 0) h55 fun x71 h72 _ _=>Aj 3 x71 x69 h72 fun h75 _ _=>Ac 0 x58 fun x78=>M7 h75 x78 ih x62 x59 x71 x56 x57 j0_64
def MO (x100:IV) (h55:Hp) (x59:IV) (ih:Aa) (x56:IV):OH :=
 Ac 3 x100 fun x101=>Ae x101 h55 fun x102 _=>Gy EE 37 x102 (.fv (.int .i64 0)) fun x104=>Am x104 (An [x59] h55) (Al [true,false] false false ih 80 [x56,x59] h55 fun x105 h106 _ _=>An [x105] h106)
def M6 (l113:List IV) (h3:Hp) (x56 x57 x58 x59 x60:IV) (q53:List IV→Hp→OH) (h55:Hp) (ih:Aa):OH :=
 Aw l113 fun x61 l114=>Aw l114 fun x62 _=>GQ EE 3 x62 x61 fun x63=>Am x63 ((fun (j0_64:Hp→OH)=>Mz x60 x62 h55 x58 ih x59 x56 x57 j0_64) fun h65=>MJ x62 h3 h65 x56 x57 x58 x59 x60 x61 q53) (AE x56 fun x100=>MO x100 h55 x59 ih x56)
def ZE (l54:List IV) (h3:Hp) (q53:List IV→Hp→OH) (h55:Hp) (ih:Aa):OH :=
 Aw l54 fun x56 l109=>Aw l109 fun x57 l110=>Aw l110 fun x58 l111=>Aw l111 fun x59 l112=>Aw l112 fun x60 l113=>M6 l113 h3 x56 x57 x58 x59 x60 q53 h55 ih
def MP (x50:IV) (h3 h41:Hp) (x0 x1 x4 x40:IV) (n:Nat) (ih:Aa):OH :=
 BQ x50 fun x52=>Bg (h3.own.map (·.1)) [68166659] [x0,x1,x4,x40,x50,x52,.fv (.int .i64 0)] h41 fun h116=>BE n (fun q53 l54 h55=>ZE l54 h3 q53 h55 ih) [x0,x1,x4,x40,x50,x52,.fv (.int .i64 0)] h116
def MD (x46:IV) (h41:Hp) (x40 x4:IV) (h3:Hp) (x0 x1:IV) (n:Nat) (ih:Aa):OH :=
 Gy EE 37 x46 (.fv (.int .i64 0)) fun x48=>Am x48 (An [x40] h41) (Ac 2 x4 fun x49=>Ae x49 h41 fun x50 _=>MP x50 h3 h41 x0 x1 x4 x40 n ih)
def My (h34:Hp) (x39 x0 x4:IV) (h3:Hp) (x1:IV) (n:Nat) (ih:Aa):OH :=
 A1 68161547 x39 h34 fun x40 h41 r42 w43=>Ad [] r42 w43 (AE x0 fun x44=>Ac 3 x44 fun x45=>Ae x45 h41 fun x46 _=>MD x46 h41 x40 x4 h3 x0 x1 n ih)
def MT (h9:Hp) (x32:IV) (r28 r25:AI) (x4:IV) (r31:AI) (x24 x27 x1 x0:IV) (h3:Hp) (n:Nat) (ih:Aa):OH :=
 Az (Bm EE 68161543 110 x32 x32) 68161543 h9 fun x33 h34 r35 w36=>Ad [(r28,[]),(r25,[])] r35 w36 (Ai 3 x4 h34 fun x37 r38=>Ad [(r35,w36),(r31,[]),(r28,[]),(r25,[])] r38 [] (Bx [.fv (.int .i64 0),.fv (.int .i64 0),.nils,.fv (.int .i64 0),.fv (.int .i64 0),.nils,.fv (.nilp)] [(0,1,x24),(1,1,x27),(2,1,x33),(3,3,x37),(6,1,x1)] fun x39=>My h34 x39 x0 x4 h3 x1 n ih))
def MN (r28 r25:AI) (x4:IV) (h9:Hp) (x24 x27 x1 x0:IV) (h3:Hp) (n:Nat) (ih:Aa):OH :=
 Ad [(r25,[])] r28 [] (Ac 2 x4 fun x29=>Ae x29 h9 fun x30 r31=>Ad [(r28,[]),(r25,[])] r31 [] (BQ x30 fun x32=>MT h9 x32 r28 r25 x4 r31 x24 x27 x1 x0 h3 n ih))
def MW (x4:IV) (h9:Hp) (x1 x0:IV) (h3:Hp) (n:Nat) (ih:Aa):OH :=
 Ac 0 x4 fun x23=>Ae x23 h9 fun x24 r25=>Ad [] r25 [] (Ac 1 x4 fun x26=>Ae x26 h9 fun x27 r28=>MN r28 r25 x4 h9 x24 x27 x1 x0 h3 n ih)
def S65 (ih:Aa) (n:Nat) (x0 x1 x2:IV) (h3:Hp):OH :=
 A1 68157440 x2 h3 fun x4 h5 _ _=>Al [true] false false ih 77 [x0] h5 fun _ h9 _ _=>Ac 0 x4 fun x12=>Ae x12 h9 fun x13 _=>A5 EE 3 x13 (.fv (.int .i64 1)) fun x15=>Am x15 (MC x4 h9 ih x1) (MW x4 h9 x1 x0 h3 n ih)
theorem AkU (ih:Aa) (n:Nat) (x0 x1 x2:IV) (h3:Hp):Ax EE ih ft.get n 65 [x0,x1,x2] h3=S65 ih n x0 x1 x2 h3:=by kernel_rfl
def Du (h21:Hp) (x5:IV):OH :=
 Av true 3 x5 h21 fun x24=>An [x24] h21
def C7 (h12:Hp) (x5 x36:IV):OH :=
 Aj 3 x5 x36 h12 fun h37 _ _=>Av true 3 x5 h37 fun x40=>An [x40] h37
def DS (x1:IV) (h12:Hp) (x30 x5:IV):OH :=
 AE x1 fun x31=>Ac 1 x31 fun x32=>Ae x32 h12 fun x33 _=>Bd EE 3 x30 x33 fun x35=>Bx [.fv (.int .i64 0),.fv (.int .i64 0),.nils] [(0,1,.fv (.int .i64 1)),(1,1,x35)] fun x36=>C7 h12 x5 x36
def Dj (h90:Hp) (x83:IV):OH :=
 Bx [.fv (.int .i64 0),.fv (.int .i64 0),.nils] [] fun x96=>Aj 3 x83 x96 h90 fun h97 _ _=>Av true 3 x83 h97 fun x100=>An [x100] h97
def Dy (x89:IV) (h4 h108:Hp) (x79 x80 x81 x82 x83 x84 x88:IV) (q51:List IV→Hp→OH):OH :=
 BD EE 3 x89 (.fv (.int .i64 1)) fun x111=>Bg (h4.own.map (·.1)) [69221377,69225478] [x79,x80,x81,x82,x83,x84,x88,x111] h108 fun h112=>q51 [x79,x80,x81,x82,x83,x84,x88,x111] h112
def De (x81 x87 x82:IV) (ih:Aa) (h90:Hp) (x79 x86 x84 x85 x89:IV) (h4:Hp) (x80 x83 x88:IV) (q51:List IV→Hp→OH):OH :=
 BD EE 3 x81 x87 fun x101=>BD EE 3 x82 (.fv (.int .i64 1)) fun x102=>Al [true,false,false,false] false false ih 66 [x79,x86,x101,x102] h90 fun x103 h104 _ _=>A6 3 x84 x85 fun x107=>Aj 3 x107 x103 h104 fun h108 _ _=>Dy x89 h4 h108 x79 x80 x81 x82 x83 x84 x88 q51
def Cz (x79:IV) (h90:Hp) (x83 x81 x87 x82:IV) (ih:Aa) (x86 x84 x85 x89:IV) (h4:Hp) (x80 x88:IV) (q51:List IV→Hp→OH):OH :=
 AE x79 fun x91=>Ac 3 x91 fun x92=>Ae x92 h90 fun x93 _=>Gy EE 37 x93 (.fv (.int .i64 0)) fun x95=>Am x95 (Dj h90 x83) (De x81 x87 x82 ih h90 x79 x86 x84 x85 x89 h4 x80 x83 x88 q51)
def DE (x134:IV) (h4 h143:Hp) (x122 x123 x124 x125 x126 x127 x128 x129 x130 x131 x132 x133:IV) (q119:List IV→Hp→OH):OH :=
 BD EE 3 x134 (.fv (.int .i64 1)) fun x146=>Bg (h4.own.map (·.1)) [69225478] [x122,x123,x124,x125,x126,x127,x128,x129,x130,x131,x132,x133,x146] h143 fun h147=>q119 [x122,x123,x124,x125,x126,x127,x128,x129,x130,x131,x132,x133,x146] h147
def DK (x124 x134:IV) (h121:Hp) (x130:IV) (h4:Hp) (x122 x123 x125 x126 x127 x128 x129 x131 x132 x133:IV) (q119:List IV→Hp→OH):OH :=
 BD EE 3 x124 x134 fun x136=>Bx [.fv (.int .i64 0),.fv (.int .i64 0),.nils,.fv (.int .i64 0),.fv (.int .i64 0),.nils,.fv (.nilp)] [(0,1,.fv (.int .i64 1)),(1,1,x136)] fun x137=>fzS (JI true 69225478 x137) 69225478 x137 h121 fun x138 h139 _ _=>A6 1 x130 x134 fun x142=>BA x142 x138 h139 fun h143 _ _=>DE x134 h4 h143 x122 x123 x124 x125 x126 x127 x128 x129 x130 x131 x132 x133 q119
def C8 (ih:Aa) (h121:Hp) (x122 x123 x128 x130:IV) (j11_78:IV→IV→IV→IV→IV→IV→IV→IV→IV→IV→IV→Hp→OH) (x124 x125 x126 x127 x129 x131 x132:IV):OH :=
 Al [true,false,false,false] false false ih 81 [x122,x123,x128,x130] h121 fun x148 h149 _ _=>j11_78 x122 x123 x124 x125 x126 x127 x128 x148 x129 x131 x132 h149
def C6 (l161:List IV) (x124:IV) (h121:Hp) (x130:IV) (h4:Hp) (x122 x123 x125 x126 x127 x128 x129 x131:IV) (q119:List IV→Hp→OH) (ih:Aa) (j11_78:IV→IV→IV→IV→IV→IV→IV→IV→IV→IV→IV→Hp→OH):OH :=
 Aw l161 fun x132 l162=>Aw l162 fun x133 l163=>Aw l163 fun x134 _=>GQ EE 3 x134 x133 fun x135=>Am x135 (DK x124 x134 h121 x130 h4 x122 x123 x125 x126 x127 x128 x129 x131 x132 x133 q119) (C8 ih h121 x122 x123 x128 x130 j11_78 x124 x125 x126 x127 x129 x131 x132)
def Dl (l156:List IV) (x124:IV) (h121 h4:Hp) (x122 x123 x125 x126:IV) (q119:List IV→Hp→OH) (ih:Aa) (j11_78:IV→IV→IV→IV→IV→IV→IV→IV→IV→IV→IV→Hp→OH):OH :=
 Aw l156 fun x127 l157=>Aw l157 fun x128 l158=>Aw l158 fun x129 l159=>Aw l159 fun x130 l160=>Aw l160 fun x131 l161=>C6 l161 x124 h121 x130 h4 x122 x123 x125 x126 x127 x128 x129 x131 q119 ih j11_78
def E5 (l120:List IV) (h121 h4:Hp) (q119:List IV→Hp→OH) (ih:Aa) (j11_78:IV→IV→IV→IV→IV→IV→IV→IV→IV→IV→IV→Hp→OH):OH :=
 Aw l120 fun x122 l152=>Aw l152 fun x123 l153=>Aw l153 fun x124 l154=>Aw l154 fun x125 l155=>Aw l155 fun x126 l156=>Dl l156 x124 h121 h4 x122 x123 x125 x126 q119 ih j11_78
def Dr (h4 h115:Hp) (x54 x55 x56 x57 x58 x59 x61 x74 x114 x60 x118:IV) (n:Nat) (ih:Aa) (j11_78:IV→IV→IV→IV→IV→IV→IV→IV→IV→IV→IV→Hp→OH):OH :=
 Bg (h4.own.map (·.1)) [69225478] [x54,x55,x56,x57,x58,x59,x61,x74,x114,x60,x61,x118,.fv (.int .i64 0)] h115 fun h165=>BE n (fun q119 l120 h121=>E5 l120 h121 h4 q119 ih j11_78) [x54,x55,x56,x57,x58,x59,x61,x74,x114,x60,x61,x118,.fv (.int .i64 0)] h165
def DR (x113:IV) (h75:Hp) (x74:IV) (h4:Hp) (x54 x55 x56 x57 x58 x59 x61 x60:IV) (n:Nat) (ih:Aa) (j11_78:IV→IV→IV→IV→IV→IV→IV→IV→IV→IV→IV→Hp→OH) (x68:IV):OH :=
 Am x113 (Az (Bm EE 69221377 110 x74 x74) 69221377 h75 fun x114 h115 _ _=>BQ x114 fun x118=>Dr h4 h115 x54 x55 x56 x57 x58 x59 x61 x74 x114 x60 x118 n ih j11_78) (j11_78 x54 x55 x56 x57 x58 x59 x61 x68 x74 x60 x61 h75)
def Dd (r73 r69 r66:AI) (ih:Aa) (h53:Hp) (x72 x61:IV) (h4:Hp) (q51:List IV→Hp→OH) (x54 x55 x56 x57 x58 x59 x60:IV) (n:Nat) (x68:IV):OH :=
 Ad [(r69,[]),(r66,[])] r73 [] (Al [] false false ih 79 [x72,x61] h53 fun x74 h75 r76 w77=>Ad [(r69,[]),(r66,[])] r76 w77 ((fun (j11_78:IV→IV→IV→IV→IV→IV→IV→IV→IV→IV→IV→Hp→OH)=>Mk EE 3 x74 (.fv (.int .i64 0)) fun x113=>DR x113 h75 x74 h4 x54 x55 x56 x57 x58 x59 x61 x60 n ih j11_78 x68) fun x79 x80 x81 x82 x83 x84 x85 x86 x87 x88 x89 h90=>Cz x79 h90 x83 x81 x87 x82 ih x86 x84 x85 x89 h4 x80 x88 q51))
def C9 (h53:Hp) (x67 x55:IV) (r66:AI) (ih:Aa) (x61:IV) (h4:Hp) (q51:List IV→Hp→OH) (x54 x56 x57 x58 x59 x60:IV) (n:Nat):OH :=
 Ae x67 h53 fun x68 r69=>Ad [] r69 [] (AE x55 fun x70=>Ac 0 x70 fun x71=>Ae x71 h53 fun x72 r73=>Dd r73 r69 r66 ih h53 x72 x61 h4 q51 x54 x55 x56 x57 x58 x59 x60 n x68)
def DU (x55:IV) (h53:Hp) (x61:IV) (ih:Aa) (h4:Hp) (q51:List IV→Hp→OH) (x54 x56 x57 x58 x59 x60:IV) (n:Nat):OH :=
 AE x55 fun x63=>Ac 2 x63 fun x64=>Ae x64 h53 fun x65 r66=>Ad [] r66 [] (A6 1 x65 x61 fun x67=>C9 h53 x67 x55 r66 ih x61 h4 q51 x54 x56 x57 x58 x59 x60 n)
def Df (r176 w177:AI) (h175:Hp) (x58:IV):OH :=
 Ad [] r176 w177 (Av true 3 x58 h175 fun x178=>An [x178] h175)
def DH (x170:IV) (h53:Hp) (r169:AI) (x168 x59 x58:IV):OH :=
 Ac 1 x170 fun x171=>Ae x171 h53 fun x172 r173=>Ad [(r169,[])] r173 [] (Bx [.fv (.int .i64 0),.fv (.int .i64 0),.nils] [(0,1,x168),(1,1,x172),(2,1,x59)] fun x174=>Aj 3 x58 x174 h53 fun h175 r176 w177=>Df r176 w177 h175 x58)
def Dp (x55:IV) (h53:Hp) (x59 x58:IV):OH :=
 AE x55 fun x166=>Ac 0 x166 fun x167=>Ae x167 h53 fun x168 r169=>Ad [] r169 [] (AE x55 fun x170=>DH x170 h53 r169 x168 x59 x58)
def Ds (l183:List IV) (x55:IV) (h53:Hp) (ih:Aa) (h4:Hp) (q51:List IV→Hp→OH) (x54 x56 x57 x58:IV) (n:Nat):OH :=
 Aw l183 fun x59 l184=>Aw l184 fun x60 l185=>Aw l185 fun x61 _=>GQ EE 3 x61 x60 fun x62=>Am x62 (DU x55 h53 x61 ih h4 q51 x54 x56 x57 x58 x59 x60 n) (Dp x55 h53 x59 x58)
def E7 (l52:List IV) (h53:Hp) (ih:Aa) (h4:Hp) (q51:List IV→Hp→OH) (n:Nat):OH :=
 Aw l52 fun x54 l179=>Aw l179 fun x55 l180=>Aw l180 fun x56 l181=>Aw l181 fun x57 l182=>Aw l182 fun x58 l183=>Ds l183 x55 h53 ih h4 q51 x54 x56 x57 x58 n
def Da (h4 h47:Hp) (x0 x1 x2 x3 x5 x46 x50:IV) (n:Nat) (ih:Aa):OH :=
 Bg (h4.own.map (·.1)) [69221377,69225478] [x0,x1,x2,x3,x5,x46,x50,.fv (.int .i64 0)] h47 fun h187=>BE n (fun q51 l52 h53=>E7 l52 h53 ih h4 q51 n) [x0,x1,x2,x3,x5,x46,x50,.fv (.int .i64 0)] h187
def DP (x41:IV) (h12 h4:Hp) (x0 x1 x2 x3 x5:IV) (n:Nat) (ih:Aa):OH :=
 Ac 2 x41 fun x42=>Ae x42 h12 fun x43 _=>BQ x43 fun x45=>Az (Bm EE 69215237 29 x45 x45) 69215237 h12 fun x46 h47 _ _=>BQ x46 fun x50=>Da h4 h47 x0 x1 x2 x3 x5 x46 x50 n ih
def DL (h12:Hp) (x26 x2 x1 x5:IV) (h4:Hp) (x0 x3:IV) (n:Nat) (ih:Aa):OH :=
 Ae x26 h12 fun x27 _=>A5 EE 3 x27 (.fv (.int .i64 1)) fun x29=>Am x29 (Bd EE 3 x2 (.fv (.int .i64 1)) fun x30=>DS x1 h12 x30 x5) (AE x1 fun x41=>DP x41 h12 h4 x0 x1 x2 x3 x5 n ih)
def DB (x19:IV) (h12:Hp) (x5 x1 x2:IV) (h4:Hp) (x0 x3:IV) (n:Nat) (ih:Aa):OH :=
 Am x19 (Bx [.fv (.int .i64 0),.fv (.int .i64 0),.nils] [] fun x20=>Aj 3 x5 x20 h12 fun h21 _ _=>Du h21 x5) (AE x1 fun x25=>Ac 0 x25 fun x26=>DL h12 x26 x2 x1 x5 h4 x0 x3 n ih)
def E9 (ih:Aa) (h10:Hp) (x0 x5 x1 x2:IV) (h4:Hp) (x3:IV) (n:Nat):OH :=
 Al [true] false false ih 77 [x0] h10 fun _ h12 _ _=>AE x0 fun x15=>Ac 3 x15 fun x16=>Ae x16 h12 fun x17 _=>Gy EE 37 x17 (.fv (.int .i64 0)) fun x19=>DB x19 h12 x5 x1 x2 h4 x0 x3 n ih
def Dv (x256:IV) (h252:Hp) (j0_9:Hp→OH):OH :=
 Ac 3 x256 fun x257=>BA x257 (.fv (.int .i64 5)) h252 fun h258 _ _=>j0_9 h258
def Dt (h246:Hp) (x202 x234 x245 x0:IV) (j0_9:Hp→OH):OH :=
 Ab x202 true h246 (fun k249=>AF x234 (.fv (.bool true)) x245 fun x250=>k249 x250 h246 [] []) fun x251 h252 _ _=>AF x202 x251 (.fv (.bool false)) fun x255=>Am x255 (AE x0 fun x256=>Dv x256 h252 j0_9) (j0_9 h252)
def Dw (h217:Hp) (x202 x216 x3 x0:IV) (j0_9:Hp→OH):OH :=
 Ab x202 true h217 (fun k220=>Ae x216 h217 fun x221 r222=>k220 x221 h217 r222 []) fun x223 h224 _ _=>Ab x202 true h224 (fun k227=>Mk EE 3 x223 (.fv (.int .i64 3000)) fun x228=>k227 x228 h224 [] []) fun x229 h230 _ _=>Ab x202 true h230 (fun k233=>k233 x229 h230 [] []) fun x234 h235 _ _=>Ab x234 false h235 (fun k238=>k238 x3 h235 [] []) fun x239 h240 _ _=>Ab x234 false h240 (fun k243=>Mk EE 3 x239 (.fv (.int .i64 120)) fun x244=>k243 x244 h240 [] []) fun x245 h246 _ _=>Dt h246 x202 x234 x245 x0 j0_9
def DG (h195:Hp) (x199 x0 x3:IV) (j0_9:Hp→OH):OH :=
 Ae x199 h195 fun x200 _=>A5 EE 37 x200 (.fv (.int .i64 0)) fun x202=>Ab x202 true h195 (fun k203=>k203 x0 h195 [] []) fun x204 h205 _ _=>Ab x202 true h205 (fun k208=>AE x204 fun x209=>k208 x209 h205 [] []) fun x210 h211 _ _=>Ab x202 true h211 (fun k214=>Ac 2 x210 fun x215=>k214 x215 h211 [] []) fun x216 h217 _ _=>Dw h217 x202 x216 x3 x0 j0_9
def Dq (x0:IV) (h6:Hp) (x192 x3:IV) (j0_9:Hp→OH):OH :=
 AE x0 fun x193=>Ac 2 x193 fun x194=>BA x194 x192 h6 fun h195 _ _=>AE x0 fun x198=>Ac 3 x198 fun x199=>DG h195 x199 x0 x3 j0_9
def S66 (ih:Aa) (n:Nat) (x0 x1 x2 x3:IV) (h4:Hp):OH :=
 AH 69206016 (.row [.fv (.int .i64 0),.fv (.int .i64 0),.nils] false) (.ptr (.own 69206016) 0) h4 fun x5 h6 _ _=>(fun (j0_9:Hp→OH)=>AE x0 fun x188=>Ac 2 x188 fun x189=>Ae x189 h6 fun x190 _=>BD EE 3 x190 (.fv (.int .i64 1)) fun x192=>Dq x0 h6 x192 x3 j0_9) fun h10=>E9 ih h10 x0 x5 x1 x2 h4 x3 n
theorem AkH (ih:Aa) (n:Nat) (x0 x1 x2 x3:IV) (h4:Hp):Ax EE ih ft.get n 66 [x0,x1,x2,x3] h4=S66 ih n x0 x1 x2 x3 h4:=by kernel_rfl
def AkL (x27 x30:IV) (h45:Hp) (x44:IV) (h1:Hp) (x25 x26 x28 x29:IV) (q22:List IV→Hp→OH):OH :=
 A6 3 x27 x30 fun x48=>Aj 3 x48 x44 h45 fun h49 _ _=>BD EE 3 x30 (.fv (.int .i64 1)) fun x52=>Bg (h1.own.map (·.1)) [70258691] [x25,x26,x27,x28,x29,x52] h49 fun h53=>q22 [x25,x26,x27,x28,x29,x52] h53
def AmV (h24:Hp) (x32:IV) (ih:Aa) (x27 x30:IV) (h1:Hp) (x25 x26 x28 x29:IV) (q22:List IV→Hp→OH):OH :=
 Ai 3 x32 h24 fun x33 _=>AH 70258691 (.row [.fv (.int .i64 0),.fv (.int .i64 0),.nils] false) (.ptr (.own 70258691) 0) h24 fun x35 h36 _ _=>Aj 3 x35 x33 h36 fun h39 _ _=>Ai 3 x35 h39 fun x42 _=>Al [] false false ih 67 [x42] h39 fun x44 h45 _ _=>AkL x27 x30 h45 x44 h1 x25 x26 x28 x29 q22
def AkF (h61:Hp) (x26:IV):OH :=
 Av true 3 x26 h61 fun x64=>An [x64] h61
def AmC (h24:Hp) (x54 x25 x27 x26:IV):OH :=
 Ae x54 h24 fun x55 _=>Ac 1 x25 fun x57=>Ae x57 h24 fun x58 _=>Bx [.fv (.int .i64 0),.fv (.int .i64 0),.nils] [(0,1,x55),(1,1,x58),(2,1,x27)] fun x60=>Aj 3 x26 x60 h24 fun h61 _ _=>AkF h61 x26
def Am0 (l69:List IV) (x29 x28:IV) (h24:Hp) (ih:Aa) (x27:IV) (h1:Hp) (x25 x26:IV) (q22:List IV→Hp→OH):OH :=
 Aw l69 fun x30 _=>GQ EE 3 x30 x29 fun x31=>Am x31 (A6 3 x28 x30 fun x32=>AmV h24 x32 ih x27 x30 h1 x25 x26 x28 x29 q22) (Ac 0 x25 fun x54=>AmC h24 x54 x25 x27 x26)
def AnX (l23:List IV) (h24:Hp) (ih:Aa) (h1:Hp) (q22:List IV→Hp→OH):OH :=
 Aw l23 fun x25 l65=>Aw l65 fun x26 l66=>Aw l66 fun x27 l67=>Aw l67 fun x28 l68=>Aw l68 fun x29 l69=>Am0 l69 x29 x28 h24 ih x27 h1 x25 x26 q22
def Amo (x2:IV) (h15 h1:Hp) (x6 x14:IV) (n:Nat) (ih:Aa):OH :=
 Ac 2 x2 fun x18=>Ae x18 h15 fun x19 _=>BQ x19 fun x21=>Bg (h1.own.map (·.1)) [70258691] [x2,x6,x14,x19,x21,.fv (.int .i64 0)] h15 fun h71=>BE n (fun q22 l23 h24=>AnX l23 h24 ih h1 q22) [x2,x6,x14,x19,x21,.fv (.int .i64 0)] h71
def S67 (ih:Aa) (n:Nat) (x0:IV) (h1:Hp):OH :=
 A1 70254592 x0 h1 fun x2 h3 _ _=>AH 70254593 (.row [.fv (.int .i64 0),.fv (.int .i64 0),.nils] false) (.ptr (.own 70254593) 0) h3 fun x6 h7 _ _=>Ac 2 x2 fun x10=>Ae x10 h7 fun x11 _=>BQ x11 fun x13=>Az (Bm EE 70255619 29 x13 x13) 70255619 h7 fun x14 h15 _ _=>Amo x2 h15 h1 x6 x14 n ih
theorem AnY (ih:Aa) (n:Nat) (x0:IV) (h1:Hp):Ax EE ih ft.get n 67 [x0] h1=S67 ih n x0 h1:=by kernel_rfl
def H4 (x57 x44:IV) (h62:Hp) (x61:IV) (h1:Hp) (x39 x40 x41 x42 x43:IV) (q36:List IV→Hp→OH):OH :=
 A6 3 x57 x44 fun x65=>Aj 3 x65 x61 h62 fun h66 r67 w68=>Ad [] r67 w68 (BD EE 3 x44 (.fv (.int .i64 1)) fun x69=>Bg (h1.own.map (·.1)) [71307267] [x39,x40,x41,x42,x43,x69] h66 fun h70=>q36 [x39,x40,x41,x42,x43,x69] h70)
def IM (r58:AI) (h53:Hp) (x49:IV) (ih:Aa) (x57 x44:IV) (h1:Hp) (x39 x40 x41 x42 x43:IV) (q36:List IV→Hp→OH):OH :=
 Ad [] r58 [] (Ai 3 x49 h53 fun x59 r60=>Ad [(r58,[])] r60 [] (Al [] false false ih 68 [x59] h53 fun x61 h62 r63 w64=>Ad [(r58,[])] r63 w64 (H4 x57 x44 h62 x61 h1 x39 x40 x41 x42 x43 q36)))
def IU (h38:Hp) (x46 x41:IV) (ih:Aa) (x44:IV) (h1:Hp) (x39 x40 x42 x43:IV) (q36:List IV→Hp→OH):OH :=
 Ai 3 x46 h38 fun x47 _=>AH 71307267 (.row [.fv (.int .i64 0),.fv (.int .i64 0),.nils] false) (.ptr (.own 71307267) 0) h38 fun x49 h50 _ _=>Aj 3 x49 x47 h50 fun h53 _ _=>Ac 2 x41 fun x56=>Ae x56 h53 fun x57 r58=>IM r58 h53 x49 ih x57 x44 h1 x39 x40 x41 x42 x43 q36
def IG (ih:Aa) (h80:Hp) (x83 x40:IV):OH :=
 Al [] false false ih 82 [x83] h80 fun x85 h86 _ _=>Aj 3 x40 x85 h86 fun h89 _ _=>Av true 3 x40 h89 fun x92=>An [x92] h89
def If (h38:Hp) (x75 x41:IV) (ih:Aa) (x40:IV):OH :=
 Ae x75 h38 fun x76 _=>Bx [.fv (.int .i64 0),.fv (.int .i64 0),.nils] [(0,1,.fv (.int .i64 11))] fun x78=>A6 3 x76 (.fv (.int .i64 0)) fun x79=>Aj 3 x79 x78 h38 fun h80 _ _=>Ai 3 x41 h80 fun x83 _=>IG ih h80 x83 x40
def HN (h105:Hp) (x40 x104:IV):OH :=
 Aj 3 x40 x104 h105 fun h108 _ _=>Av true 3 x40 h108 fun x111=>An [x111] h108
def IF (x95:IV) (h38:Hp) (x41:IV) (ih:Aa) (x40:IV):OH :=
 Bx [.fv (.int .i64 0),.fv (.int .i64 0),.nils] [(0,1,.fv (.int .i64 11))] fun x97=>A6 3 x95 (.fv (.int .i64 0)) fun x98=>Aj 3 x98 x97 h38 fun h99 _ _=>Ai 3 x41 h99 fun x102 _=>Al [] false false ih 83 [x102] h99 fun x104 h105 _ _=>HN h105 x40 x104
def H5 (h114:Hp) (x40:IV):OH :=
 Av true 3 x40 h114 fun x117=>An [x117] h114
def HS (x93 x41:IV) (h38:Hp) (ih:Aa) (x40:IV):OH :=
 Am x93 (Ac 2 x41 fun x94=>Ae x94 h38 fun x95 _=>IF x95 h38 x41 ih x40) (Ai 3 x41 h38 fun x112 _=>Aj 3 x40 x112 h38 fun h114 _ _=>H5 h114 x40)
def IW (h38:Hp) (x71 x41:IV) (ih:Aa) (x40:IV):OH :=
 Ae x71 h38 fun x72 _=>A5 EE 3 x72 (.fv (.int .i64 4)) fun x74=>Am x74 (Ac 2 x41 fun x75=>If h38 x75 x41 ih x40) (A5 EE 3 x72 (.fv (.int .i64 7)) fun x93=>HS x93 x41 h38 ih x40)
def H6 (l122:List IV) (x43 x42:IV) (h38:Hp) (x41:IV) (ih:Aa) (h1:Hp) (x39 x40:IV) (q36:List IV→Hp→OH):OH :=
 Aw l122 fun x44 _=>GQ EE 3 x44 x43 fun x45=>Am x45 (A6 3 x42 x44 fun x46=>IU h38 x46 x41 ih x44 h1 x39 x40 x42 x43 q36) (Ac 0 x39 fun x71=>IW h38 x71 x41 ih x40)
def KV (l37:List IV) (h38:Hp) (ih:Aa) (h1:Hp) (q36:List IV→Hp→OH):OH :=
 Aw l37 fun x39 l118=>Aw l118 fun x40 l119=>Aw l119 fun x41 l120=>Aw l120 fun x42 l121=>Aw l121 fun x43 l122=>H6 l122 x43 x42 h38 x41 ih h1 x39 x40 q36
def IH (x33:IV) (h1 h29:Hp) (x2 x6 x25:IV) (n:Nat) (ih:Aa):OH :=
 BQ x33 fun x35=>Bg (h1.own.map (·.1)) [71307267] [x2,x6,x25,x33,x35,.fv (.int .i64 0)] h29 fun h124=>BE n (fun q36 l37 h38=>KV l37 h38 ih h1 q36) [x2,x6,x25,x33,x35,.fv (.int .i64 0)] h124
def Iy (r27 w28 r22 w23 r18 r15 r12:AI) (h26:Hp) (x25 x24 x2:IV) (h1:Hp) (x6:IV) (n:Nat) (ih:Aa):OH :=
 Ad [(r22,w23),(r18,[]),(r15,[]),(r12,[])] r27 w28 (Aj 3 x25 x24 h26 fun h29 r30 w31=>Ad [] r30 w31 (Ac 2 x2 fun x32=>Ae x32 h29 fun x33 _=>IH x33 h1 h29 x2 x6 x25 n ih))
def IB (x17:IV) (h7:Hp) (r15 r12:AI) (x11 x14:IV) (r18:AI) (x2:IV) (h1:Hp) (x6:IV) (n:Nat) (ih:Aa):OH :=
 BQ x17 fun x19=>Az (Bm EE 71304199 29 x19 x19) 71304199 h7 fun x20 h21 r22 w23=>Ad [(r15,[]),(r12,[])] r22 w23 (Bx [.fv (.int .i64 0),.fv (.int .i64 0),.nils] [(0,1,x11),(1,1,x14),(2,1,x20)] fun x24=>AH 71304201 (.row [.fv (.int .i64 0),.fv (.int .i64 0),.nils] false) (.ptr (.own 71304201) 0) h21 fun x25 h26 r27 w28=>Iy r27 w28 r22 w23 r18 r15 r12 h26 x25 x24 x2 h1 x6 n ih)
def HU (h7:Hp) (x13:IV) (r12:AI) (x2 x11:IV) (h1:Hp) (x6:IV) (n:Nat) (ih:Aa):OH :=
 Ae x13 h7 fun x14 r15=>Ad [(r12,[])] r15 [] (Ac 2 x2 fun x16=>Ae x16 h7 fun x17 r18=>Ad [(r15,[]),(r12,[])] r18 [] (IB x17 h7 r15 r12 x11 x14 r18 x2 h1 x6 n ih))
def S68 (ih:Aa) (n:Nat) (x0:IV) (h1:Hp):OH :=
 A1 71303168 x0 h1 fun x2 h3 _ _=>AH 71303169 (.row [.fv (.int .i64 0),.fv (.int .i64 0),.nils] false) (.ptr (.own 71303169) 0) h3 fun x6 h7 _ _=>Ac 0 x2 fun x10=>Ae x10 h7 fun x11 r12=>Ad [] r12 [] (Ac 1 x2 fun x13=>HU h7 x13 r12 x2 x11 h1 x6 n ih)
theorem Amb (ih:Aa) (n:Nat) (x0:IV) (h1:Hp):Ax EE ih ft.get n 68 [x0] h1=S68 ih n x0 h1:=by kernel_rfl
def Lm (x45:IV) (h42:Hp) (x15:IV) (h3:Hp) (x11 x12 x13 x14:IV) (q8:List IV→Hp→OH):OH :=
 Am x45 (An [.fv (.bool false)] h42) (BD EE 3 x15 (.fv (.int .i64 1)) fun x46=>Bg (h3.own.map (·.1)) [72356867,72357892] [x11,x12,x13,x14,x46] h42 fun h47=>q8 [x11,x12,x13,x14,x46] h47)
def L1 (h31:Hp) (x30 x28 x20:IV) (ih:Aa) (x12 x15:IV) (h3:Hp) (x11 x13 x14:IV) (q8:List IV→Hp→OH):OH :=
 Aj 3 x30 x28 h31 fun h34 _ _=>Ai 3 x20 h34 fun x37 _=>Ai 3 x30 h34 fun x39 _=>DY EE ih x12 [x37,x39] h34 fun x41 h42 _ _=>CF (Lz .not x41) fun x45=>Lm x45 h42 x15 h3 x11 x12 x13 x14 q8
def LP (h10:Hp) (x18 x11 x15:IV) (ih:Aa) (x12:IV) (h3:Hp) (x13 x14:IV) (q8:List IV→Hp→OH):OH :=
 AH 72356867 (.row [.fv (.int .i64 0),.fv (.int .i64 0),.nils] false) (.ptr (.own 72356867) 0) h10 fun x20 h21 _ _=>Aj 3 x20 x18 h21 fun h24 _ _=>A6 3 x11 x15 fun x27=>Ai 3 x27 h24 fun x28 _=>AH 72357892 (.row [.fv (.int .i64 0),.fv (.int .i64 0),.nils] false) (.ptr (.own 72357892) 0) h24 fun x30 h31 _ _=>L1 h31 x30 x28 x20 ih x12 x15 h3 x11 x13 x14 q8
def Lk (x15 x14 x13:IV) (h10:Hp) (x11:IV) (ih:Aa) (x12:IV) (h3:Hp) (q8:List IV→Hp→OH):OH :=
 GQ EE 3 x15 x14 fun x16=>Am x16 (A6 3 x13 x15 fun x17=>Ai 3 x17 h10 fun x18 _=>LP h10 x18 x11 x15 ih x12 h3 x13 x14 q8) (An [.fv (.bool true)] h10)
def NA (l9:List IV) (h10:Hp) (ih:Aa) (h3:Hp) (q8:List IV→Hp→OH):OH :=
 Aw l9 fun x11 l48=>Aw l48 fun x12 l49=>Aw l49 fun x13 l50=>Aw l50 fun x14 l51=>Aw l51 fun x15 _=>Lk x15 x14 x13 h10 x11 ih x12 h3 q8
def L6 (h3:Hp) (x1 x2 x0 x7:IV) (n:Nat) (ih:Aa):OH :=
 Bg (h3.own.map (·.1)) [72356867,72357892] [x1,x2,x0,x7,.fv (.int .i64 0)] h3 fun h53=>BE n (fun q8 l9 h10=>NA l9 h10 ih h3 q8) [x1,x2,x0,x7,.fv (.int .i64 0)] h53
def S69 (ih:Aa) (n:Nat) (x0 x1 x2:IV) (h3:Hp):OH :=
 BQ x0 fun x4=>BQ x1 fun x5=>Gy EE 3 x4 x5 fun x6=>Am x6 (An [.fv (.bool false)] h3) (BQ x0 fun x7=>L6 h3 x1 x2 x0 x7 n ih)
theorem Anm (ih:Aa) (n:Nat) (x0 x1 x2:IV) (h3:Hp):Ax EE ih ft.get n 69 [x0,x1,x2] h3=S69 ih n x0 x1 x2 h3:=by kernel_rfl
def Wi (x0:IV) (h13:Hp):OH :=
 AE x0 fun x14=>Ac 2 x14 fun x15=>Ae x15 h13 fun x16 _=>A5 EE 3 x16 (.fv (.int .i64 0)) fun x18=>An [x18] h13
def Vm (h9:Hp) (x25:IV) (j0_12:Hp→OH):OH :=
 BA x25 (.fv (.int .i64 17)) h9 fun h26 _ _=>j0_12 h26
def Vo (x21 x0:IV) (h9:Hp) (j0_12:Hp→OH):OH :=
 Mk EE 3 x21 (.fv (.int .i64 1000)) fun x23=>Am x23 (AE x0 fun x24=>Ac 2 x24 fun x25=>Vm h9 x25 j0_12) (j0_12 h9)
def Wn (h1:Hp) (x8 x6 x0:IV):OH :=
 BA x8 x6 h1 fun h9 _ _=>(fun (j0_12:Hp→OH)=>AE x0 fun x19=>Ac 0 x19 fun x20=>Ae x20 h9 fun x21 _=>Vo x21 x0 h9 j0_12) fun h13=>Wi x0 h13
def S70 (ih:Aa) (n:Nat) (x0:IV) (h1:Hp):OH :=
 AE x0 fun x2=>Ac 0 x2 fun x3=>Ae x3 h1 fun x4 _=>BD EE 3 x4 (.fv (.int .i64 1)) fun x6=>AE x0 fun x7=>Ac 0 x7 fun x8=>Wn h1 x8 x6 x0
theorem Al2 (ih:Aa) (n:Nat) (x0:IV) (h1:Hp):Ax EE ih ft.get n 70 [x0] h1=S70 ih n x0 h1:=by kernel_rfl
def AfW (x0:IV) (h7:Hp):OH :=
 A5 EE 3 x0 (.fv (.int .i64 13)) fun x9=>Am x9 (An [.fv (.int .i64 4)] h7) (An [.fv (.int .i64 (-1))] h7)
def AeT (x6:IV) (h7:Hp) (x0:IV):OH :=
 Am x6 (An [.fv (.int .i64 2)] h7) (A5 EE 3 x0 (.fv (.int .i64 7)) fun x8=>Am x8 (An [.fv (.int .i64 3)] h7) (AfW x0 h7))
def AfM (x10:IV) (j1_5:IV→Hp→OH) (h4:Hp) (x0:IV):OH :=
 Am x10 (j1_5 x10 h4) (A5 EE 3 x0 (.fv (.int .i64 5)) fun x11=>j1_5 x11 h4)
def Aeh (x3:IV) (h4:Hp) (x0:IV):OH :=
 Am x3 (An [.fv (.int .i64 1)] h4) ((fun (j1_5:IV→Hp→OH)=>A5 EE 3 x0 (.fv (.int .i64 4)) fun x10=>AfM x10 j1_5 h4 x0) fun x6 h7=>AeT x6 h7 x0)
def Aey (x0:IV) (j1_2:IV→Hp→OH) (h1:Hp):OH :=
 A5 EE 3 x0 (.fv (.int .i64 30)) fun x16=>j1_2 x16 h1
def Afv (x0:IV) (j1_2:IV→Hp→OH) (h1:Hp):OH :=
 A5 EE 3 x0 (.fv (.int .i64 12)) fun x14=>Am x14 (j1_2 x14 h1) (A5 EE 3 x0 (.fv (.int .i64 19)) fun x15=>Am x15 (j1_2 x15 h1) (Aey x0 j1_2 h1))
def S71 (ih:Aa) (n:Nat) (x0:IV) (h1:Hp):OH :=
 (fun (j1_2:IV→Hp→OH)=>A5 EE 3 x0 (.fv (.int .i64 8)) fun x12=>Am x12 (j1_2 x12 h1) (A5 EE 3 x0 (.fv (.int .i64 9)) fun x13=>Am x13 (j1_2 x13 h1) (Afv x0 j1_2 h1))) fun x3 h4=>Aeh x3 h4 x0
theorem AlR (ih:Aa) (n:Nat) (x0:IV) (h1:Hp):Ax EE ih ft.get n 71 [x0] h1=S71 ih n x0 h1:=by kernel_rfl
def VK (ih:Aa) (h23:Hp) (x0 x8 x22:IV):OH :=
 Al [true,false,false,false] false false ih 81 [x0,x8,.fv (.int .i64 1),x22] h23 fun x26 h27 _ _=>An [x26] h27
def VC (x15:IV) (h2:Hp) (ih:Aa) (x0 x8:IV):OH :=
 Ac 2 x15 fun x16=>Ae x16 h2 fun x17 _=>A6 1 x17 (.fv (.int .i64 1)) fun x19=>Ae x19 h2 fun x20 _=>Az (Ak EE 110 1 [(0,x20)]) 75500552 h2 fun x22 h23 _ _=>VK ih h23 x0 x8 x22
def UK (x10:IV) (h2:Hp) (x1:IV) (ih:Aa) (x0 x8:IV):OH :=
 Ac 0 x10 fun x11=>Ae x11 h2 fun x12 _=>A5 EE 3 x12 (.fv (.int .i64 4)) fun x14=>Am x14 (AE x1 fun x15=>VC x15 h2 ih x0 x8) (An [.fv .nilp] h2)
def S72 (ih:Aa) (n:Nat) (x0 x1:IV) (h2:Hp):OH :=
 AE x1 fun x3=>Ac 2 x3 fun x4=>Ae x4 h2 fun x5 _=>A6 1 x5 (.fv (.int .i64 0)) fun x7=>Ae x7 h2 fun x8 _=>AE x8 fun x10=>UK x10 h2 x1 ih x0 x8
theorem Amm (ih:Aa) (n:Nat) (x0 x1:IV) (h2:Hp):Ax EE ih ft.get n 72 [x0,x1] h2=S72 ih n x0 x1 h2:=by kernel_rfl
def QF (x20:IV) (h2:Hp):OH :=
 Ac 2 x20 fun x21=>Ae x21 h2 fun x22 _=>A6 1 x22 (.fv (.int .i64 1)) fun x24=>Ae x24 h2 fun x25 _=>An [x25] h2
def Sg (x27:IV) (h2:Hp):OH :=
 Ac 2 x27 fun x28=>Ae x28 h2 fun x29 _=>A6 1 x29 (.fv (.int .i64 2)) fun x31=>Ae x31 h2 fun x32 _=>An [x32] h2
def Rk (x15:IV) (h2:Hp) (x8:IV):OH :=
 Ac 0 x15 fun x16=>Ae x16 h2 fun x17 _=>A5 EE 3 x17 (.fv (.int .i64 8)) fun x19=>Am x19 (AE x8 fun x20=>QF x20 h2) (AE x8 fun x27=>Sg x27 h2)
def Qs (x10:IV) (h2:Hp) (x1 x8:IV):OH :=
 Ac 0 x10 fun x11=>Ae x11 h2 fun x12 _=>Gy EE 3 x12 (.fv (.int .i64 7)) fun x14=>Am x14 (An [.fv .nilp] h2) (AE x1 fun x15=>Rk x15 h2 x8)
def S73 (ih:Aa) (n:Nat) (x0 x1:IV) (h2:Hp):OH :=
 AE x1 fun x3=>Ac 2 x3 fun x4=>Ae x4 h2 fun x5 _=>A6 1 x5 (.fv (.int .i64 0)) fun x7=>Ae x7 h2 fun x8 _=>AE x8 fun x10=>Qs x10 h2 x1 x8
theorem Ak7 (ih:Aa) (n:Nat) (x0 x1:IV) (h2:Hp):Ax EE ih ft.get n 73 [x0,x1] h2=S73 ih n x0 x1 h2:=by kernel_rfl
def SP (x15:IV) (h2:Hp):OH :=
 Ac 2 x15 fun x16=>Ae x16 h2 fun x17 _=>A6 1 x17 (.fv (.int .i64 1)) fun x19=>Ae x19 h2 fun x20 _=>An [x20] h2
def RW (h63:Hp) (x60 x62:IV) (ih:Aa) (x0 x1:IV):OH :=
 Az (Ak EE 110 2 [(0,x60),(1,x62)]) 77602826 h63 fun x66 h67 r68 w69=>Ad [] r68 w69 (Al [true,false,false,false] false false ih 81 [x0,x1,.fv (.int .i64 2),x66] h67 fun x70 h71 r72 w73=>Ad [] r72 w73 (An [x70] h71))
def Rf (x57:IV) (h52:Hp) (ih:Aa) (x0 x26:IV) (r58:AI) (x1:IV):OH :=
 A6 1 x57 (.fv (.int .i64 0)) fun x59=>Ae x59 h52 fun x60 r61=>Ad [] r61 [] (Al [true,false] false false ih 80 [x0,x26] h52 fun x62 h63 r64 w65=>Ad [(r61,[]),(r58,[])] r64 w65 (RW h63 x60 x62 ih x0 x1))
def QY (r53 w54:AI) (x8:IV) (h52:Hp) (ih:Aa) (x0 x26 x1:IV):OH :=
 Ad [] r53 w54 (AE x8 fun x55=>Ac 2 x55 fun x56=>Ae x56 h52 fun x57 r58=>Ad [] r58 [] (Rf x57 h52 ih x0 x26 r58 x1))
def Q3 (r46 r39 r36:AI) (h30:Hp) (x38 x45 x26 x8:IV) (ih:Aa) (x0 x1:IV):OH :=
 Ad [(r39,[]),(r36,[])] r46 [] (Az (Ak EE 110 4 [(0,.fv .nilp),(1,x38),(2,.fv .nilp),(3,x45)]) 77601804 h30 fun x47 h48 r49 w50=>Ad [] r49 w50 (Ac 2 x26 fun x51=>BA x51 x47 h48 fun h52 r53 w54=>QY r53 w54 x8 h52 ih x0 x26 x1))
def Ri (x40:IV) (h30:Hp) (r39 r36:AI) (x38 x26 x8:IV) (ih:Aa) (x0 x1:IV):OH :=
 Ac 2 x40 fun x41=>Ae x41 h30 fun x42 r43=>Ad [(r39,[]),(r36,[])] r43 [] (A6 1 x42 (.fv (.int .i64 0)) fun x44=>Ae x44 h30 fun x45 r46=>Q3 r46 r39 r36 h30 x38 x45 x26 x8 ih x0 x1)
def Qk (r36:AI) (x35:IV) (h30:Hp) (x8 x26:IV) (ih:Aa) (x0 x1:IV):OH :=
 Ad [] r36 [] (A6 1 x35 (.fv (.int .i64 1)) fun x37=>Ae x37 h30 fun x38 r39=>Ad [] r39 [] (AE x8 fun x40=>Ri x40 h30 r39 r36 x38 x26 x8 ih x0 x1))
def RC (h2:Hp) (x24 x1 x8:IV) (ih:Aa) (x0:IV):OH :=
 AH 77600771 (.row [.fv (.int .i64 0),.fv (.int .i64 0),.nils,.fv (.int .i64 0),.fv (.int .i64 0),.nils,.fv (.nilp)] false) (.ptr (.own 77600771) 0) h2 fun x26 h27 _ _=>Aj 7 x26 x24 h27 fun h30 _ _=>AE x1 fun x33=>Ac 2 x33 fun x34=>Ae x34 h30 fun x35 r36=>Qk r36 x35 h30 x8 x26 ih x0 x1
def Q2 (x22 x1:IV) (h2:Hp) (x8:IV) (ih:Aa) (x0:IV):OH :=
 Am x22 (AE x1 fun x23=>Ai 7 x23 h2 fun x24 _=>RC h2 x24 x1 x8 ih x0) (An [.fv .nilp] h2)
def RX (x10:IV) (h2:Hp) (x1 x8:IV) (ih:Aa) (x0:IV):OH :=
 Ac 0 x10 fun x11=>Ae x11 h2 fun x12 _=>A5 EE 3 x12 (.fv (.int .i64 11)) fun x14=>Am x14 (AE x1 fun x15=>SP x15 h2) (A5 EE 3 x12 (.fv (.int .i64 12)) fun x22=>Q2 x22 x1 h2 x8 ih x0)
def S74 (ih:Aa) (n:Nat) (x0 x1:IV) (h2:Hp):OH :=
 AE x1 fun x3=>Ac 2 x3 fun x4=>Ae x4 h2 fun x5 _=>A6 1 x5 (.fv (.int .i64 3)) fun x7=>Ae x7 h2 fun x8 _=>AE x8 fun x10=>RX x10 h2 x1 x8 ih x0
theorem Anf (ih:Aa) (n:Nat) (x0 x1:IV) (h2:Hp):Ax EE ih ft.get n 74 [x0,x1] h2=S74 ih n x0 x1 h2:=by kernel_rfl
def S75 (ih:Aa) (n:Nat) (x0 x1:IV) (h2:Hp):OH :=
 Al [] false false ih 84 [x1,.fv (.int .i64 19)] h2 fun x3 h4 _ _=>An [x3] h4
theorem AmT (ih:Aa) (n:Nat) (x0 x1:IV) (h2:Hp):Ax EE ih ft.get n 75 [x0,x1] h2=S75 ih n x0 x1 h2:=by kernel_rfl
def S76 (ih:Aa) (n:Nat) (x0 x1:IV) (h2:Hp):OH :=
 Al [] false false ih 84 [x1,.fv (.int .i64 30)] h2 fun x3 h4 _ _=>An [x3] h4
theorem Amg (ih:Aa) (n:Nat) (x0 x1:IV) (h2:Hp):Ax EE ih ft.get n 76 [x0,x1] h2=S76 ih n x0 x1 h2:=by kernel_rfl
def R3 (h44:Hp) (x49:IV):OH :=
 BA x49 (.fv (.int .i64 17)) h44 fun h50 _ _=>An [] h50
def RY (x16 x43 x0:IV) (h44:Hp):OH :=
 AF x16 x43 (.fv (.bool false)) fun x47=>Am x47 (AE x0 fun x48=>Ac 3 x48 fun x49=>R3 h44 x49) (An [] h44)
def Sa (h9:Hp) (x16 x0:IV):OH :=
 Ab x16 true h9 (fun k17=>k17 x0 h9 [] []) fun x18 h19 _ _=>Ab x16 true h19 (fun k22=>AE x18 fun x23=>k22 x23 h19 [] []) fun x24 h25 _ _=>Ab x16 true h25 (fun k28=>Ac 3 x24 fun x29=>k28 x29 h25 [] []) fun x30 h31 _ _=>Ab x16 true h31 (fun k34=>Ae x30 h31 fun x35 r36=>k34 x35 h31 r36 []) fun x37 h38 _ _=>Ab x16 true h38 (fun k41=>A5 EE 37 x37 (.fv (.int .i64 0)) fun x42=>k41 x42 h38 [] []) fun x43 h44 _ _=>RY x16 x43 x0 h44
def SQ (h1:Hp) (x8 x6 x0:IV):OH :=
 BA x8 x6 h1 fun h9 _ _=>AE x0 fun x12=>Ac 1 x12 fun x13=>Ae x13 h9 fun x14 _=>GQ EE 3 x14 (.fv (.int .i64 0)) fun x16=>Sa h9 x16 x0
def S77 (ih:Aa) (n:Nat) (x0:IV) (h1:Hp):OH :=
 AE x0 fun x2=>Ac 1 x2 fun x3=>Ae x3 h1 fun x4 _=>Bd EE 3 x4 (.fv (.int .i64 1)) fun x6=>AE x0 fun x7=>Ac 1 x7 fun x8=>SQ h1 x8 x6 x0
theorem AmD (ih:Aa) (n:Nat) (x0:IV) (h1:Hp):Ax EE ih ft.get n 77 [x0] h1=S77 ih n x0 h1:=by kernel_rfl
def SA (h5:Hp) (x11:IV):OH :=
 Ae x11 h5 fun x12 _=>An [x12] h5
def SI (x15:IV) (h5:Hp) (q3:List IV→Hp→OH) (x14:IV):OH :=
 Ac 1 x15 fun x16=>Ae x16 h5 fun x17 _=>q3 [x17,x14] h5
def QH (x9 x6:IV) (h5:Hp) (x7:IV) (q3:List IV→Hp→OH):OH :=
 Am x9 (AE x6 fun x10=>Ac 0 x10 fun x11=>SA h5 x11) (Bd EE 3 x7 (.fv (.int .i64 1)) fun x14=>AE x6 fun x15=>SI x15 h5 q3 x14)
def Rt (x19:IV) (h5:Hp):OH :=
 Bx [.fv (.int .i64 0),.fv (.int .i64 0),.nils,.fv (.int .i64 0),.fv (.int .i64 0),.nils,.fv (.nilp)] [(0,1,.fv (.int .i64 1)),(1,1,x19)] fun x20=>A1 81795075 x20 h5 fun x21 h22 _ _=>An [x21] h22
def Ob (l4:List IV) (h5:Hp) (q3:List IV→Hp→OH):OH :=
 Aw l4 fun x6 l25=>Aw l25 fun x7 _=>Gy EE 108 x6 (.fv .nilp) fun x8=>Am x8 (A5 EE 3 x7 (.fv (.int .i64 0)) fun x9=>QH x9 x6 h5 x7 q3) (Bd EE 3 (.fv (.int .i64 (-1))) x7 fun x19=>Rt x19 h5)
def S78 (ih:Aa) (n:Nat) (x0 x1:IV) (h2:Hp):OH :=
 BE n (fun q3 l4 h5=>Ob l4 h5 q3) [x0,x1] h2
theorem An4 (ih:Aa) (n:Nat) (x0 x1:IV) (h2:Hp):Ax EE ih ft.get n 78 [x0,x1] h2=S78 ih n x0 x1 h2:=by kernel_rfl
def S79 (ih:Aa) (n:Nat) (x0 x1:IV) (h2:Hp):OH :=
 DY EE ih (.fv (.func (.func 85) [] [])) [x0,x1] h2 fun x3 h4 _ _=>An [x3] h4
theorem AkQ (ih:Aa) (n:Nat) (x0 x1:IV) (h2:Hp):Ax EE ih ft.get n 79 [x0,x1] h2=S79 ih n x0 x1 h2:=by kernel_rfl
def Aan (h113:Hp) (x122:IV) (j0_104:Hp→OH):OH :=
 BA x122 (.fv (.int .i64 17)) h113 fun h123 _ _=>j0_104 h123
def Z2 (x120 x0:IV) (h113:Hp) (j0_104:Hp→OH):OH :=
 Am x120 (AE x0 fun x121=>Ac 3 x121 fun x122=>Aan h113 x122 j0_104) (j0_104 h113)
def WF (h100:Hp) (x112 x110 x0:IV) (j0_104:Hp→OH):OH :=
 BA x112 x110 h100 fun h113 _ _=>AE x0 fun x116=>Ac 0 x116 fun x117=>Ae x117 h113 fun x118 _=>GQ EE 3 x118 (.fv (.int .i64 0)) fun x120=>Z2 x120 x0 h113 j0_104
def AbN (x106:IV) (h100:Hp) (x0:IV) (j0_104:Hp→OH):OH :=
 Ac 0 x106 fun x107=>Ae x107 h100 fun x108 _=>Bd EE 3 x108 (.fv (.int .i64 1)) fun x110=>AE x0 fun x111=>Ac 0 x111 fun x112=>WF h100 x112 x110 x0 j0_104
def Wy (x103:IV) (h100:Hp) (x1 x68 x0:IV):OH :=
 Am x103 (An [x1] h100) ((fun (j0_104:Hp→OH)=>AE x0 fun x106=>AbN x106 h100 x0 j0_104) fun h105=>An [x68] h105)
def Y1 (h75:Hp) (x72 x74 x1 x68 x0:IV):OH :=
 Ab x72 false h75 (fun k78=>AE x74 fun x79=>k78 x79 h75 [] []) fun x80 h81 _ _=>Ab x72 false h81 (fun k84=>Ac 3 x80 fun x85=>k84 x85 h81 [] []) fun x86 h87 _ _=>Ab x72 false h87 (fun k90=>Ae x86 h87 fun x91 r92=>k90 x91 h87 r92 []) fun x93 h94 _ _=>Ab x72 false h94 (fun k97=>Gy EE 37 x93 (.fv (.int .i64 0)) fun x98=>k97 x98 h94 [] []) fun x99 h100 _ _=>AF x72 (.fv (.bool true)) x99 fun x103=>Wy x103 h100 x1 x68 x0
def Ab5 (x17:IV) (h57:Hp) (ih:Aa) (x1 x0:IV):OH :=
 Ac 0 x17 fun x65=>Ae x65 h57 fun x66 _=>DY EE ih x66 [x1] h57 fun x68 h69 _ _=>A5 EE 98 x68 (.fv .nilp) fun x72=>Ab x72 false h69 (fun k73=>k73 x0 h69 [] []) fun x74 h75 _ _=>Y1 h75 x72 x74 x1 x68 x0
def Aa9 (x0:IV) (h57:Hp) (x1 x17:IV) (ih:Aa):OH :=
 AE x0 fun x60=>Ac 3 x60 fun x61=>Ae x61 h57 fun x62 _=>Gy EE 37 x62 (.fv (.int .i64 0)) fun x64=>Am x64 (An [x1] h57) (Ab5 x17 h57 ih x1 x0)
def W1 (h46:Hp) (x24 x45 x1:IV) (ih:Aa) (x0 x17:IV):OH :=
 Ab x24 false h46 (fun k49=>Gy EE 37 x45 (.fv (.int .i64 0)) fun x50=>k49 x50 h46 [] []) fun x51 h52 _ _=>AF x24 (.fv (.bool true)) x51 fun x55=>Am x55 (An [x1] h52) (Al [true] false false ih 77 [x0] h52 fun _ h57 _ _=>Aa9 x0 h57 x1 x17 ih)
def AcJ (x16:IV) (h21:Hp) (x0 x1:IV) (ih:Aa) (x17:IV):OH :=
 CF (Lz .not x16) fun x24=>Ab x24 false h21 (fun k25=>k25 x0 h21 [] []) fun x26 h27 _ _=>Ab x24 false h27 (fun k30=>AE x26 fun x31=>k30 x31 h27 [] []) fun x32 h33 _ _=>Ab x24 false h33 (fun k36=>Ac 3 x32 fun x37=>k36 x37 h33 [] []) fun x38 h39 _ _=>Ab x24 false h39 (fun k42=>Ae x38 h39 fun x43 r44=>k42 x43 h39 r44 []) fun x45 h46 _ _=>W1 h46 x24 x45 x1 ih x0 x17
def Y0 (x11:IV) (h12:Hp) (r13 w14 r10 r6:AI) (x15 x0 x1:IV) (ih:Aa):OH :=
 AK 1 x11 fun x16=>AH 83887116 (.row [.fv (.nilf)] false) (.ptr (.own 83887116) 0) h12 fun x17 h18 r19 w20=>Ad [(r13,w14),(r10,[]),(r6,[])] r19 w20 (BA x17 x15 h18 fun h21 r22 w23=>Ad [] r22 w23 (AcJ x16 h21 x0 x1 ih x17))
def Xa (h2:Hp) (x8:IV) (r6:AI) (x5 x0 x1:IV) (ih:Aa):OH :=
 Ae x8 h2 fun x9 r10=>Ad [(r6,[])] r10 [] (Az (GA EE 100 x5 x9 true) 83887112 h2 fun x11 h12 r13 w14=>Ad [] r13 w14 (AK 0 x11 fun x15=>Y0 x11 h12 r13 w14 r10 r6 x15 x0 x1 ih))
def S80 (ih:Aa) (n:Nat) (x0 x1:IV) (h2:Hp):OH :=
 AE x0 fun x3=>Ac 4 x3 fun x4=>Ae x4 h2 fun x5 r6=>Ad [] r6 [] (AE x1 fun x7=>Ac 0 x7 fun x8=>Xa h2 x8 r6 x5 x0 x1 ih)
theorem AlH (ih:Aa) (n:Nat) (x0 x1:IV) (h2:Hp):Ax EE ih ft.get n 80 [x0,x1] h2=S80 ih n x0 x1 h2:=by kernel_rfl
def Afb (x16 x2:IV) (h10:Hp) (r11 w12 r8:AI) (ih:Aa) (x0 x9:IV):OH :=
 A6 3 x16 x2 fun x18=>Ai 3 x18 h10 fun x19 r20=>Ad [(r11,w12),(r8,[])] r20 [] (Al [true,false,false] false false ih 65 [x0,x9,x19] h10 fun x21 h22 r23 w24=>Ad [] r23 w24 (An [x21] h22))
def Aez (x1:IV) (h10:Hp) (r11 w12 r8:AI) (x2:IV) (ih:Aa) (x0 x9:IV):OH :=
 AE x1 fun x13=>Ac 3 x13 fun x14=>Ac 2 x14 fun x15=>Ae x15 h10 fun x16 r17=>Ad [(r11,w12),(r8,[])] r17 [] (Afb x16 x2 h10 r11 w12 r8 ih x0 x9)
def S81 (ih:Aa) (n:Nat) (x0 x1 x2 x3:IV) (h4:Hp):OH :=
 AE x1 fun x5=>Ac 6 x5 fun x6=>Ae x6 h4 fun x7 r8=>Ad [] r8 [] (Al [] false false ih 86 [x7,x3] h4 fun x9 h10 r11 w12=>Ad [] r11 w12 (Aez x1 h10 r11 w12 r8 x2 ih x0 x9))
theorem Am2 (ih:Aa) (n:Nat) (x0 x1 x2 x3:IV) (h4:Hp):Ax EE ih ft.get n 81 [x0,x1,x2,x3] h4=S81 ih n x0 x1 x2 x3 h4:=by kernel_rfl
def Yk (h139:Hp) (x6:IV):OH :=
 Av true 3 x6 h139 fun x142=>An [x142] h139
def AaH (h154:Hp) (x6:IV):OH :=
 Av true 3 x6 h154 fun x157=>An [x157] h154
def Wx (x144:IV) (h133:Hp) (ih:Aa) (x6:IV):OH :=
 A6 3 x144 (.fv (.int .i64 0)) fun x146=>Ai 3 x146 h133 fun x147 _=>Bx [.fv (.int .i64 0),.fv (.int .i64 0),.nils] [(0,1,.fv (.int .i64 11))] fun x149=>Al [] false false ih 88 [x147,.fv (.int .i64 0),x149] h133 fun x150 h151 _ _=>Aj 3 x6 x150 h151 fun h154 _ _=>AaH h154 x6
def Yo (x136:IV) (h133:Hp) (x2 x6 x16:IV) (ih:Aa):OH :=
 Am x136 (Ai 3 x2 h133 fun x137 _=>Aj 3 x6 x137 h133 fun h139 _ _=>Yk h139 x6) (Ac 2 x16 fun x143=>Ae x143 h133 fun x144 _=>Wx x144 h133 ih x6)
def AbA (h108:Hp) (x104 x107:IV) (ih:Aa) (x2 x6 x16:IV):OH :=
 Ab x104 false h108 (fun k111=>Ae x107 h108 fun x112 r113=>k111 x112 h108 r113 []) fun x114 h115 _ _=>Ab x104 false h115 (fun k118=>A6 3 x114 (.fv (.int .i64 0)) fun x119=>k118 x119 h115 [] []) fun x120 h121 _ _=>Ab x104 false h121 (fun k124=>Ai 3 x120 h121 fun x125 r126=>k124 x125 h121 r126 []) fun x127 h128 _ _=>Ab x104 false h128 (fun k131=>Al [] false false ih 87 [x127,.fv (.int .i64 0)] h128 k131) fun x132 h133 _ _=>AF x104 (.fv (.bool true)) x132 fun x136=>Yo x136 h133 x2 x6 x16 ih
def Acg (h82:Hp) (x65 x81 x16:IV) (ih:Aa) (x2 x6:IV):OH :=
 Ab x65 false h82 (fun k85=>Ac 1 x81 fun x86=>k85 x86 h82 [] []) fun x87 h88 _ _=>Ab x65 false h88 (fun k91=>Ae x87 h88 fun x92 r93=>k91 x92 h88 r93 []) fun x94 h95 _ _=>Ab x65 false h95 (fun k98=>Gy EE 3 x94 (.fv (.int .i64 0)) fun x99=>k98 x99 h95 [] []) fun x100 h101 _ _=>AF x65 (.fv (.bool true)) x100 fun x104=>Ab x104 false h101 (fun k105=>Ac 2 x16 fun x106=>k105 x106 h101 [] []) fun x107 h108 _ _=>AbA h108 x104 x107 ih x2 x6 x16
def X2 (h56:Hp) (x26 x55 x16:IV) (ih:Aa) (x2 x6:IV):OH :=
 Ab x26 false h56 (fun k59=>Gy EE 3 x55 (.fv (.int .i64 1)) fun x60=>k59 x60 h56 [] []) fun x61 h62 _ _=>AF x26 (.fv (.bool true)) x61 fun x65=>Ab x65 false h62 (fun k66=>Ac 2 x16 fun x67=>k66 x67 h62 [] []) fun x68 h69 _ _=>Ab x65 false h69 (fun k72=>Ae x68 h69 fun x73 r74=>k72 x73 h69 r74 []) fun x75 h76 _ _=>Ab x65 false h76 (fun k79=>A6 3 x75 (.fv (.int .i64 1)) fun x80=>k79 x80 h76 [] []) fun x81 h82 _ _=>Acg h82 x65 x81 x16 ih x2 x6
def AaQ (h20:Hp) (x26 x16:IV) (ih:Aa) (x2 x6:IV):OH :=
 Ab x26 false h20 (fun k27=>Ac 2 x16 fun x28=>k27 x28 h20 [] []) fun x29 h30 _ _=>Ab x26 false h30 (fun k33=>Ae x29 h30 fun x34 r35=>k33 x34 h30 r35 []) fun x36 h37 _ _=>Ab x26 false h37 (fun k40=>A6 3 x36 (.fv (.int .i64 1)) fun x41=>k40 x41 h37 [] []) fun x42 h43 _ _=>Ab x26 false h43 (fun k46=>Ac 0 x42 fun x47=>k46 x47 h43 [] []) fun x48 h49 _ _=>Ab x26 false h49 (fun k52=>Ae x48 h49 fun x53 r54=>k52 x53 h49 r54 []) fun x55 h56 _ _=>X2 h56 x26 x55 x16 ih x2 x6
def Ace (h7:Hp) (x14:IV) (ih:Aa) (x2 x6:IV):OH :=
 AH 85984260 (.row [.fv (.int .i64 0),.fv (.int .i64 0),.nils] false) (.ptr (.own 85984260) 0) h7 fun x16 h17 _ _=>Aj 3 x16 x14 h17 fun h20 _ _=>Ac 0 x16 fun x23=>Ae x23 h20 fun x24 _=>Gy EE 3 x24 (.fv (.int .i64 5)) fun x26=>AaQ h20 x26 x16 ih x2 x6
def S82 (ih:Aa) (n:Nat) (x0:IV) (h1:Hp):OH :=
 A1 85983232 x0 h1 fun x2 h3 _ _=>AH 85983233 (.row [.fv (.int .i64 0),.fv (.int .i64 0),.nils] false) (.ptr (.own 85983233) 0) h3 fun x6 h7 _ _=>Ac 2 x2 fun x10=>Ae x10 h7 fun x11 _=>A6 3 x11 (.fv (.int .i64 1)) fun x13=>Ai 3 x13 h7 fun x14 _=>Ace h7 x14 ih x2 x6
theorem An2 (ih:Aa) (n:Nat) (x0:IV) (h1:Hp):Ax EE ih ft.get n 82 [x0] h1=S82 ih n x0 h1:=by kernel_rfl
def J1 (h126:Hp) (x6:IV):OH :=
 Av true 3 x6 h126 fun x129=>An [x129] h126
def Kj (x131:IV) (h120:Hp) (x6:IV):OH :=
 A6 3 x131 (.fv (.int .i64 0)) fun x133=>Ai 3 x133 h120 fun x134 _=>Aj 3 x6 x134 h120 fun h136 _ _=>Av true 3 x6 h136 fun x139=>An [x139] h136
def Ld (x59 x119:IV) (h120:Hp) (x2 x6 x22:IV):OH :=
 AF x59 (.fv (.bool true)) x119 fun x123=>Am x123 (Ai 3 x2 h120 fun x124 _=>Aj 3 x6 x124 h120 fun h126 _ _=>J1 h126 x6) (Ac 2 x22 fun x130=>Ae x130 h120 fun x131 _=>Kj x131 h120 x6)
def K0 (h102:Hp) (x59 x101:IV) (r84 w85 r71 w72:AI) (ih:Aa) (x82 x2 x6 x22:IV):OH :=
 Ab x59 false h102 (fun k105=>Ai 3 x101 h102 fun x106 r107=>k105 x106 h102 r107 []) fun x108 h109 r110 w111=>Ad [(r84,w85),(r71,w72)] r110 w111 (Ab x59 false h109 (fun k112=>Al [] false false ih 57 [x82,x108] h109 k112) fun x113 h114 r115 w116=>Ad [] r115 w116 (Ab x59 false h114 (fun k117=>CF (Lz .not x113) fun x118=>k117 x118 h114 [] []) fun x119 h120 _ _=>Ld x59 x119 h120 x2 x6 x22))
def KI (r84 w85:AI) (h83:Hp) (x59 x26:IV) (r71 w72:AI) (ih:Aa) (x82 x2 x6 x22:IV):OH :=
 Ad [] r84 w85 (Ab x59 false h83 (fun k86=>Ac 2 x26 fun x87=>k86 x87 h83 [] []) fun x88 h89 _ _=>Ab x59 false h89 (fun k92=>Ae x88 h89 fun x93 r94=>k92 x93 h89 r94 []) fun x95 h96 r97 w98=>Ad [(r84,w85),(r71,w72)] r97 w98 (Ab x59 false h96 (fun k99=>A6 3 x95 (.fv (.int .i64 0)) fun x100=>k99 x100 h96 [] []) fun x101 h102 _ _=>K0 h102 x59 x101 r84 w85 r71 w72 ih x82 x2 x6 x22))
def J2 (h56:Hp) (x59 x22 x26:IV) (ih:Aa) (x2 x6:IV):OH :=
 Ab x59 false h56 (fun k60=>Ac 2 x22 fun x61=>k60 x61 h56 [] []) fun x62 h63 _ _=>Ab x59 false h63 (fun k66=>Ae x62 h63 fun x67 r68=>k66 x67 h63 r68 []) fun x69 h70 r71 w72=>Ad [] r71 w72 (Ab x59 false h70 (fun k73=>A6 3 x69 (.fv (.int .i64 0)) fun x74=>k73 x74 h70 [] []) fun x75 h76 _ _=>Ab x59 false h76 (fun k79=>Ai 3 x75 h76 fun x80 r81=>k79 x80 h76 r81 []) fun x82 h83 r84 w85=>KI r84 w85 h83 x59 x26 r71 w72 ih x82 x2 x6 x22)
def KD (h33:Hp) (x39 x26 x22:IV) (ih:Aa) (x2 x6:IV):OH :=
 Ab x39 false h33 (fun k40=>Ac 0 x26 fun x41=>k40 x41 h33 [] []) fun x42 h43 _ _=>Ab x39 false h43 (fun k46=>Ae x42 h43 fun x47 r48=>k46 x47 h43 r48 []) fun x49 h50 r51 w52=>Ad [] r51 w52 (Ab x39 false h50 (fun k53=>Gy EE 3 x49 (.fv (.int .i64 9)) fun x54=>k53 x54 h50 [] []) fun x55 h56 _ _=>AF x39 (.fv (.bool true)) x55 fun x59=>J2 h56 x59 x22 x26 ih x2 x6)
def JT (r34 w35:AI) (x22:IV) (h33:Hp) (x26:IV) (ih:Aa) (x2 x6:IV):OH :=
 Ad [] r34 w35 (Ac 0 x22 fun x36=>Ae x36 h33 fun x37 r38=>Ad [] r38 [] (Gy EE 3 x37 (.fv (.int .i64 8)) fun x39=>KD h33 x39 x26 x22 ih x2 x6))
def Lb (h23:Hp) (r24 w25 r21 r18 r15 r12:AI) (x22 x14 x20:IV) (ih:Aa) (x2 x6:IV):OH :=
 AH 87032841 (.row [.fv (.int .i64 0),.fv (.int .i64 0),.nils] false) (.ptr (.own 87032841) 0) h23 fun x26 h27 r28 w29=>Ad [(r24,w25),(r21,[]),(r18,[]),(r15,[]),(r12,[])] r28 w29 (Aj 3 x22 x14 h27 fun h30 r31 w32=>Ad [(r21,[]),(r18,[])] r31 w32 (Aj 3 x26 x20 h30 fun h33 r34 w35=>JT r34 w35 x22 h33 x26 ih x2 x6))
def K5 (x17:IV) (h7:Hp) (r15 r12 r18:AI) (x14:IV) (ih:Aa) (x2 x6:IV):OH :=
 A6 3 x17 (.fv (.int .i64 2)) fun x19=>Ai 3 x19 h7 fun x20 r21=>Ad [(r15,[]),(r12,[])] r21 [] (AH 87032840 (.row [.fv (.int .i64 0),.fv (.int .i64 0),.nils] false) (.ptr (.own 87032840) 0) h7 fun x22 h23 r24 w25=>Ad [(r21,[]),(r18,[]),(r15,[]),(r12,[])] r24 w25 (Lb h23 r24 w25 r21 r18 r15 r12 x22 x14 x20 ih x2 x6))
def Kq (h7:Hp) (x13 x2:IV) (r12:AI) (ih:Aa) (x6:IV):OH :=
 Ai 3 x13 h7 fun x14 r15=>Ad [] r15 [] (Ac 2 x2 fun x16=>Ae x16 h7 fun x17 r18=>Ad [(r15,[]),(r12,[])] r18 [] (K5 x17 h7 r15 r12 r18 x14 ih x2 x6))
def S83 (ih:Aa) (n:Nat) (x0:IV) (h1:Hp):OH :=
 A1 87031808 x0 h1 fun x2 h3 _ _=>AH 87031809 (.row [.fv (.int .i64 0),.fv (.int .i64 0),.nils] false) (.ptr (.own 87031809) 0) h3 fun x6 h7 _ _=>Ac 2 x2 fun x10=>Ae x10 h7 fun x11 r12=>Ad [] r12 [] (A6 3 x11 (.fv (.int .i64 1)) fun x13=>Kq h7 x13 x2 r12 ih x6)
theorem AmU (ih:Aa) (n:Nat) (x0:IV) (h1:Hp):Ax EE ih ft.get n 83 [x0] h1=S83 ih n x0 h1:=by kernel_rfl
def VG (x22:IV) (h2:Hp):OH :=
 Ac 2 x22 fun x23=>Ae x23 h2 fun x24 _=>A6 1 x24 (.fv (.int .i64 0)) fun x26=>Ae x26 h2 fun x27 _=>An [x27] h2
def Vg (x15:IV) (h2:Hp):OH :=
 Ac 2 x15 fun x16=>Ae x16 h2 fun x17 _=>A6 1 x17 (.fv (.int .i64 0)) fun x19=>Ae x19 h2 fun x20 _=>AE x20 fun x22=>VG x22 h2
def VQ (x10:IV) (h2:Hp) (x1 x0:IV):OH :=
 Ac 0 x10 fun x11=>Ae x11 h2 fun x12 _=>Gy EE 3 x12 x1 fun x14=>Am x14 (An [.fv .nilp] h2) (AE x0 fun x15=>Vg x15 h2)
def S84 (ih:Aa) (n:Nat) (x0 x1:IV) (h2:Hp):OH :=
 AE x0 fun x3=>Ac 2 x3 fun x4=>Ae x4 h2 fun x5 _=>A6 1 x5 (.fv (.int .i64 0)) fun x7=>Ae x7 h2 fun x8 _=>AE x8 fun x10=>VQ x10 h2 x1 x0
theorem Aly (ih:Aa) (n:Nat) (x0 x1:IV) (h2:Hp):Ax EE ih ft.get n 84 [x0,x1] h2=S84 ih n x0 x1 h2:=by kernel_rfl
def Agx (x1:IV) (h7:Hp) (j0_3:Hp→OH):OH :=
 A5 EE 3 x1 (.fv (.int .i64 0)) fun x10=>Am x10 (An [.fv (.int .i64 1)] h7) (A5 EE 3 x1 (.fv (.int .i64 2)) fun x11=>Am x11 (An [.fv (.int .i64 2)] h7) (j0_3 h7))
def AeA (x6 x1:IV) (h7:Hp) (j0_3:Hp→OH) (x0:IV):OH :=
 Am x6 (A5 EE 3 x1 (.fv (.int .i64 1)) fun x8=>Am x8 (An [.fv (.int .i64 1)] h7) (j0_3 h7)) (A5 EE 3 x0 (.fv (.int .i64 13)) fun x9=>Am x9 (Agx x1 h7 j0_3) (j0_3 h7))
def Ahh (x0:IV) (j1_5:IV→Hp→OH) (h2:Hp):OH :=
 A5 EE 3 x0 (.fv (.int .i64 29)) fun x17=>j1_5 x17 h2
def Afa (x0:IV) (j1_5:IV→Hp→OH) (h2:Hp):OH :=
 A5 EE 3 x0 (.fv (.int .i64 20)) fun x15=>Am x15 (j1_5 x15 h2) (A5 EE 3 x0 (.fv (.int .i64 28)) fun x16=>Am x16 (j1_5 x16 h2) (Ahh x0 j1_5 h2))
def AfE (x13:IV) (j1_5:IV→Hp→OH) (h2:Hp) (x0:IV):OH :=
 Am x13 (j1_5 x13 h2) (A5 EE 3 x0 (.fv (.int .i64 6)) fun x14=>Am x14 (j1_5 x14 h2) (Afa x0 j1_5 h2))
def S85 (ih:Aa) (n:Nat) (x0 x1:IV) (h2:Hp):OH :=
 (fun (j0_3:Hp→OH)=>(fun (j1_5:IV→Hp→OH)=>A5 EE 3 x0 (.fv (.int .i64 3)) fun x12=>Am x12 (j1_5 x12 h2) (A5 EE 3 x0 (.fv (.int .i64 4)) fun x13=>AfE x13 j1_5 h2 x0)) fun x6 h7=>AeA x6 x1 h7 j0_3 x0) fun h4=>An [.fv (.int .i64 0)] h4
theorem Ak0 (ih:Aa) (n:Nat) (x0 x1:IV) (h2:Hp):Ax EE ih ft.get n 85 [x0,x1] h2=S85 ih n x0 x1 h2:=by kernel_rfl
def SY (x13 x7:IV) (h6:Hp) (x10:IV) (h2:Hp) (x8 x9:IV) (q4:List IV→Hp→OH):OH :=
 Bx [.fv (.nilp),.fv (.nilp)] [(0,1,x13),(1,1,x7)] fun x15=>fzS (JI true 90181635 x15) 90181635 x15 h6 fun x16 h17 _ _=>BD EE 3 x10 (.fv (.int .i64 1)) fun x20=>Bg (h2.own.map (·.1)) [90181635] [x16,x8,x9,x20] h17 fun h21=>q4 [x16,x8,x9,x20] h21
def RR (x11 x8 x10:IV) (h6:Hp) (x7:IV) (h2:Hp) (x9:IV) (q4:List IV→Hp→OH):OH :=
 Am x11 (A6 1 x8 x10 fun x12=>Ae x12 h6 fun x13 _=>SY x13 x7 h6 x10 h2 x8 x9 q4) (An [x7] h6)
def Vu (l5:List IV) (h6 h2:Hp) (q4:List IV→Hp→OH):OH :=
 Aw l5 fun x7 l22=>Aw l22 fun x8 l23=>Aw l23 fun x9 l24=>Aw l24 fun x10 _=>GQ EE 3 x10 x9 fun x11=>RR x11 x8 x10 h6 x7 h2 x9 q4
def S86 (ih:Aa) (n:Nat) (x0 x1:IV) (h2:Hp):OH :=
 BQ x1 fun x3=>Bg (h2.own.map (·.1)) [90181635] [x0,x1,x3,.fv (.int .i64 0)] h2 fun h26=>BE n (fun q4 l5 h6=>Vu l5 h6 h2 q4) [x0,x1,x3,.fv (.int .i64 0)] h26
theorem Ani (ih:Aa) (n:Nat) (x0 x1:IV) (h2:Hp):Ax EE ih ft.get n 86 [x0,x1] h2=S86 ih n x0 x1 h2:=by kernel_rfl
def S87 (ih:Aa) (n:Nat) (x0 x1:IV) (h2:Hp):OH :=
 A1 91226112 x0 h2 fun x3 h4 _ _=>A1 91226113 x1 h4 fun x7 h8 _ _=>Ai 3 x3 h8 fun x11 _=>Az (val (CG (.func 90) [] [x7])) 91227137 h8 fun x13 h14 _ _=>Al [] false false ih 89 [x11,.fv (.int .i64 0),x13] h14 fun x17 h18 _ _=>An [x17] h18
theorem AmF (ih:Aa) (n:Nat) (x0 x1:IV) (h2:Hp):Ax EE ih ft.get n 87 [x0,x1] h2=S87 ih n x0 x1 h2:=by kernel_rfl
def AgH (ih:Aa) (h23:Hp) (x20 x22 x16:IV):OH :=
 Al [] false false ih 91 [x20,.fv (.int .i64 0),x22] h23 fun x26 h27 _ _=>Aj 3 x16 x26 h27 fun h30 _ _=>Av true 3 x16 h30 fun x33=>An [x33] h30
def S88 (ih:Aa) (n:Nat) (x0 x1 x2:IV) (h3:Hp):OH :=
 A1 92274688 x0 h3 fun x4 h5 _ _=>A1 92274689 x1 h5 fun x8 h9 _ _=>A1 92274690 x2 h9 fun x12 h13 _ _=>AH 92274691 (.row [.fv (.int .i64 0),.fv (.int .i64 0),.nils] false) (.ptr (.own 92274691) 0) h13 fun x16 h17 _ _=>Ai 3 x4 h17 fun x20 _=>Az (val (CG (.func 92) [] [x8,x12])) 92275713 h17 fun x22 h23 _ _=>AgH ih h23 x20 x22 x16
theorem AlA (ih:Aa) (n:Nat) (x0 x1 x2:IV) (h3:Hp):Ax EE ih ft.get n 88 [x0,x1,x2] h3=S88 ih n x0 x1 x2 h3:=by kernel_rfl
def L3 (h5:Hp) (x12:IV) (ih:Aa) (x2 x1:IV):OH :=
 Ae x12 h5 fun x13 _=>DY EE ih x2 [x13,x1] h5 fun x15 h16 _ _=>An [x15] h16
def LB (h3 h54:Hp) (x26 x27 x28 x29 x30 x57:IV) (q23:List IV→Hp→OH):OH :=
 Bg (h3.own.map (·.1)) [93328387] [x26,x27,x28,x29,x30,x57] h54 fun h58=>q23 [x26,x27,x28,x29,x30,x57] h58
def LN (x26 x48:IV) (ih:Aa) (h49:Hp) (x43 x27 x31:IV) (h3:Hp) (x28 x29 x30:IV) (q23:List IV→Hp→OH):OH :=
 BD EE 3 x26 x48 fun x52=>Al [] false false ih 89 [x43,x52,x27] h49 fun x53 h54 r55 w56=>Ad [] r55 w56 (Am x53 (An [.fv (.bool true)] h54) (BD EE 3 x31 (.fv (.int .i64 1)) fun x57=>LB h3 h54 x26 x27 x28 x29 x30 x57 q23))
def LI (x28:IV) (h40:Hp) (r44:AI) (ih:Aa) (x31 x26 x43 x27:IV) (h3:Hp) (x29 x30:IV) (q23:List IV→Hp→OH):OH :=
 Ac 0 x28 fun x45=>Ae x45 h40 fun x46 r47=>Ad [(r44,[])] r47 [] (Al [] false false ih 79 [x46,x31] h40 fun x48 h49 r50 w51=>Ad [(r44,[])] r50 w51 (LN x26 x48 ih h49 x43 x27 x31 h3 x28 x29 x30 q23))
def LS (h25:Hp) (x33 x28:IV) (ih:Aa) (x31 x26 x27:IV) (h3:Hp) (x29 x30:IV) (q23:List IV→Hp→OH):OH :=
 Ai 3 x33 h25 fun x34 _=>AH 93328387 (.row [.fv (.int .i64 0),.fv (.int .i64 0),.nils] false) (.ptr (.own 93328387) 0) h25 fun x36 h37 _ _=>Aj 3 x36 x34 h37 fun h40 _ _=>Ai 3 x36 h40 fun x43 r44=>Ad [] r44 [] (LI x28 h40 r44 ih x31 x26 x43 x27 h3 x29 x30 q23)
def L9 (l63:List IV) (x30 x29:IV) (h25:Hp) (x28:IV) (ih:Aa) (x26 x27:IV) (h3:Hp) (q23:List IV→Hp→OH):OH :=
 Aw l63 fun x31 _=>GQ EE 3 x31 x30 fun x32=>Am x32 (A6 3 x29 x31 fun x33=>LS h25 x33 x28 ih x31 x26 x27 h3 x29 x30 q23) (An [.fv (.bool false)] h25)
def Qr (l24:List IV) (h25:Hp) (ih:Aa) (h3:Hp) (q23:List IV→Hp→OH):OH :=
 Aw l24 fun x26 l59=>Aw l59 fun x27 l60=>Aw l60 fun x28 l61=>Aw l61 fun x29 l62=>Aw l62 fun x30 l63=>L9 l63 x30 x29 h25 x28 ih x26 x27 h3 q23
def LX (h5:Hp) (x19:IV) (h3:Hp) (x1 x2 x4:IV) (n:Nat) (ih:Aa):OH :=
 Ae x19 h5 fun x20 _=>BQ x20 fun x22=>Bg (h3.own.map (·.1)) [93328387] [x1,x2,x4,x20,x22,.fv (.int .i64 0)] h5 fun h65=>BE n (fun q23 l24 h25=>Qr l24 h25 ih h3 q23) [x1,x2,x4,x20,x22,.fv (.int .i64 0)] h65
def S89 (ih:Aa) (n:Nat) (x0 x1 x2:IV) (h3:Hp):OH :=
 A1 93323264 x0 h3 fun x4 h5 _ _=>Ac 0 x4 fun x8=>Ae x8 h5 fun x9 _=>A5 EE 3 x9 (.fv (.int .i64 1)) fun x11=>Am x11 (Ac 1 x4 fun x12=>L3 h5 x12 ih x2 x1) (Ac 2 x4 fun x19=>LX h5 x19 h3 x1 x2 x4 n ih)
theorem AlY (ih:Aa) (n:Nat) (x0 x1 x2:IV) (h3:Hp):Ax EE ih ft.get n 89 [x0,x1,x2] h3=S89 ih n x0 x1 x2 h3:=by kernel_rfl
def SF (x7 x20:IV) (h21:Hp):OH :=
 AF x7 x20 (.fv (.bool false)) fun x24=>An [x24] h21
def S90 (ih:Aa) (n:Nat) (x0 x1 x2:IV) (h3:Hp):OH :=
 Bd EE 3 x0 x1 fun x4=>Ae x2 h3 fun x5 _=>A5 EE 3 x4 x5 fun x7=>Ab x7 true h3 (fun k8=>k8 x0 h3 [] []) fun x9 h10 _ _=>Ab x7 true h10 (fun k13=>k13 x1 h10 [] []) fun x14 h15 _ _=>Ab x7 true h15 (fun k18=>geS EE 3 x9 x14 fun x19=>k18 x19 h15 [] []) fun x20 h21 _ _=>SF x7 x20 h21
theorem AkV (ih:Aa) (n:Nat) (x0 x1 x2:IV) (h3:Hp):Ax EE ih ft.get n 90 [x0,x1,x2] h3=S90 ih n x0 x1 x2 h3:=by kernel_rfl
def Kt (h9:Hp) (x4:IV) (ih:Aa) (x2 x1 x8:IV):OH :=
 Ai 3 x4 h9 fun x16 _=>DY EE ih x2 [x16,x1] h9 fun x18 h19 _ _=>Aj 3 x8 x18 h19 fun h22 _ _=>Av true 3 x8 h22 fun x25=>An [x25] h22
def Kp (h71:Hp) (x74 x70 x48:IV) (h3:Hp) (x41 x42 x43 x44 x45 x46 x47:IV) (q38:List IV→Hp→OH):OH :=
 Aj 3 x74 x70 h71 fun h75 r76 w77=>Ad [] r76 w77 (BD EE 3 x48 (.fv (.int .i64 1)) fun x78=>Bg (h3.own.map (·.1)) [95426563] [x41,x42,x43,x44,x45,x46,x47,x78] h75 fun h79=>q38 [x41,x42,x43,x44,x45,x46,x47,x78] h79)
def Lc (r67 w68 r61:AI) (x41 x65:IV) (ih:Aa) (h66:Hp) (x60 x42 x45 x48:IV) (h3:Hp) (x43 x44 x46 x47:IV) (q38:List IV→Hp→OH):OH :=
 Ad [(r61,[])] r67 w68 (BD EE 3 x41 x65 fun x69=>Al [] false false ih 91 [x60,x69,x42] h66 fun x70 h71 r72 w73=>Ad [] r72 w73 (A6 3 x45 x48 fun x74=>Kp h71 x74 x70 x48 h3 x41 x42 x43 x44 x45 x46 x47 q38))
def JA (r61:AI) (x43:IV) (h57:Hp) (ih:Aa) (x48 x41 x60 x42 x45:IV) (h3:Hp) (x44 x46 x47:IV) (q38:List IV→Hp→OH):OH :=
 Ad [] r61 [] (Ac 0 x43 fun x62=>Ae x62 h57 fun x63 r64=>Ad [(r61,[])] r64 [] (Al [] false false ih 79 [x63,x48] h57 fun x65 h66 r67 w68=>Lc r67 w68 r61 x41 x65 ih h66 x60 x42 x45 x48 h3 x43 x44 x46 x47 q38))
def KO (x46 x48:IV) (h40:Hp) (x43:IV) (ih:Aa) (x41 x42 x45:IV) (h3:Hp) (x44 x47:IV) (q38:List IV→Hp→OH):OH :=
 A6 3 x46 x48 fun x50=>Ai 3 x50 h40 fun x51 _=>AH 95426563 (.row [.fv (.int .i64 0),.fv (.int .i64 0),.nils] false) (.ptr (.own 95426563) 0) h40 fun x53 h54 _ _=>Aj 3 x53 x51 h54 fun h57 _ _=>Ai 3 x53 h57 fun x60 r61=>JA r61 x43 h57 ih x48 x41 x60 x42 x45 h3 x44 x46 x47 q38
def Ke (h40:Hp) (x44 x86:IV):OH :=
 Aj 3 x44 x86 h40 fun h87 _ _=>Av true 3 x44 h87 fun x90=>An [x90] h87
def Kv (x43:IV) (h40:Hp) (x45 x44:IV):OH :=
 Ac 0 x43 fun x80=>Ae x80 h40 fun x81 _=>Ac 1 x43 fun x83=>Ae x83 h40 fun x84 _=>Bx [.fv (.int .i64 0),.fv (.int .i64 0),.nils] [(0,1,x81),(1,1,x84),(2,1,x45)] fun x86=>Ke h40 x44 x86
def JD (l95:List IV) (h40:Hp) (x43:IV) (ih:Aa) (x41 x42 x45:IV) (h3:Hp) (x44:IV) (q38:List IV→Hp→OH):OH :=
 Aw l95 fun x46 l96=>Aw l96 fun x47 l97=>Aw l97 fun x48 _=>GQ EE 3 x48 x47 fun x49=>Am x49 (KO x46 x48 h40 x43 ih x41 x42 x45 h3 x44 x47 q38) (Kv x43 h40 x45 x44)
def P6 (l39:List IV) (h40:Hp) (ih:Aa) (h3:Hp) (q38:List IV→Hp→OH):OH :=
 Aw l39 fun x41 l91=>Aw l91 fun x42 l92=>Aw l92 fun x43 l93=>Aw l93 fun x44 l94=>Aw l94 fun x45 l95=>JD l95 h40 x43 ih x41 x42 x45 h3 x44 q38
def KK (h31:Hp) (x34:IV) (h3:Hp) (x1 x2 x4 x8 x30:IV) (n:Nat) (ih:Aa):OH :=
 Ae x34 h31 fun x35 _=>BQ x35 fun x37=>Bg (h3.own.map (·.1)) [95426563] [x1,x2,x4,x8,x30,x35,x37,.fv (.int .i64 0)] h31 fun h99=>BE n (fun q38 l39 h40=>P6 l39 h40 ih h3 q38) [x1,x2,x4,x8,x30,x35,x37,.fv (.int .i64 0)] h99
def Kk (x4:IV) (h9 h3:Hp) (x1 x2 x8:IV) (n:Nat) (ih:Aa):OH :=
 Ac 2 x4 fun x26=>Ae x26 h9 fun x27 _=>BQ x27 fun x29=>Az (Bm EE 95423491 29 x29 x29) 95423491 h9 fun x30 h31 _ _=>Ac 2 x4 fun x34=>KK h31 x34 h3 x1 x2 x4 x8 x30 n ih
def S91 (ih:Aa) (n:Nat) (x0 x1 x2:IV) (h3:Hp):OH :=
 A1 95420416 x0 h3 fun x4 h5 _ _=>AH 95420417 (.row [.fv (.int .i64 0),.fv (.int .i64 0),.nils] false) (.ptr (.own 95420417) 0) h5 fun x8 h9 _ _=>Ac 0 x4 fun x12=>Ae x12 h9 fun x13 _=>A5 EE 3 x13 (.fv (.int .i64 1)) fun x15=>Am x15 (Kt h9 x4 ih x2 x1 x8) (Kk x4 h9 h3 x1 x2 x8 n ih)
theorem Alm (ih:Aa) (n:Nat) (x0 x1 x2:IV) (h3:Hp):Ax EE ih ft.get n 91 [x0,x1,x2] h3=S91 ih n x0 x1 x2 h3:=by kernel_rfl
def Rp (h23:Hp) (x9 x22:IV):OH :=
 Aj 3 x9 x22 h23 fun h26 _ _=>Av true 3 x9 h26 fun x29=>An [x29] h26
def Qw (h36:Hp) (x9 x35:IV):OH :=
 Aj 3 x9 x35 h36 fun h39 _ _=>Av true 3 x9 h39 fun x42=>An [x42] h39
def QW (h46:Hp) (x9 x45:IV):OH :=
 Aj 3 x9 x45 h46 fun h49 _ _=>Av true 3 x9 h49 fun x52=>An [x52] h49
def Qf (x32:IV) (h10:Hp) (x3:IV) (ih:Aa) (x1 x9 x5:IV):OH :=
 Am x32 (Ai 3 x3 h10 fun x33 _=>Al [] false false ih 94 [x33,x1,.fv (.int .i64 0)] h10 fun x35 h36 _ _=>Qw h36 x9 x35) (Ai 3 x5 h10 fun x43 _=>Al [] false false ih 93 [x43,.fv (.int .i64 0)] h10 fun x45 h46 _ _=>QW h46 x9 x45)
def P4 (x16 x17:IV) (h10:Hp) (x5:IV) (ih:Aa) (x9 x2 x3 x1:IV):OH :=
 Mk EE 3 x16 x17 fun x19=>Am x19 (Ai 3 x5 h10 fun x20 _=>Al [] false false ih 93 [x20,.fv (.int .i64 (-1))] h10 fun x22 h23 _ _=>Rp h23 x9 x22) (Ae x2 h10 fun x30 _=>A5 EE 3 x16 x30 fun x32=>Qf x32 h10 x3 ih x1 x9 x5)
def S92 (ih:Aa) (n:Nat) (x0 x1 x2 x3:IV) (h4:Hp):OH :=
 A1 96468992 x0 h4 fun x5 h6 _ _=>AH 96468993 (.row [.fv (.int .i64 0),.fv (.int .i64 0),.nils] false) (.ptr (.own 96468993) 0) h6 fun x9 h10 _ _=>Ac 1 x5 fun x13=>Ae x13 h10 fun x14 _=>Bd EE 3 x14 x1 fun x16=>Ae x2 h10 fun x17 _=>P4 x16 x17 h10 x5 ih x9 x2 x3 x1
theorem AkJ (ih:Aa) (n:Nat) (x0 x1 x2 x3:IV) (h4:Hp):Ax EE ih ft.get n 92 [x0,x1,x2,x3] h4=S92 ih n x0 x1 x2 x3 h4:=by kernel_rfl
def Ahv (h8:Hp) (x7 x15:IV):OH :=
 Aj 3 x7 x15 h8 fun h16 _ _=>Av true 3 x7 h16 fun x19=>An [x19] h16
def S93 (ih:Aa) (n:Nat) (x0 x1:IV) (h2:Hp):OH :=
 A1 97517568 x0 h2 fun x3 h4 _ _=>AH 97517569 (.row [.fv (.int .i64 0),.fv (.int .i64 0),.nils] false) (.ptr (.own 97517569) 0) h4 fun x7 h8 _ _=>Ac 1 x3 fun x11=>Ae x11 h8 fun x12 _=>BD EE 3 x12 x1 fun x14=>Bx [.fv (.int .i64 0),.fv (.int .i64 0),.nils] [(0,1,.fv (.int .i64 1)),(1,1,x14)] fun x15=>Ahv h8 x7 x15
theorem An0 (ih:Aa) (n:Nat) (x0 x1:IV) (h2:Hp):Ax EE ih ft.get n 93 [x0,x1] h2=S93 ih n x0 x1 h2:=by kernel_rfl
def Afk (ih:Aa) (h23:Hp) (x20 x22 x16:IV):OH :=
 Al [] false false ih 91 [x20,.fv (.int .i64 0),x22] h23 fun x26 h27 _ _=>Aj 3 x16 x26 h27 fun h30 _ _=>Av true 3 x16 h30 fun x33=>An [x33] h30
def S94 (ih:Aa) (n:Nat) (x0 x1 x2:IV) (h3:Hp):OH :=
 A1 98566144 x0 h3 fun x4 h5 _ _=>A1 98566145 x1 h5 fun x8 h9 _ _=>A1 98566146 x2 h9 fun x12 h13 _ _=>AH 98566147 (.row [.fv (.int .i64 0),.fv (.int .i64 0),.nils] false) (.ptr (.own 98566147) 0) h13 fun x16 h17 _ _=>Ai 3 x4 h17 fun x20 _=>Az (val (CG (.func 95) [] [x12,x8])) 98567169 h17 fun x22 h23 _ _=>Afk ih h23 x20 x22 x16
theorem AlT (ih:Aa) (n:Nat) (x0 x1 x2:IV) (h3:Hp):Ax EE ih ft.get n 94 [x0,x1,x2] h3=S94 ih n x0 x1 x2 h3:=by kernel_rfl
def UZ (ih:Aa) (h10:Hp) (x20 x22 x9:IV):OH :=
 Al [] false false ih 93 [x20,x22] h10 fun x24 h25 _ _=>Aj 3 x9 x24 h25 fun h28 _ _=>Av true 3 x9 h28 fun x31=>An [x31] h28
def Vz (h35:Hp) (x9 x34:IV):OH :=
 Aj 3 x9 x34 h35 fun h38 _ _=>Av true 3 x9 h38 fun x41=>An [x41] h38
def Vw (x16 x17:IV) (h10:Hp) (x5 x3:IV) (ih:Aa) (x9:IV):OH :=
 geS EE 3 x16 x17 fun x19=>Am x19 (Ai 3 x5 h10 fun x20 _=>Ae x3 h10 fun x22 _=>UZ ih h10 x20 x22 x9) (Ai 3 x5 h10 fun x32 _=>Al [] false false ih 93 [x32,.fv (.int .i64 0)] h10 fun x34 h35 _ _=>Vz h35 x9 x34)
def S95 (ih:Aa) (n:Nat) (x0 x1 x2 x3:IV) (h4:Hp):OH :=
 A1 99614720 x0 h4 fun x5 h6 _ _=>AH 99614721 (.row [.fv (.int .i64 0),.fv (.int .i64 0),.nils] false) (.ptr (.own 99614721) 0) h6 fun x9 h10 _ _=>Ac 1 x5 fun x13=>Ae x13 h10 fun x14 _=>Bd EE 3 x14 x1 fun x16=>Ae x2 h10 fun x17 _=>Vw x16 x17 h10 x5 x3 ih x9
theorem An8 (ih:Aa) (n:Nat) (x0 x1 x2 x3:IV) (h4:Hp):Ax EE ih ft.get n 95 [x0,x1,x2,x3] h4=S95 ih n x0 x1 x2 x3 h4:=by kernel_rfl
end
noncomputable section
def dt:DT :=
 .node 55 (.node 35 (.node 21 (.node 14 (.node 11 (.node 10 (.leaf 3 (fun ih n=>ar5 (S3 ih n)))
 (.leaf 10 (fun ih n=>ar0 (S10 ih n))))
 (.node 12 (.leaf 11 (fun ih n=>Fo (S11 ih n)))
 (.node 13 (.leaf 12 (fun ih n=>Fo (S12 ih n)))
 (.leaf 13 (fun ih n=>Lf (S13 ih n))))))
 (.node 16 (.node 15 (.leaf 14 (fun ih n=>DW (S14 ih n)))
 (.leaf 15 (fun ih n=>Fo (S15 ih n))))
 (.node 17 (.leaf 16 (fun ih n=>DW (S16 ih n)))
 (.node 20 (.leaf 17 (fun ih n=>Fo (S17 ih n)))
 (.leaf 20 (fun ih n=>Fo (S20 ih n)))))))
 (.node 26 (.node 23 (.node 22 (.leaf 21 (fun ih n=>Lh (S21 ih n)))
 (.leaf 22 (fun ih n=>Lh (S22 ih n))))
 (.node 24 (.leaf 23 (fun ih n=>Lf (S23 ih n)))
 (.node 25 (.leaf 24 (fun ih n=>DW (S24 ih n)))
 (.leaf 25 (fun ih n=>Lh (S25 ih n))))))
 (.node 29 (.node 27 (.leaf 26 (fun ih n=>Fo (S26 ih n)))
 (.leaf 27 (fun ih n=>Fo (S27 ih n))))
 (.node 33 (.leaf 29 (fun ih n=>Fo (S29 ih n)))
 (.node 34 (.leaf 33 (fun ih n=>DW (S33 ih n)))
 (.leaf 34 (fun ih n=>DW (S34 ih n))))))))
 (.node 45 (.node 40 (.node 37 (.node 36 (.leaf 35 (fun ih n=>Lf (S35 ih n)))
 (.leaf 36 (fun ih n=>Fo (S36 ih n))))
 (.node 38 (.leaf 37 (fun ih n=>DW (S37 ih n)))
 (.node 39 (.leaf 38 (fun ih n=>Fo (S38 ih n)))
 (.leaf 39 (fun ih n=>Fo (S39 ih n))))))
 (.node 42 (.node 41 (.leaf 40 (fun ih n=>DW (S40 ih n)))
 (.leaf 41 (fun ih n=>Lf (S41 ih n))))
 (.node 43 (.leaf 42 (fun ih n=>Lh (S42 ih n)))
 (.node 44 (.leaf 43 (fun ih n=>DW (S43 ih n)))
 (.leaf 44 (fun ih n=>ar0 (S44 ih n)))))))
 (.node 50 (.node 47 (.node 46 (.leaf 45 (fun ih n=>Fo (S45 ih n)))
 (.leaf 46 (fun ih n=>DW (S46 ih n))))
 (.node 48 (.leaf 47 (fun ih n=>Lf (S47 ih n)))
 (.node 49 (.leaf 48 (fun ih n=>Lf (S48 ih n)))
 (.leaf 49 (fun ih n=>Lf (S49 ih n))))))
 (.node 52 (.node 51 (.leaf 50 (fun ih n=>Lh (S50 ih n)))
 (.leaf 51 (fun ih n=>DW (S51 ih n))))
 (.node 53 (.leaf 52 (fun ih n=>Lh (S52 ih n)))
 (.node 54 (.leaf 53 (fun ih n=>Lf (S53 ih n)))
 (.leaf 54 (fun ih n=>DW (S54 ih n)))))))))
 (.node 75 (.node 65 (.node 60 (.node 57 (.node 56 (.leaf 55 (fun ih n=>Fo (S55 ih n)))
 (.leaf 56 (fun ih n=>Fo (S56 ih n))))
 (.node 58 (.leaf 57 (fun ih n=>DW (S57 ih n)))
 (.node 59 (.leaf 58 (fun ih n=>DW (S58 ih n)))
 (.leaf 59 (fun ih n=>DW (S59 ih n))))))
 (.node 62 (.node 61 (.leaf 60 (fun ih n=>Lf (S60 ih n)))
 (.leaf 61 (fun ih n=>Fo (S61 ih n))))
 (.node 63 (.leaf 62 (fun ih n=>DW (S62 ih n)))
 (.node 64 (.leaf 63 (fun ih n=>Fo (S63 ih n)))
 (.leaf 64 (fun ih n=>ar0 (S64 ih n)))))))
 (.node 70 (.node 67 (.node 66 (.leaf 65 (fun ih n=>Lh (S65 ih n)))
 (.leaf 66 (fun ih n=>Lf (S66 ih n))))
 (.node 68 (.leaf 67 (fun ih n=>Fo (S67 ih n)))
 (.node 69 (.leaf 68 (fun ih n=>Fo (S68 ih n)))
 (.leaf 69 (fun ih n=>Lh (S69 ih n))))))
 (.node 72 (.node 71 (.leaf 70 (fun ih n=>Fo (S70 ih n)))
 (.leaf 71 (fun ih n=>Fo (S71 ih n))))
 (.node 73 (.leaf 72 (fun ih n=>DW (S72 ih n)))
 (.node 74 (.leaf 73 (fun ih n=>DW (S73 ih n)))
 (.leaf 74 (fun ih n=>DW (S74 ih n))))))))
 (.node 85 (.node 80 (.node 77 (.node 76 (.leaf 75 (fun ih n=>DW (S75 ih n)))
 (.leaf 76 (fun ih n=>DW (S76 ih n))))
 (.node 78 (.leaf 77 (fun ih n=>Fo (S77 ih n)))
 (.node 79 (.leaf 78 (fun ih n=>DW (S78 ih n)))
 (.leaf 79 (fun ih n=>DW (S79 ih n))))))
 (.node 82 (.node 81 (.leaf 80 (fun ih n=>DW (S80 ih n)))
 (.leaf 81 (fun ih n=>Lf (S81 ih n))))
 (.node 83 (.leaf 82 (fun ih n=>Fo (S82 ih n)))
 (.node 84 (.leaf 83 (fun ih n=>Fo (S83 ih n)))
 (.leaf 84 (fun ih n=>DW (S84 ih n)))))))
 (.node 90 (.node 87 (.node 86 (.leaf 85 (fun ih n=>DW (S85 ih n)))
 (.leaf 86 (fun ih n=>DW (S86 ih n))))
 (.node 88 (.leaf 87 (fun ih n=>DW (S87 ih n)))
 (.node 89 (.leaf 88 (fun ih n=>Lh (S88 ih n)))
 (.leaf 89 (fun ih n=>Lh (S89 ih n))))))
 (.node 93 (.node 91 (.leaf 90 (fun ih n=>Lh (S90 ih n)))
 (.node 92 (.leaf 91 (fun ih n=>Lh (S91 ih n)))
 (.leaf 92 (fun ih n=>Lf (S92 ih n)))))
 (.node 94 (.leaf 93 (fun ih n=>DW (S93 ih n)))
 (.node 95 (.leaf 94 (fun ih n=>Lh (S94 ih n)))
 (.leaf 95 (fun ih n=>Lf (S95 ih n)))))))))
theorem Apc:dt.Ok EE ft.get :=
 ⟨⟨⟨⟨⟨⟨(fun ih n _ _ _ e=>AkK (F:=Ax EE ih ft.get n 3) (AoX ih n) e),
 (fun ih n _ _ _ e=>U9 (F:=Ax EE ih ft.get n 10) (AlN ih n) e)⟩,
 ⟨(fun ih n _ _ _ e=>BX (F:=Ax EE ih ft.get n 11) (Anh ih n) e),
 ⟨(fun ih n _ _ _ e=>BX (F:=Ax EE ih ft.get n 12) (Alo ih n) e),
 (fun ih n _ _ _ e=>D7 (F:=Ax EE ih ft.get n 13) (AkG ih n) e)⟩⟩⟩,
 ⟨⟨(fun ih n _ _ _ e=>Bz (F:=Ax EE ih ft.get n 14) (AnD ih n) e),
 (fun ih n _ _ _ e=>BX (F:=Ax EE ih ft.get n 15) (Ali ih n) e)⟩,
 ⟨(fun ih n _ _ _ e=>Bz (F:=Ax EE ih ft.get n 16) (Alw ih n) e),
 ⟨(fun ih n _ _ _ e=>BX (F:=Ax EE ih ft.get n 17) (Aof ih n) e),
 (fun ih n _ _ _ e=>BX (F:=Ax EE ih ft.get n 20) (Alt ih n) e)⟩⟩⟩⟩,
 ⟨⟨⟨(fun ih n _ _ _ e=>Ea (F:=Ax EE ih ft.get n 21) (AnP ih n) e),
 (fun ih n _ _ _ e=>Ea (F:=Ax EE ih ft.get n 22) (AlU ih n) e)⟩,
 ⟨(fun ih n _ _ _ e=>D7 (F:=Ax EE ih ft.get n 23) (Aoa ih n) e),
 ⟨(fun ih n _ _ _ e=>Bz (F:=Ax EE ih ft.get n 24) (AkX ih n) e),
 (fun ih n _ _ _ e=>Ea (F:=Ax EE ih ft.get n 25) (Ano ih n) e)⟩⟩⟩,
 ⟨⟨(fun ih n _ _ _ e=>BX (F:=Ax EE ih ft.get n 26) (Anw ih n) e),
 (fun ih n _ _ _ e=>BX (F:=Ax EE ih ft.get n 27) (Ank ih n) e)⟩,
 ⟨(fun ih n _ _ _ e=>BX (F:=Ax EE ih ft.get n 29) (AnU ih n) e),
 ⟨(fun ih n _ _ _ e=>Bz (F:=Ax EE ih ft.get n 33) (Alc ih n) e),
 (fun ih n _ _ _ e=>Bz (F:=Ax EE ih ft.get n 34) (AnK ih n) e)⟩⟩⟩⟩⟩,
 ⟨⟨⟨⟨(fun ih n _ _ _ e=>D7 (F:=Ax EE ih ft.get n 35) (Anr ih n) e),
 (fun ih n _ _ _ e=>BX (F:=Ax EE ih ft.get n 36) (AnN ih n) e)⟩,
 ⟨(fun ih n _ _ _ e=>Bz (F:=Ax EE ih ft.get n 37) (Am6 ih n) e),
 ⟨(fun ih n _ _ _ e=>BX (F:=Ax EE ih ft.get n 38) (AnR ih n) e),
 (fun ih n _ _ _ e=>BX (F:=Ax EE ih ft.get n 39) (Amc ih n) e)⟩⟩⟩,
 ⟨⟨(fun ih n _ _ _ e=>Bz (F:=Ax EE ih ft.get n 40) (Ams ih n) e),
 (fun ih n _ _ _ e=>D7 (F:=Ax EE ih ft.get n 41) (AnW ih n) e)⟩,
 ⟨(fun ih n _ _ _ e=>Ea (F:=Ax EE ih ft.get n 42) (AlF ih n) e),
 ⟨(fun ih n _ _ _ e=>Bz (F:=Ax EE ih ft.get n 43) (Anu ih n) e),
 (fun ih n _ _ _ e=>U9 (F:=Ax EE ih ft.get n 44) (AmX ih n) e)⟩⟩⟩⟩,
 ⟨⟨⟨(fun ih n _ _ _ e=>BX (F:=Ax EE ih ft.get n 45) (AlB ih n) e),
 (fun ih n _ _ _ e=>Bz (F:=Ax EE ih ft.get n 46) (Aoe ih n) e)⟩,
 ⟨(fun ih n _ _ _ e=>D7 (F:=Ax EE ih ft.get n 47) (Ann ih n) e),
 ⟨(fun ih n _ _ _ e=>D7 (F:=Ax EE ih ft.get n 48) (Anx ih n) e),
 (fun ih n _ _ _ e=>D7 (F:=Ax EE ih ft.get n 49) (AmN ih n) e)⟩⟩⟩,
 ⟨⟨(fun ih n _ _ _ e=>Ea (F:=Ax EE ih ft.get n 50) (Alr ih n) e),
 (fun ih n _ _ _ e=>Bz (F:=Ax EE ih ft.get n 51) (AlL ih n) e)⟩,
 ⟨(fun ih n _ _ _ e=>Ea (F:=Ax EE ih ft.get n 52) (Amj ih n) e),
 ⟨(fun ih n _ _ _ e=>D7 (F:=Ax EE ih ft.get n 53) (All ih n) e),
 (fun ih n _ _ _ e=>Bz (F:=Ax EE ih ft.get n 54) (AnM ih n) e)⟩⟩⟩⟩⟩⟩,
 ⟨⟨⟨⟨⟨(fun ih n _ _ _ e=>BX (F:=Ax EE ih ft.get n 55) (AmZ ih n) e),
 (fun ih n _ _ _ e=>BX (F:=Ax EE ih ft.get n 56) (Alj ih n) e)⟩,
 ⟨(fun ih n _ _ _ e=>Bz (F:=Ax EE ih ft.get n 57) (Anc ih n) e),
 ⟨(fun ih n _ _ _ e=>Bz (F:=Ax EE ih ft.get n 58) (Alp ih n) e),
 (fun ih n _ _ _ e=>Bz (F:=Ax EE ih ft.get n 59) (Ak8 ih n) e)⟩⟩⟩,
 ⟨⟨(fun ih n _ _ _ e=>D7 (F:=Ax EE ih ft.get n 60) (Aml ih n) e),
 (fun ih n _ _ _ e=>BX (F:=Ax EE ih ft.get n 61) (Alz ih n) e)⟩,
 ⟨(fun ih n _ _ _ e=>Bz (F:=Ax EE ih ft.get n 62) (Am4 ih n) e),
 ⟨(fun ih n _ _ _ e=>BX (F:=Ax EE ih ft.get n 63) (AmJ ih n) e),
 (fun ih n _ _ _ e=>U9 (F:=Ax EE ih ft.get n 64) (Al0 ih n) e)⟩⟩⟩⟩,
 ⟨⟨⟨(fun ih n _ _ _ e=>Ea (F:=Ax EE ih ft.get n 65) (AkU ih n) e),
 (fun ih n _ _ _ e=>D7 (F:=Ax EE ih ft.get n 66) (AkH ih n) e)⟩,
 ⟨(fun ih n _ _ _ e=>BX (F:=Ax EE ih ft.get n 67) (AnY ih n) e),
 ⟨(fun ih n _ _ _ e=>BX (F:=Ax EE ih ft.get n 68) (Amb ih n) e),
 (fun ih n _ _ _ e=>Ea (F:=Ax EE ih ft.get n 69) (Anm ih n) e)⟩⟩⟩,
 ⟨⟨(fun ih n _ _ _ e=>BX (F:=Ax EE ih ft.get n 70) (Al2 ih n) e),
 (fun ih n _ _ _ e=>BX (F:=Ax EE ih ft.get n 71) (AlR ih n) e)⟩,
 ⟨(fun ih n _ _ _ e=>Bz (F:=Ax EE ih ft.get n 72) (Amm ih n) e),
 ⟨(fun ih n _ _ _ e=>Bz (F:=Ax EE ih ft.get n 73) (Ak7 ih n) e),
 (fun ih n _ _ _ e=>Bz (F:=Ax EE ih ft.get n 74) (Anf ih n) e)⟩⟩⟩⟩⟩,
 ⟨⟨⟨⟨(fun ih n _ _ _ e=>Bz (F:=Ax EE ih ft.get n 75) (AmT ih n) e),
 (fun ih n _ _ _ e=>Bz (F:=Ax EE ih ft.get n 76) (Amg ih n) e)⟩,
 ⟨(fun ih n _ _ _ e=>BX (F:=Ax EE ih ft.get n 77) (AmD ih n) e),
 ⟨(fun ih n _ _ _ e=>Bz (F:=Ax EE ih ft.get n 78) (An4 ih n) e),
 (fun ih n _ _ _ e=>Bz (F:=Ax EE ih ft.get n 79) (AkQ ih n) e)⟩⟩⟩,
 ⟨⟨(fun ih n _ _ _ e=>Bz (F:=Ax EE ih ft.get n 80) (AlH ih n) e),
 (fun ih n _ _ _ e=>D7 (F:=Ax EE ih ft.get n 81) (Am2 ih n) e)⟩,
 ⟨(fun ih n _ _ _ e=>BX (F:=Ax EE ih ft.get n 82) (An2 ih n) e),
 ⟨(fun ih n _ _ _ e=>BX (F:=Ax EE ih ft.get n 83) (AmU ih n) e),
 (fun ih n _ _ _ e=>Bz (F:=Ax EE ih ft.get n 84) (Aly ih n) e)⟩⟩⟩⟩,
 ⟨⟨⟨(fun ih n _ _ _ e=>Bz (F:=Ax EE ih ft.get n 85) (Ak0 ih n) e),
 (fun ih n _ _ _ e=>Bz (F:=Ax EE ih ft.get n 86) (Ani ih n) e)⟩,
 ⟨(fun ih n _ _ _ e=>Bz (F:=Ax EE ih ft.get n 87) (AmF ih n) e),
 ⟨(fun ih n _ _ _ e=>Ea (F:=Ax EE ih ft.get n 88) (AlA ih n) e),
 (fun ih n _ _ _ e=>Ea (F:=Ax EE ih ft.get n 89) (AlY ih n) e)⟩⟩⟩,
 ⟨⟨(fun ih n _ _ _ e=>Ea (F:=Ax EE ih ft.get n 90) (AkV ih n) e),
 ⟨(fun ih n _ _ _ e=>Ea (F:=Ax EE ih ft.get n 91) (Alm ih n) e),
 (fun ih n _ _ _ e=>D7 (F:=Ax EE ih ft.get n 92) (AkJ ih n) e)⟩⟩,
 ⟨(fun ih n _ _ _ e=>Bz (F:=Ax EE ih ft.get n 93) (An0 ih n) e),
 ⟨(fun ih n _ _ _ e=>Ea (F:=Ax EE ih ft.get n 94) (AlT ih n) e),
 (fun ih n _ _ _ e=>D7 (F:=Ax EE ih ft.get n 95) (An8 ih n) e)⟩⟩⟩⟩⟩⟩⟩
theorem Amy:∀n f args h x,SS dt n f args h=some x→run EE n f args h=some x:=AqG AoK Apc
end
end Idl
end Go.Proofs.Ytaifgaidaglblaa

/-
  Texts of a proof, part 10: an ideal semantics of the program, its functions in shallow form, contracts of them. No statement of the seat is proved here.
-/
import Derived.Test.YtdibmackcbpniaaObjTypesK9
set_option linter.all false
set_option maxRecDepth 100000
set_option linter.unusedVariables false
namespace Go.Proofs.Ytdibmackcbpniaa
namespace Idl
noncomputable def S101_533 (r186 : List Ref) (w187 : List Ref) (h185 : Hp) (x13 : IV) (x184 : IV) : Option (IV × Hp) :=
  chkS [] r186 w187 (cellS true 3 x13 h185 fun x188 => outS1 [x188, x184] h185)
noncomputable def S101_534 (h170 : Hp) (x79 : IV) (x101 : IV) (x145 : IV) (x13 : IV) (x169 : IV) : Option (IV × Hp) :=
  guardS x79 true h170 (fun k173 => k173 x101 h170 [] []) fun x174 h175 _ _ => pickS x79 x174 (.fv (.bool false)) fun x178 => guardS x178 true h175 (fun k179 => k179 x145 h175 [] []) fun x180 h181 _ _ => pickS x178 x180 (.fv (.bool false)) fun x184 => storeA 3 x13 x169 h181 fun h185 r186 w187 => S101_533 r186 w187 h185 x13 x184
noncomputable def S101_535 (r164 : List Ref) (r162 : List Ref) (r160 : List Ref) (r157 : List Ref) (w158 : List Ref) (r154 : List Ref) (h156 : Hp) (x155 : IV) (x159 : IV) (x161 : IV) (x163 : IV) (ih : Handler) (x79 : IV) (x101 : IV) (x145 : IV) (x13 : IV) : Option (IV × Hp) :=
  chkS [(r162, []), (r160, []), (r157, w158), (r154, [])] r164 [] (genS (pcBuildSlice EE 28 4 [(0, x155), (1, x159), (2, x161), (3, x163)]) 105911301 h156 fun x165 h166 r167 w168 => chkS [] r167 w168 (isoS [] false false ih 30 [.fv (.int .i64 13), x165] h166 fun x169 h170 r171 w172 => chkS [] r171 w172 (S101_534 h170 x79 x101 x145 x13 x169)))
noncomputable def S101_536 (h156 : Hp) (x102 : IV) (r157 : List Ref) (w158 : List Ref) (r154 : List Ref) (x146 : IV) (x80 : IV) (x155 : IV) (ih : Handler) (x79 : IV) (x101 : IV) (x145 : IV) (x13 : IV) : Option (IV × Hp) :=
  loadA 3 x102 h156 fun x159 r160 => chkS [(r157, w158), (r154, [])] r160 [] (loadA 3 x146 h156 fun x161 r162 => chkS [(r160, []), (r157, w158), (r154, [])] r162 [] (loadA 3 x80 h156 fun x163 r164 => S101_535 r164 r162 r160 r157 w158 r154 h156 x155 x159 x161 x163 ih x79 x101 x145 x13))
noncomputable def S101_537 (r151 : List Ref) (w152 : List Ref) (h150 : Hp) (x5 : IV) (ih : Handler) (x102 : IV) (x146 : IV) (x80 : IV) (x79 : IV) (x101 : IV) (x145 : IV) (x13 : IV) : Option (IV × Hp) :=
  chkS [] r151 w152 (loadA 3 x5 h150 fun x153 r154 => chkS [] r154 [] (isoS [] false false ih 28 [x153, .fv (.int .i64 1), .fv (.int .i64 0)] h150 fun x155 h156 r157 w158 => chkS [] r157 w158 (S101_536 h156 x102 r157 w158 r154 x146 x80 x155 ih x79 x101 x145 x13)))
noncomputable def S101_538 (x140 : IV) (h141 : Hp) (r142 : List Ref) (w143 : List Ref) (r137 : List Ref) (w138 : List Ref) (r134 : List Ref) (r131 : List Ref) (w132 : List Ref) (r128 : List Ref) (r125 : List Ref) (w126 : List Ref) (r121 : List Ref) (w122 : List Ref) (r118 : List Ref) (r115 : List Ref) (w116 : List Ref) (r111 : List Ref) (w112 : List Ref) (x5 : IV) (ih : Handler) (x102 : IV) (x80 : IV) (x79 : IV) (x101 : IV) (x13 : IV) : Option (IV × Hp) :=
  extS 0 x140 fun x144 => extS 1 x140 fun x145 => newS 105910288 (.row [.fv (.int .i64 0), .fv (.int .i64 0), .nils] false) (.ptr (.own 105910288) 0) h141 fun x146 h147 r148 w149 => chkS [(r142, w143), (r137, w138), (r134, []), (r131, w132), (r128, []), (r125, w126), (r121, w122), (r118, []), (r115, w116), (r111, w112)] r148 w149 (storeA 3 x146 x144 h147 fun h150 r151 w152 => S101_537 r151 w152 h150 x5 ih x102 x146 x80 x79 x101 x145 x13)
noncomputable def S101_539 (ih : Handler) (h130 : Hp) (x133 : IV) (x3 : IV) (x123 : IV) (x129 : IV) (r134 : List Ref) (r131 : List Ref) (w132 : List Ref) (r128 : List Ref) (r125 : List Ref) (w126 : List Ref) (r121 : List Ref) (w122 : List Ref) (r118 : List Ref) (r115 : List Ref) (w116 : List Ref) (r111 : List Ref) (w112 : List Ref) (x5 : IV) (x102 : IV) (x80 : IV) (x79 : IV) (x101 : IV) (x13 : IV) : Option (IV × Hp) :=
  isoS [] false false ih 42 [x133, .fv (.int .i64 2)] h130 fun x135 h136 r137 w138 => chkS [] r137 w138 (subS EE 3 x3 (.fv (.int .i64 2)) fun x139 => isoS [] false false ih 70 [x123, x129, x135, x139] h136 fun x140 h141 r142 w143 => chkS [] r142 w143 (S101_538 x140 h141 r142 w143 r137 w138 r134 r131 w132 r128 r125 w126 r121 w122 r118 r115 w116 r111 w112 x5 ih x102 x80 x79 x101 x13))
noncomputable def S101_540 (r128 : List Ref) (r125 : List Ref) (w126 : List Ref) (r121 : List Ref) (w122 : List Ref) (r118 : List Ref) (r115 : List Ref) (w116 : List Ref) (r111 : List Ref) (w112 : List Ref) (ih : Handler) (h124 : Hp) (x127 : IV) (x9 : IV) (x3 : IV) (x123 : IV) (x5 : IV) (x102 : IV) (x80 : IV) (x79 : IV) (x101 : IV) (x13 : IV) : Option (IV × Hp) :=
  chkS [(r125, w126), (r121, w122), (r118, []), (r115, w116), (r111, w112)] r128 [] (isoS [] false false ih 28 [x127, .fv (.int .i64 2), .fv (.int .i64 0)] h124 fun x129 h130 r131 w132 => chkS [] r131 w132 (loadA 3 x9 h130 fun x133 r134 => chkS [(r131, w132), (r128, []), (r125, w126), (r121, w122), (r118, []), (r115, w116), (r111, w112)] r134 [] (S101_539 ih h130 x133 x3 x123 x129 r134 r131 w132 r128 r125 w126 r121 w122 r118 r115 w116 r111 w112 x5 x102 x80 x79 x101 x13)))
noncomputable def S101_541 (ih : Handler) (h114 : Hp) (x117 : IV) (x113 : IV) (x5 : IV) (r118 : List Ref) (r115 : List Ref) (w116 : List Ref) (r111 : List Ref) (w112 : List Ref) (x9 : IV) (x3 : IV) (x102 : IV) (x80 : IV) (x79 : IV) (x101 : IV) (x13 : IV) : Option (IV × Hp) :=
  isoS [] false false ih 28 [x117, .fv (.int .i64 1), .fv (.int .i64 0)] h114 fun x119 h120 r121 w122 => chkS [] r121 w122 (isoS [] false false ih 96 [x113, .fv (.int .i64 1), x119] h120 fun x123 h124 r125 w126 => chkS [] r125 w126 (loadA 3 x5 h124 fun x127 r128 => S101_540 r128 r125 w126 r121 w122 r118 r115 w116 r111 w112 ih h124 x127 x9 x3 x123 x5 x102 x80 x79 x101 x13))
noncomputable def S101_542 (r111 : List Ref) (w112 : List Ref) (ih : Handler) (h110 : Hp) (x0 : IV) (x109 : IV) (x5 : IV) (x9 : IV) (x3 : IV) (x102 : IV) (x80 : IV) (x79 : IV) (x101 : IV) (x13 : IV) : Option (IV × Hp) :=
  chkS [] r111 w112 (isoS [] false false ih 96 [x0, .fv (.int .i64 1), x109] h110 fun x113 h114 r115 w116 => chkS [] r115 w116 (loadA 3 x5 h114 fun x117 r118 => chkS [(r115, w116), (r111, w112)] r118 [] (S101_541 ih h114 x117 x113 x5 r118 r115 w116 r111 w112 x9 x3 x102 x80 x79 x101 x13)))
noncomputable def S101_543 (h97 : Hp) (r98 : List Ref) (w99 : List Ref) (r93 : List Ref) (w94 : List Ref) (r90 : List Ref) (r88 : List Ref) (x100 : IV) (ih : Handler) (x0 : IV) (x5 : IV) (x9 : IV) (x3 : IV) (x80 : IV) (x79 : IV) (x101 : IV) (x13 : IV) : Option (IV × Hp) :=
  newS 105909258 (.row [.fv (.int .i64 0), .fv (.int .i64 0), .nils] false) (.ptr (.own 105909258) 0) h97 fun x102 h103 r104 w105 => chkS [(r98, w99), (r93, w94), (r90, []), (r88, [])] r104 w105 (storeA 3 x102 x100 h103 fun h106 r107 w108 => chkS [] r107 w108 (isoS [] false false ih 99 [] h106 fun x109 h110 r111 w112 => S101_542 r111 w112 ih h110 x0 x109 x5 x9 x3 x102 x80 x79 x101 x13))
noncomputable def S101_544 (x3 : IV) (ih : Handler) (h92 : Hp) (x0 : IV) (x87 : IV) (x91 : IV) (r93 : List Ref) (w94 : List Ref) (r90 : List Ref) (r88 : List Ref) (x5 : IV) (x9 : IV) (x80 : IV) (x79 : IV) (x13 : IV) : Option (IV × Hp) :=
  subS EE 3 x3 (.fv (.int .i64 2)) fun x95 => isoS [] false false ih 70 [x0, x87, x91, x95] h92 fun x96 h97 r98 w99 => chkS [] r98 w99 (extS 0 x96 fun x100 => extS 1 x96 fun x101 => S101_543 h97 r98 w99 r93 w94 r90 r88 x100 ih x0 x5 x9 x3 x80 x79 x101 x13)
noncomputable def S101_545 (r88 : List Ref) (h84 : Hp) (x9 : IV) (ih : Handler) (x3 : IV) (x0 : IV) (x87 : IV) (x5 : IV) (x80 : IV) (x79 : IV) (x13 : IV) : Option (IV × Hp) :=
  chkS [] r88 [] (loadA 3 x9 h84 fun x89 r90 => chkS [(r88, [])] r90 [] (isoS [] false false ih 42 [x89, .fv (.int .i64 1)] h84 fun x91 h92 r93 w94 => chkS [(r88, [])] r93 w94 (S101_544 x3 ih h92 x0 x87 x91 r93 w94 r90 r88 x5 x9 x80 x79 x13)))
noncomputable def S101_546 (h75 : Hp) (r76 : List Ref) (w77 : List Ref) (r71 : List Ref) (w72 : List Ref) (r68 : List Ref) (r65 : List Ref) (w66 : List Ref) (x78 : IV) (x5 : IV) (x9 : IV) (ih : Handler) (x3 : IV) (x0 : IV) (x79 : IV) (x13 : IV) : Option (IV × Hp) :=
  newS 105908234 (.row [.fv (.int .i64 0), .fv (.int .i64 0), .nils] false) (.ptr (.own 105908234) 0) h75 fun x80 h81 r82 w83 => chkS [(r76, w77), (r71, w72), (r68, []), (r65, w66)] r82 w83 (storeA 3 x80 x78 h81 fun h84 r85 w86 => chkS [] r85 w86 (loadA 3 x5 h84 fun x87 r88 => S101_545 r88 h84 x9 ih x3 x0 x87 x5 x80 x79 x13))
noncomputable def S101_547 (x3 : IV) (ih : Handler) (h70 : Hp) (x0 : IV) (x63 : IV) (x69 : IV) (r71 : List Ref) (w72 : List Ref) (r68 : List Ref) (r65 : List Ref) (w66 : List Ref) (x5 : IV) (x9 : IV) (x13 : IV) : Option (IV × Hp) :=
  subS EE 3 x3 (.fv (.int .i64 2)) fun x73 => isoS [] false false ih 70 [x0, x63, x69, x73] h70 fun x74 h75 r76 w77 => chkS [] r76 w77 (extS 0 x74 fun x78 => extS 1 x74 fun x79 => S101_546 h75 r76 w77 r71 w72 r68 r65 w66 x78 x5 x9 ih x3 x0 x79 x13)
noncomputable def S101_548 (r65 : List Ref) (w66 : List Ref) (h64 : Hp) (x9 : IV) (ih : Handler) (x3 : IV) (x0 : IV) (x63 : IV) (x5 : IV) (x13 : IV) : Option (IV × Hp) :=
  chkS [] r65 w66 (loadA 3 x9 h64 fun x67 r68 => chkS [(r65, w66)] r68 [] (isoS [] false false ih 42 [x67, .fv (.int .i64 0)] h64 fun x69 h70 r71 w72 => chkS [] r71 w72 (S101_547 x3 ih h70 x0 x63 x69 r71 w72 r68 r65 w66 x5 x9 x13)))
noncomputable def S101_549 (ih : Handler) (h244 : Hp) (x243 : IV) (x13 : IV) (x233 : IV) : Option (IV × Hp) :=
  isoS [] false false ih 30 [.fv (.int .i64 12), x243] h244 fun x247 h248 _ _ => storeA 3 x13 x247 h248 fun h251 _ _ => cellS true 3 x13 h251 fun x254 => outS1 [x254, x233] h251
noncomputable def S101_550 (r236 : List Ref) (w237 : List Ref) (r230 : List Ref) (w231 : List Ref) (r225 : List Ref) (w226 : List Ref) (r222 : List Ref) (r220 : List Ref) (h235 : Hp) (x234 : IV) (x232 : IV) (ih : Handler) (x13 : IV) (x233 : IV) : Option (IV × Hp) :=
  chkS [(r230, w231), (r225, w226), (r222, []), (r220, [])] r236 w237 (storeA 3 x234 x232 h235 fun h238 r239 w240 => chkS [] r239 w240 (loadA 3 x234 h238 fun x241 _ => genS (pcBuildSlice EE 28 1 [(0, x241)]) 105916417 h238 fun x243 h244 _ _ => S101_549 ih h244 x243 x13 x233))
noncomputable def S101_551 (ih : Handler) (h224 : Hp) (x0 : IV) (x219 : IV) (x223 : IV) (x227 : IV) (r225 : List Ref) (w226 : List Ref) (r222 : List Ref) (r220 : List Ref) (x13 : IV) : Option (IV × Hp) :=
  isoS [] false false ih 70 [x0, x219, x223, x227] h224 fun x228 h229 r230 w231 => chkS [] r230 w231 (extS 0 x228 fun x232 => extS 1 x228 fun x233 => newS 105915402 (.row [.fv (.int .i64 0), .fv (.int .i64 0), .nils] false) (.ptr (.own 105915402) 0) h229 fun x234 h235 r236 w237 => S101_550 r236 w237 r230 w231 r225 w226 r222 r220 h235 x234 x232 ih x13 x233)
noncomputable def S101_552 (h215 : Hp) (x9 : IV) (r220 : List Ref) (ih : Handler) (x3 : IV) (x0 : IV) (x219 : IV) (x13 : IV) : Option (IV × Hp) :=
  loadA 3 x9 h215 fun x221 r222 => chkS [(r220, [])] r222 [] (isoS [] false false ih 42 [x221, .fv (.int .i64 0)] h215 fun x223 h224 r225 w226 => chkS [(r220, [])] r225 w226 (subS EE 3 x3 (.fv (.int .i64 1)) fun x227 => S101_551 ih h224 x0 x219 x223 x227 r225 w226 r222 r220 x13))
noncomputable def S101_553 (ih : Handler) (h215 : Hp) (x256 : IV) (x13 : IV) : Option (IV × Hp) :=
  isoS [] false false ih 41 [x256, .fv (.int .i64 4)] h215 fun x258 h259 _ _ => isoS [] false false ih 115 [x258] h259 fun x262 h263 _ _ => storeA 3 x13 x262 h263 fun h266 _ _ => cellS true 3 x13 h266 fun x269 => outS1 [x269, .fv (.bool true)] h266
noncomputable def S101_554 (x218 : IV) (h215 : Hp) (x5 : IV) (x9 : IV) (ih : Handler) (x3 : IV) (x0 : IV) (x13 : IV) : Option (IV × Hp) :=
  condS x218 (loadA 3 x5 h215 fun x219 r220 => chkS [] r220 [] (S101_552 h215 x9 r220 ih x3 x0 x219 x13)) (faddrS 1 x9 fun x255 => load1 x255 h215 fun x256 _ => S101_553 ih h215 x256 x13)
noncomputable def S101_555 (h59 : Hp) (x193 : IV) (x9 : IV) (ih : Handler) (x5 : IV) (x3 : IV) (x0 : IV) (x13 : IV) : Option (IV × Hp) :=
  guardS x193 true h59 (fun k194 => faddrS 0 x9 fun x195 => k194 x195 h59 [] []) fun x196 h197 _ _ => guardS x193 true h197 (fun k200 => load1 x196 h197 fun x201 r202 => k200 x201 h197 r202 []) fun x203 h204 _ _ => guardS x193 true h204 (fun k207 => isoS [] false false ih 41 [x203, .fv (.int .i64 2)] h204 k207) fun x208 h209 _ _ => guardS x193 true h209 (fun k212 => eqS EE 3 x208 (.fv (.int .i64 1)) fun x213 => k212 x213 h209 [] []) fun x214 h215 _ _ => pickS x193 x214 (.fv (.bool false)) fun x218 => S101_554 x218 h215 x5 x9 ih x3 x0 x13
noncomputable def S101_556 (x311 : IV) (x362 : IV) (h363 : Hp) (x13 : IV) (x357 : IV) : Option (IV × Hp) :=
  pickS x311 x362 (.fv (.bool false)) fun x366 => storeA 3 x13 x357 h363 fun h367 r368 w369 => chkS [] r368 w369 (cellS true 3 x13 h367 fun x370 => outS1 [x370, x366] h367)
noncomputable def S101_557 (h345 : Hp) (x349 : IV) (x351 : IV) (r346 : List Ref) (w347 : List Ref) (r343 : List Ref) (ih : Handler) (x348 : IV) (x311 : IV) (x333 : IV) (x13 : IV) : Option (IV × Hp) :=
  genS (pcBuildSlice EE 28 2 [(0, x349), (1, x351)]) 105922566 h345 fun x353 h354 r355 w356 => chkS [(r346, w347), (r343, [])] r355 w356 (isoS [] false false ih 30 [x348, x353] h354 fun x357 h358 r359 w360 => chkS [] r359 w360 (guardS x311 true h358 (fun k361 => k361 x333 h358 [] []) fun x362 h363 _ _ => S101_556 x311 x362 h363 x13 x357))
noncomputable def S101_558 (x344 : IV) (h345 : Hp) (x312 : IV) (r346 : List Ref) (w347 : List Ref) (r343 : List Ref) (x334 : IV) (ih : Handler) (x311 : IV) (x333 : IV) (x13 : IV) : Option (IV × Hp) :=
  addS EE 3 (.fv (.int .i64 16)) x344 fun x348 => loadA 3 x312 h345 fun x349 r350 => chkS [(r346, w347), (r343, [])] r350 [] (loadA 3 x334 h345 fun x351 r352 => chkS [(r350, []), (r346, w347), (r343, [])] r352 [] (S101_557 h345 x349 x351 r346 w347 r343 ih x348 x311 x333 x13))
noncomputable def S101_559 (x9 : IV) (h338 : Hp) (ih : Handler) (x312 : IV) (x334 : IV) (x311 : IV) (x333 : IV) (x13 : IV) : Option (IV × Hp) :=
  faddrS 1 x9 fun x341 => load1 x341 h338 fun x342 r343 => chkS [] r343 [] (isoS [] false false ih 41 [x342, .fv (.int .i64 2)] h338 fun x344 h345 r346 w347 => chkS [] r346 w347 (S101_558 x344 h345 x312 r346 w347 r343 x334 ih x311 x333 x13))
noncomputable def S101_560 (x328 : IV) (h329 : Hp) (r330 : List Ref) (w331 : List Ref) (r325 : List Ref) (w326 : List Ref) (r322 : List Ref) (r320 : List Ref) (x332 : IV) (x9 : IV) (ih : Handler) (x312 : IV) (x311 : IV) (x13 : IV) : Option (IV × Hp) :=
  extS 1 x328 fun x333 => newS 105921546 (.row [.fv (.int .i64 0), .fv (.int .i64 0), .nils] false) (.ptr (.own 105921546) 0) h329 fun x334 h335 r336 w337 => chkS [(r330, w331), (r325, w326), (r322, []), (r320, [])] r336 w337 (storeA 3 x334 x332 h335 fun h338 r339 w340 => chkS [] r339 w340 (S101_559 x9 h338 ih x312 x334 x311 x333 x13))
noncomputable def S101_561 (r325 : List Ref) (w326 : List Ref) (r320 : List Ref) (x3 : IV) (ih : Handler) (h324 : Hp) (x0 : IV) (x319 : IV) (x323 : IV) (r322 : List Ref) (x9 : IV) (x312 : IV) (x311 : IV) (x13 : IV) : Option (IV × Hp) :=
  chkS [(r320, [])] r325 w326 (subS EE 3 x3 (.fv (.int .i64 1)) fun x327 => isoS [] false false ih 70 [x0, x319, x323, x327] h324 fun x328 h329 r330 w331 => chkS [] r330 w331 (extS 0 x328 fun x332 => S101_560 x328 h329 r330 w331 r325 w326 r322 r320 x332 x9 ih x312 x311 x13))
noncomputable def S101_562 (h316 : Hp) (x5 : IV) (x9 : IV) (ih : Handler) (x3 : IV) (x0 : IV) (x312 : IV) (x311 : IV) (x13 : IV) : Option (IV × Hp) :=
  loadA 3 x5 h316 fun x319 r320 => chkS [] r320 [] (loadA 3 x9 h316 fun x321 r322 => chkS [(r320, [])] r322 [] (isoS [] false false ih 42 [x321, .fv (.int .i64 1)] h316 fun x323 h324 r325 w326 => S101_561 r325 w326 r320 x3 ih h324 x0 x319 x323 r322 x9 x312 x311 x13))
noncomputable def S101_563 (x306 : IV) (h307 : Hp) (r308 : List Ref) (w309 : List Ref) (r303 : List Ref) (w304 : List Ref) (r300 : List Ref) (r298 : List Ref) (x310 : IV) (x5 : IV) (x9 : IV) (ih : Handler) (x3 : IV) (x0 : IV) (x13 : IV) : Option (IV × Hp) :=
  extS 1 x306 fun x311 => newS 105920522 (.row [.fv (.int .i64 0), .fv (.int .i64 0), .nils] false) (.ptr (.own 105920522) 0) h307 fun x312 h313 r314 w315 => chkS [(r308, w309), (r303, w304), (r300, []), (r298, [])] r314 w315 (storeA 3 x312 x310 h313 fun h316 r317 w318 => chkS [] r317 w318 (S101_562 h316 x5 x9 ih x3 x0 x312 x311 x13))
noncomputable def S101_564 (r303 : List Ref) (w304 : List Ref) (r298 : List Ref) (x3 : IV) (ih : Handler) (h302 : Hp) (x0 : IV) (x297 : IV) (x301 : IV) (r300 : List Ref) (x5 : IV) (x9 : IV) (x13 : IV) : Option (IV × Hp) :=
  chkS [(r298, [])] r303 w304 (subS EE 3 x3 (.fv (.int .i64 1)) fun x305 => isoS [] false false ih 70 [x0, x297, x301, x305] h302 fun x306 h307 r308 w309 => chkS [] r308 w309 (extS 0 x306 fun x310 => S101_563 x306 h307 r308 w309 r303 w304 r300 r298 x310 x5 x9 ih x3 x0 x13))
noncomputable def S101_565 (h293 : Hp) (x5 : IV) (x9 : IV) (ih : Handler) (x3 : IV) (x0 : IV) (x13 : IV) : Option (IV × Hp) :=
  loadA 3 x5 h293 fun x297 r298 => chkS [] r298 [] (loadA 3 x9 h293 fun x299 r300 => chkS [(r298, [])] r300 [] (isoS [] false false ih 42 [x299, .fv (.int .i64 0)] h293 fun x301 h302 r303 w304 => S101_564 r303 w304 r298 x3 ih h302 x0 x297 x301 r300 x5 x9 x13))
noncomputable def S101_566 (ih : Handler) (h293 : Hp) (x13 : IV) : Option (IV × Hp) :=
  isoS [] false false ih 30 [.fv (.int .i64 15), .nils] h293 fun x371 h372 _ _ => storeA 3 x13 x371 h372 fun h375 _ _ => cellS true 3 x13 h375 fun x378 => outS1 [x378, .fv (.bool true)] h375
noncomputable def S101_567 (h275 : Hp) (x271 : IV) (x274 : IV) (ih : Handler) (x5 : IV) (x9 : IV) (x3 : IV) (x0 : IV) (x13 : IV) : Option (IV × Hp) :=
  guardS x271 true h275 (fun k278 => load1 x274 h275 fun x279 r280 => k278 x279 h275 r280 []) fun x281 h282 _ _ => guardS x271 true h282 (fun k285 => isoS [] false false ih 41 [x281, .fv (.int .i64 5)] h282 k285) fun x286 h287 _ _ => guardS x271 true h287 (fun k290 => gtS EE 3 x286 (.fv (.int .i64 1)) fun x291 => k290 x291 h287 [] []) fun x292 h293 _ _ => pickS x271 x292 (.fv (.bool false)) fun x296 => condS x296 (S101_565 h293 x5 x9 ih x3 x0 x13) (S101_566 ih h293 x13)
noncomputable def S101_568 (x384 : IV) (ih : Handler) (h59 : Hp) (x13 : IV) : Option (IV × Hp) :=
  subS EE 3 x384 (.fv (.int .i64 1)) fun x386 => isoS [] false false ih 60 [x386] h59 fun x387 h388 _ _ => storeA 3 x13 x387 h388 fun h391 _ _ => cellS true 3 x13 h391 fun x394 => outS1 [x394, .fv (.bool true)] h391
noncomputable def S101_569 (h491 : Hp) (x13 : IV) (x490 : IV) : Option (IV × Hp) :=
  cellS true 3 x13 h491 fun x494 => outS1 [x494, x490] h491
noncomputable def S101_570 (r483 : List Ref) (w484 : List Ref) (h482 : Hp) (x429 : IV) (x457 : IV) (x13 : IV) (x481 : IV) : Option (IV × Hp) :=
  chkS [] r483 w484 (guardS x429 true h482 (fun k485 => k485 x457 h482 [] []) fun x486 h487 _ _ => pickS x429 x486 (.fv (.bool false)) fun x490 => storeA 3 x13 x481 h487 fun h491 r492 w493 => chkS [] r492 w493 (S101_569 h491 x13 x490))
noncomputable def S101_571 (h466 : Hp) (x458 : IV) (r474 : List Ref) (r472 : List Ref) (r467 : List Ref) (w468 : List Ref) (x473 : IV) (ih : Handler) (x471 : IV) (x429 : IV) (x457 : IV) (x13 : IV) : Option (IV × Hp) :=
  loadA 3 x458 h466 fun x475 r476 => chkS [(r474, []), (r472, []), (r467, w468)] r476 [] (genS (pcBuildSlice EE 28 2 [(0, x473), (1, x475)]) 105930759 h466 fun x477 h478 r479 w480 => chkS [(r472, []), (r467, w468)] r479 w480 (isoS [] false false ih 30 [x471, x477] h478 fun x481 h482 r483 w484 => S101_570 r483 w484 h482 x429 x457 x13 x481))
noncomputable def S101_572 (x465 : IV) (x469 : IV) (h466 : Hp) (x430 : IV) (r467 : List Ref) (w468 : List Ref) (x458 : IV) (ih : Handler) (x429 : IV) (x457 : IV) (x13 : IV) : Option (IV × Hp) :=
  ixS 1 x465 x469 fun x470 => load1 x470 h466 fun x471 r472 => chkS [] r472 [] (loadA 3 x430 h466 fun x473 r474 => chkS [(r472, []), (r467, w468)] r474 [] (S101_571 h466 x458 r474 r472 r467 w468 x473 ih x471 x429 x457 x13))
noncomputable def S101_573 (h459 : Hp) (x458 : IV) (x456 : IV) (x398 : IV) (x430 : IV) (ih : Handler) (x429 : IV) (x457 : IV) (x13 : IV) : Option (IV × Hp) :=
  storeA 3 x458 x456 h459 fun h462 r463 w464 => chkS [] r463 w464 (genS (pcBuildSlice EE 51 2 [(0, .fv (.int .i64 3)), (1, .fv (.int .i64 6))]) 105930752 h462 fun x465 h466 r467 w468 => chkS [] r467 w468 (subS EE 3 x398 (.fv (.int .i64 2)) fun x469 => S101_572 x465 x469 h466 x430 r467 w468 x458 ih x429 x457 x13))
noncomputable def S101_574 (r454 : List Ref) (w455 : List Ref) (x452 : IV) (h453 : Hp) (r449 : List Ref) (w450 : List Ref) (r446 : List Ref) (r444 : List Ref) (r441 : List Ref) (w442 : List Ref) (r438 : List Ref) (x398 : IV) (x430 : IV) (ih : Handler) (x429 : IV) (x13 : IV) : Option (IV × Hp) :=
  chkS [] r454 w455 (extS 0 x452 fun x456 => extS 1 x452 fun x457 => newS 105929740 (.row [.fv (.int .i64 0), .fv (.int .i64 0), .nils] false) (.ptr (.own 105929740) 0) h453 fun x458 h459 r460 w461 => chkS [(r454, w455), (r449, w450), (r446, []), (r444, []), (r441, w442), (r438, [])] r460 w461 (S101_573 h459 x458 x456 x398 x430 ih x429 x457 x13))
noncomputable def S101_575 (r446 : List Ref) (r444 : List Ref) (r441 : List Ref) (w442 : List Ref) (r438 : List Ref) (ih : Handler) (h440 : Hp) (x445 : IV) (x3 : IV) (x439 : IV) (x443 : IV) (x398 : IV) (x430 : IV) (x429 : IV) (x13 : IV) : Option (IV × Hp) :=
  chkS [(r444, []), (r441, w442), (r438, [])] r446 [] (isoS [] false false ih 42 [x445, .fv (.int .i64 1)] h440 fun x447 h448 r449 w450 => chkS [(r444, [])] r449 w450 (subS EE 3 x3 (.fv (.int .i64 1)) fun x451 => isoS [] false false ih 70 [x439, x443, x447, x451] h448 fun x452 h453 r454 w455 => S101_574 r454 w455 x452 h453 r449 w450 r446 r444 r441 w442 r438 x398 x430 ih x429 x13))
noncomputable def S101_576 (ih : Handler) (h434 : Hp) (x0 : IV) (x437 : IV) (x5 : IV) (r438 : List Ref) (x9 : IV) (x3 : IV) (x398 : IV) (x430 : IV) (x429 : IV) (x13 : IV) : Option (IV × Hp) :=
  isoS [] false false ih 96 [x0, .fv (.int .i64 1), x437] h434 fun x439 h440 r441 w442 => chkS [] r441 w442 (loadA 3 x5 h440 fun x443 r444 => chkS [(r441, w442), (r438, [])] r444 [] (loadA 3 x9 h440 fun x445 r446 => S101_575 r446 r444 r441 w442 r438 ih h440 x445 x3 x439 x443 x398 x430 x429 x13))
noncomputable def S101_577 (r432 : List Ref) (w433 : List Ref) (r426 : List Ref) (w427 : List Ref) (r421 : List Ref) (w422 : List Ref) (r418 : List Ref) (r416 : List Ref) (h431 : Hp) (x430 : IV) (x428 : IV) (ih : Handler) (x0 : IV) (x5 : IV) (x9 : IV) (x3 : IV) (x398 : IV) (x429 : IV) (x13 : IV) : Option (IV × Hp) :=
  chkS [(r426, w427), (r421, w422), (r418, []), (r416, [])] r432 w433 (storeA 3 x430 x428 h431 fun h434 r435 w436 => chkS [] r435 w436 (loadA 3 x430 h434 fun x437 r438 => chkS [] r438 [] (S101_576 ih h434 x0 x437 x5 r438 x9 x3 x398 x430 x429 x13)))
noncomputable def S101_578 (ih : Handler) (h420 : Hp) (x0 : IV) (x415 : IV) (x419 : IV) (x423 : IV) (r421 : List Ref) (w422 : List Ref) (r418 : List Ref) (r416 : List Ref) (x5 : IV) (x9 : IV) (x3 : IV) (x398 : IV) (x13 : IV) : Option (IV × Hp) :=
  isoS [] false false ih 70 [x0, x415, x419, x423] h420 fun x424 h425 r426 w427 => chkS [] r426 w427 (extS 0 x424 fun x428 => extS 1 x424 fun x429 => newS 105928714 (.row [.fv (.int .i64 0), .fv (.int .i64 0), .nils] false) (.ptr (.own 105928714) 0) h425 fun x430 h431 r432 w433 => S101_577 r432 w433 r426 w427 r421 w422 r418 r416 h431 x430 x428 ih x0 x5 x9 x3 x398 x429 x13)
noncomputable def S101_579 (h411 : Hp) (x9 : IV) (r416 : List Ref) (ih : Handler) (x3 : IV) (x0 : IV) (x415 : IV) (x5 : IV) (x398 : IV) (x13 : IV) : Option (IV × Hp) :=
  loadA 3 x9 h411 fun x417 r418 => chkS [(r416, [])] r418 [] (isoS [] false false ih 42 [x417, .fv (.int .i64 0)] h411 fun x419 h420 r421 w422 => chkS [(r416, [])] r421 w422 (subS EE 3 x3 (.fv (.int .i64 1)) fun x423 => S101_578 ih h420 x0 x415 x419 x423 r421 w422 r418 r416 x5 x9 x3 x398 x13))
noncomputable def S101_580 (h529 : Hp) (x13 : IV) : Option (IV × Hp) :=
  cellS true 3 x13 h529 fun x532 => outS1 [x532, .fv (.bool true)] h529
noncomputable def S101_581 (x515 : IV) (x522 : IV) (h523 : Hp) (x13 : IV) : Option (IV × Hp) :=
  ixS 3 x515 x522 fun x526 => loadA 3 x526 h523 fun x527 r528 => chkS [] r528 [] (storeA 3 x13 x527 h523 fun h529 r530 w531 => chkS [] r530 w531 (S101_580 h529 x13))
noncomputable def S101_582 (x9 : IV) (h516 : Hp) (r517 : List Ref) (w518 : List Ref) (r513 : List Ref) (w514 : List Ref) (r509 : List Ref) (w510 : List Ref) (r505 : List Ref) (w506 : List Ref) (r501 : List Ref) (w502 : List Ref) (r497 : List Ref) (w498 : List Ref) (ih : Handler) (x515 : IV) (x13 : IV) : Option (IV × Hp) :=
  faddrS 1 x9 fun x519 => load1 x519 h516 fun x520 r521 => chkS [(r517, w518), (r513, w514), (r509, w510), (r505, w506), (r501, w502), (r497, w498)] r521 [] (isoS [] false false ih 41 [x520, .fv (.int .i64 3)] h516 fun x522 h523 r524 w525 => chkS [(r517, w518)] r524 w525 (S101_581 x515 x522 h523 x13))
noncomputable def S101_583 (r509 : List Ref) (w510 : List Ref) (ih : Handler) (h508 : Hp) (x507 : IV) (x495 : IV) (x499 : IV) (x9 : IV) (r505 : List Ref) (w506 : List Ref) (r501 : List Ref) (w502 : List Ref) (r497 : List Ref) (w498 : List Ref) (x13 : IV) : Option (IV × Hp) :=
  chkS [] r509 w510 (isoS [] false false ih 30 [.fv (.int .i64 18), x507] h508 fun x511 h512 r513 w514 => chkS [] r513 w514 (genS (pcBuildSlice EE 28 3 [(0, x495), (1, x499), (2, x511)]) 105931781 h512 fun x515 h516 r517 w518 => chkS [] r517 w518 (S101_582 x9 h516 r517 w518 r513 w514 r509 w510 r505 w506 r501 w502 r497 w498 ih x515 x13)))
noncomputable def S101_584 (ih : Handler) (h496 : Hp) (x495 : IV) (x9 : IV) (r497 : List Ref) (w498 : List Ref) (x13 : IV) : Option (IV × Hp) :=
  isoS [] false false ih 30 [.fv (.int .i64 14), .nils] h496 fun x499 h500 r501 w502 => chkS [] r501 w502 (isoS [] false false ih 30 [.fv (.int .i64 15), .nils] h500 fun x503 h504 r505 w506 => chkS [] r505 w506 (genS (pcBuildSlice EE 28 1 [(0, x503)]) 105931779 h504 fun x507 h508 r509 w510 => S101_583 r509 w510 ih h508 x507 x495 x499 x9 r505 w506 r501 w502 r497 w498 x13))
noncomputable def S101_585 (x414 : IV) (h411 : Hp) (x5 : IV) (x9 : IV) (ih : Handler) (x3 : IV) (x0 : IV) (x398 : IV) (x13 : IV) : Option (IV × Hp) :=
  condS x414 (loadA 3 x5 h411 fun x415 r416 => chkS [] r416 [] (S101_579 h411 x9 r416 ih x3 x0 x415 x5 x398 x13)) (isoS [] false false ih 99 [] h411 fun x495 h496 r497 w498 => chkS [] r497 w498 (S101_584 ih h496 x495 x9 r497 w498 x13))
noncomputable def S101_586 (ih : Handler) (h59 : Hp) (x396 : IV) (x3 : IV) (x5 : IV) (x9 : IV) (x0 : IV) (x13 : IV) : Option (IV × Hp) :=
  isoS [] false false ih 41 [x396, .fv (.int .i64 4)] h59 fun x398 h399 _ _ => gtS EE 3 x3 (.fv (.int .i64 0)) fun x402 => guardS x402 true h399 (fun k403 => k403 x398 h399 [] []) fun x404 h405 _ _ => guardS x402 true h405 (fun k408 => gtS EE 3 x404 (.fv (.int .i64 1)) fun x409 => k408 x409 h405 [] []) fun x410 h411 _ _ => pickS x402 x410 (.fv (.bool false)) fun x414 => S101_585 x414 h411 x5 x9 ih x3 x0 x398 x13
noncomputable def S101_587 (x380 : IV) (x5 : IV) (h59 : Hp) (ih : Handler) (x13 : IV) (x9 : IV) (x3 : IV) (x0 : IV) : Option (IV × Hp) :=
  gtS EE 3 x380 (.fv (.int .i64 0)) fun x382 => condS x382 (faddrS 1 x5 fun x383 => load1 x383 h59 fun x384 _ => S101_568 x384 ih h59 x13) (faddrS 0 x9 fun x395 => load1 x395 h59 fun x396 _ => S101_586 ih h59 x396 x3 x5 x9 x0 x13)
noncomputable def S101_588 (x270 : IV) (x3 : IV) (h59 : Hp) (x9 : IV) (ih : Handler) (x5 : IV) (x0 : IV) (x13 : IV) : Option (IV × Hp) :=
  condS x270 (gtS EE 3 x3 (.fv (.int .i64 0)) fun x271 => guardS x271 true h59 (fun k272 => faddrS 0 x9 fun x273 => k272 x273 h59 [] []) fun x274 h275 _ _ => S101_567 h275 x271 x274 ih x5 x9 x3 x0 x13) (faddrS 1 x5 fun x379 => load1 x379 h59 fun x380 _ => S101_587 x380 x5 h59 ih x13 x9 x3 x0)
noncomputable def S101_589 (h59 : Hp) (x189 : IV) (x3 : IV) (x9 : IV) (ih : Handler) (x5 : IV) (x0 : IV) (x13 : IV) : Option (IV × Hp) :=
  load1 x189 h59 fun x190 _ => eqS EE 3 x190 (.fv (.int .i64 10)) fun x192 => condS x192 (gtS EE 3 x3 (.fv (.int .i64 0)) fun x193 => S101_555 h59 x193 x9 ih x5 x3 x0 x13) (eqS EE 3 x190 (.fv (.int .i64 14)) fun x270 => S101_588 x270 x3 h59 x9 ih x5 x0 x13)
noncomputable def S101_590 (h53 : Hp) (x42 : IV) (x52 : IV) (ih : Handler) (x9 : IV) (x3 : IV) (x0 : IV) (x5 : IV) (x13 : IV) : Option (IV × Hp) :=
  guardS x42 true h53 (fun k56 => neS EE 3 x52 (.fv (.int .i64 2)) fun x57 => k56 x57 h53 [] []) fun x58 h59 _ _ => pickS x42 x58 (.fv (.bool false)) fun x62 => condS x62 (isoS [] false false ih 99 [] h59 fun x63 h64 r65 w66 => S101_548 r65 w66 h64 x9 ih x3 x0 x63 x5 x13) (faddrS 0 x5 fun x189 => S101_589 h59 x189 x3 x9 ih x5 x0 x13)
noncomputable def S101_591 (h28 : Hp) (x17 : IV) (ih : Handler) (x27 : IV) (x5 : IV) (x9 : IV) (x3 : IV) (x0 : IV) (x13 : IV) : Option (IV × Hp) :=
  guardS x17 true h28 (fun k31 => isoS [] false false ih 41 [x27, .fv (.int .i64 5)] h28 k31) fun x32 h33 _ _ => guardS x17 true h33 (fun k36 => eqS EE 3 x32 (.fv (.int .i64 4)) fun x37 => k36 x37 h33 [] []) fun x38 h39 _ _ => pickS x17 x38 (.fv (.bool false)) fun x42 => guardS x42 true h39 (fun k43 => faddrS 0 x5 fun x44 => k43 x44 h39 [] []) fun x45 h46 _ _ => guardS x42 true h46 (fun k49 => load1 x45 h46 fun x50 r51 => k49 x50 h46 r51 []) fun x52 h53 _ _ => S101_590 h53 x42 x52 ih x9 x3 x0 x5 x13
noncomputable def S101 (ih : Handler) (n : Nat) (x0 : IV) (x1 : IV) (x2 : IV) (x3 : IV) (h4 : Hp) : Option (IV × Hp) :=
  boxS 105906176 x1 h4 fun x5 h6 _ _ => boxS 105906177 x2 h6 fun x9 h10 _ _ => newS 105906178 (.row [.fv (.int .i64 0), .fv (.int .i64 0), .nils] false) (.ptr (.own 105906178) 0) h10 fun x13 h14 _ _ => gtS EE 3 x3 (.fv (.int .i64 0)) fun x17 => guardS x17 true h14 (fun k18 => faddrS 0 x9 fun x19 => k18 x19 h14 [] []) fun x20 h21 _ _ => guardS x17 true h21 (fun k24 => load1 x20 h21 fun x25 r26 => k24 x25 h21 r26 []) fun x27 h28 _ _ => S101_591 h28 x17 ih x27 x5 x9 x3 x0 x13
theorem S101_ok (ih : Handler) (n : Nat) (x0 : IV) (x1 : IV) (x2 : IV) (x3 : IV) (h4 : Hp) : funS EE ih ft.get n 101 [x0, x1, x2, x3] h4 = S101 ih n x0 x1 x2 x3 h4 := by kernel_rfl
noncomputable def S102_29 (x13 : IV) (x21 : IV) (h22 : Hp) (x6 : IV) (x0 : IV) : Option (IV × Hp) :=
  pickS x13 (.fv (.bool true)) x21 fun x25 => condS x25 (outS1 [.fv (.int .i64 (-1))] h22) (ixA 31 1 x6 x0 fun x26 => load1 x26 h22 fun x27 _ => outS1 [x27] h22)
noncomputable def S102 (ih : Handler) (n : Nat) (x0 : IV) (h1 : Hp) : Option (IV × Hp) :=
  genS (pcBuild EE 136 [(0, .fv (.int .i64 (-1))), (1, .fv (.int .i64 0)), (2, .fv (.int .i64 0)), (3, .fv (.int .i64 2)), (4, .fv (.int .i64 2)), (5, .fv (.int .i64 2)), (6, .fv (.int .i64 2)), (7, .fv (.int .i64 3)), (8, .fv (.int .i64 1)), (9, .fv (.int .i64 1)), (10, .fv (.int .i64 0)), (11, .fv (.int .i64 0)), (12, .fv (.int .i64 1)), (13, .fv (.int .i64 4)), (14, .fv (.int .i64 0)), (15, .fv (.int .i64 0)), (16, .fv (.int .i64 2)), (17, .fv (.int .i64 2)), (18, .fv (.int .i64 1)), (19, .fv (.int .i64 1)), (20, .fv (.int .i64 2)), (21, .fv (.int .i64 2)), (22, .fv (.int .i64 2)), (23, .fv (.int .i64 1)), (24, .fv (.int .i64 1)), (25, .fv (.int .i64 0)), (26, .fv (.int .i64 2)), (27, .fv (.int .i64 3)), (28, .fv (.int .i64 2)), (29, .fv (.int .i64 2)), (30, .fv (.int .i64 1))]) 106955776 h1 fun x2 h3 _ _ => newS 106955777 (.row [.fv (.int .i64 0), .fv (.int .i64 0), .fv (.int .i64 0), .fv (.int .i64 0), .fv (.int .i64 0), .fv (.int .i64 0), .fv (.int .i64 0), .fv (.int .i64 0), .fv (.int .i64 0), .fv (.int .i64 0), .fv (.int .i64 0), .fv (.int .i64 0), .fv (.int .i64 0), .fv (.int .i64 0), .fv (.int .i64 0), .fv (.int .i64 0), .fv (.int .i64 0), .fv (.int .i64 0), .fv (.int .i64 0), .fv (.int .i64 0), .fv (.int .i64 0), .fv (.int .i64 0), .fv (.int .i64 0), .fv (.int .i64 0), .fv (.int .i64 0), .fv (.int .i64 0), .fv (.int .i64 0), .fv (.int .i64 0), .fv (.int .i64 0), .fv (.int .i64 0), .fv (.int .i64 0)] false) (.ptr (.own 106955777) 0) h3 fun x6 h7 _ _ => storeA 31 x6 x2 h7 fun h10 _ _ => ltS EE 123 x0 (.fv (.int .i64 0)) fun x13 => guardS x13 false h10 (fun k14 => k14 x0 h10 [] []) fun x15 h16 _ _ => guardS x13 false h16 (fun k19 => geS EE 3 x15 (.fv (.int .i64 31)) fun x20 => k19 x20 h16 [] []) fun x21 h22 _ _ => S102_29 x13 x21 h22 x6 x0
theorem S102_ok (ih : Handler) (n : Nat) (x0 : IV) (h1 : Hp) : funS EE ih ft.get n 102 [x0] h1 = S102 ih n x0 h1 := by kernel_rfl
noncomputable def S103_47 (h7 : Hp) (x4 : IV) (x6 : IV) : Option (IV × Hp) :=
  guardS x4 true h7 (fun k10 => leS EE 3 x6 (.fv (.int .i64 3000)) fun x11 => k10 x11 h7 [] []) fun x12 h13 _ _ => pickS x4 x12 (.fv (.bool false)) fun x16 => outS1 [x16] h13
noncomputable def S103_48 (x1 : IV) (h2 : Hp) : Option (IV × Hp) :=
  geS EE 3 x1 (.fv (.int .i64 0)) fun x18 => guardS x18 true h2 (fun k19 => k19 x1 h2 [] []) fun x20 h21 _ _ => guardS x18 true h21 (fun k24 => leS EE 3 x20 (.fv (.int .i64 2)) fun x25 => k24 x25 h21 [] []) fun x26 h27 _ _ => pickS x18 x26 (.fv (.bool false)) fun x30 => outS1 [x30] h27
noncomputable def S103_49 (h35 : Hp) (x32 : IV) (x34 : IV) : Option (IV × Hp) :=
  guardS x32 true h35 (fun k38 => leS EE 3 x34 (.fv (.int .i64 4)) fun x39 => k38 x39 h35 [] []) fun x40 h41 _ _ => pickS x32 x40 (.fv (.bool false)) fun x44 => outS1 [x44] h41
noncomputable def S103_50 (x1 : IV) (h2 : Hp) : Option (IV × Hp) :=
  eqS EE 3 x1 (.fv (.int .i64 0)) fun x46 => outS1 [x46] h2
noncomputable def S103_51 (x0 : IV) (x1 : IV) (h2 : Hp) : Option (IV × Hp) :=
  eqS EE 3 x0 (.fv (.int .i64 26)) fun x31 => condS x31 (geS EE 3 x1 (.fv (.int .i64 0)) fun x32 => guardS x32 true h2 (fun k33 => k33 x1 h2 [] []) fun x34 h35 _ _ => S103_49 h35 x32 x34) (eqS EE 3 x0 (.fv (.int .i64 25)) fun x45 => condS x45 (outS1 [.fv (.bool true)] h2) (S103_50 x1 h2))
noncomputable def S103 (ih : Handler) (n : Nat) (x0 : IV) (x1 : IV) (h2 : Hp) : Option (IV × Hp) :=
  eqS EE 3 x0 (.fv (.int .i64 1)) fun x3 => condS x3 (geS EE 3 x1 (.fv (.int .i64 0)) fun x4 => guardS x4 true h2 (fun k5 => k5 x1 h2 [] []) fun x6 h7 _ _ => S103_47 h7 x4 x6) (eqS EE 3 x0 (.fv (.int .i64 2)) fun x17 => condS x17 (S103_48 x1 h2) (S103_51 x0 x1 h2))
theorem S103_ok (ih : Handler) (n : Nat) (x0 : IV) (x1 : IV) (h2 : Hp) : funS EE ih ft.get n 103 [x0, x1] h2 = S103 ih n x0 x1 h2 := by kernel_rfl
noncomputable def S104_83 (h67 : Hp) (x50 : IV) (x66 : IV) (ih : Handler) (x60 : IV) : Option (IV × Hp) :=
  guardS x50 true h67 (fun k70 => load1 x66 h67 fun x71 r72 => k70 x71 h67 r72 []) fun x73 h74 _ _ => guardS x50 true h74 (fun k77 => isoS [] false false ih 116 [x60, x73, .fv (.func (.func 104) [] [])] h74 k77) fun x78 h79 _ _ => pickS x50 x78 (.fv (.bool false)) fun x82 => outS1 [x82] h79
noncomputable def S104_84 (h41 : Hp) (x17 : IV) (x27 : IV) (x40 : IV) (x3 : IV) (x7 : IV) (ih : Handler) : Option (IV × Hp) :=
  guardS x17 true h41 (fun k44 => eqS EE 3 x27 x40 fun x45 => k44 x45 h41 [] []) fun x46 h47 _ _ => pickS x17 x46 (.fv (.bool false)) fun x50 => guardS x50 true h47 (fun k51 => faddrS 2 x3 fun x52 => k51 x52 h47 [] []) fun x53 h54 _ _ => guardS x50 true h54 (fun k57 => load1 x53 h54 fun x58 r59 => k57 x58 h54 r59 []) fun x60 h61 _ _ => guardS x50 true h61 (fun k64 => faddrS 2 x7 fun x65 => k64 x65 h61 [] []) fun x66 h67 _ _ => S104_83 h67 x50 x66 ih x60
noncomputable def S104_85 (x12 : IV) (x15 : IV) (h8 : Hp) (x3 : IV) (x7 : IV) (ih : Handler) : Option (IV × Hp) :=
  eqS EE 3 x12 x15 fun x17 => guardS x17 true h8 (fun k18 => faddrS 1 x3 fun x19 => k18 x19 h8 [] []) fun x20 h21 _ _ => guardS x17 true h21 (fun k24 => load1 x20 h21 fun x25 r26 => k24 x25 h21 r26 []) fun x27 h28 _ _ => guardS x17 true h28 (fun k31 => faddrS 1 x7 fun x32 => k31 x32 h28 [] []) fun x33 h34 _ _ => guardS x17 true h34 (fun k37 => load1 x33 h34 fun x38 r39 => k37 x38 h34 r39 []) fun x40 h41 _ _ => S104_84 h41 x17 x27 x40 x3 x7 ih
noncomputable def S104 (ih : Handler) (n : Nat) (x0 : IV) (x1 : IV) (h2 : Hp) : Option (IV × Hp) :=
  boxS 109051904 x0 h2 fun x3 h4 _ _ => boxS 109051905 x1 h4 fun x7 h8 _ _ => faddrS 0 x3 fun x11 => load1 x11 h8 fun x12 _ => faddrS 0 x7 fun x14 => load1 x14 h8 fun x15 _ => S104_85 x12 x15 h8 x3 x7 ih
theorem S104_ok (ih : Handler) (n : Nat) (x0 : IV) (x1 : IV) (h2 : Hp) : funS EE ih ft.get n 104 [x0, x1] h2 = S104 ih n x0 x1 h2 := by kernel_rfl
noncomputable def S105_27 (h13 : Hp) (x3 : IV) (x7 : IV) (x12 : IV) : Option (IV × Hp) :=
  loadA 3 x3 h13 fun x14 _ => storeA 3 x7 x14 h13 fun h16 _ _ => cellS true 3 x7 h16 fun x19 => outS1 [x19, x12] h16
noncomputable def S105_28 (ih : Handler) (h8 : Hp) (x21 : IV) (j1_11 : IV → Hp → Option (IV × Hp)) : Option (IV × Hp) :=
  isoS [] false false ih 49 [x21] h8 fun x23 h24 _ _ => j1_11 x23 h24
noncomputable def S105 (ih : Handler) (n : Nat) (x0 : IV) (x1 : IV) (h2 : Hp) : Option (IV × Hp) :=
  boxS 110100480 x0 h2 fun x3 h4 _ _ => newS 110100481 (.row [.fv (.int .i64 0), .fv (.int .i64 0), .nils] false) (.ptr (.own 110100481) 0) h4 fun x7 h8 _ _ => (fun (j1_11 : IV → Hp → Option (IV × Hp)) => eqS EE 35 x1 (.fv (.int .i64 0)) fun x20 => condS x20 (loadA 3 x3 h8 fun x21 _ => S105_28 ih h8 x21 j1_11) (j1_11 x1 h8)) fun x12 h13 => S105_27 h13 x3 x7 x12
theorem S105_ok (ih : Handler) (n : Nat) (x0 : IV) (x1 : IV) (h2 : Hp) : funS EE ih ft.get n 105 [x0, x1] h2 = S105 ih n x0 x1 h2 := by kernel_rfl
noncomputable def S106 (ih : Handler) (n : Nat) (x0 : IV) (h1 : Hp) : Option (IV × Hp) :=
  lenS x0 fun x2 => lenS x0 fun x3 => genS (sliceR EE 78 x0 none (some x2) (some x3)) 111150085 h1 fun x4 h5 _ _ => outS1 [x4] h5
theorem S106_ok (ih : Handler) (n : Nat) (x0 : IV) (h1 : Hp) : funS EE ih ft.get n 106 [x0] h1 = S106 ih n x0 h1 := by kernel_rfl
noncomputable def S107 (ih : Handler) (n : Nat) (x0 : IV) (h1 : Hp) : Option (IV × Hp) :=
  eqS EE 78 x0 .nils fun x2 => condS x2 (outS1 [.nils] h1) (genS (pcBuildSlice EE 78 0 []) 112200704 h1 fun x3 h4 _ _ => genS (builtinR EE 112200706 false .append [78, 78] [x3, x0]) 112200706 h4 fun x7 h8 _ _ => outS1 [x7] h8)
theorem S107_ok (ih : Handler) (n : Nat) (x0 : IV) (h1 : Hp) : funS EE ih ft.get n 107 [x0] h1 = S107 ih n x0 h1 := by kernel_rfl
noncomputable def S108_76 (h37 : Hp) (x12 : IV) (x40 : IV) (x23 : IV) : Option (IV × Hp) :=
  cellS true 3 x12 h37 fun x41 => outS1 [x40, x41, x23] h37
noncomputable def S108_77 (h28 : Hp) (x8 : IV) (x12 : IV) (x23 : IV) : Option (IV × Hp) :=
  bldS [.fv (.int .i64 0), .fv (.int .i64 0), .nils] [] fun x32 => bldS [.fv (.int .i64 0), .fv (.int .i64 0), .nils] [] fun x33 => storeA 3 x8 x32 h28 fun h34 _ _ => storeA 3 x12 x33 h34 fun h37 _ _ => cellS true 3 x8 h37 fun x40 => S108_76 h37 x12 x40 x23
noncomputable def S108_78 (h28 : Hp) (x8 : IV) (x46 : IV) (x12 : IV) : Option (IV × Hp) :=
  bldS [.fv (.int .i64 0), .fv (.int .i64 0), .nils] [] fun x47 => storeA 3 x8 x46 h28 fun h48 _ _ => storeA 3 x12 x47 h48 fun h51 _ _ => cellS true 3 x8 h51 fun x54 => cellS true 3 x12 h51 fun x55 => outS1 [x54, x55, .fv (.int .i64 12)] h51
noncomputable def S108_79 (h71 : Hp) (x8 : IV) (x12 : IV) : Option (IV × Hp) :=
  cellS true 3 x8 h71 fun x74 => cellS true 3 x12 h71 fun x75 => outS1 [x74, x75, .fv (.int .i64 0)] h71
noncomputable def S108_80 (r67 : List Ref) (r61 : List Ref) (r58 : List Ref) (h28 : Hp) (x8 : IV) (x60 : IV) (r64 : List Ref) (x12 : IV) (x66 : IV) : Option (IV × Hp) :=
  chkS [(r61, []), (r58, [])] r67 [] (storeA 3 x8 x60 h28 fun h68 r69 w70 => chkS [(r67, []), (r64, [])] r69 w70 (storeA 3 x12 x66 h68 fun h71 r72 w73 => chkS [] r72 w73 (S108_79 h71 x8 x12)))
noncomputable def S108_81 (x24 : IV) (h28 : Hp) (r61 : List Ref) (r58 : List Ref) (x8 : IV) (x60 : IV) (x12 : IV) : Option (IV × Hp) :=
  faddrS 2 x24 fun x62 => load1 x62 h28 fun x63 r64 => chkS [(r61, []), (r58, [])] r64 [] (ixS 3 x63 (.fv (.int .i64 1)) fun x65 => loadA 3 x65 h28 fun x66 r67 => S108_80 r67 r61 r58 h28 x8 x60 r64 x12 x66)
noncomputable def S108_82 (h28 : Hp) (x56 : IV) (x24 : IV) (x8 : IV) (x12 : IV) : Option (IV × Hp) :=
  load1 x56 h28 fun x57 r58 => chkS [] r58 [] (ixS 3 x57 (.fv (.int .i64 0)) fun x59 => loadA 3 x59 h28 fun x60 r61 => chkS [] r61 [] (S108_81 x24 h28 r61 r58 x8 x60 x12))
noncomputable def S108_83 (x24 : IV) (h28 : Hp) (x2 : IV) (x8 : IV) (x12 : IV) : Option (IV × Hp) :=
  faddrS 0 x24 fun x42 => load1 x42 h28 fun x43 _ => neS EE 3 x43 x2 fun x45 => condS x45 (bldS [.fv (.int .i64 0), .fv (.int .i64 0), .nils] [] fun x46 => S108_78 h28 x8 x46 x12) (faddrS 2 x24 fun x56 => S108_82 h28 x56 x24 x8 x12)
noncomputable def S108_84 (x18 : IV) (h19 : Hp) (x22 : IV) (x8 : IV) (x12 : IV) (x2 : IV) : Option (IV × Hp) :=
  extS 1 x18 fun x23 => newS 113247238 (.row [.fv (.int .i64 0), .fv (.int .i64 0), .nils] false) (.ptr (.own 113247238) 0) h19 fun x24 h25 _ _ => storeA 3 x24 x22 h25 fun h28 _ _ => neS EE 35 x23 (.fv (.int .i64 0)) fun x31 => condS x31 (S108_77 h28 x8 x12 x23) (S108_83 x24 h28 x2 x8 x12)
noncomputable def S108 (ih : Handler) (n : Nat) (x0 : IV) (x1 : IV) (x2 : IV) (h3 : Hp) : Option (IV × Hp) :=
  boxS 113246208 x1 h3 fun x4 h5 _ _ => newS 113246209 (.row [.fv (.int .i64 0), .fv (.int .i64 0), .nils] false) (.ptr (.own 113246209) 0) h5 fun x8 h9 _ _ => newS 113246210 (.row [.fv (.int .i64 0), .fv (.int .i64 0), .nils] false) (.ptr (.own 113246210) 0) h9 fun x12 h13 _ _ => loadA 3 x4 h13 fun x16 _ => isoS [] false false ih 53 [x0, x16] h13 fun x18 h19 _ _ => extS 0 x18 fun x22 => S108_84 x18 h19 x22 x8 x12 x2
theorem S108_ok (ih : Handler) (n : Nat) (x0 : IV) (x1 : IV) (x2 : IV) (h3 : Hp) : funS EE ih ft.get n 108 [x0, x1, x2] h3 = S108 ih n x0 x1 x2 h3 := by kernel_rfl
noncomputable def S109 (ih : Handler) (n : Nat) (x0 : IV) (x1 : IV) (h2 : Hp) : Option (IV × Hp) :=
  genS (pcBuildSlice EE 129 0 []) 114295808 h2 fun x3 h4 _ _ => genS (builtinR EE 114295810 false .append [129, 129] [x3, x0]) 114295810 h4 fun x7 h8 _ _ => genS (builtinR EE 114295812 false .append [129, 129] [x7, x1]) 114295812 h8 fun x11 h12 _ _ => outS1 [x11] h12
theorem S109_ok (ih : Handler) (n : Nat) (x0 : IV) (x1 : IV) (h2 : Hp) : funS EE ih ft.get n 109 [x0, x1] h2 = S109 ih n x0 x1 h2 := by kernel_rfl
noncomputable def S110_629 (r121 : List Ref) (w122 : List Ref) (h120 : Hp) (x119 : IV) : Option (IV × Hp) :=
  chkS [] r121 w122 (outS1 [x119] h120)
noncomputable def S110_630 (h79 : Hp) (x109 : IV) (r103 : List Ref) (r99 : List Ref) (ih : Handler) (x102 : IV) (x0 : IV) (x98 : IV) : Option (IV × Hp) :=
  genS (pcBuildSlice EE 129 1 [(0, x109)]) 115349519 h79 fun x111 h112 r113 w114 => chkS [(r103, []), (r99, [])] r113 w114 (isoS [] false false ih 109 [x102, x111] h112 fun x115 h116 r117 w118 => chkS [(r99, [])] r117 w118 (isoS [true, false, false] false false ih 82 [x0, x98, x115] h116 fun x119 h120 r121 w122 => S110_629 r121 w122 h120 x119))
noncomputable def S110_631 (h79 : Hp) (x105 : IV) (r103 : List Ref) (r99 : List Ref) (ih : Handler) (x102 : IV) (x0 : IV) (x98 : IV) : Option (IV × Hp) :=
  load1 x105 h79 fun x106 r107 => chkS [(r103, []), (r99, [])] r107 [] (ixS 1 x106 (.fv (.int .i64 1)) fun x108 => load1 x108 h79 fun x109 r110 => chkS [(r103, []), (r99, [])] r110 [] (S110_630 h79 x109 r103 r99 ih x102 x0 x98))
noncomputable def S110_632 (x100 : IV) (h79 : Hp) (r99 : List Ref) (x1 : IV) (ih : Handler) (x0 : IV) (x98 : IV) : Option (IV × Hp) :=
  faddrS 3 x100 fun x101 => load1 x101 h79 fun x102 r103 => chkS [(r99, [])] r103 [] (nilS x1 fun x104 => faddrS 2 x104 fun x105 => S110_631 h79 x105 r103 r99 ih x102 x0 x98)
noncomputable def S110_633 (x94 : IV) (h79 : Hp) (x1 : IV) (ih : Handler) (x0 : IV) : Option (IV × Hp) :=
  nilS x94 fun x96 => faddrS 4 x96 fun x97 => loadA 3 x97 h79 fun x98 r99 => chkS [] r99 [] (nilS x94 fun x100 => S110_632 x100 h79 r99 x1 ih x0 x98)
noncomputable def S110_634 (x87 : IV) (h79 : Hp) (x1 : IV) (ih : Handler) (x0 : IV) : Option (IV × Hp) :=
  nilS x87 fun x89 => faddrS 2 x89 fun x90 => load1 x90 h79 fun x91 _ => ixS 1 x91 (.fv (.int .i64 1)) fun x93 => load1 x93 h79 fun x94 _ => S110_633 x94 h79 x1 ih x0
noncomputable def S110_635 (x1 : IV) (h79 : Hp) (ih : Handler) (x0 : IV) : Option (IV × Hp) :=
  nilS x1 fun x82 => faddrS 2 x82 fun x83 => load1 x83 h79 fun x84 _ => ixS 1 x84 (.fv (.int .i64 0)) fun x86 => load1 x86 h79 fun x87 _ => S110_634 x87 h79 x1 ih x0
noncomputable def S110_636 (x235 : IV) (x242 : IV) (h223 : Hp) : Option (IV × Hp) :=
  ixS 1 x235 x242 fun x243 => load1 x243 h223 fun x244 r245 => chkS [] r245 [] (outS1 [x244] h223)
noncomputable def S110_637 (x237 : IV) (h223 : Hp) (r236 : List Ref) (r232 : List Ref) (r229 : List Ref) (x235 : IV) : Option (IV × Hp) :=
  faddrS 0 x237 fun x238 => load1 x238 h223 fun x239 r240 => chkS [(r236, []), (r232, []), (r229, [])] r240 [] (addS EE 3 (.fv (.int .i64 1)) x239 fun x241 => subS EE 3 x241 (.fv (.int .i64 8)) fun x242 => S110_636 x235 x242 h223)
noncomputable def S110_638 (x231 : IV) (h223 : Hp) (x1 : IV) (r232 : List Ref) (r229 : List Ref) : Option (IV × Hp) :=
  nilS x231 fun x233 => faddrS 2 x233 fun x234 => load1 x234 h223 fun x235 r236 => chkS [] r236 [] (nilS x1 fun x237 => S110_637 x237 h223 r236 r232 r229 x235)
noncomputable def S110_639 (h223 : Hp) (x227 : IV) (x1 : IV) : Option (IV × Hp) :=
  load1 x227 h223 fun x228 r229 => chkS [] r229 [] (ixS 1 x228 (.fv (.int .i64 0)) fun x230 => load1 x230 h223 fun x231 r232 => chkS [] r232 [] (S110_638 x231 h223 x1 r232 r229))
noncomputable def S110_640 (ih : Handler) (h218 : Hp) (x0 : IV) (x1 : IV) (j0_3 : Hp → Option (IV × Hp)) : Option (IV × Hp) :=
  isoS [true] false false ih 117 [x0] h218 fun x222 h223 _ _ => condS x222 (nilS x1 fun x226 => faddrS 2 x226 fun x227 => S110_639 h223 x227 x1) (j0_3 h223)
noncomputable def S110_641 (x258 : IV) (h250 : Hp) : Option (IV × Hp) :=
  nilS x258 fun x260 => faddrS 2 x260 fun x261 => load1 x261 h250 fun x262 _ => ixS 1 x262 (.fv (.int .i64 0)) fun x264 => load1 x264 h250 fun x265 _ => outS1 [x265] h250
noncomputable def S110_642 (x1 : IV) (h250 : Hp) : Option (IV × Hp) :=
  nilS x1 fun x253 => faddrS 2 x253 fun x254 => load1 x254 h250 fun x255 _ => ixS 1 x255 (.fv (.int .i64 0)) fun x257 => load1 x257 h250 fun x258 _ => S110_641 x258 h250
noncomputable def S110_643 (h336 : Hp) (x340 : IV) : Option (IV × Hp) :=
  load1 x340 h336 fun x341 _ => ixS 1 x341 (.fv (.int .i64 1)) fun x343 => load1 x343 h336 fun x344 _ => outS1 [x344] h336
noncomputable def S110_644 (x335 : IV) (x1 : IV) (h336 : Hp) (j0_3 : Hp → Option (IV × Hp)) : Option (IV × Hp) :=
  condS x335 (nilS x1 fun x339 => faddrS 2 x339 fun x340 => S110_643 h336 x340) (j0_3 h336)
noncomputable def S110_645 (r483 : List Ref) (w484 : List Ref) (r480 : List Ref) (r476 : List Ref) (ih : Handler) (h482 : Hp) (x479 : IV) (x481 : IV) (x0 : IV) (x475 : IV) : Option (IV × Hp) :=
  chkS [(r480, []), (r476, [])] r483 w484 (isoS [] false false ih 109 [x479, x481] h482 fun x485 h486 r487 w488 => chkS [(r476, [])] r487 w488 (isoS [true, false, false] false false ih 82 [x0, x475, x485] h486 fun x489 h490 r491 w492 => chkS [] r491 w492 (outS1 [x489] h490)))
noncomputable def S110_646 (x471 : IV) (h463 : Hp) (r476 : List Ref) (x430 : IV) (x462 : IV) (ih : Handler) (x0 : IV) (x475 : IV) : Option (IV × Hp) :=
  nilS x471 fun x477 => faddrS 3 x477 fun x478 => load1 x478 h463 fun x479 r480 => chkS [(r476, [])] r480 [] (genS (pcBuildSlice EE 129 2 [(0, x430), (1, x462)]) 115365899 h463 fun x481 h482 r483 w484 => S110_645 r483 w484 r480 r476 ih h482 x479 x481 x0 x475)
noncomputable def S110_647 (h463 : Hp) (x470 : IV) (x430 : IV) (x462 : IV) (ih : Handler) (x0 : IV) : Option (IV × Hp) :=
  load1 x470 h463 fun x471 _ => nilS x471 fun x473 => faddrS 4 x473 fun x474 => loadA 3 x474 h463 fun x475 r476 => chkS [] r476 [] (S110_646 x471 h463 r476 x430 x462 ih x0 x475)
noncomputable def S110_648 (r464 : List Ref) (w465 : List Ref) (x1 : IV) (h463 : Hp) (x430 : IV) (x462 : IV) (ih : Handler) (x0 : IV) : Option (IV × Hp) :=
  chkS [] r464 w465 (nilS x1 fun x466 => faddrS 2 x466 fun x467 => load1 x467 h463 fun x468 _ => ixS 1 x468 (.fv (.int .i64 2)) fun x470 => S110_647 h463 x470 x430 x462 ih x0)
noncomputable def S110_649 (r455 : List Ref) (w456 : List Ref) (x453 : IV) (h454 : Hp) (ih : Handler) (x0 : IV) (x1 : IV) (x430 : IV) : Option (IV × Hp) :=
  chkS [] r455 w456 (bldS [.fv (.int .i64 0), .fv (.int .i64 0), .nils, .nils, .fv (.int .i64 0), .fv (.int .i64 0), .nils] [(0, 1, .fv (.int .i64 13)), (2, 1, x453)] fun x457 => boxS 115363862 x457 h454 fun x458 h459 r460 w461 => chkS [] r460 w461 (isoS [true, false] false false ih 110 [x0, x458] h459 fun x462 h463 r464 w465 => S110_648 r464 w465 x1 h463 x430 x462 ih x0))
noncomputable def S110_650 (r449 : List Ref) (r445 : List Ref) (r442 : List Ref) (r438 : List Ref) (r435 : List Ref) (x448 : IV) (h415 : Hp) (x437 : IV) (x444 : IV) (x430 : IV) (ih : Handler) (x0 : IV) (x1 : IV) : Option (IV × Hp) :=
  chkS [(r445, []), (r442, []), (r438, []), (r435, [])] r449 [] (ixS 1 x448 (.fv (.int .i64 2)) fun x450 => load1 x450 h415 fun x451 r452 => chkS [(r445, []), (r442, []), (r438, []), (r435, [])] r452 [] (genS (pcBuildSlice EE 129 4 [(0, x437), (1, x444), (2, x451), (3, x430)]) 115363860 h415 fun x453 h454 r455 w456 => S110_649 r455 w456 x453 h454 ih x0 x1 x430))
noncomputable def S110_651 (h415 : Hp) (x443 : IV) (r438 : List Ref) (r435 : List Ref) (x1 : IV) (r442 : List Ref) (x437 : IV) (x430 : IV) (ih : Handler) (x0 : IV) : Option (IV × Hp) :=
  load1 x443 h415 fun x444 r445 => chkS [(r438, []), (r435, [])] r445 [] (nilS x1 fun x446 => faddrS 2 x446 fun x447 => load1 x447 h415 fun x448 r449 => S110_650 r449 r445 r442 r438 r435 x448 h415 x437 x444 x430 ih x0 x1)
noncomputable def S110_652 (x1 : IV) (h415 : Hp) (r438 : List Ref) (r435 : List Ref) (x437 : IV) (x430 : IV) (ih : Handler) (x0 : IV) : Option (IV × Hp) :=
  nilS x1 fun x439 => faddrS 2 x439 fun x440 => load1 x440 h415 fun x441 r442 => chkS [(r438, []), (r435, [])] r442 [] (ixS 1 x441 (.fv (.int .i64 1)) fun x443 => S110_651 h415 x443 r438 r435 x1 r442 x437 x430 ih x0)
noncomputable def S110_653 (h415 : Hp) (x433 : IV) (x1 : IV) (x430 : IV) (ih : Handler) (x0 : IV) : Option (IV × Hp) :=
  load1 x433 h415 fun x434 r435 => chkS [] r435 [] (ixS 1 x434 (.fv (.int .i64 0)) fun x436 => load1 x436 h415 fun x437 r438 => chkS [] r438 [] (S110_652 x1 h415 r438 r435 x437 x430 ih x0))
noncomputable def S110_654 (h415 : Hp) (x426 : IV) (x1 : IV) (ih : Handler) (x0 : IV) : Option (IV × Hp) :=
  load1 x426 h415 fun x427 _ => ixS 1 x427 (.fv (.int .i64 0)) fun x429 => load1 x429 h415 fun x430 _ => nilS x1 fun x432 => faddrS 2 x432 fun x433 => S110_653 h415 x433 x1 x430 ih x0
noncomputable def S110_655 (h415 : Hp) (x419 : IV) (x1 : IV) (ih : Handler) (x0 : IV) : Option (IV × Hp) :=
  load1 x419 h415 fun x420 _ => ixS 1 x420 (.fv (.int .i64 3)) fun x422 => load1 x422 h415 fun x423 _ => nilS x423 fun x425 => faddrS 2 x425 fun x426 => S110_654 h415 x426 x1 ih x0
noncomputable def S110_656 (ih : Handler) (h410 : Hp) (x0 : IV) (x1 : IV) (j0_3 : Hp → Option (IV × Hp)) : Option (IV × Hp) :=
  isoS [true] false false ih 117 [x0] h410 fun x414 h415 _ _ => condS x414 (nilS x1 fun x418 => faddrS 2 x418 fun x419 => S110_655 h415 x419 x1 ih x0) (j0_3 h415)
noncomputable def S110_657 (h391 : Hp) (x350 : IV) (x390 : IV) (ih : Handler) (x0 : IV) (x1 : IV) (j0_3 : Hp → Option (IV × Hp)) : Option (IV × Hp) :=
  guardS x350 true h391 (fun k394 => faddrS 0 x390 fun x395 => k394 x395 h391 [] []) fun x396 h397 _ _ => guardS x350 true h397 (fun k400 => load1 x396 h397 fun x401 r402 => k400 x401 h397 r402 []) fun x403 h404 _ _ => guardS x350 true h404 (fun k407 => eqS EE 3 x403 (.fv (.int .i64 12)) fun x408 => k407 x408 h404 [] []) fun x409 h410 _ _ => pickS x350 x409 (.fv (.bool false)) fun x413 => condS x413 (S110_656 ih h410 x0 x1 j0_3) (j0_3 h410)
noncomputable def S110_658 (h359 : Hp) (x350 : IV) (x358 : IV) (ih : Handler) (x0 : IV) (x1 : IV) (j0_3 : Hp → Option (IV × Hp)) : Option (IV × Hp) :=
  guardS x350 true h359 (fun k362 => faddrS 2 x358 fun x363 => k362 x363 h359 [] []) fun x364 h365 _ _ => guardS x350 true h365 (fun k368 => load1 x364 h365 fun x369 r370 => k368 x369 h365 r370 []) fun x371 h372 _ _ => guardS x350 true h372 (fun k375 => ixS 1 x371 (.fv (.int .i64 3)) fun x376 => k375 x376 h372 [] []) fun x377 h378 _ _ => guardS x350 true h378 (fun k381 => load1 x377 h378 fun x382 r383 => k381 x382 h378 r383 []) fun x384 h385 _ _ => guardS x350 true h385 (fun k388 => nilS x384 fun x389 => k388 x389 h385 [] []) fun x390 h391 _ _ => S110_657 h391 x350 x390 ih x0 x1 j0_3
noncomputable def S110_659 (x346 : IV) (h331 : Hp) (x1 : IV) (ih : Handler) (x0 : IV) (j0_3 : Hp → Option (IV × Hp)) : Option (IV × Hp) :=
  faddrS 0 x346 fun x347 => load1 x347 h331 fun x348 _ => eqS EE 3 x348 (.fv (.int .i64 13)) fun x350 => guardS x350 true h331 (fun k351 => k351 x1 h331 [] []) fun x352 h353 _ _ => guardS x350 true h353 (fun k356 => nilS x352 fun x357 => k356 x357 h353 [] []) fun x358 h359 _ _ => S110_658 h359 x350 x358 ih x0 x1 j0_3
noncomputable def S110_660 (h318 : Hp) (x271 : IV) (x317 : IV) (ih : Handler) (x0 : IV) (x1 : IV) (j0_3 : Hp → Option (IV × Hp)) : Option (IV × Hp) :=
  guardS x271 true h318 (fun k321 => load1 x317 h318 fun x322 r323 => k321 x322 h318 r323 []) fun x324 h325 _ _ => guardS x271 true h325 (fun k328 => eqS EE 3 x324 (.fv (.int .i64 11)) fun x329 => k328 x329 h325 [] []) fun x330 h331 _ _ => pickS x271 x330 (.fv (.bool false)) fun x334 => condS x334 (isoS [true] false false ih 117 [x0] h331 fun x335 h336 _ _ => S110_644 x335 x1 h336 j0_3) (nilS x1 fun x346 => S110_659 x346 h331 x1 ih x0 j0_3)
noncomputable def S110_661 (h286 : Hp) (x271 : IV) (x285 : IV) (ih : Handler) (x0 : IV) (x1 : IV) (j0_3 : Hp → Option (IV × Hp)) : Option (IV × Hp) :=
  guardS x271 true h286 (fun k289 => load1 x285 h286 fun x290 r291 => k289 x290 h286 r291 []) fun x292 h293 _ _ => guardS x271 true h293 (fun k296 => ixS 1 x292 (.fv (.int .i64 3)) fun x297 => k296 x297 h293 [] []) fun x298 h299 _ _ => guardS x271 true h299 (fun k302 => load1 x298 h299 fun x303 r304 => k302 x303 h299 r304 []) fun x305 h306 _ _ => guardS x271 true h306 (fun k309 => nilS x305 fun x310 => k309 x310 h306 [] []) fun x311 h312 _ _ => guardS x271 true h312 (fun k315 => faddrS 0 x311 fun x316 => k315 x316 h312 [] []) fun x317 h318 _ _ => S110_660 h318 x271 x317 ih x0 x1 j0_3
noncomputable def S110_662 (h248 : Hp) (x268 : IV) (x1 : IV) (ih : Handler) (x0 : IV) (j0_3 : Hp → Option (IV × Hp)) : Option (IV × Hp) :=
  load1 x268 h248 fun x269 _ => eqS EE 3 x269 (.fv (.int .i64 13)) fun x271 => guardS x271 true h248 (fun k272 => k272 x1 h248 [] []) fun x273 h274 _ _ => guardS x271 true h274 (fun k277 => nilS x273 fun x278 => k277 x278 h274 [] []) fun x279 h280 _ _ => guardS x271 true h280 (fun k283 => faddrS 2 x279 fun x284 => k283 x284 h280 [] []) fun x285 h286 _ _ => S110_661 h286 x271 x285 ih x0 x1 j0_3
noncomputable def S110_663 (x247 : IV) (ih : Handler) (h248 : Hp) (x0 : IV) (x1 : IV) (j0_3 : Hp → Option (IV × Hp)) : Option (IV × Hp) :=
  condS x247 (isoS [true] false false ih 117 [x0] h248 fun x249 h250 _ _ => condS x249 (S110_642 x1 h250) (j0_3 h250)) (nilS x1 fun x267 => faddrS 0 x267 fun x268 => S110_662 h248 x268 x1 ih x0 j0_3)
noncomputable def S110_664 (h612 : Hp) (x565 : IV) (x611 : IV) (j1_246 : IV → Hp → Option (IV × Hp)) : Option (IV × Hp) :=
  guardS x565 true h612 (fun k615 => load1 x611 h612 fun x616 r617 => k615 x616 h612 r617 []) fun x618 h619 _ _ => guardS x565 true h619 (fun k622 => eqS EE 3 x618 (.fv (.int .i64 30)) fun x623 => k622 x623 h619 [] []) fun x624 h625 _ _ => pickS x565 x624 (.fv (.bool false)) fun x628 => j1_246 x628 h625
noncomputable def S110_665 (h580 : Hp) (x565 : IV) (x579 : IV) (j1_246 : IV → Hp → Option (IV × Hp)) : Option (IV × Hp) :=
  guardS x565 true h580 (fun k583 => load1 x579 h580 fun x584 r585 => k583 x584 h580 r585 []) fun x586 h587 _ _ => guardS x565 true h587 (fun k590 => ixS 1 x586 (.fv (.int .i64 0)) fun x591 => k590 x591 h587 [] []) fun x592 h593 _ _ => guardS x565 true h593 (fun k596 => load1 x592 h593 fun x597 r598 => k596 x597 h593 r598 []) fun x599 h600 _ _ => guardS x565 true h600 (fun k603 => nilS x599 fun x604 => k603 x604 h600 [] []) fun x605 h606 _ _ => guardS x565 true h606 (fun k609 => faddrS 0 x605 fun x610 => k609 x610 h606 [] []) fun x611 h612 _ _ => S110_664 h612 x565 x611 j1_246
noncomputable def S110_666 (h557 : Hp) (x562 : IV) (x1 : IV) (j1_246 : IV → Hp → Option (IV × Hp)) : Option (IV × Hp) :=
  load1 x562 h557 fun x563 _ => eqS EE 3 x563 (.fv (.int .i64 19)) fun x565 => guardS x565 true h557 (fun k566 => k566 x1 h557 [] []) fun x567 h568 _ _ => guardS x565 true h568 (fun k571 => nilS x567 fun x572 => k571 x572 h568 [] []) fun x573 h574 _ _ => guardS x565 true h574 (fun k577 => faddrS 2 x573 fun x578 => k577 x578 h574 [] []) fun x579 h580 _ _ => S110_665 h580 x565 x579 j1_246
noncomputable def S110_667 (x497 : IV) (x556 : IV) (j1_246 : IV → Hp → Option (IV × Hp)) (h557 : Hp) (x1 : IV) : Option (IV × Hp) :=
  pickS x497 x556 (.fv (.bool false)) fun x560 => condS x560 (j1_246 x560 h557) (nilS x1 fun x561 => faddrS 0 x561 fun x562 => S110_666 h557 x562 x1 j1_246)
noncomputable def S110_668 (h525 : Hp) (x497 : IV) (x524 : IV) (j1_246 : IV → Hp → Option (IV × Hp)) (x1 : IV) : Option (IV × Hp) :=
  guardS x497 true h525 (fun k528 => load1 x524 h525 fun x529 r530 => k528 x529 h525 r530 []) fun x531 h532 _ _ => guardS x497 true h532 (fun k535 => nilS x531 fun x536 => k535 x536 h532 [] []) fun x537 h538 _ _ => guardS x497 true h538 (fun k541 => faddrS 0 x537 fun x542 => k541 x542 h538 [] []) fun x543 h544 _ _ => guardS x497 true h544 (fun k547 => load1 x543 h544 fun x548 r549 => k547 x548 h544 r549 []) fun x550 h551 _ _ => guardS x497 true h551 (fun k554 => eqS EE 3 x550 (.fv (.int .i64 19)) fun x555 => k554 x555 h551 [] []) fun x556 h557 _ _ => S110_667 x497 x556 j1_246 h557 x1
noncomputable def S110_669 (h218 : Hp) (x497 : IV) (x1 : IV) (j1_246 : IV → Hp → Option (IV × Hp)) : Option (IV × Hp) :=
  guardS x497 true h218 (fun k498 => k498 x1 h218 [] []) fun x499 h500 _ _ => guardS x497 true h500 (fun k503 => nilS x499 fun x504 => k503 x504 h500 [] []) fun x505 h506 _ _ => guardS x497 true h506 (fun k509 => faddrS 2 x505 fun x510 => k509 x510 h506 [] []) fun x511 h512 _ _ => guardS x497 true h512 (fun k515 => load1 x511 h512 fun x516 r517 => k515 x516 h512 r517 []) fun x518 h519 _ _ => guardS x497 true h519 (fun k522 => ixS 1 x518 (.fv (.int .i64 0)) fun x523 => k522 x523 h519 [] []) fun x524 h525 _ _ => S110_668 h525 x497 x524 j1_246 x1
noncomputable def S110_670 (ih : Handler) (x0 : IV) (x1 : IV) (j0_3 : Hp → Option (IV × Hp)) (h218 : Hp) : Option (IV × Hp) :=
  (fun (j1_246 : IV → Hp → Option (IV × Hp)) => nilS x1 fun x493 => faddrS 0 x493 fun x494 => load1 x494 h218 fun x495 _ => eqS EE 3 x495 (.fv (.int .i64 30)) fun x497 => S110_669 h218 x497 x1 j1_246) fun x247 h248 => S110_663 x247 ih h248 x0 x1 j0_3
noncomputable def S110_671 (h199 : Hp) (x158 : IV) (x198 : IV) (ih : Handler) (x0 : IV) (x1 : IV) (j0_3 : Hp → Option (IV × Hp)) : Option (IV × Hp) :=
  guardS x158 true h199 (fun k202 => faddrS 0 x198 fun x203 => k202 x203 h199 [] []) fun x204 h205 _ _ => guardS x158 true h205 (fun k208 => load1 x204 h205 fun x209 r210 => k208 x209 h205 r210 []) fun x211 h212 _ _ => guardS x158 true h212 (fun k215 => eqS EE 3 x211 (.fv (.int .i64 7)) fun x216 => k215 x216 h212 [] []) fun x217 h218 _ _ => pickS x158 x217 (.fv (.bool false)) fun x221 => condS x221 (S110_640 ih h218 x0 x1 j0_3) (S110_670 ih x0 x1 j0_3 h218)
noncomputable def S110_672 (h167 : Hp) (x158 : IV) (x166 : IV) (ih : Handler) (x0 : IV) (x1 : IV) (j0_3 : Hp → Option (IV × Hp)) : Option (IV × Hp) :=
  guardS x158 true h167 (fun k170 => faddrS 2 x166 fun x171 => k170 x171 h167 [] []) fun x172 h173 _ _ => guardS x158 true h173 (fun k176 => load1 x172 h173 fun x177 r178 => k176 x177 h173 r178 []) fun x179 h180 _ _ => guardS x158 true h180 (fun k183 => ixS 1 x179 (.fv (.int .i64 0)) fun x184 => k183 x184 h180 [] []) fun x185 h186 _ _ => guardS x158 true h186 (fun k189 => load1 x185 h186 fun x190 r191 => k189 x190 h186 r191 []) fun x192 h193 _ _ => guardS x158 true h193 (fun k196 => nilS x192 fun x197 => k196 x197 h193 [] []) fun x198 h199 _ _ => S110_671 h199 x158 x198 ih x0 x1 j0_3
noncomputable def S110_673 (h142 : Hp) (x127 : IV) (x141 : IV) (x1 : IV) (ih : Handler) (x0 : IV) (j0_3 : Hp → Option (IV × Hp)) : Option (IV × Hp) :=
  guardS x127 false h142 (fun k145 => load1 x141 h142 fun x146 r147 => k145 x146 h142 r147 []) fun x148 h149 _ _ => guardS x127 false h149 (fun k152 => eqS EE 3 x148 (.fv (.int .i64 9)) fun x153 => k152 x153 h149 [] []) fun x154 h155 _ _ => pickS x127 (.fv (.bool true)) x154 fun x158 => guardS x158 true h155 (fun k159 => k159 x1 h155 [] []) fun x160 h161 _ _ => guardS x158 true h161 (fun k164 => nilS x160 fun x165 => k164 x165 h161 [] []) fun x166 h167 _ _ => S110_672 h167 x158 x166 ih x0 x1 j0_3
noncomputable def S110_674 (h74 : Hp) (x124 : IV) (x1 : IV) (ih : Handler) (x0 : IV) (j0_3 : Hp → Option (IV × Hp)) : Option (IV × Hp) :=
  load1 x124 h74 fun x125 _ => eqS EE 3 x125 (.fv (.int .i64 8)) fun x127 => guardS x127 false h74 (fun k128 => k128 x1 h74 [] []) fun x129 h130 _ _ => guardS x127 false h130 (fun k133 => nilS x129 fun x134 => k133 x134 h130 [] []) fun x135 h136 _ _ => guardS x127 false h136 (fun k139 => faddrS 0 x135 fun x140 => k139 x140 h136 [] []) fun x141 h142 _ _ => S110_673 h142 x127 x141 x1 ih x0 j0_3
noncomputable def S110_675 (x77 : IV) (ih : Handler) (h74 : Hp) (x0 : IV) (x1 : IV) (j0_3 : Hp → Option (IV × Hp)) : Option (IV × Hp) :=
  condS x77 (isoS [true] false false ih 117 [x0] h74 fun x78 h79 _ _ => condS x78 (S110_635 x1 h79 ih x0) (j0_3 h79)) (nilS x1 fun x123 => faddrS 0 x123 fun x124 => S110_674 h74 x124 x1 ih x0 j0_3)
noncomputable def S110_676 (h49 : Hp) (x14 : IV) (x48 : IV) (ih : Handler) (x0 : IV) (x1 : IV) (j0_3 : Hp → Option (IV × Hp)) : Option (IV × Hp) :=
  guardS x14 true h49 (fun k52 => nilS x48 fun x53 => k52 x53 h49 [] []) fun x54 h55 _ _ => guardS x14 true h55 (fun k58 => faddrS 0 x54 fun x59 => k58 x59 h55 [] []) fun x60 h61 _ _ => guardS x14 true h61 (fun k64 => load1 x60 h61 fun x65 r66 => k64 x65 h61 r66 []) fun x67 h68 _ _ => guardS x14 true h68 (fun k71 => eqS EE 3 x67 (.fv (.int .i64 4)) fun x72 => k71 x72 h68 [] []) fun x73 h74 _ _ => pickS x14 x73 (.fv (.bool false)) fun x77 => S110_675 x77 ih h74 x0 x1 j0_3
noncomputable def S110_677 (h17 : Hp) (x14 : IV) (x16 : IV) (ih : Handler) (x0 : IV) (x1 : IV) (j0_3 : Hp → Option (IV × Hp)) : Option (IV × Hp) :=
  guardS x14 true h17 (fun k20 => nilS x16 fun x21 => k20 x21 h17 [] []) fun x22 h23 _ _ => guardS x14 true h23 (fun k26 => faddrS 2 x22 fun x27 => k26 x27 h23 [] []) fun x28 h29 _ _ => guardS x14 true h29 (fun k32 => load1 x28 h29 fun x33 r34 => k32 x33 h29 r34 []) fun x35 h36 _ _ => guardS x14 true h36 (fun k39 => ixS 1 x35 (.fv (.int .i64 0)) fun x40 => k39 x40 h36 [] []) fun x41 h42 _ _ => guardS x14 true h42 (fun k45 => load1 x41 h42 fun x46 r47 => k45 x46 h42 r47 []) fun x48 h49 _ _ => S110_676 h49 x14 x48 ih x0 x1 j0_3
noncomputable def S110_678 (x1 : IV) (h2 : Hp) (ih : Handler) (x0 : IV) (j0_3 : Hp → Option (IV × Hp)) : Option (IV × Hp) :=
  nilS x1 fun x10 => faddrS 0 x10 fun x11 => load1 x11 h2 fun x12 _ => eqS EE 3 x12 (.fv (.int .i64 5)) fun x14 => guardS x14 true h2 (fun k15 => k15 x1 h2 [] []) fun x16 h17 _ _ => S110_677 h17 x14 x16 ih x0 x1 j0_3
noncomputable def S110 (ih : Handler) (n : Nat) (x0 : IV) (x1 : IV) (h2 : Hp) : Option (IV × Hp) :=
  (fun (j0_3 : Hp → Option (IV × Hp)) => nilS x0 fun x5 => faddrS 2 x5 fun x6 => load1 x6 h2 fun x7 _ => neS EE 3 x7 (.fv (.int .i64 0)) fun x9 => condS x9 (outS1 [x1] h2) (S110_678 x1 h2 ih x0 j0_3)) fun h4 => outS1 [x1] h4
theorem S110_ok (ih : Handler) (n : Nat) (x0 : IV) (x1 : IV) (h2 : Hp) : funS EE ih ft.get n 110 [x0, x1] h2 = S110 ih n x0 x1 h2 := by kernel_rfl
noncomputable def S111_40 (x16 : IV) (h17 : Hp) (x6 : IV) : Option (IV × Hp) :=
  extS 0 x16 fun x20 => extS 1 x16 fun x21 => storeA 3 x6 x20 h17 fun h22 _ _ => cellS true 3 x6 h22 fun x25 => outS1 [x25, x21] h22
noncomputable def S111_41 (h33 : Hp) (x6 : IV) (x32 : IV) : Option (IV × Hp) :=
  storeA 3 x6 x32 h33 fun h36 r37 w38 => chkS [] r37 w38 (cellS true 3 x6 h36 fun x39 => outS1 [x39, .fv (.int .i64 0)] h36)
noncomputable def S111_42 (r27 : List Ref) (ih : Handler) (h13 : Hp) (x26 : IV) (x6 : IV) : Option (IV × Hp) :=
  chkS [] r27 [] (isoS [] false false ih 30 [.fv (.int .i64 11), .nils] h13 fun x28 h29 r30 w31 => chkS [(r27, [])] r30 w31 (isoS [] false false ih 89 [x26, .fv (.int .i64 0), x28] h29 fun x32 h33 r34 w35 => chkS [] r34 w35 (S111_41 h33 x6 x32)))
noncomputable def S111 (ih : Handler) (n : Nat) (x0 : IV) (h1 : Hp) : Option (IV × Hp) :=
  boxS 116391936 x0 h1 fun x2 h3 _ _ => newS 116391937 (.row [.fv (.int .i64 0), .fv (.int .i64 0), .nils] false) (.ptr (.own 116391937) 0) h3 fun x6 h7 _ _ => loadA 3 x2 h7 fun x10 _ => isoS [] false false ih 118 [x10, .fv (.int .i64 0)] h7 fun x12 h13 _ _ => condS x12 (isoS [] false false ih 57 [.fv (.int .i64 14)] h13 fun x16 h17 _ _ => S111_40 x16 h17 x6) (loadA 3 x2 h13 fun x26 r27 => S111_42 r27 ih h13 x26 x6)
theorem S111_ok (ih : Handler) (n : Nat) (x0 : IV) (h1 : Hp) : funS EE ih ft.get n 111 [x0] h1 = S111 ih n x0 h1 := by kernel_rfl
noncomputable def S112_513 (x29 : IV) (h65 : Hp) (x64 : IV) (x30 : IV) (h1 : Hp) (x27 : IV) (x28 : IV) (q24 : List IV → Hp → Option (IV × Hp)) : Option (IV × Hp) :=
  faddrS 2 x29 fun x68 => store1 x68 x64 h65 fun h69 _ _ => addS EE 3 x30 (.fv (.int .i64 1)) fun x72 => dropS (h1.own.map (·.1)) [117445638, 117448708] [x27, x28, x29, x72] h69 fun h73 => q24 [x27, x28, x29, x72] h73
noncomputable def S112_514 (x29 : IV) (h54 : Hp) (x46 : IV) (x30 : IV) (h1 : Hp) (x27 : IV) (x28 : IV) (q24 : List IV → Hp → Option (IV × Hp)) : Option (IV × Hp) :=
  faddrS 2 x29 fun x55 => load1 x55 h54 fun x56 _ => loadA 3 x46 h54 fun x58 _ => genS (pcBuildSlice EE 28 1 [(0, x58)]) 117448707 h54 fun x60 h61 _ _ => genS (builtinR EE 117448708 false .append [28, 28] [x56, x60]) 117448708 h61 fun x64 h65 _ _ => S112_513 x29 h65 x64 x30 h1 x27 x28 q24
noncomputable def S112_515 (h126 : Hp) (x46 : IV) (x125 : IV) (j0_53 : Hp → Option (IV × Hp)) : Option (IV × Hp) :=
  storeA 3 x46 x125 h126 fun h129 _ _ => j0_53 h129
noncomputable def S112_516 (h115 : Hp) (x74 : IV) (x95 : IV) (x114 : IV) (ih : Handler) (x46 : IV) (j0_53 : Hp → Option (IV × Hp)) : Option (IV × Hp) :=
  guardS x74 true h115 (fun k118 => pickS x95 (.fv (.bool true)) x114 fun x119 => k118 x119 h115 [] []) fun x120 h121 _ _ => pickS x74 x120 (.fv (.bool false)) fun x124 => condS x124 (isoS [] false false ih 30 [.fv (.int .i64 11), .nils] h121 fun x125 h126 _ _ => S112_515 h126 x46 x125 j0_53) (j0_53 h121)
noncomputable def S112_517 (h85 : Hp) (x74 : IV) (x84 : IV) (x27 : IV) (ih : Handler) (x46 : IV) (j0_53 : Hp → Option (IV × Hp)) : Option (IV × Hp) :=
  guardS x74 true h85 (fun k88 => eqS EE 3 x84 (.fv (.int .i64 4)) fun x89 => k88 x89 h85 [] []) fun x90 h91 _ _ => guardS x74 true h91 (fun k94 => k94 x90 h91 [] []) fun x95 h96 _ _ => guardS x95 false h96 (fun k99 => faddrS 0 x27 fun x100 => k99 x100 h96 [] []) fun x101 h102 _ _ => guardS x95 false h102 (fun k105 => load1 x101 h102 fun x106 r107 => k105 x106 h102 r107 []) fun x108 h109 _ _ => guardS x95 false h109 (fun k112 => eqS EE 3 x108 (.fv (.int .i64 7)) fun x113 => k112 x113 h109 [] []) fun x114 h115 _ _ => S112_516 h115 x74 x95 x114 ih x46 j0_53
noncomputable def S112_518 (h47 : Hp) (x46 : IV) (x42 : IV) (x29 : IV) (x30 : IV) (h1 : Hp) (x27 : IV) (x28 : IV) (q24 : List IV → Hp → Option (IV × Hp)) (ih : Handler) : Option (IV × Hp) :=
  storeA 3 x46 x42 h47 fun h50 _ _ => (fun (j0_53 : Hp → Option (IV × Hp)) => eqS EE 3 x30 (.fv (.int .i64 0)) fun x74 => guardS x74 true h50 (fun k75 => faddrS 0 x27 fun x76 => k75 x76 h50 [] []) fun x77 h78 _ _ => guardS x74 true h78 (fun k81 => load1 x77 h78 fun x82 r83 => k81 x82 h78 r83 []) fun x84 h85 _ _ => S112_517 h85 x74 x84 x27 ih x46 j0_53) fun h54 => S112_514 x29 h54 x46 x30 h1 x27 x28 q24
noncomputable def S112_519 (h26 : Hp) (x36 : IV) (x30 : IV) (ih : Handler) (x29 : IV) (h1 : Hp) (x27 : IV) (x28 : IV) (q24 : List IV → Hp → Option (IV × Hp)) : Option (IV × Hp) :=
  load1 x36 h26 fun x37 _ => ixS 3 x37 x30 fun x39 => loadA 3 x39 h26 fun x40 _ => isoS [] false false ih 112 [x40] h26 fun x42 h43 _ _ => newS 117445638 (.row [.fv (.int .i64 0), .fv (.int .i64 0), .nils] false) (.ptr (.own 117445638) 0) h43 fun x46 h47 _ _ => S112_518 h47 x46 x42 x29 x30 h1 x27 x28 q24 ih
noncomputable def S112_520 (ih : Handler) (h299 : Hp) (x296 : IV) (x298 : IV) (x28 : IV) : Option (IV × Hp) :=
  isoS [] false false ih 89 [x296, .fv (.int .i64 0), x298] h299 fun x302 h303 r304 w305 => chkS [] r304 w305 (storeA 3 x28 x302 h303 fun h306 r307 w308 => chkS [] r307 w308 (cellS true 3 x28 h306 fun x309 => outS1 [x309] h306))
noncomputable def S112_521 (x293 : IV) (h284 : Hp) (ih : Handler) (r294 : List Ref) (r290 : List Ref) (x28 : IV) : Option (IV × Hp) :=
  ixS 3 x293 (.fv (.int .i64 0)) fun x295 => loadA 3 x295 h284 fun x296 r297 => chkS [] r297 [] (isoS [] false false ih 30 [.fv (.int .i64 11), .nils] h284 fun x298 h299 r300 w301 => chkS [(r297, []), (r294, []), (r290, [])] r300 w301 (S112_520 ih h299 x296 x298 x28))
noncomputable def S112_522 (r290 : List Ref) (x289 : IV) (h284 : Hp) (ih : Handler) (x28 : IV) : Option (IV × Hp) :=
  chkS [] r290 [] (ixS 3 x289 (.fv (.int .i64 1)) fun x291 => faddrS 2 x291 fun x292 => load1 x292 h284 fun x293 r294 => chkS [] r294 [] (S112_521 x293 h284 ih r294 r290 x28))
noncomputable def S112_523 (h484 : Hp) (x495 : IV) (x28 : IV) : Option (IV × Hp) :=
  loadA 3 x495 h484 fun x496 _ => storeA 3 x28 x496 h484 fun h498 _ _ => cellS true 3 x28 h498 fun x501 => outS1 [x501] h498
noncomputable def S112_524 (h484 : Hp) (x488 : IV) (x28 : IV) : Option (IV × Hp) :=
  load1 x488 h484 fun x489 _ => ixS 3 x489 (.fv (.int .i64 1)) fun x491 => faddrS 2 x491 fun x492 => load1 x492 h484 fun x493 _ => ixS 3 x493 (.fv (.int .i64 0)) fun x495 => S112_523 h484 x495 x28
noncomputable def S112_525 (h484 : Hp) (x28 : IV) (x502 : IV) : Option (IV × Hp) :=
  storeA 3 x28 x502 h484 fun h504 _ _ => cellS true 3 x28 h504 fun x507 => outS1 [x507] h504
noncomputable def S112_526 (h479 : Hp) (x391 : IV) (ih : Handler) (x433 : IV) (x478 : IV) (x29 : IV) (x28 : IV) : Option (IV × Hp) :=
  guardS x391 true h479 (fun k482 => isoS [] false false ih 18 [x433, x478] h479 k482) fun x483 h484 r485 w486 => chkS [] r485 w486 (pickS x391 x483 (.fv (.bool false)) fun x487 => condS x487 (faddrS 2 x29 fun x488 => S112_524 h484 x488 x28) (loadA 3 x29 h484 fun x502 _ => S112_525 h484 x28 x502))
noncomputable def S112_527 (h459 : Hp) (x391 : IV) (x458 : IV) (r435 : List Ref) (w436 : List Ref) (r422 : List Ref) (w423 : List Ref) (r403 : List Ref) (w404 : List Ref) (ih : Handler) (x433 : IV) (x29 : IV) (x28 : IV) : Option (IV × Hp) :=
  guardS x391 true h459 (fun k462 => load1 x458 h459 fun x463 r464 => k462 x463 h459 r464 []) fun x465 h466 r467 w468 => chkS [(r435, w436), (r422, w423), (r403, w404)] r467 w468 (guardS x391 true h466 (fun k469 => ixS 3 x465 (.fv (.int .i64 0)) fun x470 => k469 x470 h466 [] []) fun x471 h472 _ _ => guardS x391 true h472 (fun k475 => loadA 3 x471 h472 fun x476 r477 => k475 x476 h472 r477 []) fun x478 h479 r480 w481 => chkS [(r435, w436), (r422, w423), (r403, w404)] r480 w481 (S112_526 h479 x391 ih x433 x478 x29 x28))
noncomputable def S112_528 (h434 : Hp) (x391 : IV) (x29 : IV) (r435 : List Ref) (w436 : List Ref) (r422 : List Ref) (w423 : List Ref) (r403 : List Ref) (w404 : List Ref) (ih : Handler) (x433 : IV) (x28 : IV) : Option (IV × Hp) :=
  guardS x391 true h434 (fun k437 => faddrS 2 x29 fun x438 => k437 x438 h434 [] []) fun x439 h440 _ _ => guardS x391 true h440 (fun k443 => load1 x439 h440 fun x444 r445 => k443 x444 h440 r445 []) fun x446 h447 r448 w449 => chkS [(r435, w436), (r422, w423), (r403, w404)] r448 w449 (guardS x391 true h447 (fun k450 => ixS 3 x446 (.fv (.int .i64 2)) fun x451 => k450 x451 h447 [] []) fun x452 h453 _ _ => guardS x391 true h453 (fun k456 => faddrS 2 x452 fun x457 => k456 x457 h453 [] []) fun x458 h459 _ _ => S112_527 h459 x391 x458 r435 w436 r422 w423 r403 w404 ih x433 x29 x28)
noncomputable def S112_529 (h414 : Hp) (x391 : IV) (x413 : IV) (x29 : IV) (r403 : List Ref) (w404 : List Ref) (ih : Handler) (x28 : IV) : Option (IV × Hp) :=
  guardS x391 true h414 (fun k417 => load1 x413 h414 fun x418 r419 => k417 x418 h414 r419 []) fun x420 h421 r422 w423 => chkS [] r422 w423 (guardS x391 true h421 (fun k424 => ixS 3 x420 (.fv (.int .i64 0)) fun x425 => k424 x425 h421 [] []) fun x426 h427 _ _ => guardS x391 true h427 (fun k430 => loadA 3 x426 h427 fun x431 r432 => k430 x431 h427 r432 []) fun x433 h434 r435 w436 => chkS [] r435 w436 (S112_528 h434 x391 x29 r435 w436 r422 w423 r403 w404 ih x433 x28))
noncomputable def S112_530 (h388 : Hp) (x391 : IV) (x29 : IV) (ih : Handler) (x28 : IV) : Option (IV × Hp) :=
  guardS x391 true h388 (fun k392 => faddrS 2 x29 fun x393 => k392 x393 h388 [] []) fun x394 h395 _ _ => guardS x391 true h395 (fun k398 => load1 x394 h395 fun x399 r400 => k398 x399 h395 r400 []) fun x401 h402 r403 w404 => chkS [] r403 w404 (guardS x391 true h402 (fun k405 => ixS 3 x401 (.fv (.int .i64 1)) fun x406 => k405 x406 h402 [] []) fun x407 h408 _ _ => guardS x391 true h408 (fun k411 => faddrS 2 x407 fun x412 => k411 x412 h408 [] []) fun x413 h414 _ _ => S112_529 h414 x391 x413 x29 r403 w404 ih x28)
noncomputable def S112_531 (h369 : Hp) (x352 : IV) (x368 : IV) (x29 : IV) (ih : Handler) (x28 : IV) : Option (IV × Hp) :=
  guardS x352 true h369 (fun k372 => faddrS 0 x368 fun x373 => k372 x373 h369 [] []) fun x374 h375 _ _ => guardS x352 true h375 (fun k378 => load1 x374 h375 fun x379 r380 => k378 x379 h375 r380 []) fun x381 h382 r383 w384 => chkS [] r383 w384 (guardS x352 true h382 (fun k385 => eqS EE 3 x381 (.fv (.int .i64 9)) fun x386 => k385 x386 h382 [] []) fun x387 h388 _ _ => pickS x352 x387 (.fv (.bool false)) fun x391 => S112_530 h388 x391 x29 ih x28)
noncomputable def S112_532 (x313 : IV) (x348 : IV) (h349 : Hp) (x29 : IV) (ih : Handler) (x28 : IV) : Option (IV × Hp) :=
  pickS x313 x348 (.fv (.bool false)) fun x352 => guardS x352 true h349 (fun k353 => faddrS 2 x29 fun x354 => k353 x354 h349 [] []) fun x355 h356 _ _ => guardS x352 true h356 (fun k359 => load1 x355 h356 fun x360 r361 => k359 x360 h356 r361 []) fun x362 h363 r364 w365 => chkS [] r364 w365 (guardS x352 true h363 (fun k366 => ixS 3 x362 (.fv (.int .i64 2)) fun x367 => k366 x367 h363 [] []) fun x368 h369 _ _ => S112_531 h369 x352 x368 x29 ih x28)
noncomputable def S112_533 (h324 : Hp) (x313 : IV) (x323 : IV) (x29 : IV) (ih : Handler) (x28 : IV) : Option (IV × Hp) :=
  guardS x313 true h324 (fun k327 => ixS 3 x323 (.fv (.int .i64 1)) fun x328 => k327 x328 h324 [] []) fun x329 h330 _ _ => guardS x313 true h330 (fun k333 => faddrS 0 x329 fun x334 => k333 x334 h330 [] []) fun x335 h336 _ _ => guardS x313 true h336 (fun k339 => load1 x335 h336 fun x340 r341 => k339 x340 h336 r341 []) fun x342 h343 r344 w345 => chkS [] r344 w345 (guardS x313 true h343 (fun k346 => eqS EE 3 x342 (.fv (.int .i64 8)) fun x347 => k346 x347 h343 [] []) fun x348 h349 _ _ => S112_532 x313 x348 h349 x29 ih x28)
noncomputable def S112_534 (r312 : List Ref) (x311 : IV) (h284 : Hp) (x29 : IV) (ih : Handler) (x28 : IV) : Option (IV × Hp) :=
  chkS [] r312 [] (eqS EE 3 x311 (.fv (.int .i64 7)) fun x313 => guardS x313 true h284 (fun k314 => faddrS 2 x29 fun x315 => k314 x315 h284 [] []) fun x316 h317 _ _ => guardS x313 true h317 (fun k320 => load1 x316 h317 fun x321 r322 => k320 x321 h317 r322 []) fun x323 h324 r325 w326 => chkS [] r325 w326 (S112_533 h324 x313 x323 x29 ih x28))
noncomputable def S112_535 (x230 : IV) (x283 : IV) (x29 : IV) (h284 : Hp) (ih : Handler) (x28 : IV) (x27 : IV) : Option (IV × Hp) :=
  pickS x230 x283 (.fv (.bool false)) fun x287 => condS x287 (faddrS 2 x29 fun x288 => load1 x288 h284 fun x289 r290 => S112_522 r290 x289 h284 ih x28) (faddrS 0 x27 fun x310 => load1 x310 h284 fun x311 r312 => S112_534 r312 x311 h284 x29 ih x28)
noncomputable def S112_536 (h266 : Hp) (x230 : IV) (x265 : IV) (ih : Handler) (x29 : IV) (x28 : IV) (x27 : IV) : Option (IV × Hp) :=
  guardS x230 true h266 (fun k269 => loadA 3 x265 h266 fun x270 r271 => k269 x270 h266 r271 []) fun x272 h273 r274 w275 => chkS [] r274 w275 (guardS x230 true h273 (fun k276 => isoS [] false false ih 118 [x272, .fv (.int .i64 0)] h273 k276) fun x277 h278 r279 w280 => chkS [] r279 w280 (guardS x230 true h278 (fun k281 => optS (unR .not x277) fun x282 => k281 x282 h278 [] []) fun x283 h284 _ _ => S112_535 x230 x283 x29 h284 ih x28 x27))
noncomputable def S112_537 (h241 : Hp) (x230 : IV) (x240 : IV) (ih : Handler) (x29 : IV) (x28 : IV) (x27 : IV) : Option (IV × Hp) :=
  guardS x230 true h241 (fun k244 => ixS 3 x240 (.fv (.int .i64 1)) fun x245 => k244 x245 h241 [] []) fun x246 h247 _ _ => guardS x230 true h247 (fun k250 => faddrS 2 x246 fun x251 => k250 x251 h247 [] []) fun x252 h253 _ _ => guardS x230 true h253 (fun k256 => load1 x252 h253 fun x257 r258 => k256 x257 h253 r258 []) fun x259 h260 r261 w262 => chkS [] r261 w262 (guardS x230 true h260 (fun k263 => ixS 3 x259 (.fv (.int .i64 0)) fun x264 => k263 x264 h260 [] []) fun x265 h266 _ _ => S112_536 h266 x230 x265 ih x29 x28 x27)
noncomputable def S112_538 (r228 : List Ref) (w229 : List Ref) (x174 : IV) (x226 : IV) (h227 : Hp) (x29 : IV) (ih : Handler) (x28 : IV) (x27 : IV) : Option (IV × Hp) :=
  chkS [] r228 w229 (pickS x174 x226 (.fv (.bool false)) fun x230 => guardS x230 true h227 (fun k231 => faddrS 2 x29 fun x232 => k231 x232 h227 [] []) fun x233 h234 _ _ => guardS x230 true h234 (fun k237 => load1 x233 h234 fun x238 r239 => k237 x238 h234 r239 []) fun x240 h241 r242 w243 => chkS [] r242 w243 (S112_537 h241 x230 x240 ih x29 x28 x27))
noncomputable def S112_539 (h210 : Hp) (x174 : IV) (x209 : IV) (ih : Handler) (r205 : List Ref) (w206 : List Ref) (r186 : List Ref) (w187 : List Ref) (x29 : IV) (x28 : IV) (x27 : IV) : Option (IV × Hp) :=
  guardS x174 true h210 (fun k213 => loadA 3 x209 h210 fun x214 r215 => k213 x214 h210 r215 []) fun x216 h217 r218 w219 => chkS [] r218 w219 (guardS x174 true h217 (fun k220 => isoS [] false false ih 29 [.fv (.int .i64 0)] h217 k220) fun x221 h222 r223 w224 => chkS [(r218, w219), (r205, w206), (r186, w187)] r223 w224 (guardS x174 true h222 (fun k225 => isoS [] false false ih 18 [x216, x221] h222 k225) fun x226 h227 r228 w229 => S112_538 r228 w229 x174 x226 h227 x29 ih x28 x27))
noncomputable def S112_540 (h185 : Hp) (x174 : IV) (x184 : IV) (ih : Handler) (r186 : List Ref) (w187 : List Ref) (x29 : IV) (x28 : IV) (x27 : IV) : Option (IV × Hp) :=
  guardS x174 true h185 (fun k188 => ixS 3 x184 (.fv (.int .i64 1)) fun x189 => k188 x189 h185 [] []) fun x190 h191 _ _ => guardS x174 true h191 (fun k194 => faddrS 2 x190 fun x195 => k194 x195 h191 [] []) fun x196 h197 _ _ => guardS x174 true h197 (fun k200 => load1 x196 h197 fun x201 r202 => k200 x201 h197 r202 []) fun x203 h204 r205 w206 => chkS [] r205 w206 (guardS x174 true h204 (fun k207 => ixS 3 x203 (.fv (.int .i64 1)) fun x208 => k207 x208 h204 [] []) fun x209 h210 _ _ => S112_539 h210 x174 x209 ih r205 w206 r186 w187 x29 x28 x27)
noncomputable def S112_541 (h165 : Hp) (x135 : IV) (x164 : IV) (x29 : IV) (ih : Handler) (x28 : IV) (x27 : IV) : Option (IV × Hp) :=
  guardS x135 true h165 (fun k168 => eqS EE 3 x164 (.fv (.int .i64 5)) fun x169 => k168 x169 h165 [] []) fun x170 h171 _ _ => pickS x135 x170 (.fv (.bool false)) fun x174 => guardS x174 true h171 (fun k175 => faddrS 2 x29 fun x176 => k175 x176 h171 [] []) fun x177 h178 _ _ => guardS x174 true h178 (fun k181 => load1 x177 h178 fun x182 r183 => k181 x182 h178 r183 []) fun x184 h185 r186 w187 => chkS [] r186 w187 (S112_540 h185 x174 x184 ih r186 w187 x29 x28 x27)
noncomputable def S112_542 (r147 : List Ref) (w148 : List Ref) (h146 : Hp) (x135 : IV) (x145 : IV) (x29 : IV) (ih : Handler) (x28 : IV) (x27 : IV) : Option (IV × Hp) :=
  chkS [] r147 w148 (guardS x135 true h146 (fun k149 => ixS 3 x145 (.fv (.int .i64 1)) fun x150 => k149 x150 h146 [] []) fun x151 h152 _ _ => guardS x135 true h152 (fun k155 => faddrS 0 x151 fun x156 => k155 x156 h152 [] []) fun x157 h158 _ _ => guardS x135 true h158 (fun k161 => load1 x157 h158 fun x162 r163 => k161 x162 h158 r163 []) fun x164 h165 r166 w167 => chkS [] r166 w167 (S112_541 h165 x135 x164 x29 ih x28 x27))
noncomputable def S112_543 (h26 : Hp) (x132 : IV) (x29 : IV) (ih : Handler) (x28 : IV) (x27 : IV) : Option (IV × Hp) :=
  load1 x132 h26 fun x133 r134 => chkS [] r134 [] (eqS EE 3 x133 (.fv (.int .i64 4)) fun x135 => guardS x135 true h26 (fun k136 => faddrS 2 x29 fun x137 => k136 x137 h26 [] []) fun x138 h139 _ _ => guardS x135 true h139 (fun k142 => load1 x138 h139 fun x143 r144 => k142 x143 h139 r144 []) fun x145 h146 r147 w148 => S112_542 r147 w148 h146 x135 x145 x29 ih x28 x27)
noncomputable def S112_544 (h26 : Hp) (x31 : IV) (x30 : IV) (x27 : IV) (ih : Handler) (x29 : IV) (h1 : Hp) (x28 : IV) (q24 : List IV → Hp → Option (IV × Hp)) : Option (IV × Hp) :=
  load1 x31 h26 fun x32 _ => lenS x32 fun x34 => ltS EE 3 x30 x34 fun x35 => condS x35 (faddrS 2 x27 fun x36 => S112_519 h26 x36 x30 ih x29 h1 x27 x28 q24) (faddrS 0 x27 fun x132 => S112_543 h26 x132 x29 ih x28 x27)
noncomputable def S112_545 (l25 : List IV) (h26 : Hp) (ih : Handler) (h1 : Hp) (q24 : List IV → Hp → Option (IV × Hp)) : Option (IV × Hp) :=
  uncS l25 fun x27 l508 => uncS l508 fun x28 l509 => uncS l509 fun x29 l510 => uncS l510 fun x30 _ => faddrS 2 x27 fun x31 => S112_544 h26 x31 x30 x27 ih x29 h1 x28 q24
noncomputable def S112_546 (x11 : IV) (x14 : IV) (h7 : Hp) (h1 : Hp) (x2 : IV) (x6 : IV) (n : Nat) (ih : Handler) : Option (IV × Hp) :=
  bldS [.fv (.int .i64 0), .fv (.int .i64 0), .nils] [(0, 1, x11), (1, 1, x14)] fun x16 => newS 117441541 (.row [.fv (.int .i64 0), .fv (.int .i64 0), .nils] false) (.ptr (.own 117441541) 0) h7 fun x17 h18 _ _ => storeA 3 x17 x16 h18 fun h21 _ _ => dropS (h1.own.map (·.1)) [117445638, 117448708] [x2, x6, x17, .fv (.int .i64 0)] h21 fun h512 => loopS n (fun q24 l25 h26 => S112_545 l25 h26 ih h1 q24) [x2, x6, x17, .fv (.int .i64 0)] h512
noncomputable def S112 (ih : Handler) (n : Nat) (x0 : IV) (h1 : Hp) : Option (IV × Hp) :=
  boxS 117440512 x0 h1 fun x2 h3 _ _ => newS 117440513 (.row [.fv (.int .i64 0), .fv (.int .i64 0), .nils] false) (.ptr (.own 117440513) 0) h3 fun x6 h7 _ _ => faddrS 0 x2 fun x10 => load1 x10 h7 fun x11 _ => faddrS 1 x2 fun x13 => load1 x13 h7 fun x14 _ => S112_546 x11 x14 h7 h1 x2 x6 n ih
theorem S112_ok (ih : Handler) (n : Nat) (x0 : IV) (h1 : Hp) : funS EE ih ft.get n 112 [x0] h1 = S112 ih n x0 h1 := by kernel_rfl
noncomputable def S113_135 (h28 : Hp) (x13 : IV) (x27 : IV) : Option (IV × Hp) :=
  storeA 3 x13 x27 h28 fun h31 _ _ => cellS true 3 x13 h31 fun x34 => outS1 [x34] h31
noncomputable def S113_136 (x40 : IV) (h14 : Hp) (x13 : IV) : Option (IV × Hp) :=
  subS EE 3 x40 (.fv (.int .i64 1)) fun x42 => bldS [.fv (.int .i64 0), .fv (.int .i64 0), .nils] [(0, 1, .fv (.int .i64 1)), (1, 1, x42)] fun x43 => storeA 3 x13 x43 h14 fun h44 _ _ => cellS true 3 x13 h44 fun x47 => outS1 [x47] h44
noncomputable def S113_137 (h50 : Hp) (x13 : IV) : Option (IV × Hp) :=
  cellS true 3 x13 h50 fun x53 => outS1 [x53] h50
noncomputable def S113_138 (x36 : IV) (x1 : IV) (x5 : IV) (h14 : Hp) (x13 : IV) : Option (IV × Hp) :=
  gtS EE 3 x36 x1 fun x38 => condS x38 (faddrS 1 x5 fun x39 => load1 x39 h14 fun x40 _ => S113_136 x40 h14 x13) (loadA 3 x5 h14 fun x48 _ => storeA 3 x13 x48 h14 fun h50 _ _ => S113_137 h50 x13)
noncomputable def S113_139 (x22 : IV) (x1 : IV) (h14 : Hp) (x9 : IV) (ih : Handler) (x2 : IV) (x13 : IV) (x5 : IV) : Option (IV × Hp) :=
  eqS EE 3 x22 x1 fun x24 => condS x24 (loadA 3 x9 h14 fun x25 _ => isoS [] false false ih 28 [x25, x2, .fv (.int .i64 0)] h14 fun x27 h28 _ _ => S113_135 h28 x13 x27) (faddrS 1 x5 fun x35 => load1 x35 h14 fun x36 _ => S113_138 x36 x1 x5 h14 x13)
noncomputable def S113_140 (x76 : IV) (h112 : Hp) (x111 : IV) (x77 : IV) (h4 : Hp) (x71 : IV) (x72 : IV) (x73 : IV) (x74 : IV) (x75 : IV) (q68 : List IV → Hp → Option (IV × Hp)) : Option (IV × Hp) :=
  faddrS 2 x76 fun x115 => store1 x115 x111 h112 fun h116 r117 w118 => chkS [] r117 w118 (addS EE 3 x77 (.fv (.int .i64 1)) fun x119 => dropS (h4.own.map (·.1)) [118501392] [x71, x72, x73, x74, x75, x76, x119] h116 fun h120 => q68 [x71, x72, x73, x74, x75, x76, x119] h120)
noncomputable def S113_141 (r105 : List Ref) (w106 : List Ref) (r92 : List Ref) (h104 : Hp) (x103 : IV) (x91 : IV) (x76 : IV) (x77 : IV) (h4 : Hp) (x71 : IV) (x72 : IV) (x73 : IV) (x74 : IV) (x75 : IV) (q68 : List IV → Hp → Option (IV × Hp)) : Option (IV × Hp) :=
  chkS [(r92, [])] r105 w106 (genS (pcBuildSlice EE 28 1 [(0, x103)]) 118501391 h104 fun x107 h108 r109 w110 => chkS [(r92, [])] r109 w110 (genS (builtinR EE 118501392 false .append [28, 28] [x91, x107]) 118501392 h108 fun x111 h112 r113 w114 => chkS [] r113 w114 (S113_140 x76 h112 x111 x77 h4 x71 x72 x73 x74 x75 q68)))
noncomputable def S113_142 (x71 : IV) (x86 : IV) (x72 : IV) (h87 : Hp) (x74 : IV) (r98 : List Ref) (r95 : List Ref) (r92 : List Ref) (ih : Handler) (x97 : IV) (x91 : IV) (x76 : IV) (x77 : IV) (h4 : Hp) (x73 : IV) (x75 : IV) (q68 : List IV → Hp → Option (IV × Hp)) : Option (IV × Hp) :=
  addS EE 3 x71 x86 fun x99 => addS EE 3 x72 x86 fun x100 => loadA 3 x74 h87 fun x101 r102 => chkS [(r98, []), (r95, []), (r92, [])] r102 [] (isoS [] false false ih 113 [x97, x99, x100, x101] h87 fun x103 h104 r105 w106 => S113_141 r105 w106 r92 h104 x103 x91 x76 x77 h4 x71 x72 x73 x74 x75 q68)
noncomputable def S113_143 (h87 : Hp) (x93 : IV) (r92 : List Ref) (x77 : IV) (x71 : IV) (x86 : IV) (x72 : IV) (x74 : IV) (ih : Handler) (x91 : IV) (x76 : IV) (h4 : Hp) (x73 : IV) (x75 : IV) (q68 : List IV → Hp → Option (IV × Hp)) : Option (IV × Hp) :=
  load1 x93 h87 fun x94 r95 => chkS [(r92, [])] r95 [] (ixS 3 x94 x77 fun x96 => loadA 3 x96 h87 fun x97 r98 => chkS [(r92, [])] r98 [] (S113_142 x71 x86 x72 h87 x74 r98 r95 r92 ih x97 x91 x76 x77 h4 x73 x75 q68))
noncomputable def S113_144 (ih : Handler) (h70 : Hp) (x84 : IV) (x77 : IV) (x76 : IV) (x73 : IV) (x71 : IV) (x72 : IV) (x74 : IV) (h4 : Hp) (x75 : IV) (q68 : List IV → Hp → Option (IV × Hp)) : Option (IV × Hp) :=
  isoS [] false false ih 48 [x84, x77] h70 fun x86 h87 _ _ => faddrS 2 x76 fun x90 => load1 x90 h87 fun x91 r92 => chkS [] r92 [] (faddrS 2 x73 fun x93 => S113_143 h87 x93 r92 x77 x71 x86 x72 x74 ih x91 x76 h4 x73 x75 q68)
noncomputable def S113_145 (h123 : Hp) (x75 : IV) : Option (IV × Hp) :=
  cellS true 3 x75 h123 fun x126 => outS1 [x126] h123
noncomputable def S113_146 (x77 : IV) (x81 : IV) (x73 : IV) (h70 : Hp) (ih : Handler) (x76 : IV) (x71 : IV) (x72 : IV) (x74 : IV) (h4 : Hp) (x75 : IV) (q68 : List IV → Hp → Option (IV × Hp)) : Option (IV × Hp) :=
  ltS EE 3 x77 x81 fun x82 => condS x82 (faddrS 0 x73 fun x83 => load1 x83 h70 fun x84 _ => S113_144 ih h70 x84 x77 x76 x73 x71 x72 x74 h4 x75 q68) (loadA 3 x76 h70 fun x121 _ => storeA 3 x75 x121 h70 fun h123 _ _ => S113_145 h123 x75)
noncomputable def S113_147 (l131 : List IV) (x73 : IV) (h70 : Hp) (ih : Handler) (x71 : IV) (x72 : IV) (x74 : IV) (h4 : Hp) (x75 : IV) (q68 : List IV → Hp → Option (IV × Hp)) : Option (IV × Hp) :=
  uncS l131 fun x76 l132 => uncS l132 fun x77 _ => faddrS 2 x73 fun x78 => load1 x78 h70 fun x79 _ => lenS x79 fun x81 => S113_146 x77 x81 x73 h70 ih x76 x71 x72 x74 h4 x75 q68
noncomputable def S113_148 (l69 : List IV) (h70 : Hp) (ih : Handler) (h4 : Hp) (q68 : List IV → Hp → Option (IV × Hp)) : Option (IV × Hp) :=
  uncS l69 fun x71 l127 => uncS l127 fun x72 l128 => uncS l128 fun x73 l129 => uncS l129 fun x74 l130 => uncS l130 fun x75 l131 => S113_147 l131 x73 h70 ih x71 x72 x74 h4 x75 q68
noncomputable def S113_149 (h4 : Hp) (h65 : Hp) (x1 : IV) (x2 : IV) (x5 : IV) (x9 : IV) (x13 : IV) (x61 : IV) (n : Nat) (ih : Handler) : Option (IV × Hp) :=
  dropS (h4.own.map (·.1)) [118501392] [x1, x2, x5, x9, x13, x61, .fv (.int .i64 0)] h65 fun h134 => loopS n (fun q68 l69 h70 => S113_148 l69 h70 ih h4 q68) [x1, x2, x5, x9, x13, x61, .fv (.int .i64 0)] h134
noncomputable def S113_150 (x5 : IV) (h14 : Hp) (x55 : IV) (h4 : Hp) (x1 : IV) (x2 : IV) (x9 : IV) (x13 : IV) (n : Nat) (ih : Handler) : Option (IV × Hp) :=
  faddrS 1 x5 fun x57 => load1 x57 h14 fun x58 _ => bldS [.fv (.int .i64 0), .fv (.int .i64 0), .nils] [(0, 1, x55), (1, 1, x58)] fun x60 => newS 118496261 (.row [.fv (.int .i64 0), .fv (.int .i64 0), .nils] false) (.ptr (.own 118496261) 0) h14 fun x61 h62 _ _ => storeA 3 x61 x60 h62 fun h65 _ _ => S113_149 h4 h65 x1 x2 x5 x9 x13 x61 n ih
noncomputable def S113_151 (x20 : IV) (x5 : IV) (h14 : Hp) (x1 : IV) (x9 : IV) (ih : Handler) (x2 : IV) (x13 : IV) (h4 : Hp) (n : Nat) : Option (IV × Hp) :=
  condS x20 (faddrS 1 x5 fun x21 => load1 x21 h14 fun x22 _ => S113_139 x22 x1 h14 x9 ih x2 x13 x5) (faddrS 0 x5 fun x54 => load1 x54 h14 fun x55 _ => S113_150 x5 h14 x55 h4 x1 x2 x9 x13 n ih)
noncomputable def S113 (ih : Handler) (n : Nat) (x0 : IV) (x1 : IV) (x2 : IV) (x3 : IV) (h4 : Hp) : Option (IV × Hp) :=
  boxS 118489088 x0 h4 fun x5 h6 _ _ => boxS 118489089 x3 h6 fun x9 h10 _ _ => newS 118489090 (.row [.fv (.int .i64 0), .fv (.int .i64 0), .nils] false) (.ptr (.own 118489090) 0) h10 fun x13 h14 _ _ => faddrS 0 x5 fun x17 => load1 x17 h14 fun x18 _ => eqS EE 3 x18 (.fv (.int .i64 1)) fun x20 => S113_151 x20 x5 h14 x1 x9 ih x2 x13 h4 n
theorem S113_ok (ih : Handler) (n : Nat) (x0 : IV) (x1 : IV) (x2 : IV) (x3 : IV) (h4 : Hp) : funS EE ih ft.get n 113 [x0, x1, x2, x3] h4 = S113 ih n x0 x1 x2 x3 h4 := by kernel_rfl
noncomputable def S114_36 (ih : Handler) (h21 : Hp) (x20 : IV) (x12 : IV) (x6 : IV) : Option (IV × Hp) :=
  isoS [] false false ih 30 [.fv (.int .i64 12), x20] h21 fun x24 h25 _ _ => isoS [] false false ih 89 [x12, .fv (.int .i64 0), x24] h25 fun x28 h29 _ _ => storeA 3 x6 x28 h29 fun h32 _ _ => cellS true 3 x6 h32 fun x35 => outS1 [x35] h32
noncomputable def S114 (ih : Handler) (n : Nat) (x0 : IV) (h1 : Hp) : Option (IV × Hp) :=
  boxS 119537664 x0 h1 fun x2 h3 _ _ => newS 119537665 (.row [.fv (.int .i64 0), .fv (.int .i64 0), .nils] false) (.ptr (.own 119537665) 0) h3 fun x6 h7 _ _ => loadA 3 x2 h7 fun x10 _ => isoS [] false false ih 28 [x10, .fv (.int .i64 2), .fv (.int .i64 1)] h7 fun x12 h13 _ _ => isoS [] false false ih 29 [.fv (.int .i64 1)] h13 fun x16 h17 _ _ => genS (pcBuildSlice EE 28 1 [(0, x16)]) 119538691 h17 fun x20 h21 _ _ => S114_36 ih h21 x20 x12 x6
theorem S114_ok (ih : Handler) (n : Nat) (x0 : IV) (h1 : Hp) : funS EE ih ft.get n 114 [x0] h1 = S114 ih n x0 h1 := by kernel_rfl
noncomputable def S115_49 (ih : Handler) (h28 : Hp) (x27 : IV) (x22 : IV) (x23 : IV) (q17 : List IV → Hp → Option (IV × Hp)) (x20 : IV) (x21 : IV) : Option (IV × Hp) :=
  isoS [] false false ih 30 [.fv (.int .i64 12), x27] h28 fun x31 h32 _ _ => storeA 3 x22 x31 h32 fun h35 _ _ => addS EE 3 x23 (.fv (.int .i64 1)) fun x38 => q17 [x20, x21, x22, x38] h35
noncomputable def S115_50 (h41 : Hp) (x21 : IV) : Option (IV × Hp) :=
  cellS true 3 x21 h41 fun x44 => outS1 [x44] h41
noncomputable def S115_51 (x24 : IV) (h19 : Hp) (x22 : IV) (ih : Handler) (x23 : IV) (q17 : List IV → Hp → Option (IV × Hp)) (x20 : IV) (x21 : IV) : Option (IV × Hp) :=
  condS x24 (loadA 3 x22 h19 fun x25 _ => genS (pcBuildSlice EE 28 1 [(0, x25)]) 120591361 h19 fun x27 h28 _ _ => S115_49 ih h28 x27 x22 x23 q17 x20 x21) (loadA 3 x22 h19 fun x39 _ => storeA 3 x21 x39 h19 fun h41 _ _ => S115_50 h41 x21)
noncomputable def S115_52 (l18 : List IV) (h19 : Hp) (ih : Handler) (q17 : List IV → Hp → Option (IV × Hp)) : Option (IV × Hp) :=
  uncS l18 fun x20 l45 => uncS l45 fun x21 l46 => uncS l46 fun x22 l47 => uncS l47 fun x23 _ => ltS EE 3 x23 x20 fun x24 => S115_51 x24 h19 x22 ih x23 q17 x20 x21
noncomputable def S115 (ih : Handler) (n : Nat) (x0 : IV) (h1 : Hp) : Option (IV × Hp) :=
  newS 120586240 (.row [.fv (.int .i64 0), .fv (.int .i64 0), .nils] false) (.ptr (.own 120586240) 0) h1 fun x2 h3 _ _ => isoS [] false false ih 30 [.fv (.int .i64 11), .nils] h3 fun x6 h7 _ _ => newS 120587265 (.row [.fv (.int .i64 0), .fv (.int .i64 0), .nils] false) (.ptr (.own 120587265) 0) h7 fun x10 h11 _ _ => storeA 3 x10 x6 h11 fun h14 _ _ => loopS n (fun q17 l18 h19 => S115_52 l18 h19 ih q17) [x0, x2, x10, .fv (.int .i64 0)] h14
theorem S115_ok (ih : Handler) (n : Nat) (x0 : IV) (h1 : Hp) : funS EE ih ft.get n 115 [x0] h1 = S115 ih n x0 h1 := by kernel_rfl
noncomputable def S116_54 (x45 : IV) (h42 : Hp) (x15 : IV) (h3 : Hp) (x11 : IV) (x12 : IV) (x13 : IV) (x14 : IV) (q8 : List IV → Hp → Option (IV × Hp)) : Option (IV × Hp) :=
  condS x45 (outS1 [.fv (.bool false)] h42) (addS EE 3 x15 (.fv (.int .i64 1)) fun x46 => dropS (h3.own.map (·.1)) [121639939, 121640964] [x11, x12, x13, x14, x46] h42 fun h47 => q8 [x11, x12, x13, x14, x46] h47)
noncomputable def S116_55 (h31 : Hp) (x30 : IV) (x28 : IV) (x20 : IV) (ih : Handler) (x12 : IV) (x15 : IV) (h3 : Hp) (x11 : IV) (x13 : IV) (x14 : IV) (q8 : List IV → Hp → Option (IV × Hp)) : Option (IV × Hp) :=
  storeA 3 x30 x28 h31 fun h34 _ _ => loadA 3 x20 h34 fun x37 _ => loadA 3 x30 h34 fun x39 _ => dynS EE ih x12 [x37, x39] h34 fun x41 h42 _ _ => optS (unR .not x41) fun x45 => S116_54 x45 h42 x15 h3 x11 x12 x13 x14 q8
noncomputable def S116_56 (h10 : Hp) (x18 : IV) (x11 : IV) (x15 : IV) (ih : Handler) (x12 : IV) (h3 : Hp) (x13 : IV) (x14 : IV) (q8 : List IV → Hp → Option (IV × Hp)) : Option (IV × Hp) :=
  newS 121639939 (.row [.fv (.int .i64 0), .fv (.int .i64 0), .nils] false) (.ptr (.own 121639939) 0) h10 fun x20 h21 _ _ => storeA 3 x20 x18 h21 fun h24 _ _ => ixS 3 x11 x15 fun x27 => loadA 3 x27 h24 fun x28 _ => newS 121640964 (.row [.fv (.int .i64 0), .fv (.int .i64 0), .nils] false) (.ptr (.own 121640964) 0) h24 fun x30 h31 _ _ => S116_55 h31 x30 x28 x20 ih x12 x15 h3 x11 x13 x14 q8
noncomputable def S116_57 (x15 : IV) (x14 : IV) (x13 : IV) (h10 : Hp) (x11 : IV) (ih : Handler) (x12 : IV) (h3 : Hp) (q8 : List IV → Hp → Option (IV × Hp)) : Option (IV × Hp) :=
  ltS EE 3 x15 x14 fun x16 => condS x16 (ixS 3 x13 x15 fun x17 => loadA 3 x17 h10 fun x18 _ => S116_56 h10 x18 x11 x15 ih x12 h3 x13 x14 q8) (outS1 [.fv (.bool true)] h10)
noncomputable def S116_58 (l9 : List IV) (h10 : Hp) (ih : Handler) (h3 : Hp) (q8 : List IV → Hp → Option (IV × Hp)) : Option (IV × Hp) :=
  uncS l9 fun x11 l48 => uncS l48 fun x12 l49 => uncS l49 fun x13 l50 => uncS l50 fun x14 l51 => uncS l51 fun x15 _ => S116_57 x15 x14 x13 h10 x11 ih x12 h3 q8
noncomputable def S116_59 (h3 : Hp) (x1 : IV) (x2 : IV) (x0 : IV) (x7 : IV) (n : Nat) (ih : Handler) : Option (IV × Hp) :=
  dropS (h3.own.map (·.1)) [121639939, 121640964] [x1, x2, x0, x7, .fv (.int .i64 0)] h3 fun h53 => loopS n (fun q8 l9 h10 => S116_58 l9 h10 ih h3 q8) [x1, x2, x0, x7, .fv (.int .i64 0)] h53
noncomputable def S116 (ih : Handler) (n : Nat) (x0 : IV) (x1 : IV) (x2 : IV) (h3 : Hp) : Option (IV × Hp) :=
  lenS x0 fun x4 => lenS x1 fun x5 => neS EE 3 x4 x5 fun x6 => condS x6 (outS1 [.fv (.bool false)] h3) (lenS x0 fun x7 => S116_59 h3 x1 x2 x0 x7 n ih)
theorem S116_ok (ih : Handler) (n : Nat) (x0 : IV) (x1 : IV) (x2 : IV) (h3 : Hp) : funS EE ih ft.get n 116 [x0, x1, x2] h3 = S116 ih n x0 x1 x2 h3 := by kernel_rfl
noncomputable def S117_29 (x0 : IV) (h13 : Hp) : Option (IV × Hp) :=
  nilS x0 fun x14 => faddrS 2 x14 fun x15 => load1 x15 h13 fun x16 _ => eqS EE 3 x16 (.fv (.int .i64 0)) fun x18 => outS1 [x18] h13
noncomputable def S117_30 (h9 : Hp) (x25 : IV) (j0_12 : Hp → Option (IV × Hp)) : Option (IV × Hp) :=
  store1 x25 (.fv (.int .i64 17)) h9 fun h26 _ _ => j0_12 h26
noncomputable def S117_31 (x21 : IV) (x0 : IV) (h9 : Hp) (j0_12 : Hp → Option (IV × Hp)) : Option (IV × Hp) :=
  gtS EE 3 x21 (.fv (.int .i64 1000)) fun x23 => condS x23 (nilS x0 fun x24 => faddrS 2 x24 fun x25 => S117_30 h9 x25 j0_12) (j0_12 h9)
noncomputable def S117_32 (h1 : Hp) (x8 : IV) (x6 : IV) (x0 : IV) : Option (IV × Hp) :=
  store1 x8 x6 h1 fun h9 _ _ => (fun (j0_12 : Hp → Option (IV × Hp)) => nilS x0 fun x19 => faddrS 0 x19 fun x20 => load1 x20 h9 fun x21 _ => S117_31 x21 x0 h9 j0_12) fun h13 => S117_29 x0 h13
noncomputable def S117 (ih : Handler) (n : Nat) (x0 : IV) (h1 : Hp) : Option (IV × Hp) :=
  nilS x0 fun x2 => faddrS 0 x2 fun x3 => load1 x3 h1 fun x4 _ => addS EE 3 x4 (.fv (.int .i64 1)) fun x6 => nilS x0 fun x7 => faddrS 0 x7 fun x8 => S117_32 h1 x8 x6 x0
theorem S117_ok (ih : Handler) (n : Nat) (x0 : IV) (h1 : Hp) : funS EE ih ft.get n 117 [x0] h1 = S117 ih n x0 h1 := by kernel_rfl
noncomputable def S118_48 (h4 : Hp) (x11 : IV) (x1 : IV) : Option (IV × Hp) :=
  load1 x11 h4 fun x12 _ => eqS EE 3 x12 x1 fun x14 => outS1 [x14] h4
noncomputable def S118_49 (x18 : IV) (x35 : IV) (ih : Handler) (h36 : Hp) (x30 : IV) (x20 : IV) (q15 : List IV → Hp → Option (IV × Hp)) (x19 : IV) : Option (IV × Hp) :=
  addS EE 3 x18 x35 fun x39 => isoS [] false false ih 118 [x30, x39] h36 fun x40 h41 r42 w43 => chkS [] r42 w43 (condS x40 (outS1 [.fv (.bool true)] h41) (addS EE 3 x20 (.fv (.int .i64 1)) fun x44 => q15 [x18, x19, x44] h41))
noncomputable def S118_50 (x19 : IV) (h17 : Hp) (r31 : List Ref) (r28 : List Ref) (ih : Handler) (x20 : IV) (x18 : IV) (x30 : IV) (q15 : List IV → Hp → Option (IV × Hp)) : Option (IV × Hp) :=
  faddrS 0 x19 fun x32 => load1 x32 h17 fun x33 r34 => chkS [(r31, []), (r28, [])] r34 [] (isoS [] false false ih 48 [x33, x20] h17 fun x35 h36 r37 w38 => chkS [(r31, []), (r28, [])] r37 w38 (S118_49 x18 x35 ih h36 x30 x20 q15 x19))
noncomputable def S118_51 (h17 : Hp) (x26 : IV) (x20 : IV) (x19 : IV) (ih : Handler) (x18 : IV) (q15 : List IV → Hp → Option (IV × Hp)) : Option (IV × Hp) :=
  load1 x26 h17 fun x27 r28 => chkS [] r28 [] (ixS 3 x27 x20 fun x29 => loadA 3 x29 h17 fun x30 r31 => chkS [] r31 [] (S118_50 x19 h17 r31 r28 ih x20 x18 x30 q15))
noncomputable def S118_52 (x22 : IV) (x20 : IV) (x19 : IV) (h17 : Hp) (ih : Handler) (x18 : IV) (q15 : List IV → Hp → Option (IV × Hp)) : Option (IV × Hp) :=
  lenS x22 fun x24 => ltS EE 3 x20 x24 fun x25 => condS x25 (faddrS 2 x19 fun x26 => S118_51 h17 x26 x20 x19 ih x18 q15) (outS1 [.fv (.bool false)] h17)
noncomputable def S118_53 (l16 : List IV) (h17 : Hp) (ih : Handler) (q15 : List IV → Hp → Option (IV × Hp)) : Option (IV × Hp) :=
  uncS l16 fun x18 l45 => uncS l45 fun x19 l46 => uncS l46 fun x20 _ => faddrS 2 x19 fun x21 => load1 x21 h17 fun x22 _ => S118_52 x22 x20 x19 h17 ih x18 q15
noncomputable def S118 (ih : Handler) (n : Nat) (x0 : IV) (x1 : IV) (h2 : Hp) : Option (IV × Hp) :=
  boxS 123731968 x0 h2 fun x3 h4 _ _ => faddrS 0 x3 fun x7 => load1 x7 h4 fun x8 _ => eqS EE 3 x8 (.fv (.int .i64 1)) fun x10 => condS x10 (faddrS 1 x3 fun x11 => S118_48 h4 x11 x1) (loopS n (fun q15 l16 h17 => S118_53 l16 h17 ih q15) [x1, x3, .fv (.int .i64 0)] h4)
theorem S118_ok (ih : Handler) (n : Nat) (x0 : IV) (x1 : IV) (h2 : Hp) : funS EE ih ft.get n 118 [x0, x1] h2 = S118 ih n x0 x1 h2 := by kernel_rfl
end Idl
end Go.Proofs.Ytdibmackcbpniaa
namespace Go.Proofs.Ytdibmackcbpniaa
namespace Idl
noncomputable def dt : DT :=
 .node 67 (.node 41 (.node 20 (.node 14 (.node 11 (.node 3 (.leaf 2 (fun ih n => ar0 (S2 ih n)))
 (.node 6 (.leaf 3 (fun ih n => ar4 (S3 ih n)))
 (.leaf 6 (fun ih n => ar3 (S6 ih n)))))
 (.node 12 (.leaf 11 (fun ih n => ar0 (S11 ih n)))
 (.node 13 (.leaf 12 (fun ih n => ar1 (S12 ih n)))
 (.leaf 13 (fun ih n => ar1 (S13 ih n))))))
 (.node 17 (.node 15 (.leaf 14 (fun ih n => ar2 (S14 ih n)))
 (.node 16 (.leaf 15 (fun ih n => ar2 (S15 ih n)))
 (.leaf 16 (fun ih n => ar3 (S16 ih n)))))
 (.node 18 (.leaf 17 (fun ih n => ar2 (S17 ih n)))
 (.node 19 (.leaf 18 (fun ih n => ar2 (S18 ih n)))
 (.leaf 19 (fun ih n => ar2 (S19 ih n)))))))
 (.node 26 (.node 23 (.node 21 (.leaf 20 (fun ih n => ar1 (S20 ih n)))
 (.node 22 (.leaf 21 (fun ih n => ar1 (S21 ih n)))
 (.leaf 22 (fun ih n => ar3 (S22 ih n)))))
 (.node 24 (.leaf 23 (fun ih n => ar2 (S23 ih n)))
 (.node 25 (.leaf 24 (fun ih n => ar1 (S24 ih n)))
 (.leaf 25 (fun ih n => ar1 (S25 ih n))))))
 (.node 30 (.node 28 (.leaf 26 (fun ih n => ar3 (S26 ih n)))
 (.node 29 (.leaf 28 (fun ih n => ar3 (S28 ih n)))
 (.leaf 29 (fun ih n => ar1 (S29 ih n)))))
 (.node 31 (.leaf 30 (fun ih n => ar2 (S30 ih n)))
 (.node 40 (.leaf 31 (fun ih n => ar1 (S31 ih n)))
 (.leaf 40 (fun ih n => ar2 (S40 ih n))))))))
 (.node 53 (.node 47 (.node 44 (.node 42 (.leaf 41 (fun ih n => ar2 (S41 ih n)))
 (.node 43 (.leaf 42 (fun ih n => ar2 (S42 ih n)))
 (.leaf 43 (fun ih n => ar4 (S43 ih n)))))
 (.node 45 (.leaf 44 (fun ih n => ar1 (S44 ih n)))
 (.node 46 (.leaf 45 (fun ih n => ar2 (S45 ih n)))
 (.leaf 46 (fun ih n => ar1 (S46 ih n))))))
 (.node 50 (.node 48 (.leaf 47 (fun ih n => ar2 (S47 ih n)))
 (.node 49 (.leaf 48 (fun ih n => ar2 (S48 ih n)))
 (.leaf 49 (fun ih n => ar1 (S49 ih n)))))
 (.node 51 (.leaf 50 (fun ih n => ar2 (S50 ih n)))
 (.node 52 (.leaf 51 (fun ih n => ar1 (S51 ih n)))
 (.leaf 52 (fun ih n => ar1 (S52 ih n)))))))
 (.node 59 (.node 56 (.node 54 (.leaf 53 (fun ih n => ar2 (S53 ih n)))
 (.node 55 (.leaf 54 (fun ih n => ar1 (S54 ih n)))
 (.leaf 55 (fun ih n => ar2 (S55 ih n)))))
 (.node 57 (.leaf 56 (fun ih n => ar3 (S56 ih n)))
 (.node 58 (.leaf 57 (fun ih n => ar1 (S57 ih n)))
 (.leaf 58 (fun ih n => ar1 (S58 ih n))))))
 (.node 62 (.node 60 (.leaf 59 (fun ih n => ar2 (S59 ih n)))
 (.node 61 (.leaf 60 (fun ih n => ar1 (S60 ih n)))
 (.leaf 61 (fun ih n => ar4 (S61 ih n)))))
 (.node 63 (.leaf 62 (fun ih n => ar4 (S62 ih n)))
 (.node 64 (.leaf 63 (fun ih n => ar2 (S63 ih n)))
 (.leaf 64 (fun ih n => ar2 (S64 ih n)))))))))
 (.node 91 (.node 79 (.node 73 (.node 70 (.node 68 (.leaf 67 (fun ih n => ar1 (S67 ih n)))
 (.node 69 (.leaf 68 (fun ih n => ar4 (S68 ih n)))
 (.leaf 69 (fun ih n => ar3 (S69 ih n)))))
 (.node 71 (.leaf 70 (fun ih n => ar4 (S70 ih n)))
 (.node 72 (.leaf 71 (fun ih n => ar3 (S71 ih n)))
 (.leaf 72 (fun ih n => ar2 (S72 ih n))))))
 (.node 76 (.node 74 (.leaf 73 (fun ih n => ar3 (S73 ih n)))
 (.node 75 (.leaf 74 (fun ih n => ar2 (S74 ih n)))
 (.leaf 75 (fun ih n => ar2 (S75 ih n)))))
 (.node 77 (.leaf 76 (fun ih n => ar2 (S76 ih n)))
 (.node 78 (.leaf 77 (fun ih n => ar3 (S77 ih n)))
 (.leaf 78 (fun ih n => ar2 (S78 ih n)))))))
 (.node 85 (.node 82 (.node 80 (.leaf 79 (fun ih n => ar2 (S79 ih n)))
 (.node 81 (.leaf 80 (fun ih n => ar2 (S80 ih n)))
 (.leaf 81 (fun ih n => ar4 (S81 ih n)))))
 (.node 83 (.leaf 82 (fun ih n => ar3 (S82 ih n)))
 (.node 84 (.leaf 83 (fun ih n => ar3 (S83 ih n)))
 (.leaf 84 (fun ih n => ar3 (S84 ih n))))))
 (.node 88 (.node 86 (.leaf 85 (fun ih n => ar4 (S85 ih n)))
 (.node 87 (.leaf 86 (fun ih n => ar2 (S86 ih n)))
 (.leaf 87 (fun ih n => ar2 (S87 ih n)))))
 (.node 89 (.leaf 88 (fun ih n => ar2 (S88 ih n)))
 (.node 90 (.leaf 89 (fun ih n => ar3 (S89 ih n)))
 (.leaf 90 (fun ih n => ar2 (S90 ih n))))))))
 (.node 107 (.node 101 (.node 98 (.node 96 (.leaf 91 (fun ih n => ar2 (S91 ih n)))
 (.node 97 (.leaf 96 (fun ih n => ar3 (S96 ih n)))
 (.leaf 97 (fun ih n => ar4 (S97 ih n)))))
 (.node 99 (.leaf 98 (fun ih n => ar4 (S98 ih n)))
 (.node 100 (.leaf 99 (fun ih n => ar0 (S99 ih n)))
 (.leaf 100 (fun ih n => ar4 (S100 ih n))))))
 (.node 104 (.node 102 (.leaf 101 (fun ih n => ar4 (S101 ih n)))
 (.node 103 (.leaf 102 (fun ih n => ar1 (S102 ih n)))
 (.leaf 103 (fun ih n => ar2 (S103 ih n)))))
 (.node 105 (.leaf 104 (fun ih n => ar2 (S104 ih n)))
 (.node 106 (.leaf 105 (fun ih n => ar2 (S105 ih n)))
 (.leaf 106 (fun ih n => ar1 (S106 ih n)))))))
 (.node 113 (.node 110 (.node 108 (.leaf 107 (fun ih n => ar1 (S107 ih n)))
 (.node 109 (.leaf 108 (fun ih n => ar3 (S108 ih n)))
 (.leaf 109 (fun ih n => ar2 (S109 ih n)))))
 (.node 111 (.leaf 110 (fun ih n => ar2 (S110 ih n)))
 (.node 112 (.leaf 111 (fun ih n => ar1 (S111 ih n)))
 (.leaf 112 (fun ih n => ar1 (S112 ih n))))))
 (.node 116 (.node 114 (.leaf 113 (fun ih n => ar4 (S113 ih n)))
 (.node 115 (.leaf 114 (fun ih n => ar1 (S114 ih n)))
 (.leaf 115 (fun ih n => ar1 (S115 ih n)))))
 (.node 117 (.leaf 116 (fun ih n => ar3 (S116 ih n)))
 (.node 118 (.leaf 117 (fun ih n => ar1 (S117 ih n)))
 (.leaf 118 (fun ih n => ar2 (S118 ih n)))))))))
theorem dt_ok : dt.Ok EE ft.get :=
 ⟨⟨⟨⟨⟨⟨(fun ih n _ _ _ e => ar0_ok (F := funS EE ih ft.get n 2) (S2_ok ih n) e),
 ⟨(fun ih n _ _ _ e => ar4_ok (F := funS EE ih ft.get n 3) (S3_ok ih n) e),
 (fun ih n _ _ _ e => ar3_ok (F := funS EE ih ft.get n 6) (S6_ok ih n) e)⟩⟩,
 ⟨(fun ih n _ _ _ e => ar0_ok (F := funS EE ih ft.get n 11) (S11_ok ih n) e),
 ⟨(fun ih n _ _ _ e => ar1_ok (F := funS EE ih ft.get n 12) (S12_ok ih n) e),
 (fun ih n _ _ _ e => ar1_ok (F := funS EE ih ft.get n 13) (S13_ok ih n) e)⟩⟩⟩,
 ⟨⟨(fun ih n _ _ _ e => ar2_ok (F := funS EE ih ft.get n 14) (S14_ok ih n) e),
 ⟨(fun ih n _ _ _ e => ar2_ok (F := funS EE ih ft.get n 15) (S15_ok ih n) e),
 (fun ih n _ _ _ e => ar3_ok (F := funS EE ih ft.get n 16) (S16_ok ih n) e)⟩⟩,
 ⟨(fun ih n _ _ _ e => ar2_ok (F := funS EE ih ft.get n 17) (S17_ok ih n) e),
 ⟨(fun ih n _ _ _ e => ar2_ok (F := funS EE ih ft.get n 18) (S18_ok ih n) e),
 (fun ih n _ _ _ e => ar2_ok (F := funS EE ih ft.get n 19) (S19_ok ih n) e)⟩⟩⟩⟩,
 ⟨⟨⟨(fun ih n _ _ _ e => ar1_ok (F := funS EE ih ft.get n 20) (S20_ok ih n) e),
 ⟨(fun ih n _ _ _ e => ar1_ok (F := funS EE ih ft.get n 21) (S21_ok ih n) e),
 (fun ih n _ _ _ e => ar3_ok (F := funS EE ih ft.get n 22) (S22_ok ih n) e)⟩⟩,
 ⟨(fun ih n _ _ _ e => ar2_ok (F := funS EE ih ft.get n 23) (S23_ok ih n) e),
 ⟨(fun ih n _ _ _ e => ar1_ok (F := funS EE ih ft.get n 24) (S24_ok ih n) e),
 (fun ih n _ _ _ e => ar1_ok (F := funS EE ih ft.get n 25) (S25_ok ih n) e)⟩⟩⟩,
 ⟨⟨(fun ih n _ _ _ e => ar3_ok (F := funS EE ih ft.get n 26) (S26_ok ih n) e),
 ⟨(fun ih n _ _ _ e => ar3_ok (F := funS EE ih ft.get n 28) (S28_ok ih n) e),
 (fun ih n _ _ _ e => ar1_ok (F := funS EE ih ft.get n 29) (S29_ok ih n) e)⟩⟩,
 ⟨(fun ih n _ _ _ e => ar2_ok (F := funS EE ih ft.get n 30) (S30_ok ih n) e),
 ⟨(fun ih n _ _ _ e => ar1_ok (F := funS EE ih ft.get n 31) (S31_ok ih n) e),
 (fun ih n _ _ _ e => ar2_ok (F := funS EE ih ft.get n 40) (S40_ok ih n) e)⟩⟩⟩⟩⟩,
 ⟨⟨⟨⟨(fun ih n _ _ _ e => ar2_ok (F := funS EE ih ft.get n 41) (S41_ok ih n) e),
 ⟨(fun ih n _ _ _ e => ar2_ok (F := funS EE ih ft.get n 42) (S42_ok ih n) e),
 (fun ih n _ _ _ e => ar4_ok (F := funS EE ih ft.get n 43) (S43_ok ih n) e)⟩⟩,
 ⟨(fun ih n _ _ _ e => ar1_ok (F := funS EE ih ft.get n 44) (S44_ok ih n) e),
 ⟨(fun ih n _ _ _ e => ar2_ok (F := funS EE ih ft.get n 45) (S45_ok ih n) e),
 (fun ih n _ _ _ e => ar1_ok (F := funS EE ih ft.get n 46) (S46_ok ih n) e)⟩⟩⟩,
 ⟨⟨(fun ih n _ _ _ e => ar2_ok (F := funS EE ih ft.get n 47) (S47_ok ih n) e),
 ⟨(fun ih n _ _ _ e => ar2_ok (F := funS EE ih ft.get n 48) (S48_ok ih n) e),
 (fun ih n _ _ _ e => ar1_ok (F := funS EE ih ft.get n 49) (S49_ok ih n) e)⟩⟩,
 ⟨(fun ih n _ _ _ e => ar2_ok (F := funS EE ih ft.get n 50) (S50_ok ih n) e),
 ⟨(fun ih n _ _ _ e => ar1_ok (F := funS EE ih ft.get n 51) (S51_ok ih n) e),
 (fun ih n _ _ _ e => ar1_ok (F := funS EE ih ft.get n 52) (S52_ok ih n) e)⟩⟩⟩⟩,
 ⟨⟨⟨(fun ih n _ _ _ e => ar2_ok (F := funS EE ih ft.get n 53) (S53_ok ih n) e),
 ⟨(fun ih n _ _ _ e => ar1_ok (F := funS EE ih ft.get n 54) (S54_ok ih n) e),
 (fun ih n _ _ _ e => ar2_ok (F := funS EE ih ft.get n 55) (S55_ok ih n) e)⟩⟩,
 ⟨(fun ih n _ _ _ e => ar3_ok (F := funS EE ih ft.get n 56) (S56_ok ih n) e),
 ⟨(fun ih n _ _ _ e => ar1_ok (F := funS EE ih ft.get n 57) (S57_ok ih n) e),
 (fun ih n _ _ _ e => ar1_ok (F := funS EE ih ft.get n 58) (S58_ok ih n) e)⟩⟩⟩,
 ⟨⟨(fun ih n _ _ _ e => ar2_ok (F := funS EE ih ft.get n 59) (S59_ok ih n) e),
 ⟨(fun ih n _ _ _ e => ar1_ok (F := funS EE ih ft.get n 60) (S60_ok ih n) e),
 (fun ih n _ _ _ e => ar4_ok (F := funS EE ih ft.get n 61) (S61_ok ih n) e)⟩⟩,
 ⟨(fun ih n _ _ _ e => ar4_ok (F := funS EE ih ft.get n 62) (S62_ok ih n) e),
 ⟨(fun ih n _ _ _ e => ar2_ok (F := funS EE ih ft.get n 63) (S63_ok ih n) e),
 (fun ih n _ _ _ e => ar2_ok (F := funS EE ih ft.get n 64) (S64_ok ih n) e)⟩⟩⟩⟩⟩⟩,
 ⟨⟨⟨⟨⟨(fun ih n _ _ _ e => ar1_ok (F := funS EE ih ft.get n 67) (S67_ok ih n) e),
 ⟨(fun ih n _ _ _ e => ar4_ok (F := funS EE ih ft.get n 68) (S68_ok ih n) e),
 (fun ih n _ _ _ e => ar3_ok (F := funS EE ih ft.get n 69) (S69_ok ih n) e)⟩⟩,
 ⟨(fun ih n _ _ _ e => ar4_ok (F := funS EE ih ft.get n 70) (S70_ok ih n) e),
 ⟨(fun ih n _ _ _ e => ar3_ok (F := funS EE ih ft.get n 71) (S71_ok ih n) e),
 (fun ih n _ _ _ e => ar2_ok (F := funS EE ih ft.get n 72) (S72_ok ih n) e)⟩⟩⟩,
 ⟨⟨(fun ih n _ _ _ e => ar3_ok (F := funS EE ih ft.get n 73) (S73_ok ih n) e),
 ⟨(fun ih n _ _ _ e => ar2_ok (F := funS EE ih ft.get n 74) (S74_ok ih n) e),
 (fun ih n _ _ _ e => ar2_ok (F := funS EE ih ft.get n 75) (S75_ok ih n) e)⟩⟩,
 ⟨(fun ih n _ _ _ e => ar2_ok (F := funS EE ih ft.get n 76) (S76_ok ih n) e),
 ⟨(fun ih n _ _ _ e => ar3_ok (F := funS EE ih ft.get n 77) (S77_ok ih n) e),
 (fun ih n _ _ _ e => ar2_ok (F := funS EE ih ft.get n 78) (S78_ok ih n) e)⟩⟩⟩⟩,
 ⟨⟨⟨(fun ih n _ _ _ e => ar2_ok (F := funS EE ih ft.get n 79) (S79_ok ih n) e),
 ⟨(fun ih n _ _ _ e => ar2_ok (F := funS EE ih ft.get n 80) (S80_ok ih n) e),
 (fun ih n _ _ _ e => ar4_ok (F := funS EE ih ft.get n 81) (S81_ok ih n) e)⟩⟩,
 ⟨(fun ih n _ _ _ e => ar3_ok (F := funS EE ih ft.get n 82) (S82_ok ih n) e),
 ⟨(fun ih n _ _ _ e => ar3_ok (F := funS EE ih ft.get n 83) (S83_ok ih n) e),
 (fun ih n _ _ _ e => ar3_ok (F := funS EE ih ft.get n 84) (S84_ok ih n) e)⟩⟩⟩,
 ⟨⟨(fun ih n _ _ _ e => ar4_ok (F := funS EE ih ft.get n 85) (S85_ok ih n) e),
 ⟨(fun ih n _ _ _ e => ar2_ok (F := funS EE ih ft.get n 86) (S86_ok ih n) e),
 (fun ih n _ _ _ e => ar2_ok (F := funS EE ih ft.get n 87) (S87_ok ih n) e)⟩⟩,
 ⟨(fun ih n _ _ _ e => ar2_ok (F := funS EE ih ft.get n 88) (S88_ok ih n) e),
 ⟨(fun ih n _ _ _ e => ar3_ok (F := funS EE ih ft.get n 89) (S89_ok ih n) e),
 (fun ih n _ _ _ e => ar2_ok (F := funS EE ih ft.get n 90) (S90_ok ih n) e)⟩⟩⟩⟩⟩,
 ⟨⟨⟨⟨(fun ih n _ _ _ e => ar2_ok (F := funS EE ih ft.get n 91) (S91_ok ih n) e),
 ⟨(fun ih n _ _ _ e => ar3_ok (F := funS EE ih ft.get n 96) (S96_ok ih n) e),
 (fun ih n _ _ _ e => ar4_ok (F := funS EE ih ft.get n 97) (S97_ok ih n) e)⟩⟩,
 ⟨(fun ih n _ _ _ e => ar4_ok (F := funS EE ih ft.get n 98) (S98_ok ih n) e),
 ⟨(fun ih n _ _ _ e => ar0_ok (F := funS EE ih ft.get n 99) (S99_ok ih n) e),
 (fun ih n _ _ _ e => ar4_ok (F := funS EE ih ft.get n 100) (S100_ok ih n) e)⟩⟩⟩,
 ⟨⟨(fun ih n _ _ _ e => ar4_ok (F := funS EE ih ft.get n 101) (S101_ok ih n) e),
 ⟨(fun ih n _ _ _ e => ar1_ok (F := funS EE ih ft.get n 102) (S102_ok ih n) e),
 (fun ih n _ _ _ e => ar2_ok (F := funS EE ih ft.get n 103) (S103_ok ih n) e)⟩⟩,
 ⟨(fun ih n _ _ _ e => ar2_ok (F := funS EE ih ft.get n 104) (S104_ok ih n) e),
 ⟨(fun ih n _ _ _ e => ar2_ok (F := funS EE ih ft.get n 105) (S105_ok ih n) e),
 (fun ih n _ _ _ e => ar1_ok (F := funS EE ih ft.get n 106) (S106_ok ih n) e)⟩⟩⟩⟩,
 ⟨⟨⟨(fun ih n _ _ _ e => ar1_ok (F := funS EE ih ft.get n 107) (S107_ok ih n) e),
 ⟨(fun ih n _ _ _ e => ar3_ok (F := funS EE ih ft.get n 108) (S108_ok ih n) e),
 (fun ih n _ _ _ e => ar2_ok (F := funS EE ih ft.get n 109) (S109_ok ih n) e)⟩⟩,
 ⟨(fun ih n _ _ _ e => ar2_ok (F := funS EE ih ft.get n 110) (S110_ok ih n) e),
 ⟨(fun ih n _ _ _ e => ar1_ok (F := funS EE ih ft.get n 111) (S111_ok ih n) e),
 (fun ih n _ _ _ e => ar1_ok (F := funS EE ih ft.get n 112) (S112_ok ih n) e)⟩⟩⟩,
 ⟨⟨(fun ih n _ _ _ e => ar4_ok (F := funS EE ih ft.get n 113) (S113_ok ih n) e),
 ⟨(fun ih n _ _ _ e => ar1_ok (F := funS EE ih ft.get n 114) (S114_ok ih n) e),
 (fun ih n _ _ _ e => ar1_ok (F := funS EE ih ft.get n 115) (S115_ok ih n) e)⟩⟩,
 ⟨(fun ih n _ _ _ e => ar3_ok (F := funS EE ih ft.get n 116) (S116_ok ih n) e),
 ⟨(fun ih n _ _ _ e => ar1_ok (F := funS EE ih ft.get n 117) (S117_ok ih n) e),
 (fun ih n _ _ _ e => ar2_ok (F := funS EE ih ft.get n 118) (S118_ok ih n) e)⟩⟩⟩⟩⟩⟩⟩
theorem sh_run : ∀ n f args h x, SS dt n f args h = some x → run EE n f args h = some x := SS_ok ft_ok dt_ok
end Idl
end Go.Proofs.Ytdibmackcbpniaa

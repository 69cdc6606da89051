/-
  THE SHALLOW FORM OF THE SEAT'S FUNCTIONS, a part; each is what its code's shallow run is. Printed by a program of mine (gen-sh). No statement is proved here.
-/
import Derived.Test.YtkfecngimlcfoaaTab
import Derived.Test.YtkfecngimlcfoaaIdl31
set_option maxRecDepth 100000
set_option linter.unusedVariables false
namespace Go.Proofs.Ytkfecngimlcfoaa
namespace Idl
/-! thyrsus/thyrsusref7.meta -/
noncomputable def S50_340 (ih : Handler) (h24 : Hp) (x28 : IV) (x7 : IV) : Option (IV × Hp) :=
  isoS [] false false ih 44 [x28] h24 fun x30 h31 _ _ => extS 0 x30 fun x34 => extS 1 x30 fun x35 => storeA 3 x7 x34 h31 fun h36 _ _ => cellS true 3 x7 h36 fun x39 => outS1 [x39, x35] h36
noncomputable def S50_341 (x57 : IV) (h58 : Hp) (x7 : IV) : Option (IV × Hp) :=
  extS 0 x57 fun x61 => extS 1 x57 fun x62 => storeA 3 x7 x61 h58 fun h63 _ _ => cellS true 3 x7 h63 fun x66 => outS1 [x66, x62] h63
noncomputable def S50_342 (ih : Handler) (h68 : Hp) (x67 : IV) (x7 : IV) : Option (IV × Hp) :=
  isoS [] false false ih 47 [x67] h68 fun x71 h72 _ _ => storeA 3 x7 x71 h72 fun h75 _ _ => cellS true 3 x7 h75 fun x78 => outS1 [x78, .fv (.int .i64 0)] h75
noncomputable def S50_343 (x50 : IV) (ih : Handler) (h51 : Hp) (x7 : IV) (x27 : IV) : Option (IV × Hp) :=
  extS 0 x50 fun x54 => extS 1 x50 fun x55 => neS EE 3 x55 (.fv (.int .i64 0)) fun x56 => condS x56 (isoS [] false false ih 44 [x55] h51 fun x57 h58 _ _ => S50_341 x57 h58 x7) (genS (builtinR EE 52440066 false .max [3, 3] [x27, x54]) 52440066 h51 fun x67 h68 _ _ => S50_342 ih h68 x67 x7)
noncomputable def S50_344 (x12 : IV) (h44 : Hp) (r45 : List Ref) (w46 : List Ref) (r42 : List Ref) (ih : Handler) (x43 : IV) (x7 : IV) (x27 : IV) : Option (IV × Hp) :=
  ixS 3 x12 (.fv (.int .i64 1)) fun x47 => loadA 3 x47 h44 fun x48 r49 => chkS [(r45, w46), (r42, [])] r49 [] (isoS [] false false ih 83 [x43, x48] h44 fun x50 h51 r52 w53 => chkS [] r52 w53 (S50_343 x50 ih h51 x7 x27))
noncomputable def S50_345 (x12 : IV) (h24 : Hp) (ih : Handler) (x0 : IV) (x7 : IV) (x27 : IV) : Option (IV × Hp) :=
  ixS 3 x12 (.fv (.int .i64 0)) fun x40 => loadA 3 x40 h24 fun x41 r42 => chkS [] r42 [] (isoS [] false false ih 79 [x0, .fv (.int .i64 1), x41] h24 fun x43 h44 r45 w46 => chkS [] r45 w46 (S50_344 x12 h44 r45 w46 r42 ih x43 x7 x27))
noncomputable def S50_346 (ih : Handler) (h19 : Hp) (x0 : IV) (x21 : IV) (x7 : IV) (x12 : IV) : Option (IV × Hp) :=
  isoS [] false false ih 83 [x0, x21] h19 fun x23 h24 _ _ => extS 0 x23 fun x27 => extS 1 x23 fun x28 => neS EE 3 x28 (.fv (.int .i64 0)) fun x29 => condS x29 (S50_340 ih h24 x28 x7) (S50_345 x12 h24 ih x0 x7 x27)
noncomputable def S50_347 (x90 : IV) (h91 : Hp) (x7 : IV) (x94 : IV) : Option (IV × Hp) :=
  extS 1 x90 fun x95 => storeA 3 x7 x94 h91 fun h96 _ _ => cellS true 3 x7 h96 fun x99 => outS1 [x99, x95] h96
noncomputable def S50_348 (x124 : IV) (h125 : Hp) (x7 : IV) (x128 : IV) : Option (IV × Hp) :=
  extS 1 x124 fun x129 => storeA 3 x7 x128 h125 fun h130 _ _ => cellS true 3 x7 h130 fun x133 => outS1 [x133, x129] h130
noncomputable def S50_349 (x147 : IV) (h148 : Hp) (x7 : IV) (x151 : IV) : Option (IV × Hp) :=
  extS 1 x147 fun x152 => storeA 3 x7 x151 h148 fun h153 r154 w155 => chkS [] r154 w155 (cellS true 3 x7 h153 fun x156 => outS1 [x156, x152] h153)
noncomputable def S50_350 (ih : Handler) (h140 : Hp) (x139 : IV) (x7 : IV) : Option (IV × Hp) :=
  isoS [] false false ih 24 [.fv (.int .i64 3), x139] h140 fun x143 h144 r145 w146 => chkS [] r145 w146 (isoS [] false false ih 34 [x143] h144 fun x147 h148 r149 w150 => chkS [] r149 w150 (extS 0 x147 fun x151 => S50_349 x147 h148 x7 x151))
noncomputable def S50_351 (r136 : List Ref) (h120 : Hp) (x116 : IV) (x135 : IV) (ih : Handler) (x7 : IV) : Option (IV × Hp) :=
  chkS [] r136 [] (loadA 3 x116 h120 fun x137 r138 => chkS [(r136, [])] r138 [] (genS (pcBuildSlice EE 28 2 [(0, x135), (1, x137)]) 52448260 h120 fun x139 h140 r141 w142 => chkS [] r141 w142 (S50_350 ih h140 x139 x7)))
noncomputable def S50_352 (x123 : IV) (ih : Handler) (h120 : Hp) (x115 : IV) (x7 : IV) (x12 : IV) (x116 : IV) : Option (IV × Hp) :=
  condS x123 (isoS [] false false ih 44 [x115] h120 fun x124 h125 _ _ => extS 0 x124 fun x128 => S50_348 x124 h125 x7 x128) (ixS 3 x12 (.fv (.int .i64 0)) fun x134 => loadA 3 x134 h120 fun x135 r136 => S50_351 r136 h120 x116 x135 ih x7)
noncomputable def S50_353 (h111 : Hp) (r112 : List Ref) (w113 : List Ref) (r109 : List Ref) (r105 : List Ref) (w106 : List Ref) (r102 : List Ref) (x114 : IV) (x115 : IV) (ih : Handler) (x7 : IV) (x12 : IV) : Option (IV × Hp) :=
  newS 52445196 (.row [.fv (.int .i64 0), .fv (.int .i64 0), .nils] false) (.ptr (.own 52445196) 0) h111 fun x116 h117 r118 w119 => chkS [(r112, w113), (r109, []), (r105, w106), (r102, [])] r118 w119 (storeA 3 x116 x114 h117 fun h120 r121 w122 => chkS [] r121 w122 (neS EE 3 x115 (.fv (.int .i64 0)) fun x123 => S50_352 x123 ih h120 x115 x7 x12 x116))
noncomputable def S50_354 (r109 : List Ref) (r105 : List Ref) (w106 : List Ref) (r102 : List Ref) (ih : Handler) (h104 : Hp) (x103 : IV) (x108 : IV) (x7 : IV) (x12 : IV) : Option (IV × Hp) :=
  chkS [(r105, w106), (r102, [])] r109 [] (isoS [] false false ih 20 [x103, .fv (.int .i64 1), x108] h104 fun x110 h111 r112 w113 => chkS [] r112 w113 (extS 0 x110 fun x114 => extS 1 x110 fun x115 => S50_353 h111 r112 w113 r109 r105 w106 r102 x114 x115 ih x7 x12))
noncomputable def S50_355 (r102 : List Ref) (ih : Handler) (h84 : Hp) (x0 : IV) (x101 : IV) (x12 : IV) (x7 : IV) : Option (IV × Hp) :=
  chkS [] r102 [] (isoS [] false false ih 79 [x0, .fv (.int .i64 1), x101] h84 fun x103 h104 r105 w106 => chkS [] r105 w106 (ixS 3 x12 (.fv (.int .i64 1)) fun x107 => loadA 3 x107 h104 fun x108 r109 => S50_354 r109 r105 w106 r102 ih h104 x103 x108 x7 x12))
noncomputable def S50_356 (x88 : IV) (ih : Handler) (h84 : Hp) (x7 : IV) (x12 : IV) (x0 : IV) : Option (IV × Hp) :=
  neS EE 3 x88 (.fv (.int .i64 0)) fun x89 => condS x89 (isoS [] false false ih 44 [x88] h84 fun x90 h91 _ _ => extS 0 x90 fun x94 => S50_347 x90 h91 x7 x94) (ixS 3 x12 (.fv (.int .i64 0)) fun x100 => loadA 3 x100 h84 fun x101 r102 => S50_355 r102 ih h84 x0 x101 x12 x7)
noncomputable def S50_357 (x12 : IV) (h19 : Hp) (ih : Handler) (x0 : IV) (x7 : IV) : Option (IV × Hp) :=
  ixS 3 x12 (.fv (.int .i64 0)) fun x80 => loadA 3 x80 h19 fun x81 _ => isoS [] false false ih 83 [x0, x81] h19 fun x83 h84 _ _ => extS 0 x83 fun _ => extS 1 x83 fun x88 => S50_356 x88 ih h84 x7 x12 x0
noncomputable def S50_358 (x178 : IV) (h179 : Hp) (x7 : IV) (x182 : IV) : Option (IV × Hp) :=
  extS 1 x178 fun x183 => storeA 3 x7 x182 h179 fun h184 _ _ => cellS true 3 x7 h184 fun x187 => outS1 [x187, x183] h184
noncomputable def S50_359 (h207 : Hp) (x7 : IV) (x206 : IV) : Option (IV × Hp) :=
  cellS true 3 x7 h207 fun x210 => outS1 [x210, x206] h207
noncomputable def S50_360 (r203 : List Ref) (w204 : List Ref) (x201 : IV) (h202 : Hp) (x7 : IV) : Option (IV × Hp) :=
  chkS [] r203 w204 (extS 0 x201 fun x205 => extS 1 x201 fun x206 => storeA 3 x7 x205 h202 fun h207 r208 w209 => chkS [] r208 w209 (S50_359 h207 x7 x206))
noncomputable def S50_361 (h176 : Hp) (x194 : IV) (r193 : List Ref) (r190 : List Ref) (ih : Handler) (x192 : IV) (x7 : IV) : Option (IV × Hp) :=
  loadA 3 x194 h176 fun x195 r196 => chkS [(r193, []), (r190, [])] r196 [] (isoS [] false false ih 67 [x192, .fv (.int .i64 0), x195] h176 fun x197 h198 r199 w200 => chkS [] r199 w200 (isoS [] false false ih 34 [x197] h198 fun x201 h202 r203 w204 => S50_360 r203 w204 x201 h202 x7))
noncomputable def S50_362 (r190 : List Ref) (x189 : IV) (h176 : Hp) (x12 : IV) (ih : Handler) (x7 : IV) : Option (IV × Hp) :=
  chkS [] r190 [] (ixS 3 x189 (.fv (.int .i64 1)) fun x191 => loadA 3 x191 h176 fun x192 r193 => chkS [] r193 [] (ixS 3 x12 (.fv (.int .i64 1)) fun x194 => S50_361 h176 x194 r193 r190 ih x192 x7))
noncomputable def S50_363 (x175 : IV) (ih : Handler) (h176 : Hp) (x7 : IV) (x167 : IV) (x12 : IV) : Option (IV × Hp) :=
  neS EE 3 x175 (.fv (.int .i64 0)) fun x177 => condS x177 (isoS [] false false ih 44 [x175] h176 fun x178 h179 _ _ => extS 0 x178 fun x182 => S50_358 x178 h179 x7 x182) (faddrS 2 x167 fun x188 => load1 x188 h176 fun x189 r190 => S50_362 r190 x189 h176 x12 ih x7)
noncomputable def S50_364 (x216 : IV) (h171 : Hp) (r214 : List Ref) (ih : Handler) (x0 : IV) (x213 : IV) (j1_174 : IV → Hp → Option (IV × Hp)) : Option (IV × Hp) :=
  ixS 3 x216 (.fv (.int .i64 0)) fun x218 => loadA 3 x218 h171 fun x219 r220 => chkS [(r214, [])] r220 [] (isoS [] false false ih 48 [x0, .fv (.int .i64 1), x213, x219] h171 fun x221 h222 r223 w224 => chkS [] r223 w224 (j1_174 x221 h222))
noncomputable def S50_365 (h171 : Hp) (x212 : IV) (x167 : IV) (ih : Handler) (x0 : IV) (j1_174 : IV → Hp → Option (IV × Hp)) : Option (IV × Hp) :=
  loadA 3 x212 h171 fun x213 r214 => chkS [] r214 [] (faddrS 2 x167 fun x215 => load1 x215 h171 fun x216 r217 => chkS [(r214, [])] r217 [] (S50_364 x216 h171 r214 ih x0 x213 j1_174))
noncomputable def S50_366 (ih : Handler) (x7 : IV) (x167 : IV) (x12 : IV) (x166 : IV) (h171 : Hp) (x0 : IV) : Option (IV × Hp) :=
  (fun (j1_174 : IV → Hp → Option (IV × Hp)) => eqS EE 3 x166 (.fv (.int .i64 0)) fun x211 => condS x211 (ixS 3 x12 (.fv (.int .i64 1)) fun x212 => S50_365 h171 x212 x167 ih x0 j1_174) (j1_174 x166 h171)) fun x175 h176 => S50_363 x175 ih h176 x7 x167 x12
noncomputable def S50_367 (ih : Handler) (h19 : Hp) (x0 : IV) (x159 : IV) (x7 : IV) (x12 : IV) : Option (IV × Hp) :=
  isoS [] false false ih 80 [x0, .fv (.int .i64 1), x159, .fv (.int .i64 3)] h19 fun x161 h162 _ _ => extS 0 x161 fun x165 => extS 1 x161 fun x166 => newS 52450312 (.row [.fv (.int .i64 0), .fv (.int .i64 0), .nils] false) (.ptr (.own 52450312) 0) h162 fun x167 h168 _ _ => storeA 3 x167 x165 h168 fun h171 _ _ => S50_366 ih x7 x167 x12 x166 h171 x0
noncomputable def S50_368 (x245 : IV) (h246 : Hp) (x7 : IV) (x249 : IV) : Option (IV × Hp) :=
  extS 1 x245 fun x250 => storeA 3 x7 x249 h246 fun h251 _ _ => cellS true 3 x7 h251 fun x254 => outS1 [x254, x250] h251
noncomputable def S50_369 (x260 : IV) (h241 : Hp) (x7 : IV) : Option (IV × Hp) :=
  ixS 3 x260 (.fv (.int .i64 0)) fun x262 => loadA 3 x262 h241 fun x263 _ => storeA 3 x7 x263 h241 fun h265 _ _ => cellS true 3 x7 h265 fun x268 => outS1 [x268, .fv (.int .i64 0)] h265
noncomputable def S50_370 (x290 : IV) (h291 : Hp) (x7 : IV) : Option (IV × Hp) :=
  extS 0 x290 fun x294 => extS 1 x290 fun x295 => storeA 3 x7 x294 h291 fun h296 r297 w298 => chkS [] r297 w298 (cellS true 3 x7 h296 fun x299 => outS1 [x299, x295] h296)
noncomputable def S50_371 (r284 : List Ref) (w285 : List Ref) (r274 : List Ref) (r271 : List Ref) (ih : Handler) (h283 : Hp) (x273 : IV) (x282 : IV) (x7 : IV) : Option (IV × Hp) :=
  chkS [(r274, []), (r271, [])] r284 w285 (isoS [] false false ih 67 [x273, .fv (.int .i64 0), x282] h283 fun x286 h287 r288 w289 => chkS [] r288 w289 (isoS [] false false ih 34 [x286] h287 fun x290 h291 r292 w293 => chkS [] r292 w293 (S50_370 x290 h291 x7)))
noncomputable def S50_372 (h241 : Hp) (x275 : IV) (r274 : List Ref) (r271 : List Ref) (ih : Handler) (x273 : IV) (x7 : IV) : Option (IV × Hp) :=
  loadA 3 x275 h241 fun x276 r277 => chkS [(r274, []), (r271, [])] r277 [] (genS (pcBuildSlice EE 28 1 [(0, x276)]) 52463623 h241 fun x278 h279 r280 w281 => chkS [(r274, []), (r271, [])] r280 w281 (isoS [] false false ih 24 [.fv (.int .i64 8), x278] h279 fun x282 h283 r284 w285 => S50_371 r284 w285 r274 r271 ih h283 x273 x282 x7))
noncomputable def S50_373 (r271 : List Ref) (x270 : IV) (h241 : Hp) (x12 : IV) (ih : Handler) (x7 : IV) : Option (IV × Hp) :=
  chkS [] r271 [] (ixS 3 x270 (.fv (.int .i64 1)) fun x272 => loadA 3 x272 h241 fun x273 r274 => chkS [] r274 [] (ixS 3 x12 (.fv (.int .i64 0)) fun x275 => S50_372 h241 x275 r274 r271 ih x273 x7))
noncomputable def S50_374 (x256 : IV) (x237 : IV) (h241 : Hp) (x7 : IV) (x12 : IV) (ih : Handler) : Option (IV × Hp) :=
  eqS EE 3 x256 (.fv (.int .i64 8)) fun x258 => condS x258 (faddrS 2 x237 fun x259 => load1 x259 h241 fun x260 _ => S50_369 x260 h241 x7) (faddrS 2 x237 fun x269 => load1 x269 h241 fun x270 r271 => S50_373 r271 x270 h241 x12 ih x7)
noncomputable def S50_375 (x236 : IV) (ih : Handler) (h241 : Hp) (x7 : IV) (x3 : IV) (x237 : IV) (x12 : IV) : Option (IV × Hp) :=
  neS EE 3 x236 (.fv (.int .i64 0)) fun x244 => condS x244 (isoS [] false false ih 44 [x236] h241 fun x245 h246 _ _ => extS 0 x245 fun x249 => S50_368 x245 h246 x7 x249) (faddrS 0 x3 fun x255 => load1 x255 h241 fun x256 _ => S50_374 x256 x237 h241 x7 x12 ih)
noncomputable def S50_376 (ih : Handler) (h227 : Hp) (x0 : IV) (x229 : IV) (x7 : IV) (x3 : IV) (x12 : IV) : Option (IV × Hp) :=
  isoS [] false false ih 80 [x0, .fv (.int .i64 1), x229, .fv (.int .i64 6)] h227 fun x231 h232 _ _ => extS 0 x231 fun x235 => extS 1 x231 fun x236 => newS 52458504 (.row [.fv (.int .i64 0), .fv (.int .i64 0), .nils] false) (.ptr (.own 52458504) 0) h232 fun x237 h238 _ _ => storeA 3 x237 x235 h238 fun h241 _ _ => S50_375 x236 ih h241 x7 x3 x237 x12
noncomputable def S50_377 (h309 : Hp) (x7 : IV) (x308 : IV) : Option (IV × Hp) :=
  cellS true 3 x7 h309 fun x312 => outS1 [x312, x308] h309
noncomputable def S50_378 (h227 : Hp) (x3 : IV) (ih : Handler) (x0 : IV) (x7 : IV) : Option (IV × Hp) :=
  loadA 3 x3 h227 fun x301 _ => isoS [] false false ih 84 [x0, x301] h227 fun x303 h304 _ _ => extS 0 x303 fun x307 => extS 1 x303 fun x308 => storeA 3 x7 x307 h304 fun h309 _ _ => S50_377 h309 x7 x308
noncomputable def S50_379 (x316 : IV) (h317 : Hp) (x7 : IV) : Option (IV × Hp) :=
  extS 0 x316 fun x320 => extS 1 x316 fun x321 => storeA 3 x7 x320 h317 fun h322 _ _ => cellS true 3 x7 h322 fun x325 => outS1 [x325, x321] h322
noncomputable def S50_380 (x326 : IV) (h327 : Hp) (x7 : IV) (x330 : IV) : Option (IV × Hp) :=
  extS 1 x326 fun x331 => storeA 3 x7 x330 h327 fun h332 _ _ => cellS true 3 x7 h332 fun x335 => outS1 [x335, x331] h332
noncomputable def S50_381 (x15 : IV) (h227 : Hp) (x3 : IV) (ih : Handler) (x0 : IV) (x7 : IV) : Option (IV × Hp) :=
  eqS EE 3 x15 (.fv (.int .i64 13)) fun x313 => condS x313 (loadA 3 x3 h227 fun x314 _ => isoS [] false false ih 85 [x0, x314] h227 fun x316 h317 _ _ => S50_379 x316 h317 x7) (isoS [] false false ih 44 [.fv (.int .i64 10)] h227 fun x326 h327 _ _ => extS 0 x326 fun x330 => S50_380 x326 h327 x7 x330)
noncomputable def S50_382 (x226 : IV) (x12 : IV) (h227 : Hp) (ih : Handler) (x0 : IV) (x7 : IV) (x3 : IV) (x15 : IV) : Option (IV × Hp) :=
  condS x226 (ixS 3 x12 (.fv (.int .i64 0)) fun x228 => loadA 3 x228 h227 fun x229 _ => S50_376 ih h227 x0 x229 x7 x3 x12) (eqS EE 3 x15 (.fv (.int .i64 7)) fun x300 => condS x300 (S50_378 h227 x3 ih x0 x7) (S50_381 x15 h227 x3 ih x0 x7))
noncomputable def S50_383 (x336 : IV) (j1_225 : IV → Hp → Option (IV × Hp)) (h19 : Hp) (x15 : IV) : Option (IV × Hp) :=
  condS x336 (j1_225 x336 h19) (eqS EE 3 x15 (.fv (.int .i64 9)) fun x337 => j1_225 x337 h19)
noncomputable def S50_384 (x15 : IV) (x12 : IV) (h19 : Hp) (ih : Handler) (x0 : IV) (x7 : IV) (x3 : IV) : Option (IV × Hp) :=
  eqS EE 3 x15 (.fv (.int .i64 5)) fun x157 => condS x157 (ixS 3 x12 (.fv (.int .i64 0)) fun x158 => loadA 3 x158 h19 fun x159 _ => S50_367 ih h19 x0 x159 x7 x12) ((fun (j1_225 : IV → Hp → Option (IV × Hp)) => eqS EE 3 x15 (.fv (.int .i64 8)) fun x336 => S50_383 x336 j1_225 h19 x15) fun x226 h227 => S50_382 x226 x12 h227 ih x0 x7 x3 x15)
noncomputable def S50_385 (x18 : IV) (x12 : IV) (h19 : Hp) (ih : Handler) (x0 : IV) (x7 : IV) (x15 : IV) (x3 : IV) : Option (IV × Hp) :=
  condS x18 (ixS 3 x12 (.fv (.int .i64 0)) fun x20 => loadA 3 x20 h19 fun x21 _ => S50_346 ih h19 x0 x21 x7 x12) (eqS EE 3 x15 (.fv (.int .i64 4)) fun x79 => condS x79 (S50_357 x12 h19 ih x0 x7) (S50_384 x15 x12 h19 ih x0 x7 x3))
noncomputable def S50_386 (x12 : IV) (ih : Handler) (x0 : IV) (x7 : IV) (x15 : IV) (x3 : IV) (h8 : Hp) : Option (IV × Hp) :=
  (fun (j1_17 : IV → Hp → Option (IV × Hp)) => eqS EE 3 x15 (.fv (.int .i64 3)) fun x338 => condS x338 (j1_17 x338 h8) (eqS EE 3 x15 (.fv (.int .i64 6)) fun x339 => j1_17 x339 h8)) fun x18 h19 => S50_385 x18 x12 h19 ih x0 x7 x15 x3
noncomputable def S50 (ih : Handler) (n : Nat) (x0 : IV) (x1 : IV) (h2 : Hp) : Option (IV × Hp) :=
  boxS 52428800 x1 h2 fun x3 h4 _ _ => newS 52428801 (.row [.fv (.int .i64 0), .fv (.int .i64 0), .nils] false) (.ptr (.own 52428801) 0) h4 fun x7 h8 _ _ => faddrS 2 x3 fun x11 => load1 x11 h8 fun x12 _ => faddrS 0 x3 fun x14 => load1 x14 h8 fun x15 _ => S50_386 x12 ih x0 x7 x15 x3 h8
theorem S50_ok (ih : Handler) (n : Nat) (x0 : IV) (x1 : IV) (h2 : Hp) : funS EE ih ft.get n 50 [x0, x1] h2 = S50 ih n x0 x1 h2 := by kernel_rfl
/-! thyrsus/thyrsuslaw1.within -/
noncomputable def S51 (ih : Handler) (n : Nat) (x0 : IV) (x1 : IV) (h2 : Hp) : Option (IV × Hp) :=
  binS EE 3 .rem x0 x1 fun x3 => (fun (j1_4 : IV → Hp → Option (IV × Hp)) => ltS EE 3 x3 (.fv (.int .i64 0)) fun x7 => condS x7 (addS EE 3 x3 x1 fun x8 => j1_4 x8 h2) (j1_4 x3 h2)) fun x5 h6 => outS1 [x5] h6
theorem S51_ok (ih : Handler) (n : Nat) (x0 : IV) (x1 : IV) (h2 : Hp) : funS EE ih ft.get n 51 [x0, x1] h2 = S51 ih n x0 x1 h2 := by kernel_rfl
/-! thyrsus/thyrsusref4.Arity -/
noncomputable def S52_44 (x12 : IV) (h13 : Hp) (x0 : IV) : Option (IV × Hp) :=
  condS x12 (outS1 [.fv (.int .i64 3)] h13) (eqS EE 3 x0 (.fv (.int .i64 13)) fun x14 => condS x14 (outS1 [.fv (.int .i64 4)] h13) (outS1 [.fv (.int .i64 (-1))] h13))
noncomputable def S52_45 (x15 : IV) (j1_11 : IV → Hp → Option (IV × Hp)) (h10 : Hp) (x0 : IV) : Option (IV × Hp) :=
  condS x15 (j1_11 x15 h10) (eqS EE 3 x0 (.fv (.int .i64 27)) fun x16 => j1_11 x16 h10)
noncomputable def S52_46 (x9 : IV) (h10 : Hp) (x0 : IV) : Option (IV × Hp) :=
  condS x9 (outS1 [.fv (.int .i64 2)] h10) ((fun (j1_11 : IV → Hp → Option (IV × Hp)) => eqS EE 3 x0 (.fv (.int .i64 7)) fun x15 => S52_45 x15 j1_11 h10 x0) fun x12 h13 => S52_44 x12 h13 x0)
noncomputable def S52_47 (x0 : IV) (j1_8 : IV → Hp → Option (IV × Hp)) (h7 : Hp) : Option (IV × Hp) :=
  eqS EE 3 x0 (.fv (.int .i64 28)) fun x27 => condS x27 (j1_8 x27 h7) (eqS EE 3 x0 (.fv (.int .i64 29)) fun x28 => j1_8 x28 h7)
noncomputable def S52_48 (x0 : IV) (j1_8 : IV → Hp → Option (IV × Hp)) (h7 : Hp) : Option (IV × Hp) :=
  eqS EE 3 x0 (.fv (.int .i64 22)) fun x25 => condS x25 (j1_8 x25 h7) (eqS EE 3 x0 (.fv (.int .i64 26)) fun x26 => condS x26 (j1_8 x26 h7) (S52_47 x0 j1_8 h7))
noncomputable def S52_49 (x0 : IV) (j1_8 : IV → Hp → Option (IV × Hp)) (h7 : Hp) : Option (IV × Hp) :=
  eqS EE 3 x0 (.fv (.int .i64 20)) fun x23 => condS x23 (j1_8 x23 h7) (eqS EE 3 x0 (.fv (.int .i64 21)) fun x24 => condS x24 (j1_8 x24 h7) (S52_48 x0 j1_8 h7))
noncomputable def S52_50 (x0 : IV) (j1_8 : IV → Hp → Option (IV × Hp)) (h7 : Hp) : Option (IV × Hp) :=
  eqS EE 3 x0 (.fv (.int .i64 16)) fun x21 => condS x21 (j1_8 x21 h7) (eqS EE 3 x0 (.fv (.int .i64 17)) fun x22 => condS x22 (j1_8 x22 h7) (S52_49 x0 j1_8 h7))
noncomputable def S52_51 (x0 : IV) (j1_8 : IV → Hp → Option (IV × Hp)) (h7 : Hp) : Option (IV × Hp) :=
  eqS EE 3 x0 (.fv (.int .i64 5)) fun x19 => condS x19 (j1_8 x19 h7) (eqS EE 3 x0 (.fv (.int .i64 6)) fun x20 => condS x20 (j1_8 x20 h7) (S52_50 x0 j1_8 h7))
noncomputable def S52_52 (x17 : IV) (j1_8 : IV → Hp → Option (IV × Hp)) (h7 : Hp) (x0 : IV) : Option (IV × Hp) :=
  condS x17 (j1_8 x17 h7) (eqS EE 3 x0 (.fv (.int .i64 4)) fun x18 => condS x18 (j1_8 x18 h7) (S52_51 x0 j1_8 h7))
noncomputable def S52_53 (x6 : IV) (h7 : Hp) (x0 : IV) : Option (IV × Hp) :=
  condS x6 (outS1 [.fv (.int .i64 1)] h7) ((fun (j1_8 : IV → Hp → Option (IV × Hp)) => eqS EE 3 x0 (.fv (.int .i64 3)) fun x17 => S52_52 x17 j1_8 h7 x0) fun x9 h10 => S52_46 x9 h10 x0)
noncomputable def S52_54 (x0 : IV) (j1_5 : IV → Hp → Option (IV × Hp)) (h4 : Hp) : Option (IV × Hp) :=
  eqS EE 3 x0 (.fv (.int .i64 24)) fun x35 => condS x35 (j1_5 x35 h4) (eqS EE 3 x0 (.fv (.int .i64 30)) fun x36 => j1_5 x36 h4)
noncomputable def S52_55 (x0 : IV) (j1_5 : IV → Hp → Option (IV × Hp)) (h4 : Hp) : Option (IV × Hp) :=
  eqS EE 3 x0 (.fv (.int .i64 19)) fun x33 => condS x33 (j1_5 x33 h4) (eqS EE 3 x0 (.fv (.int .i64 23)) fun x34 => condS x34 (j1_5 x34 h4) (S52_54 x0 j1_5 h4))
noncomputable def S52_56 (x0 : IV) (j1_5 : IV → Hp → Option (IV × Hp)) (h4 : Hp) : Option (IV × Hp) :=
  eqS EE 3 x0 (.fv (.int .i64 12)) fun x31 => condS x31 (j1_5 x31 h4) (eqS EE 3 x0 (.fv (.int .i64 18)) fun x32 => condS x32 (j1_5 x32 h4) (S52_55 x0 j1_5 h4))
noncomputable def S52_57 (x29 : IV) (j1_5 : IV → Hp → Option (IV × Hp)) (h4 : Hp) (x0 : IV) : Option (IV × Hp) :=
  condS x29 (j1_5 x29 h4) (eqS EE 3 x0 (.fv (.int .i64 9)) fun x30 => condS x30 (j1_5 x30 h4) (S52_56 x0 j1_5 h4))
noncomputable def S52_58 (x3 : IV) (h4 : Hp) (x0 : IV) : Option (IV × Hp) :=
  condS x3 (outS1 [.fv (.int .i64 0)] h4) ((fun (j1_5 : IV → Hp → Option (IV × Hp)) => eqS EE 3 x0 (.fv (.int .i64 8)) fun x29 => S52_57 x29 j1_5 h4 x0) fun x6 h7 => S52_53 x6 h7 x0)
noncomputable def S52_59 (x0 : IV) (j1_2 : IV → Hp → Option (IV × Hp)) (h1 : Hp) : Option (IV × Hp) :=
  eqS EE 3 x0 (.fv (.int .i64 25)) fun x43 => j1_2 x43 h1
noncomputable def S52_60 (x0 : IV) (j1_2 : IV → Hp → Option (IV × Hp)) (h1 : Hp) : Option (IV × Hp) :=
  eqS EE 3 x0 (.fv (.int .i64 14)) fun x41 => condS x41 (j1_2 x41 h1) (eqS EE 3 x0 (.fv (.int .i64 15)) fun x42 => condS x42 (j1_2 x42 h1) (S52_59 x0 j1_2 h1))
noncomputable def S52_61 (x0 : IV) (j1_2 : IV → Hp → Option (IV × Hp)) (h1 : Hp) : Option (IV × Hp) :=
  eqS EE 3 x0 (.fv (.int .i64 10)) fun x39 => condS x39 (j1_2 x39 h1) (eqS EE 3 x0 (.fv (.int .i64 11)) fun x40 => condS x40 (j1_2 x40 h1) (S52_60 x0 j1_2 h1))
noncomputable def S52 (ih : Handler) (n : Nat) (x0 : IV) (h1 : Hp) : Option (IV × Hp) :=
  (fun (j1_2 : IV → Hp → Option (IV × Hp)) => eqS EE 3 x0 (.fv (.int .i64 1)) fun x37 => condS x37 (j1_2 x37 h1) (eqS EE 3 x0 (.fv (.int .i64 2)) fun x38 => condS x38 (j1_2 x38 h1) (S52_61 x0 j1_2 h1))) fun x3 h4 => S52_58 x3 h4 x0
theorem S52_ok (ih : Handler) (n : Nat) (x0 : IV) (h1 : Hp) : funS EE ih ft.get n 52 [x0] h1 = S52 ih n x0 h1 := by kernel_rfl
/-! thyrsus/thyrsuslaw1.kid -/
noncomputable def S53_35 (x17 : IV) (x1 : IV) (h8 : Hp) (x7 : IV) : Option (IV × Hp) :=
  ixS 3 x17 x1 fun x19 => loadA 3 x19 h8 fun x20 _ => storeA 3 x7 x20 h8 fun h22 _ _ => cellS true 3 x7 h22 fun x25 => outS1 [x25] h22
noncomputable def S53_36 (x27 : IV) (x1 : IV) (h8 : Hp) (x7 : IV) : Option (IV × Hp) :=
  addS EE 3 x27 x1 fun x29 => bldS [.fv (.int .i64 0), .fv (.int .i64 0), .nils] [(1, 1, x29)] fun x30 => storeA 3 x7 x30 h8 fun h31 _ _ => cellS true 3 x7 h31 fun x34 => outS1 [x34] h31
noncomputable def S53_37 (x15 : IV) (x3 : IV) (h8 : Hp) (x1 : IV) (x7 : IV) : Option (IV × Hp) :=
  condS x15 (faddrS 2 x3 fun x16 => load1 x16 h8 fun x17 _ => S53_35 x17 x1 h8 x7) (faddrS 1 x3 fun x26 => load1 x26 h8 fun x27 _ => S53_36 x27 x1 h8 x7)
noncomputable def S53 (ih : Handler) (n : Nat) (x0 : IV) (x1 : IV) (h2 : Hp) : Option (IV × Hp) :=
  boxS 55574528 x0 h2 fun x3 h4 _ _ => newS 55574529 (.row [.fv (.int .i64 0), .fv (.int .i64 0), .nils] false) (.ptr (.own 55574529) 0) h4 fun x7 h8 _ _ => faddrS 2 x3 fun x11 => load1 x11 h8 fun x12 _ => lenS x12 fun x14 => ltS EE 3 x1 x14 fun x15 => S53_37 x15 x3 h8 x1 x7
theorem S53_ok (ih : Handler) (n : Nat) (x0 : IV) (x1 : IV) (h2 : Hp) : funS EE ih ft.get n 53 [x0, x1] h2 = S53 ih n x0 x1 h2 := by kernel_rfl
/-! thyrsus/thyrsusref4.Binders -/
noncomputable def S54_18 (x1 : IV) (h7 : Hp) (j0_3 : Hp → Option (IV × Hp)) : Option (IV × Hp) :=
  eqS EE 3 x1 (.fv (.int .i64 0)) fun x10 => condS x10 (outS1 [.fv (.int .i64 1)] h7) (eqS EE 3 x1 (.fv (.int .i64 2)) fun x11 => condS x11 (outS1 [.fv (.int .i64 2)] h7) (j0_3 h7))
noncomputable def S54_19 (x6 : IV) (x1 : IV) (h7 : Hp) (j0_3 : Hp → Option (IV × Hp)) (x0 : IV) : Option (IV × Hp) :=
  condS x6 (eqS EE 3 x1 (.fv (.int .i64 1)) fun x8 => condS x8 (outS1 [.fv (.int .i64 1)] h7) (j0_3 h7)) (eqS EE 3 x0 (.fv (.int .i64 13)) fun x9 => condS x9 (S54_18 x1 h7 j0_3) (j0_3 h7))
noncomputable def S54_20 (x0 : IV) (j1_5 : IV → Hp → Option (IV × Hp)) (h2 : Hp) : Option (IV × Hp) :=
  eqS EE 3 x0 (.fv (.int .i64 29)) fun x17 => j1_5 x17 h2
noncomputable def S54_21 (x0 : IV) (j1_5 : IV → Hp → Option (IV × Hp)) (h2 : Hp) : Option (IV × Hp) :=
  eqS EE 3 x0 (.fv (.int .i64 20)) fun x15 => condS x15 (j1_5 x15 h2) (eqS EE 3 x0 (.fv (.int .i64 28)) fun x16 => condS x16 (j1_5 x16 h2) (S54_20 x0 j1_5 h2))
noncomputable def S54_22 (x13 : IV) (j1_5 : IV → Hp → Option (IV × Hp)) (h2 : Hp) (x0 : IV) : Option (IV × Hp) :=
  condS x13 (j1_5 x13 h2) (eqS EE 3 x0 (.fv (.int .i64 6)) fun x14 => condS x14 (j1_5 x14 h2) (S54_21 x0 j1_5 h2))
noncomputable def S54 (ih : Handler) (n : Nat) (x0 : IV) (x1 : IV) (h2 : Hp) : Option (IV × Hp) :=
  (fun (j0_3 : Hp → Option (IV × Hp)) => (fun (j1_5 : IV → Hp → Option (IV × Hp)) => eqS EE 3 x0 (.fv (.int .i64 3)) fun x12 => condS x12 (j1_5 x12 h2) (eqS EE 3 x0 (.fv (.int .i64 4)) fun x13 => S54_22 x13 j1_5 h2 x0)) fun x6 h7 => S54_19 x6 x1 h7 j0_3 x0) fun h4 => outS1 [.fv (.int .i64 0)] h4
theorem S54_ok (ih : Handler) (n : Nat) (x0 : IV) (x1 : IV) (h2 : Hp) : funS EE ih ft.get n 54 [x0, x1] h2 = S54 ih n x0 x1 h2 := by kernel_rfl
/-! thyrsus/thyrsuslaw4.within -/
noncomputable def S55 (ih : Handler) (n : Nat) (x0 : IV) (x1 : IV) (h2 : Hp) : Option (IV × Hp) :=
  binS EE 3 .rem x0 x1 fun x3 => (fun (j1_4 : IV → Hp → Option (IV × Hp)) => ltS EE 3 x3 (.fv (.int .i64 0)) fun x7 => condS x7 (addS EE 3 x3 x1 fun x8 => j1_4 x8 h2) (j1_4 x3 h2)) fun x5 h6 => outS1 [x5] h6
theorem S55_ok (ih : Handler) (n : Nat) (x0 : IV) (x1 : IV) (h2 : Hp) : funS EE ih ft.get n 55 [x0, x1] h2 = S55 ih n x0 x1 h2 := by kernel_rfl
/-! thyrsus/thyrsuslaw4.pick -/
noncomputable def S56_42 (x17 : IV) (x1 : IV) (h8 : Hp) (x7 : IV) : Option (IV × Hp) :=
  ixS 3 x17 x1 fun x19 => loadA 3 x19 h8 fun x20 _ => storeA 3 x7 x20 h8 fun h22 _ _ => cellS true 3 x7 h22 fun x25 => outS1 [x25] h22
noncomputable def S56_43 (x1 : IV) (x34 : IV) (x30 : IV) (h8 : Hp) (x7 : IV) : Option (IV × Hp) :=
  binS EE 3 .mul (.fv (.int .i64 7)) x1 fun x35 => addS EE 3 x34 x35 fun x36 => bldS [.fv (.int .i64 0), .fv (.int .i64 0), .nils] [(0, 1, x30), (1, 1, x36)] fun x37 => storeA 3 x7 x37 h8 fun h38 _ _ => cellS true 3 x7 h38 fun x41 => outS1 [x41] h38
noncomputable def S56_44 (x27 : IV) (x1 : IV) (x3 : IV) (h8 : Hp) (x7 : IV) : Option (IV × Hp) :=
  binS EE 3 .quo x27 (.fv (.int .i64 3)) fun x29 => addS EE 3 x29 x1 fun x30 => faddrS 1 x3 fun x31 => load1 x31 h8 fun x32 _ => binS EE 3 .quo x32 (.fv (.int .i64 5)) fun x34 => S56_43 x1 x34 x30 h8 x7
noncomputable def S56_45 (x15 : IV) (x3 : IV) (h8 : Hp) (x1 : IV) (x7 : IV) : Option (IV × Hp) :=
  condS x15 (faddrS 2 x3 fun x16 => load1 x16 h8 fun x17 _ => S56_42 x17 x1 h8 x7) (faddrS 0 x3 fun x26 => load1 x26 h8 fun x27 _ => S56_44 x27 x1 x3 h8 x7)
noncomputable def S56 (ih : Handler) (n : Nat) (x0 : IV) (x1 : IV) (h2 : Hp) : Option (IV × Hp) :=
  boxS 58720256 x0 h2 fun x3 h4 _ _ => newS 58720257 (.row [.fv (.int .i64 0), .fv (.int .i64 0), .nils] false) (.ptr (.own 58720257) 0) h4 fun x7 h8 _ _ => faddrS 2 x3 fun x11 => load1 x11 h8 fun x12 _ => lenS x12 fun x14 => ltS EE 3 x1 x14 fun x15 => S56_45 x15 x3 h8 x1 x7
theorem S56_ok (ih : Handler) (n : Nat) (x0 : IV) (x1 : IV) (h2 : Hp) : funS EE ih ft.get n 56 [x0, x1] h2 = S56 ih n x0 x1 h2 := by kernel_rfl
/-! thyrsus/thyrsusref3.Digits -/
noncomputable def S57_29 (x0 : IV) (ih : Handler) (h1 : Hp) : Option (IV × Hp) :=
  subS EE 3 (.fv (.int .i64 0)) x0 fun x4 => isoS [] false false ih 57 [x4] h1 fun x5 h6 _ _ => addS EE 9 (.fv (.str ⟨#[45]⟩)) x5 fun x9 => outS1 [x9] h6
noncomputable def S57_30 (x0 : IV) (ih : Handler) (h1 : Hp) : Option (IV × Hp) :=
  binS EE 3 .quo x0 (.fv (.int .i64 10)) fun x11 => isoS [] false false ih 57 [x11] h1 fun x12 h13 _ _ => binS EE 3 .rem x0 (.fv (.int .i64 10)) fun x16 => isoS [] false false ih 57 [x16] h13 fun x17 h18 _ _ => addS EE 9 x12 x17 fun x21 => outS1 [x21] h18
noncomputable def S57_31 (x0 : IV) (h1 : Hp) : Option (IV × Hp) :=
  addS EE 3 (.fv (.int .i64 48)) x0 fun x22 => optS (convR EE 3 5 x22) fun x23 => genS (pcBuildSlice EE 112 1 [(0, x23)]) 59776003 h1 fun x24 h25 _ _ => optS (convR EE 112 9 x24) fun x28 => outS1 [x28] h25
noncomputable def S57 (ih : Handler) (n : Nat) (x0 : IV) (h1 : Hp) : Option (IV × Hp) :=
  ltS EE 3 x0 (.fv (.int .i64 0)) fun x2 => condS x2 (eqS EE 3 x0 (.fv (.int .i64 (-9223372036854775808))) fun x3 => condS x3 (outS1 [.fv (.str ⟨#[45, 57, 50, 50, 51, 51, 55, 50, 48, 51, 54, 56, 53, 52, 55, 55, 53, 56, 48, 56]⟩)] h1) (S57_29 x0 ih h1)) (geS EE 3 x0 (.fv (.int .i64 10)) fun x10 => condS x10 (S57_30 x0 ih h1) (S57_31 x0 h1))
theorem S57_ok (ih : Handler) (n : Nat) (x0 : IV) (h1 : Hp) : funS EE ih ft.get n 57 [x0] h1 = S57 ih n x0 h1 := by kernel_rfl
/-! thyrsus/thyrsuslaw4.variable -/
noncomputable def S58_133 (x22 : IV) (h4 : Hp) (h27 : Hp) (x16 : IV) (x17 : IV) (x18 : IV) (x19 : IV) (x20 : IV) (x26 : IV) (q13 : List IV → Hp → Option (IV × Hp)) : Option (IV × Hp) :=
  addS EE 3 x22 (.fv (.int .i64 1)) fun x28 => dropS (h4.own.map (·.1)) [60823568, 60825603] [x16, x17, x18, x19, x20, x26, x28] h27 fun h29 => q13 [x16, x17, x18, x19, x20, x26, x28] h29
noncomputable def S58_134 (h90 : Hp) (x22 : IV) (x21 : IV) (j1_25 : IV → Hp → Option (IV × Hp)) : Option (IV × Hp) :=
  genS (pcBuildSlice EE 75 1 [(0, x22)]) 60825602 h90 fun x94 h95 _ _ => genS (builtinR EE 60825603 false .append [75, 75] [x21, x94]) 60825603 h95 fun x98 h99 _ _ => j1_25 x98 h99
noncomputable def S58_135 (r86 : List Ref) (w87 : List Ref) (h85 : Hp) (x63 : IV) (ih : Handler) (x72 : IV) (x84 : IV) (x22 : IV) (x21 : IV) (j1_25 : IV → Hp → Option (IV × Hp)) : Option (IV × Hp) :=
  chkS [] r86 w87 (guardS x63 true h85 (fun k88 => isoS [] false false ih 17 [x72, x84] h85 k88) fun x89 h90 r91 w92 => chkS [] r91 w92 (pickS x63 x89 (.fv (.bool false)) fun x93 => condS x93 (S58_134 h90 x22 x21 j1_25) (j1_25 x21 h90)))
noncomputable def S58_136 (h68 : Hp) (x63 : IV) (ih : Handler) (x67 : IV) (x19 : IV) (r69 : List Ref) (w70 : List Ref) (x22 : IV) (x21 : IV) (j1_25 : IV → Hp → Option (IV × Hp)) : Option (IV × Hp) :=
  guardS x63 true h68 (fun k71 => isoS [] false false ih 86 [x67] h68 k71) fun x72 h73 r74 w75 => chkS [] r74 w75 (guardS x63 true h73 (fun k76 => loadA 3 x19 h73 fun x77 r78 => k76 x77 h73 r78 []) fun x79 h80 r81 w82 => chkS [(r74, w75), (r69, w70)] r81 w82 (guardS x63 true h80 (fun k83 => isoS [] false false ih 86 [x79] h80 k83) fun x84 h85 r86 w87 => S58_135 r86 w87 h85 x63 ih x72 x84 x22 x21 j1_25))
noncomputable def S58_137 (h51 : Hp) (x54 : IV) (x55 : IV) (ih : Handler) (x19 : IV) (x22 : IV) (x21 : IV) (j1_25 : IV → Hp → Option (IV × Hp)) : Option (IV × Hp) :=
  newS 60823568 (.row [.fv (.int .i64 0), .fv (.int .i64 0), .nils] false) (.ptr (.own 60823568) 0) h51 fun x56 h57 _ _ => storeA 3 x56 x54 h57 fun h60 _ _ => eqS EE 3 x55 (.fv (.int .i64 0)) fun x63 => guardS x63 true h60 (fun k64 => loadA 3 x56 h60 fun x65 r66 => k64 x65 h60 r66 []) fun x67 h68 r69 w70 => chkS [] r69 w70 (S58_136 h68 x63 ih x67 x19 r69 w70 x22 x21 j1_25)
noncomputable def S58_138 (x22 : IV) (ih : Handler) (h15 : Hp) (x43 : IV) (x19 : IV) (x21 : IV) (j1_25 : IV → Hp → Option (IV × Hp)) : Option (IV × Hp) :=
  addS EE 3 x22 (.fv (.int .i64 1)) fun x45 => isoS [] false false ih 45 [x43, x45, .fv (.int .i64 0)] h15 fun x46 h47 _ _ => isoS [] false false ih 34 [x46] h47 fun x50 h51 _ _ => extS 0 x50 fun x54 => extS 1 x50 fun x55 => S58_137 h51 x54 x55 ih x19 x22 x21 j1_25
noncomputable def S58_139 (x38 : IV) (x22 : IV) (x16 : IV) (h15 : Hp) (ih : Handler) (x19 : IV) (x21 : IV) (j1_25 : IV → Hp → Option (IV × Hp)) : Option (IV × Hp) :=
  subS EE 3 x38 (.fv (.int .i64 1)) fun x39 => subS EE 3 x39 x22 fun x40 => ixS 4 x16 x40 fun x41 => faddrS 1 x41 fun x42 => loadA 3 x42 h15 fun x43 _ => S58_138 x22 ih h15 x43 x19 x21 j1_25
noncomputable def S58_140 (x33 : IV) (h15 : Hp) (x17 : IV) (j1_25 : IV → Hp → Option (IV × Hp)) (x21 : IV) (x16 : IV) (x22 : IV) (ih : Handler) (x19 : IV) : Option (IV × Hp) :=
  faddrS 0 x33 fun x34 => load1 x34 h15 fun x35 _ => neS EE 3 x35 x17 fun x37 => condS x37 (j1_25 x21 h15) (lenS x16 fun x38 => S58_139 x38 x22 x16 h15 ih x19 x21 j1_25)
noncomputable def S58_141 (x22 : IV) (h4 : Hp) (x16 : IV) (x17 : IV) (x18 : IV) (x19 : IV) (x20 : IV) (q13 : List IV → Hp → Option (IV × Hp)) (h15 : Hp) (x21 : IV) (ih : Handler) : Option (IV × Hp) :=
  (fun (j1_25 : IV → Hp → Option (IV × Hp)) => lenS x16 fun x30 => subS EE 3 x30 (.fv (.int .i64 1)) fun x31 => subS EE 3 x31 x22 fun x32 => ixS 4 x16 x32 fun x33 => S58_140 x33 h15 x17 j1_25 x21 x16 x22 ih x19) fun x26 h27 => S58_133 x22 h4 h27 x16 x17 x18 x19 x20 x26 q13
noncomputable def S58_142 (h15 : Hp) (x20 : IV) (x104 : IV) : Option (IV × Hp) :=
  storeA 3 x20 x104 h15 fun h105 _ _ => cellS true 3 x20 h105 fun x108 => outS1 [x108, .fv (.bool false)] h105
noncomputable def S58_143 (h121 : Hp) (x20 : IV) : Option (IV × Hp) :=
  cellS true 3 x20 h121 fun x124 => outS1 [x124, .fv (.bool true)] h121
noncomputable def S58_144 (ih : Handler) (h15 : Hp) (x18 : IV) (x109 : IV) (x21 : IV) (x20 : IV) : Option (IV × Hp) :=
  isoS [] false false ih 55 [x18, x109] h15 fun x110 h111 _ _ => ixS 1 x21 x110 fun x114 => load1 x114 h111 fun x115 _ => isoS [] false false ih 25 [x115] h111 fun x117 h118 _ _ => storeA 3 x20 x117 h118 fun h121 _ _ => S58_143 h121 x20
noncomputable def S58_145 (x21 : IV) (h15 : Hp) (x20 : IV) (ih : Handler) (x18 : IV) : Option (IV × Hp) :=
  lenS x21 fun x102 => eqS EE 3 x102 (.fv (.int .i64 0)) fun x103 => condS x103 (bldS [.fv (.int .i64 0), .fv (.int .i64 0), .nils] [] fun x104 => S58_142 h15 x20 x104) (lenS x21 fun x109 => S58_144 ih h15 x18 x109 x21 x20)
noncomputable def S58_146 (l129 : List IV) (x16 : IV) (h4 : Hp) (x17 : IV) (x18 : IV) (x19 : IV) (x20 : IV) (q13 : List IV → Hp → Option (IV × Hp)) (h15 : Hp) (ih : Handler) : Option (IV × Hp) :=
  uncS l129 fun x21 l130 => uncS l130 fun x22 _ => lenS x16 fun x23 => ltS EE 3 x22 x23 fun x24 => condS x24 (S58_141 x22 h4 x16 x17 x18 x19 x20 q13 h15 x21 ih) (S58_145 x21 h15 x20 ih x18)
noncomputable def S58_147 (l14 : List IV) (h4 : Hp) (q13 : List IV → Hp → Option (IV × Hp)) (h15 : Hp) (ih : Handler) : Option (IV × Hp) :=
  uncS l14 fun x16 l125 => uncS l125 fun x17 l126 => uncS l126 fun x18 l127 => uncS l127 fun x19 l128 => uncS l128 fun x20 l129 => S58_146 l129 x16 h4 x17 x18 x19 x20 q13 h15 ih
noncomputable def S58 (ih : Handler) (n : Nat) (x0 : IV) (x1 : IV) (x2 : IV) (x3 : IV) (h4 : Hp) : Option (IV × Hp) :=
  boxS 60817408 x2 h4 fun x5 h6 _ _ => newS 60817409 (.row [.fv (.int .i64 0), .fv (.int .i64 0), .nils] false) (.ptr (.own 60817409) 0) h6 fun x9 h10 _ _ => dropS (h4.own.map (·.1)) [60823568, 60825603] [x0, x1, x3, x5, x9, .nils, .fv (.int .i64 0)] h10 fun h132 => loopS n (fun q13 l14 h15 => S58_147 l14 h4 q13 h15 ih) [x0, x1, x3, x5, x9, .nils, .fv (.int .i64 0)] h132
theorem S58_ok (ih : Handler) (n : Nat) (x0 : IV) (x1 : IV) (x2 : IV) (x3 : IV) (h4 : Hp) : funS EE ih ft.get n 58 [x0, x1, x2, x3] h4 = S58 ih n x0 x1 x2 x3 h4 := by kernel_rfl
end Idl
end Go.Proofs.Ytkfecngimlcfoaa

/-
  THE SHALLOW FORM OF THE SEAT'S FUNCTIONS, a part; each is what its code's shallow run is. Printed by a program of mine (gen-sh). No statement is proved here.
-/
import Derived.Test.YtkfecngimlcfoaaTab
import Derived.Test.YtkfecngimlcfoaaIdl31
set_option maxRecDepth 100000
set_option linter.unusedVariables false
namespace Go.Proofs.Ytkfecngimlcfoaa
namespace Idl
/-! thyrsus/thyrsusref7.Infer -/
noncomputable def S20_324 (ih : Handler) (h9 : Hp) (x8 : IV) : Option (IV × Hp) :=
  isoS [] false false ih 44 [.fv (.int .i64 8)] h9 fun x21 h22 _ _ => extS 0 x21 fun x25 => extS 1 x21 fun x26 => storeA 3 x8 x25 h22 fun h27 _ _ => cellS true 3 x8 h27 fun x30 => outS1 [x30, x26] h27
noncomputable def S20_325 (x51 : IV) (h52 : Hp) (x8 : IV) : Option (IV × Hp) :=
  extS 0 x51 fun x55 => extS 1 x51 fun x56 => storeA 3 x8 x55 h52 fun h57 _ _ => cellS true 3 x8 h57 fun x60 => outS1 [x60, x56] h57
noncomputable def S20_326 (ih : Handler) (h69 : Hp) (x68 : IV) (x8 : IV) : Option (IV × Hp) :=
  isoS [] false false ih 34 [x68] h69 fun x72 h73 _ _ => extS 0 x72 fun x76 => extS 1 x72 fun x77 => storeA 3 x8 x76 h73 fun h78 _ _ => cellS true 3 x8 h78 fun x81 => outS1 [x81, x77] h78
noncomputable def S20_327 (h44 : Hp) (x61 : IV) (x4 : IV) (ih : Handler) (x8 : IV) : Option (IV × Hp) :=
  loadA 3 x61 h44 fun x62 _ => faddrS 1 x4 fun x64 => load1 x64 h44 fun x65 _ => addS EE 3 x65 (.fv (.int .i64 1)) fun x67 => isoS [] false false ih 45 [x62, x67, .fv (.int .i64 0)] h44 fun x68 h69 _ _ => S20_326 ih h69 x68 x8
noncomputable def S20_328 (h44 : Hp) (x47 : IV) (x1 : IV) (ih : Handler) (x8 : IV) (x40 : IV) (x4 : IV) : Option (IV × Hp) :=
  load1 x47 h44 fun x48 _ => neS EE 3 x48 x1 fun x50 => condS x50 (isoS [] false false ih 44 [.fv (.int .i64 10)] h44 fun x51 h52 _ _ => S20_325 x51 h52 x8) (faddrS 1 x40 fun x61 => S20_327 h44 x61 x4 ih x8)
noncomputable def S20_329 (x0 : IV) (x36 : IV) (h9 : Hp) (x1 : IV) (ih : Handler) (x8 : IV) (x4 : IV) : Option (IV × Hp) :=
  ixS 4 x0 x36 fun x37 => loadA 4 x37 h9 fun x38 _ => newS 20975625 (.row [.fv (.int .i64 0), .fv (.int .i64 0), .fv (.int .i64 0), .nils] false) (.ptr (.own 20975625) 0) h9 fun x40 h41 _ _ => storeA 4 x40 x38 h41 fun h44 _ _ => faddrS 0 x40 fun x47 => S20_328 h44 x47 x1 ih x8 x40 x4
noncomputable def S20_330 (x0 : IV) (x4 : IV) (h9 : Hp) (x1 : IV) (ih : Handler) (x8 : IV) : Option (IV × Hp) :=
  lenS x0 fun x31 => subS EE 3 x31 (.fv (.int .i64 1)) fun x32 => faddrS 1 x4 fun x33 => load1 x33 h9 fun x34 _ => subS EE 3 x32 x34 fun x36 => S20_329 x0 x36 h9 x1 ih x8 x4
noncomputable def S20_331 (x4 : IV) (h9 : Hp) (x0 : IV) (ih : Handler) (x8 : IV) (x1 : IV) : Option (IV × Hp) :=
  faddrS 1 x4 fun x16 => load1 x16 h9 fun x17 _ => lenS x0 fun x19 => geS EE 3 x17 x19 fun x20 => condS x20 (S20_324 ih h9 x8) (S20_330 x0 x4 h9 x1 ih x8)
noncomputable def S20_332 (x88 : IV) (h89 : Hp) (x8 : IV) (x92 : IV) : Option (IV × Hp) :=
  extS 1 x88 fun x93 => storeA 3 x8 x92 h89 fun h94 _ _ => cellS true 3 x8 h94 fun x97 => outS1 [x97, x93] h94
noncomputable def S20_333 (h107 : Hp) (x8 : IV) (x106 : IV) : Option (IV × Hp) :=
  cellS true 3 x8 h107 fun x110 => outS1 [x110, x106] h107
noncomputable def S20_334 (h9 : Hp) (x4 : IV) (ih : Handler) (x0 : IV) (x8 : IV) : Option (IV × Hp) :=
  loadA 3 x4 h9 fun x99 _ => isoS [] false false ih 46 [x0, x99] h9 fun x101 h102 _ _ => extS 0 x101 fun x105 => extS 1 x101 fun x106 => storeA 3 x8 x105 h102 fun h107 _ _ => S20_333 h107 x8 x106
noncomputable def S20_335 (x119 : IV) (h120 : Hp) (x8 : IV) : Option (IV × Hp) :=
  extS 0 x119 fun x123 => extS 1 x119 fun x124 => storeA 3 x8 x123 h120 fun h125 _ _ => cellS true 3 x8 h125 fun x128 => outS1 [x128, x124] h125
noncomputable def S20_336 (h9 : Hp) (x129 : IV) (ih : Handler) (x8 : IV) : Option (IV × Hp) :=
  load1 x129 h9 fun x130 _ => addS EE 3 x130 (.fv (.int .i64 1)) fun x132 => isoS [] false false ih 47 [x132] h9 fun x133 h134 _ _ => storeA 3 x8 x133 h134 fun h137 _ _ => cellS true 3 x8 h137 fun x140 => outS1 [x140, .fv (.int .i64 0)] h137
noncomputable def S20_337 (h9 : Hp) (x115 : IV) (ih : Handler) (x8 : IV) (x4 : IV) : Option (IV × Hp) :=
  load1 x115 h9 fun x116 _ => eqS EE 3 x116 (.fv (.int .i64 2)) fun x118 => condS x118 (isoS [] false false ih 44 [.fv (.int .i64 13)] h9 fun x119 h120 _ _ => S20_335 x119 h120 x8) (faddrS 1 x4 fun x129 => S20_336 h9 x129 ih x8)
noncomputable def S20_338 (h148 : Hp) (x8 : IV) : Option (IV × Hp) :=
  cellS true 3 x8 h148 fun x151 => outS1 [x151, .fv (.int .i64 0)] h148
noncomputable def S20_339 (ih : Handler) (h143 : Hp) (x8 : IV) : Option (IV × Hp) :=
  isoS [] false false ih 24 [.fv (.int .i64 10), .nils] h143 fun x153 h154 _ _ => storeA 3 x8 x153 h154 fun h157 _ _ => cellS true 3 x8 h157 fun x160 => outS1 [x160, .fv (.int .i64 0)] h157
noncomputable def S20_340 (ih : Handler) (h173 : Hp) (x172 : IV) (x8 : IV) : Option (IV × Hp) :=
  isoS [] false false ih 44 [x172] h173 fun x177 h178 _ _ => extS 0 x177 fun x181 => extS 1 x177 fun x182 => storeA 3 x8 x181 h178 fun h183 _ _ => cellS true 3 x8 h183 fun x186 => outS1 [x186, x182] h183
noncomputable def S20_341 (ih : Handler) (h173 : Hp) (x8 : IV) : Option (IV × Hp) :=
  isoS [] false false ih 24 [.fv (.int .i64 10), .nils] h173 fun x187 h188 _ _ => storeA 3 x8 x187 h188 fun h191 _ _ => cellS true 3 x8 h191 fun x194 => outS1 [x194, .fv (.int .i64 0)] h191
noncomputable def S20_342 (r170 : List Ref) (w171 : List Ref) (r167 : List Ref) (r164 : List Ref) (ih : Handler) (h169 : Hp) (x0 : IV) (x166 : IV) (x168 : IV) (x8 : IV) : Option (IV × Hp) :=
  chkS [(r167, []), (r164, [])] r170 w171 (isoS [] false false ih 48 [x0, .fv (.int .i64 1), x166, x168] h169 fun x172 h173 r174 w175 => chkS [] r174 w175 (neS EE 3 x172 (.fv (.int .i64 0)) fun x176 => condS x176 (S20_340 ih h173 x172 x8) (S20_341 ih h173 x8)))
noncomputable def S20_343 (r164 : List Ref) (x163 : IV) (h143 : Hp) (ih : Handler) (x0 : IV) (x8 : IV) : Option (IV × Hp) :=
  chkS [] r164 [] (ixS 3 x163 (.fv (.int .i64 0)) fun x165 => loadA 3 x165 h143 fun x166 r167 => chkS [] r167 [] (isoS [] false false ih 24 [.fv (.int .i64 10), .nils] h143 fun x168 h169 r170 w171 => S20_342 r170 w171 r167 r164 ih h169 x0 x166 x168 x8))
noncomputable def S20_344 (x210 : IV) (h211 : Hp) (x8 : IV) (x214 : IV) : Option (IV × Hp) :=
  extS 1 x210 fun x215 => storeA 3 x8 x214 h211 fun h216 _ _ => cellS true 3 x8 h216 fun x219 => outS1 [x219, x215] h216
noncomputable def S20_345 (h224 : Hp) (x8 : IV) : Option (IV × Hp) :=
  cellS true 3 x8 h224 fun x227 => outS1 [x227, .fv (.int .i64 0)] h224
noncomputable def S20_346 (x205 : IV) (ih : Handler) (h206 : Hp) (x8 : IV) : Option (IV × Hp) :=
  neS EE 3 x205 (.fv (.int .i64 0)) fun x209 => condS x209 (isoS [] false false ih 44 [x205] h206 fun x210 h211 _ _ => extS 0 x210 fun x214 => S20_344 x210 h211 x8 x214) (isoS [] false false ih 24 [.fv (.int .i64 14), .nils] h206 fun x220 h221 _ _ => storeA 3 x8 x220 h221 fun h224 _ _ => S20_345 h224 x8)
noncomputable def S20_347 (r200 : List Ref) (ih : Handler) (h197 : Hp) (x0 : IV) (x199 : IV) (x8 : IV) : Option (IV × Hp) :=
  chkS [] r200 [] (isoS [] false false ih 24 [.fv (.int .i64 14), .nils] h197 fun x201 h202 r203 w204 => chkS [(r200, [])] r203 w204 (isoS [] false false ih 49 [x0, .fv (.int .i64 1), x199, x201] h202 fun x205 h206 r207 w208 => chkS [] r207 w208 (S20_346 x205 ih h206 x8)))
noncomputable def S20_348 (x244 : IV) (h245 : Hp) (x8 : IV) (x248 : IV) : Option (IV × Hp) :=
  extS 1 x244 fun x249 => storeA 3 x8 x248 h245 fun h250 _ _ => cellS true 3 x8 h250 fun x253 => outS1 [x253, x249] h250
noncomputable def S20_349 (h258 : Hp) (x8 : IV) : Option (IV × Hp) :=
  cellS true 3 x8 h258 fun x261 => outS1 [x261, .fv (.int .i64 0)] h258
noncomputable def S20_350 (x239 : IV) (ih : Handler) (h240 : Hp) (x8 : IV) : Option (IV × Hp) :=
  neS EE 3 x239 (.fv (.int .i64 0)) fun x243 => condS x243 (isoS [] false false ih 44 [x239] h240 fun x244 h245 _ _ => extS 0 x244 fun x248 => S20_348 x244 h245 x8 x248) (isoS [] false false ih 47 [.fv (.int .i64 0)] h240 fun x254 h255 _ _ => storeA 3 x8 x254 h255 fun h258 _ _ => S20_349 h258 x8)
noncomputable def S20_351 (r234 : List Ref) (ih : Handler) (h197 : Hp) (r231 : List Ref) (x0 : IV) (x233 : IV) (x8 : IV) : Option (IV × Hp) :=
  chkS [] r234 [] (isoS [] false false ih 24 [.fv (.int .i64 14), .nils] h197 fun x235 h236 r237 w238 => chkS [(r234, []), (r231, [])] r237 w238 (isoS [] false false ih 48 [x0, .fv (.int .i64 1), x233, x235] h236 fun x239 h240 r241 w242 => chkS [] r241 w242 (S20_350 x239 ih h240 x8)))
noncomputable def S20_352 (x4 : IV) (h197 : Hp) (ih : Handler) (x0 : IV) (x8 : IV) : Option (IV × Hp) :=
  faddrS 2 x4 fun x229 => load1 x229 h197 fun x230 r231 => chkS [] r231 [] (ixS 3 x230 (.fv (.int .i64 0)) fun x232 => loadA 3 x232 h197 fun x233 r234 => S20_351 r234 ih h197 r231 x0 x233 x8)
noncomputable def S20_353 (x283 : IV) (h284 : Hp) (x8 : IV) : Option (IV × Hp) :=
  extS 0 x283 fun x287 => extS 1 x283 fun x288 => storeA 3 x8 x287 h284 fun h289 _ _ => cellS true 3 x8 h289 fun x292 => outS1 [x292, x288] h289
noncomputable def S20_354 (h279 : Hp) (x293 : IV) (ih : Handler) (x8 : IV) : Option (IV × Hp) :=
  genS (pcBuildSlice EE 28 1 [(0, x293)]) 21015553 h279 fun x295 h296 _ _ => isoS [] false false ih 24 [.fv (.int .i64 18), x295] h296 fun x299 h300 _ _ => storeA 3 x8 x299 h300 fun h303 _ _ => cellS true 3 x8 h303 fun x306 => outS1 [x306, .fv (.int .i64 0)] h303
noncomputable def S20_355 (h270 : Hp) (x273 : IV) (x274 : IV) (ih : Handler) (x8 : IV) : Option (IV × Hp) :=
  newS 21012489 (.row [.fv (.int .i64 0), .fv (.int .i64 0), .nils] false) (.ptr (.own 21012489) 0) h270 fun x275 h276 _ _ => storeA 3 x275 x273 h276 fun h279 _ _ => neS EE 3 x274 (.fv (.int .i64 0)) fun x282 => condS x282 (isoS [] false false ih 44 [x274] h279 fun x283 h284 _ _ => S20_353 x283 h284 x8) (loadA 3 x275 h279 fun x293 _ => S20_354 h279 x293 ih x8)
noncomputable def S20_356 (x264 : IV) (h197 : Hp) (ih : Handler) (x0 : IV) (x8 : IV) : Option (IV × Hp) :=
  ixS 3 x264 (.fv (.int .i64 0)) fun x266 => loadA 3 x266 h197 fun x267 _ => isoS [] false false ih 20 [x0, .fv (.int .i64 0), x267] h197 fun x269 h270 _ _ => extS 0 x269 fun x273 => extS 1 x269 fun x274 => S20_355 h270 x273 x274 ih x8
noncomputable def S20_357 (x309 : IV) (h310 : Hp) (x8 : IV) : Option (IV × Hp) :=
  extS 0 x309 fun x313 => extS 1 x309 fun x314 => storeA 3 x8 x313 h310 fun h315 _ _ => cellS true 3 x8 h315 fun x318 => outS1 [x318, x314] h315
noncomputable def S20_358 (x112 : IV) (x4 : IV) (h197 : Hp) (ih : Handler) (x0 : IV) (x8 : IV) : Option (IV × Hp) :=
  eqS EE 3 x112 (.fv (.int .i64 19)) fun x262 => condS x262 (faddrS 2 x4 fun x263 => load1 x263 h197 fun x264 _ => S20_356 x264 h197 ih x0 x8) (loadA 3 x4 h197 fun x307 _ => isoS [] false false ih 50 [x0, x307] h197 fun x309 h310 _ _ => S20_357 x309 h310 x8)
noncomputable def S20_359 (x196 : IV) (x4 : IV) (h197 : Hp) (ih : Handler) (x0 : IV) (x8 : IV) (x112 : IV) : Option (IV × Hp) :=
  condS x196 (faddrS 2 x4 fun x198 => load1 x198 h197 fun x199 r200 => S20_347 r200 ih h197 x0 x199 x8) (eqS EE 3 x112 (.fv (.int .i64 18)) fun x228 => condS x228 (S20_352 x4 h197 ih x0 x8) (S20_358 x112 x4 h197 ih x0 x8))
noncomputable def S20_360 (x112 : IV) (j1_195 : IV → Hp → Option (IV × Hp)) (h143 : Hp) : Option (IV × Hp) :=
  eqS EE 3 x112 (.fv (.int .i64 17)) fun x321 => j1_195 x321 h143
noncomputable def S20_361 (x319 : IV) (j1_195 : IV → Hp → Option (IV × Hp)) (h143 : Hp) (x112 : IV) : Option (IV × Hp) :=
  condS x319 (j1_195 x319 h143) (eqS EE 3 x112 (.fv (.int .i64 16)) fun x320 => condS x320 (j1_195 x320 h143) (S20_360 x112 j1_195 h143))
noncomputable def S20_362 (x112 : IV) (x4 : IV) (h143 : Hp) (ih : Handler) (x0 : IV) (x8 : IV) : Option (IV × Hp) :=
  eqS EE 3 x112 (.fv (.int .i64 12)) fun x161 => condS x161 (faddrS 2 x4 fun x162 => load1 x162 h143 fun x163 r164 => S20_343 r164 x163 h143 ih x0 x8) ((fun (j1_195 : IV → Hp → Option (IV × Hp)) => eqS EE 3 x112 (.fv (.int .i64 15)) fun x319 => S20_361 x319 j1_195 h143 x112) fun x196 h197 => S20_359 x196 x4 h197 ih x0 x8 x112)
noncomputable def S20_363 (x142 : IV) (ih : Handler) (h143 : Hp) (x8 : IV) (x112 : IV) (x4 : IV) (x0 : IV) : Option (IV × Hp) :=
  condS x142 (isoS [] false false ih 47 [.fv (.int .i64 0)] h143 fun x144 h145 _ _ => storeA 3 x8 x144 h145 fun h148 _ _ => S20_338 h148 x8) (eqS EE 3 x112 (.fv (.int .i64 11)) fun x152 => condS x152 (S20_339 ih h143 x8) (S20_362 x112 x4 h143 ih x0 x8))
noncomputable def S20_364 (x112 : IV) (j1_141 : IV → Hp → Option (IV × Hp)) (h9 : Hp) : Option (IV × Hp) :=
  eqS EE 3 x112 (.fv (.int .i64 10)) fun x322 => condS x322 (j1_141 x322 h9) (eqS EE 3 x112 (.fv (.int .i64 14)) fun x323 => j1_141 x323 h9)
noncomputable def S20_365 (x4 : IV) (h9 : Hp) (ih : Handler) (x8 : IV) (x0 : IV) : Option (IV × Hp) :=
  faddrS 0 x4 fun x111 => load1 x111 h9 fun x112 _ => eqS EE 3 x112 (.fv (.int .i64 2)) fun x114 => condS x114 (faddrS 1 x4 fun x115 => S20_337 h9 x115 ih x8 x4) ((fun (j1_141 : IV → Hp → Option (IV × Hp)) => S20_364 x112 j1_141 h9) fun x142 h143 => S20_363 x142 ih h143 x8 x112 x4 x0)
noncomputable def S20_366 (x87 : IV) (ih : Handler) (h9 : Hp) (x8 : IV) (x1 : IV) (x4 : IV) (x0 : IV) : Option (IV × Hp) :=
  condS x87 (isoS [] false false ih 44 [.fv (.int .i64 10)] h9 fun x88 h89 _ _ => extS 0 x88 fun x92 => S20_332 x88 h89 x8 x92) (eqS EE 3 x1 (.fv (.int .i64 0)) fun x98 => condS x98 (S20_334 h9 x4 ih x0 x8) (S20_365 x4 h9 ih x8 x0))
noncomputable def S20_367 (x4 : IV) (h9 : Hp) (x1 : IV) (ih : Handler) (x8 : IV) (x0 : IV) : Option (IV × Hp) :=
  faddrS 0 x4 fun x82 => load1 x82 h9 fun x83 _ => geS EE 3 x83 (.fv (.int .i64 20)) fun x85 => eqS EE 3 x1 (.fv (.int .i64 0)) fun x86 => neS EE 4 x85 x86 fun x87 => S20_366 x87 ih h9 x8 x1 x4 x0
noncomputable def S20 (ih : Handler) (n : Nat) (x0 : IV) (x1 : IV) (x2 : IV) (h3 : Hp) : Option (IV × Hp) :=
  boxS 20971520 x2 h3 fun x4 h5 _ _ => newS 20971521 (.row [.fv (.int .i64 0), .fv (.int .i64 0), .nils] false) (.ptr (.own 20971521) 0) h5 fun x8 h9 _ _ => faddrS 0 x4 fun x12 => load1 x12 h9 fun x13 _ => eqS EE 3 x13 (.fv (.int .i64 1)) fun x15 => condS x15 (S20_331 x4 h9 x0 ih x8 x1) (S20_367 x4 h9 x1 ih x8 x0)
theorem S20_ok (ih : Handler) (n : Nat) (x0 : IV) (x1 : IV) (x2 : IV) (h3 : Hp) : funS EE ih ft.get n 20 [x0, x1, x2] h3 = S20 ih n x0 x1 x2 h3 := by kernel_rfl
/-! thyrsus/thyrsuslaw1.Make -/
noncomputable def S21_172 (x42 : IV) (h3 : Hp) (h76 : Hp) (x36 : IV) (x37 : IV) (x38 : IV) (x39 : IV) (x40 : IV) (x41 : IV) (q33 : List IV → Hp → Option (IV × Hp)) : Option (IV × Hp) :=
  addS EE 3 x42 (.fv (.int .i64 1)) fun x79 => dropS (h3.own.map (·.1)) [22037518] [x36, x37, x38, x39, x40, x41, x79] h76 fun h80 => q33 [x36, x37, x38, x39, x40, x41, x79] h80
noncomputable def S21_173 (h68 : Hp) (x49 : IV) (x67 : IV) (x41 : IV) (x42 : IV) (h3 : Hp) (x36 : IV) (x37 : IV) (x38 : IV) (x39 : IV) (x40 : IV) (q33 : List IV → Hp → Option (IV × Hp)) : Option (IV × Hp) :=
  genS (builtinR EE 22037518 false .append [28, 28] [x49, x67]) 22037518 h68 fun x71 h72 r73 w74 => chkS [] r73 w74 (faddrS 2 x41 fun x75 => store1 x75 x71 h72 fun h76 r77 w78 => chkS [] r77 w78 (S21_172 x42 h3 h76 x36 x37 x38 x39 x40 x41 q33))
noncomputable def S21_174 (x37 : IV) (x58 : IV) (ih : Handler) (h59 : Hp) (x53 : IV) (x57 : IV) (r50 : List Ref) (x49 : IV) (x41 : IV) (x42 : IV) (h3 : Hp) (x36 : IV) (x38 : IV) (x39 : IV) (x40 : IV) (q33 : List IV → Hp → Option (IV × Hp)) : Option (IV × Hp) :=
  addS EE 3 x37 x58 fun x62 => isoS [] false false ih 21 [x53, x57, x62] h59 fun x63 h64 r65 w66 => chkS [(r50, [])] r65 w66 (genS (pcBuildSlice EE 28 1 [(0, x63)]) 22037517 h64 fun x67 h68 r69 w70 => chkS [(r50, [])] r69 w70 (S21_173 h68 x49 x67 x41 x42 h3 x36 x37 x38 x39 x40 q33))
noncomputable def S21_175 (ih : Handler) (h44 : Hp) (x51 : IV) (x42 : IV) (r50 : List Ref) (x36 : IV) (x40 : IV) (x37 : IV) (x49 : IV) (x41 : IV) (h3 : Hp) (x38 : IV) (x39 : IV) (q33 : List IV → Hp → Option (IV × Hp)) : Option (IV × Hp) :=
  isoS [] false false ih 53 [x51, x42] h44 fun x53 h54 r55 w56 => chkS [(r50, [])] r55 w56 (subS EE 3 x36 (.fv (.int .i64 1)) fun x57 => isoS [] false false ih 54 [x40, x42] h54 fun x58 h59 r60 w61 => chkS [(r50, [])] r60 w61 (S21_174 x37 x58 ih h59 x53 x57 r50 x49 x41 x42 h3 x36 x38 x39 x40 q33))
noncomputable def S21_176 (x41 : IV) (h44 : Hp) (x38 : IV) (ih : Handler) (x42 : IV) (x36 : IV) (x40 : IV) (x37 : IV) (h3 : Hp) (x39 : IV) (q33 : List IV → Hp → Option (IV × Hp)) : Option (IV × Hp) :=
  faddrS 2 x41 fun x48 => load1 x48 h44 fun x49 r50 => chkS [] r50 [] (loadA 3 x38 h44 fun x51 r52 => chkS [(r50, [])] r52 [] (S21_175 ih h44 x51 x42 r50 x36 x40 x37 x49 x41 h3 x38 x39 q33))
noncomputable def S21_177 (h44 : Hp) (x41 : IV) (x39 : IV) : Option (IV × Hp) :=
  loadA 3 x41 h44 fun x81 _ => storeA 3 x39 x81 h44 fun h83 _ _ => cellS true 3 x39 h83 fun x86 => outS1 [x86] h83
noncomputable def S21_178 (l91 : List IV) (ih : Handler) (h35 : Hp) (x40 : IV) (x38 : IV) (x36 : IV) (x37 : IV) (h3 : Hp) (x39 : IV) (q33 : List IV → Hp → Option (IV × Hp)) : Option (IV × Hp) :=
  uncS l91 fun x41 l92 => uncS l92 fun x42 _ => isoS [] false false ih 52 [x40] h35 fun x43 h44 _ _ => ltS EE 3 x42 x43 fun x47 => condS x47 (S21_176 x41 h44 x38 ih x42 x36 x40 x37 h3 x39 q33) (S21_177 h44 x41 x39)
noncomputable def S21_179 (l34 : List IV) (ih : Handler) (h35 : Hp) (h3 : Hp) (q33 : List IV → Hp → Option (IV × Hp)) : Option (IV × Hp) :=
  uncS l34 fun x36 l87 => uncS l87 fun x37 l88 => uncS l88 fun x38 l89 => uncS l89 fun x39 l90 => uncS l90 fun x40 l91 => S21_178 l91 ih h35 x40 x38 x36 x37 h3 x39 q33
noncomputable def S21_180 (h3 : Hp) (h32 : Hp) (x1 : IV) (x2 : IV) (x4 : IV) (x8 : IV) (x21 : IV) (x24 : IV) (n : Nat) (ih : Handler) : Option (IV × Hp) :=
  dropS (h3.own.map (·.1)) [22037518] [x1, x2, x4, x8, x21, x24, .fv (.int .i64 0)] h32 fun h94 => loopS n (fun q33 l34 h35 => S21_179 l34 ih h35 h3 q33) [x1, x2, x4, x8, x21, x24, .fv (.int .i64 0)] h94
noncomputable def S21_181 (x2 : IV) (ih : Handler) (h28 : Hp) (x97 : IV) (x24 : IV) (j0_31 : Hp → Option (IV × Hp)) : Option (IV × Hp) :=
  addS EE 3 x2 (.fv (.int .i64 1)) fun x99 => isoS [] false false ih 51 [x97, x99] h28 fun x100 h101 _ _ => faddrS 1 x24 fun x104 => store1 x104 x100 h101 fun h105 _ _ => j0_31 h105
noncomputable def S21_182 (x4 : IV) (h28 : Hp) (ih : Handler) (x24 : IV) (j0_31 : Hp → Option (IV × Hp)) : Option (IV × Hp) :=
  faddrS 1 x4 fun x109 => load1 x109 h28 fun x110 _ => isoS [] false false ih 51 [x110, .fv (.int .i64 3)] h28 fun x112 h113 _ _ => faddrS 1 x24 fun x116 => store1 x116 x112 h113 fun h117 _ _ => j0_31 h117
noncomputable def S21_183 (ih : Handler) (h28 : Hp) (x122 : IV) (x24 : IV) (j0_31 : Hp → Option (IV × Hp)) : Option (IV × Hp) :=
  isoS [] false false ih 51 [x122, .fv (.int .i64 5)] h28 fun x124 h125 _ _ => faddrS 1 x24 fun x128 => store1 x128 x124 h125 fun h129 _ _ => j0_31 h129
noncomputable def S21_184 (x4 : IV) (h28 : Hp) (x24 : IV) (j0_31 : Hp → Option (IV × Hp)) : Option (IV × Hp) :=
  faddrS 1 x4 fun x133 => load1 x133 h28 fun x134 _ => faddrS 1 x24 fun x136 => store1 x136 x134 h28 fun h137 _ _ => j0_31 h137
noncomputable def S21_185 (x21 : IV) (x4 : IV) (h28 : Hp) (ih : Handler) (x24 : IV) (j0_31 : Hp → Option (IV × Hp)) : Option (IV × Hp) :=
  eqS EE 3 x21 (.fv (.int .i64 26)) fun x120 => condS x120 (faddrS 1 x4 fun x121 => load1 x121 h28 fun x122 _ => S21_183 ih h28 x122 x24 j0_31) (eqS EE 3 x21 (.fv (.int .i64 25)) fun x132 => condS x132 (S21_184 x4 h28 x24 j0_31) (j0_31 h28))
noncomputable def S21_186 (x95 : IV) (x4 : IV) (h28 : Hp) (x2 : IV) (ih : Handler) (x24 : IV) (j0_31 : Hp → Option (IV × Hp)) (x21 : IV) : Option (IV × Hp) :=
  condS x95 (faddrS 1 x4 fun x96 => load1 x96 h28 fun x97 _ => S21_181 x2 ih h28 x97 x24 j0_31) (eqS EE 3 x21 (.fv (.int .i64 2)) fun x108 => condS x108 (S21_182 x4 h28 ih x24 j0_31) (S21_185 x21 x4 h28 ih x24 j0_31))
noncomputable def S21_187 (x21 : IV) (h22 : Hp) (h3 : Hp) (x1 : IV) (x2 : IV) (x4 : IV) (x8 : IV) (n : Nat) (ih : Handler) : Option (IV × Hp) :=
  bldS [.fv (.int .i64 0), .fv (.int .i64 0), .nils] [(0, 1, x21)] fun x23 => newS 22024194 (.row [.fv (.int .i64 0), .fv (.int .i64 0), .nils] false) (.ptr (.own 22024194) 0) h22 fun x24 h25 _ _ => storeA 3 x24 x23 h25 fun h28 _ _ => (fun (j0_31 : Hp → Option (IV × Hp)) => eqS EE 3 x21 (.fv (.int .i64 1)) fun x95 => S21_186 x95 x4 h28 x2 ih x24 j0_31 x21) fun h32 => S21_180 h3 h32 x1 x2 x4 x8 x21 x24 n ih
noncomputable def S21_188 (h159 : Hp) (x162 : IV) (ih : Handler) (x158 : IV) (j1_20 : IV → Hp → Option (IV × Hp)) : Option (IV × Hp) :=
  load1 x162 h159 fun x163 _ => isoS [] false false ih 51 [x163, .fv (.int .i64 5)] h159 fun x165 h166 _ _ => ixS 1 x158 x165 fun x169 => load1 x169 h166 fun x170 _ => j1_20 x170 h166
noncomputable def S21_189 (x140 : IV) (x153 : IV) (h154 : Hp) (x4 : IV) (ih : Handler) (j1_20 : IV → Hp → Option (IV × Hp)) (x19 : IV) : Option (IV × Hp) :=
  pickS x140 x153 (.fv (.bool false)) fun x157 => condS x157 (genS (pcBuildSlice EE 75 5 [(0, .fv (.int .i64 1)), (1, .fv (.int .i64 11)), (2, .fv (.int .i64 25)), (3, .fv (.int .i64 15)), (4, .fv (.int .i64 10))]) 22023168 h154 fun x158 h159 _ _ => faddrS 0 x4 fun x162 => S21_188 h159 x162 ih x158 j1_20) (j1_20 x19 h154)
noncomputable def S21_190 (h3 : Hp) (x1 : IV) (x2 : IV) (x4 : IV) (x8 : IV) (n : Nat) (ih : Handler) (h16 : Hp) (x19 : IV) : Option (IV × Hp) :=
  (fun (j1_20 : IV → Hp → Option (IV × Hp)) => leS EE 3 x1 (.fv (.int .i64 0)) fun x140 => guardS x140 true h16 (fun k141 => k141 x19 h16 [] []) fun x142 h143 _ _ => guardS x140 true h143 (fun k146 => isoS [] false false ih 52 [x142] h143 k146) fun x147 h148 _ _ => guardS x140 true h148 (fun k151 => gtS EE 3 x147 (.fv (.int .i64 0)) fun x152 => k151 x152 h148 [] []) fun x153 h154 _ _ => S21_189 x140 x153 h154 x4 ih j1_20 x19) fun x21 h22 => S21_187 x21 h22 h3 x1 x2 x4 x8 n ih
noncomputable def S21 (ih : Handler) (n : Nat) (x0 : IV) (x1 : IV) (x2 : IV) (h3 : Hp) : Option (IV × Hp) :=
  boxS 22020096 x0 h3 fun x4 h5 _ _ => newS 22020097 (.row [.fv (.int .i64 0), .fv (.int .i64 0), .nils] false) (.ptr (.own 22020097) 0) h5 fun x8 h9 _ _ => faddrS 0 x4 fun x12 => load1 x12 h9 fun x13 _ => isoS [] false false ih 51 [x13, .fv (.int .i64 30)] h9 fun x15 h16 _ _ => addS EE 3 (.fv (.int .i64 1)) x15 fun x19 => S21_190 h3 x1 x2 x4 x8 n ih h16 x19
theorem S21_ok (ih : Handler) (n : Nat) (x0 : IV) (x1 : IV) (x2 : IV) (h3 : Hp) : funS EE ih ft.get n 21 [x0, x1, x2] h3 = S21 ih n x0 x1 x2 h3 := by kernel_rfl
/-! thyrsus/thyrsusref10.Plain -/
noncomputable def S22_141 (x115 : IV) (q110 : List IV → Hp → Option (IV × Hp)) (h134 : Hp) (x113 : IV) (x133 : IV) : Option (IV × Hp) :=
  addS EE 3 x115 (.fv (.int .i64 1)) fun x137 => q110 [x113, x133, x137] h134
noncomputable def S22_142 (x113 : IV) (h123 : Hp) (x115 : IV) (ih : Handler) (q110 : List IV → Hp → Option (IV × Hp)) : Option (IV × Hp) :=
  faddrS 2 x113 fun x127 => load1 x127 h123 fun x128 _ => ixS 3 x128 x115 fun x130 => loadA 3 x130 h123 fun x131 _ => isoS [] false false ih 22 [x131] h123 fun x133 h134 _ _ => S22_141 x115 q110 h134 x113 x133
noncomputable def S22_143 (x117 : IV) (x115 : IV) (h112 : Hp) (x114 : IV) (x113 : IV) (ih : Handler) (q110 : List IV → Hp → Option (IV × Hp)) : Option (IV × Hp) :=
  lenS x117 fun x119 => ltS EE 3 x115 x119 fun x120 => guardS x120 true h112 (fun k121 => k121 x114 h112 [] []) fun x122 h123 _ _ => pickS x120 x122 (.fv (.bool false)) fun x126 => condS x126 (S22_142 x113 h123 x115 ih q110) (outS1 [x114] h123)
noncomputable def S22_144 (l111 : List IV) (h112 : Hp) (ih : Handler) (q110 : List IV → Hp → Option (IV × Hp)) : Option (IV × Hp) :=
  uncS l111 fun x113 l138 => uncS l138 fun x114 l139 => uncS l139 fun x115 _ => faddrS 2 x113 fun x116 => load1 x116 h112 fun x117 _ => S22_143 x117 x115 h112 x114 x113 ih q110
noncomputable def S22_145 (h93 : Hp) (x89 : IV) (x92 : IV) (n : Nat) (x2 : IV) (ih : Handler) : Option (IV × Hp) :=
  guardS x89 false h93 (fun k96 => load1 x92 h93 fun x97 r98 => k96 x97 h93 r98 []) fun x99 h100 _ _ => guardS x89 false h100 (fun k103 => eqS EE 3 x99 (.fv (.int .i64 17)) fun x104 => k103 x104 h100 [] []) fun x105 h106 _ _ => pickS x89 (.fv (.bool true)) x105 fun x109 => loopS n (fun q110 l111 h112 => S22_144 l111 h112 ih q110) [x2, x109, .fv (.int .i64 0)] h106
noncomputable def S22_146 (h66 : Hp) (x69 : IV) (x2 : IV) (n : Nat) (ih : Handler) : Option (IV × Hp) :=
  guardS x69 false h66 (fun k70 => faddrS 0 x2 fun x71 => k70 x71 h66 [] []) fun x72 h73 _ _ => guardS x69 false h73 (fun k76 => load1 x72 h73 fun x77 r78 => k76 x77 h73 r78 []) fun x79 h80 _ _ => guardS x69 false h80 (fun k83 => eqS EE 3 x79 (.fv (.int .i64 16)) fun x84 => k83 x84 h80 [] []) fun x85 h86 _ _ => pickS x69 (.fv (.bool true)) x85 fun x89 => guardS x89 false h86 (fun k90 => faddrS 0 x2 fun x91 => k90 x91 h86 [] []) fun x92 h93 _ _ => S22_145 h93 x89 x92 n x2 ih
noncomputable def S22_147 (x29 : IV) (x45 : IV) (h46 : Hp) (x2 : IV) (n : Nat) (ih : Handler) : Option (IV × Hp) :=
  pickS x29 (.fv (.bool true)) x45 fun x49 => guardS x49 false h46 (fun k50 => faddrS 0 x2 fun x51 => k50 x51 h46 [] []) fun x52 h53 _ _ => guardS x49 false h53 (fun k56 => load1 x52 h53 fun x57 r58 => k56 x57 h53 r58 []) fun x59 h60 _ _ => guardS x49 false h60 (fun k63 => eqS EE 3 x59 (.fv (.int .i64 15)) fun x64 => k63 x64 h60 [] []) fun x65 h66 _ _ => pickS x49 (.fv (.bool true)) x65 fun x69 => S22_146 h66 x69 x2 n ih
noncomputable def S22_148 (h20 : Hp) (x9 : IV) (x19 : IV) (x2 : IV) (n : Nat) (ih : Handler) : Option (IV × Hp) :=
  guardS x9 true h20 (fun k23 => ltS EE 3 x19 (.fv (.int .i64 30)) fun x24 => k23 x24 h20 [] []) fun x25 h26 _ _ => pickS x9 x25 (.fv (.bool false)) fun x29 => guardS x29 false h26 (fun k30 => faddrS 0 x2 fun x31 => k30 x31 h26 [] []) fun x32 h33 _ _ => guardS x29 false h33 (fun k36 => load1 x32 h33 fun x37 r38 => k36 x37 h33 r38 []) fun x39 h40 _ _ => guardS x29 false h40 (fun k43 => eqS EE 3 x39 (.fv (.int .i64 1)) fun x44 => k43 x44 h40 [] []) fun x45 h46 _ _ => S22_147 x29 x45 h46 x2 n ih
noncomputable def S22 (ih : Handler) (n : Nat) (x0 : IV) (h1 : Hp) : Option (IV × Hp) :=
  boxS 23068672 x0 h1 fun x2 h3 _ _ => faddrS 0 x2 fun x6 => load1 x6 h3 fun x7 _ => geS EE 3 x7 (.fv (.int .i64 20)) fun x9 => guardS x9 true h3 (fun k10 => faddrS 0 x2 fun x11 => k10 x11 h3 [] []) fun x12 h13 _ _ => guardS x9 true h13 (fun k16 => load1 x12 h13 fun x17 r18 => k16 x17 h13 r18 []) fun x19 h20 _ _ => S22_148 h20 x9 x19 x2 n ih
theorem S22_ok (ih : Handler) (n : Nat) (x0 : IV) (h1 : Hp) : funS EE ih ft.get n 22 [x0] h1 = S22 ih n x0 h1 := by kernel_rfl
/-! thyrsus/thyrsuslaw10.within -/
noncomputable def S23 (ih : Handler) (n : Nat) (x0 : IV) (x1 : IV) (h2 : Hp) : Option (IV × Hp) :=
  binS EE 3 .rem x0 x1 fun x3 => (fun (j1_4 : IV → Hp → Option (IV × Hp)) => ltS EE 3 x3 (.fv (.int .i64 0)) fun x7 => condS x7 (addS EE 3 x3 x1 fun x8 => j1_4 x8 h2) (j1_4 x3 h2)) fun x5 h6 => outS1 [x5] h6
theorem S23_ok (ih : Handler) (n : Nat) (x0 : IV) (x1 : IV) (h2 : Hp) : funS EE ih ft.get n 23 [x0, x1] h2 = S23 ih n x0 x1 h2 := by kernel_rfl
/-! thyrsus/thyrsusref4.T -/
noncomputable def S24 (ih : Handler) (n : Nat) (x0 : IV) (x1 : IV) (h2 : Hp) : Option (IV × Hp) :=
  newS 25165824 (.row [.fv (.int .i64 0), .fv (.int .i64 0), .nils] false) (.ptr (.own 25165824) 0) h2 fun x3 h4 _ _ => bldS [.fv (.int .i64 0), .fv (.int .i64 0), .nils] [(0, 1, x0), (2, 1, x1)] fun x7 => storeA 3 x3 x7 h4 fun h8 _ _ => cellS true 3 x3 h8 fun x11 => outS1 [x11] h8
theorem S24_ok (ih : Handler) (n : Nat) (x0 : IV) (x1 : IV) (h2 : Hp) : funS EE ih ft.get n 24 [x0, x1] h2 = S24 ih n x0 x1 h2 := by kernel_rfl
/-! thyrsus/thyrsusref4.V -/
noncomputable def S25 (ih : Handler) (n : Nat) (x0 : IV) (h1 : Hp) : Option (IV × Hp) :=
  newS 26214400 (.row [.fv (.int .i64 0), .fv (.int .i64 0), .nils] false) (.ptr (.own 26214400) 0) h1 fun x2 h3 _ _ => bldS [.fv (.int .i64 0), .fv (.int .i64 0), .nils] [(0, 1, .fv (.int .i64 1)), (1, 1, x0)] fun x6 => storeA 3 x2 x6 h3 fun h7 _ _ => cellS true 3 x2 h7 fun x10 => outS1 [x10] h7
theorem S25_ok (ih : Handler) (n : Nat) (x0 : IV) (h1 : Hp) : funS EE ih ft.get n 25 [x0] h1 = S25 ih n x0 h1 := by kernel_rfl
/-! thyrsus/thyrsusref4.Int -/
noncomputable def S26 (ih : Handler) (n : Nat) (x0 : IV) (h1 : Hp) : Option (IV × Hp) :=
  newS 27262976 (.row [.fv (.int .i64 0), .fv (.int .i64 0), .nils] false) (.ptr (.own 27262976) 0) h1 fun x2 h3 _ _ => bldS [.fv (.int .i64 0), .fv (.int .i64 0), .nils] [(0, 1, .fv (.int .i64 25)), (1, 1, x0)] fun x6 => storeA 3 x2 x6 h3 fun h7 _ _ => cellS true 3 x2 h7 fun x10 => outS1 [x10] h7
theorem S26_ok (ih : Handler) (n : Nat) (x0 : IV) (h1 : Hp) : funS EE ih ft.get n 26 [x0] h1 = S26 ih n x0 h1 := by kernel_rfl
/-! thyrsus/thyrsusref4.Num -/
noncomputable def S27_49 (ih : Handler) (h28 : Hp) (x27 : IV) (x22 : IV) (x23 : IV) (q17 : List IV → Hp → Option (IV × Hp)) (x20 : IV) (x21 : IV) : Option (IV × Hp) :=
  isoS [] false false ih 24 [.fv (.int .i64 12), x27] h28 fun x31 h32 _ _ => storeA 3 x22 x31 h32 fun h35 _ _ => addS EE 3 x23 (.fv (.int .i64 1)) fun x38 => q17 [x20, x21, x22, x38] h35
noncomputable def S27_50 (h41 : Hp) (x21 : IV) : Option (IV × Hp) :=
  cellS true 3 x21 h41 fun x44 => outS1 [x44] h41
noncomputable def S27_51 (x24 : IV) (h19 : Hp) (x22 : IV) (ih : Handler) (x23 : IV) (q17 : List IV → Hp → Option (IV × Hp)) (x20 : IV) (x21 : IV) : Option (IV × Hp) :=
  condS x24 (loadA 3 x22 h19 fun x25 _ => genS (pcBuildSlice EE 28 1 [(0, x25)]) 28316673 h19 fun x27 h28 _ _ => S27_49 ih h28 x27 x22 x23 q17 x20 x21) (loadA 3 x22 h19 fun x39 _ => storeA 3 x21 x39 h19 fun h41 _ _ => S27_50 h41 x21)
noncomputable def S27_52 (l18 : List IV) (h19 : Hp) (ih : Handler) (q17 : List IV → Hp → Option (IV × Hp)) : Option (IV × Hp) :=
  uncS l18 fun x20 l45 => uncS l45 fun x21 l46 => uncS l46 fun x22 l47 => uncS l47 fun x23 _ => ltS EE 3 x23 x20 fun x24 => S27_51 x24 h19 x22 ih x23 q17 x20 x21
noncomputable def S27 (ih : Handler) (n : Nat) (x0 : IV) (h1 : Hp) : Option (IV × Hp) :=
  newS 28311552 (.row [.fv (.int .i64 0), .fv (.int .i64 0), .nils] false) (.ptr (.own 28311552) 0) h1 fun x2 h3 _ _ => isoS [] false false ih 24 [.fv (.int .i64 11), .nils] h3 fun x6 h7 _ _ => newS 28312577 (.row [.fv (.int .i64 0), .fv (.int .i64 0), .nils] false) (.ptr (.own 28312577) 0) h7 fun x10 h11 _ _ => storeA 3 x10 x6 h11 fun h14 _ _ => loopS n (fun q17 l18 h19 => S27_52 l18 h19 ih q17) [x0, x2, x10, .fv (.int .i64 0)] h14
theorem S27_ok (ih : Handler) (n : Nat) (x0 : IV) (h1 : Hp) : funS EE ih ft.get n 27 [x0] h1 = S27 ih n x0 h1 := by kernel_rfl
/-! thyrsus/thyrsuslaw4.Plain -/
noncomputable def S28_75 (h32 : Hp) (x7 : IV) (x31 : IV) : Option (IV × Hp) :=
  storeA 3 x7 x31 h32 fun h35 _ _ => cellS true 3 x7 h35 fun x38 => outS1 [x38] h35
noncomputable def S28_76 (r72 : List Ref) (w73 : List Ref) (h71 : Hp) (x7 : IV) : Option (IV × Hp) :=
  chkS [] r72 w73 (cellS true 3 x7 h71 fun x74 => outS1 [x74] h71)
noncomputable def S28_77 (h60 : Hp) (x48 : IV) (x59 : IV) (ih : Handler) (x40 : IV) (x7 : IV) : Option (IV × Hp) :=
  genS (pcBuildSlice EE 28 2 [(0, x48), (1, x59)]) 29364237 h60 fun x63 h64 r65 w66 => chkS [] r65 w66 (isoS [] false false ih 24 [x40, x63] h64 fun x67 h68 r69 w70 => chkS [] r69 w70 (storeA 3 x7 x67 h68 fun h71 r72 w73 => S28_76 r72 w73 h71 x7))
noncomputable def S28_78 (ih : Handler) (h49 : Hp) (x52 : IV) (x1 : IV) (x48 : IV) (x40 : IV) (x7 : IV) : Option (IV × Hp) :=
  isoS [] false false ih 56 [x52, .fv (.int .i64 1)] h49 fun x54 h55 r56 w57 => chkS [] r56 w57 (subS EE 3 x1 (.fv (.int .i64 1)) fun x58 => isoS [] false false ih 28 [x54, x58] h55 fun x59 h60 r61 w62 => chkS [] r61 w62 (S28_77 h60 x48 x59 ih x40 x7))
noncomputable def S28_79 (x1 : IV) (ih : Handler) (h44 : Hp) (x43 : IV) (x3 : IV) (r45 : List Ref) (w46 : List Ref) (r42 : List Ref) (x40 : IV) (x7 : IV) : Option (IV × Hp) :=
  subS EE 3 x1 (.fv (.int .i64 1)) fun x47 => isoS [] false false ih 28 [x43, x47] h44 fun x48 h49 r50 w51 => chkS [] r50 w51 (loadA 3 x3 h49 fun x52 r53 => chkS [(r50, w51), (r45, w46), (r42, [])] r53 [] (S28_78 ih h49 x52 x1 x48 x40 x7))
noncomputable def S28_80 (x39 : IV) (h27 : Hp) (x3 : IV) (ih : Handler) (x1 : IV) (x7 : IV) : Option (IV × Hp) :=
  subS EE 3 x39 (.fv (.int .i64 2)) fun x40 => loadA 3 x3 h27 fun x41 r42 => chkS [] r42 [] (isoS [] false false ih 56 [x41, .fv (.int .i64 0)] h27 fun x43 h44 r45 w46 => chkS [] r45 w46 (S28_79 x1 ih h44 x43 x3 r45 w46 r42 x40 x7))
noncomputable def S28_81 (h15 : Hp) (x18 : IV) (x14 : IV) (ih : Handler) (x7 : IV) (x3 : IV) (x1 : IV) : Option (IV × Hp) :=
  guardS x18 false h15 (fun k19 => k19 x14 h15 [] []) fun x20 h21 _ _ => guardS x18 false h21 (fun k24 => ltS EE 3 x20 (.fv (.int .i64 2)) fun x25 => k24 x25 h21 [] []) fun x26 h27 _ _ => pickS x18 (.fv (.bool true)) x26 fun x30 => condS x30 (isoS [] false false ih 24 [.fv (.int .i64 15), .nils] h27 fun x31 h32 _ _ => S28_75 h32 x7 x31) (addS EE 3 (.fv (.int .i64 16)) x14 fun x39 => S28_80 x39 h27 x3 ih x1 x7)
noncomputable def S28 (ih : Handler) (n : Nat) (x0 : IV) (x1 : IV) (h2 : Hp) : Option (IV × Hp) :=
  boxS 29360128 x0 h2 fun x3 h4 _ _ => newS 29360129 (.row [.fv (.int .i64 0), .fv (.int .i64 0), .nils] false) (.ptr (.own 29360129) 0) h4 fun x7 h8 _ _ => faddrS 1 x3 fun x11 => load1 x11 h8 fun x12 _ => isoS [] false false ih 55 [x12, .fv (.int .i64 4)] h8 fun x14 h15 _ _ => leS EE 3 x1 (.fv (.int .i64 0)) fun x18 => S28_81 h15 x18 x14 ih x7 x3 x1
theorem S28_ok (ih : Handler) (n : Nat) (x0 : IV) (x1 : IV) (h2 : Hp) : funS EE ih ft.get n 28 [x0, x1] h2 = S28 ih n x0 x1 h2 := by kernel_rfl
/-! thyrsus/thyrsusref11.Type -/
noncomputable def S29_74 (x54 : IV) (q50 : List IV → Hp → Option (IV × Hp)) (h67 : Hp) (x53 : IV) : Option (IV × Hp) :=
  addS EE 3 x54 (.fv (.int .i64 1)) fun x71 => q50 [x53, x71] h67
noncomputable def S29_75 (x61 : IV) (x54 : IV) (h52 : Hp) (ih : Handler) (q50 : List IV → Hp → Option (IV × Hp)) (x53 : IV) : Option (IV × Hp) :=
  ixS 3 x61 x54 fun x63 => loadA 3 x63 h52 fun x64 _ => isoS [] false false ih 29 [x64] h52 fun x66 h67 _ _ => optS (unR .not x66) fun x70 => condS x70 (outS1 [.fv (.bool false)] h67) (S29_74 x54 q50 h67 x53)
noncomputable def S29_76 (x54 : IV) (x58 : IV) (x53 : IV) (h52 : Hp) (ih : Handler) (q50 : List IV → Hp → Option (IV × Hp)) : Option (IV × Hp) :=
  ltS EE 3 x54 x58 fun x59 => condS x59 (faddrS 2 x53 fun x60 => load1 x60 h52 fun x61 _ => S29_75 x61 x54 h52 ih q50 x53) (outS1 [.fv (.bool true)] h52)
noncomputable def S29_77 (l51 : List IV) (h52 : Hp) (ih : Handler) (q50 : List IV → Hp → Option (IV × Hp)) : Option (IV × Hp) :=
  uncS l51 fun x53 l72 => uncS l72 fun x54 _ => faddrS 2 x53 fun x55 => load1 x55 h52 fun x56 _ => lenS x56 fun x58 => S29_76 x54 x58 x53 h52 ih q50
noncomputable def S29_78 (x29 : IV) (x45 : IV) (h46 : Hp) (n : Nat) (x2 : IV) (ih : Handler) : Option (IV × Hp) :=
  pickS x29 x45 (.fv (.bool false)) fun x49 => condS x49 (outS1 [.fv (.bool false)] h46) (loopS n (fun q50 l51 h52 => S29_77 l51 h52 ih q50) [x2, .fv (.int .i64 0)] h46)
noncomputable def S29_79 (h20 : Hp) (x9 : IV) (x19 : IV) (x2 : IV) (n : Nat) (ih : Handler) : Option (IV × Hp) :=
  guardS x9 true h20 (fun k23 => neS EE 3 x19 (.fv (.int .i64 16)) fun x24 => k23 x24 h20 [] []) fun x25 h26 _ _ => pickS x9 x25 (.fv (.bool false)) fun x29 => guardS x29 true h26 (fun k30 => faddrS 0 x2 fun x31 => k30 x31 h26 [] []) fun x32 h33 _ _ => guardS x29 true h33 (fun k36 => load1 x32 h33 fun x37 r38 => k36 x37 h33 r38 []) fun x39 h40 _ _ => guardS x29 true h40 (fun k43 => neS EE 3 x39 (.fv (.int .i64 17)) fun x44 => k43 x44 h40 [] []) fun x45 h46 _ _ => S29_78 x29 x45 h46 n x2 ih
noncomputable def S29 (ih : Handler) (n : Nat) (x0 : IV) (h1 : Hp) : Option (IV × Hp) :=
  boxS 30408704 x0 h1 fun x2 h3 _ _ => faddrS 0 x2 fun x6 => load1 x6 h3 fun x7 _ => neS EE 3 x7 (.fv (.int .i64 15)) fun x9 => guardS x9 true h3 (fun k10 => faddrS 0 x2 fun x11 => k10 x11 h3 [] []) fun x12 h13 _ _ => guardS x9 true h13 (fun k16 => load1 x12 h13 fun x17 r18 => k16 x17 h13 r18 []) fun x19 h20 _ _ => S29_79 h20 x9 x19 x2 n ih
theorem S29_ok (ih : Handler) (n : Nat) (x0 : IV) (h1 : Hp) : funS EE ih ft.get n 29 [x0] h1 = S29 ih n x0 h1 := by kernel_rfl
/-! thyrsus/thyrsusref4.Text -/
noncomputable def S30_90 (x33 : IV) (x40 : IV) (x27 : IV) (q22 : List IV → Hp → Option (IV × Hp)) (h41 : Hp) (x25 : IV) : Option (IV × Hp) :=
  addS EE 9 x33 x40 fun x44 => addS EE 3 x27 (.fv (.int .i64 1)) fun x45 => q22 [x25, x44, x45] h41
noncomputable def S30_91 (x25 : IV) (h24 : Hp) (x27 : IV) (ih : Handler) (x33 : IV) (q22 : List IV → Hp → Option (IV × Hp)) : Option (IV × Hp) :=
  faddrS 2 x25 fun x34 => load1 x34 h24 fun x35 _ => ixS 3 x35 x27 fun x37 => loadA 3 x37 h24 fun x38 _ => isoS [] false false ih 30 [x38] h24 fun x40 h41 _ _ => S30_90 x33 x40 x27 q22 h41 x25
noncomputable def S30_92 (x29 : IV) (x27 : IV) (x26 : IV) (x25 : IV) (h24 : Hp) (ih : Handler) (q22 : List IV → Hp → Option (IV × Hp)) : Option (IV × Hp) :=
  lenS x29 fun x31 => ltS EE 3 x27 x31 fun x32 => condS x32 (addS EE 9 x26 (.fv (.str ⟨#[32]⟩)) fun x33 => S30_91 x25 h24 x27 ih x33 q22) (addS EE 9 x26 (.fv (.str ⟨#[41]⟩)) fun x46 => outS1 [x46] h24)
noncomputable def S30_93 (l23 : List IV) (h24 : Hp) (ih : Handler) (q22 : List IV → Hp → Option (IV × Hp)) : Option (IV × Hp) :=
  uncS l23 fun x25 l47 => uncS l47 fun x26 l48 => uncS l48 fun x27 _ => faddrS 2 x25 fun x28 => load1 x28 h24 fun x29 _ => S30_92 x29 x27 x26 x25 h24 ih q22
noncomputable def S30_94 (x14 : IV) (n : Nat) (h15 : Hp) (x2 : IV) (ih : Handler) : Option (IV × Hp) :=
  addS EE 9 (.fv (.str ⟨#[40]⟩)) x14 fun x21 => loopS n (fun q22 l23 h24 => S30_93 l23 h24 ih q22) [x2, x21, .fv (.int .i64 0)] h15
noncomputable def S30_95 (x2 : IV) (h15 : Hp) (x14 : IV) (n : Nat) (ih : Handler) : Option (IV × Hp) :=
  faddrS 2 x2 fun x16 => load1 x16 h15 fun x17 _ => lenS x17 fun x19 => eqS EE 3 x19 (.fv (.int .i64 0)) fun x20 => condS x20 (outS1 [x14] h15) (S30_94 x14 n h15 x2 ih)
noncomputable def S30_96 (h10 : Hp) (x54 : IV) (ih : Handler) (j1_13 : IV → Hp → Option (IV × Hp)) : Option (IV × Hp) :=
  load1 x54 h10 fun x55 _ => isoS [] false false ih 57 [x55] h10 fun x57 h58 _ _ => addS EE 9 (.fv (.str ⟨#[118]⟩)) x57 fun x61 => j1_13 x61 h58
noncomputable def S30_97 (ih : Handler) (h10 : Hp) (x64 : IV) (j1_13 : IV → Hp → Option (IV × Hp)) : Option (IV × Hp) :=
  isoS [] false false ih 57 [x64] h10 fun x66 h67 _ _ => addS EE 9 (.fv (.str ⟨#[85]⟩)) x66 fun x70 => j1_13 x70 h67
noncomputable def S30_98 (x2 : IV) (h10 : Hp) (ih : Handler) (j1_13 : IV → Hp → Option (IV × Hp)) : Option (IV × Hp) :=
  faddrS 1 x2 fun x72 => load1 x72 h10 fun x73 _ => isoS [] false false ih 57 [x73] h10 fun x75 h76 _ _ => addS EE 9 (.fv (.str ⟨#[105]⟩)) x75 fun x79 => j1_13 x79 h76
noncomputable def S30_99 (h10 : Hp) (x82 : IV) (ih : Handler) (x81 : IV) (j1_13 : IV → Hp → Option (IV × Hp)) : Option (IV × Hp) :=
  load1 x82 h10 fun x83 _ => isoS [] false false ih 57 [x83] h10 fun x85 h86 _ _ => addS EE 9 x81 x85 fun x89 => j1_13 x89 h86
noncomputable def S30_100 (x51 : IV) (x9 : IV) (x2 : IV) (h10 : Hp) (ih : Handler) (j1_13 : IV → Hp → Option (IV × Hp)) : Option (IV × Hp) :=
  eqS EE 3 x51 (.fv (.int .i64 26)) fun x80 => condS x80 (addS EE 9 x9 (.fv (.str ⟨#[47]⟩)) fun x81 => faddrS 1 x2 fun x82 => S30_99 h10 x82 ih x81 j1_13) (j1_13 x9 h10)
noncomputable def S30_101 (x62 : IV) (x2 : IV) (h10 : Hp) (ih : Handler) (j1_13 : IV → Hp → Option (IV × Hp)) (x51 : IV) (x9 : IV) : Option (IV × Hp) :=
  condS x62 (faddrS 1 x2 fun x63 => load1 x63 h10 fun x64 _ => S30_97 ih h10 x64 j1_13) (eqS EE 3 x51 (.fv (.int .i64 25)) fun x71 => condS x71 (S30_98 x2 h10 ih j1_13) (S30_100 x51 x9 x2 h10 ih j1_13))
noncomputable def S30_102 (h10 : Hp) (x50 : IV) (x2 : IV) (ih : Handler) (j1_13 : IV → Hp → Option (IV × Hp)) (x9 : IV) : Option (IV × Hp) :=
  load1 x50 h10 fun x51 _ => eqS EE 3 x51 (.fv (.int .i64 1)) fun x53 => condS x53 (faddrS 1 x2 fun x54 => S30_96 h10 x54 ih j1_13) (eqS EE 3 x51 (.fv (.int .i64 2)) fun x62 => S30_101 x62 x2 h10 ih j1_13 x51 x9)
noncomputable def S30 (ih : Handler) (n : Nat) (x0 : IV) (h1 : Hp) : Option (IV × Hp) :=
  boxS 31457280 x0 h1 fun x2 h3 _ _ => faddrS 0 x2 fun x6 => load1 x6 h3 fun x7 _ => isoS [] false false ih 57 [x7] h3 fun x9 h10 _ _ => (fun (j1_13 : IV → Hp → Option (IV × Hp)) => faddrS 0 x2 fun x50 => S30_102 h10 x50 x2 ih j1_13 x9) fun x14 h15 => S30_95 x2 h15 x14 n ih
theorem S30_ok (ih : Handler) (n : Nat) (x0 : IV) (h1 : Hp) : funS EE ih ft.get n 30 [x0] h1 = S30 ih n x0 h1 := by kernel_rfl
/-! thyrsus/thyrsusref4.Size -/
noncomputable def S31_32 (x11 : IV) (q6 : List IV → Hp → Option (IV × Hp)) (h24 : Hp) (x9 : IV) (x27 : IV) : Option (IV × Hp) :=
  addS EE 3 x11 (.fv (.int .i64 1)) fun x28 => q6 [x9, x27, x28] h24
noncomputable def S31_33 (h8 : Hp) (x17 : IV) (x11 : IV) (ih : Handler) (x10 : IV) (q6 : List IV → Hp → Option (IV × Hp)) (x9 : IV) : Option (IV × Hp) :=
  load1 x17 h8 fun x18 _ => ixS 3 x18 x11 fun x20 => loadA 3 x20 h8 fun x21 _ => isoS [] false false ih 31 [x21] h8 fun x23 h24 _ _ => addS EE 3 x10 x23 fun x27 => S31_32 x11 q6 h24 x9 x27
noncomputable def S31_34 (x13 : IV) (x11 : IV) (x9 : IV) (h8 : Hp) (ih : Handler) (x10 : IV) (q6 : List IV → Hp → Option (IV × Hp)) : Option (IV × Hp) :=
  lenS x13 fun x15 => ltS EE 3 x11 x15 fun x16 => condS x16 (faddrS 2 x9 fun x17 => S31_33 h8 x17 x11 ih x10 q6 x9) (outS1 [x10] h8)
noncomputable def S31_35 (l7 : List IV) (h8 : Hp) (ih : Handler) (q6 : List IV → Hp → Option (IV × Hp)) : Option (IV × Hp) :=
  uncS l7 fun x9 l29 => uncS l29 fun x10 l30 => uncS l30 fun x11 _ => faddrS 2 x9 fun x12 => load1 x12 h8 fun x13 _ => S31_34 x13 x11 x9 h8 ih x10 q6
noncomputable def S31 (ih : Handler) (n : Nat) (x0 : IV) (h1 : Hp) : Option (IV × Hp) :=
  boxS 32505856 x0 h1 fun x2 h3 _ _ => loopS n (fun q6 l7 h8 => S31_35 l7 h8 ih q6) [x2, .fv (.int .i64 1), .fv (.int .i64 0)] h3
theorem S31_ok (ih : Handler) (n : Nat) (x0 : IV) (h1 : Hp) : funS EE ih ft.get n 31 [x0] h1 = S31 ih n x0 h1 := by kernel_rfl
/-! thyrsus/thyrsuslaw10.same -/
noncomputable def S32_112 (h4 : Hp) (x11 : IV) (x1 : IV) : Option (IV × Hp) :=
  load1 x11 h4 fun x12 _ => eqS EE 3 x12 x1 fun x14 => outS1 [x14] h4
noncomputable def S32_113 (h85 : Hp) (x71 : IV) (x84 : IV) (x1 : IV) (ih : Handler) : Option (IV × Hp) :=
  guardS x71 true h85 (fun k88 => ixS 3 x84 (.fv (.int .i64 1)) fun x89 => k88 x89 h85 [] []) fun x90 h91 _ _ => guardS x71 true h91 (fun k94 => loadA 3 x90 h91 fun x95 r96 => k94 x95 h91 r96 []) fun x97 h98 _ _ => guardS x71 true h98 (fun k101 => k101 x1 h98 [] []) fun x102 h103 _ _ => guardS x71 true h103 (fun k106 => isoS [] false false ih 32 [x97, x102] h103 k106) fun x107 h108 _ _ => pickS x71 x107 (.fv (.bool false)) fun x111 => outS1 [x111] h108
noncomputable def S32_114 (x66 : IV) (h61 : Hp) (ih : Handler) (x1 : IV) (x3 : IV) : Option (IV × Hp) :=
  ixS 3 x66 (.fv (.int .i64 0)) fun x68 => loadA 3 x68 h61 fun x69 _ => isoS [] false false ih 32 [x69, x1] h61 fun x71 h72 _ _ => guardS x71 true h72 (fun k75 => faddrS 2 x3 fun x76 => k75 x76 h72 [] []) fun x77 h78 _ _ => guardS x71 true h78 (fun k81 => load1 x77 h78 fun x82 r83 => k81 x82 h78 r83 []) fun x84 h85 _ _ => S32_113 h85 x71 x84 x1 ih
noncomputable def S32_115 (x38 : IV) (x60 : IV) (h61 : Hp) (x3 : IV) (ih : Handler) (x1 : IV) : Option (IV × Hp) :=
  pickS x38 (.fv (.bool true)) x60 fun x64 => condS x64 (outS1 [.fv (.bool false)] h61) (faddrS 2 x3 fun x65 => load1 x65 h61 fun x66 _ => S32_114 x66 h61 ih x1 x3)
noncomputable def S32_116 (x18 : IV) (x34 : IV) (h35 : Hp) (x3 : IV) (ih : Handler) (x1 : IV) : Option (IV × Hp) :=
  pickS x18 (.fv (.bool true)) x34 fun x38 => guardS x38 false h35 (fun k39 => faddrS 2 x3 fun x40 => k39 x40 h35 [] []) fun x41 h42 _ _ => guardS x38 false h42 (fun k45 => load1 x41 h42 fun x46 r47 => k45 x46 h42 r47 []) fun x48 h49 _ _ => guardS x38 false h49 (fun k52 => lenS x48 fun x53 => k52 x53 h49 [] []) fun x54 h55 _ _ => guardS x38 false h55 (fun k58 => neS EE 3 x54 (.fv (.int .i64 2)) fun x59 => k58 x59 h55 [] []) fun x60 h61 _ _ => S32_115 x38 x60 h61 x3 ih x1
noncomputable def S32_117 (h4 : Hp) (x15 : IV) (x3 : IV) (ih : Handler) (x1 : IV) : Option (IV × Hp) :=
  load1 x15 h4 fun x16 _ => neS EE 3 x16 (.fv (.int .i64 26)) fun x18 => guardS x18 false h4 (fun k19 => faddrS 1 x3 fun x20 => k19 x20 h4 [] []) fun x21 h22 _ _ => guardS x18 false h22 (fun k25 => load1 x21 h22 fun x26 r27 => k25 x26 h22 r27 []) fun x28 h29 _ _ => guardS x18 false h29 (fun k32 => neS EE 3 x28 (.fv (.int .i64 0)) fun x33 => k32 x33 h29 [] []) fun x34 h35 _ _ => S32_116 x18 x34 h35 x3 ih x1
noncomputable def S32 (ih : Handler) (n : Nat) (x0 : IV) (x1 : IV) (h2 : Hp) : Option (IV × Hp) :=
  boxS 33554432 x0 h2 fun x3 h4 _ _ => faddrS 0 x3 fun x7 => load1 x7 h4 fun x8 _ => eqS EE 3 x8 (.fv (.int .i64 25)) fun x10 => condS x10 (faddrS 1 x3 fun x11 => S32_112 h4 x11 x1) (faddrS 0 x3 fun x15 => S32_117 h4 x15 x3 ih x1)
theorem S32_ok (ih : Handler) (n : Nat) (x0 : IV) (x1 : IV) (h2 : Hp) : funS EE ih ft.get n 32 [x0, x1] h2 = S32 ih n x0 x1 h2 := by kernel_rfl
end Idl
end Go.Proofs.Ytkfecngimlcfoaa

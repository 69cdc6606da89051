/-
  THE SHALLOW FORM OF THE SEAT'S FUNCTIONS, a part; each is what its code's shallow run is. Printed by a program of mine (gen-sh). No statement is proved here.
-/
import Derived.Test.YtbkdidonegggdaaTab
import Derived.Test.YtbkdidonegggdaaIdl31
set_option maxRecDepth 100000
set_option linter.unusedVariables false
namespace Go.Proofs.Ytbkdidonegggdaa
namespace Idl
/-! Function 32. -/
noncomputable def S32_393 (h25 : Hp) (x13 : IV) (x29 : IV) : Option (IV × Hp) :=
  storeA 3 x13 x29 h25 fun h30 _ _ => cellS true 3 x13 h30 fun x33 => outS1 [x33, .fv (.bool false)] h30
noncomputable def S32_394 (h91 : Hp) (x13 : IV) (x44 : IV) : Option (IV × Hp) :=
  cellS true 3 x13 h91 fun x94 => outS1 [x94, x44] h91
noncomputable def S32_395 (h126 : Hp) (x13 : IV) (x129 : IV) (x130 : IV) : Option (IV × Hp) :=
  storeA 3 x13 x129 h126 fun h131 _ _ => cellS true 3 x13 h131 fun x134 => outS1 [x134, x130] h131
noncomputable def S32_396 (h117 : Hp) (x5 : IV) (x9 : IV) (ih : Handler) (x0 : IV) (x3 : IV) (x13 : IV) : Option (IV × Hp) :=
  loadA 3 x5 h117 fun x121 _ => loadA 3 x9 h117 fun x123 _ => isoS [] false false ih 64 [x0, x121, x123, x3] h117 fun x125 h126 _ _ => extS 0 x125 fun x129 => extS 1 x125 fun x130 => S32_395 h126 x13 x129 x130
noncomputable def S32_397 (h221 : Hp) (x179 : IV) (x201 : IV) (x13 : IV) (x224 : IV) : Option (IV × Hp) :=
  guardS x179 true h221 (fun k225 => k225 x201 h221 [] []) fun x226 h227 _ _ => pickS x179 x226 (.fv (.bool false)) fun x230 => storeA 3 x13 x224 h227 fun h231 r232 w233 => chkS [] r232 w233 (cellS true 3 x13 h231 fun x234 => outS1 [x234, x230] h231)
noncomputable def S32_398 (h213 : Hp) (x202 : IV) (r217 : List Ref) (r214 : List Ref) (w215 : List Ref) (r211 : List Ref) (x216 : IV) (x212 : IV) (x179 : IV) (x201 : IV) (x13 : IV) : Option (IV × Hp) :=
  loadA 3 x202 h213 fun x218 r219 => chkS [(r217, []), (r214, w215), (r211, [])] r219 [] (genS (pcBuildSlice EE 29 2 [(0, x216), (1, x218)]) 33568773 h213 fun x220 h221 r222 w223 => chkS [(r214, w215), (r211, [])] r222 w223 (bldS [.fv (.int .i64 0), .fv (.int .i64 0), .nils] [(0, 1, .fv (.int .i64 26)), (1, 1, x212), (2, 1, x220)] fun x224 => S32_397 h221 x179 x201 x13 x224))
noncomputable def S32_399 (r211 : List Ref) (ih : Handler) (h206 : Hp) (x210 : IV) (x180 : IV) (x202 : IV) (x179 : IV) (x201 : IV) (x13 : IV) : Option (IV × Hp) :=
  chkS [] r211 [] (isoS [] false false ih 55 [x210, .fv (.int .i64 5)] h206 fun x212 h213 r214 w215 => chkS [] r214 w215 (loadA 3 x180 h213 fun x216 r217 => chkS [(r214, w215), (r211, [])] r217 [] (S32_398 h213 x202 r217 r214 w215 r211 x216 x212 x179 x201 x13)))
noncomputable def S32_400 (r204 : List Ref) (w205 : List Ref) (r198 : List Ref) (w199 : List Ref) (r193 : List Ref) (w194 : List Ref) (r190 : List Ref) (r188 : List Ref) (h203 : Hp) (x202 : IV) (x200 : IV) (x9 : IV) (ih : Handler) (x180 : IV) (x179 : IV) (x201 : IV) (x13 : IV) : Option (IV × Hp) :=
  chkS [(r198, w199), (r193, w194), (r190, []), (r188, [])] r204 w205 (storeA 3 x202 x200 h203 fun h206 r207 w208 => chkS [] r207 w208 (faddrS 1 x9 fun x209 => load1 x209 h206 fun x210 r211 => S32_399 r211 ih h206 x210 x180 x202 x179 x201 x13))
noncomputable def S32_401 (ih : Handler) (h192 : Hp) (x0 : IV) (x187 : IV) (x191 : IV) (x195 : IV) (r193 : List Ref) (w194 : List Ref) (r190 : List Ref) (r188 : List Ref) (x9 : IV) (x180 : IV) (x179 : IV) (x13 : IV) : Option (IV × Hp) :=
  isoS [] false false ih 32 [x0, x187, x191, x195] h192 fun x196 h197 r198 w199 => chkS [] r198 w199 (extS 0 x196 fun x200 => extS 1 x196 fun x201 => newS 33567754 (.row [.fv (.int .i64 0), .fv (.int .i64 0), .nils] false) (.ptr (.own 33567754) 0) h197 fun x202 h203 r204 w205 => S32_400 r204 w205 r198 w199 r193 w194 r190 r188 h203 x202 x200 x9 ih x180 x179 x201 x13)
noncomputable def S32_402 (h184 : Hp) (x9 : IV) (r188 : List Ref) (ih : Handler) (x3 : IV) (x0 : IV) (x187 : IV) (x180 : IV) (x179 : IV) (x13 : IV) : Option (IV × Hp) :=
  loadA 3 x9 h184 fun x189 r190 => chkS [(r188, [])] r190 [] (isoS [] false false ih 58 [x189, .fv (.int .i64 1)] h184 fun x191 h192 r193 w194 => chkS [(r188, [])] r193 w194 (subS EE 3 x3 (.fv (.int .i64 1)) fun x195 => S32_401 ih h192 x0 x187 x191 x195 r193 w194 r190 r188 x9 x180 x179 x13))
noncomputable def S32_403 (r182 : List Ref) (w183 : List Ref) (r176 : List Ref) (w177 : List Ref) (r171 : List Ref) (w172 : List Ref) (r168 : List Ref) (r166 : List Ref) (h181 : Hp) (x180 : IV) (x178 : IV) (x5 : IV) (x9 : IV) (ih : Handler) (x3 : IV) (x0 : IV) (x179 : IV) (x13 : IV) : Option (IV × Hp) :=
  chkS [(r176, w177), (r171, w172), (r168, []), (r166, [])] r182 w183 (storeA 3 x180 x178 h181 fun h184 r185 w186 => chkS [] r185 w186 (loadA 3 x5 h184 fun x187 r188 => chkS [] r188 [] (S32_402 h184 x9 r188 ih x3 x0 x187 x180 x179 x13)))
noncomputable def S32_404 (ih : Handler) (h170 : Hp) (x0 : IV) (x165 : IV) (x169 : IV) (x173 : IV) (r171 : List Ref) (w172 : List Ref) (r168 : List Ref) (r166 : List Ref) (x5 : IV) (x9 : IV) (x3 : IV) (x13 : IV) : Option (IV × Hp) :=
  isoS [] false false ih 32 [x0, x165, x169, x173] h170 fun x174 h175 r176 w177 => chkS [] r176 w177 (extS 0 x174 fun x178 => extS 1 x174 fun x179 => newS 33566730 (.row [.fv (.int .i64 0), .fv (.int .i64 0), .nils] false) (.ptr (.own 33566730) 0) h175 fun x180 h181 r182 w183 => S32_403 r182 w183 r176 w177 r171 w172 r168 r166 h181 x180 x178 x5 x9 ih x3 x0 x179 x13)
noncomputable def S32_405 (h161 : Hp) (x9 : IV) (r166 : List Ref) (ih : Handler) (x3 : IV) (x0 : IV) (x165 : IV) (x5 : IV) (x13 : IV) : Option (IV × Hp) :=
  loadA 3 x9 h161 fun x167 r168 => chkS [(r166, [])] r168 [] (isoS [] false false ih 58 [x167, .fv (.int .i64 0)] h161 fun x169 h170 r171 w172 => chkS [(r166, [])] r171 w172 (subS EE 3 x3 (.fv (.int .i64 1)) fun x173 => S32_404 ih h170 x0 x165 x169 x173 r171 w172 r168 r166 x5 x9 x3 x13))
noncomputable def S32_406 (ih : Handler) (h161 : Hp) (x236 : IV) (x13 : IV) : Option (IV × Hp) :=
  isoS [] false false ih 55 [x236, .fv (.int .i64 20)] h161 fun x238 h239 _ _ => subS EE 3 x238 (.fv (.int .i64 5)) fun x242 => isoS [] false false ih 43 [x242] h239 fun x243 h244 _ _ => storeA 3 x13 x243 h244 fun h247 _ _ => cellS true 3 x13 h247 fun x250 => outS1 [x250, .fv (.bool true)] h247
noncomputable def S32_407 (x164 : IV) (h161 : Hp) (x5 : IV) (x9 : IV) (ih : Handler) (x3 : IV) (x0 : IV) (x13 : IV) : Option (IV × Hp) :=
  condS x164 (loadA 3 x5 h161 fun x165 r166 => chkS [] r166 [] (S32_405 h161 x9 r166 ih x3 x0 x165 x5 x13)) (faddrS 1 x9 fun x235 => load1 x235 h161 fun x236 _ => S32_406 ih h161 x236 x13)
noncomputable def S32_408 (h117 : Hp) (x139 : IV) (x9 : IV) (ih : Handler) (x5 : IV) (x3 : IV) (x0 : IV) (x13 : IV) : Option (IV × Hp) :=
  guardS x139 true h117 (fun k140 => faddrS 0 x9 fun x141 => k140 x141 h117 [] []) fun x142 h143 _ _ => guardS x139 true h143 (fun k146 => load1 x142 h143 fun x147 r148 => k146 x147 h143 r148 []) fun x149 h150 _ _ => guardS x139 true h150 (fun k153 => isoS [] false false ih 55 [x149, .fv (.int .i64 2)] h150 k153) fun x154 h155 _ _ => guardS x139 true h155 (fun k158 => eqS EE 3 x154 (.fv (.int .i64 1)) fun x159 => k158 x159 h155 [] []) fun x160 h161 _ _ => pickS x139 x160 (.fv (.bool false)) fun x164 => S32_407 x164 h161 x5 x9 ih x3 x0 x13
noncomputable def S32_409 (r309 : List Ref) (w310 : List Ref) (h308 : Hp) (x13 : IV) (x284 : IV) : Option (IV × Hp) :=
  chkS [] r309 w310 (cellS true 3 x13 h308 fun x311 => outS1 [x311, x284] h308)
noncomputable def S32_410 (h289 : Hp) (x296 : IV) (x298 : IV) (ih : Handler) (x13 : IV) (x284 : IV) : Option (IV × Hp) :=
  genS (pcBuildSlice EE 29 2 [(0, x296), (1, x298)]) 33572869 h289 fun x300 h301 r302 w303 => chkS [] r302 w303 (isoS [] false false ih 27 [.fv (.int .i64 20), x300] h301 fun x304 h305 r306 w307 => chkS [] r306 w307 (storeA 3 x13 x304 h305 fun h308 r309 w310 => S32_409 r309 w310 h308 x13 x284))
noncomputable def S32_411 (x293 : IV) (h289 : Hp) (x285 : IV) (r294 : List Ref) (ih : Handler) (x13 : IV) (x284 : IV) : Option (IV × Hp) :=
  ixS 3 x293 (.fv (.int .i64 0)) fun x295 => loadA 3 x295 h289 fun x296 r297 => chkS [] r297 [] (loadA 3 x285 h289 fun x298 r299 => chkS [(r297, []), (r294, [])] r299 [] (S32_410 h289 x296 x298 ih x13 x284))
noncomputable def S32_412 (h286 : Hp) (x285 : IV) (x283 : IV) (x5 : IV) (ih : Handler) (x13 : IV) (x284 : IV) : Option (IV × Hp) :=
  storeA 3 x285 x283 h286 fun h289 r290 w291 => chkS [] r290 w291 (faddrS 2 x5 fun x292 => load1 x292 h289 fun x293 r294 => chkS [] r294 [] (S32_411 x293 h289 x285 r294 ih x13 x284))
noncomputable def S32_413 (r281 : List Ref) (w282 : List Ref) (x279 : IV) (h280 : Hp) (r276 : List Ref) (w277 : List Ref) (r273 : List Ref) (r270 : List Ref) (w271 : List Ref) (r267 : List Ref) (r264 : List Ref) (r260 : List Ref) (w261 : List Ref) (r257 : List Ref) (r254 : List Ref) (x5 : IV) (ih : Handler) (x13 : IV) : Option (IV × Hp) :=
  chkS [] r281 w282 (extS 0 x279 fun x283 => extS 1 x279 fun x284 => newS 33571859 (.row [.fv (.int .i64 0), .fv (.int .i64 0), .nils] false) (.ptr (.own 33571859) 0) h280 fun x285 h286 r287 w288 => chkS [(r281, w282), (r276, w277), (r273, []), (r270, w271), (r267, []), (r264, []), (r260, w261), (r257, []), (r254, [])] r287 w288 (S32_412 h286 x285 x283 x5 ih x13 x284))
noncomputable def S32_414 (r273 : List Ref) (r270 : List Ref) (w271 : List Ref) (r267 : List Ref) (r264 : List Ref) (r260 : List Ref) (w261 : List Ref) (r257 : List Ref) (r254 : List Ref) (ih : Handler) (h269 : Hp) (x272 : IV) (x3 : IV) (x258 : IV) (x268 : IV) (x5 : IV) (x13 : IV) : Option (IV × Hp) :=
  chkS [(r270, w271), (r267, []), (r264, []), (r260, w261), (r257, []), (r254, [])] r273 [] (isoS [] false false ih 58 [x272, .fv (.int .i64 0)] h269 fun x274 h275 r276 w277 => chkS [] r276 w277 (subS EE 3 x3 (.fv (.int .i64 1)) fun x278 => isoS [] false false ih 32 [x258, x268, x274, x278] h275 fun x279 h280 r281 w282 => S32_413 r281 w282 x279 h280 r276 w277 r273 r270 w271 r267 r264 r260 w261 r257 r254 x5 ih x13))
noncomputable def S32_415 (h259 : Hp) (x265 : IV) (r260 : List Ref) (w261 : List Ref) (r257 : List Ref) (r254 : List Ref) (ih : Handler) (x9 : IV) (r264 : List Ref) (x3 : IV) (x258 : IV) (x5 : IV) (x13 : IV) : Option (IV × Hp) :=
  loadA 3 x265 h259 fun x266 r267 => chkS [(r260, w261), (r257, []), (r254, [])] r267 [] (isoS [] false false ih 31 [x266, .fv (.int .i64 1), .fv (.int .i64 0)] h259 fun x268 h269 r270 w271 => chkS [] r270 w271 (loadA 3 x9 h269 fun x272 r273 => S32_414 r273 r270 w271 r267 r264 r260 w261 r257 r254 ih h269 x272 x3 x258 x268 x5 x13))
noncomputable def S32_416 (r260 : List Ref) (w261 : List Ref) (x5 : IV) (h259 : Hp) (r257 : List Ref) (r254 : List Ref) (ih : Handler) (x9 : IV) (x3 : IV) (x258 : IV) (x13 : IV) : Option (IV × Hp) :=
  chkS [] r260 w261 (faddrS 2 x5 fun x262 => load1 x262 h259 fun x263 r264 => chkS [(r260, w261), (r257, []), (r254, [])] r264 [] (ixS 3 x263 (.fv (.int .i64 1)) fun x265 => S32_415 h259 x265 r260 w261 r257 r254 ih x9 r264 x3 x258 x5 x13))
noncomputable def S32_417 (r254 : List Ref) (x253 : IV) (h117 : Hp) (ih : Handler) (x0 : IV) (x5 : IV) (x9 : IV) (x3 : IV) (x13 : IV) : Option (IV × Hp) :=
  chkS [] r254 [] (ixS 3 x253 (.fv (.int .i64 0)) fun x255 => loadA 3 x255 h117 fun x256 r257 => chkS [] r257 [] (isoS [] false false ih 29 [x0, .fv (.int .i64 0), x256] h117 fun x258 h259 r260 w261 => S32_416 r260 w261 x5 h259 r257 r254 ih x9 x3 x258 x13))
noncomputable def S32_418 (h383 : Hp) (x13 : IV) (x382 : IV) : Option (IV × Hp) :=
  cellS true 3 x13 h383 fun x386 => outS1 [x386, x382] h383
noncomputable def S32_419 (h362 : Hp) (x365 : IV) (x367 : IV) (ih : Handler) (x331 : IV) (x357 : IV) (x13 : IV) : Option (IV × Hp) :=
  genS (pcBuildSlice EE 29 2 [(0, x365), (1, x367)]) 33576962 h362 fun x369 h370 _ _ => isoS [] false false ih 27 [.fv (.int .i64 22), x369] h370 fun x373 h374 _ _ => guardS x331 true h374 (fun k377 => k377 x357 h374 [] []) fun x378 h379 _ _ => pickS x331 x378 (.fv (.bool false)) fun x382 => storeA 3 x13 x373 h379 fun h383 _ _ => S32_418 h383 x13 x382
noncomputable def S32_420 (r360 : List Ref) (w361 : List Ref) (r354 : List Ref) (w355 : List Ref) (r349 : List Ref) (w350 : List Ref) (r346 : List Ref) (r344 : List Ref) (r341 : List Ref) (h359 : Hp) (x358 : IV) (x356 : IV) (x332 : IV) (ih : Handler) (x331 : IV) (x357 : IV) (x13 : IV) : Option (IV × Hp) :=
  chkS [(r354, w355), (r349, w350), (r346, []), (r344, []), (r341, [])] r360 w361 (storeA 3 x358 x356 h359 fun h362 r363 w364 => chkS [] r363 w364 (loadA 3 x332 h362 fun x365 _ => loadA 3 x358 h362 fun x367 _ => S32_419 h362 x365 x367 ih x331 x357 x13))
noncomputable def S32_421 (ih : Handler) (h348 : Hp) (x0 : IV) (x343 : IV) (x347 : IV) (x351 : IV) (r349 : List Ref) (w350 : List Ref) (r346 : List Ref) (r344 : List Ref) (r341 : List Ref) (x332 : IV) (x331 : IV) (x13 : IV) : Option (IV × Hp) :=
  isoS [] false false ih 32 [x0, x343, x347, x351] h348 fun x352 h353 r354 w355 => chkS [] r354 w355 (extS 0 x352 fun x356 => extS 1 x352 fun x357 => newS 33575949 (.row [.fv (.int .i64 0), .fv (.int .i64 0), .nils] false) (.ptr (.own 33575949) 0) h353 fun x358 h359 r360 w361 => S32_420 r360 w361 r354 w355 r349 w350 r346 r344 r341 h359 x358 x356 x332 ih x331 x357 x13)
noncomputable def S32_422 (h336 : Hp) (x9 : IV) (r344 : List Ref) (r341 : List Ref) (ih : Handler) (x3 : IV) (x0 : IV) (x343 : IV) (x332 : IV) (x331 : IV) (x13 : IV) : Option (IV × Hp) :=
  loadA 3 x9 h336 fun x345 r346 => chkS [(r344, []), (r341, [])] r346 [] (isoS [] false false ih 58 [x345, .fv (.int .i64 1)] h336 fun x347 h348 r349 w350 => chkS [(r344, []), (r341, [])] r349 w350 (subS EE 3 x3 (.fv (.int .i64 1)) fun x351 => S32_421 ih h348 x0 x343 x347 x351 r349 w350 r346 r344 r341 x332 x331 x13))
noncomputable def S32_423 (h336 : Hp) (x339 : IV) (x9 : IV) (ih : Handler) (x3 : IV) (x0 : IV) (x332 : IV) (x331 : IV) (x13 : IV) : Option (IV × Hp) :=
  load1 x339 h336 fun x340 r341 => chkS [] r341 [] (ixS 3 x340 (.fv (.int .i64 1)) fun x342 => loadA 3 x342 h336 fun x343 r344 => chkS [] r344 [] (S32_422 h336 x9 r344 r341 ih x3 x0 x343 x332 x331 x13))
noncomputable def S32_424 (h327 : Hp) (r328 : List Ref) (w329 : List Ref) (r323 : List Ref) (w324 : List Ref) (r320 : List Ref) (r318 : List Ref) (r315 : List Ref) (x330 : IV) (x5 : IV) (x9 : IV) (ih : Handler) (x3 : IV) (x0 : IV) (x331 : IV) (x13 : IV) : Option (IV × Hp) :=
  newS 33574925 (.row [.fv (.int .i64 0), .fv (.int .i64 0), .nils] false) (.ptr (.own 33574925) 0) h327 fun x332 h333 r334 w335 => chkS [(r328, w329), (r323, w324), (r320, []), (r318, []), (r315, [])] r334 w335 (storeA 3 x332 x330 h333 fun h336 r337 w338 => chkS [] r337 w338 (faddrS 2 x5 fun x339 => S32_423 h336 x339 x9 ih x3 x0 x332 x331 x13))
noncomputable def S32_425 (x3 : IV) (ih : Handler) (h322 : Hp) (x0 : IV) (x317 : IV) (x321 : IV) (r323 : List Ref) (w324 : List Ref) (r320 : List Ref) (r318 : List Ref) (r315 : List Ref) (x5 : IV) (x9 : IV) (x13 : IV) : Option (IV × Hp) :=
  subS EE 3 x3 (.fv (.int .i64 1)) fun x325 => isoS [] false false ih 32 [x0, x317, x321, x325] h322 fun x326 h327 r328 w329 => chkS [] r328 w329 (extS 0 x326 fun x330 => extS 1 x326 fun x331 => S32_424 h327 r328 w329 r323 w324 r320 r318 r315 x330 x5 x9 ih x3 x0 x331 x13)
noncomputable def S32_426 (r318 : List Ref) (h117 : Hp) (x9 : IV) (r315 : List Ref) (ih : Handler) (x3 : IV) (x0 : IV) (x317 : IV) (x5 : IV) (x13 : IV) : Option (IV × Hp) :=
  chkS [] r318 [] (loadA 3 x9 h117 fun x319 r320 => chkS [(r318, []), (r315, [])] r320 [] (isoS [] false false ih 58 [x319, .fv (.int .i64 0)] h117 fun x321 h322 r323 w324 => chkS [(r318, []), (r315, [])] r323 w324 (S32_425 x3 ih h322 x0 x317 x321 r323 w324 r320 r318 r315 x5 x9 x13)))
noncomputable def S32_427 (x5 : IV) (h117 : Hp) (x9 : IV) (ih : Handler) (x3 : IV) (x0 : IV) (x13 : IV) : Option (IV × Hp) :=
  faddrS 2 x5 fun x313 => load1 x313 h117 fun x314 r315 => chkS [] r315 [] (ixS 3 x314 (.fv (.int .i64 0)) fun x316 => loadA 3 x316 h117 fun x317 r318 => S32_426 r318 h117 x9 r315 ih x3 x0 x317 x5 x13)
noncomputable def S32_428 (h117 : Hp) (x45 : IV) (x13 : IV) (x44 : IV) : Option (IV × Hp) :=
  loadA 3 x45 h117 fun x387 _ => storeA 3 x13 x387 h117 fun h389 _ _ => cellS true 3 x13 h389 fun x392 => outS1 [x392, x44] h389
noncomputable def S32_429 (x251 : IV) (x5 : IV) (h117 : Hp) (ih : Handler) (x0 : IV) (x9 : IV) (x3 : IV) (x13 : IV) (x136 : IV) (x45 : IV) (x44 : IV) : Option (IV × Hp) :=
  condS x251 (faddrS 2 x5 fun x252 => load1 x252 h117 fun x253 r254 => S32_417 r254 x253 h117 ih x0 x5 x9 x3 x13) (eqS EE 3 x136 (.fv (.int .i64 17)) fun x312 => condS x312 (S32_427 x5 h117 x9 ih x3 x0 x13) (S32_428 h117 x45 x13 x44))
noncomputable def S32_430 (x5 : IV) (h117 : Hp) (x3 : IV) (x9 : IV) (ih : Handler) (x0 : IV) (x13 : IV) (x45 : IV) (x44 : IV) : Option (IV × Hp) :=
  faddrS 0 x5 fun x135 => load1 x135 h117 fun x136 _ => eqS EE 3 x136 (.fv (.int .i64 15)) fun x138 => condS x138 (gtS EE 3 x3 (.fv (.int .i64 0)) fun x139 => S32_408 h117 x139 x9 ih x5 x3 x0 x13) (eqS EE 3 x136 (.fv (.int .i64 16)) fun x251 => S32_429 x251 x5 h117 ih x0 x9 x3 x13 x136 x45 x44)
noncomputable def S32_431 (h99 : Hp) (x95 : IV) (x98 : IV) (ih : Handler) (x5 : IV) (x9 : IV) (x0 : IV) (x3 : IV) (x13 : IV) (x45 : IV) (x44 : IV) : Option (IV × Hp) :=
  guardS x95 true h99 (fun k102 => load1 x98 h99 fun x103 r104 => k102 x103 h99 r104 []) fun x105 h106 _ _ => guardS x95 true h106 (fun k109 => isoS [] false false ih 55 [x105, .fv (.int .i64 3)] h106 k109) fun x110 h111 _ _ => guardS x95 true h111 (fun k114 => eqS EE 3 x110 (.fv (.int .i64 1)) fun x115 => k114 x115 h111 [] []) fun x116 h117 _ _ => pickS x95 x116 (.fv (.bool false)) fun x120 => condS x120 (S32_396 h117 x5 x9 ih x0 x3 x13) (S32_430 x5 h117 x3 x9 ih x0 x13 x45 x44)
noncomputable def S32_432 (x88 : IV) (h85 : Hp) (x45 : IV) (x13 : IV) (x44 : IV) (x3 : IV) (x9 : IV) (ih : Handler) (x5 : IV) (x0 : IV) : Option (IV × Hp) :=
  condS x88 (loadA 3 x45 h85 fun x89 _ => storeA 3 x13 x89 h85 fun h91 _ _ => S32_394 h91 x13 x44) (gtS EE 3 x3 (.fv (.int .i64 0)) fun x95 => guardS x95 true h85 (fun k96 => faddrS 0 x9 fun x97 => k96 x97 h85 [] []) fun x98 h99 _ _ => S32_431 h99 x95 x98 ih x5 x9 x0 x3 x13 x45 x44)
noncomputable def S32_433 (h67 : Hp) (x44 : IV) (x66 : IV) (x3 : IV) (x45 : IV) (x13 : IV) (x9 : IV) (ih : Handler) (x5 : IV) (x0 : IV) : Option (IV × Hp) :=
  guardS x44 true h67 (fun k70 => eqS EE 3 x66 (.fv (.int .i64 0)) fun x71 => k70 x71 h67 [] []) fun x72 h73 _ _ => pickS x44 x72 (.fv (.bool false)) fun x76 => guardS x76 false h73 (fun k77 => k77 x3 h73 [] []) fun x78 h79 _ _ => guardS x76 false h79 (fun k82 => ltS EE 3 x78 (.fv (.int .i64 (-4))) fun x83 => k82 x83 h79 [] []) fun x84 h85 _ _ => pickS x76 (.fv (.bool true)) x84 fun x88 => S32_432 x88 h85 x45 x13 x44 x3 x9 ih x5 x0
noncomputable def S32_434 (h40 : Hp) (x43 : IV) (x44 : IV) (x9 : IV) (ih : Handler) (x3 : IV) (x13 : IV) (x5 : IV) (x0 : IV) : Option (IV × Hp) :=
  newS 33558536 (.row [.fv (.int .i64 0), .fv (.int .i64 0), .nils] false) (.ptr (.own 33558536) 0) h40 fun x45 h46 _ _ => storeA 3 x45 x43 h46 fun h49 _ _ => guardS x44 true h49 (fun k52 => faddrS 0 x9 fun x53 => k52 x53 h49 [] []) fun x54 h55 _ _ => guardS x44 true h55 (fun k58 => load1 x54 h55 fun x59 r60 => k58 x59 h55 r60 []) fun x61 h62 _ _ => guardS x44 true h62 (fun k65 => isoS [] false false ih 55 [x61, .fv (.int .i64 3)] h62 k65) fun x66 h67 _ _ => S32_433 h67 x44 x66 x3 x45 x13 x9 ih x5 x0
noncomputable def S32_435 (x9 : IV) (h25 : Hp) (ih : Handler) (x0 : IV) (x34 : IV) (x3 : IV) (x13 : IV) (x5 : IV) : Option (IV × Hp) :=
  faddrS 1 x9 fun x36 => load1 x36 h25 fun x37 _ => isoS [] false false ih 59 [x0, .fv (.int .i64 0), x34, x37] h25 fun x39 h40 _ _ => extS 0 x39 fun x43 => extS 1 x39 fun x44 => S32_434 h40 x43 x44 x9 ih x3 x13 x5 x0
noncomputable def S32_436 (x19 : IV) (h20 : Hp) (x5 : IV) (x23 : IV) (x13 : IV) (x9 : IV) (ih : Handler) (x0 : IV) (x3 : IV) : Option (IV × Hp) :=
  extS 1 x19 fun x24 => storeA 3 x5 x23 h20 fun h25 _ _ => neS EE 3 x24 (.fv (.int .i64 0)) fun x28 => condS x28 (bldS [.fv (.int .i64 0), .fv (.int .i64 0), .nils] [] fun x29 => S32_393 h25 x13 x29) (loadA 3 x5 h25 fun x34 _ => S32_435 x9 h25 ih x0 x34 x3 x13 x5)
noncomputable def S32 (ih : Handler) (n : Nat) (x0 : IV) (x1 : IV) (x2 : IV) (x3 : IV) (h4 : Hp) : Option (IV × Hp) :=
  boxS 33554432 x1 h4 fun x5 h6 _ _ => boxS 33554433 x2 h6 fun x9 h10 _ _ => newS 33554434 (.row [.fv (.int .i64 0), .fv (.int .i64 0), .nils] false) (.ptr (.own 33554434) 0) h10 fun x13 h14 _ _ => loadA 3 x5 h14 fun x17 _ => isoS [] false false ih 18 [x17] h14 fun x19 h20 _ _ => extS 0 x19 fun x23 => S32_436 x19 h20 x5 x23 x13 x9 ih x0 x3
theorem S32_ok (ih : Handler) (n : Nat) (x0 : IV) (x1 : IV) (x2 : IV) (x3 : IV) (h4 : Hp) : funS EE ih ft.get n 32 [x0, x1, x2, x3] h4 = S32 ih n x0 x1 x2 x3 h4 := by kernel_rfl
/-! Function 33. -/
noncomputable def S33_75 (h32 : Hp) (x7 : IV) (x31 : IV) : Option (IV × Hp) :=
  storeA 3 x7 x31 h32 fun h35 _ _ => cellS true 3 x7 h35 fun x38 => outS1 [x38] h35
noncomputable def S33_76 (r72 : List Ref) (w73 : List Ref) (h71 : Hp) (x7 : IV) : Option (IV × Hp) :=
  chkS [] r72 w73 (cellS true 3 x7 h71 fun x74 => outS1 [x74] h71)
noncomputable def S33_77 (h60 : Hp) (x48 : IV) (x59 : IV) (ih : Handler) (x40 : IV) (x7 : IV) : Option (IV × Hp) :=
  genS (pcBuildSlice EE 29 2 [(0, x48), (1, x59)]) 34607117 h60 fun x63 h64 r65 w66 => chkS [] r65 w66 (isoS [] false false ih 27 [x40, x63] h64 fun x67 h68 r69 w70 => chkS [] r69 w70 (storeA 3 x7 x67 h68 fun h71 r72 w73 => S33_76 r72 w73 h71 x7))
noncomputable def S33_78 (ih : Handler) (h49 : Hp) (x52 : IV) (x1 : IV) (x48 : IV) (x40 : IV) (x7 : IV) : Option (IV × Hp) :=
  isoS [] false false ih 58 [x52, .fv (.int .i64 1)] h49 fun x54 h55 r56 w57 => chkS [] r56 w57 (subS EE 3 x1 (.fv (.int .i64 1)) fun x58 => isoS [] false false ih 33 [x54, x58] h55 fun x59 h60 r61 w62 => chkS [] r61 w62 (S33_77 h60 x48 x59 ih x40 x7))
noncomputable def S33_79 (x1 : IV) (ih : Handler) (h44 : Hp) (x43 : IV) (x3 : IV) (r45 : List Ref) (w46 : List Ref) (r42 : List Ref) (x40 : IV) (x7 : IV) : Option (IV × Hp) :=
  subS EE 3 x1 (.fv (.int .i64 1)) fun x47 => isoS [] false false ih 33 [x43, x47] h44 fun x48 h49 r50 w51 => chkS [] r50 w51 (loadA 3 x3 h49 fun x52 r53 => chkS [(r50, w51), (r45, w46), (r42, [])] r53 [] (S33_78 ih h49 x52 x1 x48 x40 x7))
noncomputable def S33_80 (x39 : IV) (h27 : Hp) (x3 : IV) (ih : Handler) (x1 : IV) (x7 : IV) : Option (IV × Hp) :=
  subS EE 3 x39 (.fv (.int .i64 2)) fun x40 => loadA 3 x3 h27 fun x41 r42 => chkS [] r42 [] (isoS [] false false ih 58 [x41, .fv (.int .i64 0)] h27 fun x43 h44 r45 w46 => chkS [] r45 w46 (S33_79 x1 ih h44 x43 x3 r45 w46 r42 x40 x7))
noncomputable def S33_81 (h15 : Hp) (x18 : IV) (x14 : IV) (ih : Handler) (x7 : IV) (x3 : IV) (x1 : IV) : Option (IV × Hp) :=
  guardS x18 false h15 (fun k19 => k19 x14 h15 [] []) fun x20 h21 _ _ => guardS x18 false h21 (fun k24 => ltS EE 3 x20 (.fv (.int .i64 2)) fun x25 => k24 x25 h21 [] []) fun x26 h27 _ _ => pickS x18 (.fv (.bool true)) x26 fun x30 => condS x30 (isoS [] false false ih 27 [.fv (.int .i64 15), .nils] h27 fun x31 h32 _ _ => S33_75 h32 x7 x31) (addS EE 3 (.fv (.int .i64 16)) x14 fun x39 => S33_80 x39 h27 x3 ih x1 x7)
noncomputable def S33 (ih : Handler) (n : Nat) (x0 : IV) (x1 : IV) (h2 : Hp) : Option (IV × Hp) :=
  boxS 34603008 x0 h2 fun x3 h4 _ _ => newS 34603009 (.row [.fv (.int .i64 0), .fv (.int .i64 0), .nils] false) (.ptr (.own 34603009) 0) h4 fun x7 h8 _ _ => faddrS 1 x3 fun x11 => load1 x11 h8 fun x12 _ => isoS [] false false ih 55 [x12, .fv (.int .i64 4)] h8 fun x14 h15 _ _ => leS EE 3 x1 (.fv (.int .i64 0)) fun x18 => S33_81 h15 x18 x14 ih x7 x3 x1
theorem S33_ok (ih : Handler) (n : Nat) (x0 : IV) (x1 : IV) (h2 : Hp) : funS EE ih ft.get n 33 [x0, x1] h2 = S33 ih n x0 x1 h2 := by kernel_rfl
/-! Function 34. -/
noncomputable def S34 (ih : Handler) (n : Nat) (x0 : IV) (h1 : Hp) : Option (IV × Hp) :=
  newS 35651584 (.row [.fv (.int .i64 0), .fv (.int .i64 0), .nils] false) (.ptr (.own 35651584) 0) h1 fun x2 h3 _ _ => bldS [.fv (.int .i64 0), .fv (.int .i64 0), .nils] [(0, 1, .fv (.int .i64 1)), (1, 1, x0)] fun x6 => storeA 3 x2 x6 h3 fun h7 _ _ => cellS true 3 x2 h7 fun x10 => outS1 [x10] h7
theorem S34_ok (ih : Handler) (n : Nat) (x0 : IV) (h1 : Hp) : funS EE ih ft.get n 34 [x0] h1 = S34 ih n x0 h1 := by kernel_rfl
/-! Function 35. -/
noncomputable def S35_49 (ih : Handler) (h28 : Hp) (x27 : IV) (x22 : IV) (x23 : IV) (q17 : List IV → Hp → Option (IV × Hp)) (x20 : IV) (x21 : IV) : Option (IV × Hp) :=
  isoS [] false false ih 27 [.fv (.int .i64 12), x27] h28 fun x31 h32 _ _ => storeA 3 x22 x31 h32 fun h35 _ _ => addS EE 3 x23 (.fv (.int .i64 1)) fun x38 => q17 [x20, x21, x22, x38] h35
noncomputable def S35_50 (h41 : Hp) (x21 : IV) : Option (IV × Hp) :=
  cellS true 3 x21 h41 fun x44 => outS1 [x44] h41
noncomputable def S35_51 (x24 : IV) (h19 : Hp) (x22 : IV) (ih : Handler) (x23 : IV) (q17 : List IV → Hp → Option (IV × Hp)) (x20 : IV) (x21 : IV) : Option (IV × Hp) :=
  condS x24 (loadA 3 x22 h19 fun x25 _ => genS (pcBuildSlice EE 29 1 [(0, x25)]) 36705281 h19 fun x27 h28 _ _ => S35_49 ih h28 x27 x22 x23 q17 x20 x21) (loadA 3 x22 h19 fun x39 _ => storeA 3 x21 x39 h19 fun h41 _ _ => S35_50 h41 x21)
noncomputable def S35_52 (l18 : List IV) (h19 : Hp) (ih : Handler) (q17 : List IV → Hp → Option (IV × Hp)) : Option (IV × Hp) :=
  uncS l18 fun x20 l45 => uncS l45 fun x21 l46 => uncS l46 fun x22 l47 => uncS l47 fun x23 _ => ltS EE 3 x23 x20 fun x24 => S35_51 x24 h19 x22 ih x23 q17 x20 x21
noncomputable def S35 (ih : Handler) (n : Nat) (x0 : IV) (h1 : Hp) : Option (IV × Hp) :=
  newS 36700160 (.row [.fv (.int .i64 0), .fv (.int .i64 0), .nils] false) (.ptr (.own 36700160) 0) h1 fun x2 h3 _ _ => isoS [] false false ih 27 [.fv (.int .i64 11), .nils] h3 fun x6 h7 _ _ => newS 36701185 (.row [.fv (.int .i64 0), .fv (.int .i64 0), .nils] false) (.ptr (.own 36701185) 0) h7 fun x10 h11 _ _ => storeA 3 x10 x6 h11 fun h14 _ _ => loopS n (fun q17 l18 h19 => S35_52 l18 h19 ih q17) [x0, x2, x10, .fv (.int .i64 0)] h14
theorem S35_ok (ih : Handler) (n : Nat) (x0 : IV) (h1 : Hp) : funS EE ih ft.get n 35 [x0] h1 = S35 ih n x0 h1 := by kernel_rfl
/-! Function 36. -/
noncomputable def S36_32 (x11 : IV) (q6 : List IV → Hp → Option (IV × Hp)) (h24 : Hp) (x9 : IV) (x27 : IV) : Option (IV × Hp) :=
  addS EE 3 x11 (.fv (.int .i64 1)) fun x28 => q6 [x9, x27, x28] h24
noncomputable def S36_33 (h8 : Hp) (x17 : IV) (x11 : IV) (ih : Handler) (x10 : IV) (q6 : List IV → Hp → Option (IV × Hp)) (x9 : IV) : Option (IV × Hp) :=
  load1 x17 h8 fun x18 _ => ixS 3 x18 x11 fun x20 => loadA 3 x20 h8 fun x21 _ => isoS [] false false ih 36 [x21] h8 fun x23 h24 _ _ => addS EE 3 x10 x23 fun x27 => S36_32 x11 q6 h24 x9 x27
noncomputable def S36_34 (x13 : IV) (x11 : IV) (x9 : IV) (h8 : Hp) (ih : Handler) (x10 : IV) (q6 : List IV → Hp → Option (IV × Hp)) : Option (IV × Hp) :=
  lenS x13 fun x15 => ltS EE 3 x11 x15 fun x16 => condS x16 (faddrS 2 x9 fun x17 => S36_33 h8 x17 x11 ih x10 q6 x9) (outS1 [x10] h8)
noncomputable def S36_35 (l7 : List IV) (h8 : Hp) (ih : Handler) (q6 : List IV → Hp → Option (IV × Hp)) : Option (IV × Hp) :=
  uncS l7 fun x9 l29 => uncS l29 fun x10 l30 => uncS l30 fun x11 _ => faddrS 2 x9 fun x12 => load1 x12 h8 fun x13 _ => S36_34 x13 x11 x9 h8 ih x10 q6
noncomputable def S36 (ih : Handler) (n : Nat) (x0 : IV) (h1 : Hp) : Option (IV × Hp) :=
  boxS 37748736 x0 h1 fun x2 h3 _ _ => loopS n (fun q6 l7 h8 => S36_35 l7 h8 ih q6) [x2, .fv (.int .i64 1), .fv (.int .i64 0)] h3
theorem S36_ok (ih : Handler) (n : Nat) (x0 : IV) (h1 : Hp) : funS EE ih ft.get n 36 [x0] h1 = S36 ih n x0 h1 := by kernel_rfl
/-! Function 37. -/
noncomputable def S37_47 (h38 : Hp) (x26 : IV) (ih : Handler) (x30 : IV) (x37 : IV) : Option (IV × Hp) :=
  guardS x26 true h38 (fun k41 => isoS [] false false ih 21 [x30, x37] h38 k41) fun x42 h43 _ _ => pickS x26 x42 (.fv (.bool false)) fun x46 => outS1 [x46] h43
noncomputable def S37_48 (h14 : Hp) (x17 : IV) (x18 : IV) (x7 : IV) (ih : Handler) : Option (IV × Hp) :=
  newS 38798341 (.row [.fv (.int .i64 0), .fv (.int .i64 0), .nils] false) (.ptr (.own 38798341) 0) h14 fun x19 h20 _ _ => storeA 3 x19 x17 h20 fun h23 _ _ => eqS EE 37 x18 (.fv (.int .i64 0)) fun x26 => guardS x26 true h23 (fun k27 => loadA 3 x19 h23 fun x28 r29 => k27 x28 h23 r29 []) fun x30 h31 _ _ => guardS x26 true h31 (fun k34 => loadA 3 x7 h31 fun x35 r36 => k34 x35 h31 r36 []) fun x37 h38 _ _ => S37_47 h38 x26 ih x30 x37
noncomputable def S37 (ih : Handler) (n : Nat) (x0 : IV) (x1 : IV) (h2 : Hp) : Option (IV × Hp) :=
  boxS 38797312 x0 h2 fun x3 h4 _ _ => boxS 38797313 x1 h4 fun x7 h8 _ _ => loadA 3 x3 h8 fun x11 _ => isoS [] false false ih 20 [x11] h8 fun x13 h14 _ _ => extS 0 x13 fun x17 => extS 1 x13 fun x18 => S37_48 h14 x17 x18 x7 ih
theorem S37_ok (ih : Handler) (n : Nat) (x0 : IV) (x1 : IV) (h2 : Hp) : funS EE ih ft.get n 37 [x0, x1] h2 = S37 ih n x0 x1 h2 := by kernel_rfl
/-! Function 38. -/
noncomputable def S38_47 (h43 : Hp) (x11 : IV) : Option (IV × Hp) :=
  cellS true 3 x11 h43 fun x46 => outS1 [x46] h43
noncomputable def S38_48 (r37 : List Ref) (w38 : List Ref) (ih : Handler) (h36 : Hp) (x35 : IV) (x11 : IV) : Option (IV × Hp) :=
  chkS [] r37 w38 (isoS [] false false ih 27 [.fv (.int .i64 13), x35] h36 fun x39 h40 r41 w42 => chkS [] r41 w42 (storeA 3 x11 x39 h40 fun h43 r44 w45 => chkS [] r44 w45 (S38_47 h43 x11)))
noncomputable def S38_49 (ih : Handler) (h26 : Hp) (x25 : IV) (r20 : List Ref) (x3 : IV) (r27 : List Ref) (w28 : List Ref) (r23 : List Ref) (w24 : List Ref) (r17 : List Ref) (w18 : List Ref) (x15 : IV) (x19 : IV) (x11 : IV) : Option (IV × Hp) :=
  isoS [] false false ih 27 [.fv (.int .i64 12), x25] h26 fun x29 h30 r31 w32 => chkS [(r20, [])] r31 w32 (loadA 3 x3 h30 fun x33 r34 => chkS [(r31, w32), (r27, w28), (r23, w24), (r20, []), (r17, w18)] r34 [] (genS (pcBuildSlice EE 29 4 [(0, x15), (1, x19), (2, x29), (3, x33)]) 39846918 h30 fun x35 h36 r37 w38 => S38_48 r37 w38 ih h36 x35 x11))
noncomputable def S38_50 (r20 : List Ref) (r17 : List Ref) (w18 : List Ref) (ih : Handler) (h16 : Hp) (x3 : IV) (x15 : IV) (x19 : IV) (x11 : IV) : Option (IV × Hp) :=
  chkS [(r17, w18)] r20 [] (isoS [] false false ih 34 [.fv (.int .i64 0)] h16 fun x21 h22 r23 w24 => chkS [(r20, [])] r23 w24 (genS (pcBuildSlice EE 29 1 [(0, x21)]) 39846915 h22 fun x25 h26 r27 w28 => chkS [(r20, [])] r27 w28 (S38_49 ih h26 x25 r20 x3 r27 w28 r23 w24 r17 w18 x15 x19 x11)))
noncomputable def S38 (ih : Handler) (n : Nat) (x0 : IV) (x1 : IV) (h2 : Hp) : Option (IV × Hp) :=
  boxS 39845888 x0 h2 fun x3 h4 _ _ => boxS 39845889 x1 h4 fun x7 h8 _ _ => newS 39845890 (.row [.fv (.int .i64 0), .fv (.int .i64 0), .nils] false) (.ptr (.own 39845890) 0) h8 fun x11 h12 _ _ => isoS [] false false ih 42 [] h12 fun x15 h16 r17 w18 => chkS [] r17 w18 (loadA 3 x7 h16 fun x19 r20 => S38_50 r20 r17 w18 ih h16 x3 x15 x19 x11)
theorem S38_ok (ih : Handler) (n : Nat) (x0 : IV) (x1 : IV) (h2 : Hp) : funS EE ih ft.get n 38 [x0, x1] h2 = S38 ih n x0 x1 h2 := by kernel_rfl
/-! Function 39. -/
noncomputable def S39_51 (h44 : Hp) (x11 : IV) (x43 : IV) : Option (IV × Hp) :=
  storeA 3 x11 x43 h44 fun h47 r48 w49 => chkS [] r48 w49 (cellS true 3 x11 h47 fun x50 => outS1 [x50] h47)
noncomputable def S39_52 (r38 : List Ref) (r35 : List Ref) (w36 : List Ref) (r31 : List Ref) (w32 : List Ref) (r27 : List Ref) (w28 : List Ref) (r24 : List Ref) (r21 : List Ref) (w22 : List Ref) (r17 : List Ref) (w18 : List Ref) (h34 : Hp) (x15 : IV) (x19 : IV) (x33 : IV) (x37 : IV) (ih : Handler) (x11 : IV) : Option (IV × Hp) :=
  chkS [(r35, w36), (r31, w32), (r27, w28), (r24, []), (r21, w22), (r17, w18)] r38 [] (genS (pcBuildSlice EE 29 4 [(0, x15), (1, x19), (2, x33), (3, x37)]) 40895495 h34 fun x39 h40 r41 w42 => chkS [] r41 w42 (isoS [] false false ih 27 [.fv (.int .i64 13), x39] h40 fun x43 h44 r45 w46 => chkS [] r45 w46 (S39_51 h44 x11 x43)))
noncomputable def S39_53 (ih : Handler) (h26 : Hp) (x25 : IV) (x3 : IV) (r27 : List Ref) (w28 : List Ref) (r24 : List Ref) (r21 : List Ref) (w22 : List Ref) (r17 : List Ref) (w18 : List Ref) (x15 : IV) (x19 : IV) (x11 : IV) : Option (IV × Hp) :=
  isoS [] false false ih 34 [.fv (.int .i64 0)] h26 fun x29 h30 r31 w32 => chkS [] r31 w32 (isoS [] false false ih 38 [x25, x29] h30 fun x33 h34 r35 w36 => chkS [] r35 w36 (loadA 3 x3 h34 fun x37 r38 => S39_52 r38 r35 w36 r31 w32 r27 w28 r24 r21 w22 r17 w18 h34 x15 x19 x33 x37 ih x11))
noncomputable def S39_54 (r21 : List Ref) (w22 : List Ref) (h20 : Hp) (x7 : IV) (r17 : List Ref) (w18 : List Ref) (ih : Handler) (x3 : IV) (x15 : IV) (x19 : IV) (x11 : IV) : Option (IV × Hp) :=
  chkS [] r21 w22 (loadA 3 x7 h20 fun x23 r24 => chkS [(r21, w22), (r17, w18)] r24 [] (isoS [] false false ih 31 [x23, .fv (.int .i64 2), .fv (.int .i64 0)] h20 fun x25 h26 r27 w28 => chkS [] r27 w28 (S39_53 ih h26 x25 x3 r27 w28 r24 r21 w22 r17 w18 x15 x19 x11)))
noncomputable def S39 (ih : Handler) (n : Nat) (x0 : IV) (x1 : IV) (h2 : Hp) : Option (IV × Hp) :=
  boxS 40894464 x0 h2 fun x3 h4 _ _ => boxS 40894465 x1 h4 fun x7 h8 _ _ => newS 40894466 (.row [.fv (.int .i64 0), .fv (.int .i64 0), .nils] false) (.ptr (.own 40894466) 0) h8 fun x11 h12 _ _ => isoS [] false false ih 42 [] h12 fun x15 h16 r17 w18 => chkS [] r17 w18 (isoS [] false false ih 27 [.fv (.int .i64 11), .nils] h16 fun x19 h20 r21 w22 => S39_54 r21 w22 h20 x7 r17 w18 ih x3 x15 x19 x11)
theorem S39_ok (ih : Handler) (n : Nat) (x0 : IV) (x1 : IV) (h2 : Hp) : funS EE ih ft.get n 39 [x0, x1] h2 = S39 ih n x0 x1 h2 := by kernel_rfl
/-! Function 40. -/
noncomputable def S40_28 (r25 : List Ref) (w26 : List Ref) (h24 : Hp) (x6 : IV) : Option (IV × Hp) :=
  chkS [] r25 w26 (cellS true 3 x6 h24 fun x27 => outS1 [x27] h24)
noncomputable def S40_29 (h11 : Hp) (x10 : IV) (x14 : IV) (ih : Handler) (x6 : IV) : Option (IV × Hp) :=
  genS (pcBuildSlice EE 29 2 [(0, x10), (1, x14)]) 41944066 h11 fun x16 h17 r18 w19 => chkS [] r18 w19 (isoS [] false false ih 27 [.fv (.int .i64 4), x16] h17 fun x20 h21 r22 w23 => chkS [] r22 w23 (storeA 3 x6 x20 h21 fun h24 r25 w26 => S40_28 r25 w26 h24 x6))
noncomputable def S40 (ih : Handler) (n : Nat) (x0 : IV) (h1 : Hp) : Option (IV × Hp) :=
  boxS 41943040 x0 h1 fun x2 h3 _ _ => newS 41943041 (.row [.fv (.int .i64 0), .fv (.int .i64 0), .nils] false) (.ptr (.own 41943041) 0) h3 fun x6 h7 _ _ => isoS [] false false ih 42 [] h7 fun x10 h11 r12 w13 => chkS [] r12 w13 (loadA 3 x2 h11 fun x14 r15 => chkS [(r12, w13)] r15 [] (S40_29 h11 x10 x14 ih x6))
theorem S40_ok (ih : Handler) (n : Nat) (x0 : IV) (h1 : Hp) : funS EE ih ft.get n 40 [x0] h1 = S40 ih n x0 h1 := by kernel_rfl
/-! Function 41. -/
noncomputable def S41_31 (ih : Handler) (h20 : Hp) (x19 : IV) (x11 : IV) : Option (IV × Hp) :=
  isoS [] false false ih 27 [.fv (.int .i64 5), x19] h20 fun x23 h24 _ _ => storeA 3 x11 x23 h24 fun h27 _ _ => cellS true 3 x11 h27 fun x30 => outS1 [x30] h27
noncomputable def S41 (ih : Handler) (n : Nat) (x0 : IV) (x1 : IV) (h2 : Hp) : Option (IV × Hp) :=
  boxS 42991616 x0 h2 fun x3 h4 _ _ => boxS 42991617 x1 h4 fun x7 h8 _ _ => newS 42991618 (.row [.fv (.int .i64 0), .fv (.int .i64 0), .nils] false) (.ptr (.own 42991618) 0) h8 fun x11 h12 _ _ => loadA 3 x3 h12 fun x15 _ => loadA 3 x7 h12 fun x17 _ => genS (pcBuildSlice EE 29 2 [(0, x15), (1, x17)]) 42992642 h12 fun x19 h20 _ _ => S41_31 ih h20 x19 x11
theorem S41_ok (ih : Handler) (n : Nat) (x0 : IV) (x1 : IV) (h2 : Hp) : funS EE ih ft.get n 41 [x0, x1] h2 = S41 ih n x0 x1 h2 := by kernel_rfl
/-! Function 42. -/
noncomputable def S42 (ih : Handler) (n : Nat) (h0 : Hp) : Option (IV × Hp) :=
  newS 44040192 (.row [.fv (.int .i64 0), .fv (.int .i64 0), .nils] false) (.ptr (.own 44040192) 0) h0 fun x1 h2 _ _ => isoS [] false false ih 27 [.fv (.int .i64 10), .nils] h2 fun x5 h6 _ _ => storeA 3 x1 x5 h6 fun h9 _ _ => cellS true 3 x1 h9 fun x12 => outS1 [x12] h9
theorem S42_ok (ih : Handler) (n : Nat) (h0 : Hp) : funS EE ih ft.get n 42 [] h0 = S42 ih n h0 := by kernel_rfl
/-! Function 43. -/
noncomputable def S43 (ih : Handler) (n : Nat) (x0 : IV) (h1 : Hp) : Option (IV × Hp) :=
  newS 45088768 (.row [.fv (.int .i64 0), .fv (.int .i64 0), .nils] false) (.ptr (.own 45088768) 0) h1 fun x2 h3 _ _ => bldS [.fv (.int .i64 0), .fv (.int .i64 0), .nils] [(0, 1, .fv (.int .i64 25)), (1, 1, x0)] fun x6 => storeA 3 x2 x6 h3 fun h7 _ _ => cellS true 3 x2 h7 fun x10 => outS1 [x10] h7
theorem S43_ok (ih : Handler) (n : Nat) (x0 : IV) (h1 : Hp) : funS EE ih ft.get n 43 [x0] h1 = S43 ih n x0 h1 := by kernel_rfl
/-! Function 44. -/
noncomputable def S44_90 (x33 : IV) (x40 : IV) (x27 : IV) (q22 : List IV → Hp → Option (IV × Hp)) (h41 : Hp) (x25 : IV) : Option (IV × Hp) :=
  addS EE 9 x33 x40 fun x44 => addS EE 3 x27 (.fv (.int .i64 1)) fun x45 => q22 [x25, x44, x45] h41
noncomputable def S44_91 (x25 : IV) (h24 : Hp) (x27 : IV) (ih : Handler) (x33 : IV) (q22 : List IV → Hp → Option (IV × Hp)) : Option (IV × Hp) :=
  faddrS 2 x25 fun x34 => load1 x34 h24 fun x35 _ => ixS 3 x35 x27 fun x37 => loadA 3 x37 h24 fun x38 _ => isoS [] false false ih 44 [x38] h24 fun x40 h41 _ _ => S44_90 x33 x40 x27 q22 h41 x25
noncomputable def S44_92 (x29 : IV) (x27 : IV) (x26 : IV) (x25 : IV) (h24 : Hp) (ih : Handler) (q22 : List IV → Hp → Option (IV × Hp)) : Option (IV × Hp) :=
  lenS x29 fun x31 => ltS EE 3 x27 x31 fun x32 => condS x32 (addS EE 9 x26 (.fv (.str ⟨#[32]⟩)) fun x33 => S44_91 x25 h24 x27 ih x33 q22) (addS EE 9 x26 (.fv (.str ⟨#[41]⟩)) fun x46 => outS1 [x46] h24)
noncomputable def S44_93 (l23 : List IV) (h24 : Hp) (ih : Handler) (q22 : List IV → Hp → Option (IV × Hp)) : Option (IV × Hp) :=
  uncS l23 fun x25 l47 => uncS l47 fun x26 l48 => uncS l48 fun x27 _ => faddrS 2 x25 fun x28 => load1 x28 h24 fun x29 _ => S44_92 x29 x27 x26 x25 h24 ih q22
noncomputable def S44_94 (x14 : IV) (n : Nat) (h15 : Hp) (x2 : IV) (ih : Handler) : Option (IV × Hp) :=
  addS EE 9 (.fv (.str ⟨#[40]⟩)) x14 fun x21 => loopS n (fun q22 l23 h24 => S44_93 l23 h24 ih q22) [x2, x21, .fv (.int .i64 0)] h15
noncomputable def S44_95 (x2 : IV) (h15 : Hp) (x14 : IV) (n : Nat) (ih : Handler) : Option (IV × Hp) :=
  faddrS 2 x2 fun x16 => load1 x16 h15 fun x17 _ => lenS x17 fun x19 => eqS EE 3 x19 (.fv (.int .i64 0)) fun x20 => condS x20 (outS1 [x14] h15) (S44_94 x14 n h15 x2 ih)
noncomputable def S44_96 (h10 : Hp) (x54 : IV) (ih : Handler) (j1_13 : IV → Hp → Option (IV × Hp)) : Option (IV × Hp) :=
  load1 x54 h10 fun x55 _ => isoS [] false false ih 65 [x55] h10 fun x57 h58 _ _ => addS EE 9 (.fv (.str ⟨#[118]⟩)) x57 fun x61 => j1_13 x61 h58
noncomputable def S44_97 (ih : Handler) (h10 : Hp) (x64 : IV) (j1_13 : IV → Hp → Option (IV × Hp)) : Option (IV × Hp) :=
  isoS [] false false ih 65 [x64] h10 fun x66 h67 _ _ => addS EE 9 (.fv (.str ⟨#[85]⟩)) x66 fun x70 => j1_13 x70 h67
noncomputable def S44_98 (x2 : IV) (h10 : Hp) (ih : Handler) (j1_13 : IV → Hp → Option (IV × Hp)) : Option (IV × Hp) :=
  faddrS 1 x2 fun x72 => load1 x72 h10 fun x73 _ => isoS [] false false ih 65 [x73] h10 fun x75 h76 _ _ => addS EE 9 (.fv (.str ⟨#[105]⟩)) x75 fun x79 => j1_13 x79 h76
noncomputable def S44_99 (h10 : Hp) (x82 : IV) (ih : Handler) (x81 : IV) (j1_13 : IV → Hp → Option (IV × Hp)) : Option (IV × Hp) :=
  load1 x82 h10 fun x83 _ => isoS [] false false ih 65 [x83] h10 fun x85 h86 _ _ => addS EE 9 x81 x85 fun x89 => j1_13 x89 h86
noncomputable def S44_100 (x51 : IV) (x9 : IV) (x2 : IV) (h10 : Hp) (ih : Handler) (j1_13 : IV → Hp → Option (IV × Hp)) : Option (IV × Hp) :=
  eqS EE 3 x51 (.fv (.int .i64 26)) fun x80 => condS x80 (addS EE 9 x9 (.fv (.str ⟨#[47]⟩)) fun x81 => faddrS 1 x2 fun x82 => S44_99 h10 x82 ih x81 j1_13) (j1_13 x9 h10)
noncomputable def S44_101 (x62 : IV) (x2 : IV) (h10 : Hp) (ih : Handler) (j1_13 : IV → Hp → Option (IV × Hp)) (x51 : IV) (x9 : IV) : Option (IV × Hp) :=
  condS x62 (faddrS 1 x2 fun x63 => load1 x63 h10 fun x64 _ => S44_97 ih h10 x64 j1_13) (eqS EE 3 x51 (.fv (.int .i64 25)) fun x71 => condS x71 (S44_98 x2 h10 ih j1_13) (S44_100 x51 x9 x2 h10 ih j1_13))
noncomputable def S44_102 (h10 : Hp) (x50 : IV) (x2 : IV) (ih : Handler) (j1_13 : IV → Hp → Option (IV × Hp)) (x9 : IV) : Option (IV × Hp) :=
  load1 x50 h10 fun x51 _ => eqS EE 3 x51 (.fv (.int .i64 1)) fun x53 => condS x53 (faddrS 1 x2 fun x54 => S44_96 h10 x54 ih j1_13) (eqS EE 3 x51 (.fv (.int .i64 2)) fun x62 => S44_101 x62 x2 h10 ih j1_13 x51 x9)
noncomputable def S44 (ih : Handler) (n : Nat) (x0 : IV) (h1 : Hp) : Option (IV × Hp) :=
  boxS 46137344 x0 h1 fun x2 h3 _ _ => faddrS 0 x2 fun x6 => load1 x6 h3 fun x7 _ => isoS [] false false ih 65 [x7] h3 fun x9 h10 _ _ => (fun (j1_13 : IV → Hp → Option (IV × Hp)) => faddrS 0 x2 fun x50 => S44_102 h10 x50 x2 ih j1_13 x9) fun x14 h15 => S44_95 x2 h15 x14 n ih
theorem S44_ok (ih : Handler) (n : Nat) (x0 : IV) (h1 : Hp) : funS EE ih ft.get n 44 [x0] h1 = S44 ih n x0 h1 := by kernel_rfl
/-! Function 45. -/
noncomputable def S45_37 (h13 : Hp) (x2 : IV) (ih : Handler) (x6 : IV) : Option (IV × Hp) :=
  loadA 3 x2 h13 fun x17 _ => isoS [] false false ih 66 [x17] h13 fun x19 h20 _ _ => storeA 3 x6 x19 h20 fun h23 _ _ => cellS true 3 x6 h23 fun x26 => outS1 [x26] h23
noncomputable def S45_38 (h13 : Hp) (x2 : IV) (ih : Handler) (x6 : IV) : Option (IV × Hp) :=
  loadA 3 x2 h13 fun x27 _ => isoS [] false false ih 67 [x27] h13 fun x29 h30 _ _ => storeA 3 x6 x29 h30 fun h33 _ _ => cellS true 3 x6 h33 fun x36 => outS1 [x36] h33
noncomputable def S45 (ih : Handler) (n : Nat) (x0 : IV) (h1 : Hp) : Option (IV × Hp) :=
  boxS 47185920 x0 h1 fun x2 h3 _ _ => newS 47185921 (.row [.fv (.int .i64 0), .fv (.int .i64 0), .nils] false) (.ptr (.own 47185921) 0) h3 fun x6 h7 _ _ => loadA 3 x2 h7 fun x10 _ => isoS [] false false ih 50 [x10] h7 fun x12 h13 _ _ => optS (unR .not x12) fun x16 => condS x16 (S45_37 h13 x2 ih x6) (S45_38 h13 x2 ih x6)
theorem S45_ok (ih : Handler) (n : Nat) (x0 : IV) (h1 : Hp) : funS EE ih ft.get n 45 [x0] h1 = S45 ih n x0 h1 := by kernel_rfl
/-! Function 46. -/
noncomputable def S46_513 (x29 : IV) (h65 : Hp) (x64 : IV) (x30 : IV) (h1 : Hp) (x27 : IV) (x28 : IV) (q24 : List IV → Hp → Option (IV × Hp)) : Option (IV × Hp) :=
  faddrS 2 x29 fun x68 => store1 x68 x64 h65 fun h69 _ _ => addS EE 3 x30 (.fv (.int .i64 1)) fun x72 => dropS (h1.own.map (·.1)) [48239622, 48242692] [x27, x28, x29, x72] h69 fun h73 => q24 [x27, x28, x29, x72] h73
noncomputable def S46_514 (x29 : IV) (h54 : Hp) (x46 : IV) (x30 : IV) (h1 : Hp) (x27 : IV) (x28 : IV) (q24 : List IV → Hp → Option (IV × Hp)) : Option (IV × Hp) :=
  faddrS 2 x29 fun x55 => load1 x55 h54 fun x56 _ => loadA 3 x46 h54 fun x58 _ => genS (pcBuildSlice EE 29 1 [(0, x58)]) 48242691 h54 fun x60 h61 _ _ => genS (builtinR EE 48242692 false .append [29, 29] [x56, x60]) 48242692 h61 fun x64 h65 _ _ => S46_513 x29 h65 x64 x30 h1 x27 x28 q24
noncomputable def S46_515 (h126 : Hp) (x46 : IV) (x125 : IV) (j0_53 : Hp → Option (IV × Hp)) : Option (IV × Hp) :=
  storeA 3 x46 x125 h126 fun h129 _ _ => j0_53 h129
noncomputable def S46_516 (h115 : Hp) (x74 : IV) (x95 : IV) (x114 : IV) (ih : Handler) (x46 : IV) (j0_53 : Hp → Option (IV × Hp)) : Option (IV × Hp) :=
  guardS x74 true h115 (fun k118 => pickS x95 (.fv (.bool true)) x114 fun x119 => k118 x119 h115 [] []) fun x120 h121 _ _ => pickS x74 x120 (.fv (.bool false)) fun x124 => condS x124 (isoS [] false false ih 27 [.fv (.int .i64 11), .nils] h121 fun x125 h126 _ _ => S46_515 h126 x46 x125 j0_53) (j0_53 h121)
noncomputable def S46_517 (h85 : Hp) (x74 : IV) (x84 : IV) (x27 : IV) (ih : Handler) (x46 : IV) (j0_53 : Hp → Option (IV × Hp)) : Option (IV × Hp) :=
  guardS x74 true h85 (fun k88 => eqS EE 3 x84 (.fv (.int .i64 4)) fun x89 => k88 x89 h85 [] []) fun x90 h91 _ _ => guardS x74 true h91 (fun k94 => k94 x90 h91 [] []) fun x95 h96 _ _ => guardS x95 false h96 (fun k99 => faddrS 0 x27 fun x100 => k99 x100 h96 [] []) fun x101 h102 _ _ => guardS x95 false h102 (fun k105 => load1 x101 h102 fun x106 r107 => k105 x106 h102 r107 []) fun x108 h109 _ _ => guardS x95 false h109 (fun k112 => eqS EE 3 x108 (.fv (.int .i64 7)) fun x113 => k112 x113 h109 [] []) fun x114 h115 _ _ => S46_516 h115 x74 x95 x114 ih x46 j0_53
noncomputable def S46_518 (h47 : Hp) (x46 : IV) (x42 : IV) (x29 : IV) (x30 : IV) (h1 : Hp) (x27 : IV) (x28 : IV) (q24 : List IV → Hp → Option (IV × Hp)) (ih : Handler) : Option (IV × Hp) :=
  storeA 3 x46 x42 h47 fun h50 _ _ => (fun (j0_53 : Hp → Option (IV × Hp)) => eqS EE 3 x30 (.fv (.int .i64 0)) fun x74 => guardS x74 true h50 (fun k75 => faddrS 0 x27 fun x76 => k75 x76 h50 [] []) fun x77 h78 _ _ => guardS x74 true h78 (fun k81 => load1 x77 h78 fun x82 r83 => k81 x82 h78 r83 []) fun x84 h85 _ _ => S46_517 h85 x74 x84 x27 ih x46 j0_53) fun h54 => S46_514 x29 h54 x46 x30 h1 x27 x28 q24
noncomputable def S46_519 (h26 : Hp) (x36 : IV) (x30 : IV) (ih : Handler) (x29 : IV) (h1 : Hp) (x27 : IV) (x28 : IV) (q24 : List IV → Hp → Option (IV × Hp)) : Option (IV × Hp) :=
  load1 x36 h26 fun x37 _ => ixS 3 x37 x30 fun x39 => loadA 3 x39 h26 fun x40 _ => isoS [] false false ih 46 [x40] h26 fun x42 h43 _ _ => newS 48239622 (.row [.fv (.int .i64 0), .fv (.int .i64 0), .nils] false) (.ptr (.own 48239622) 0) h43 fun x46 h47 _ _ => S46_518 h47 x46 x42 x29 x30 h1 x27 x28 q24 ih
noncomputable def S46_520 (ih : Handler) (h299 : Hp) (x296 : IV) (x298 : IV) (x28 : IV) : Option (IV × Hp) :=
  isoS [] false false ih 30 [x296, .fv (.int .i64 0), x298] h299 fun x302 h303 r304 w305 => chkS [] r304 w305 (storeA 3 x28 x302 h303 fun h306 r307 w308 => chkS [] r307 w308 (cellS true 3 x28 h306 fun x309 => outS1 [x309] h306))
noncomputable def S46_521 (x293 : IV) (h284 : Hp) (ih : Handler) (r294 : List Ref) (r290 : List Ref) (x28 : IV) : Option (IV × Hp) :=
  ixS 3 x293 (.fv (.int .i64 0)) fun x295 => loadA 3 x295 h284 fun x296 r297 => chkS [] r297 [] (isoS [] false false ih 27 [.fv (.int .i64 11), .nils] h284 fun x298 h299 r300 w301 => chkS [(r297, []), (r294, []), (r290, [])] r300 w301 (S46_520 ih h299 x296 x298 x28))
noncomputable def S46_522 (r290 : List Ref) (x289 : IV) (h284 : Hp) (ih : Handler) (x28 : IV) : Option (IV × Hp) :=
  chkS [] r290 [] (ixS 3 x289 (.fv (.int .i64 1)) fun x291 => faddrS 2 x291 fun x292 => load1 x292 h284 fun x293 r294 => chkS [] r294 [] (S46_521 x293 h284 ih r294 r290 x28))
noncomputable def S46_523 (h484 : Hp) (x495 : IV) (x28 : IV) : Option (IV × Hp) :=
  loadA 3 x495 h484 fun x496 _ => storeA 3 x28 x496 h484 fun h498 _ _ => cellS true 3 x28 h498 fun x501 => outS1 [x501] h498
noncomputable def S46_524 (h484 : Hp) (x488 : IV) (x28 : IV) : Option (IV × Hp) :=
  load1 x488 h484 fun x489 _ => ixS 3 x489 (.fv (.int .i64 1)) fun x491 => faddrS 2 x491 fun x492 => load1 x492 h484 fun x493 _ => ixS 3 x493 (.fv (.int .i64 0)) fun x495 => S46_523 h484 x495 x28
noncomputable def S46_525 (h484 : Hp) (x28 : IV) (x502 : IV) : Option (IV × Hp) :=
  storeA 3 x28 x502 h484 fun h504 _ _ => cellS true 3 x28 h504 fun x507 => outS1 [x507] h504
noncomputable def S46_526 (h479 : Hp) (x391 : IV) (ih : Handler) (x433 : IV) (x478 : IV) (x29 : IV) (x28 : IV) : Option (IV × Hp) :=
  guardS x391 true h479 (fun k482 => isoS [] false false ih 21 [x433, x478] h479 k482) fun x483 h484 r485 w486 => chkS [] r485 w486 (pickS x391 x483 (.fv (.bool false)) fun x487 => condS x487 (faddrS 2 x29 fun x488 => S46_524 h484 x488 x28) (loadA 3 x29 h484 fun x502 _ => S46_525 h484 x28 x502))
noncomputable def S46_527 (h459 : Hp) (x391 : IV) (x458 : IV) (r435 : List Ref) (w436 : List Ref) (r422 : List Ref) (w423 : List Ref) (r403 : List Ref) (w404 : List Ref) (ih : Handler) (x433 : IV) (x29 : IV) (x28 : IV) : Option (IV × Hp) :=
  guardS x391 true h459 (fun k462 => load1 x458 h459 fun x463 r464 => k462 x463 h459 r464 []) fun x465 h466 r467 w468 => chkS [(r435, w436), (r422, w423), (r403, w404)] r467 w468 (guardS x391 true h466 (fun k469 => ixS 3 x465 (.fv (.int .i64 0)) fun x470 => k469 x470 h466 [] []) fun x471 h472 _ _ => guardS x391 true h472 (fun k475 => loadA 3 x471 h472 fun x476 r477 => k475 x476 h472 r477 []) fun x478 h479 r480 w481 => chkS [(r435, w436), (r422, w423), (r403, w404)] r480 w481 (S46_526 h479 x391 ih x433 x478 x29 x28))
noncomputable def S46_528 (h434 : Hp) (x391 : IV) (x29 : IV) (r435 : List Ref) (w436 : List Ref) (r422 : List Ref) (w423 : List Ref) (r403 : List Ref) (w404 : List Ref) (ih : Handler) (x433 : IV) (x28 : IV) : Option (IV × Hp) :=
  guardS x391 true h434 (fun k437 => faddrS 2 x29 fun x438 => k437 x438 h434 [] []) fun x439 h440 _ _ => guardS x391 true h440 (fun k443 => load1 x439 h440 fun x444 r445 => k443 x444 h440 r445 []) fun x446 h447 r448 w449 => chkS [(r435, w436), (r422, w423), (r403, w404)] r448 w449 (guardS x391 true h447 (fun k450 => ixS 3 x446 (.fv (.int .i64 2)) fun x451 => k450 x451 h447 [] []) fun x452 h453 _ _ => guardS x391 true h453 (fun k456 => faddrS 2 x452 fun x457 => k456 x457 h453 [] []) fun x458 h459 _ _ => S46_527 h459 x391 x458 r435 w436 r422 w423 r403 w404 ih x433 x29 x28)
noncomputable def S46_529 (h414 : Hp) (x391 : IV) (x413 : IV) (x29 : IV) (r403 : List Ref) (w404 : List Ref) (ih : Handler) (x28 : IV) : Option (IV × Hp) :=
  guardS x391 true h414 (fun k417 => load1 x413 h414 fun x418 r419 => k417 x418 h414 r419 []) fun x420 h421 r422 w423 => chkS [] r422 w423 (guardS x391 true h421 (fun k424 => ixS 3 x420 (.fv (.int .i64 0)) fun x425 => k424 x425 h421 [] []) fun x426 h427 _ _ => guardS x391 true h427 (fun k430 => loadA 3 x426 h427 fun x431 r432 => k430 x431 h427 r432 []) fun x433 h434 r435 w436 => chkS [] r435 w436 (S46_528 h434 x391 x29 r435 w436 r422 w423 r403 w404 ih x433 x28))
noncomputable def S46_530 (h388 : Hp) (x391 : IV) (x29 : IV) (ih : Handler) (x28 : IV) : Option (IV × Hp) :=
  guardS x391 true h388 (fun k392 => faddrS 2 x29 fun x393 => k392 x393 h388 [] []) fun x394 h395 _ _ => guardS x391 true h395 (fun k398 => load1 x394 h395 fun x399 r400 => k398 x399 h395 r400 []) fun x401 h402 r403 w404 => chkS [] r403 w404 (guardS x391 true h402 (fun k405 => ixS 3 x401 (.fv (.int .i64 1)) fun x406 => k405 x406 h402 [] []) fun x407 h408 _ _ => guardS x391 true h408 (fun k411 => faddrS 2 x407 fun x412 => k411 x412 h408 [] []) fun x413 h414 _ _ => S46_529 h414 x391 x413 x29 r403 w404 ih x28)
noncomputable def S46_531 (h369 : Hp) (x352 : IV) (x368 : IV) (x29 : IV) (ih : Handler) (x28 : IV) : Option (IV × Hp) :=
  guardS x352 true h369 (fun k372 => faddrS 0 x368 fun x373 => k372 x373 h369 [] []) fun x374 h375 _ _ => guardS x352 true h375 (fun k378 => load1 x374 h375 fun x379 r380 => k378 x379 h375 r380 []) fun x381 h382 r383 w384 => chkS [] r383 w384 (guardS x352 true h382 (fun k385 => eqS EE 3 x381 (.fv (.int .i64 9)) fun x386 => k385 x386 h382 [] []) fun x387 h388 _ _ => pickS x352 x387 (.fv (.bool false)) fun x391 => S46_530 h388 x391 x29 ih x28)
noncomputable def S46_532 (x313 : IV) (x348 : IV) (h349 : Hp) (x29 : IV) (ih : Handler) (x28 : IV) : Option (IV × Hp) :=
  pickS x313 x348 (.fv (.bool false)) fun x352 => guardS x352 true h349 (fun k353 => faddrS 2 x29 fun x354 => k353 x354 h349 [] []) fun x355 h356 _ _ => guardS x352 true h356 (fun k359 => load1 x355 h356 fun x360 r361 => k359 x360 h356 r361 []) fun x362 h363 r364 w365 => chkS [] r364 w365 (guardS x352 true h363 (fun k366 => ixS 3 x362 (.fv (.int .i64 2)) fun x367 => k366 x367 h363 [] []) fun x368 h369 _ _ => S46_531 h369 x352 x368 x29 ih x28)
noncomputable def S46_533 (h324 : Hp) (x313 : IV) (x323 : IV) (x29 : IV) (ih : Handler) (x28 : IV) : Option (IV × Hp) :=
  guardS x313 true h324 (fun k327 => ixS 3 x323 (.fv (.int .i64 1)) fun x328 => k327 x328 h324 [] []) fun x329 h330 _ _ => guardS x313 true h330 (fun k333 => faddrS 0 x329 fun x334 => k333 x334 h330 [] []) fun x335 h336 _ _ => guardS x313 true h336 (fun k339 => load1 x335 h336 fun x340 r341 => k339 x340 h336 r341 []) fun x342 h343 r344 w345 => chkS [] r344 w345 (guardS x313 true h343 (fun k346 => eqS EE 3 x342 (.fv (.int .i64 8)) fun x347 => k346 x347 h343 [] []) fun x348 h349 _ _ => S46_532 x313 x348 h349 x29 ih x28)
noncomputable def S46_534 (r312 : List Ref) (x311 : IV) (h284 : Hp) (x29 : IV) (ih : Handler) (x28 : IV) : Option (IV × Hp) :=
  chkS [] r312 [] (eqS EE 3 x311 (.fv (.int .i64 7)) fun x313 => guardS x313 true h284 (fun k314 => faddrS 2 x29 fun x315 => k314 x315 h284 [] []) fun x316 h317 _ _ => guardS x313 true h317 (fun k320 => load1 x316 h317 fun x321 r322 => k320 x321 h317 r322 []) fun x323 h324 r325 w326 => chkS [] r325 w326 (S46_533 h324 x313 x323 x29 ih x28))
noncomputable def S46_535 (x230 : IV) (x283 : IV) (x29 : IV) (h284 : Hp) (ih : Handler) (x28 : IV) (x27 : IV) : Option (IV × Hp) :=
  pickS x230 x283 (.fv (.bool false)) fun x287 => condS x287 (faddrS 2 x29 fun x288 => load1 x288 h284 fun x289 r290 => S46_522 r290 x289 h284 ih x28) (faddrS 0 x27 fun x310 => load1 x310 h284 fun x311 r312 => S46_534 r312 x311 h284 x29 ih x28)
noncomputable def S46_536 (h266 : Hp) (x230 : IV) (x265 : IV) (ih : Handler) (x29 : IV) (x28 : IV) (x27 : IV) : Option (IV × Hp) :=
  guardS x230 true h266 (fun k269 => loadA 3 x265 h266 fun x270 r271 => k269 x270 h266 r271 []) fun x272 h273 r274 w275 => chkS [] r274 w275 (guardS x230 true h273 (fun k276 => isoS [] false false ih 68 [x272, .fv (.int .i64 0)] h273 k276) fun x277 h278 r279 w280 => chkS [] r279 w280 (guardS x230 true h278 (fun k281 => optS (unR .not x277) fun x282 => k281 x282 h278 [] []) fun x283 h284 _ _ => S46_535 x230 x283 x29 h284 ih x28 x27))
noncomputable def S46_537 (h241 : Hp) (x230 : IV) (x240 : IV) (ih : Handler) (x29 : IV) (x28 : IV) (x27 : IV) : Option (IV × Hp) :=
  guardS x230 true h241 (fun k244 => ixS 3 x240 (.fv (.int .i64 1)) fun x245 => k244 x245 h241 [] []) fun x246 h247 _ _ => guardS x230 true h247 (fun k250 => faddrS 2 x246 fun x251 => k250 x251 h247 [] []) fun x252 h253 _ _ => guardS x230 true h253 (fun k256 => load1 x252 h253 fun x257 r258 => k256 x257 h253 r258 []) fun x259 h260 r261 w262 => chkS [] r261 w262 (guardS x230 true h260 (fun k263 => ixS 3 x259 (.fv (.int .i64 0)) fun x264 => k263 x264 h260 [] []) fun x265 h266 _ _ => S46_536 h266 x230 x265 ih x29 x28 x27)
noncomputable def S46_538 (r228 : List Ref) (w229 : List Ref) (x174 : IV) (x226 : IV) (h227 : Hp) (x29 : IV) (ih : Handler) (x28 : IV) (x27 : IV) : Option (IV × Hp) :=
  chkS [] r228 w229 (pickS x174 x226 (.fv (.bool false)) fun x230 => guardS x230 true h227 (fun k231 => faddrS 2 x29 fun x232 => k231 x232 h227 [] []) fun x233 h234 _ _ => guardS x230 true h234 (fun k237 => load1 x233 h234 fun x238 r239 => k237 x238 h234 r239 []) fun x240 h241 r242 w243 => chkS [] r242 w243 (S46_537 h241 x230 x240 ih x29 x28 x27))
noncomputable def S46_539 (h210 : Hp) (x174 : IV) (x209 : IV) (ih : Handler) (r205 : List Ref) (w206 : List Ref) (r186 : List Ref) (w187 : List Ref) (x29 : IV) (x28 : IV) (x27 : IV) : Option (IV × Hp) :=
  guardS x174 true h210 (fun k213 => loadA 3 x209 h210 fun x214 r215 => k213 x214 h210 r215 []) fun x216 h217 r218 w219 => chkS [] r218 w219 (guardS x174 true h217 (fun k220 => isoS [] false false ih 34 [.fv (.int .i64 0)] h217 k220) fun x221 h222 r223 w224 => chkS [(r218, w219), (r205, w206), (r186, w187)] r223 w224 (guardS x174 true h222 (fun k225 => isoS [] false false ih 21 [x216, x221] h222 k225) fun x226 h227 r228 w229 => S46_538 r228 w229 x174 x226 h227 x29 ih x28 x27))
noncomputable def S46_540 (h185 : Hp) (x174 : IV) (x184 : IV) (ih : Handler) (r186 : List Ref) (w187 : List Ref) (x29 : IV) (x28 : IV) (x27 : IV) : Option (IV × Hp) :=
  guardS x174 true h185 (fun k188 => ixS 3 x184 (.fv (.int .i64 1)) fun x189 => k188 x189 h185 [] []) fun x190 h191 _ _ => guardS x174 true h191 (fun k194 => faddrS 2 x190 fun x195 => k194 x195 h191 [] []) fun x196 h197 _ _ => guardS x174 true h197 (fun k200 => load1 x196 h197 fun x201 r202 => k200 x201 h197 r202 []) fun x203 h204 r205 w206 => chkS [] r205 w206 (guardS x174 true h204 (fun k207 => ixS 3 x203 (.fv (.int .i64 1)) fun x208 => k207 x208 h204 [] []) fun x209 h210 _ _ => S46_539 h210 x174 x209 ih r205 w206 r186 w187 x29 x28 x27)
noncomputable def S46_541 (h165 : Hp) (x135 : IV) (x164 : IV) (x29 : IV) (ih : Handler) (x28 : IV) (x27 : IV) : Option (IV × Hp) :=
  guardS x135 true h165 (fun k168 => eqS EE 3 x164 (.fv (.int .i64 5)) fun x169 => k168 x169 h165 [] []) fun x170 h171 _ _ => pickS x135 x170 (.fv (.bool false)) fun x174 => guardS x174 true h171 (fun k175 => faddrS 2 x29 fun x176 => k175 x176 h171 [] []) fun x177 h178 _ _ => guardS x174 true h178 (fun k181 => load1 x177 h178 fun x182 r183 => k181 x182 h178 r183 []) fun x184 h185 r186 w187 => chkS [] r186 w187 (S46_540 h185 x174 x184 ih r186 w187 x29 x28 x27)
noncomputable def S46_542 (r147 : List Ref) (w148 : List Ref) (h146 : Hp) (x135 : IV) (x145 : IV) (x29 : IV) (ih : Handler) (x28 : IV) (x27 : IV) : Option (IV × Hp) :=
  chkS [] r147 w148 (guardS x135 true h146 (fun k149 => ixS 3 x145 (.fv (.int .i64 1)) fun x150 => k149 x150 h146 [] []) fun x151 h152 _ _ => guardS x135 true h152 (fun k155 => faddrS 0 x151 fun x156 => k155 x156 h152 [] []) fun x157 h158 _ _ => guardS x135 true h158 (fun k161 => load1 x157 h158 fun x162 r163 => k161 x162 h158 r163 []) fun x164 h165 r166 w167 => chkS [] r166 w167 (S46_541 h165 x135 x164 x29 ih x28 x27))
noncomputable def S46_543 (h26 : Hp) (x132 : IV) (x29 : IV) (ih : Handler) (x28 : IV) (x27 : IV) : Option (IV × Hp) :=
  load1 x132 h26 fun x133 r134 => chkS [] r134 [] (eqS EE 3 x133 (.fv (.int .i64 4)) fun x135 => guardS x135 true h26 (fun k136 => faddrS 2 x29 fun x137 => k136 x137 h26 [] []) fun x138 h139 _ _ => guardS x135 true h139 (fun k142 => load1 x138 h139 fun x143 r144 => k142 x143 h139 r144 []) fun x145 h146 r147 w148 => S46_542 r147 w148 h146 x135 x145 x29 ih x28 x27)
noncomputable def S46_544 (h26 : Hp) (x31 : IV) (x30 : IV) (x27 : IV) (ih : Handler) (x29 : IV) (h1 : Hp) (x28 : IV) (q24 : List IV → Hp → Option (IV × Hp)) : Option (IV × Hp) :=
  load1 x31 h26 fun x32 _ => lenS x32 fun x34 => ltS EE 3 x30 x34 fun x35 => condS x35 (faddrS 2 x27 fun x36 => S46_519 h26 x36 x30 ih x29 h1 x27 x28 q24) (faddrS 0 x27 fun x132 => S46_543 h26 x132 x29 ih x28 x27)
noncomputable def S46_545 (l25 : List IV) (h26 : Hp) (ih : Handler) (h1 : Hp) (q24 : List IV → Hp → Option (IV × Hp)) : Option (IV × Hp) :=
  uncS l25 fun x27 l508 => uncS l508 fun x28 l509 => uncS l509 fun x29 l510 => uncS l510 fun x30 _ => faddrS 2 x27 fun x31 => S46_544 h26 x31 x30 x27 ih x29 h1 x28 q24
noncomputable def S46_546 (x11 : IV) (x14 : IV) (h7 : Hp) (h1 : Hp) (x2 : IV) (x6 : IV) (n : Nat) (ih : Handler) : Option (IV × Hp) :=
  bldS [.fv (.int .i64 0), .fv (.int .i64 0), .nils] [(0, 1, x11), (1, 1, x14)] fun x16 => newS 48235525 (.row [.fv (.int .i64 0), .fv (.int .i64 0), .nils] false) (.ptr (.own 48235525) 0) h7 fun x17 h18 _ _ => storeA 3 x17 x16 h18 fun h21 _ _ => dropS (h1.own.map (·.1)) [48239622, 48242692] [x2, x6, x17, .fv (.int .i64 0)] h21 fun h512 => loopS n (fun q24 l25 h26 => S46_545 l25 h26 ih h1 q24) [x2, x6, x17, .fv (.int .i64 0)] h512
noncomputable def S46 (ih : Handler) (n : Nat) (x0 : IV) (h1 : Hp) : Option (IV × Hp) :=
  boxS 48234496 x0 h1 fun x2 h3 _ _ => newS 48234497 (.row [.fv (.int .i64 0), .fv (.int .i64 0), .nils] false) (.ptr (.own 48234497) 0) h3 fun x6 h7 _ _ => faddrS 0 x2 fun x10 => load1 x10 h7 fun x11 _ => faddrS 1 x2 fun x13 => load1 x13 h7 fun x14 _ => S46_546 x11 x14 h7 h1 x2 x6 n ih
theorem S46_ok (ih : Handler) (n : Nat) (x0 : IV) (h1 : Hp) : funS EE ih ft.get n 46 [x0] h1 = S46 ih n x0 h1 := by kernel_rfl
end Idl
end Go.Proofs.Ytbkdidonegggdaa

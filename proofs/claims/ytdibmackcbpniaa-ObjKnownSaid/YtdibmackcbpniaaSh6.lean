/-
  THE SHALLOW FORM OF THE SEAT'S FUNCTIONS, a part; each is what its code's shallow run is. Printed by a program of mine (gen-sh). No statement is proved here.
-/
import Derived.Test.YtdibmackcbpniaaTab
import Derived.Test.YtdibmackcbpniaaIdl31
set_option maxRecDepth 100000
set_option linter.unusedVariables false
namespace Go.Proofs.Ytdibmackcbpniaa
namespace Idl
/-! thyrsus/thyrsuslaw4.Object -/
noncomputable def S68_393 (h25 : Hp) (x13 : IV) (x29 : IV) : Option (IV × Hp) :=
  storeA 3 x13 x29 h25 fun h30 _ _ => cellS true 3 x13 h30 fun x33 => outS1 [x33, .fv (.bool false)] h30
noncomputable def S68_394 (h91 : Hp) (x13 : IV) (x44 : IV) : Option (IV × Hp) :=
  cellS true 3 x13 h91 fun x94 => outS1 [x94, x44] h91
noncomputable def S68_395 (h126 : Hp) (x13 : IV) (x129 : IV) (x130 : IV) : Option (IV × Hp) :=
  storeA 3 x13 x129 h126 fun h131 _ _ => cellS true 3 x13 h131 fun x134 => outS1 [x134, x130] h131
noncomputable def S68_396 (h117 : Hp) (x5 : IV) (x9 : IV) (ih : Handler) (x0 : IV) (x3 : IV) (x13 : IV) : Option (IV × Hp) :=
  loadA 3 x5 h117 fun x121 _ => loadA 3 x9 h117 fun x123 _ => isoS [] false false ih 98 [x0, x121, x123, x3] h117 fun x125 h126 _ _ => extS 0 x125 fun x129 => extS 1 x125 fun x130 => S68_395 h126 x13 x129 x130
noncomputable def S68_397 (h221 : Hp) (x179 : IV) (x201 : IV) (x13 : IV) (x224 : IV) : Option (IV × Hp) :=
  guardS x179 true h221 (fun k225 => k225 x201 h221 [] []) fun x226 h227 _ _ => pickS x179 x226 (.fv (.bool false)) fun x230 => storeA 3 x13 x224 h227 fun h231 r232 w233 => chkS [] r232 w233 (cellS true 3 x13 h231 fun x234 => outS1 [x234, x230] h231)
noncomputable def S68_398 (h213 : Hp) (x202 : IV) (r217 : List Ref) (r214 : List Ref) (w215 : List Ref) (r211 : List Ref) (x216 : IV) (x212 : IV) (x179 : IV) (x201 : IV) (x13 : IV) : Option (IV × Hp) :=
  loadA 3 x202 h213 fun x218 r219 => chkS [(r217, []), (r214, w215), (r211, [])] r219 [] (genS (pcBuildSlice EE 28 2 [(0, x216), (1, x218)]) 71317509 h213 fun x220 h221 r222 w223 => chkS [(r214, w215), (r211, [])] r222 w223 (bldS [.fv (.int .i64 0), .fv (.int .i64 0), .nils] [(0, 1, .fv (.int .i64 26)), (1, 1, x212), (2, 1, x220)] fun x224 => S68_397 h221 x179 x201 x13 x224))
noncomputable def S68_399 (r211 : List Ref) (ih : Handler) (h206 : Hp) (x210 : IV) (x180 : IV) (x202 : IV) (x179 : IV) (x201 : IV) (x13 : IV) : Option (IV × Hp) :=
  chkS [] r211 [] (isoS [] false false ih 41 [x210, .fv (.int .i64 5)] h206 fun x212 h213 r214 w215 => chkS [] r214 w215 (loadA 3 x180 h213 fun x216 r217 => chkS [(r214, w215), (r211, [])] r217 [] (S68_398 h213 x202 r217 r214 w215 r211 x216 x212 x179 x201 x13)))
noncomputable def S68_400 (r204 : List Ref) (w205 : List Ref) (r198 : List Ref) (w199 : List Ref) (r193 : List Ref) (w194 : List Ref) (r190 : List Ref) (r188 : List Ref) (h203 : Hp) (x202 : IV) (x200 : IV) (x9 : IV) (ih : Handler) (x180 : IV) (x179 : IV) (x201 : IV) (x13 : IV) : Option (IV × Hp) :=
  chkS [(r198, w199), (r193, w194), (r190, []), (r188, [])] r204 w205 (storeA 3 x202 x200 h203 fun h206 r207 w208 => chkS [] r207 w208 (faddrS 1 x9 fun x209 => load1 x209 h206 fun x210 r211 => S68_399 r211 ih h206 x210 x180 x202 x179 x201 x13))
noncomputable def S68_401 (ih : Handler) (h192 : Hp) (x0 : IV) (x187 : IV) (x191 : IV) (x195 : IV) (r193 : List Ref) (w194 : List Ref) (r190 : List Ref) (r188 : List Ref) (x9 : IV) (x180 : IV) (x179 : IV) (x13 : IV) : Option (IV × Hp) :=
  isoS [] false false ih 68 [x0, x187, x191, x195] h192 fun x196 h197 r198 w199 => chkS [] r198 w199 (extS 0 x196 fun x200 => extS 1 x196 fun x201 => newS 71316490 (.row [.fv (.int .i64 0), .fv (.int .i64 0), .nils] false) (.ptr (.own 71316490) 0) h197 fun x202 h203 r204 w205 => S68_400 r204 w205 r198 w199 r193 w194 r190 r188 h203 x202 x200 x9 ih x180 x179 x201 x13)
noncomputable def S68_402 (h184 : Hp) (x9 : IV) (r188 : List Ref) (ih : Handler) (x3 : IV) (x0 : IV) (x187 : IV) (x180 : IV) (x179 : IV) (x13 : IV) : Option (IV × Hp) :=
  loadA 3 x9 h184 fun x189 r190 => chkS [(r188, [])] r190 [] (isoS [] false false ih 42 [x189, .fv (.int .i64 1)] h184 fun x191 h192 r193 w194 => chkS [(r188, [])] r193 w194 (subS EE 3 x3 (.fv (.int .i64 1)) fun x195 => S68_401 ih h192 x0 x187 x191 x195 r193 w194 r190 r188 x9 x180 x179 x13))
noncomputable def S68_403 (r182 : List Ref) (w183 : List Ref) (r176 : List Ref) (w177 : List Ref) (r171 : List Ref) (w172 : List Ref) (r168 : List Ref) (r166 : List Ref) (h181 : Hp) (x180 : IV) (x178 : IV) (x5 : IV) (x9 : IV) (ih : Handler) (x3 : IV) (x0 : IV) (x179 : IV) (x13 : IV) : Option (IV × Hp) :=
  chkS [(r176, w177), (r171, w172), (r168, []), (r166, [])] r182 w183 (storeA 3 x180 x178 h181 fun h184 r185 w186 => chkS [] r185 w186 (loadA 3 x5 h184 fun x187 r188 => chkS [] r188 [] (S68_402 h184 x9 r188 ih x3 x0 x187 x180 x179 x13)))
noncomputable def S68_404 (ih : Handler) (h170 : Hp) (x0 : IV) (x165 : IV) (x169 : IV) (x173 : IV) (r171 : List Ref) (w172 : List Ref) (r168 : List Ref) (r166 : List Ref) (x5 : IV) (x9 : IV) (x3 : IV) (x13 : IV) : Option (IV × Hp) :=
  isoS [] false false ih 68 [x0, x165, x169, x173] h170 fun x174 h175 r176 w177 => chkS [] r176 w177 (extS 0 x174 fun x178 => extS 1 x174 fun x179 => newS 71315466 (.row [.fv (.int .i64 0), .fv (.int .i64 0), .nils] false) (.ptr (.own 71315466) 0) h175 fun x180 h181 r182 w183 => S68_403 r182 w183 r176 w177 r171 w172 r168 r166 h181 x180 x178 x5 x9 ih x3 x0 x179 x13)
noncomputable def S68_405 (h161 : Hp) (x9 : IV) (r166 : List Ref) (ih : Handler) (x3 : IV) (x0 : IV) (x165 : IV) (x5 : IV) (x13 : IV) : Option (IV × Hp) :=
  loadA 3 x9 h161 fun x167 r168 => chkS [(r166, [])] r168 [] (isoS [] false false ih 42 [x167, .fv (.int .i64 0)] h161 fun x169 h170 r171 w172 => chkS [(r166, [])] r171 w172 (subS EE 3 x3 (.fv (.int .i64 1)) fun x173 => S68_404 ih h170 x0 x165 x169 x173 r171 w172 r168 r166 x5 x9 x3 x13))
noncomputable def S68_406 (ih : Handler) (h161 : Hp) (x236 : IV) (x13 : IV) : Option (IV × Hp) :=
  isoS [] false false ih 41 [x236, .fv (.int .i64 20)] h161 fun x238 h239 _ _ => subS EE 3 x238 (.fv (.int .i64 5)) fun x242 => isoS [] false false ih 31 [x242] h239 fun x243 h244 _ _ => storeA 3 x13 x243 h244 fun h247 _ _ => cellS true 3 x13 h247 fun x250 => outS1 [x250, .fv (.bool true)] h247
noncomputable def S68_407 (x164 : IV) (h161 : Hp) (x5 : IV) (x9 : IV) (ih : Handler) (x3 : IV) (x0 : IV) (x13 : IV) : Option (IV × Hp) :=
  condS x164 (loadA 3 x5 h161 fun x165 r166 => chkS [] r166 [] (S68_405 h161 x9 r166 ih x3 x0 x165 x5 x13)) (faddrS 1 x9 fun x235 => load1 x235 h161 fun x236 _ => S68_406 ih h161 x236 x13)
noncomputable def S68_408 (h117 : Hp) (x139 : IV) (x9 : IV) (ih : Handler) (x5 : IV) (x3 : IV) (x0 : IV) (x13 : IV) : Option (IV × Hp) :=
  guardS x139 true h117 (fun k140 => faddrS 0 x9 fun x141 => k140 x141 h117 [] []) fun x142 h143 _ _ => guardS x139 true h143 (fun k146 => load1 x142 h143 fun x147 r148 => k146 x147 h143 r148 []) fun x149 h150 _ _ => guardS x139 true h150 (fun k153 => isoS [] false false ih 41 [x149, .fv (.int .i64 2)] h150 k153) fun x154 h155 _ _ => guardS x139 true h155 (fun k158 => eqS EE 3 x154 (.fv (.int .i64 1)) fun x159 => k158 x159 h155 [] []) fun x160 h161 _ _ => pickS x139 x160 (.fv (.bool false)) fun x164 => S68_407 x164 h161 x5 x9 ih x3 x0 x13
noncomputable def S68_409 (r309 : List Ref) (w310 : List Ref) (h308 : Hp) (x13 : IV) (x284 : IV) : Option (IV × Hp) :=
  chkS [] r309 w310 (cellS true 3 x13 h308 fun x311 => outS1 [x311, x284] h308)
noncomputable def S68_410 (h289 : Hp) (x296 : IV) (x298 : IV) (ih : Handler) (x13 : IV) (x284 : IV) : Option (IV × Hp) :=
  genS (pcBuildSlice EE 28 2 [(0, x296), (1, x298)]) 71321605 h289 fun x300 h301 r302 w303 => chkS [] r302 w303 (isoS [] false false ih 30 [.fv (.int .i64 20), x300] h301 fun x304 h305 r306 w307 => chkS [] r306 w307 (storeA 3 x13 x304 h305 fun h308 r309 w310 => S68_409 r309 w310 h308 x13 x284))
noncomputable def S68_411 (x293 : IV) (h289 : Hp) (x285 : IV) (r294 : List Ref) (ih : Handler) (x13 : IV) (x284 : IV) : Option (IV × Hp) :=
  ixS 3 x293 (.fv (.int .i64 0)) fun x295 => loadA 3 x295 h289 fun x296 r297 => chkS [] r297 [] (loadA 3 x285 h289 fun x298 r299 => chkS [(r297, []), (r294, [])] r299 [] (S68_410 h289 x296 x298 ih x13 x284))
noncomputable def S68_412 (h286 : Hp) (x285 : IV) (x283 : IV) (x5 : IV) (ih : Handler) (x13 : IV) (x284 : IV) : Option (IV × Hp) :=
  storeA 3 x285 x283 h286 fun h289 r290 w291 => chkS [] r290 w291 (faddrS 2 x5 fun x292 => load1 x292 h289 fun x293 r294 => chkS [] r294 [] (S68_411 x293 h289 x285 r294 ih x13 x284))
noncomputable def S68_413 (r281 : List Ref) (w282 : List Ref) (x279 : IV) (h280 : Hp) (r276 : List Ref) (w277 : List Ref) (r273 : List Ref) (r270 : List Ref) (w271 : List Ref) (r267 : List Ref) (r264 : List Ref) (r260 : List Ref) (w261 : List Ref) (r257 : List Ref) (r254 : List Ref) (x5 : IV) (ih : Handler) (x13 : IV) : Option (IV × Hp) :=
  chkS [] r281 w282 (extS 0 x279 fun x283 => extS 1 x279 fun x284 => newS 71320595 (.row [.fv (.int .i64 0), .fv (.int .i64 0), .nils] false) (.ptr (.own 71320595) 0) h280 fun x285 h286 r287 w288 => chkS [(r281, w282), (r276, w277), (r273, []), (r270, w271), (r267, []), (r264, []), (r260, w261), (r257, []), (r254, [])] r287 w288 (S68_412 h286 x285 x283 x5 ih x13 x284))
noncomputable def S68_414 (r273 : List Ref) (r270 : List Ref) (w271 : List Ref) (r267 : List Ref) (r264 : List Ref) (r260 : List Ref) (w261 : List Ref) (r257 : List Ref) (r254 : List Ref) (ih : Handler) (h269 : Hp) (x272 : IV) (x3 : IV) (x258 : IV) (x268 : IV) (x5 : IV) (x13 : IV) : Option (IV × Hp) :=
  chkS [(r270, w271), (r267, []), (r264, []), (r260, w261), (r257, []), (r254, [])] r273 [] (isoS [] false false ih 42 [x272, .fv (.int .i64 0)] h269 fun x274 h275 r276 w277 => chkS [] r276 w277 (subS EE 3 x3 (.fv (.int .i64 1)) fun x278 => isoS [] false false ih 68 [x258, x268, x274, x278] h275 fun x279 h280 r281 w282 => S68_413 r281 w282 x279 h280 r276 w277 r273 r270 w271 r267 r264 r260 w261 r257 r254 x5 ih x13))
noncomputable def S68_415 (h259 : Hp) (x265 : IV) (r260 : List Ref) (w261 : List Ref) (r257 : List Ref) (r254 : List Ref) (ih : Handler) (x9 : IV) (r264 : List Ref) (x3 : IV) (x258 : IV) (x5 : IV) (x13 : IV) : Option (IV × Hp) :=
  loadA 3 x265 h259 fun x266 r267 => chkS [(r260, w261), (r257, []), (r254, [])] r267 [] (isoS [] false false ih 28 [x266, .fv (.int .i64 1), .fv (.int .i64 0)] h259 fun x268 h269 r270 w271 => chkS [] r270 w271 (loadA 3 x9 h269 fun x272 r273 => S68_414 r273 r270 w271 r267 r264 r260 w261 r257 r254 ih h269 x272 x3 x258 x268 x5 x13))
noncomputable def S68_416 (r260 : List Ref) (w261 : List Ref) (x5 : IV) (h259 : Hp) (r257 : List Ref) (r254 : List Ref) (ih : Handler) (x9 : IV) (x3 : IV) (x258 : IV) (x13 : IV) : Option (IV × Hp) :=
  chkS [] r260 w261 (faddrS 2 x5 fun x262 => load1 x262 h259 fun x263 r264 => chkS [(r260, w261), (r257, []), (r254, [])] r264 [] (ixS 3 x263 (.fv (.int .i64 1)) fun x265 => S68_415 h259 x265 r260 w261 r257 r254 ih x9 r264 x3 x258 x5 x13))
noncomputable def S68_417 (r254 : List Ref) (x253 : IV) (h117 : Hp) (ih : Handler) (x0 : IV) (x5 : IV) (x9 : IV) (x3 : IV) (x13 : IV) : Option (IV × Hp) :=
  chkS [] r254 [] (ixS 3 x253 (.fv (.int .i64 0)) fun x255 => loadA 3 x255 h117 fun x256 r257 => chkS [] r257 [] (isoS [] false false ih 96 [x0, .fv (.int .i64 0), x256] h117 fun x258 h259 r260 w261 => S68_416 r260 w261 x5 h259 r257 r254 ih x9 x3 x258 x13))
noncomputable def S68_418 (h383 : Hp) (x13 : IV) (x382 : IV) : Option (IV × Hp) :=
  cellS true 3 x13 h383 fun x386 => outS1 [x386, x382] h383
noncomputable def S68_419 (h362 : Hp) (x365 : IV) (x367 : IV) (ih : Handler) (x331 : IV) (x357 : IV) (x13 : IV) : Option (IV × Hp) :=
  genS (pcBuildSlice EE 28 2 [(0, x365), (1, x367)]) 71325698 h362 fun x369 h370 _ _ => isoS [] false false ih 30 [.fv (.int .i64 22), x369] h370 fun x373 h374 _ _ => guardS x331 true h374 (fun k377 => k377 x357 h374 [] []) fun x378 h379 _ _ => pickS x331 x378 (.fv (.bool false)) fun x382 => storeA 3 x13 x373 h379 fun h383 _ _ => S68_418 h383 x13 x382
noncomputable def S68_420 (r360 : List Ref) (w361 : List Ref) (r354 : List Ref) (w355 : List Ref) (r349 : List Ref) (w350 : List Ref) (r346 : List Ref) (r344 : List Ref) (r341 : List Ref) (h359 : Hp) (x358 : IV) (x356 : IV) (x332 : IV) (ih : Handler) (x331 : IV) (x357 : IV) (x13 : IV) : Option (IV × Hp) :=
  chkS [(r354, w355), (r349, w350), (r346, []), (r344, []), (r341, [])] r360 w361 (storeA 3 x358 x356 h359 fun h362 r363 w364 => chkS [] r363 w364 (loadA 3 x332 h362 fun x365 _ => loadA 3 x358 h362 fun x367 _ => S68_419 h362 x365 x367 ih x331 x357 x13))
noncomputable def S68_421 (ih : Handler) (h348 : Hp) (x0 : IV) (x343 : IV) (x347 : IV) (x351 : IV) (r349 : List Ref) (w350 : List Ref) (r346 : List Ref) (r344 : List Ref) (r341 : List Ref) (x332 : IV) (x331 : IV) (x13 : IV) : Option (IV × Hp) :=
  isoS [] false false ih 68 [x0, x343, x347, x351] h348 fun x352 h353 r354 w355 => chkS [] r354 w355 (extS 0 x352 fun x356 => extS 1 x352 fun x357 => newS 71324685 (.row [.fv (.int .i64 0), .fv (.int .i64 0), .nils] false) (.ptr (.own 71324685) 0) h353 fun x358 h359 r360 w361 => S68_420 r360 w361 r354 w355 r349 w350 r346 r344 r341 h359 x358 x356 x332 ih x331 x357 x13)
noncomputable def S68_422 (h336 : Hp) (x9 : IV) (r344 : List Ref) (r341 : List Ref) (ih : Handler) (x3 : IV) (x0 : IV) (x343 : IV) (x332 : IV) (x331 : IV) (x13 : IV) : Option (IV × Hp) :=
  loadA 3 x9 h336 fun x345 r346 => chkS [(r344, []), (r341, [])] r346 [] (isoS [] false false ih 42 [x345, .fv (.int .i64 1)] h336 fun x347 h348 r349 w350 => chkS [(r344, []), (r341, [])] r349 w350 (subS EE 3 x3 (.fv (.int .i64 1)) fun x351 => S68_421 ih h348 x0 x343 x347 x351 r349 w350 r346 r344 r341 x332 x331 x13))
noncomputable def S68_423 (h336 : Hp) (x339 : IV) (x9 : IV) (ih : Handler) (x3 : IV) (x0 : IV) (x332 : IV) (x331 : IV) (x13 : IV) : Option (IV × Hp) :=
  load1 x339 h336 fun x340 r341 => chkS [] r341 [] (ixS 3 x340 (.fv (.int .i64 1)) fun x342 => loadA 3 x342 h336 fun x343 r344 => chkS [] r344 [] (S68_422 h336 x9 r344 r341 ih x3 x0 x343 x332 x331 x13))
noncomputable def S68_424 (h327 : Hp) (r328 : List Ref) (w329 : List Ref) (r323 : List Ref) (w324 : List Ref) (r320 : List Ref) (r318 : List Ref) (r315 : List Ref) (x330 : IV) (x5 : IV) (x9 : IV) (ih : Handler) (x3 : IV) (x0 : IV) (x331 : IV) (x13 : IV) : Option (IV × Hp) :=
  newS 71323661 (.row [.fv (.int .i64 0), .fv (.int .i64 0), .nils] false) (.ptr (.own 71323661) 0) h327 fun x332 h333 r334 w335 => chkS [(r328, w329), (r323, w324), (r320, []), (r318, []), (r315, [])] r334 w335 (storeA 3 x332 x330 h333 fun h336 r337 w338 => chkS [] r337 w338 (faddrS 2 x5 fun x339 => S68_423 h336 x339 x9 ih x3 x0 x332 x331 x13))
noncomputable def S68_425 (x3 : IV) (ih : Handler) (h322 : Hp) (x0 : IV) (x317 : IV) (x321 : IV) (r323 : List Ref) (w324 : List Ref) (r320 : List Ref) (r318 : List Ref) (r315 : List Ref) (x5 : IV) (x9 : IV) (x13 : IV) : Option (IV × Hp) :=
  subS EE 3 x3 (.fv (.int .i64 1)) fun x325 => isoS [] false false ih 68 [x0, x317, x321, x325] h322 fun x326 h327 r328 w329 => chkS [] r328 w329 (extS 0 x326 fun x330 => extS 1 x326 fun x331 => S68_424 h327 r328 w329 r323 w324 r320 r318 r315 x330 x5 x9 ih x3 x0 x331 x13)
noncomputable def S68_426 (r318 : List Ref) (h117 : Hp) (x9 : IV) (r315 : List Ref) (ih : Handler) (x3 : IV) (x0 : IV) (x317 : IV) (x5 : IV) (x13 : IV) : Option (IV × Hp) :=
  chkS [] r318 [] (loadA 3 x9 h117 fun x319 r320 => chkS [(r318, []), (r315, [])] r320 [] (isoS [] false false ih 42 [x319, .fv (.int .i64 0)] h117 fun x321 h322 r323 w324 => chkS [(r318, []), (r315, [])] r323 w324 (S68_425 x3 ih h322 x0 x317 x321 r323 w324 r320 r318 r315 x5 x9 x13)))
noncomputable def S68_427 (x5 : IV) (h117 : Hp) (x9 : IV) (ih : Handler) (x3 : IV) (x0 : IV) (x13 : IV) : Option (IV × Hp) :=
  faddrS 2 x5 fun x313 => load1 x313 h117 fun x314 r315 => chkS [] r315 [] (ixS 3 x314 (.fv (.int .i64 0)) fun x316 => loadA 3 x316 h117 fun x317 r318 => S68_426 r318 h117 x9 r315 ih x3 x0 x317 x5 x13)
noncomputable def S68_428 (h117 : Hp) (x45 : IV) (x13 : IV) (x44 : IV) : Option (IV × Hp) :=
  loadA 3 x45 h117 fun x387 _ => storeA 3 x13 x387 h117 fun h389 _ _ => cellS true 3 x13 h389 fun x392 => outS1 [x392, x44] h389
noncomputable def S68_429 (x251 : IV) (x5 : IV) (h117 : Hp) (ih : Handler) (x0 : IV) (x9 : IV) (x3 : IV) (x13 : IV) (x136 : IV) (x45 : IV) (x44 : IV) : Option (IV × Hp) :=
  condS x251 (faddrS 2 x5 fun x252 => load1 x252 h117 fun x253 r254 => S68_417 r254 x253 h117 ih x0 x5 x9 x3 x13) (eqS EE 3 x136 (.fv (.int .i64 17)) fun x312 => condS x312 (S68_427 x5 h117 x9 ih x3 x0 x13) (S68_428 h117 x45 x13 x44))
noncomputable def S68_430 (x5 : IV) (h117 : Hp) (x3 : IV) (x9 : IV) (ih : Handler) (x0 : IV) (x13 : IV) (x45 : IV) (x44 : IV) : Option (IV × Hp) :=
  faddrS 0 x5 fun x135 => load1 x135 h117 fun x136 _ => eqS EE 3 x136 (.fv (.int .i64 15)) fun x138 => condS x138 (gtS EE 3 x3 (.fv (.int .i64 0)) fun x139 => S68_408 h117 x139 x9 ih x5 x3 x0 x13) (eqS EE 3 x136 (.fv (.int .i64 16)) fun x251 => S68_429 x251 x5 h117 ih x0 x9 x3 x13 x136 x45 x44)
noncomputable def S68_431 (h99 : Hp) (x95 : IV) (x98 : IV) (ih : Handler) (x5 : IV) (x9 : IV) (x0 : IV) (x3 : IV) (x13 : IV) (x45 : IV) (x44 : IV) : Option (IV × Hp) :=
  guardS x95 true h99 (fun k102 => load1 x98 h99 fun x103 r104 => k102 x103 h99 r104 []) fun x105 h106 _ _ => guardS x95 true h106 (fun k109 => isoS [] false false ih 41 [x105, .fv (.int .i64 3)] h106 k109) fun x110 h111 _ _ => guardS x95 true h111 (fun k114 => eqS EE 3 x110 (.fv (.int .i64 1)) fun x115 => k114 x115 h111 [] []) fun x116 h117 _ _ => pickS x95 x116 (.fv (.bool false)) fun x120 => condS x120 (S68_396 h117 x5 x9 ih x0 x3 x13) (S68_430 x5 h117 x3 x9 ih x0 x13 x45 x44)
noncomputable def S68_432 (x88 : IV) (h85 : Hp) (x45 : IV) (x13 : IV) (x44 : IV) (x3 : IV) (x9 : IV) (ih : Handler) (x5 : IV) (x0 : IV) : Option (IV × Hp) :=
  condS x88 (loadA 3 x45 h85 fun x89 _ => storeA 3 x13 x89 h85 fun h91 _ _ => S68_394 h91 x13 x44) (gtS EE 3 x3 (.fv (.int .i64 0)) fun x95 => guardS x95 true h85 (fun k96 => faddrS 0 x9 fun x97 => k96 x97 h85 [] []) fun x98 h99 _ _ => S68_431 h99 x95 x98 ih x5 x9 x0 x3 x13 x45 x44)
noncomputable def S68_433 (h67 : Hp) (x44 : IV) (x66 : IV) (x3 : IV) (x45 : IV) (x13 : IV) (x9 : IV) (ih : Handler) (x5 : IV) (x0 : IV) : Option (IV × Hp) :=
  guardS x44 true h67 (fun k70 => eqS EE 3 x66 (.fv (.int .i64 0)) fun x71 => k70 x71 h67 [] []) fun x72 h73 _ _ => pickS x44 x72 (.fv (.bool false)) fun x76 => guardS x76 false h73 (fun k77 => k77 x3 h73 [] []) fun x78 h79 _ _ => guardS x76 false h79 (fun k82 => ltS EE 3 x78 (.fv (.int .i64 (-4))) fun x83 => k82 x83 h79 [] []) fun x84 h85 _ _ => pickS x76 (.fv (.bool true)) x84 fun x88 => S68_432 x88 h85 x45 x13 x44 x3 x9 ih x5 x0
noncomputable def S68_434 (h40 : Hp) (x43 : IV) (x44 : IV) (x9 : IV) (ih : Handler) (x3 : IV) (x13 : IV) (x5 : IV) (x0 : IV) : Option (IV × Hp) :=
  newS 71307272 (.row [.fv (.int .i64 0), .fv (.int .i64 0), .nils] false) (.ptr (.own 71307272) 0) h40 fun x45 h46 _ _ => storeA 3 x45 x43 h46 fun h49 _ _ => guardS x44 true h49 (fun k52 => faddrS 0 x9 fun x53 => k52 x53 h49 [] []) fun x54 h55 _ _ => guardS x44 true h55 (fun k58 => load1 x54 h55 fun x59 r60 => k58 x59 h55 r60 []) fun x61 h62 _ _ => guardS x44 true h62 (fun k65 => isoS [] false false ih 41 [x61, .fv (.int .i64 3)] h62 k65) fun x66 h67 _ _ => S68_433 h67 x44 x66 x3 x45 x13 x9 ih x5 x0
noncomputable def S68_435 (x9 : IV) (h25 : Hp) (ih : Handler) (x0 : IV) (x34 : IV) (x3 : IV) (x13 : IV) (x5 : IV) : Option (IV × Hp) :=
  faddrS 1 x9 fun x36 => load1 x36 h25 fun x37 _ => isoS [] false false ih 97 [x0, .fv (.int .i64 0), x34, x37] h25 fun x39 h40 _ _ => extS 0 x39 fun x43 => extS 1 x39 fun x44 => S68_434 h40 x43 x44 x9 ih x3 x13 x5 x0
noncomputable def S68_436 (x19 : IV) (h20 : Hp) (x5 : IV) (x23 : IV) (x13 : IV) (x9 : IV) (ih : Handler) (x0 : IV) (x3 : IV) : Option (IV × Hp) :=
  extS 1 x19 fun x24 => storeA 3 x5 x23 h20 fun h25 _ _ => neS EE 3 x24 (.fv (.int .i64 0)) fun x28 => condS x28 (bldS [.fv (.int .i64 0), .fv (.int .i64 0), .nils] [] fun x29 => S68_393 h25 x13 x29) (loadA 3 x5 h25 fun x34 _ => S68_435 x9 h25 ih x0 x34 x3 x13 x5)
noncomputable def S68 (ih : Handler) (n : Nat) (x0 : IV) (x1 : IV) (x2 : IV) (x3 : IV) (h4 : Hp) : Option (IV × Hp) :=
  boxS 71303168 x1 h4 fun x5 h6 _ _ => boxS 71303169 x2 h6 fun x9 h10 _ _ => newS 71303170 (.row [.fv (.int .i64 0), .fv (.int .i64 0), .nils] false) (.ptr (.own 71303170) 0) h10 fun x13 h14 _ _ => loadA 3 x5 h14 fun x17 _ => isoS [] false false ih 58 [x17] h14 fun x19 h20 _ _ => extS 0 x19 fun x23 => S68_436 x19 h20 x5 x23 x13 x9 ih x0 x3
theorem S68_ok (ih : Handler) (n : Nat) (x0 : IV) (x1 : IV) (x2 : IV) (x3 : IV) (h4 : Hp) : funS EE ih ft.get n 68 [x0, x1, x2, x3] h4 = S68 ih n x0 x1 x2 x3 h4 := by kernel_rfl
/-! thyrsus/thyrsuslaw4.Type -/
noncomputable def S69_237 (h29 : Hp) (x8 : IV) : Option (IV × Hp) :=
  cellS true 3 x8 h29 fun x32 => outS1 [x32] h29
noncomputable def S69_238 (ih : Handler) (h24 : Hp) (x8 : IV) : Option (IV × Hp) :=
  isoS [] false false ih 30 [.fv (.int .i64 14), .nils] h24 fun x34 h35 _ _ => storeA 3 x8 x34 h35 fun h38 _ _ => cellS true 3 x8 h38 fun x41 => outS1 [x41] h38
noncomputable def S69_239 (h46 : Hp) (x45 : IV) (ih : Handler) (x8 : IV) : Option (IV × Hp) :=
  genS (pcBuildSlice EE 28 1 [(0, x45)]) 72363010 h46 fun x49 h50 _ _ => isoS [] false false ih 30 [.fv (.int .i64 18), x49] h50 fun x53 h54 _ _ => storeA 3 x8 x53 h54 fun h57 _ _ => cellS true 3 x8 h57 fun x60 => outS1 [x60] h57
noncomputable def S69_240 (ih : Handler) (h24 : Hp) (x8 : IV) : Option (IV × Hp) :=
  isoS [] false false ih 60 [.fv (.int .i64 0)] h24 fun x62 h63 _ _ => storeA 3 x8 x62 h63 fun h66 _ _ => cellS true 3 x8 h66 fun x69 => outS1 [x69] h66
noncomputable def S69_241 (r116 : List Ref) (w117 : List Ref) (h115 : Hp) (x8 : IV) (x114 : IV) : Option (IV × Hp) :=
  chkS [] r116 w117 (storeA 3 x8 x114 h115 fun h118 r119 w120 => chkS [] r119 w120 (cellS true 3 x8 h118 fun x121 => outS1 [x121] h118))
noncomputable def S69_242 (ih : Handler) (h102 : Hp) (x95 : IV) (x101 : IV) (x105 : IV) (r92 : List Ref) (x91 : IV) (x8 : IV) : Option (IV × Hp) :=
  isoS [] false false ih 69 [x95, x101, x105] h102 fun x106 h107 r108 w109 => chkS [(r92, [])] r108 w109 (genS (pcBuildSlice EE 28 2 [(0, x91), (1, x106)]) 72369161 h107 fun x110 h111 r112 w113 => chkS [] r112 w113 (isoS [] false false ih 30 [.fv (.int .i64 3), x110] h111 fun x114 h115 r116 w117 => S69_241 r116 w117 h115 x8 x114))
noncomputable def S69_243 (h96 : Hp) (x4 : IV) (r97 : List Ref) (w98 : List Ref) (r94 : List Ref) (r92 : List Ref) (ih : Handler) (x2 : IV) (x95 : IV) (x91 : IV) (x8 : IV) : Option (IV × Hp) :=
  loadA 3 x4 h96 fun x99 r100 => chkS [(r97, w98), (r94, []), (r92, [])] r100 [] (isoS [] false false ih 42 [x99, .fv (.int .i64 1)] h96 fun x101 h102 r103 w104 => chkS [(r92, [])] r103 w104 (subS EE 3 x2 (.fv (.int .i64 1)) fun x105 => S69_242 ih h102 x95 x101 x105 r92 x91 x8))
noncomputable def S69_244 (r92 : List Ref) (h88 : Hp) (x84 : IV) (ih : Handler) (x0 : IV) (x4 : IV) (x2 : IV) (x91 : IV) (x8 : IV) : Option (IV × Hp) :=
  chkS [] r92 [] (loadA 3 x84 h88 fun x93 r94 => chkS [(r92, [])] r94 [] (isoS [] false false ih 96 [x0, .fv (.int .i64 1), x93] h88 fun x95 h96 r97 w98 => chkS [(r92, [])] r97 w98 (S69_243 h96 x4 r97 w98 r94 r92 ih x2 x95 x91 x8)))
noncomputable def S69_245 (x2 : IV) (ih : Handler) (h76 : Hp) (x0 : IV) (x75 : IV) (x4 : IV) (x8 : IV) : Option (IV × Hp) :=
  subS EE 3 x2 (.fv (.int .i64 1)) fun x79 => isoS [] false false ih 69 [x0, x75, x79] h76 fun x80 h81 _ _ => newS 72368134 (.row [.fv (.int .i64 0), .fv (.int .i64 0), .nils] false) (.ptr (.own 72368134) 0) h81 fun x84 h85 _ _ => storeA 3 x84 x80 h85 fun h88 _ _ => loadA 3 x84 h88 fun x91 r92 => S69_244 r92 h88 x84 ih x0 x4 x2 x91 x8
noncomputable def S69_246 (h168 : Hp) (x8 : IV) : Option (IV × Hp) :=
  cellS true 3 x8 h168 fun x171 => outS1 [x171] h168
noncomputable def S69_247 (r162 : List Ref) (w163 : List Ref) (ih : Handler) (h161 : Hp) (x160 : IV) (x8 : IV) : Option (IV × Hp) :=
  chkS [] r162 w163 (isoS [] false false ih 30 [.fv (.int .i64 6), x160] h161 fun x164 h165 r166 w167 => chkS [] r166 w167 (storeA 3 x8 x164 h165 fun h168 r169 w170 => chkS [] r169 w170 (S69_246 h168 x8)))
noncomputable def S69_248 (r153 : List Ref) (w154 : List Ref) (r142 : List Ref) (x2 : IV) (ih : Handler) (h152 : Hp) (x145 : IV) (x151 : IV) (x141 : IV) (x8 : IV) : Option (IV × Hp) :=
  chkS [(r142, [])] r153 w154 (subS EE 3 x2 (.fv (.int .i64 1)) fun x155 => isoS [] false false ih 69 [x145, x151, x155] h152 fun x156 h157 r158 w159 => chkS [(r142, [])] r158 w159 (genS (pcBuildSlice EE 28 2 [(0, x141), (1, x156)]) 72372233 h157 fun x160 h161 r162 w163 => S69_247 r162 w163 ih h161 x160 x8))
noncomputable def S69_249 (ih : Handler) (h138 : Hp) (x0 : IV) (x143 : IV) (r142 : List Ref) (x4 : IV) (r144 : List Ref) (x2 : IV) (x141 : IV) (x8 : IV) : Option (IV × Hp) :=
  isoS [] false false ih 96 [x0, .fv (.int .i64 1), x143] h138 fun x145 h146 r147 w148 => chkS [(r142, [])] r147 w148 (loadA 3 x4 h146 fun x149 r150 => chkS [(r147, w148), (r144, []), (r142, [])] r150 [] (isoS [] false false ih 42 [x149, .fv (.int .i64 1)] h146 fun x151 h152 r153 w154 => S69_248 r153 w154 r142 x2 ih h152 x145 x151 x141 x8))
noncomputable def S69_250 (h135 : Hp) (x134 : IV) (x130 : IV) (ih : Handler) (x0 : IV) (x4 : IV) (x2 : IV) (x8 : IV) : Option (IV × Hp) :=
  storeA 3 x134 x130 h135 fun h138 _ _ => loadA 3 x134 h138 fun x141 r142 => chkS [] r142 [] (loadA 3 x134 h138 fun x143 r144 => chkS [(r142, [])] r144 [] (S69_249 ih h138 x0 x143 r142 x4 r144 x2 x141 x8))
noncomputable def S69_251 (h72 : Hp) (x4 : IV) (ih : Handler) (x2 : IV) (x0 : IV) (x8 : IV) : Option (IV × Hp) :=
  loadA 3 x4 h72 fun x123 _ => isoS [] false false ih 42 [x123, .fv (.int .i64 0)] h72 fun x125 h126 _ _ => subS EE 3 x2 (.fv (.int .i64 1)) fun x129 => isoS [] false false ih 69 [x0, x125, x129] h126 fun x130 h131 _ _ => newS 72371206 (.row [.fv (.int .i64 0), .fv (.int .i64 0), .nils] false) (.ptr (.own 72371206) 0) h131 fun x134 h135 _ _ => S69_250 h135 x134 x130 ih x0 x4 x2 x8
noncomputable def S69_252 (h201 : Hp) (x8 : IV) : Option (IV × Hp) :=
  cellS true 3 x8 h201 fun x204 => outS1 [x204] h201
noncomputable def S69_253 (ih : Handler) (h208 : Hp) (x207 : IV) (x8 : IV) : Option (IV × Hp) :=
  isoS [] false false ih 30 [.fv (.int .i64 18), x207] h208 fun x211 h212 _ _ => storeA 3 x8 x211 h212 fun h215 _ _ => cellS true 3 x8 h215 fun x218 => outS1 [x218] h215
noncomputable def S69_254 (x188 : IV) (ih : Handler) (h193 : Hp) (x8 : IV) (x189 : IV) : Option (IV × Hp) :=
  optS (unR .not x188) fun x196 => condS x196 (isoS [] false false ih 99 [] h193 fun x197 h198 _ _ => storeA 3 x8 x197 h198 fun h201 _ _ => S69_252 h201 x8) (loadA 3 x189 h193 fun x205 _ => genS (pcBuildSlice EE 28 1 [(0, x205)]) 72376321 h193 fun x207 h208 _ _ => S69_253 ih h208 x207 x8)
noncomputable def S69_255 (x183 : IV) (h184 : Hp) (r185 : List Ref) (w186 : List Ref) (r180 : List Ref) (w181 : List Ref) (r177 : List Ref) (r174 : List Ref) (w175 : List Ref) (x187 : IV) (ih : Handler) (x8 : IV) : Option (IV × Hp) :=
  extS 1 x183 fun x188 => newS 72373258 (.row [.fv (.int .i64 0), .fv (.int .i64 0), .nils] false) (.ptr (.own 72373258) 0) h184 fun x189 h190 r191 w192 => chkS [(r185, w186), (r180, w181), (r177, []), (r174, w175)] r191 w192 (storeA 3 x189 x187 h190 fun h193 r194 w195 => chkS [] r194 w195 (S69_254 x188 ih h193 x8 x189))
noncomputable def S69_256 (r180 : List Ref) (w181 : List Ref) (x2 : IV) (ih : Handler) (h179 : Hp) (x0 : IV) (x172 : IV) (x178 : IV) (r177 : List Ref) (r174 : List Ref) (w175 : List Ref) (x8 : IV) : Option (IV × Hp) :=
  chkS [] r180 w181 (subS EE 3 x2 (.fv (.int .i64 1)) fun x182 => isoS [] false false ih 70 [x0, x172, x178, x182] h179 fun x183 h184 r185 w186 => chkS [] r185 w186 (extS 0 x183 fun x187 => S69_255 x183 h184 r185 w186 r180 w181 r177 r174 w175 x187 ih x8))
noncomputable def S69_257 (ih : Handler) (h72 : Hp) (x4 : IV) (x2 : IV) (x0 : IV) (x8 : IV) : Option (IV × Hp) :=
  isoS [] false false ih 30 [.fv (.int .i64 14), .nils] h72 fun x172 h173 r174 w175 => chkS [] r174 w175 (loadA 3 x4 h173 fun x176 r177 => chkS [(r174, w175)] r177 [] (isoS [] false false ih 42 [x176, .fv (.int .i64 0)] h173 fun x178 h179 r180 w181 => S69_256 r180 w181 x2 ih h179 x0 x172 x178 r177 r174 w175 x8))
noncomputable def S69_258 (x71 : IV) (h72 : Hp) (x4 : IV) (ih : Handler) (x2 : IV) (x0 : IV) (x8 : IV) (x20 : IV) : Option (IV × Hp) :=
  condS x71 (loadA 3 x4 h72 fun x73 _ => isoS [] false false ih 42 [x73, .fv (.int .i64 0)] h72 fun x75 h76 _ _ => S69_245 x2 ih h76 x0 x75 x4 x8) (eqS EE 3 x20 (.fv (.int .i64 7)) fun x122 => condS x122 (S69_251 h72 x4 ih x2 x0 x8) (S69_257 ih h72 x4 x2 x0 x8))
noncomputable def S69_259 (x4 : IV) (ih : Handler) (x2 : IV) (x0 : IV) (x8 : IV) (x20 : IV) (h24 : Hp) : Option (IV × Hp) :=
  (fun (j1_70 : IV → Hp → Option (IV × Hp)) => eqS EE 3 x20 (.fv (.int .i64 5)) fun x219 => condS x219 (j1_70 x219 h24) (eqS EE 3 x20 (.fv (.int .i64 6)) fun x220 => j1_70 x220 h24)) fun x71 h72 => S69_258 x71 h72 x4 ih x2 x0 x8 x20
noncomputable def S69_260 (x20 : IV) (h24 : Hp) (x4 : IV) (ih : Handler) (x8 : IV) (x2 : IV) (x0 : IV) : Option (IV × Hp) :=
  eqS EE 3 x20 (.fv (.int .i64 3)) fun x42 => condS x42 (loadA 3 x4 h24 fun x43 _ => isoS [] false false ih 14 [x43, .fv (.int .i64 1)] h24 fun x45 h46 _ _ => S69_239 h46 x45 ih x8) (eqS EE 3 x20 (.fv (.int .i64 4)) fun x61 => condS x61 (S69_240 ih h24 x8) (S69_259 x4 ih x2 x0 x8 x20 h24))
noncomputable def S69_261 (x23 : IV) (ih : Handler) (h24 : Hp) (x8 : IV) (x20 : IV) (x4 : IV) (x2 : IV) (x0 : IV) : Option (IV × Hp) :=
  condS x23 (isoS [] false false ih 99 [] h24 fun x25 h26 _ _ => storeA 3 x8 x25 h26 fun h29 _ _ => S69_237 h29 x8) (eqS EE 3 x20 (.fv (.int .i64 2)) fun x33 => condS x33 (S69_238 ih h24 x8) (S69_260 x20 h24 x4 ih x8 x2 x0))
noncomputable def S69_262 (ih : Handler) (x8 : IV) (x20 : IV) (x4 : IV) (x2 : IV) (x0 : IV) (h21 : Hp) : Option (IV × Hp) :=
  (fun (j1_22 : IV → Hp → Option (IV × Hp)) => eqS EE 3 x20 (.fv (.int .i64 0)) fun x221 => condS x221 (j1_22 x221 h21) (eqS EE 3 x20 (.fv (.int .i64 1)) fun x222 => j1_22 x222 h21)) fun x23 h24 => S69_261 x23 ih h24 x8 x20 x4 x2 x0
noncomputable def S69_263 (x15 : IV) (j1_19 : IV → Hp → Option (IV × Hp)) (h232 : Hp) : Option (IV × Hp) :=
  binS EE 3 .rem x15 (.fv (.int .i64 5)) fun x236 => j1_19 x236 h232
noncomputable def S69_264 (x2 : IV) (h16 : Hp) (x15 : IV) (j1_19 : IV → Hp → Option (IV × Hp)) : Option (IV × Hp) :=
  leS EE 3 x2 (.fv (.int .i64 0)) fun x223 => guardS x223 true h16 (fun k224 => k224 x15 h16 [] []) fun x225 h226 _ _ => guardS x223 true h226 (fun k229 => gtS EE 3 x225 (.fv (.int .i64 4)) fun x230 => k229 x230 h226 [] []) fun x231 h232 _ _ => pickS x223 x231 (.fv (.bool false)) fun x235 => condS x235 (S69_263 x15 j1_19 h232) (j1_19 x15 h232)
noncomputable def S69 (ih : Handler) (n : Nat) (x0 : IV) (x1 : IV) (x2 : IV) (h3 : Hp) : Option (IV × Hp) :=
  boxS 72351744 x1 h3 fun x4 h5 _ _ => newS 72351745 (.row [.fv (.int .i64 0), .fv (.int .i64 0), .nils] false) (.ptr (.own 72351745) 0) h5 fun x8 h9 _ _ => faddrS 0 x4 fun x12 => load1 x12 h9 fun x13 _ => isoS [] false false ih 41 [x13, .fv (.int .i64 9)] h9 fun x15 h16 _ _ => (fun (j1_19 : IV → Hp → Option (IV × Hp)) => S69_264 x2 h16 x15 j1_19) fun x20 h21 => S69_262 ih x8 x20 x4 x2 x0 h21
theorem S69_ok (ih : Handler) (n : Nat) (x0 : IV) (x1 : IV) (x2 : IV) (h3 : Hp) : funS EE ih ft.get n 69 [x0, x1, x2] h3 = S69 ih n x0 x1 x2 h3 := by kernel_rfl
/-! thyrsus/thyrsuslaw4.Grow -/
noncomputable def S70_346 (h25 : Hp) (x13 : IV) (x29 : IV) : Option (IV × Hp) :=
  storeA 3 x13 x29 h25 fun h30 _ _ => cellS true 3 x13 h30 fun x33 => outS1 [x33, .fv (.bool false)] h30
noncomputable def S70_347 (h91 : Hp) (x13 : IV) (x44 : IV) : Option (IV × Hp) :=
  cellS true 3 x13 h91 fun x94 => outS1 [x94, x44] h91
noncomputable def S70_348 (h126 : Hp) (x13 : IV) (x129 : IV) (x130 : IV) : Option (IV × Hp) :=
  storeA 3 x13 x129 h126 fun h131 _ _ => cellS true 3 x13 h131 fun x134 => outS1 [x134, x130] h131
noncomputable def S70_349 (h117 : Hp) (x5 : IV) (x9 : IV) (ih : Handler) (x0 : IV) (x3 : IV) (x13 : IV) : Option (IV × Hp) :=
  loadA 3 x5 h117 fun x121 _ => loadA 3 x9 h117 fun x123 _ => isoS [] false false ih 100 [x0, x121, x123, x3] h117 fun x125 h126 _ _ => extS 0 x125 fun x129 => extS 1 x125 fun x130 => S70_348 h126 x13 x129 x130
noncomputable def S70_350 (ih : Handler) (h140 : Hp) (x0 : IV) (x141 : IV) (x143 : IV) (x3 : IV) (x13 : IV) : Option (IV × Hp) :=
  isoS [] false false ih 101 [x0, x141, x143, x3] h140 fun x145 h146 _ _ => extS 0 x145 fun x149 => extS 1 x145 fun x150 => storeA 3 x13 x149 h146 fun h151 _ _ => cellS true 3 x13 h151 fun x154 => outS1 [x154, x150] h151
noncomputable def S70_351 (r209 : List Ref) (w210 : List Ref) (h208 : Hp) (x13 : IV) (x184 : IV) : Option (IV × Hp) :=
  chkS [] r209 w210 (cellS true 3 x13 h208 fun x211 => outS1 [x211, x184] h208)
noncomputable def S70_352 (h189 : Hp) (x196 : IV) (x198 : IV) (ih : Handler) (x13 : IV) (x184 : IV) : Option (IV × Hp) :=
  genS (pcBuildSlice EE 28 2 [(0, x196), (1, x198)]) 73416709 h189 fun x200 h201 r202 w203 => chkS [] r202 w203 (isoS [] false false ih 30 [.fv (.int .i64 4), x200] h201 fun x204 h205 r206 w207 => chkS [] r206 w207 (storeA 3 x13 x204 h205 fun h208 r209 w210 => S70_351 r209 w210 h208 x13 x184))
noncomputable def S70_353 (x193 : IV) (h189 : Hp) (x185 : IV) (r194 : List Ref) (ih : Handler) (x13 : IV) (x184 : IV) : Option (IV × Hp) :=
  ixS 3 x193 (.fv (.int .i64 0)) fun x195 => loadA 3 x195 h189 fun x196 r197 => chkS [] r197 [] (loadA 3 x185 h189 fun x198 r199 => chkS [(r197, []), (r194, [])] r199 [] (S70_352 h189 x196 x198 ih x13 x184))
noncomputable def S70_354 (h186 : Hp) (x185 : IV) (x183 : IV) (x5 : IV) (ih : Handler) (x13 : IV) (x184 : IV) : Option (IV × Hp) :=
  storeA 3 x185 x183 h186 fun h189 r190 w191 => chkS [] r190 w191 (faddrS 2 x5 fun x192 => load1 x192 h189 fun x193 r194 => chkS [] r194 [] (S70_353 x193 h189 x185 r194 ih x13 x184))
noncomputable def S70_355 (r181 : List Ref) (w182 : List Ref) (x179 : IV) (h180 : Hp) (r176 : List Ref) (w177 : List Ref) (r173 : List Ref) (r171 : List Ref) (r168 : List Ref) (r164 : List Ref) (w165 : List Ref) (r161 : List Ref) (r158 : List Ref) (x5 : IV) (ih : Handler) (x13 : IV) : Option (IV × Hp) :=
  chkS [] r181 w182 (extS 0 x179 fun x183 => extS 1 x179 fun x184 => newS 73415698 (.row [.fv (.int .i64 0), .fv (.int .i64 0), .nils] false) (.ptr (.own 73415698) 0) h180 fun x185 h186 r187 w188 => chkS [(r181, w182), (r176, w177), (r173, []), (r171, []), (r168, []), (r164, w165), (r161, []), (r158, [])] r187 w188 (S70_354 h186 x185 x183 x5 ih x13 x184))
noncomputable def S70_356 (r173 : List Ref) (r171 : List Ref) (r168 : List Ref) (r164 : List Ref) (w165 : List Ref) (r161 : List Ref) (r158 : List Ref) (ih : Handler) (h163 : Hp) (x172 : IV) (x3 : IV) (x162 : IV) (x170 : IV) (x5 : IV) (x13 : IV) : Option (IV × Hp) :=
  chkS [(r171, []), (r168, []), (r164, w165), (r161, []), (r158, [])] r173 [] (isoS [] false false ih 42 [x172, .fv (.int .i64 0)] h163 fun x174 h175 r176 w177 => chkS [(r171, []), (r168, [])] r176 w177 (subS EE 3 x3 (.fv (.int .i64 1)) fun x178 => isoS [] false false ih 70 [x162, x170, x174, x178] h175 fun x179 h180 r181 w182 => S70_355 r181 w182 x179 h180 r176 w177 r173 r171 r168 r164 w165 r161 r158 x5 ih x13))
noncomputable def S70_357 (r168 : List Ref) (r164 : List Ref) (w165 : List Ref) (r161 : List Ref) (r158 : List Ref) (x167 : IV) (h163 : Hp) (x9 : IV) (ih : Handler) (x3 : IV) (x162 : IV) (x5 : IV) (x13 : IV) : Option (IV × Hp) :=
  chkS [(r164, w165), (r161, []), (r158, [])] r168 [] (ixS 3 x167 (.fv (.int .i64 1)) fun x169 => loadA 3 x169 h163 fun x170 r171 => chkS [(r164, w165), (r161, []), (r158, [])] r171 [] (loadA 3 x9 h163 fun x172 r173 => S70_356 r173 r171 r168 r164 w165 r161 r158 ih h163 x172 x3 x162 x170 x5 x13))
noncomputable def S70_358 (r161 : List Ref) (ih : Handler) (h140 : Hp) (x0 : IV) (x160 : IV) (x5 : IV) (r158 : List Ref) (x9 : IV) (x3 : IV) (x13 : IV) : Option (IV × Hp) :=
  chkS [] r161 [] (isoS [] false false ih 96 [x0, .fv (.int .i64 1), x160] h140 fun x162 h163 r164 w165 => chkS [] r164 w165 (faddrS 2 x5 fun x166 => load1 x166 h163 fun x167 r168 => S70_357 r168 r164 w165 r161 r158 x167 h163 x9 ih x3 x162 x5 x13))
noncomputable def S70_359 (x5 : IV) (h140 : Hp) (ih : Handler) (x0 : IV) (x9 : IV) (x3 : IV) (x13 : IV) : Option (IV × Hp) :=
  faddrS 2 x5 fun x156 => load1 x156 h140 fun x157 r158 => chkS [] r158 [] (ixS 3 x157 (.fv (.int .i64 0)) fun x159 => loadA 3 x159 h140 fun x160 r161 => S70_358 r161 ih h140 x0 x160 x5 r158 x9 x3 x13)
noncomputable def S70_360 (h236 : Hp) (x13 : IV) (x240 : IV) (x44 : IV) : Option (IV × Hp) :=
  storeA 3 x13 x240 h236 fun h242 _ _ => cellS true 3 x13 h242 fun x245 => outS1 [x245, x44] h242
noncomputable def S70_361 (h275 : Hp) (x278 : IV) (x280 : IV) (x282 : IV) (ih : Handler) (x13 : IV) (x270 : IV) : Option (IV × Hp) :=
  genS (pcBuildSlice EE 28 3 [(0, x278), (1, x280), (2, x282)]) 73422851 h275 fun x284 h285 _ _ => isoS [] false false ih 30 [.fv (.int .i64 7), x284] h285 fun x288 h289 _ _ => storeA 3 x13 x288 h289 fun h292 _ _ => cellS true 3 x13 h292 fun x295 => outS1 [x295, x270] h292
noncomputable def S70_362 (h272 : Hp) (x271 : IV) (x269 : IV) (x5 : IV) (x232 : IV) (ih : Handler) (x13 : IV) (x270 : IV) : Option (IV × Hp) :=
  storeA 3 x271 x269 h272 fun h275 r276 w277 => chkS [] r276 w277 (loadA 3 x5 h275 fun x278 _ => loadA 3 x232 h275 fun x280 _ => loadA 3 x271 h275 fun x282 _ => S70_361 h275 x278 x280 x282 ih x13 x270)
noncomputable def S70_363 (r267 : List Ref) (w268 : List Ref) (x265 : IV) (h266 : Hp) (r262 : List Ref) (w263 : List Ref) (r259 : List Ref) (r256 : List Ref) (w257 : List Ref) (r253 : List Ref) (r251 : List Ref) (r248 : List Ref) (x5 : IV) (x232 : IV) (ih : Handler) (x13 : IV) : Option (IV × Hp) :=
  chkS [] r267 w268 (extS 0 x265 fun x269 => extS 1 x265 fun x270 => newS 73421839 (.row [.fv (.int .i64 0), .fv (.int .i64 0), .nils] false) (.ptr (.own 73421839) 0) h266 fun x271 h272 r273 w274 => chkS [(r267, w268), (r262, w263), (r259, []), (r256, w257), (r253, []), (r251, []), (r248, [])] r273 w274 (S70_362 h272 x271 x269 x5 x232 ih x13 x270))
noncomputable def S70_364 (r259 : List Ref) (r256 : List Ref) (w257 : List Ref) (r253 : List Ref) (r251 : List Ref) (r248 : List Ref) (ih : Handler) (h255 : Hp) (x258 : IV) (x3 : IV) (x0 : IV) (x254 : IV) (x5 : IV) (x232 : IV) (x13 : IV) : Option (IV × Hp) :=
  chkS [(r256, w257), (r253, []), (r251, []), (r248, [])] r259 [] (isoS [] false false ih 42 [x258, .fv (.int .i64 1)] h255 fun x260 h261 r262 w263 => chkS [] r262 w263 (subS EE 3 x3 (.fv (.int .i64 1)) fun x264 => isoS [] false false ih 70 [x0, x254, x260, x264] h261 fun x265 h266 r267 w268 => S70_363 r267 w268 x265 h266 r262 w263 r259 r256 w257 r253 r251 r248 x5 x232 ih x13))
noncomputable def S70_365 (h236 : Hp) (x232 : IV) (r251 : List Ref) (r248 : List Ref) (ih : Handler) (x250 : IV) (x9 : IV) (x3 : IV) (x0 : IV) (x5 : IV) (x13 : IV) : Option (IV × Hp) :=
  loadA 3 x232 h236 fun x252 r253 => chkS [(r251, []), (r248, [])] r253 [] (isoS [] false false ih 89 [x250, .fv (.int .i64 0), x252] h236 fun x254 h255 r256 w257 => chkS [] r256 w257 (loadA 3 x9 h255 fun x258 r259 => S70_364 r259 r256 w257 r253 r251 r248 ih h255 x258 x3 x0 x254 x5 x232 x13))
noncomputable def S70_366 (h236 : Hp) (x246 : IV) (x232 : IV) (ih : Handler) (x9 : IV) (x3 : IV) (x0 : IV) (x5 : IV) (x13 : IV) : Option (IV × Hp) :=
  load1 x246 h236 fun x247 r248 => chkS [] r248 [] (ixS 3 x247 (.fv (.int .i64 1)) fun x249 => loadA 3 x249 h236 fun x250 r251 => chkS [] r251 [] (S70_365 h236 x232 r251 r248 ih x250 x9 x3 x0 x5 x13))
noncomputable def S70_367 (h233 : Hp) (x232 : IV) (x230 : IV) (x231 : IV) (x45 : IV) (x13 : IV) (x44 : IV) (x5 : IV) (ih : Handler) (x9 : IV) (x3 : IV) (x0 : IV) : Option (IV × Hp) :=
  storeA 3 x232 x230 h233 fun h236 r237 w238 => chkS [] r237 w238 (optS (unR .not x231) fun x239 => condS x239 (loadA 3 x45 h236 fun x240 _ => S70_360 h236 x13 x240 x44) (faddrS 2 x5 fun x246 => S70_366 h236 x246 x232 ih x9 x3 x0 x5 x13))
noncomputable def S70_368 (r228 : List Ref) (w229 : List Ref) (x226 : IV) (h227 : Hp) (r223 : List Ref) (w224 : List Ref) (r220 : List Ref) (r218 : List Ref) (r215 : List Ref) (x45 : IV) (x13 : IV) (x44 : IV) (x5 : IV) (ih : Handler) (x9 : IV) (x3 : IV) (x0 : IV) : Option (IV × Hp) :=
  chkS [] r228 w229 (extS 0 x226 fun x230 => extS 1 x226 fun x231 => newS 73418765 (.row [.fv (.int .i64 0), .fv (.int .i64 0), .nils] false) (.ptr (.own 73418765) 0) h227 fun x232 h233 r234 w235 => chkS [(r228, w229), (r223, w224), (r220, []), (r218, []), (r215, [])] r234 w235 (S70_367 h233 x232 x230 x231 x45 x13 x44 x5 ih x9 x3 x0))
noncomputable def S70_369 (r220 : List Ref) (r218 : List Ref) (r215 : List Ref) (ih : Handler) (h140 : Hp) (x219 : IV) (x3 : IV) (x0 : IV) (x217 : IV) (x45 : IV) (x13 : IV) (x44 : IV) (x5 : IV) (x9 : IV) : Option (IV × Hp) :=
  chkS [(r218, []), (r215, [])] r220 [] (isoS [] false false ih 42 [x219, .fv (.int .i64 0)] h140 fun x221 h222 r223 w224 => chkS [(r218, []), (r215, [])] r223 w224 (subS EE 3 x3 (.fv (.int .i64 1)) fun x225 => isoS [] false false ih 70 [x0, x217, x221, x225] h222 fun x226 h227 r228 w229 => S70_368 r228 w229 x226 h227 r223 w224 r220 r218 r215 x45 x13 x44 x5 ih x9 x3 x0))
noncomputable def S70_370 (r215 : List Ref) (x214 : IV) (h140 : Hp) (x9 : IV) (ih : Handler) (x3 : IV) (x0 : IV) (x45 : IV) (x13 : IV) (x44 : IV) (x5 : IV) : Option (IV × Hp) :=
  chkS [] r215 [] (ixS 3 x214 (.fv (.int .i64 0)) fun x216 => loadA 3 x216 h140 fun x217 r218 => chkS [] r218 [] (loadA 3 x9 h140 fun x219 r220 => S70_369 r220 r218 r215 ih h140 x219 x3 x0 x217 x45 x13 x44 x5 x9))
noncomputable def S70_371 (h320 : Hp) (x323 : IV) (ih : Handler) (x13 : IV) (x315 : IV) : Option (IV × Hp) :=
  genS (pcBuildSlice EE 28 1 [(0, x323)]) 73425921 h320 fun x325 h326 _ _ => isoS [] false false ih 30 [.fv (.int .i64 19), x325] h326 fun x329 h330 _ _ => storeA 3 x13 x329 h330 fun h333 _ _ => cellS true 3 x13 h333 fun x336 => outS1 [x336, x315] h333
noncomputable def S70_372 (h311 : Hp) (r312 : List Ref) (w313 : List Ref) (r307 : List Ref) (w308 : List Ref) (r304 : List Ref) (r302 : List Ref) (r299 : List Ref) (x314 : IV) (ih : Handler) (x13 : IV) (x315 : IV) : Option (IV × Hp) :=
  newS 73424909 (.row [.fv (.int .i64 0), .fv (.int .i64 0), .nils] false) (.ptr (.own 73424909) 0) h311 fun x316 h317 r318 w319 => chkS [(r312, w313), (r307, w308), (r304, []), (r302, []), (r299, [])] r318 w319 (storeA 3 x316 x314 h317 fun h320 r321 w322 => chkS [] r321 w322 (loadA 3 x316 h320 fun x323 _ => S70_371 h320 x323 ih x13 x315))
noncomputable def S70_373 (x3 : IV) (ih : Handler) (h306 : Hp) (x0 : IV) (x301 : IV) (x305 : IV) (r307 : List Ref) (w308 : List Ref) (r304 : List Ref) (r302 : List Ref) (r299 : List Ref) (x13 : IV) : Option (IV × Hp) :=
  subS EE 3 x3 (.fv (.int .i64 1)) fun x309 => isoS [] false false ih 68 [x0, x301, x305, x309] h306 fun x310 h311 r312 w313 => chkS [] r312 w313 (extS 0 x310 fun x314 => extS 1 x310 fun x315 => S70_372 h311 r312 w313 r307 w308 r304 r302 r299 x314 ih x13 x315)
noncomputable def S70_374 (r302 : List Ref) (h140 : Hp) (x9 : IV) (r299 : List Ref) (ih : Handler) (x3 : IV) (x0 : IV) (x301 : IV) (x13 : IV) : Option (IV × Hp) :=
  chkS [] r302 [] (loadA 3 x9 h140 fun x303 r304 => chkS [(r302, []), (r299, [])] r304 [] (isoS [] false false ih 42 [x303, .fv (.int .i64 0)] h140 fun x305 h306 r307 w308 => chkS [(r302, []), (r299, [])] r307 w308 (S70_373 x3 ih h306 x0 x301 x305 r307 w308 r304 r302 r299 x13)))
noncomputable def S70_375 (x5 : IV) (h140 : Hp) (x9 : IV) (ih : Handler) (x3 : IV) (x0 : IV) (x13 : IV) : Option (IV × Hp) :=
  faddrS 2 x5 fun x297 => load1 x297 h140 fun x298 r299 => chkS [] r299 [] (ixS 3 x298 (.fv (.int .i64 0)) fun x300 => loadA 3 x300 h140 fun x301 r302 => S70_374 r302 h140 x9 r299 ih x3 x0 x301 x13)
noncomputable def S70_376 (h140 : Hp) (x45 : IV) (x13 : IV) (x44 : IV) : Option (IV × Hp) :=
  loadA 3 x45 h140 fun x337 _ => storeA 3 x13 x337 h140 fun h339 _ _ => cellS true 3 x13 h339 fun x342 => outS1 [x342, x44] h339
noncomputable def S70_377 (x136 : IV) (x5 : IV) (h140 : Hp) (x9 : IV) (ih : Handler) (x3 : IV) (x0 : IV) (x45 : IV) (x13 : IV) (x44 : IV) : Option (IV × Hp) :=
  eqS EE 3 x136 (.fv (.int .i64 6)) fun x212 => condS x212 (faddrS 2 x5 fun x213 => load1 x213 h140 fun x214 r215 => S70_370 r215 x214 h140 x9 ih x3 x0 x45 x13 x44 x5) (eqS EE 3 x136 (.fv (.int .i64 18)) fun x296 => condS x296 (S70_375 x5 h140 x9 ih x3 x0 x13) (S70_376 h140 x45 x13 x44))
noncomputable def S70_378 (x139 : IV) (h140 : Hp) (x5 : IV) (x9 : IV) (ih : Handler) (x0 : IV) (x3 : IV) (x13 : IV) (x136 : IV) (x45 : IV) (x44 : IV) : Option (IV × Hp) :=
  condS x139 (loadA 3 x5 h140 fun x141 _ => loadA 3 x9 h140 fun x143 _ => S70_350 ih h140 x0 x141 x143 x3 x13) (eqS EE 3 x136 (.fv (.int .i64 3)) fun x155 => condS x155 (S70_359 x5 h140 ih x0 x9 x3 x13) (S70_377 x136 x5 h140 x9 ih x3 x0 x45 x13 x44))
noncomputable def S70_379 (x136 : IV) (j1_138 : IV → Hp → Option (IV × Hp)) (h117 : Hp) : Option (IV × Hp) :=
  eqS EE 3 x136 (.fv (.int .i64 14)) fun x344 => condS x344 (j1_138 x344 h117) (eqS EE 3 x136 (.fv (.int .i64 2)) fun x345 => j1_138 x345 h117)
noncomputable def S70_380 (x5 : IV) (h117 : Hp) (x9 : IV) (ih : Handler) (x0 : IV) (x3 : IV) (x13 : IV) (x45 : IV) (x44 : IV) : Option (IV × Hp) :=
  faddrS 0 x5 fun x135 => load1 x135 h117 fun x136 _ => (fun (j1_138 : IV → Hp → Option (IV × Hp)) => eqS EE 3 x136 (.fv (.int .i64 10)) fun x343 => condS x343 (j1_138 x343 h117) (S70_379 x136 j1_138 h117)) fun x139 h140 => S70_378 x139 h140 x5 x9 ih x0 x3 x13 x136 x45 x44
noncomputable def S70_381 (h99 : Hp) (x95 : IV) (x98 : IV) (ih : Handler) (x5 : IV) (x9 : IV) (x0 : IV) (x3 : IV) (x13 : IV) (x45 : IV) (x44 : IV) : Option (IV × Hp) :=
  guardS x95 true h99 (fun k102 => load1 x98 h99 fun x103 r104 => k102 x103 h99 r104 []) fun x105 h106 _ _ => guardS x95 true h106 (fun k109 => isoS [] false false ih 41 [x105, .fv (.int .i64 7)] h106 k109) fun x110 h111 _ _ => guardS x95 true h111 (fun k114 => eqS EE 3 x110 (.fv (.int .i64 6)) fun x115 => k114 x115 h111 [] []) fun x116 h117 _ _ => pickS x95 x116 (.fv (.bool false)) fun x120 => condS x120 (S70_349 h117 x5 x9 ih x0 x3 x13) (S70_380 x5 h117 x9 ih x0 x3 x13 x45 x44)
noncomputable def S70_382 (x88 : IV) (h85 : Hp) (x45 : IV) (x13 : IV) (x44 : IV) (x3 : IV) (x9 : IV) (ih : Handler) (x5 : IV) (x0 : IV) : Option (IV × Hp) :=
  condS x88 (loadA 3 x45 h85 fun x89 _ => storeA 3 x13 x89 h85 fun h91 _ _ => S70_347 h91 x13 x44) (gtS EE 3 x3 (.fv (.int .i64 0)) fun x95 => guardS x95 true h85 (fun k96 => faddrS 0 x9 fun x97 => k96 x97 h85 [] []) fun x98 h99 _ _ => S70_381 h99 x95 x98 ih x5 x9 x0 x3 x13 x45 x44)
noncomputable def S70_383 (h67 : Hp) (x44 : IV) (x66 : IV) (x3 : IV) (x45 : IV) (x13 : IV) (x9 : IV) (ih : Handler) (x5 : IV) (x0 : IV) : Option (IV × Hp) :=
  guardS x44 true h67 (fun k70 => eqS EE 3 x66 (.fv (.int .i64 0)) fun x71 => k70 x71 h67 [] []) fun x72 h73 _ _ => pickS x44 x72 (.fv (.bool false)) fun x76 => guardS x76 false h73 (fun k77 => k77 x3 h73 [] []) fun x78 h79 _ _ => guardS x76 false h79 (fun k82 => ltS EE 3 x78 (.fv (.int .i64 (-4))) fun x83 => k82 x83 h79 [] []) fun x84 h85 _ _ => pickS x76 (.fv (.bool true)) x84 fun x88 => S70_382 x88 h85 x45 x13 x44 x3 x9 ih x5 x0
noncomputable def S70_384 (h40 : Hp) (x43 : IV) (x44 : IV) (x9 : IV) (ih : Handler) (x3 : IV) (x13 : IV) (x5 : IV) (x0 : IV) : Option (IV × Hp) :=
  newS 73404424 (.row [.fv (.int .i64 0), .fv (.int .i64 0), .nils] false) (.ptr (.own 73404424) 0) h40 fun x45 h46 _ _ => storeA 3 x45 x43 h46 fun h49 _ _ => guardS x44 true h49 (fun k52 => faddrS 0 x9 fun x53 => k52 x53 h49 [] []) fun x54 h55 _ _ => guardS x44 true h55 (fun k58 => load1 x54 h55 fun x59 r60 => k58 x59 h55 r60 []) fun x61 h62 _ _ => guardS x44 true h62 (fun k65 => isoS [] false false ih 41 [x61, .fv (.int .i64 3)] h62 k65) fun x66 h67 _ _ => S70_383 h67 x44 x66 x3 x45 x13 x9 ih x5 x0
noncomputable def S70_385 (x9 : IV) (h25 : Hp) (ih : Handler) (x0 : IV) (x34 : IV) (x3 : IV) (x13 : IV) (x5 : IV) : Option (IV × Hp) :=
  faddrS 1 x9 fun x36 => load1 x36 h25 fun x37 _ => isoS [] false false ih 97 [x0, .fv (.int .i64 1), x34, x37] h25 fun x39 h40 _ _ => extS 0 x39 fun x43 => extS 1 x39 fun x44 => S70_384 h40 x43 x44 x9 ih x3 x13 x5 x0
noncomputable def S70_386 (x19 : IV) (h20 : Hp) (x5 : IV) (x23 : IV) (x13 : IV) (x9 : IV) (ih : Handler) (x0 : IV) (x3 : IV) : Option (IV × Hp) :=
  extS 1 x19 fun x24 => storeA 3 x5 x23 h20 fun h25 _ _ => neS EE 3 x24 (.fv (.int .i64 0)) fun x28 => condS x28 (bldS [.fv (.int .i64 0), .fv (.int .i64 0), .nils] [] fun x29 => S70_346 h25 x13 x29) (loadA 3 x5 h25 fun x34 _ => S70_385 x9 h25 ih x0 x34 x3 x13 x5)
noncomputable def S70 (ih : Handler) (n : Nat) (x0 : IV) (x1 : IV) (x2 : IV) (x3 : IV) (h4 : Hp) : Option (IV × Hp) :=
  boxS 73400320 x1 h4 fun x5 h6 _ _ => boxS 73400321 x2 h6 fun x9 h10 _ _ => newS 73400322 (.row [.fv (.int .i64 0), .fv (.int .i64 0), .nils] false) (.ptr (.own 73400322) 0) h10 fun x13 h14 _ _ => loadA 3 x5 h14 fun x17 _ => isoS [] false false ih 58 [x17] h14 fun x19 h20 _ _ => extS 0 x19 fun x23 => S70_386 x19 h20 x5 x23 x13 x9 ih x0 x3
theorem S70_ok (ih : Handler) (n : Nat) (x0 : IV) (x1 : IV) (x2 : IV) (x3 : IV) (h4 : Hp) : funS EE ih ft.get n 70 [x0, x1, x2, x3] h4 = S70 ih n x0 x1 x2 x3 h4 := by kernel_rfl
/-! thyrsus/term.check -/
noncomputable def S71_121 (x108 : IV) (h109 : Hp) (x93 : IV) (h3 : Hp) (x89 : IV) (x90 : IV) (x91 : IV) (x92 : IV) (q86 : List IV → Hp → Option (IV × Hp)) : Option (IV × Hp) :=
  neS EE 35 x108 (.fv (.int .i64 0)) fun x112 => condS x112 (outS1 [x108] h109) (addS EE 3 x93 (.fv (.int .i64 1)) fun x113 => dropS (h3.own.map (·.1)) [74457090] [x89, x90, x91, x92, x113] h109 fun h114 => q86 [x89, x90, x91, x92, x113] h114)
noncomputable def S71_122 (h88 : Hp) (x96 : IV) (x90 : IV) (ih : Handler) (x89 : IV) (x93 : IV) (h3 : Hp) (x91 : IV) (x92 : IV) (q86 : List IV → Hp → Option (IV × Hp)) : Option (IV × Hp) :=
  newS 74457090 (.row [.fv (.int .i64 0), .fv (.int .i64 0), .nils] false) (.ptr (.own 74457090) 0) h88 fun x98 h99 _ _ => storeA 3 x98 x96 h99 fun h102 _ _ => loadA 3 x98 h102 fun x105 _ => addS EE 3 x90 (.fv (.int .i64 1)) fun x107 => isoS [false, true, false] false false ih 71 [x105, x89, x107] h102 fun x108 h109 _ _ => S71_121 x108 h109 x93 h3 x89 x90 x91 x92 q86
noncomputable def S71_123 (x93 : IV) (x92 : IV) (x91 : IV) (h88 : Hp) (x90 : IV) (ih : Handler) (x89 : IV) (h3 : Hp) (q86 : List IV → Hp → Option (IV × Hp)) : Option (IV × Hp) :=
  ltS EE 3 x93 x92 fun x94 => condS x94 (ixS 3 x91 x93 fun x95 => loadA 3 x95 h88 fun x96 _ => S71_122 h88 x96 x90 ih x89 x93 h3 x91 x92 q86) (outS1 [.fv (.int .i64 0)] h88)
noncomputable def S71_124 (l87 : List IV) (h88 : Hp) (ih : Handler) (h3 : Hp) (q86 : List IV → Hp → Option (IV × Hp)) : Option (IV × Hp) :=
  uncS l87 fun x89 l115 => uncS l115 fun x90 l116 => uncS l116 fun x91 l117 => uncS l117 fun x92 l118 => uncS l118 fun x93 _ => S71_123 x93 x92 x91 h88 x90 ih x89 h3 q86
noncomputable def S71_125 (h78 : Hp) (x82 : IV) (h3 : Hp) (x1 : IV) (x2 : IV) (n : Nat) (ih : Handler) : Option (IV × Hp) :=
  load1 x82 h78 fun x83 _ => lenS x83 fun x85 => dropS (h3.own.map (·.1)) [74457090] [x1, x2, x83, x85, .fv (.int .i64 0)] h78 fun h120 => loopS n (fun q86 l87 h88 => S71_124 l87 h88 ih h3 q86) [x1, x2, x83, x85, .fv (.int .i64 0)] h120
noncomputable def S71_126 (r73 : List Ref) (w74 : List Ref) (h72 : Hp) (x43 : IV) (x71 : IV) (x4 : IV) (h3 : Hp) (x1 : IV) (x2 : IV) (n : Nat) (ih : Handler) : Option (IV × Hp) :=
  chkS [] r73 w74 (guardS x43 false h72 (fun k75 => optS (unR .not x71) fun x76 => k75 x76 h72 [] []) fun x77 h78 _ _ => pickS x43 (.fv (.bool true)) x77 fun x81 => condS x81 (outS1 [.fv (.int .i64 1)] h78) (faddrS 2 x4 fun x82 => S71_125 h78 x82 h3 x1 x2 n ih))
noncomputable def S71_127 (r55 : List Ref) (w56 : List Ref) (h54 : Hp) (x43 : IV) (x4 : IV) (ih : Handler) (x53 : IV) (h3 : Hp) (x1 : IV) (x2 : IV) (n : Nat) : Option (IV × Hp) :=
  chkS [] r55 w56 (guardS x43 false h54 (fun k57 => faddrS 1 x4 fun x58 => k57 x58 h54 [] []) fun x59 h60 _ _ => guardS x43 false h60 (fun k63 => load1 x59 h60 fun x64 r65 => k63 x64 h60 r65 []) fun x66 h67 r68 w69 => chkS [(r55, w56)] r68 w69 (guardS x43 false h67 (fun k70 => isoS [] false false ih 103 [x53, x66] h67 k70) fun x71 h72 r73 w74 => S71_126 r73 w74 h72 x43 x71 x4 h3 x1 x2 n ih))
noncomputable def S71_128 (r41 : List Ref) (r37 : List Ref) (w38 : List Ref) (r34 : List Ref) (x40 : IV) (x35 : IV) (h36 : Hp) (x4 : IV) (ih : Handler) (h3 : Hp) (x1 : IV) (x2 : IV) (n : Nat) : Option (IV × Hp) :=
  chkS [(r37, w38), (r34, [])] r41 [] (lenS x40 fun x42 => neS EE 3 x35 x42 fun x43 => guardS x43 false h36 (fun k44 => faddrS 0 x4 fun x45 => k44 x45 h36 [] []) fun x46 h47 _ _ => guardS x43 false h47 (fun k50 => load1 x46 h47 fun x51 r52 => k50 x51 h47 r52 []) fun x53 h54 r55 w56 => S71_127 r55 w56 h54 x43 x4 ih x53 h3 x1 x2 n)
noncomputable def S71_129 (r34 : List Ref) (ih : Handler) (h28 : Hp) (x33 : IV) (x4 : IV) (h3 : Hp) (x1 : IV) (x2 : IV) (n : Nat) : Option (IV × Hp) :=
  chkS [] r34 [] (isoS [] false false ih 102 [x33] h28 fun x35 h36 r37 w38 => chkS [] r37 w38 (faddrS 2 x4 fun x39 => load1 x39 h36 fun x40 r41 => S71_128 r41 r37 w38 r34 x40 x35 h36 x4 ih h3 x1 x2 n))
noncomputable def S71_130 (x19 : IV) (x27 : IV) (h28 : Hp) (x4 : IV) (ih : Handler) (h3 : Hp) (x1 : IV) (x2 : IV) (n : Nat) : Option (IV × Hp) :=
  pickS x19 (.fv (.bool true)) x27 fun x31 => condS x31 (outS1 [.fv (.int .i64 5)] h28) (faddrS 0 x4 fun x32 => load1 x32 h28 fun x33 r34 => S71_129 r34 ih h28 x33 x4 h3 x1 x2 n)
noncomputable def S71_131 (x1 : IV) (h13 : Hp) (x2 : IV) (x4 : IV) (ih : Handler) (h3 : Hp) (n : Nat) : Option (IV × Hp) :=
  nilS x1 fun x16 => load1 x16 h13 fun x17 _ => gtS EE 3 x17 (.fv (.int .i64 3000)) fun x19 => guardS x19 false h13 (fun k20 => k20 x2 h13 [] []) fun x21 h22 _ _ => guardS x19 false h22 (fun k25 => gtS EE 3 x21 (.fv (.int .i64 120)) fun x26 => k25 x26 h22 [] []) fun x27 h28 _ _ => S71_130 x19 x27 h28 x4 ih h3 x1 x2 n
noncomputable def S71 (ih : Handler) (n : Nat) (x0 : IV) (x1 : IV) (x2 : IV) (h3 : Hp) : Option (IV × Hp) :=
  boxS 74448896 x0 h3 fun x4 h5 _ _ => nilS x1 fun x8 => load1 x8 h5 fun x9 _ => addS EE 3 x9 (.fv (.int .i64 1)) fun x11 => nilS x1 fun x12 => store1 x12 x11 h5 fun h13 _ _ => S71_131 x1 h13 x2 x4 ih h3 n
theorem S71_ok (ih : Handler) (n : Nat) (x0 : IV) (x1 : IV) (x2 : IV) (h3 : Hp) : funS EE ih ft.get n 71 [x0, x1, x2] h3 = S71 ih n x0 x1 x2 h3 := by kernel_rfl
/-! slices.IndexFunc[[]thyrsus/api.Tm,thyrsus/api.Tm] -/
noncomputable def S72_24 (ih : Handler) (h6 : Hp) (x8 : IV) (x13 : IV) (x10 : IV) (q4 : List IV → Hp → Option (IV × Hp)) (x7 : IV) (x9 : IV) : Option (IV × Hp) :=
  dynS EE ih x8 [x13] h6 fun x15 h16 _ _ => condS x15 (outS1 [x10] h16) (addS EE 3 x10 (.fv (.int .i64 1)) fun x19 => q4 [x7, x8, x9, x19] h16)
noncomputable def S72_25 (x11 : IV) (x7 : IV) (x10 : IV) (h6 : Hp) (ih : Handler) (x8 : IV) (q4 : List IV → Hp → Option (IV × Hp)) (x9 : IV) : Option (IV × Hp) :=
  condS x11 (ixS 3 x7 x10 fun x12 => loadA 3 x12 h6 fun x13 _ => S72_24 ih h6 x8 x13 x10 q4 x7 x9) (outS1 [.fv (.int .i64 (-1))] h6)
noncomputable def S72_26 (l5 : List IV) (h6 : Hp) (ih : Handler) (q4 : List IV → Hp → Option (IV × Hp)) : Option (IV × Hp) :=
  uncS l5 fun x7 l20 => uncS l20 fun x8 l21 => uncS l21 fun x9 l22 => uncS l22 fun x10 _ => ltS EE 3 x10 x9 fun x11 => S72_25 x11 x7 x10 h6 ih x8 q4 x9
noncomputable def S72 (ih : Handler) (n : Nat) (x0 : IV) (x1 : IV) (h2 : Hp) : Option (IV × Hp) :=
  lenS x0 fun x3 => loopS n (fun q4 l5 h6 => S72_26 l5 h6 ih q4) [x0, x1, x3, .fv (.int .i64 0)] h2
theorem S72_ok (ih : Handler) (n : Nat) (x0 : IV) (x1 : IV) (h2 : Hp) : funS EE ih ft.get n 72 [x0, x1] h2 = S72 ih n x0 x1 h2 := by kernel_rfl
/-! (thyrsus/obj.scope).check -/
noncomputable def S73_57 (h35 : Hp) (x30 : IV) (x20 : IV) (ih : Handler) (x34 : IV) (j1_27 : IV → Hp → Option (IV × Hp)) (x19 : IV) : Option (IV × Hp) :=
  guardS x30 true h35 (fun k38 => loadA 3 x20 h35 fun x39 r40 => k38 x39 h35 r40 []) fun x41 h42 _ _ => guardS x30 true h42 (fun k45 => isoS [] false false ih 104 [x34, x41] h42 k45) fun x46 h47 _ _ => guardS x30 true h47 (fun k50 => optS (unR .not x46) fun x51 => k50 x51 h47 [] []) fun x52 h53 _ _ => pickS x30 x52 (.fv (.bool false)) fun x56 => condS x56 (j1_27 (.fv (.int .i64 11)) h53) (j1_27 x19 h53)
noncomputable def S73_58 (h15 : Hp) (x18 : IV) (x19 : IV) (x8 : IV) (ih : Handler) : Option (IV × Hp) :=
  newS 76547078 (.row [.fv (.int .i64 0), .fv (.int .i64 0), .nils] false) (.ptr (.own 76547078) 0) h15 fun x20 h21 _ _ => storeA 3 x20 x18 h21 fun h24 _ _ => (fun (j1_27 : IV → Hp → Option (IV × Hp)) => eqS EE 35 x19 (.fv (.int .i64 0)) fun x30 => guardS x30 true h24 (fun k31 => loadA 3 x8 h24 fun x32 r33 => k31 x32 h24 r33 []) fun x34 h35 _ _ => S73_57 h35 x30 x20 ih x34 j1_27 x19) fun x28 h29 => outS1 [x28] h29
noncomputable def S73 (ih : Handler) (n : Nat) (x0 : IV) (x1 : IV) (x2 : IV) (h3 : Hp) : Option (IV × Hp) :=
  boxS 76546048 x1 h3 fun x4 h5 _ _ => boxS 76546049 x2 h5 fun x8 h9 _ _ => loadA 3 x4 h9 fun x12 _ => isoS [] false false ih 53 [x0, x12] h9 fun x14 h15 _ _ => extS 0 x14 fun x18 => extS 1 x14 fun x19 => S73_58 h15 x18 x19 x8 ih
theorem S73_ok (ih : Handler) (n : Nat) (x0 : IV) (x1 : IV) (x2 : IV) (h3 : Hp) : funS EE ih ft.get n 73 [x0, x1, x2] h3 = S73 ih n x0 x1 x2 h3 := by kernel_rfl
end Idl
end Go.Proofs.Ytdibmackcbpniaa

/-
  THE SHALLOW FORM OF THE SEAT'S FUNCTIONS, a part; each is what its code's shallow run is. Printed by a program of mine (gen-sh). No statement is proved here.
-/
import Derived.Test.YtaifgaidaglblaaTab
import Derived.Test.YtaifgaidaglblaaIdl31
set_option maxRecDepth 100000
set_option linter.unusedVariables false
namespace Go.Proofs.Ytaifgaidaglblaa
namespace Idl
/-! Function 38. -/
noncomputable def S38_513 (x29 : IV) (h65 : Hp) (x64 : IV) (x30 : IV) (h1 : Hp) (x27 : IV) (x28 : IV) (q24 : List IV → Hp → Option (IV × Hp)) : Option (IV × Hp) :=
  faddrS 2 x29 fun x68 => store1 x68 x64 h65 fun h69 _ _ => addS EE 3 x30 (.fv (.int .i64 1)) fun x72 => dropS (h1.own.map (·.1)) [39851014, 39854084] [x27, x28, x29, x72] h69 fun h73 => q24 [x27, x28, x29, x72] h73
noncomputable def S38_514 (x29 : IV) (h54 : Hp) (x46 : IV) (x30 : IV) (h1 : Hp) (x27 : IV) (x28 : IV) (q24 : List IV → Hp → Option (IV × Hp)) : Option (IV × Hp) :=
  faddrS 2 x29 fun x55 => load1 x55 h54 fun x56 _ => loadA 3 x46 h54 fun x58 _ => genS (pcBuildSlice EE 29 1 [(0, x58)]) 39854083 h54 fun x60 h61 _ _ => genS (builtinR EE 39854084 false .append [29, 29] [x56, x60]) 39854084 h61 fun x64 h65 _ _ => S38_513 x29 h65 x64 x30 h1 x27 x28 q24
noncomputable def S38_515 (h126 : Hp) (x46 : IV) (x125 : IV) (j0_53 : Hp → Option (IV × Hp)) : Option (IV × Hp) :=
  storeA 3 x46 x125 h126 fun h129 _ _ => j0_53 h129
noncomputable def S38_516 (h115 : Hp) (x74 : IV) (x95 : IV) (x114 : IV) (ih : Handler) (x46 : IV) (j0_53 : Hp → Option (IV × Hp)) : Option (IV × Hp) :=
  guardS x74 true h115 (fun k118 => pickS x95 (.fv (.bool true)) x114 fun x119 => k118 x119 h115 [] []) fun x120 h121 _ _ => pickS x74 x120 (.fv (.bool false)) fun x124 => condS x124 (isoS [] false false ih 24 [.fv (.int .i64 11), .nils] h121 fun x125 h126 _ _ => S38_515 h126 x46 x125 j0_53) (j0_53 h121)
noncomputable def S38_517 (h85 : Hp) (x74 : IV) (x84 : IV) (x27 : IV) (ih : Handler) (x46 : IV) (j0_53 : Hp → Option (IV × Hp)) : Option (IV × Hp) :=
  guardS x74 true h85 (fun k88 => eqS EE 3 x84 (.fv (.int .i64 4)) fun x89 => k88 x89 h85 [] []) fun x90 h91 _ _ => guardS x74 true h91 (fun k94 => k94 x90 h91 [] []) fun x95 h96 _ _ => guardS x95 false h96 (fun k99 => faddrS 0 x27 fun x100 => k99 x100 h96 [] []) fun x101 h102 _ _ => guardS x95 false h102 (fun k105 => load1 x101 h102 fun x106 r107 => k105 x106 h102 r107 []) fun x108 h109 _ _ => guardS x95 false h109 (fun k112 => eqS EE 3 x108 (.fv (.int .i64 7)) fun x113 => k112 x113 h109 [] []) fun x114 h115 _ _ => S38_516 h115 x74 x95 x114 ih x46 j0_53
noncomputable def S38_518 (h47 : Hp) (x46 : IV) (x42 : IV) (x29 : IV) (x30 : IV) (h1 : Hp) (x27 : IV) (x28 : IV) (q24 : List IV → Hp → Option (IV × Hp)) (ih : Handler) : Option (IV × Hp) :=
  storeA 3 x46 x42 h47 fun h50 _ _ => (fun (j0_53 : Hp → Option (IV × Hp)) => eqS EE 3 x30 (.fv (.int .i64 0)) fun x74 => guardS x74 true h50 (fun k75 => faddrS 0 x27 fun x76 => k75 x76 h50 [] []) fun x77 h78 _ _ => guardS x74 true h78 (fun k81 => load1 x77 h78 fun x82 r83 => k81 x82 h78 r83 []) fun x84 h85 _ _ => S38_517 h85 x74 x84 x27 ih x46 j0_53) fun h54 => S38_514 x29 h54 x46 x30 h1 x27 x28 q24
noncomputable def S38_519 (h26 : Hp) (x36 : IV) (x30 : IV) (ih : Handler) (x29 : IV) (h1 : Hp) (x27 : IV) (x28 : IV) (q24 : List IV → Hp → Option (IV × Hp)) : Option (IV × Hp) :=
  load1 x36 h26 fun x37 _ => ixS 3 x37 x30 fun x39 => loadA 3 x39 h26 fun x40 _ => isoS [] false false ih 38 [x40] h26 fun x42 h43 _ _ => newS 39851014 (.row [.fv (.int .i64 0), .fv (.int .i64 0), .nils] false) (.ptr (.own 39851014) 0) h43 fun x46 h47 _ _ => S38_518 h47 x46 x42 x29 x30 h1 x27 x28 q24 ih
noncomputable def S38_520 (ih : Handler) (h299 : Hp) (x296 : IV) (x298 : IV) (x28 : IV) : Option (IV × Hp) :=
  isoS [] false false ih 50 [x296, .fv (.int .i64 0), x298] h299 fun x302 h303 r304 w305 => chkS [] r304 w305 (storeA 3 x28 x302 h303 fun h306 r307 w308 => chkS [] r307 w308 (cellS true 3 x28 h306 fun x309 => outS1 [x309] h306))
noncomputable def S38_521 (x293 : IV) (h284 : Hp) (ih : Handler) (r294 : List Ref) (r290 : List Ref) (x28 : IV) : Option (IV × Hp) :=
  ixS 3 x293 (.fv (.int .i64 0)) fun x295 => loadA 3 x295 h284 fun x296 r297 => chkS [] r297 [] (isoS [] false false ih 24 [.fv (.int .i64 11), .nils] h284 fun x298 h299 r300 w301 => chkS [(r297, []), (r294, []), (r290, [])] r300 w301 (S38_520 ih h299 x296 x298 x28))
noncomputable def S38_522 (r290 : List Ref) (x289 : IV) (h284 : Hp) (ih : Handler) (x28 : IV) : Option (IV × Hp) :=
  chkS [] r290 [] (ixS 3 x289 (.fv (.int .i64 1)) fun x291 => faddrS 2 x291 fun x292 => load1 x292 h284 fun x293 r294 => chkS [] r294 [] (S38_521 x293 h284 ih r294 r290 x28))
noncomputable def S38_523 (h484 : Hp) (x495 : IV) (x28 : IV) : Option (IV × Hp) :=
  loadA 3 x495 h484 fun x496 _ => storeA 3 x28 x496 h484 fun h498 _ _ => cellS true 3 x28 h498 fun x501 => outS1 [x501] h498
noncomputable def S38_524 (h484 : Hp) (x488 : IV) (x28 : IV) : Option (IV × Hp) :=
  load1 x488 h484 fun x489 _ => ixS 3 x489 (.fv (.int .i64 1)) fun x491 => faddrS 2 x491 fun x492 => load1 x492 h484 fun x493 _ => ixS 3 x493 (.fv (.int .i64 0)) fun x495 => S38_523 h484 x495 x28
noncomputable def S38_525 (h484 : Hp) (x28 : IV) (x502 : IV) : Option (IV × Hp) :=
  storeA 3 x28 x502 h484 fun h504 _ _ => cellS true 3 x28 h504 fun x507 => outS1 [x507] h504
noncomputable def S38_526 (h479 : Hp) (x391 : IV) (ih : Handler) (x433 : IV) (x478 : IV) (x29 : IV) (x28 : IV) : Option (IV × Hp) :=
  guardS x391 true h479 (fun k482 => isoS [] false false ih 37 [x433, x478] h479 k482) fun x483 h484 r485 w486 => chkS [] r485 w486 (pickS x391 x483 (.fv (.bool false)) fun x487 => condS x487 (faddrS 2 x29 fun x488 => S38_524 h484 x488 x28) (loadA 3 x29 h484 fun x502 _ => S38_525 h484 x28 x502))
noncomputable def S38_527 (h459 : Hp) (x391 : IV) (x458 : IV) (r435 : List Ref) (w436 : List Ref) (r422 : List Ref) (w423 : List Ref) (r403 : List Ref) (w404 : List Ref) (ih : Handler) (x433 : IV) (x29 : IV) (x28 : IV) : Option (IV × Hp) :=
  guardS x391 true h459 (fun k462 => load1 x458 h459 fun x463 r464 => k462 x463 h459 r464 []) fun x465 h466 r467 w468 => chkS [(r435, w436), (r422, w423), (r403, w404)] r467 w468 (guardS x391 true h466 (fun k469 => ixS 3 x465 (.fv (.int .i64 0)) fun x470 => k469 x470 h466 [] []) fun x471 h472 _ _ => guardS x391 true h472 (fun k475 => loadA 3 x471 h472 fun x476 r477 => k475 x476 h472 r477 []) fun x478 h479 r480 w481 => chkS [(r435, w436), (r422, w423), (r403, w404)] r480 w481 (S38_526 h479 x391 ih x433 x478 x29 x28))
noncomputable def S38_528 (h434 : Hp) (x391 : IV) (x29 : IV) (r435 : List Ref) (w436 : List Ref) (r422 : List Ref) (w423 : List Ref) (r403 : List Ref) (w404 : List Ref) (ih : Handler) (x433 : IV) (x28 : IV) : Option (IV × Hp) :=
  guardS x391 true h434 (fun k437 => faddrS 2 x29 fun x438 => k437 x438 h434 [] []) fun x439 h440 _ _ => guardS x391 true h440 (fun k443 => load1 x439 h440 fun x444 r445 => k443 x444 h440 r445 []) fun x446 h447 r448 w449 => chkS [(r435, w436), (r422, w423), (r403, w404)] r448 w449 (guardS x391 true h447 (fun k450 => ixS 3 x446 (.fv (.int .i64 2)) fun x451 => k450 x451 h447 [] []) fun x452 h453 _ _ => guardS x391 true h453 (fun k456 => faddrS 2 x452 fun x457 => k456 x457 h453 [] []) fun x458 h459 _ _ => S38_527 h459 x391 x458 r435 w436 r422 w423 r403 w404 ih x433 x29 x28)
noncomputable def S38_529 (h414 : Hp) (x391 : IV) (x413 : IV) (x29 : IV) (r403 : List Ref) (w404 : List Ref) (ih : Handler) (x28 : IV) : Option (IV × Hp) :=
  guardS x391 true h414 (fun k417 => load1 x413 h414 fun x418 r419 => k417 x418 h414 r419 []) fun x420 h421 r422 w423 => chkS [] r422 w423 (guardS x391 true h421 (fun k424 => ixS 3 x420 (.fv (.int .i64 0)) fun x425 => k424 x425 h421 [] []) fun x426 h427 _ _ => guardS x391 true h427 (fun k430 => loadA 3 x426 h427 fun x431 r432 => k430 x431 h427 r432 []) fun x433 h434 r435 w436 => chkS [] r435 w436 (S38_528 h434 x391 x29 r435 w436 r422 w423 r403 w404 ih x433 x28))
noncomputable def S38_530 (h388 : Hp) (x391 : IV) (x29 : IV) (ih : Handler) (x28 : IV) : Option (IV × Hp) :=
  guardS x391 true h388 (fun k392 => faddrS 2 x29 fun x393 => k392 x393 h388 [] []) fun x394 h395 _ _ => guardS x391 true h395 (fun k398 => load1 x394 h395 fun x399 r400 => k398 x399 h395 r400 []) fun x401 h402 r403 w404 => chkS [] r403 w404 (guardS x391 true h402 (fun k405 => ixS 3 x401 (.fv (.int .i64 1)) fun x406 => k405 x406 h402 [] []) fun x407 h408 _ _ => guardS x391 true h408 (fun k411 => faddrS 2 x407 fun x412 => k411 x412 h408 [] []) fun x413 h414 _ _ => S38_529 h414 x391 x413 x29 r403 w404 ih x28)
noncomputable def S38_531 (h369 : Hp) (x352 : IV) (x368 : IV) (x29 : IV) (ih : Handler) (x28 : IV) : Option (IV × Hp) :=
  guardS x352 true h369 (fun k372 => faddrS 0 x368 fun x373 => k372 x373 h369 [] []) fun x374 h375 _ _ => guardS x352 true h375 (fun k378 => load1 x374 h375 fun x379 r380 => k378 x379 h375 r380 []) fun x381 h382 r383 w384 => chkS [] r383 w384 (guardS x352 true h382 (fun k385 => eqS EE 3 x381 (.fv (.int .i64 9)) fun x386 => k385 x386 h382 [] []) fun x387 h388 _ _ => pickS x352 x387 (.fv (.bool false)) fun x391 => S38_530 h388 x391 x29 ih x28)
noncomputable def S38_532 (x313 : IV) (x348 : IV) (h349 : Hp) (x29 : IV) (ih : Handler) (x28 : IV) : Option (IV × Hp) :=
  pickS x313 x348 (.fv (.bool false)) fun x352 => guardS x352 true h349 (fun k353 => faddrS 2 x29 fun x354 => k353 x354 h349 [] []) fun x355 h356 _ _ => guardS x352 true h356 (fun k359 => load1 x355 h356 fun x360 r361 => k359 x360 h356 r361 []) fun x362 h363 r364 w365 => chkS [] r364 w365 (guardS x352 true h363 (fun k366 => ixS 3 x362 (.fv (.int .i64 2)) fun x367 => k366 x367 h363 [] []) fun x368 h369 _ _ => S38_531 h369 x352 x368 x29 ih x28)
noncomputable def S38_533 (h324 : Hp) (x313 : IV) (x323 : IV) (x29 : IV) (ih : Handler) (x28 : IV) : Option (IV × Hp) :=
  guardS x313 true h324 (fun k327 => ixS 3 x323 (.fv (.int .i64 1)) fun x328 => k327 x328 h324 [] []) fun x329 h330 _ _ => guardS x313 true h330 (fun k333 => faddrS 0 x329 fun x334 => k333 x334 h330 [] []) fun x335 h336 _ _ => guardS x313 true h336 (fun k339 => load1 x335 h336 fun x340 r341 => k339 x340 h336 r341 []) fun x342 h343 r344 w345 => chkS [] r344 w345 (guardS x313 true h343 (fun k346 => eqS EE 3 x342 (.fv (.int .i64 8)) fun x347 => k346 x347 h343 [] []) fun x348 h349 _ _ => S38_532 x313 x348 h349 x29 ih x28)
noncomputable def S38_534 (r312 : List Ref) (x311 : IV) (h284 : Hp) (x29 : IV) (ih : Handler) (x28 : IV) : Option (IV × Hp) :=
  chkS [] r312 [] (eqS EE 3 x311 (.fv (.int .i64 7)) fun x313 => guardS x313 true h284 (fun k314 => faddrS 2 x29 fun x315 => k314 x315 h284 [] []) fun x316 h317 _ _ => guardS x313 true h317 (fun k320 => load1 x316 h317 fun x321 r322 => k320 x321 h317 r322 []) fun x323 h324 r325 w326 => chkS [] r325 w326 (S38_533 h324 x313 x323 x29 ih x28))
noncomputable def S38_535 (x230 : IV) (x283 : IV) (x29 : IV) (h284 : Hp) (ih : Handler) (x28 : IV) (x27 : IV) : Option (IV × Hp) :=
  pickS x230 x283 (.fv (.bool false)) fun x287 => condS x287 (faddrS 2 x29 fun x288 => load1 x288 h284 fun x289 r290 => S38_522 r290 x289 h284 ih x28) (faddrS 0 x27 fun x310 => load1 x310 h284 fun x311 r312 => S38_534 r312 x311 h284 x29 ih x28)
noncomputable def S38_536 (h266 : Hp) (x230 : IV) (x265 : IV) (ih : Handler) (x29 : IV) (x28 : IV) (x27 : IV) : Option (IV × Hp) :=
  guardS x230 true h266 (fun k269 => loadA 3 x265 h266 fun x270 r271 => k269 x270 h266 r271 []) fun x272 h273 r274 w275 => chkS [] r274 w275 (guardS x230 true h273 (fun k276 => isoS [] false false ih 54 [x272, .fv (.int .i64 0)] h273 k276) fun x277 h278 r279 w280 => chkS [] r279 w280 (guardS x230 true h278 (fun k281 => optS (unR .not x277) fun x282 => k281 x282 h278 [] []) fun x283 h284 _ _ => S38_535 x230 x283 x29 h284 ih x28 x27))
noncomputable def S38_537 (h241 : Hp) (x230 : IV) (x240 : IV) (ih : Handler) (x29 : IV) (x28 : IV) (x27 : IV) : Option (IV × Hp) :=
  guardS x230 true h241 (fun k244 => ixS 3 x240 (.fv (.int .i64 1)) fun x245 => k244 x245 h241 [] []) fun x246 h247 _ _ => guardS x230 true h247 (fun k250 => faddrS 2 x246 fun x251 => k250 x251 h247 [] []) fun x252 h253 _ _ => guardS x230 true h253 (fun k256 => load1 x252 h253 fun x257 r258 => k256 x257 h253 r258 []) fun x259 h260 r261 w262 => chkS [] r261 w262 (guardS x230 true h260 (fun k263 => ixS 3 x259 (.fv (.int .i64 0)) fun x264 => k263 x264 h260 [] []) fun x265 h266 _ _ => S38_536 h266 x230 x265 ih x29 x28 x27)
noncomputable def S38_538 (r228 : List Ref) (w229 : List Ref) (x174 : IV) (x226 : IV) (h227 : Hp) (x29 : IV) (ih : Handler) (x28 : IV) (x27 : IV) : Option (IV × Hp) :=
  chkS [] r228 w229 (pickS x174 x226 (.fv (.bool false)) fun x230 => guardS x230 true h227 (fun k231 => faddrS 2 x29 fun x232 => k231 x232 h227 [] []) fun x233 h234 _ _ => guardS x230 true h234 (fun k237 => load1 x233 h234 fun x238 r239 => k237 x238 h234 r239 []) fun x240 h241 r242 w243 => chkS [] r242 w243 (S38_537 h241 x230 x240 ih x29 x28 x27))
noncomputable def S38_539 (h210 : Hp) (x174 : IV) (x209 : IV) (ih : Handler) (r205 : List Ref) (w206 : List Ref) (r186 : List Ref) (w187 : List Ref) (x29 : IV) (x28 : IV) (x27 : IV) : Option (IV × Hp) :=
  guardS x174 true h210 (fun k213 => loadA 3 x209 h210 fun x214 r215 => k213 x214 h210 r215 []) fun x216 h217 r218 w219 => chkS [] r218 w219 (guardS x174 true h217 (fun k220 => isoS [] false false ih 26 [.fv (.int .i64 0)] h217 k220) fun x221 h222 r223 w224 => chkS [(r218, w219), (r205, w206), (r186, w187)] r223 w224 (guardS x174 true h222 (fun k225 => isoS [] false false ih 37 [x216, x221] h222 k225) fun x226 h227 r228 w229 => S38_538 r228 w229 x174 x226 h227 x29 ih x28 x27))
noncomputable def S38_540 (h185 : Hp) (x174 : IV) (x184 : IV) (ih : Handler) (r186 : List Ref) (w187 : List Ref) (x29 : IV) (x28 : IV) (x27 : IV) : Option (IV × Hp) :=
  guardS x174 true h185 (fun k188 => ixS 3 x184 (.fv (.int .i64 1)) fun x189 => k188 x189 h185 [] []) fun x190 h191 _ _ => guardS x174 true h191 (fun k194 => faddrS 2 x190 fun x195 => k194 x195 h191 [] []) fun x196 h197 _ _ => guardS x174 true h197 (fun k200 => load1 x196 h197 fun x201 r202 => k200 x201 h197 r202 []) fun x203 h204 r205 w206 => chkS [] r205 w206 (guardS x174 true h204 (fun k207 => ixS 3 x203 (.fv (.int .i64 1)) fun x208 => k207 x208 h204 [] []) fun x209 h210 _ _ => S38_539 h210 x174 x209 ih r205 w206 r186 w187 x29 x28 x27)
noncomputable def S38_541 (h165 : Hp) (x135 : IV) (x164 : IV) (x29 : IV) (ih : Handler) (x28 : IV) (x27 : IV) : Option (IV × Hp) :=
  guardS x135 true h165 (fun k168 => eqS EE 3 x164 (.fv (.int .i64 5)) fun x169 => k168 x169 h165 [] []) fun x170 h171 _ _ => pickS x135 x170 (.fv (.bool false)) fun x174 => guardS x174 true h171 (fun k175 => faddrS 2 x29 fun x176 => k175 x176 h171 [] []) fun x177 h178 _ _ => guardS x174 true h178 (fun k181 => load1 x177 h178 fun x182 r183 => k181 x182 h178 r183 []) fun x184 h185 r186 w187 => chkS [] r186 w187 (S38_540 h185 x174 x184 ih r186 w187 x29 x28 x27)
noncomputable def S38_542 (r147 : List Ref) (w148 : List Ref) (h146 : Hp) (x135 : IV) (x145 : IV) (x29 : IV) (ih : Handler) (x28 : IV) (x27 : IV) : Option (IV × Hp) :=
  chkS [] r147 w148 (guardS x135 true h146 (fun k149 => ixS 3 x145 (.fv (.int .i64 1)) fun x150 => k149 x150 h146 [] []) fun x151 h152 _ _ => guardS x135 true h152 (fun k155 => faddrS 0 x151 fun x156 => k155 x156 h152 [] []) fun x157 h158 _ _ => guardS x135 true h158 (fun k161 => load1 x157 h158 fun x162 r163 => k161 x162 h158 r163 []) fun x164 h165 r166 w167 => chkS [] r166 w167 (S38_541 h165 x135 x164 x29 ih x28 x27))
noncomputable def S38_543 (h26 : Hp) (x132 : IV) (x29 : IV) (ih : Handler) (x28 : IV) (x27 : IV) : Option (IV × Hp) :=
  load1 x132 h26 fun x133 r134 => chkS [] r134 [] (eqS EE 3 x133 (.fv (.int .i64 4)) fun x135 => guardS x135 true h26 (fun k136 => faddrS 2 x29 fun x137 => k136 x137 h26 [] []) fun x138 h139 _ _ => guardS x135 true h139 (fun k142 => load1 x138 h139 fun x143 r144 => k142 x143 h139 r144 []) fun x145 h146 r147 w148 => S38_542 r147 w148 h146 x135 x145 x29 ih x28 x27)
noncomputable def S38_544 (h26 : Hp) (x31 : IV) (x30 : IV) (x27 : IV) (ih : Handler) (x29 : IV) (h1 : Hp) (x28 : IV) (q24 : List IV → Hp → Option (IV × Hp)) : Option (IV × Hp) :=
  load1 x31 h26 fun x32 _ => lenS x32 fun x34 => ltS EE 3 x30 x34 fun x35 => condS x35 (faddrS 2 x27 fun x36 => S38_519 h26 x36 x30 ih x29 h1 x27 x28 q24) (faddrS 0 x27 fun x132 => S38_543 h26 x132 x29 ih x28 x27)
noncomputable def S38_545 (l25 : List IV) (h26 : Hp) (ih : Handler) (h1 : Hp) (q24 : List IV → Hp → Option (IV × Hp)) : Option (IV × Hp) :=
  uncS l25 fun x27 l508 => uncS l508 fun x28 l509 => uncS l509 fun x29 l510 => uncS l510 fun x30 _ => faddrS 2 x27 fun x31 => S38_544 h26 x31 x30 x27 ih x29 h1 x28 q24
noncomputable def S38_546 (x11 : IV) (x14 : IV) (h7 : Hp) (h1 : Hp) (x2 : IV) (x6 : IV) (n : Nat) (ih : Handler) : Option (IV × Hp) :=
  bldS [.fv (.int .i64 0), .fv (.int .i64 0), .nils] [(0, 1, x11), (1, 1, x14)] fun x16 => newS 39846917 (.row [.fv (.int .i64 0), .fv (.int .i64 0), .nils] false) (.ptr (.own 39846917) 0) h7 fun x17 h18 _ _ => storeA 3 x17 x16 h18 fun h21 _ _ => dropS (h1.own.map (·.1)) [39851014, 39854084] [x2, x6, x17, .fv (.int .i64 0)] h21 fun h512 => loopS n (fun q24 l25 h26 => S38_545 l25 h26 ih h1 q24) [x2, x6, x17, .fv (.int .i64 0)] h512
noncomputable def S38 (ih : Handler) (n : Nat) (x0 : IV) (h1 : Hp) : Option (IV × Hp) :=
  boxS 39845888 x0 h1 fun x2 h3 _ _ => newS 39845889 (.row [.fv (.int .i64 0), .fv (.int .i64 0), .nils] false) (.ptr (.own 39845889) 0) h3 fun x6 h7 _ _ => faddrS 0 x2 fun x10 => load1 x10 h7 fun x11 _ => faddrS 1 x2 fun x13 => load1 x13 h7 fun x14 _ => S38_546 x11 x14 h7 h1 x2 x6 n ih
theorem S38_ok (ih : Handler) (n : Nat) (x0 : IV) (h1 : Hp) : funS EE ih ft.get n 38 [x0] h1 = S38 ih n x0 h1 := by kernel_rfl
/-! Function 39. -/
noncomputable def S39_42 (h22 : Hp) (x6 : IV) (x26 : IV) : Option (IV × Hp) :=
  storeA 4 x6 x26 h22 fun h27 _ _ => cellS true 4 x6 h27 fun x30 => outS1 [x30] h27
noncomputable def S39_43 (ih : Handler) (h22 : Hp) (x31 : IV) (x6 : IV) : Option (IV × Hp) :=
  isoS [] false false ih 56 [x31] h22 fun x33 h34 _ _ => bldS [.fv (.int .i64 0), .fv (.int .i64 0), .nils, .fv (.int .i64 0)] [(0, 3, x33)] fun x37 => storeA 4 x6 x37 h34 fun h38 _ _ => cellS true 4 x6 h38 fun x41 => outS1 [x41] h38
noncomputable def S39_44 (h13 : Hp) (x16 : IV) (x17 : IV) (x6 : IV) (ih : Handler) : Option (IV × Hp) :=
  newS 40895493 (.row [.fv (.int .i64 0), .fv (.int .i64 0), .nils] false) (.ptr (.own 40895493) 0) h13 fun x18 h19 _ _ => storeA 3 x18 x16 h19 fun h22 _ _ => neS EE 37 x17 (.fv (.int .i64 0)) fun x25 => condS x25 (bldS [.fv (.int .i64 0), .fv (.int .i64 0), .nils, .fv (.int .i64 0)] [(3, 1, x17)] fun x26 => S39_42 h22 x6 x26) (loadA 3 x18 h22 fun x31 _ => S39_43 ih h22 x31 x6)
noncomputable def S39 (ih : Handler) (n : Nat) (x0 : IV) (h1 : Hp) : Option (IV × Hp) :=
  boxS 40894464 x0 h1 fun x2 h3 _ _ => newS 40894465 (.row [.fv (.int .i64 0), .fv (.int .i64 0), .nils, .fv (.int .i64 0)] false) (.ptr (.own 40894465) 0) h3 fun x6 h7 _ _ => loadA 3 x2 h7 fun x10 _ => isoS [] false false ih 55 [x10] h7 fun x12 h13 _ _ => extS 0 x12 fun x16 => extS 1 x12 fun x17 => S39_44 h13 x16 x17 x6 ih
theorem S39_ok (ih : Handler) (n : Nat) (x0 : IV) (h1 : Hp) : funS EE ih ft.get n 39 [x0] h1 = S39 ih n x0 h1 := by kernel_rfl
/-! Function 40. -/
noncomputable def S40_21 (ih : Handler) (h8 : Hp) (x12 : IV) (x15 : IV) : Option (IV × Hp) :=
  isoS [] false false ih 57 [x12, x15] h8 fun x17 h18 _ _ => outS1 [x17] h18
noncomputable def S40 (ih : Handler) (n : Nat) (x0 : IV) (x1 : IV) (h2 : Hp) : Option (IV × Hp) :=
  boxS 41943040 x0 h2 fun x3 h4 _ _ => boxS 41943041 x1 h4 fun x7 h8 _ _ => faddrS 0 x3 fun x11 => loadA 3 x11 h8 fun x12 _ => faddrS 0 x7 fun x14 => loadA 3 x14 h8 fun x15 _ => S40_21 ih h8 x12 x15
theorem S40_ok (ih : Handler) (n : Nat) (x0 : IV) (x1 : IV) (h2 : Hp) : funS EE ih ft.get n 40 [x0, x1] h2 = S40 ih n x0 x1 h2 := by kernel_rfl
/-! Function 41. -/
noncomputable def S41_264 (h20 : Hp) (x5 : IV) : Option (IV × Hp) :=
  bldS [.fv (.int .i64 0), .fv (.int .i64 0), .nils] [] fun x26 => storeA 3 x5 x26 h20 fun h27 _ _ => cellS true 3 x5 h27 fun x30 => outS1 [x30] h27
noncomputable def S41_265 (ih : Handler) (h20 : Hp) (x41 : IV) (x5 : IV) : Option (IV × Hp) :=
  isoS [] false false ih 26 [x41] h20 fun x42 h43 _ _ => storeA 3 x5 x42 h43 fun h46 _ _ => cellS true 3 x5 h46 fun x49 => outS1 [x49] h46
noncomputable def S41_266 (x2 : IV) (x1 : IV) (h20 : Hp) (ih : Handler) (x5 : IV) : Option (IV × Hp) :=
  subS EE 3 x2 (.fv (.int .i64 1)) fun x36 => nilS x1 fun x37 => faddrS 1 x37 fun x38 => load1 x38 h20 fun x39 _ => subS EE 3 x36 x39 fun x41 => S41_265 ih h20 x41 x5
noncomputable def S41_267 (h4 : Hp) (h126 : Hp) (x98 : IV) (x99 : IV) (x100 : IV) (x101 : IV) (x102 : IV) (x103 : IV) (x129 : IV) (q66 : List IV → Hp → Option (IV × Hp)) : Option (IV × Hp) :=
  dropS (h4.own.map (·.1)) [43011077, 43013131] [x98, x99, x100, x101, x102, x103, x129] h126 fun h130 => q66 [x98, x99, x100, x101, x102, x103, x129] h130
noncomputable def S41_268 (r123 : List Ref) (w124 : List Ref) (x103 : IV) (h122 : Hp) (x121 : IV) (x104 : IV) (h4 : Hp) (x98 : IV) (x99 : IV) (x100 : IV) (x101 : IV) (x102 : IV) (q66 : List IV → Hp → Option (IV × Hp)) : Option (IV × Hp) :=
  chkS [] r123 w124 (faddrS 2 x103 fun x125 => store1 x125 x121 h122 fun h126 r127 w128 => chkS [] r127 w128 (addS EE 3 x104 (.fv (.int .i64 1)) fun x129 => S41_267 h4 h126 x98 x99 x100 x101 x102 x103 x129 q66))
noncomputable def S41_269 (ih : Handler) (h107 : Hp) (x98 : IV) (x106 : IV) (x111 : IV) (x112 : IV) (r110 : List Ref) (x109 : IV) (x103 : IV) (x104 : IV) (h4 : Hp) (x99 : IV) (x100 : IV) (x101 : IV) (x102 : IV) (q66 : List IV → Hp → Option (IV × Hp)) : Option (IV × Hp) :=
  isoS [true, false, false, false] false false ih 41 [x98, x106, x111, x112] h107 fun x113 h114 r115 w116 => chkS [(r110, [])] r115 w116 (genS (pcBuildSlice EE 29 1 [(0, x113)]) 43013130 h114 fun x117 h118 r119 w120 => chkS [(r110, [])] r119 w120 (genS (builtinR EE 43013131 false .append [29, 29] [x109, x117]) 43013131 h118 fun x121 h122 r123 w124 => S41_268 r123 w124 x103 h122 x121 x104 h4 x98 x99 x100 x101 x102 q66))
noncomputable def S41_270 (x103 : IV) (h107 : Hp) (x100 : IV) (x105 : IV) (x101 : IV) (ih : Handler) (x98 : IV) (x106 : IV) (x104 : IV) (h4 : Hp) (x99 : IV) (x102 : IV) (q66 : List IV → Hp → Option (IV × Hp)) : Option (IV × Hp) :=
  faddrS 2 x103 fun x108 => load1 x108 h107 fun x109 r110 => chkS [] r110 [] (addS EE 3 x100 x105 fun x111 => addS EE 3 x101 (.fv (.int .i64 1)) fun x112 => S41_269 ih h107 x98 x106 x111 x112 r110 x109 x103 x104 h4 x99 x100 x101 x102 q66)
noncomputable def S41_271 (h4 : Hp) (h162 : Hp) (x139 : IV) (x140 : IV) (x141 : IV) (x142 : IV) (x143 : IV) (x144 : IV) (x145 : IV) (x146 : IV) (x147 : IV) (x161 : IV) (x165 : IV) (q136 : List IV → Hp → Option (IV × Hp)) : Option (IV × Hp) :=
  dropS (h4.own.map (·.1)) [43011077] [x139, x140, x141, x142, x143, x144, x145, x146, x147, x161, x165] h162 fun h166 => q136 [x139, x140, x141, x142, x143, x144, x145, x146, x147, x161, x165] h166
noncomputable def S41_272 (x151 : IV) (h138 : Hp) (ih : Handler) (x148 : IV) (x149 : IV) (h4 : Hp) (x139 : IV) (x140 : IV) (x141 : IV) (x142 : IV) (x143 : IV) (x144 : IV) (x145 : IV) (x146 : IV) (x147 : IV) (q136 : List IV → Hp → Option (IV × Hp)) : Option (IV × Hp) :=
  bldS [.fv (.int .i64 0), .fv (.int .i64 0), .nils, .nils, .fv (.int .i64 0), .fv (.int .i64 0), .nils] [(0, 1, .fv (.int .i64 1)), (1, 1, x151)] fun x152 => fzS (pcBox true 43011077 x152) 43011077 x152 h138 fun x153 h154 _ _ => genS (pcBuildSlice EE 87 1 [(0, x153)]) 43011078 h154 fun x157 h158 _ _ => isoS [] false false ih 58 [x148, x157] h158 fun x161 h162 _ _ => addS EE 3 x149 (.fv (.int .i64 1)) fun x165 => S41_271 h4 h162 x139 x140 x141 x142 x143 x144 x145 x146 x147 x161 x165 q136
noncomputable def S41_273 (x167 : IV) (h138 : Hp) (ih : Handler) (x139 : IV) (x148 : IV) (j9_97 : IV → IV → IV → IV → IV → IV → IV → IV → IV → Hp → Option (IV × Hp)) (x140 : IV) (x141 : IV) (x142 : IV) (x143 : IV) (x144 : IV) (x145 : IV) (x146 : IV) : Option (IV × Hp) :=
  faddrS 4 x167 fun x168 => loadA 3 x168 h138 fun x169 _ => isoS [true, false, false] false false ih 42 [x139, x169, x148] h138 fun x171 h172 _ _ => j9_97 x139 x140 x141 x142 x143 x144 x145 x146 x171 h172
noncomputable def S41_274 (l184 : List IV) (x146 : IV) (x141 : IV) (h138 : Hp) (ih : Handler) (x148 : IV) (h4 : Hp) (x139 : IV) (x140 : IV) (x142 : IV) (x143 : IV) (x144 : IV) (x145 : IV) (x147 : IV) (q136 : List IV → Hp → Option (IV × Hp)) (j9_97 : IV → IV → IV → IV → IV → IV → IV → IV → IV → Hp → Option (IV × Hp)) : Option (IV × Hp) :=
  uncS l184 fun x149 _ => ltS EE 3 x149 x146 fun x150 => condS x150 (addS EE 3 x141 x149 fun x151 => S41_272 x151 h138 ih x148 x149 h4 x139 x140 x141 x142 x143 x144 x145 x146 x147 q136) (nilS x147 fun x167 => S41_273 x167 h138 ih x139 x148 j9_97 x140 x141 x142 x143 x144 x145 x146)
noncomputable def S41_275 (l179 : List IV) (x141 : IV) (h138 : Hp) (ih : Handler) (h4 : Hp) (x139 : IV) (x140 : IV) (x142 : IV) (x143 : IV) (q136 : List IV → Hp → Option (IV × Hp)) (j9_97 : IV → IV → IV → IV → IV → IV → IV → IV → IV → Hp → Option (IV × Hp)) : Option (IV × Hp) :=
  uncS l179 fun x144 l180 => uncS l180 fun x145 l181 => uncS l181 fun x146 l182 => uncS l182 fun x147 l183 => uncS l183 fun x148 l184 => S41_274 l184 x146 x141 h138 ih x148 h4 x139 x140 x142 x143 x144 x145 x147 q136 j9_97
noncomputable def S41_276 (l137 : List IV) (h138 : Hp) (ih : Handler) (h4 : Hp) (q136 : List IV → Hp → Option (IV × Hp)) (j9_97 : IV → IV → IV → IV → IV → IV → IV → IV → IV → Hp → Option (IV × Hp)) : Option (IV × Hp) :=
  uncS l137 fun x139 l175 => uncS l175 fun x140 l176 => uncS l176 fun x141 l177 => uncS l177 fun x142 l178 => uncS l178 fun x143 l179 => S41_275 l179 x141 h138 ih h4 x139 x140 x142 x143 q136 j9_97
noncomputable def S41_277 (h87 : Hp) (x133 : IV) (h4 : Hp) (x69 : IV) (x70 : IV) (x71 : IV) (x72 : IV) (x73 : IV) (x74 : IV) (x75 : IV) (x86 : IV) (x95 : IV) (n : Nat) (ih : Handler) (j9_97 : IV → IV → IV → IV → IV → IV → IV → IV → IV → Hp → Option (IV × Hp)) : Option (IV × Hp) :=
  load1 x133 h87 fun x134 _ => dropS (h4.own.map (·.1)) [43011077] [x69, x70, x71, x72, x73, x74, x75, x86, x95, x134, .fv (.int .i64 0)] h87 fun h186 => loopS n (fun q136 l137 h138 => S41_276 l137 h138 ih h4 q136 j9_97) [x69, x70, x71, x72, x73, x74, x75, x86, x95, x134, .fv (.int .i64 0)] h186
noncomputable def S41_278 (x131 : IV) (x95 : IV) (h87 : Hp) (h4 : Hp) (x69 : IV) (x70 : IV) (x71 : IV) (x72 : IV) (x73 : IV) (x74 : IV) (x75 : IV) (x86 : IV) (n : Nat) (ih : Handler) (j9_97 : IV → IV → IV → IV → IV → IV → IV → IV → IV → Hp → Option (IV × Hp)) : Option (IV × Hp) :=
  condS x131 (nilS x95 fun x132 => faddrS 3 x132 fun x133 => S41_277 h87 x133 h4 x69 x70 x71 x72 x73 x74 x75 x86 x95 n ih j9_97) (j9_97 x69 x70 x71 x72 x73 x74 x75 x86 x95 h87)
noncomputable def S41_279 (h87 : Hp) (x91 : IV) (x75 : IV) (ih : Handler) (h4 : Hp) (q66 : List IV → Hp → Option (IV × Hp)) (x86 : IV) (x69 : IV) (x70 : IV) (x71 : IV) (x72 : IV) (x73 : IV) (x74 : IV) (n : Nat) : Option (IV × Hp) :=
  load1 x91 h87 fun x92 _ => ixS 1 x92 x75 fun x94 => load1 x94 h87 fun x95 _ => (fun (j9_97 : IV → IV → IV → IV → IV → IV → IV → IV → IV → Hp → Option (IV × Hp)) => gtS EE 3 x86 (.fv (.int .i64 0)) fun x131 => S41_278 x131 x95 h87 h4 x69 x70 x71 x72 x73 x74 x75 x86 n ih j9_97) fun x98 x99 x100 x101 x102 x103 x104 x105 x106 h107 => S41_270 x103 h107 x100 x105 x101 ih x98 x106 x104 h4 x99 x102 q66
noncomputable def S41_280 (x82 : IV) (h68 : Hp) (ih : Handler) (x75 : IV) (x70 : IV) (h4 : Hp) (q66 : List IV → Hp → Option (IV × Hp)) (x69 : IV) (x71 : IV) (x72 : IV) (x73 : IV) (x74 : IV) (n : Nat) : Option (IV × Hp) :=
  faddrS 0 x82 fun x83 => load1 x83 h68 fun x84 _ => isoS [] false false ih 51 [x84, x75] h68 fun x86 h87 _ _ => nilS x70 fun x90 => faddrS 2 x90 fun x91 => S41_279 h87 x91 x75 ih h4 q66 x86 x69 x70 x71 x72 x73 x74 n
noncomputable def S41_281 (h68 : Hp) (x73 : IV) (x187 : IV) : Option (IV × Hp) :=
  storeA 3 x73 x187 h68 fun h189 _ _ => cellS true 3 x73 h189 fun x192 => outS1 [x192] h189
noncomputable def S41_282 (x78 : IV) (x75 : IV) (x70 : IV) (h68 : Hp) (ih : Handler) (h4 : Hp) (q66 : List IV → Hp → Option (IV × Hp)) (x69 : IV) (x71 : IV) (x72 : IV) (x73 : IV) (x74 : IV) (n : Nat) : Option (IV × Hp) :=
  lenS x78 fun x80 => ltS EE 3 x75 x80 fun x81 => condS x81 (nilS x70 fun x82 => S41_280 x82 h68 ih x75 x70 h4 q66 x69 x71 x72 x73 x74 n) (loadA 3 x74 h68 fun x187 _ => S41_281 h68 x73 x187)
noncomputable def S41_283 (l197 : List IV) (x70 : IV) (h68 : Hp) (ih : Handler) (h4 : Hp) (q66 : List IV → Hp → Option (IV × Hp)) (x69 : IV) (x71 : IV) (x72 : IV) (x73 : IV) (n : Nat) : Option (IV × Hp) :=
  uncS l197 fun x74 l198 => uncS l198 fun x75 _ => nilS x70 fun x76 => faddrS 2 x76 fun x77 => load1 x77 h68 fun x78 _ => S41_282 x78 x75 x70 h68 ih h4 q66 x69 x71 x72 x73 x74 n
noncomputable def S41_284 (l67 : List IV) (h68 : Hp) (ih : Handler) (h4 : Hp) (q66 : List IV → Hp → Option (IV × Hp)) (n : Nat) : Option (IV × Hp) :=
  uncS l67 fun x69 l193 => uncS l193 fun x70 l194 => uncS l194 fun x71 l195 => uncS l195 fun x72 l196 => uncS l196 fun x73 l197 => S41_283 l197 x70 h68 ih h4 q66 x69 x71 x72 x73 n
noncomputable def S41_285 (r61 : List Ref) (w62 : List Ref) (r57 : List Ref) (r53 : List Ref) (h60 : Hp) (x59 : IV) (x58 : IV) (h4 : Hp) (x0 : IV) (x1 : IV) (x2 : IV) (x3 : IV) (x5 : IV) (n : Nat) (ih : Handler) : Option (IV × Hp) :=
  chkS [(r57, []), (r53, [])] r61 w62 (storeA 3 x59 x58 h60 fun h63 r64 w65 => chkS [] r64 w65 (dropS (h4.own.map (·.1)) [43011077, 43013131] [x0, x1, x2, x3, x5, x59, .fv (.int .i64 0)] h63 fun h200 => loopS n (fun q66 l67 h68 => S41_284 l67 h68 ih h4 q66 n) [x0, x1, x2, x3, x5, x59, .fv (.int .i64 0)] h200))
noncomputable def S41_286 (x54 : IV) (h20 : Hp) (r53 : List Ref) (x52 : IV) (h4 : Hp) (x0 : IV) (x1 : IV) (x2 : IV) (x3 : IV) (x5 : IV) (n : Nat) (ih : Handler) : Option (IV × Hp) :=
  faddrS 1 x54 fun x55 => load1 x55 h20 fun x56 r57 => chkS [(r53, [])] r57 [] (bldS [.fv (.int .i64 0), .fv (.int .i64 0), .nils] [(0, 1, x52), (1, 1, x56)] fun x58 => newS 42999817 (.row [.fv (.int .i64 0), .fv (.int .i64 0), .nils] false) (.ptr (.own 42999817) 0) h20 fun x59 h60 r61 w62 => S41_285 r61 w62 r57 r53 h60 x59 x58 h4 x0 x1 x2 x3 x5 n ih)
noncomputable def S41_287 (x1 : IV) (h20 : Hp) (h4 : Hp) (x0 : IV) (x2 : IV) (x3 : IV) (x5 : IV) (n : Nat) (ih : Handler) : Option (IV × Hp) :=
  nilS x1 fun x50 => faddrS 0 x50 fun x51 => load1 x51 h20 fun x52 r53 => chkS [] r53 [] (nilS x1 fun x54 => S41_286 x54 h20 r53 x52 h4 x0 x1 x2 x3 x5 n ih)
noncomputable def S41_288 (x1 : IV) (h20 : Hp) (x2 : IV) (ih : Handler) (x5 : IV) (h4 : Hp) (x0 : IV) (x3 : IV) (n : Nat) : Option (IV × Hp) :=
  nilS x1 fun x31 => faddrS 0 x31 fun x32 => load1 x32 h20 fun x33 _ => eqS EE 3 x33 (.fv (.int .i64 1)) fun x35 => condS x35 (S41_266 x2 x1 h20 ih x5) (S41_287 x1 h20 h4 x0 x2 x3 x5 n ih)
noncomputable def S41_289 (x0 : IV) (h20 : Hp) (x5 : IV) (x1 : IV) (x2 : IV) (ih : Handler) (h4 : Hp) (x3 : IV) (n : Nat) : Option (IV × Hp) :=
  nilS x0 fun x21 => faddrS 2 x21 fun x22 => load1 x22 h20 fun x23 _ => neS EE 3 x23 (.fv (.int .i64 0)) fun x25 => condS x25 (S41_264 h20 x5) (S41_288 x1 h20 x2 ih x5 h4 x0 x3 n)
noncomputable def S41_290 (x259 : IV) (h255 : Hp) (j0_19 : Hp → Option (IV × Hp)) : Option (IV × Hp) :=
  faddrS 2 x259 fun x260 => store1 x260 (.fv (.int .i64 5)) h255 fun h261 _ _ => j0_19 h261
noncomputable def S41_291 (h249 : Hp) (x205 : IV) (x237 : IV) (x248 : IV) (x0 : IV) (j0_19 : Hp → Option (IV × Hp)) : Option (IV × Hp) :=
  guardS x205 true h249 (fun k252 => pickS x237 (.fv (.bool true)) x248 fun x253 => k252 x253 h249 [] []) fun x254 h255 _ _ => pickS x205 x254 (.fv (.bool false)) fun x258 => condS x258 (nilS x0 fun x259 => S41_290 x259 h255 j0_19) (j0_19 h255)
noncomputable def S41_292 (h220 : Hp) (x205 : IV) (x219 : IV) (x3 : IV) (x0 : IV) (j0_19 : Hp → Option (IV × Hp)) : Option (IV × Hp) :=
  guardS x205 true h220 (fun k223 => load1 x219 h220 fun x224 r225 => k223 x224 h220 r225 []) fun x226 h227 _ _ => guardS x205 true h227 (fun k230 => gtS EE 3 x226 (.fv (.int .i64 3000)) fun x231 => k230 x231 h227 [] []) fun x232 h233 _ _ => guardS x205 true h233 (fun k236 => k236 x232 h233 [] []) fun x237 h238 _ _ => guardS x237 false h238 (fun k241 => k241 x3 h238 [] []) fun x242 h243 _ _ => guardS x237 false h243 (fun k246 => gtS EE 3 x242 (.fv (.int .i64 120)) fun x247 => k246 x247 h243 [] []) fun x248 h249 _ _ => S41_291 h249 x205 x237 x248 x0 j0_19
noncomputable def S41_293 (h16 : Hp) (x202 : IV) (x0 : IV) (x3 : IV) (j0_19 : Hp → Option (IV × Hp)) : Option (IV × Hp) :=
  load1 x202 h16 fun x203 _ => eqS EE 3 x203 (.fv (.int .i64 0)) fun x205 => guardS x205 true h16 (fun k206 => k206 x0 h16 [] []) fun x207 h208 _ _ => guardS x205 true h208 (fun k211 => nilS x207 fun x212 => k211 x212 h208 [] []) fun x213 h214 _ _ => guardS x205 true h214 (fun k217 => faddrS 1 x213 fun x218 => k217 x218 h214 [] []) fun x219 h220 _ _ => S41_292 h220 x205 x219 x3 x0 j0_19
noncomputable def S41_294 (x14 : IV) (h6 : Hp) (x13 : IV) (x0 : IV) (x5 : IV) (x1 : IV) (x2 : IV) (ih : Handler) (h4 : Hp) (x3 : IV) (n : Nat) : Option (IV × Hp) :=
  faddrS 1 x14 fun x15 => store1 x15 x13 h6 fun h16 _ _ => (fun (j0_19 : Hp → Option (IV × Hp)) => nilS x0 fun x201 => faddrS 2 x201 fun x202 => S41_293 h16 x202 x0 x3 j0_19) fun h20 => S41_289 x0 h20 x5 x1 x2 ih h4 x3 n
noncomputable def S41 (ih : Handler) (n : Nat) (x0 : IV) (x1 : IV) (x2 : IV) (x3 : IV) (h4 : Hp) : Option (IV × Hp) :=
  newS 42991616 (.row [.fv (.int .i64 0), .fv (.int .i64 0), .nils] false) (.ptr (.own 42991616) 0) h4 fun x5 h6 _ _ => nilS x0 fun x9 => faddrS 1 x9 fun x10 => load1 x10 h6 fun x11 _ => addS EE 3 x11 (.fv (.int .i64 1)) fun x13 => nilS x0 fun x14 => S41_294 x14 h6 x13 x0 x5 x1 x2 ih h4 x3 n
theorem S41_ok (ih : Handler) (n : Nat) (x0 : IV) (x1 : IV) (x2 : IV) (x3 : IV) (h4 : Hp) : funS EE ih ft.get n 41 [x0, x1, x2, x3] h4 = S41 ih n x0 x1 x2 x3 h4 := by kernel_rfl
/-! Function 42. -/
noncomputable def S42_148 (h5 : Hp) : Option (IV × Hp) :=
  bldS [.fv (.int .i64 0), .fv (.int .i64 0), .nils, .nils, .fv (.int .i64 0), .fv (.int .i64 0), .nils] [(0, 1, .fv (.int .i64 11))] fun x13 => boxS 44042241 x13 h5 fun x14 h15 _ _ => outS1 [x14] h15
noncomputable def S42_149 (h5 : Hp) (x33 : IV) : Option (IV × Hp) :=
  load1 x33 h5 fun x34 _ => outS1 [x34] h5
noncomputable def S42_150 (x27 : IV) (x4 : IV) (h5 : Hp) (x2 : IV) : Option (IV × Hp) :=
  subS EE 3 x27 (.fv (.int .i64 1)) fun x28 => faddrS 1 x4 fun x29 => load1 x29 h5 fun x30 _ => subS EE 3 x28 x30 fun x32 => ixS 1 x2 x32 fun x33 => S42_149 h5 x33
noncomputable def S42_151 (h5 : Hp) (x42 : IV) : Option (IV × Hp) :=
  boxS 44046343 x42 h5 fun x43 h44 _ _ => outS1 [x43] h44
noncomputable def S42_152 (x36 : IV) (x4 : IV) (h5 : Hp) : Option (IV × Hp) :=
  subS EE 3 x36 (.fv (.int .i64 1)) fun x37 => faddrS 1 x4 fun x38 => load1 x38 h5 fun x39 _ => subS EE 3 x37 x39 fun x41 => bldS [.fv (.int .i64 0), .fv (.int .i64 0), .nils, .nils, .fv (.int .i64 0), .fv (.int .i64 0), .nils] [(0, 1, .fv (.int .i64 1)), (1, 1, x41)] fun x42 => S42_151 h5 x42
noncomputable def S42_153 (h5 : Hp) (x22 : IV) (x2 : IV) (x4 : IV) : Option (IV × Hp) :=
  load1 x22 h5 fun x23 _ => lenS x2 fun x25 => ltS EE 3 x23 x25 fun x26 => condS x26 (lenS x2 fun x27 => S42_150 x27 x4 h5 x2) (lenS x2 fun x36 => S42_152 x36 x4 h5)
noncomputable def S42_154 (x65 : IV) (h3 : Hp) (h72 : Hp) (x61 : IV) (x62 : IV) (x63 : IV) (x64 : IV) (q58 : List IV → Hp → Option (IV × Hp)) : Option (IV × Hp) :=
  addS EE 3 x65 (.fv (.int .i64 1)) fun x73 => dropS (h3.own.map (·.1)) [44052492, 44052494, 44053518] [x61, x62, x63, x64, x73] h72 fun h74 => q58 [x61, x62, x63, x64, x73] h74
noncomputable def S42_155 (x64 : IV) (h103 : Hp) (x102 : IV) (j0_71 : Hp → Option (IV × Hp)) : Option (IV × Hp) :=
  nilS x64 fun x106 => faddrS 2 x106 fun x107 => store1 x107 x102 h103 fun h108 r109 w110 => chkS [] r109 w110 (j0_71 h108)
noncomputable def S42_156 (r96 : List Ref) (w97 : List Ref) (r86 : List Ref) (h95 : Hp) (x94 : IV) (x85 : IV) (x64 : IV) (j0_71 : Hp → Option (IV × Hp)) : Option (IV × Hp) :=
  chkS [(r86, [])] r96 w97 (genS (pcBuildSlice EE 87 1 [(0, x94)]) 44052493 h95 fun x98 h99 r100 w101 => chkS [(r86, [])] r100 w101 (genS (builtinR EE 44052494 false .append [87, 87] [x85, x98]) 44052494 h99 fun x102 h103 r104 w105 => chkS [] r104 w105 (S42_155 x64 h103 x102 j0_71)))
noncomputable def S42_157 (x88 : IV) (x65 : IV) (h79 : Hp) (r86 : List Ref) (x62 : IV) (x85 : IV) (x64 : IV) (j0_71 : Hp → Option (IV × Hp)) : Option (IV × Hp) :=
  ixS 3 x88 x65 fun x90 => loadA 3 x90 h79 fun x91 r92 => chkS [(r86, [])] r92 [] (bldS [.fv (.int .i64 0), .fv (.int .i64 0), .nils, .nils, .fv (.int .i64 0), .fv (.int .i64 0), .nils] [(3, 1, x62), (4, 3, x91)] fun x93 => boxS 44052492 x93 h79 fun x94 h95 r96 w97 => S42_156 r96 w97 r86 h95 x94 x85 x64 j0_71)
noncomputable def S42_158 (h79 : Hp) (x84 : IV) (x63 : IV) (x65 : IV) (x62 : IV) (x64 : IV) (j0_71 : Hp → Option (IV × Hp)) : Option (IV × Hp) :=
  load1 x84 h79 fun x85 r86 => chkS [] r86 [] (faddrS 2 x63 fun x87 => load1 x87 h79 fun x88 r89 => chkS [(r86, [])] r89 [] (S42_157 x88 x65 h79 r86 x62 x85 x64 j0_71))
noncomputable def S42_159 (x133 : IV) (h130 : Hp) (x129 : IV) (j0_71 : Hp → Option (IV × Hp)) : Option (IV × Hp) :=
  faddrS 2 x133 fun x134 => store1 x134 x129 h130 fun h135 r136 w137 => chkS [] r136 w137 (j0_71 h135)
noncomputable def S42_160 (h122 : Hp) (x121 : IV) (r114 : List Ref) (x113 : IV) (x64 : IV) (j0_71 : Hp → Option (IV × Hp)) : Option (IV × Hp) :=
  genS (pcBuildSlice EE 87 1 [(0, x121)]) 44053517 h122 fun x125 h126 r127 w128 => chkS [(r114, [])] r127 w128 (genS (builtinR EE 44053518 false .append [87, 87] [x113, x125]) 44053518 h126 fun x129 h130 r131 w132 => chkS [] r131 w132 (nilS x64 fun x133 => S42_159 x133 h130 x129 j0_71))
noncomputable def S42_161 (x116 : IV) (x65 : IV) (h79 : Hp) (r114 : List Ref) (ih : Handler) (x61 : IV) (x62 : IV) (x113 : IV) (x64 : IV) (j0_71 : Hp → Option (IV × Hp)) : Option (IV × Hp) :=
  ixS 3 x116 x65 fun x118 => loadA 3 x118 h79 fun x119 r120 => chkS [(r114, [])] r120 [] (isoS [true, false, false] false false ih 42 [x61, x119, x62] h79 fun x121 h122 r123 w124 => chkS [(r114, [])] r123 w124 (S42_160 h122 x121 r114 x113 x64 j0_71))
noncomputable def S42_162 (h79 : Hp) (x112 : IV) (x63 : IV) (x65 : IV) (ih : Handler) (x61 : IV) (x62 : IV) (x64 : IV) (j0_71 : Hp → Option (IV × Hp)) : Option (IV × Hp) :=
  load1 x112 h79 fun x113 r114 => chkS [] r114 [] (faddrS 2 x63 fun x115 => load1 x115 h79 fun x116 r117 => chkS [(r114, [])] r117 [] (S42_161 x116 x65 h79 r114 ih x61 x62 x113 x64 j0_71))
noncomputable def S42_163 (x82 : IV) (x64 : IV) (h79 : Hp) (x63 : IV) (x65 : IV) (x62 : IV) (j0_71 : Hp → Option (IV × Hp)) (ih : Handler) (x61 : IV) : Option (IV × Hp) :=
  condS x82 (nilS x64 fun x83 => faddrS 2 x83 fun x84 => S42_158 h79 x84 x63 x65 x62 x64 j0_71) (nilS x64 fun x111 => faddrS 2 x111 fun x112 => S42_162 h79 x112 x63 x65 ih x61 x62 x64 j0_71)
noncomputable def S42_164 (x65 : IV) (h3 : Hp) (x61 : IV) (x62 : IV) (x63 : IV) (x64 : IV) (q58 : List IV → Hp → Option (IV × Hp)) (h60 : Hp) (ih : Handler) : Option (IV × Hp) :=
  (fun (j0_71 : Hp → Option (IV × Hp)) => faddrS 0 x63 fun x75 => load1 x75 h60 fun x76 _ => isoS [] false false ih 51 [x76, x65] h60 fun x78 h79 _ _ => gtS EE 3 x78 (.fv (.int .i64 0)) fun x82 => S42_163 x82 x64 h79 x63 x65 x62 j0_71 ih x61) fun h72 => S42_154 x65 h3 h72 x61 x62 x63 x64 q58
noncomputable def S42_165 (ih : Handler) (h60 : Hp) (x61 : IV) (x64 : IV) : Option (IV × Hp) :=
  isoS [true, false] false false ih 59 [x61, x64] h60 fun x138 h139 _ _ => outS1 [x138] h139
noncomputable def S42_166 (x63 : IV) (h60 : Hp) (x65 : IV) (h3 : Hp) (x61 : IV) (x62 : IV) (x64 : IV) (q58 : List IV → Hp → Option (IV × Hp)) (ih : Handler) : Option (IV × Hp) :=
  faddrS 2 x63 fun x66 => load1 x66 h60 fun x67 _ => lenS x67 fun x69 => ltS EE 3 x65 x69 fun x70 => condS x70 (S42_164 x65 h3 x61 x62 x63 x64 q58 h60 ih) (S42_165 ih h60 x61 x64)
noncomputable def S42_167 (l59 : List IV) (h60 : Hp) (h3 : Hp) (q58 : List IV → Hp → Option (IV × Hp)) (ih : Handler) : Option (IV × Hp) :=
  uncS l59 fun x61 l142 => uncS l142 fun x62 l143 => uncS l143 fun x63 l144 => uncS l144 fun x64 l145 => uncS l145 fun x65 _ => S42_166 x63 h60 x65 h3 x61 x62 x64 q58 ih
noncomputable def S42_168 (h3 : Hp) (h55 : Hp) (x0 : IV) (x2 : IV) (x4 : IV) (x54 : IV) (n : Nat) (ih : Handler) : Option (IV × Hp) :=
  dropS (h3.own.map (·.1)) [44052492, 44052494, 44053518] [x0, x2, x4, x54, .fv (.int .i64 0)] h55 fun h147 => loopS n (fun q58 l59 h60 => S42_167 l59 h60 h3 q58 ih) [x0, x2, x4, x54, .fv (.int .i64 0)] h147
noncomputable def S42_169 (h5 : Hp) (x47 : IV) (x4 : IV) (h3 : Hp) (x0 : IV) (x2 : IV) (n : Nat) (ih : Handler) : Option (IV × Hp) :=
  load1 x47 h5 fun x48 _ => faddrS 1 x4 fun x50 => load1 x50 h5 fun x51 _ => bldS [.fv (.int .i64 0), .fv (.int .i64 0), .nils, .nils, .fv (.int .i64 0), .fv (.int .i64 0), .nils] [(0, 1, x48), (1, 1, x51)] fun x53 => boxS 44047365 x53 h5 fun x54 h55 _ _ => S42_168 h3 h55 x0 x2 x4 x54 n ih
noncomputable def S42_170 (x4 : IV) (h5 : Hp) (x2 : IV) (h3 : Hp) (x0 : IV) (n : Nat) (ih : Handler) : Option (IV × Hp) :=
  faddrS 0 x4 fun x18 => load1 x18 h5 fun x19 _ => eqS EE 3 x19 (.fv (.int .i64 1)) fun x21 => condS x21 (faddrS 1 x4 fun x22 => S42_153 h5 x22 x2 x4) (faddrS 0 x4 fun x47 => S42_169 h5 x47 x4 h3 x0 x2 n ih)
noncomputable def S42 (ih : Handler) (n : Nat) (x0 : IV) (x1 : IV) (x2 : IV) (h3 : Hp) : Option (IV × Hp) :=
  boxS 44040192 x1 h3 fun x4 h5 _ _ => nilS x0 fun x8 => faddrS 2 x8 fun x9 => load1 x9 h5 fun x10 _ => neS EE 3 x10 (.fv (.int .i64 0)) fun x12 => condS x12 (S42_148 h5) (S42_170 x4 h5 x2 h3 x0 n ih)
theorem S42_ok (ih : Handler) (n : Nat) (x0 : IV) (x1 : IV) (x2 : IV) (h3 : Hp) : funS EE ih ft.get n 42 [x0, x1, x2] h3 = S42 ih n x0 x1 x2 h3 := by kernel_rfl
/-! Function 43. -/
noncomputable def S43 (ih : Handler) (n : Nat) (x0 : IV) (x1 : IV) (h2 : Hp) : Option (IV × Hp) :=
  binS EE 3 .rem x0 x1 fun x3 => (fun (j1_4 : IV → Hp → Option (IV × Hp)) => ltS EE 3 x3 (.fv (.int .i64 0)) fun x7 => condS x7 (addS EE 3 x3 x1 fun x8 => j1_4 x8 h2) (j1_4 x3 h2)) fun x5 h6 => outS1 [x5] h6
theorem S43_ok (ih : Handler) (n : Nat) (x0 : IV) (x1 : IV) (h2 : Hp) : funS EE ih ft.get n 43 [x0, x1] h2 = S43 ih n x0 x1 h2 := by kernel_rfl
/-! Function 44. -/
noncomputable def S44 (ih : Handler) (n : Nat) (h0 : Hp) : Option (IV × Hp) :=
  newS 46137344 (.row [.fv (.int .i64 0), .fv (.int .i64 0), .nils] false) (.ptr (.own 46137344) 0) h0 fun x1 h2 _ _ => isoS [] false false ih 24 [.fv (.int .i64 10), .nils] h2 fun x5 h6 _ _ => storeA 3 x1 x5 h6 fun h9 _ _ => cellS true 3 x1 h9 fun x12 => outS1 [x12] h9
theorem S44_ok (ih : Handler) (n : Nat) (h0 : Hp) : funS EE ih ft.get n 44 [] h0 = S44 ih n h0 := by kernel_rfl
/-! Function 45. -/
noncomputable def S45 (ih : Handler) (n : Nat) (x0 : IV) (h1 : Hp) : Option (IV × Hp) :=
  newS 47185920 (.row [.fv (.int .i64 0), .fv (.int .i64 0), .nils] false) (.ptr (.own 47185920) 0) h1 fun x2 h3 _ _ => bldS [.fv (.int .i64 0), .fv (.int .i64 0), .nils] [(0, 1, .fv (.int .i64 2)), (1, 1, x0)] fun x6 => storeA 3 x2 x6 h3 fun h7 _ _ => cellS true 3 x2 h7 fun x10 => outS1 [x10] h7
theorem S45_ok (ih : Handler) (n : Nat) (x0 : IV) (h1 : Hp) : funS EE ih ft.get n 45 [x0] h1 = S45 ih n x0 h1 := by kernel_rfl
/-! Function 46. -/
noncomputable def S46_42 (x17 : IV) (x1 : IV) (h8 : Hp) (x7 : IV) : Option (IV × Hp) :=
  ixS 3 x17 x1 fun x19 => loadA 3 x19 h8 fun x20 _ => storeA 3 x7 x20 h8 fun h22 _ _ => cellS true 3 x7 h22 fun x25 => outS1 [x25] h22
noncomputable def S46_43 (x1 : IV) (x34 : IV) (x30 : IV) (h8 : Hp) (x7 : IV) : Option (IV × Hp) :=
  binS EE 3 .mul (.fv (.int .i64 7)) x1 fun x35 => addS EE 3 x34 x35 fun x36 => bldS [.fv (.int .i64 0), .fv (.int .i64 0), .nils] [(0, 1, x30), (1, 1, x36)] fun x37 => storeA 3 x7 x37 h8 fun h38 _ _ => cellS true 3 x7 h38 fun x41 => outS1 [x41] h38
noncomputable def S46_44 (x27 : IV) (x1 : IV) (x3 : IV) (h8 : Hp) (x7 : IV) : Option (IV × Hp) :=
  binS EE 3 .quo x27 (.fv (.int .i64 3)) fun x29 => addS EE 3 x29 x1 fun x30 => faddrS 1 x3 fun x31 => load1 x31 h8 fun x32 _ => binS EE 3 .quo x32 (.fv (.int .i64 5)) fun x34 => S46_43 x1 x34 x30 h8 x7
noncomputable def S46_45 (x15 : IV) (x3 : IV) (h8 : Hp) (x1 : IV) (x7 : IV) : Option (IV × Hp) :=
  condS x15 (faddrS 2 x3 fun x16 => load1 x16 h8 fun x17 _ => S46_42 x17 x1 h8 x7) (faddrS 0 x3 fun x26 => load1 x26 h8 fun x27 _ => S46_44 x27 x1 x3 h8 x7)
noncomputable def S46 (ih : Handler) (n : Nat) (x0 : IV) (x1 : IV) (h2 : Hp) : Option (IV × Hp) :=
  boxS 48234496 x0 h2 fun x3 h4 _ _ => newS 48234497 (.row [.fv (.int .i64 0), .fv (.int .i64 0), .nils] false) (.ptr (.own 48234497) 0) h4 fun x7 h8 _ _ => faddrS 2 x3 fun x11 => load1 x11 h8 fun x12 _ => lenS x12 fun x14 => ltS EE 3 x1 x14 fun x15 => S46_45 x15 x3 h8 x1 x7
theorem S46_ok (ih : Handler) (n : Nat) (x0 : IV) (x1 : IV) (h2 : Hp) : funS EE ih ft.get n 46 [x0, x1] h2 = S46 ih n x0 x1 h2 := by kernel_rfl
/-! Function 47. -/
noncomputable def S47_133 (x22 : IV) (h4 : Hp) (h27 : Hp) (x16 : IV) (x17 : IV) (x18 : IV) (x19 : IV) (x20 : IV) (x26 : IV) (q13 : List IV → Hp → Option (IV × Hp)) : Option (IV × Hp) :=
  addS EE 3 x22 (.fv (.int .i64 1)) fun x28 => dropS (h4.own.map (·.1)) [49289232, 49291267] [x16, x17, x18, x19, x20, x26, x28] h27 fun h29 => q13 [x16, x17, x18, x19, x20, x26, x28] h29
noncomputable def S47_134 (h90 : Hp) (x22 : IV) (x21 : IV) (j1_25 : IV → Hp → Option (IV × Hp)) : Option (IV × Hp) :=
  genS (pcBuildSlice EE 92 1 [(0, x22)]) 49291266 h90 fun x94 h95 _ _ => genS (builtinR EE 49291267 false .append [92, 92] [x21, x94]) 49291267 h95 fun x98 h99 _ _ => j1_25 x98 h99
noncomputable def S47_135 (r86 : List Ref) (w87 : List Ref) (h85 : Hp) (x63 : IV) (ih : Handler) (x72 : IV) (x84 : IV) (x22 : IV) (x21 : IV) (j1_25 : IV → Hp → Option (IV × Hp)) : Option (IV × Hp) :=
  chkS [] r86 w87 (guardS x63 true h85 (fun k88 => isoS [] false false ih 37 [x72, x84] h85 k88) fun x89 h90 r91 w92 => chkS [] r91 w92 (pickS x63 x89 (.fv (.bool false)) fun x93 => condS x93 (S47_134 h90 x22 x21 j1_25) (j1_25 x21 h90)))
noncomputable def S47_136 (h68 : Hp) (x63 : IV) (ih : Handler) (x67 : IV) (x19 : IV) (r69 : List Ref) (w70 : List Ref) (x22 : IV) (x21 : IV) (j1_25 : IV → Hp → Option (IV × Hp)) : Option (IV × Hp) :=
  guardS x63 true h68 (fun k71 => isoS [] false false ih 38 [x67] h68 k71) fun x72 h73 r74 w75 => chkS [] r74 w75 (guardS x63 true h73 (fun k76 => loadA 3 x19 h73 fun x77 r78 => k76 x77 h73 r78 []) fun x79 h80 r81 w82 => chkS [(r74, w75), (r69, w70)] r81 w82 (guardS x63 true h80 (fun k83 => isoS [] false false ih 38 [x79] h80 k83) fun x84 h85 r86 w87 => S47_135 r86 w87 h85 x63 ih x72 x84 x22 x21 j1_25))
noncomputable def S47_137 (h51 : Hp) (x54 : IV) (x55 : IV) (ih : Handler) (x19 : IV) (x22 : IV) (x21 : IV) (j1_25 : IV → Hp → Option (IV × Hp)) : Option (IV × Hp) :=
  newS 49289232 (.row [.fv (.int .i64 0), .fv (.int .i64 0), .nils] false) (.ptr (.own 49289232) 0) h51 fun x56 h57 _ _ => storeA 3 x56 x54 h57 fun h60 _ _ => eqS EE 3 x55 (.fv (.int .i64 0)) fun x63 => guardS x63 true h60 (fun k64 => loadA 3 x56 h60 fun x65 r66 => k64 x65 h60 r66 []) fun x67 h68 r69 w70 => chkS [] r69 w70 (S47_136 h68 x63 ih x67 x19 r69 w70 x22 x21 j1_25)
noncomputable def S47_138 (x22 : IV) (ih : Handler) (h15 : Hp) (x43 : IV) (x19 : IV) (x21 : IV) (j1_25 : IV → Hp → Option (IV × Hp)) : Option (IV × Hp) :=
  addS EE 3 x22 (.fv (.int .i64 1)) fun x45 => isoS [] false false ih 25 [x43, x45, .fv (.int .i64 0)] h15 fun x46 h47 _ _ => isoS [] false false ih 17 [x46] h47 fun x50 h51 _ _ => extS 0 x50 fun x54 => extS 1 x50 fun x55 => S47_137 h51 x54 x55 ih x19 x22 x21 j1_25
noncomputable def S47_139 (x38 : IV) (x22 : IV) (x16 : IV) (h15 : Hp) (ih : Handler) (x19 : IV) (x21 : IV) (j1_25 : IV → Hp → Option (IV × Hp)) : Option (IV × Hp) :=
  subS EE 3 x38 (.fv (.int .i64 1)) fun x39 => subS EE 3 x39 x22 fun x40 => ixS 4 x16 x40 fun x41 => faddrS 1 x41 fun x42 => loadA 3 x42 h15 fun x43 _ => S47_138 x22 ih h15 x43 x19 x21 j1_25
noncomputable def S47_140 (x33 : IV) (h15 : Hp) (x17 : IV) (j1_25 : IV → Hp → Option (IV × Hp)) (x21 : IV) (x16 : IV) (x22 : IV) (ih : Handler) (x19 : IV) : Option (IV × Hp) :=
  faddrS 0 x33 fun x34 => load1 x34 h15 fun x35 _ => neS EE 3 x35 x17 fun x37 => condS x37 (j1_25 x21 h15) (lenS x16 fun x38 => S47_139 x38 x22 x16 h15 ih x19 x21 j1_25)
noncomputable def S47_141 (x22 : IV) (h4 : Hp) (x16 : IV) (x17 : IV) (x18 : IV) (x19 : IV) (x20 : IV) (q13 : List IV → Hp → Option (IV × Hp)) (h15 : Hp) (x21 : IV) (ih : Handler) : Option (IV × Hp) :=
  (fun (j1_25 : IV → Hp → Option (IV × Hp)) => lenS x16 fun x30 => subS EE 3 x30 (.fv (.int .i64 1)) fun x31 => subS EE 3 x31 x22 fun x32 => ixS 4 x16 x32 fun x33 => S47_140 x33 h15 x17 j1_25 x21 x16 x22 ih x19) fun x26 h27 => S47_133 x22 h4 h27 x16 x17 x18 x19 x20 x26 q13
noncomputable def S47_142 (h15 : Hp) (x20 : IV) (x104 : IV) : Option (IV × Hp) :=
  storeA 3 x20 x104 h15 fun h105 _ _ => cellS true 3 x20 h105 fun x108 => outS1 [x108, .fv (.bool false)] h105
noncomputable def S47_143 (h121 : Hp) (x20 : IV) : Option (IV × Hp) :=
  cellS true 3 x20 h121 fun x124 => outS1 [x124, .fv (.bool true)] h121
noncomputable def S47_144 (ih : Handler) (h15 : Hp) (x18 : IV) (x109 : IV) (x21 : IV) (x20 : IV) : Option (IV × Hp) :=
  isoS [] false false ih 43 [x18, x109] h15 fun x110 h111 _ _ => ixS 1 x21 x110 fun x114 => load1 x114 h111 fun x115 _ => isoS [] false false ih 26 [x115] h111 fun x117 h118 _ _ => storeA 3 x20 x117 h118 fun h121 _ _ => S47_143 h121 x20
noncomputable def S47_145 (x21 : IV) (h15 : Hp) (x20 : IV) (ih : Handler) (x18 : IV) : Option (IV × Hp) :=
  lenS x21 fun x102 => eqS EE 3 x102 (.fv (.int .i64 0)) fun x103 => condS x103 (bldS [.fv (.int .i64 0), .fv (.int .i64 0), .nils] [] fun x104 => S47_142 h15 x20 x104) (lenS x21 fun x109 => S47_144 ih h15 x18 x109 x21 x20)
noncomputable def S47_146 (l129 : List IV) (x16 : IV) (h4 : Hp) (x17 : IV) (x18 : IV) (x19 : IV) (x20 : IV) (q13 : List IV → Hp → Option (IV × Hp)) (h15 : Hp) (ih : Handler) : Option (IV × Hp) :=
  uncS l129 fun x21 l130 => uncS l130 fun x22 _ => lenS x16 fun x23 => ltS EE 3 x22 x23 fun x24 => condS x24 (S47_141 x22 h4 x16 x17 x18 x19 x20 q13 h15 x21 ih) (S47_145 x21 h15 x20 ih x18)
noncomputable def S47_147 (l14 : List IV) (h4 : Hp) (q13 : List IV → Hp → Option (IV × Hp)) (h15 : Hp) (ih : Handler) : Option (IV × Hp) :=
  uncS l14 fun x16 l125 => uncS l125 fun x17 l126 => uncS l126 fun x18 l127 => uncS l127 fun x19 l128 => uncS l128 fun x20 l129 => S47_146 l129 x16 h4 x17 x18 x19 x20 q13 h15 ih
noncomputable def S47 (ih : Handler) (n : Nat) (x0 : IV) (x1 : IV) (x2 : IV) (x3 : IV) (h4 : Hp) : Option (IV × Hp) :=
  boxS 49283072 x2 h4 fun x5 h6 _ _ => newS 49283073 (.row [.fv (.int .i64 0), .fv (.int .i64 0), .nils] false) (.ptr (.own 49283073) 0) h6 fun x9 h10 _ _ => dropS (h4.own.map (·.1)) [49289232, 49291267] [x0, x1, x3, x5, x9, .nils, .fv (.int .i64 0)] h10 fun h132 => loopS n (fun q13 l14 h15 => S47_147 l14 h4 q13 h15 ih) [x0, x1, x3, x5, x9, .nils, .fv (.int .i64 0)] h132
theorem S47_ok (ih : Handler) (n : Nat) (x0 : IV) (x1 : IV) (x2 : IV) (x3 : IV) (h4 : Hp) : funS EE ih ft.get n 47 [x0, x1, x2, x3] h4 = S47 ih n x0 x1 x2 x3 h4 := by kernel_rfl
end Idl
end Go.Proofs.Ytaifgaidaglblaa

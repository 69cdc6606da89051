/-
  Texts of a proof, part 10: an ideal semantics of the program, its functions in shallow form, contracts of them. No statement of the seat is proved here.
-/
import Derived.Test.YtkfecngimlcfoaaStageTwiceK9
set_option linter.all false
set_option maxRecDepth 100000
set_option linter.unusedVariables false
namespace Go.Proofs.Ytkfecngimlcfoaa
namespace Idl
noncomputable def S86_513 (x29 : IV) (h65 : Hp) (x64 : IV) (x30 : IV) (h1 : Hp) (x27 : IV) (x28 : IV) (q24 : List IV → Hp → Option (IV × Hp)) : Option (IV × Hp) :=
  faddrS 2 x29 fun x68 => store1 x68 x64 h65 fun h69 _ _ => addS EE 3 x30 (.fv (.int .i64 1)) fun x72 => dropS (h1.own.map (·.1)) [90182662, 90185732] [x27, x28, x29, x72] h69 fun h73 => q24 [x27, x28, x29, x72] h73
noncomputable def S86_514 (x29 : IV) (h54 : Hp) (x46 : IV) (x30 : IV) (h1 : Hp) (x27 : IV) (x28 : IV) (q24 : List IV → Hp → Option (IV × Hp)) : Option (IV × Hp) :=
  faddrS 2 x29 fun x55 => load1 x55 h54 fun x56 _ => loadA 3 x46 h54 fun x58 _ => genS (pcBuildSlice EE 28 1 [(0, x58)]) 90185731 h54 fun x60 h61 _ _ => genS (builtinR EE 90185732 false .append [28, 28] [x56, x60]) 90185732 h61 fun x64 h65 _ _ => S86_513 x29 h65 x64 x30 h1 x27 x28 q24
noncomputable def S86_515 (h126 : Hp) (x46 : IV) (x125 : IV) (j0_53 : Hp → Option (IV × Hp)) : Option (IV × Hp) :=
  storeA 3 x46 x125 h126 fun h129 _ _ => j0_53 h129
noncomputable def S86_516 (h115 : Hp) (x74 : IV) (x95 : IV) (x114 : IV) (ih : Handler) (x46 : IV) (j0_53 : Hp → Option (IV × Hp)) : Option (IV × Hp) :=
  guardS x74 true h115 (fun k118 => pickS x95 (.fv (.bool true)) x114 fun x119 => k118 x119 h115 [] []) fun x120 h121 _ _ => pickS x74 x120 (.fv (.bool false)) fun x124 => condS x124 (isoS [] false false ih 24 [.fv (.int .i64 11), .nils] h121 fun x125 h126 _ _ => S86_515 h126 x46 x125 j0_53) (j0_53 h121)
noncomputable def S86_517 (h85 : Hp) (x74 : IV) (x84 : IV) (x27 : IV) (ih : Handler) (x46 : IV) (j0_53 : Hp → Option (IV × Hp)) : Option (IV × Hp) :=
  guardS x74 true h85 (fun k88 => eqS EE 3 x84 (.fv (.int .i64 4)) fun x89 => k88 x89 h85 [] []) fun x90 h91 _ _ => guardS x74 true h91 (fun k94 => k94 x90 h91 [] []) fun x95 h96 _ _ => guardS x95 false h96 (fun k99 => faddrS 0 x27 fun x100 => k99 x100 h96 [] []) fun x101 h102 _ _ => guardS x95 false h102 (fun k105 => load1 x101 h102 fun x106 r107 => k105 x106 h102 r107 []) fun x108 h109 _ _ => guardS x95 false h109 (fun k112 => eqS EE 3 x108 (.fv (.int .i64 7)) fun x113 => k112 x113 h109 [] []) fun x114 h115 _ _ => S86_516 h115 x74 x95 x114 ih x46 j0_53
noncomputable def S86_518 (h47 : Hp) (x46 : IV) (x42 : IV) (x29 : IV) (x30 : IV) (h1 : Hp) (x27 : IV) (x28 : IV) (q24 : List IV → Hp → Option (IV × Hp)) (ih : Handler) : Option (IV × Hp) :=
  storeA 3 x46 x42 h47 fun h50 _ _ => (fun (j0_53 : Hp → Option (IV × Hp)) => eqS EE 3 x30 (.fv (.int .i64 0)) fun x74 => guardS x74 true h50 (fun k75 => faddrS 0 x27 fun x76 => k75 x76 h50 [] []) fun x77 h78 _ _ => guardS x74 true h78 (fun k81 => load1 x77 h78 fun x82 r83 => k81 x82 h78 r83 []) fun x84 h85 _ _ => S86_517 h85 x74 x84 x27 ih x46 j0_53) fun h54 => S86_514 x29 h54 x46 x30 h1 x27 x28 q24
noncomputable def S86_519 (h26 : Hp) (x36 : IV) (x30 : IV) (ih : Handler) (x29 : IV) (h1 : Hp) (x27 : IV) (x28 : IV) (q24 : List IV → Hp → Option (IV × Hp)) : Option (IV × Hp) :=
  load1 x36 h26 fun x37 _ => ixS 3 x37 x30 fun x39 => loadA 3 x39 h26 fun x40 _ => isoS [] false false ih 86 [x40] h26 fun x42 h43 _ _ => newS 90182662 (.row [.fv (.int .i64 0), .fv (.int .i64 0), .nils] false) (.ptr (.own 90182662) 0) h43 fun x46 h47 _ _ => S86_518 h47 x46 x42 x29 x30 h1 x27 x28 q24 ih
noncomputable def S86_520 (ih : Handler) (h299 : Hp) (x296 : IV) (x298 : IV) (x28 : IV) : Option (IV × Hp) :=
  isoS [] false false ih 67 [x296, .fv (.int .i64 0), x298] h299 fun x302 h303 r304 w305 => chkS [] r304 w305 (storeA 3 x28 x302 h303 fun h306 r307 w308 => chkS [] r307 w308 (cellS true 3 x28 h306 fun x309 => outS1 [x309] h306))
noncomputable def S86_521 (x293 : IV) (h284 : Hp) (ih : Handler) (r294 : List Ref) (r290 : List Ref) (x28 : IV) : Option (IV × Hp) :=
  ixS 3 x293 (.fv (.int .i64 0)) fun x295 => loadA 3 x295 h284 fun x296 r297 => chkS [] r297 [] (isoS [] false false ih 24 [.fv (.int .i64 11), .nils] h284 fun x298 h299 r300 w301 => chkS [(r297, []), (r294, []), (r290, [])] r300 w301 (S86_520 ih h299 x296 x298 x28))
noncomputable def S86_522 (r290 : List Ref) (x289 : IV) (h284 : Hp) (ih : Handler) (x28 : IV) : Option (IV × Hp) :=
  chkS [] r290 [] (ixS 3 x289 (.fv (.int .i64 1)) fun x291 => faddrS 2 x291 fun x292 => load1 x292 h284 fun x293 r294 => chkS [] r294 [] (S86_521 x293 h284 ih r294 r290 x28))
noncomputable def S86_523 (h484 : Hp) (x495 : IV) (x28 : IV) : Option (IV × Hp) :=
  loadA 3 x495 h484 fun x496 _ => storeA 3 x28 x496 h484 fun h498 _ _ => cellS true 3 x28 h498 fun x501 => outS1 [x501] h498
noncomputable def S86_524 (h484 : Hp) (x488 : IV) (x28 : IV) : Option (IV × Hp) :=
  load1 x488 h484 fun x489 _ => ixS 3 x489 (.fv (.int .i64 1)) fun x491 => faddrS 2 x491 fun x492 => load1 x492 h484 fun x493 _ => ixS 3 x493 (.fv (.int .i64 0)) fun x495 => S86_523 h484 x495 x28
noncomputable def S86_525 (h484 : Hp) (x28 : IV) (x502 : IV) : Option (IV × Hp) :=
  storeA 3 x28 x502 h484 fun h504 _ _ => cellS true 3 x28 h504 fun x507 => outS1 [x507] h504
noncomputable def S86_526 (h479 : Hp) (x391 : IV) (ih : Handler) (x433 : IV) (x478 : IV) (x29 : IV) (x28 : IV) : Option (IV × Hp) :=
  guardS x391 true h479 (fun k482 => isoS [] false false ih 17 [x433, x478] h479 k482) fun x483 h484 r485 w486 => chkS [] r485 w486 (pickS x391 x483 (.fv (.bool false)) fun x487 => condS x487 (faddrS 2 x29 fun x488 => S86_524 h484 x488 x28) (loadA 3 x29 h484 fun x502 _ => S86_525 h484 x28 x502))
noncomputable def S86_527 (h459 : Hp) (x391 : IV) (x458 : IV) (r435 : List Ref) (w436 : List Ref) (r422 : List Ref) (w423 : List Ref) (r403 : List Ref) (w404 : List Ref) (ih : Handler) (x433 : IV) (x29 : IV) (x28 : IV) : Option (IV × Hp) :=
  guardS x391 true h459 (fun k462 => load1 x458 h459 fun x463 r464 => k462 x463 h459 r464 []) fun x465 h466 r467 w468 => chkS [(r435, w436), (r422, w423), (r403, w404)] r467 w468 (guardS x391 true h466 (fun k469 => ixS 3 x465 (.fv (.int .i64 0)) fun x470 => k469 x470 h466 [] []) fun x471 h472 _ _ => guardS x391 true h472 (fun k475 => loadA 3 x471 h472 fun x476 r477 => k475 x476 h472 r477 []) fun x478 h479 r480 w481 => chkS [(r435, w436), (r422, w423), (r403, w404)] r480 w481 (S86_526 h479 x391 ih x433 x478 x29 x28))
noncomputable def S86_528 (h434 : Hp) (x391 : IV) (x29 : IV) (r435 : List Ref) (w436 : List Ref) (r422 : List Ref) (w423 : List Ref) (r403 : List Ref) (w404 : List Ref) (ih : Handler) (x433 : IV) (x28 : IV) : Option (IV × Hp) :=
  guardS x391 true h434 (fun k437 => faddrS 2 x29 fun x438 => k437 x438 h434 [] []) fun x439 h440 _ _ => guardS x391 true h440 (fun k443 => load1 x439 h440 fun x444 r445 => k443 x444 h440 r445 []) fun x446 h447 r448 w449 => chkS [(r435, w436), (r422, w423), (r403, w404)] r448 w449 (guardS x391 true h447 (fun k450 => ixS 3 x446 (.fv (.int .i64 2)) fun x451 => k450 x451 h447 [] []) fun x452 h453 _ _ => guardS x391 true h453 (fun k456 => faddrS 2 x452 fun x457 => k456 x457 h453 [] []) fun x458 h459 _ _ => S86_527 h459 x391 x458 r435 w436 r422 w423 r403 w404 ih x433 x29 x28)
noncomputable def S86_529 (h414 : Hp) (x391 : IV) (x413 : IV) (x29 : IV) (r403 : List Ref) (w404 : List Ref) (ih : Handler) (x28 : IV) : Option (IV × Hp) :=
  guardS x391 true h414 (fun k417 => load1 x413 h414 fun x418 r419 => k417 x418 h414 r419 []) fun x420 h421 r422 w423 => chkS [] r422 w423 (guardS x391 true h421 (fun k424 => ixS 3 x420 (.fv (.int .i64 0)) fun x425 => k424 x425 h421 [] []) fun x426 h427 _ _ => guardS x391 true h427 (fun k430 => loadA 3 x426 h427 fun x431 r432 => k430 x431 h427 r432 []) fun x433 h434 r435 w436 => chkS [] r435 w436 (S86_528 h434 x391 x29 r435 w436 r422 w423 r403 w404 ih x433 x28))
noncomputable def S86_530 (h388 : Hp) (x391 : IV) (x29 : IV) (ih : Handler) (x28 : IV) : Option (IV × Hp) :=
  guardS x391 true h388 (fun k392 => faddrS 2 x29 fun x393 => k392 x393 h388 [] []) fun x394 h395 _ _ => guardS x391 true h395 (fun k398 => load1 x394 h395 fun x399 r400 => k398 x399 h395 r400 []) fun x401 h402 r403 w404 => chkS [] r403 w404 (guardS x391 true h402 (fun k405 => ixS 3 x401 (.fv (.int .i64 1)) fun x406 => k405 x406 h402 [] []) fun x407 h408 _ _ => guardS x391 true h408 (fun k411 => faddrS 2 x407 fun x412 => k411 x412 h408 [] []) fun x413 h414 _ _ => S86_529 h414 x391 x413 x29 r403 w404 ih x28)
noncomputable def S86_531 (h369 : Hp) (x352 : IV) (x368 : IV) (x29 : IV) (ih : Handler) (x28 : IV) : Option (IV × Hp) :=
  guardS x352 true h369 (fun k372 => faddrS 0 x368 fun x373 => k372 x373 h369 [] []) fun x374 h375 _ _ => guardS x352 true h375 (fun k378 => load1 x374 h375 fun x379 r380 => k378 x379 h375 r380 []) fun x381 h382 r383 w384 => chkS [] r383 w384 (guardS x352 true h382 (fun k385 => eqS EE 3 x381 (.fv (.int .i64 9)) fun x386 => k385 x386 h382 [] []) fun x387 h388 _ _ => pickS x352 x387 (.fv (.bool false)) fun x391 => S86_530 h388 x391 x29 ih x28)
noncomputable def S86_532 (x313 : IV) (x348 : IV) (h349 : Hp) (x29 : IV) (ih : Handler) (x28 : IV) : Option (IV × Hp) :=
  pickS x313 x348 (.fv (.bool false)) fun x352 => guardS x352 true h349 (fun k353 => faddrS 2 x29 fun x354 => k353 x354 h349 [] []) fun x355 h356 _ _ => guardS x352 true h356 (fun k359 => load1 x355 h356 fun x360 r361 => k359 x360 h356 r361 []) fun x362 h363 r364 w365 => chkS [] r364 w365 (guardS x352 true h363 (fun k366 => ixS 3 x362 (.fv (.int .i64 2)) fun x367 => k366 x367 h363 [] []) fun x368 h369 _ _ => S86_531 h369 x352 x368 x29 ih x28)
noncomputable def S86_533 (h324 : Hp) (x313 : IV) (x323 : IV) (x29 : IV) (ih : Handler) (x28 : IV) : Option (IV × Hp) :=
  guardS x313 true h324 (fun k327 => ixS 3 x323 (.fv (.int .i64 1)) fun x328 => k327 x328 h324 [] []) fun x329 h330 _ _ => guardS x313 true h330 (fun k333 => faddrS 0 x329 fun x334 => k333 x334 h330 [] []) fun x335 h336 _ _ => guardS x313 true h336 (fun k339 => load1 x335 h336 fun x340 r341 => k339 x340 h336 r341 []) fun x342 h343 r344 w345 => chkS [] r344 w345 (guardS x313 true h343 (fun k346 => eqS EE 3 x342 (.fv (.int .i64 8)) fun x347 => k346 x347 h343 [] []) fun x348 h349 _ _ => S86_532 x313 x348 h349 x29 ih x28)
noncomputable def S86_534 (r312 : List Ref) (x311 : IV) (h284 : Hp) (x29 : IV) (ih : Handler) (x28 : IV) : Option (IV × Hp) :=
  chkS [] r312 [] (eqS EE 3 x311 (.fv (.int .i64 7)) fun x313 => guardS x313 true h284 (fun k314 => faddrS 2 x29 fun x315 => k314 x315 h284 [] []) fun x316 h317 _ _ => guardS x313 true h317 (fun k320 => load1 x316 h317 fun x321 r322 => k320 x321 h317 r322 []) fun x323 h324 r325 w326 => chkS [] r325 w326 (S86_533 h324 x313 x323 x29 ih x28))
noncomputable def S86_535 (x230 : IV) (x283 : IV) (x29 : IV) (h284 : Hp) (ih : Handler) (x28 : IV) (x27 : IV) : Option (IV × Hp) :=
  pickS x230 x283 (.fv (.bool false)) fun x287 => condS x287 (faddrS 2 x29 fun x288 => load1 x288 h284 fun x289 r290 => S86_522 r290 x289 h284 ih x28) (faddrS 0 x27 fun x310 => load1 x310 h284 fun x311 r312 => S86_534 r312 x311 h284 x29 ih x28)
noncomputable def S86_536 (h266 : Hp) (x230 : IV) (x265 : IV) (ih : Handler) (x29 : IV) (x28 : IV) (x27 : IV) : Option (IV × Hp) :=
  guardS x230 true h266 (fun k269 => loadA 3 x265 h266 fun x270 r271 => k269 x270 h266 r271 []) fun x272 h273 r274 w275 => chkS [] r274 w275 (guardS x230 true h273 (fun k276 => isoS [] false false ih 107 [x272, .fv (.int .i64 0)] h273 k276) fun x277 h278 r279 w280 => chkS [] r279 w280 (guardS x230 true h278 (fun k281 => optS (unR .not x277) fun x282 => k281 x282 h278 [] []) fun x283 h284 _ _ => S86_535 x230 x283 x29 h284 ih x28 x27))
noncomputable def S86_537 (h241 : Hp) (x230 : IV) (x240 : IV) (ih : Handler) (x29 : IV) (x28 : IV) (x27 : IV) : Option (IV × Hp) :=
  guardS x230 true h241 (fun k244 => ixS 3 x240 (.fv (.int .i64 1)) fun x245 => k244 x245 h241 [] []) fun x246 h247 _ _ => guardS x230 true h247 (fun k250 => faddrS 2 x246 fun x251 => k250 x251 h247 [] []) fun x252 h253 _ _ => guardS x230 true h253 (fun k256 => load1 x252 h253 fun x257 r258 => k256 x257 h253 r258 []) fun x259 h260 r261 w262 => chkS [] r261 w262 (guardS x230 true h260 (fun k263 => ixS 3 x259 (.fv (.int .i64 0)) fun x264 => k263 x264 h260 [] []) fun x265 h266 _ _ => S86_536 h266 x230 x265 ih x29 x28 x27)
noncomputable def S86_538 (r228 : List Ref) (w229 : List Ref) (x174 : IV) (x226 : IV) (h227 : Hp) (x29 : IV) (ih : Handler) (x28 : IV) (x27 : IV) : Option (IV × Hp) :=
  chkS [] r228 w229 (pickS x174 x226 (.fv (.bool false)) fun x230 => guardS x230 true h227 (fun k231 => faddrS 2 x29 fun x232 => k231 x232 h227 [] []) fun x233 h234 _ _ => guardS x230 true h234 (fun k237 => load1 x233 h234 fun x238 r239 => k237 x238 h234 r239 []) fun x240 h241 r242 w243 => chkS [] r242 w243 (S86_537 h241 x230 x240 ih x29 x28 x27))
noncomputable def S86_539 (h210 : Hp) (x174 : IV) (x209 : IV) (ih : Handler) (r205 : List Ref) (w206 : List Ref) (r186 : List Ref) (w187 : List Ref) (x29 : IV) (x28 : IV) (x27 : IV) : Option (IV × Hp) :=
  guardS x174 true h210 (fun k213 => loadA 3 x209 h210 fun x214 r215 => k213 x214 h210 r215 []) fun x216 h217 r218 w219 => chkS [] r218 w219 (guardS x174 true h217 (fun k220 => isoS [] false false ih 25 [.fv (.int .i64 0)] h217 k220) fun x221 h222 r223 w224 => chkS [(r218, w219), (r205, w206), (r186, w187)] r223 w224 (guardS x174 true h222 (fun k225 => isoS [] false false ih 17 [x216, x221] h222 k225) fun x226 h227 r228 w229 => S86_538 r228 w229 x174 x226 h227 x29 ih x28 x27))
noncomputable def S86_540 (h185 : Hp) (x174 : IV) (x184 : IV) (ih : Handler) (r186 : List Ref) (w187 : List Ref) (x29 : IV) (x28 : IV) (x27 : IV) : Option (IV × Hp) :=
  guardS x174 true h185 (fun k188 => ixS 3 x184 (.fv (.int .i64 1)) fun x189 => k188 x189 h185 [] []) fun x190 h191 _ _ => guardS x174 true h191 (fun k194 => faddrS 2 x190 fun x195 => k194 x195 h191 [] []) fun x196 h197 _ _ => guardS x174 true h197 (fun k200 => load1 x196 h197 fun x201 r202 => k200 x201 h197 r202 []) fun x203 h204 r205 w206 => chkS [] r205 w206 (guardS x174 true h204 (fun k207 => ixS 3 x203 (.fv (.int .i64 1)) fun x208 => k207 x208 h204 [] []) fun x209 h210 _ _ => S86_539 h210 x174 x209 ih r205 w206 r186 w187 x29 x28 x27)
noncomputable def S86_541 (h165 : Hp) (x135 : IV) (x164 : IV) (x29 : IV) (ih : Handler) (x28 : IV) (x27 : IV) : Option (IV × Hp) :=
  guardS x135 true h165 (fun k168 => eqS EE 3 x164 (.fv (.int .i64 5)) fun x169 => k168 x169 h165 [] []) fun x170 h171 _ _ => pickS x135 x170 (.fv (.bool false)) fun x174 => guardS x174 true h171 (fun k175 => faddrS 2 x29 fun x176 => k175 x176 h171 [] []) fun x177 h178 _ _ => guardS x174 true h178 (fun k181 => load1 x177 h178 fun x182 r183 => k181 x182 h178 r183 []) fun x184 h185 r186 w187 => chkS [] r186 w187 (S86_540 h185 x174 x184 ih r186 w187 x29 x28 x27)
noncomputable def S86_542 (r147 : List Ref) (w148 : List Ref) (h146 : Hp) (x135 : IV) (x145 : IV) (x29 : IV) (ih : Handler) (x28 : IV) (x27 : IV) : Option (IV × Hp) :=
  chkS [] r147 w148 (guardS x135 true h146 (fun k149 => ixS 3 x145 (.fv (.int .i64 1)) fun x150 => k149 x150 h146 [] []) fun x151 h152 _ _ => guardS x135 true h152 (fun k155 => faddrS 0 x151 fun x156 => k155 x156 h152 [] []) fun x157 h158 _ _ => guardS x135 true h158 (fun k161 => load1 x157 h158 fun x162 r163 => k161 x162 h158 r163 []) fun x164 h165 r166 w167 => chkS [] r166 w167 (S86_541 h165 x135 x164 x29 ih x28 x27))
noncomputable def S86_543 (h26 : Hp) (x132 : IV) (x29 : IV) (ih : Handler) (x28 : IV) (x27 : IV) : Option (IV × Hp) :=
  load1 x132 h26 fun x133 r134 => chkS [] r134 [] (eqS EE 3 x133 (.fv (.int .i64 4)) fun x135 => guardS x135 true h26 (fun k136 => faddrS 2 x29 fun x137 => k136 x137 h26 [] []) fun x138 h139 _ _ => guardS x135 true h139 (fun k142 => load1 x138 h139 fun x143 r144 => k142 x143 h139 r144 []) fun x145 h146 r147 w148 => S86_542 r147 w148 h146 x135 x145 x29 ih x28 x27)
noncomputable def S86_544 (h26 : Hp) (x31 : IV) (x30 : IV) (x27 : IV) (ih : Handler) (x29 : IV) (h1 : Hp) (x28 : IV) (q24 : List IV → Hp → Option (IV × Hp)) : Option (IV × Hp) :=
  load1 x31 h26 fun x32 _ => lenS x32 fun x34 => ltS EE 3 x30 x34 fun x35 => condS x35 (faddrS 2 x27 fun x36 => S86_519 h26 x36 x30 ih x29 h1 x27 x28 q24) (faddrS 0 x27 fun x132 => S86_543 h26 x132 x29 ih x28 x27)
noncomputable def S86_545 (l25 : List IV) (h26 : Hp) (ih : Handler) (h1 : Hp) (q24 : List IV → Hp → Option (IV × Hp)) : Option (IV × Hp) :=
  uncS l25 fun x27 l508 => uncS l508 fun x28 l509 => uncS l509 fun x29 l510 => uncS l510 fun x30 _ => faddrS 2 x27 fun x31 => S86_544 h26 x31 x30 x27 ih x29 h1 x28 q24
noncomputable def S86_546 (x11 : IV) (x14 : IV) (h7 : Hp) (h1 : Hp) (x2 : IV) (x6 : IV) (n : Nat) (ih : Handler) : Option (IV × Hp) :=
  bldS [.fv (.int .i64 0), .fv (.int .i64 0), .nils] [(0, 1, x11), (1, 1, x14)] fun x16 => newS 90178565 (.row [.fv (.int .i64 0), .fv (.int .i64 0), .nils] false) (.ptr (.own 90178565) 0) h7 fun x17 h18 _ _ => storeA 3 x17 x16 h18 fun h21 _ _ => dropS (h1.own.map (·.1)) [90182662, 90185732] [x2, x6, x17, .fv (.int .i64 0)] h21 fun h512 => loopS n (fun q24 l25 h26 => S86_545 l25 h26 ih h1 q24) [x2, x6, x17, .fv (.int .i64 0)] h512
noncomputable def S86 (ih : Handler) (n : Nat) (x0 : IV) (h1 : Hp) : Option (IV × Hp) :=
  boxS 90177536 x0 h1 fun x2 h3 _ _ => newS 90177537 (.row [.fv (.int .i64 0), .fv (.int .i64 0), .nils] false) (.ptr (.own 90177537) 0) h3 fun x6 h7 _ _ => faddrS 0 x2 fun x10 => load1 x10 h7 fun x11 _ => faddrS 1 x2 fun x13 => load1 x13 h7 fun x14 _ => S86_546 x11 x14 h7 h1 x2 x6 n ih
theorem S86_ok (ih : Handler) (n : Nat) (x0 : IV) (h1 : Hp) : funS EE ih ft.get n 86 [x0] h1 = S86 ih n x0 h1 := by kernel_rfl
noncomputable def S87 (ih : Handler) (n : Nat) (x0 : IV) (x1 : IV) (h2 : Hp) : Option (IV × Hp) :=
  genS (pcBuildSlice EE 114 0 []) 91227136 h2 fun x3 h4 _ _ => genS (builtinR EE 91227138 false .append [114, 114] [x3, x0]) 91227138 h4 fun x7 h8 _ _ => genS (builtinR EE 91227140 false .append [114, 114] [x7, x1]) 91227140 h8 fun x11 h12 _ _ => outS1 [x11] h12
theorem S87_ok (ih : Handler) (n : Nat) (x0 : IV) (x1 : IV) (h2 : Hp) : funS EE ih ft.get n 87 [x0, x1] h2 = S87 ih n x0 x1 h2 := by kernel_rfl
noncomputable def S88_629 (r121 : List Ref) (w122 : List Ref) (h120 : Hp) (x119 : IV) : Option (IV × Hp) :=
  chkS [] r121 w122 (outS1 [x119] h120)
noncomputable def S88_630 (h79 : Hp) (x109 : IV) (r103 : List Ref) (r99 : List Ref) (ih : Handler) (x102 : IV) (x0 : IV) (x98 : IV) : Option (IV × Hp) :=
  genS (pcBuildSlice EE 114 1 [(0, x109)]) 92280847 h79 fun x111 h112 r113 w114 => chkS [(r103, []), (r99, [])] r113 w114 (isoS [] false false ih 87 [x102, x111] h112 fun x115 h116 r117 w118 => chkS [(r99, [])] r117 w118 (isoS [true, false, false] false false ih 62 [x0, x98, x115] h116 fun x119 h120 r121 w122 => S88_629 r121 w122 h120 x119))
noncomputable def S88_631 (h79 : Hp) (x105 : IV) (r103 : List Ref) (r99 : List Ref) (ih : Handler) (x102 : IV) (x0 : IV) (x98 : IV) : Option (IV × Hp) :=
  load1 x105 h79 fun x106 r107 => chkS [(r103, []), (r99, [])] r107 [] (ixS 1 x106 (.fv (.int .i64 1)) fun x108 => load1 x108 h79 fun x109 r110 => chkS [(r103, []), (r99, [])] r110 [] (S88_630 h79 x109 r103 r99 ih x102 x0 x98))
noncomputable def S88_632 (x100 : IV) (h79 : Hp) (r99 : List Ref) (x1 : IV) (ih : Handler) (x0 : IV) (x98 : IV) : Option (IV × Hp) :=
  faddrS 3 x100 fun x101 => load1 x101 h79 fun x102 r103 => chkS [(r99, [])] r103 [] (nilS x1 fun x104 => faddrS 2 x104 fun x105 => S88_631 h79 x105 r103 r99 ih x102 x0 x98)
noncomputable def S88_633 (x94 : IV) (h79 : Hp) (x1 : IV) (ih : Handler) (x0 : IV) : Option (IV × Hp) :=
  nilS x94 fun x96 => faddrS 4 x96 fun x97 => loadA 3 x97 h79 fun x98 r99 => chkS [] r99 [] (nilS x94 fun x100 => S88_632 x100 h79 r99 x1 ih x0 x98)
noncomputable def S88_634 (x87 : IV) (h79 : Hp) (x1 : IV) (ih : Handler) (x0 : IV) : Option (IV × Hp) :=
  nilS x87 fun x89 => faddrS 2 x89 fun x90 => load1 x90 h79 fun x91 _ => ixS 1 x91 (.fv (.int .i64 1)) fun x93 => load1 x93 h79 fun x94 _ => S88_633 x94 h79 x1 ih x0
noncomputable def S88_635 (x1 : IV) (h79 : Hp) (ih : Handler) (x0 : IV) : Option (IV × Hp) :=
  nilS x1 fun x82 => faddrS 2 x82 fun x83 => load1 x83 h79 fun x84 _ => ixS 1 x84 (.fv (.int .i64 0)) fun x86 => load1 x86 h79 fun x87 _ => S88_634 x87 h79 x1 ih x0
noncomputable def S88_636 (x235 : IV) (x242 : IV) (h223 : Hp) : Option (IV × Hp) :=
  ixS 1 x235 x242 fun x243 => load1 x243 h223 fun x244 r245 => chkS [] r245 [] (outS1 [x244] h223)
noncomputable def S88_637 (x237 : IV) (h223 : Hp) (r236 : List Ref) (r232 : List Ref) (r229 : List Ref) (x235 : IV) : Option (IV × Hp) :=
  faddrS 0 x237 fun x238 => load1 x238 h223 fun x239 r240 => chkS [(r236, []), (r232, []), (r229, [])] r240 [] (addS EE 3 (.fv (.int .i64 1)) x239 fun x241 => subS EE 3 x241 (.fv (.int .i64 8)) fun x242 => S88_636 x235 x242 h223)
noncomputable def S88_638 (x231 : IV) (h223 : Hp) (x1 : IV) (r232 : List Ref) (r229 : List Ref) : Option (IV × Hp) :=
  nilS x231 fun x233 => faddrS 2 x233 fun x234 => load1 x234 h223 fun x235 r236 => chkS [] r236 [] (nilS x1 fun x237 => S88_637 x237 h223 r236 r232 r229 x235)
noncomputable def S88_639 (h223 : Hp) (x227 : IV) (x1 : IV) : Option (IV × Hp) :=
  load1 x227 h223 fun x228 r229 => chkS [] r229 [] (ixS 1 x228 (.fv (.int .i64 0)) fun x230 => load1 x230 h223 fun x231 r232 => chkS [] r232 [] (S88_638 x231 h223 x1 r232 r229))
noncomputable def S88_640 (ih : Handler) (h218 : Hp) (x0 : IV) (x1 : IV) (j0_3 : Hp → Option (IV × Hp)) : Option (IV × Hp) :=
  isoS [true] false false ih 108 [x0] h218 fun x222 h223 _ _ => condS x222 (nilS x1 fun x226 => faddrS 2 x226 fun x227 => S88_639 h223 x227 x1) (j0_3 h223)
noncomputable def S88_641 (x258 : IV) (h250 : Hp) : Option (IV × Hp) :=
  nilS x258 fun x260 => faddrS 2 x260 fun x261 => load1 x261 h250 fun x262 _ => ixS 1 x262 (.fv (.int .i64 0)) fun x264 => load1 x264 h250 fun x265 _ => outS1 [x265] h250
noncomputable def S88_642 (x1 : IV) (h250 : Hp) : Option (IV × Hp) :=
  nilS x1 fun x253 => faddrS 2 x253 fun x254 => load1 x254 h250 fun x255 _ => ixS 1 x255 (.fv (.int .i64 0)) fun x257 => load1 x257 h250 fun x258 _ => S88_641 x258 h250
noncomputable def S88_643 (h336 : Hp) (x340 : IV) : Option (IV × Hp) :=
  load1 x340 h336 fun x341 _ => ixS 1 x341 (.fv (.int .i64 1)) fun x343 => load1 x343 h336 fun x344 _ => outS1 [x344] h336
noncomputable def S88_644 (x335 : IV) (x1 : IV) (h336 : Hp) (j0_3 : Hp → Option (IV × Hp)) : Option (IV × Hp) :=
  condS x335 (nilS x1 fun x339 => faddrS 2 x339 fun x340 => S88_643 h336 x340) (j0_3 h336)
noncomputable def S88_645 (r483 : List Ref) (w484 : List Ref) (r480 : List Ref) (r476 : List Ref) (ih : Handler) (h482 : Hp) (x479 : IV) (x481 : IV) (x0 : IV) (x475 : IV) : Option (IV × Hp) :=
  chkS [(r480, []), (r476, [])] r483 w484 (isoS [] false false ih 87 [x479, x481] h482 fun x485 h486 r487 w488 => chkS [(r476, [])] r487 w488 (isoS [true, false, false] false false ih 62 [x0, x475, x485] h486 fun x489 h490 r491 w492 => chkS [] r491 w492 (outS1 [x489] h490)))
noncomputable def S88_646 (x471 : IV) (h463 : Hp) (r476 : List Ref) (x430 : IV) (x462 : IV) (ih : Handler) (x0 : IV) (x475 : IV) : Option (IV × Hp) :=
  nilS x471 fun x477 => faddrS 3 x477 fun x478 => load1 x478 h463 fun x479 r480 => chkS [(r476, [])] r480 [] (genS (pcBuildSlice EE 114 2 [(0, x430), (1, x462)]) 92297227 h463 fun x481 h482 r483 w484 => S88_645 r483 w484 r480 r476 ih h482 x479 x481 x0 x475)
noncomputable def S88_647 (h463 : Hp) (x470 : IV) (x430 : IV) (x462 : IV) (ih : Handler) (x0 : IV) : Option (IV × Hp) :=
  load1 x470 h463 fun x471 _ => nilS x471 fun x473 => faddrS 4 x473 fun x474 => loadA 3 x474 h463 fun x475 r476 => chkS [] r476 [] (S88_646 x471 h463 r476 x430 x462 ih x0 x475)
noncomputable def S88_648 (r464 : List Ref) (w465 : List Ref) (x1 : IV) (h463 : Hp) (x430 : IV) (x462 : IV) (ih : Handler) (x0 : IV) : Option (IV × Hp) :=
  chkS [] r464 w465 (nilS x1 fun x466 => faddrS 2 x466 fun x467 => load1 x467 h463 fun x468 _ => ixS 1 x468 (.fv (.int .i64 2)) fun x470 => S88_647 h463 x470 x430 x462 ih x0)
noncomputable def S88_649 (r455 : List Ref) (w456 : List Ref) (x453 : IV) (h454 : Hp) (ih : Handler) (x0 : IV) (x1 : IV) (x430 : IV) : Option (IV × Hp) :=
  chkS [] r455 w456 (bldS [.fv (.int .i64 0), .fv (.int .i64 0), .nils, .nils, .fv (.int .i64 0), .fv (.int .i64 0), .nils] [(0, 1, .fv (.int .i64 13)), (2, 1, x453)] fun x457 => boxS 92295190 x457 h454 fun x458 h459 r460 w461 => chkS [] r460 w461 (isoS [true, false] false false ih 88 [x0, x458] h459 fun x462 h463 r464 w465 => S88_648 r464 w465 x1 h463 x430 x462 ih x0))
noncomputable def S88_650 (r449 : List Ref) (r445 : List Ref) (r442 : List Ref) (r438 : List Ref) (r435 : List Ref) (x448 : IV) (h415 : Hp) (x437 : IV) (x444 : IV) (x430 : IV) (ih : Handler) (x0 : IV) (x1 : IV) : Option (IV × Hp) :=
  chkS [(r445, []), (r442, []), (r438, []), (r435, [])] r449 [] (ixS 1 x448 (.fv (.int .i64 2)) fun x450 => load1 x450 h415 fun x451 r452 => chkS [(r445, []), (r442, []), (r438, []), (r435, [])] r452 [] (genS (pcBuildSlice EE 114 4 [(0, x437), (1, x444), (2, x451), (3, x430)]) 92295188 h415 fun x453 h454 r455 w456 => S88_649 r455 w456 x453 h454 ih x0 x1 x430))
noncomputable def S88_651 (h415 : Hp) (x443 : IV) (r438 : List Ref) (r435 : List Ref) (x1 : IV) (r442 : List Ref) (x437 : IV) (x430 : IV) (ih : Handler) (x0 : IV) : Option (IV × Hp) :=
  load1 x443 h415 fun x444 r445 => chkS [(r438, []), (r435, [])] r445 [] (nilS x1 fun x446 => faddrS 2 x446 fun x447 => load1 x447 h415 fun x448 r449 => S88_650 r449 r445 r442 r438 r435 x448 h415 x437 x444 x430 ih x0 x1)
noncomputable def S88_652 (x1 : IV) (h415 : Hp) (r438 : List Ref) (r435 : List Ref) (x437 : IV) (x430 : IV) (ih : Handler) (x0 : IV) : Option (IV × Hp) :=
  nilS x1 fun x439 => faddrS 2 x439 fun x440 => load1 x440 h415 fun x441 r442 => chkS [(r438, []), (r435, [])] r442 [] (ixS 1 x441 (.fv (.int .i64 1)) fun x443 => S88_651 h415 x443 r438 r435 x1 r442 x437 x430 ih x0)
noncomputable def S88_653 (h415 : Hp) (x433 : IV) (x1 : IV) (x430 : IV) (ih : Handler) (x0 : IV) : Option (IV × Hp) :=
  load1 x433 h415 fun x434 r435 => chkS [] r435 [] (ixS 1 x434 (.fv (.int .i64 0)) fun x436 => load1 x436 h415 fun x437 r438 => chkS [] r438 [] (S88_652 x1 h415 r438 r435 x437 x430 ih x0))
noncomputable def S88_654 (h415 : Hp) (x426 : IV) (x1 : IV) (ih : Handler) (x0 : IV) : Option (IV × Hp) :=
  load1 x426 h415 fun x427 _ => ixS 1 x427 (.fv (.int .i64 0)) fun x429 => load1 x429 h415 fun x430 _ => nilS x1 fun x432 => faddrS 2 x432 fun x433 => S88_653 h415 x433 x1 x430 ih x0
noncomputable def S88_655 (h415 : Hp) (x419 : IV) (x1 : IV) (ih : Handler) (x0 : IV) : Option (IV × Hp) :=
  load1 x419 h415 fun x420 _ => ixS 1 x420 (.fv (.int .i64 3)) fun x422 => load1 x422 h415 fun x423 _ => nilS x423 fun x425 => faddrS 2 x425 fun x426 => S88_654 h415 x426 x1 ih x0
noncomputable def S88_656 (ih : Handler) (h410 : Hp) (x0 : IV) (x1 : IV) (j0_3 : Hp → Option (IV × Hp)) : Option (IV × Hp) :=
  isoS [true] false false ih 108 [x0] h410 fun x414 h415 _ _ => condS x414 (nilS x1 fun x418 => faddrS 2 x418 fun x419 => S88_655 h415 x419 x1 ih x0) (j0_3 h415)
noncomputable def S88_657 (h391 : Hp) (x350 : IV) (x390 : IV) (ih : Handler) (x0 : IV) (x1 : IV) (j0_3 : Hp → Option (IV × Hp)) : Option (IV × Hp) :=
  guardS x350 true h391 (fun k394 => faddrS 0 x390 fun x395 => k394 x395 h391 [] []) fun x396 h397 _ _ => guardS x350 true h397 (fun k400 => load1 x396 h397 fun x401 r402 => k400 x401 h397 r402 []) fun x403 h404 _ _ => guardS x350 true h404 (fun k407 => eqS EE 3 x403 (.fv (.int .i64 12)) fun x408 => k407 x408 h404 [] []) fun x409 h410 _ _ => pickS x350 x409 (.fv (.bool false)) fun x413 => condS x413 (S88_656 ih h410 x0 x1 j0_3) (j0_3 h410)
noncomputable def S88_658 (h359 : Hp) (x350 : IV) (x358 : IV) (ih : Handler) (x0 : IV) (x1 : IV) (j0_3 : Hp → Option (IV × Hp)) : Option (IV × Hp) :=
  guardS x350 true h359 (fun k362 => faddrS 2 x358 fun x363 => k362 x363 h359 [] []) fun x364 h365 _ _ => guardS x350 true h365 (fun k368 => load1 x364 h365 fun x369 r370 => k368 x369 h365 r370 []) fun x371 h372 _ _ => guardS x350 true h372 (fun k375 => ixS 1 x371 (.fv (.int .i64 3)) fun x376 => k375 x376 h372 [] []) fun x377 h378 _ _ => guardS x350 true h378 (fun k381 => load1 x377 h378 fun x382 r383 => k381 x382 h378 r383 []) fun x384 h385 _ _ => guardS x350 true h385 (fun k388 => nilS x384 fun x389 => k388 x389 h385 [] []) fun x390 h391 _ _ => S88_657 h391 x350 x390 ih x0 x1 j0_3
noncomputable def S88_659 (x346 : IV) (h331 : Hp) (x1 : IV) (ih : Handler) (x0 : IV) (j0_3 : Hp → Option (IV × Hp)) : Option (IV × Hp) :=
  faddrS 0 x346 fun x347 => load1 x347 h331 fun x348 _ => eqS EE 3 x348 (.fv (.int .i64 13)) fun x350 => guardS x350 true h331 (fun k351 => k351 x1 h331 [] []) fun x352 h353 _ _ => guardS x350 true h353 (fun k356 => nilS x352 fun x357 => k356 x357 h353 [] []) fun x358 h359 _ _ => S88_658 h359 x350 x358 ih x0 x1 j0_3
noncomputable def S88_660 (h318 : Hp) (x271 : IV) (x317 : IV) (ih : Handler) (x0 : IV) (x1 : IV) (j0_3 : Hp → Option (IV × Hp)) : Option (IV × Hp) :=
  guardS x271 true h318 (fun k321 => load1 x317 h318 fun x322 r323 => k321 x322 h318 r323 []) fun x324 h325 _ _ => guardS x271 true h325 (fun k328 => eqS EE 3 x324 (.fv (.int .i64 11)) fun x329 => k328 x329 h325 [] []) fun x330 h331 _ _ => pickS x271 x330 (.fv (.bool false)) fun x334 => condS x334 (isoS [true] false false ih 108 [x0] h331 fun x335 h336 _ _ => S88_644 x335 x1 h336 j0_3) (nilS x1 fun x346 => S88_659 x346 h331 x1 ih x0 j0_3)
noncomputable def S88_661 (h286 : Hp) (x271 : IV) (x285 : IV) (ih : Handler) (x0 : IV) (x1 : IV) (j0_3 : Hp → Option (IV × Hp)) : Option (IV × Hp) :=
  guardS x271 true h286 (fun k289 => load1 x285 h286 fun x290 r291 => k289 x290 h286 r291 []) fun x292 h293 _ _ => guardS x271 true h293 (fun k296 => ixS 1 x292 (.fv (.int .i64 3)) fun x297 => k296 x297 h293 [] []) fun x298 h299 _ _ => guardS x271 true h299 (fun k302 => load1 x298 h299 fun x303 r304 => k302 x303 h299 r304 []) fun x305 h306 _ _ => guardS x271 true h306 (fun k309 => nilS x305 fun x310 => k309 x310 h306 [] []) fun x311 h312 _ _ => guardS x271 true h312 (fun k315 => faddrS 0 x311 fun x316 => k315 x316 h312 [] []) fun x317 h318 _ _ => S88_660 h318 x271 x317 ih x0 x1 j0_3
noncomputable def S88_662 (h248 : Hp) (x268 : IV) (x1 : IV) (ih : Handler) (x0 : IV) (j0_3 : Hp → Option (IV × Hp)) : Option (IV × Hp) :=
  load1 x268 h248 fun x269 _ => eqS EE 3 x269 (.fv (.int .i64 13)) fun x271 => guardS x271 true h248 (fun k272 => k272 x1 h248 [] []) fun x273 h274 _ _ => guardS x271 true h274 (fun k277 => nilS x273 fun x278 => k277 x278 h274 [] []) fun x279 h280 _ _ => guardS x271 true h280 (fun k283 => faddrS 2 x279 fun x284 => k283 x284 h280 [] []) fun x285 h286 _ _ => S88_661 h286 x271 x285 ih x0 x1 j0_3
noncomputable def S88_663 (x247 : IV) (ih : Handler) (h248 : Hp) (x0 : IV) (x1 : IV) (j0_3 : Hp → Option (IV × Hp)) : Option (IV × Hp) :=
  condS x247 (isoS [true] false false ih 108 [x0] h248 fun x249 h250 _ _ => condS x249 (S88_642 x1 h250) (j0_3 h250)) (nilS x1 fun x267 => faddrS 0 x267 fun x268 => S88_662 h248 x268 x1 ih x0 j0_3)
noncomputable def S88_664 (h612 : Hp) (x565 : IV) (x611 : IV) (j1_246 : IV → Hp → Option (IV × Hp)) : Option (IV × Hp) :=
  guardS x565 true h612 (fun k615 => load1 x611 h612 fun x616 r617 => k615 x616 h612 r617 []) fun x618 h619 _ _ => guardS x565 true h619 (fun k622 => eqS EE 3 x618 (.fv (.int .i64 30)) fun x623 => k622 x623 h619 [] []) fun x624 h625 _ _ => pickS x565 x624 (.fv (.bool false)) fun x628 => j1_246 x628 h625
noncomputable def S88_665 (h580 : Hp) (x565 : IV) (x579 : IV) (j1_246 : IV → Hp → Option (IV × Hp)) : Option (IV × Hp) :=
  guardS x565 true h580 (fun k583 => load1 x579 h580 fun x584 r585 => k583 x584 h580 r585 []) fun x586 h587 _ _ => guardS x565 true h587 (fun k590 => ixS 1 x586 (.fv (.int .i64 0)) fun x591 => k590 x591 h587 [] []) fun x592 h593 _ _ => guardS x565 true h593 (fun k596 => load1 x592 h593 fun x597 r598 => k596 x597 h593 r598 []) fun x599 h600 _ _ => guardS x565 true h600 (fun k603 => nilS x599 fun x604 => k603 x604 h600 [] []) fun x605 h606 _ _ => guardS x565 true h606 (fun k609 => faddrS 0 x605 fun x610 => k609 x610 h606 [] []) fun x611 h612 _ _ => S88_664 h612 x565 x611 j1_246
noncomputable def S88_666 (h557 : Hp) (x562 : IV) (x1 : IV) (j1_246 : IV → Hp → Option (IV × Hp)) : Option (IV × Hp) :=
  load1 x562 h557 fun x563 _ => eqS EE 3 x563 (.fv (.int .i64 19)) fun x565 => guardS x565 true h557 (fun k566 => k566 x1 h557 [] []) fun x567 h568 _ _ => guardS x565 true h568 (fun k571 => nilS x567 fun x572 => k571 x572 h568 [] []) fun x573 h574 _ _ => guardS x565 true h574 (fun k577 => faddrS 2 x573 fun x578 => k577 x578 h574 [] []) fun x579 h580 _ _ => S88_665 h580 x565 x579 j1_246
noncomputable def S88_667 (x497 : IV) (x556 : IV) (j1_246 : IV → Hp → Option (IV × Hp)) (h557 : Hp) (x1 : IV) : Option (IV × Hp) :=
  pickS x497 x556 (.fv (.bool false)) fun x560 => condS x560 (j1_246 x560 h557) (nilS x1 fun x561 => faddrS 0 x561 fun x562 => S88_666 h557 x562 x1 j1_246)
noncomputable def S88_668 (h525 : Hp) (x497 : IV) (x524 : IV) (j1_246 : IV → Hp → Option (IV × Hp)) (x1 : IV) : Option (IV × Hp) :=
  guardS x497 true h525 (fun k528 => load1 x524 h525 fun x529 r530 => k528 x529 h525 r530 []) fun x531 h532 _ _ => guardS x497 true h532 (fun k535 => nilS x531 fun x536 => k535 x536 h532 [] []) fun x537 h538 _ _ => guardS x497 true h538 (fun k541 => faddrS 0 x537 fun x542 => k541 x542 h538 [] []) fun x543 h544 _ _ => guardS x497 true h544 (fun k547 => load1 x543 h544 fun x548 r549 => k547 x548 h544 r549 []) fun x550 h551 _ _ => guardS x497 true h551 (fun k554 => eqS EE 3 x550 (.fv (.int .i64 19)) fun x555 => k554 x555 h551 [] []) fun x556 h557 _ _ => S88_667 x497 x556 j1_246 h557 x1
noncomputable def S88_669 (h218 : Hp) (x497 : IV) (x1 : IV) (j1_246 : IV → Hp → Option (IV × Hp)) : Option (IV × Hp) :=
  guardS x497 true h218 (fun k498 => k498 x1 h218 [] []) fun x499 h500 _ _ => guardS x497 true h500 (fun k503 => nilS x499 fun x504 => k503 x504 h500 [] []) fun x505 h506 _ _ => guardS x497 true h506 (fun k509 => faddrS 2 x505 fun x510 => k509 x510 h506 [] []) fun x511 h512 _ _ => guardS x497 true h512 (fun k515 => load1 x511 h512 fun x516 r517 => k515 x516 h512 r517 []) fun x518 h519 _ _ => guardS x497 true h519 (fun k522 => ixS 1 x518 (.fv (.int .i64 0)) fun x523 => k522 x523 h519 [] []) fun x524 h525 _ _ => S88_668 h525 x497 x524 j1_246 x1
noncomputable def S88_670 (ih : Handler) (x0 : IV) (x1 : IV) (j0_3 : Hp → Option (IV × Hp)) (h218 : Hp) : Option (IV × Hp) :=
  (fun (j1_246 : IV → Hp → Option (IV × Hp)) => nilS x1 fun x493 => faddrS 0 x493 fun x494 => load1 x494 h218 fun x495 _ => eqS EE 3 x495 (.fv (.int .i64 30)) fun x497 => S88_669 h218 x497 x1 j1_246) fun x247 h248 => S88_663 x247 ih h248 x0 x1 j0_3
noncomputable def S88_671 (h199 : Hp) (x158 : IV) (x198 : IV) (ih : Handler) (x0 : IV) (x1 : IV) (j0_3 : Hp → Option (IV × Hp)) : Option (IV × Hp) :=
  guardS x158 true h199 (fun k202 => faddrS 0 x198 fun x203 => k202 x203 h199 [] []) fun x204 h205 _ _ => guardS x158 true h205 (fun k208 => load1 x204 h205 fun x209 r210 => k208 x209 h205 r210 []) fun x211 h212 _ _ => guardS x158 true h212 (fun k215 => eqS EE 3 x211 (.fv (.int .i64 7)) fun x216 => k215 x216 h212 [] []) fun x217 h218 _ _ => pickS x158 x217 (.fv (.bool false)) fun x221 => condS x221 (S88_640 ih h218 x0 x1 j0_3) (S88_670 ih x0 x1 j0_3 h218)
noncomputable def S88_672 (h167 : Hp) (x158 : IV) (x166 : IV) (ih : Handler) (x0 : IV) (x1 : IV) (j0_3 : Hp → Option (IV × Hp)) : Option (IV × Hp) :=
  guardS x158 true h167 (fun k170 => faddrS 2 x166 fun x171 => k170 x171 h167 [] []) fun x172 h173 _ _ => guardS x158 true h173 (fun k176 => load1 x172 h173 fun x177 r178 => k176 x177 h173 r178 []) fun x179 h180 _ _ => guardS x158 true h180 (fun k183 => ixS 1 x179 (.fv (.int .i64 0)) fun x184 => k183 x184 h180 [] []) fun x185 h186 _ _ => guardS x158 true h186 (fun k189 => load1 x185 h186 fun x190 r191 => k189 x190 h186 r191 []) fun x192 h193 _ _ => guardS x158 true h193 (fun k196 => nilS x192 fun x197 => k196 x197 h193 [] []) fun x198 h199 _ _ => S88_671 h199 x158 x198 ih x0 x1 j0_3
noncomputable def S88_673 (h142 : Hp) (x127 : IV) (x141 : IV) (x1 : IV) (ih : Handler) (x0 : IV) (j0_3 : Hp → Option (IV × Hp)) : Option (IV × Hp) :=
  guardS x127 false h142 (fun k145 => load1 x141 h142 fun x146 r147 => k145 x146 h142 r147 []) fun x148 h149 _ _ => guardS x127 false h149 (fun k152 => eqS EE 3 x148 (.fv (.int .i64 9)) fun x153 => k152 x153 h149 [] []) fun x154 h155 _ _ => pickS x127 (.fv (.bool true)) x154 fun x158 => guardS x158 true h155 (fun k159 => k159 x1 h155 [] []) fun x160 h161 _ _ => guardS x158 true h161 (fun k164 => nilS x160 fun x165 => k164 x165 h161 [] []) fun x166 h167 _ _ => S88_672 h167 x158 x166 ih x0 x1 j0_3
noncomputable def S88_674 (h74 : Hp) (x124 : IV) (x1 : IV) (ih : Handler) (x0 : IV) (j0_3 : Hp → Option (IV × Hp)) : Option (IV × Hp) :=
  load1 x124 h74 fun x125 _ => eqS EE 3 x125 (.fv (.int .i64 8)) fun x127 => guardS x127 false h74 (fun k128 => k128 x1 h74 [] []) fun x129 h130 _ _ => guardS x127 false h130 (fun k133 => nilS x129 fun x134 => k133 x134 h130 [] []) fun x135 h136 _ _ => guardS x127 false h136 (fun k139 => faddrS 0 x135 fun x140 => k139 x140 h136 [] []) fun x141 h142 _ _ => S88_673 h142 x127 x141 x1 ih x0 j0_3
noncomputable def S88_675 (x77 : IV) (ih : Handler) (h74 : Hp) (x0 : IV) (x1 : IV) (j0_3 : Hp → Option (IV × Hp)) : Option (IV × Hp) :=
  condS x77 (isoS [true] false false ih 108 [x0] h74 fun x78 h79 _ _ => condS x78 (S88_635 x1 h79 ih x0) (j0_3 h79)) (nilS x1 fun x123 => faddrS 0 x123 fun x124 => S88_674 h74 x124 x1 ih x0 j0_3)
noncomputable def S88_676 (h49 : Hp) (x14 : IV) (x48 : IV) (ih : Handler) (x0 : IV) (x1 : IV) (j0_3 : Hp → Option (IV × Hp)) : Option (IV × Hp) :=
  guardS x14 true h49 (fun k52 => nilS x48 fun x53 => k52 x53 h49 [] []) fun x54 h55 _ _ => guardS x14 true h55 (fun k58 => faddrS 0 x54 fun x59 => k58 x59 h55 [] []) fun x60 h61 _ _ => guardS x14 true h61 (fun k64 => load1 x60 h61 fun x65 r66 => k64 x65 h61 r66 []) fun x67 h68 _ _ => guardS x14 true h68 (fun k71 => eqS EE 3 x67 (.fv (.int .i64 4)) fun x72 => k71 x72 h68 [] []) fun x73 h74 _ _ => pickS x14 x73 (.fv (.bool false)) fun x77 => S88_675 x77 ih h74 x0 x1 j0_3
noncomputable def S88_677 (h17 : Hp) (x14 : IV) (x16 : IV) (ih : Handler) (x0 : IV) (x1 : IV) (j0_3 : Hp → Option (IV × Hp)) : Option (IV × Hp) :=
  guardS x14 true h17 (fun k20 => nilS x16 fun x21 => k20 x21 h17 [] []) fun x22 h23 _ _ => guardS x14 true h23 (fun k26 => faddrS 2 x22 fun x27 => k26 x27 h23 [] []) fun x28 h29 _ _ => guardS x14 true h29 (fun k32 => load1 x28 h29 fun x33 r34 => k32 x33 h29 r34 []) fun x35 h36 _ _ => guardS x14 true h36 (fun k39 => ixS 1 x35 (.fv (.int .i64 0)) fun x40 => k39 x40 h36 [] []) fun x41 h42 _ _ => guardS x14 true h42 (fun k45 => load1 x41 h42 fun x46 r47 => k45 x46 h42 r47 []) fun x48 h49 _ _ => S88_676 h49 x14 x48 ih x0 x1 j0_3
noncomputable def S88_678 (x1 : IV) (h2 : Hp) (ih : Handler) (x0 : IV) (j0_3 : Hp → Option (IV × Hp)) : Option (IV × Hp) :=
  nilS x1 fun x10 => faddrS 0 x10 fun x11 => load1 x11 h2 fun x12 _ => eqS EE 3 x12 (.fv (.int .i64 5)) fun x14 => guardS x14 true h2 (fun k15 => k15 x1 h2 [] []) fun x16 h17 _ _ => S88_677 h17 x14 x16 ih x0 x1 j0_3
noncomputable def S88 (ih : Handler) (n : Nat) (x0 : IV) (x1 : IV) (h2 : Hp) : Option (IV × Hp) :=
  (fun (j0_3 : Hp → Option (IV × Hp)) => nilS x0 fun x5 => faddrS 2 x5 fun x6 => load1 x6 h2 fun x7 _ => neS EE 3 x7 (.fv (.int .i64 0)) fun x9 => condS x9 (outS1 [x1] h2) (S88_678 x1 h2 ih x0 j0_3)) fun h4 => outS1 [x1] h4
theorem S88_ok (ih : Handler) (n : Nat) (x0 : IV) (x1 : IV) (h2 : Hp) : funS EE ih ft.get n 88 [x0, x1] h2 = S88 ih n x0 x1 h2 := by kernel_rfl
noncomputable def S89_47 (h7 : Hp) (x4 : IV) (x6 : IV) : Option (IV × Hp) :=
  guardS x4 true h7 (fun k10 => leS EE 3 x6 (.fv (.int .i64 3000)) fun x11 => k10 x11 h7 [] []) fun x12 h13 _ _ => pickS x4 x12 (.fv (.bool false)) fun x16 => outS1 [x16] h13
noncomputable def S89_48 (x1 : IV) (h2 : Hp) : Option (IV × Hp) :=
  geS EE 3 x1 (.fv (.int .i64 0)) fun x18 => guardS x18 true h2 (fun k19 => k19 x1 h2 [] []) fun x20 h21 _ _ => guardS x18 true h21 (fun k24 => leS EE 3 x20 (.fv (.int .i64 2)) fun x25 => k24 x25 h21 [] []) fun x26 h27 _ _ => pickS x18 x26 (.fv (.bool false)) fun x30 => outS1 [x30] h27
noncomputable def S89_49 (h35 : Hp) (x32 : IV) (x34 : IV) : Option (IV × Hp) :=
  guardS x32 true h35 (fun k38 => leS EE 3 x34 (.fv (.int .i64 4)) fun x39 => k38 x39 h35 [] []) fun x40 h41 _ _ => pickS x32 x40 (.fv (.bool false)) fun x44 => outS1 [x44] h41
noncomputable def S89_50 (x1 : IV) (h2 : Hp) : Option (IV × Hp) :=
  eqS EE 3 x1 (.fv (.int .i64 0)) fun x46 => outS1 [x46] h2
noncomputable def S89_51 (x0 : IV) (x1 : IV) (h2 : Hp) : Option (IV × Hp) :=
  eqS EE 3 x0 (.fv (.int .i64 26)) fun x31 => condS x31 (geS EE 3 x1 (.fv (.int .i64 0)) fun x32 => guardS x32 true h2 (fun k33 => k33 x1 h2 [] []) fun x34 h35 _ _ => S89_49 h35 x32 x34) (eqS EE 3 x0 (.fv (.int .i64 25)) fun x45 => condS x45 (outS1 [.fv (.bool true)] h2) (S89_50 x1 h2))
noncomputable def S89 (ih : Handler) (n : Nat) (x0 : IV) (x1 : IV) (h2 : Hp) : Option (IV × Hp) :=
  eqS EE 3 x0 (.fv (.int .i64 1)) fun x3 => condS x3 (geS EE 3 x1 (.fv (.int .i64 0)) fun x4 => guardS x4 true h2 (fun k5 => k5 x1 h2 [] []) fun x6 h7 _ _ => S89_47 h7 x4 x6) (eqS EE 3 x0 (.fv (.int .i64 2)) fun x17 => condS x17 (S89_48 x1 h2) (S89_51 x0 x1 h2))
theorem S89_ok (ih : Handler) (n : Nat) (x0 : IV) (x1 : IV) (h2 : Hp) : funS EE ih ft.get n 89 [x0, x1] h2 = S89 ih n x0 x1 h2 := by kernel_rfl
noncomputable def S90_135 (h28 : Hp) (x13 : IV) (x27 : IV) : Option (IV × Hp) :=
  storeA 3 x13 x27 h28 fun h31 _ _ => cellS true 3 x13 h31 fun x34 => outS1 [x34] h31
noncomputable def S90_136 (x40 : IV) (h14 : Hp) (x13 : IV) : Option (IV × Hp) :=
  subS EE 3 x40 (.fv (.int .i64 1)) fun x42 => bldS [.fv (.int .i64 0), .fv (.int .i64 0), .nils] [(0, 1, .fv (.int .i64 1)), (1, 1, x42)] fun x43 => storeA 3 x13 x43 h14 fun h44 _ _ => cellS true 3 x13 h44 fun x47 => outS1 [x47] h44
noncomputable def S90_137 (h50 : Hp) (x13 : IV) : Option (IV × Hp) :=
  cellS true 3 x13 h50 fun x53 => outS1 [x53] h50
noncomputable def S90_138 (x36 : IV) (x1 : IV) (x5 : IV) (h14 : Hp) (x13 : IV) : Option (IV × Hp) :=
  gtS EE 3 x36 x1 fun x38 => condS x38 (faddrS 1 x5 fun x39 => load1 x39 h14 fun x40 _ => S90_136 x40 h14 x13) (loadA 3 x5 h14 fun x48 _ => storeA 3 x13 x48 h14 fun h50 _ _ => S90_137 h50 x13)
noncomputable def S90_139 (x22 : IV) (x1 : IV) (h14 : Hp) (x9 : IV) (ih : Handler) (x2 : IV) (x13 : IV) (x5 : IV) : Option (IV × Hp) :=
  eqS EE 3 x22 x1 fun x24 => condS x24 (loadA 3 x9 h14 fun x25 _ => isoS [] false false ih 45 [x25, x2, .fv (.int .i64 0)] h14 fun x27 h28 _ _ => S90_135 h28 x13 x27) (faddrS 1 x5 fun x35 => load1 x35 h14 fun x36 _ => S90_138 x36 x1 x5 h14 x13)
noncomputable def S90_140 (x76 : IV) (h112 : Hp) (x111 : IV) (x77 : IV) (h4 : Hp) (x71 : IV) (x72 : IV) (x73 : IV) (x74 : IV) (x75 : IV) (q68 : List IV → Hp → Option (IV × Hp)) : Option (IV × Hp) :=
  faddrS 2 x76 fun x115 => store1 x115 x111 h112 fun h116 r117 w118 => chkS [] r117 w118 (addS EE 3 x77 (.fv (.int .i64 1)) fun x119 => dropS (h4.own.map (·.1)) [94384144] [x71, x72, x73, x74, x75, x76, x119] h116 fun h120 => q68 [x71, x72, x73, x74, x75, x76, x119] h120)
noncomputable def S90_141 (r105 : List Ref) (w106 : List Ref) (r92 : List Ref) (h104 : Hp) (x103 : IV) (x91 : IV) (x76 : IV) (x77 : IV) (h4 : Hp) (x71 : IV) (x72 : IV) (x73 : IV) (x74 : IV) (x75 : IV) (q68 : List IV → Hp → Option (IV × Hp)) : Option (IV × Hp) :=
  chkS [(r92, [])] r105 w106 (genS (pcBuildSlice EE 28 1 [(0, x103)]) 94384143 h104 fun x107 h108 r109 w110 => chkS [(r92, [])] r109 w110 (genS (builtinR EE 94384144 false .append [28, 28] [x91, x107]) 94384144 h108 fun x111 h112 r113 w114 => chkS [] r113 w114 (S90_140 x76 h112 x111 x77 h4 x71 x72 x73 x74 x75 q68)))
noncomputable def S90_142 (x71 : IV) (x86 : IV) (x72 : IV) (h87 : Hp) (x74 : IV) (r98 : List Ref) (r95 : List Ref) (r92 : List Ref) (ih : Handler) (x97 : IV) (x91 : IV) (x76 : IV) (x77 : IV) (h4 : Hp) (x73 : IV) (x75 : IV) (q68 : List IV → Hp → Option (IV × Hp)) : Option (IV × Hp) :=
  addS EE 3 x71 x86 fun x99 => addS EE 3 x72 x86 fun x100 => loadA 3 x74 h87 fun x101 r102 => chkS [(r98, []), (r95, []), (r92, [])] r102 [] (isoS [] false false ih 90 [x97, x99, x100, x101] h87 fun x103 h104 r105 w106 => S90_141 r105 w106 r92 h104 x103 x91 x76 x77 h4 x71 x72 x73 x74 x75 q68)
noncomputable def S90_143 (h87 : Hp) (x93 : IV) (r92 : List Ref) (x77 : IV) (x71 : IV) (x86 : IV) (x72 : IV) (x74 : IV) (ih : Handler) (x91 : IV) (x76 : IV) (h4 : Hp) (x73 : IV) (x75 : IV) (q68 : List IV → Hp → Option (IV × Hp)) : Option (IV × Hp) :=
  load1 x93 h87 fun x94 r95 => chkS [(r92, [])] r95 [] (ixS 3 x94 x77 fun x96 => loadA 3 x96 h87 fun x97 r98 => chkS [(r92, [])] r98 [] (S90_142 x71 x86 x72 h87 x74 r98 r95 r92 ih x97 x91 x76 x77 h4 x73 x75 q68))
noncomputable def S90_144 (ih : Handler) (h70 : Hp) (x84 : IV) (x77 : IV) (x76 : IV) (x73 : IV) (x71 : IV) (x72 : IV) (x74 : IV) (h4 : Hp) (x75 : IV) (q68 : List IV → Hp → Option (IV × Hp)) : Option (IV × Hp) :=
  isoS [] false false ih 54 [x84, x77] h70 fun x86 h87 _ _ => faddrS 2 x76 fun x90 => load1 x90 h87 fun x91 r92 => chkS [] r92 [] (faddrS 2 x73 fun x93 => S90_143 h87 x93 r92 x77 x71 x86 x72 x74 ih x91 x76 h4 x73 x75 q68)
noncomputable def S90_145 (h123 : Hp) (x75 : IV) : Option (IV × Hp) :=
  cellS true 3 x75 h123 fun x126 => outS1 [x126] h123
noncomputable def S90_146 (x77 : IV) (x81 : IV) (x73 : IV) (h70 : Hp) (ih : Handler) (x76 : IV) (x71 : IV) (x72 : IV) (x74 : IV) (h4 : Hp) (x75 : IV) (q68 : List IV → Hp → Option (IV × Hp)) : Option (IV × Hp) :=
  ltS EE 3 x77 x81 fun x82 => condS x82 (faddrS 0 x73 fun x83 => load1 x83 h70 fun x84 _ => S90_144 ih h70 x84 x77 x76 x73 x71 x72 x74 h4 x75 q68) (loadA 3 x76 h70 fun x121 _ => storeA 3 x75 x121 h70 fun h123 _ _ => S90_145 h123 x75)
noncomputable def S90_147 (l131 : List IV) (x73 : IV) (h70 : Hp) (ih : Handler) (x71 : IV) (x72 : IV) (x74 : IV) (h4 : Hp) (x75 : IV) (q68 : List IV → Hp → Option (IV × Hp)) : Option (IV × Hp) :=
  uncS l131 fun x76 l132 => uncS l132 fun x77 _ => faddrS 2 x73 fun x78 => load1 x78 h70 fun x79 _ => lenS x79 fun x81 => S90_146 x77 x81 x73 h70 ih x76 x71 x72 x74 h4 x75 q68
noncomputable def S90_148 (l69 : List IV) (h70 : Hp) (ih : Handler) (h4 : Hp) (q68 : List IV → Hp → Option (IV × Hp)) : Option (IV × Hp) :=
  uncS l69 fun x71 l127 => uncS l127 fun x72 l128 => uncS l128 fun x73 l129 => uncS l129 fun x74 l130 => uncS l130 fun x75 l131 => S90_147 l131 x73 h70 ih x71 x72 x74 h4 x75 q68
noncomputable def S90_149 (h4 : Hp) (h65 : Hp) (x1 : IV) (x2 : IV) (x5 : IV) (x9 : IV) (x13 : IV) (x61 : IV) (n : Nat) (ih : Handler) : Option (IV × Hp) :=
  dropS (h4.own.map (·.1)) [94384144] [x1, x2, x5, x9, x13, x61, .fv (.int .i64 0)] h65 fun h134 => loopS n (fun q68 l69 h70 => S90_148 l69 h70 ih h4 q68) [x1, x2, x5, x9, x13, x61, .fv (.int .i64 0)] h134
noncomputable def S90_150 (x5 : IV) (h14 : Hp) (x55 : IV) (h4 : Hp) (x1 : IV) (x2 : IV) (x9 : IV) (x13 : IV) (n : Nat) (ih : Handler) : Option (IV × Hp) :=
  faddrS 1 x5 fun x57 => load1 x57 h14 fun x58 _ => bldS [.fv (.int .i64 0), .fv (.int .i64 0), .nils] [(0, 1, x55), (1, 1, x58)] fun x60 => newS 94379013 (.row [.fv (.int .i64 0), .fv (.int .i64 0), .nils] false) (.ptr (.own 94379013) 0) h14 fun x61 h62 _ _ => storeA 3 x61 x60 h62 fun h65 _ _ => S90_149 h4 h65 x1 x2 x5 x9 x13 x61 n ih
noncomputable def S90_151 (x20 : IV) (x5 : IV) (h14 : Hp) (x1 : IV) (x9 : IV) (ih : Handler) (x2 : IV) (x13 : IV) (h4 : Hp) (n : Nat) : Option (IV × Hp) :=
  condS x20 (faddrS 1 x5 fun x21 => load1 x21 h14 fun x22 _ => S90_139 x22 x1 h14 x9 ih x2 x13 x5) (faddrS 0 x5 fun x54 => load1 x54 h14 fun x55 _ => S90_150 x5 h14 x55 h4 x1 x2 x9 x13 n ih)
noncomputable def S90 (ih : Handler) (n : Nat) (x0 : IV) (x1 : IV) (x2 : IV) (x3 : IV) (h4 : Hp) : Option (IV × Hp) :=
  boxS 94371840 x0 h4 fun x5 h6 _ _ => boxS 94371841 x3 h6 fun x9 h10 _ _ => newS 94371842 (.row [.fv (.int .i64 0), .fv (.int .i64 0), .nils] false) (.ptr (.own 94371842) 0) h10 fun x13 h14 _ _ => faddrS 0 x5 fun x17 => load1 x17 h14 fun x18 _ => eqS EE 3 x18 (.fv (.int .i64 1)) fun x20 => S90_151 x20 x5 h14 x1 x9 ih x2 x13 h4 n
theorem S90_ok (ih : Handler) (n : Nat) (x0 : IV) (x1 : IV) (x2 : IV) (x3 : IV) (h4 : Hp) : funS EE ih ft.get n 90 [x0, x1, x2, x3] h4 = S90 ih n x0 x1 x2 x3 h4 := by kernel_rfl
noncomputable def S91_29 (x13 : IV) (x21 : IV) (h22 : Hp) (x6 : IV) (x0 : IV) : Option (IV × Hp) :=
  pickS x13 (.fv (.bool true)) x21 fun x25 => condS x25 (outS1 [.fv (.int .i64 (-1))] h22) (ixA 31 1 x6 x0 fun x26 => load1 x26 h22 fun x27 _ => outS1 [x27] h22)
noncomputable def S91 (ih : Handler) (n : Nat) (x0 : IV) (h1 : Hp) : Option (IV × Hp) :=
  genS (pcBuild EE 132 [(0, .fv (.int .i64 (-1))), (1, .fv (.int .i64 0)), (2, .fv (.int .i64 0)), (3, .fv (.int .i64 2)), (4, .fv (.int .i64 2)), (5, .fv (.int .i64 2)), (6, .fv (.int .i64 2)), (7, .fv (.int .i64 3)), (8, .fv (.int .i64 1)), (9, .fv (.int .i64 1)), (10, .fv (.int .i64 0)), (11, .fv (.int .i64 0)), (12, .fv (.int .i64 1)), (13, .fv (.int .i64 4)), (14, .fv (.int .i64 0)), (15, .fv (.int .i64 0)), (16, .fv (.int .i64 2)), (17, .fv (.int .i64 2)), (18, .fv (.int .i64 1)), (19, .fv (.int .i64 1)), (20, .fv (.int .i64 2)), (21, .fv (.int .i64 2)), (22, .fv (.int .i64 2)), (23, .fv (.int .i64 1)), (24, .fv (.int .i64 1)), (25, .fv (.int .i64 0)), (26, .fv (.int .i64 2)), (27, .fv (.int .i64 3)), (28, .fv (.int .i64 2)), (29, .fv (.int .i64 2)), (30, .fv (.int .i64 1))]) 95421440 h1 fun x2 h3 _ _ => newS 95421441 (.row [.fv (.int .i64 0), .fv (.int .i64 0), .fv (.int .i64 0), .fv (.int .i64 0), .fv (.int .i64 0), .fv (.int .i64 0), .fv (.int .i64 0), .fv (.int .i64 0), .fv (.int .i64 0), .fv (.int .i64 0), .fv (.int .i64 0), .fv (.int .i64 0), .fv (.int .i64 0), .fv (.int .i64 0), .fv (.int .i64 0), .fv (.int .i64 0), .fv (.int .i64 0), .fv (.int .i64 0), .fv (.int .i64 0), .fv (.int .i64 0), .fv (.int .i64 0), .fv (.int .i64 0), .fv (.int .i64 0), .fv (.int .i64 0), .fv (.int .i64 0), .fv (.int .i64 0), .fv (.int .i64 0), .fv (.int .i64 0), .fv (.int .i64 0), .fv (.int .i64 0), .fv (.int .i64 0)] false) (.ptr (.own 95421441) 0) h3 fun x6 h7 _ _ => storeA 31 x6 x2 h7 fun h10 _ _ => ltS EE 120 x0 (.fv (.int .i64 0)) fun x13 => guardS x13 false h10 (fun k14 => k14 x0 h10 [] []) fun x15 h16 _ _ => guardS x13 false h16 (fun k19 => geS EE 3 x15 (.fv (.int .i64 31)) fun x20 => k19 x20 h16 [] []) fun x21 h22 _ _ => S91_29 x13 x21 h22 x6 x0
theorem S91_ok (ih : Handler) (n : Nat) (x0 : IV) (h1 : Hp) : funS EE ih ft.get n 91 [x0] h1 = S91 ih n x0 h1 := by kernel_rfl
noncomputable def S92_47 (h7 : Hp) (x4 : IV) (x6 : IV) : Option (IV × Hp) :=
  guardS x4 true h7 (fun k10 => leS EE 3 x6 (.fv (.int .i64 3000)) fun x11 => k10 x11 h7 [] []) fun x12 h13 _ _ => pickS x4 x12 (.fv (.bool false)) fun x16 => outS1 [x16] h13
noncomputable def S92_48 (x1 : IV) (h2 : Hp) : Option (IV × Hp) :=
  geS EE 3 x1 (.fv (.int .i64 0)) fun x18 => guardS x18 true h2 (fun k19 => k19 x1 h2 [] []) fun x20 h21 _ _ => guardS x18 true h21 (fun k24 => leS EE 3 x20 (.fv (.int .i64 2)) fun x25 => k24 x25 h21 [] []) fun x26 h27 _ _ => pickS x18 x26 (.fv (.bool false)) fun x30 => outS1 [x30] h27
noncomputable def S92_49 (h35 : Hp) (x32 : IV) (x34 : IV) : Option (IV × Hp) :=
  guardS x32 true h35 (fun k38 => leS EE 3 x34 (.fv (.int .i64 4)) fun x39 => k38 x39 h35 [] []) fun x40 h41 _ _ => pickS x32 x40 (.fv (.bool false)) fun x44 => outS1 [x44] h41
noncomputable def S92_50 (x1 : IV) (h2 : Hp) : Option (IV × Hp) :=
  eqS EE 3 x1 (.fv (.int .i64 0)) fun x46 => outS1 [x46] h2
noncomputable def S92_51 (x0 : IV) (x1 : IV) (h2 : Hp) : Option (IV × Hp) :=
  eqS EE 3 x0 (.fv (.int .i64 26)) fun x31 => condS x31 (geS EE 3 x1 (.fv (.int .i64 0)) fun x32 => guardS x32 true h2 (fun k33 => k33 x1 h2 [] []) fun x34 h35 _ _ => S92_49 h35 x32 x34) (eqS EE 3 x0 (.fv (.int .i64 25)) fun x45 => condS x45 (outS1 [.fv (.bool true)] h2) (S92_50 x1 h2))
noncomputable def S92 (ih : Handler) (n : Nat) (x0 : IV) (x1 : IV) (h2 : Hp) : Option (IV × Hp) :=
  eqS EE 3 x0 (.fv (.int .i64 1)) fun x3 => condS x3 (geS EE 3 x1 (.fv (.int .i64 0)) fun x4 => guardS x4 true h2 (fun k5 => k5 x1 h2 [] []) fun x6 h7 _ _ => S92_47 h7 x4 x6) (eqS EE 3 x0 (.fv (.int .i64 2)) fun x17 => condS x17 (S92_48 x1 h2) (S92_51 x0 x1 h2))
theorem S92_ok (ih : Handler) (n : Nat) (x0 : IV) (x1 : IV) (h2 : Hp) : funS EE ih ft.get n 92 [x0, x1] h2 = S92 ih n x0 x1 h2 := by kernel_rfl
noncomputable def S93_17 (x0 : IV) (h7 : Hp) : Option (IV × Hp) :=
  eqS EE 3 x0 (.fv (.int .i64 13)) fun x9 => condS x9 (outS1 [.fv (.int .i64 4)] h7) (outS1 [.fv (.int .i64 (-1))] h7)
noncomputable def S93_18 (x6 : IV) (h7 : Hp) (x0 : IV) : Option (IV × Hp) :=
  condS x6 (outS1 [.fv (.int .i64 2)] h7) (eqS EE 3 x0 (.fv (.int .i64 7)) fun x8 => condS x8 (outS1 [.fv (.int .i64 3)] h7) (S93_17 x0 h7))
noncomputable def S93_19 (x10 : IV) (j1_5 : IV → Hp → Option (IV × Hp)) (h4 : Hp) (x0 : IV) : Option (IV × Hp) :=
  condS x10 (j1_5 x10 h4) (eqS EE 3 x0 (.fv (.int .i64 5)) fun x11 => j1_5 x11 h4)
noncomputable def S93_20 (x3 : IV) (h4 : Hp) (x0 : IV) : Option (IV × Hp) :=
  condS x3 (outS1 [.fv (.int .i64 1)] h4) ((fun (j1_5 : IV → Hp → Option (IV × Hp)) => eqS EE 3 x0 (.fv (.int .i64 4)) fun x10 => S93_19 x10 j1_5 h4 x0) fun x6 h7 => S93_18 x6 h7 x0)
noncomputable def S93_21 (x0 : IV) (j1_2 : IV → Hp → Option (IV × Hp)) (h1 : Hp) : Option (IV × Hp) :=
  eqS EE 3 x0 (.fv (.int .i64 30)) fun x16 => j1_2 x16 h1
noncomputable def S93_22 (x0 : IV) (j1_2 : IV → Hp → Option (IV × Hp)) (h1 : Hp) : Option (IV × Hp) :=
  eqS EE 3 x0 (.fv (.int .i64 12)) fun x14 => condS x14 (j1_2 x14 h1) (eqS EE 3 x0 (.fv (.int .i64 19)) fun x15 => condS x15 (j1_2 x15 h1) (S93_21 x0 j1_2 h1))
noncomputable def S93 (ih : Handler) (n : Nat) (x0 : IV) (h1 : Hp) : Option (IV × Hp) :=
  (fun (j1_2 : IV → Hp → Option (IV × Hp)) => eqS EE 3 x0 (.fv (.int .i64 8)) fun x12 => condS x12 (j1_2 x12 h1) (eqS EE 3 x0 (.fv (.int .i64 9)) fun x13 => condS x13 (j1_2 x13 h1) (S93_22 x0 j1_2 h1))) fun x3 h4 => S93_20 x3 h4 x0
theorem S93_ok (ih : Handler) (n : Nat) (x0 : IV) (h1 : Hp) : funS EE ih ft.get n 93 [x0] h1 = S93 ih n x0 h1 := by kernel_rfl
noncomputable def S94_30 (ih : Handler) (h23 : Hp) (x0 : IV) (x8 : IV) (x22 : IV) : Option (IV × Hp) :=
  isoS [true, false, false, false] false false ih 103 [x0, x8, .fv (.int .i64 1), x22] h23 fun x26 h27 _ _ => outS1 [x26] h27
noncomputable def S94_31 (x15 : IV) (h2 : Hp) (ih : Handler) (x0 : IV) (x8 : IV) : Option (IV × Hp) :=
  faddrS 2 x15 fun x16 => load1 x16 h2 fun x17 _ => ixS 1 x17 (.fv (.int .i64 1)) fun x19 => load1 x19 h2 fun x20 _ => genS (pcBuildSlice EE 127 1 [(0, x20)]) 98569224 h2 fun x22 h23 _ _ => S94_30 ih h23 x0 x8 x22
noncomputable def S94_32 (x10 : IV) (h2 : Hp) (x1 : IV) (ih : Handler) (x0 : IV) (x8 : IV) : Option (IV × Hp) :=
  faddrS 0 x10 fun x11 => load1 x11 h2 fun x12 _ => eqS EE 3 x12 (.fv (.int .i64 4)) fun x14 => condS x14 (nilS x1 fun x15 => S94_31 x15 h2 ih x0 x8) (outS1 [.fv .nilp] h2)
noncomputable def S94 (ih : Handler) (n : Nat) (x0 : IV) (x1 : IV) (h2 : Hp) : Option (IV × Hp) :=
  nilS x1 fun x3 => faddrS 2 x3 fun x4 => load1 x4 h2 fun x5 _ => ixS 1 x5 (.fv (.int .i64 0)) fun x7 => load1 x7 h2 fun x8 _ => nilS x8 fun x10 => S94_32 x10 h2 x1 ih x0 x8
theorem S94_ok (ih : Handler) (n : Nat) (x0 : IV) (x1 : IV) (h2 : Hp) : funS EE ih ft.get n 94 [x0, x1] h2 = S94 ih n x0 x1 h2 := by kernel_rfl
noncomputable def S95_34 (x20 : IV) (h2 : Hp) : Option (IV × Hp) :=
  faddrS 2 x20 fun x21 => load1 x21 h2 fun x22 _ => ixS 1 x22 (.fv (.int .i64 1)) fun x24 => load1 x24 h2 fun x25 _ => outS1 [x25] h2
noncomputable def S95_35 (x27 : IV) (h2 : Hp) : Option (IV × Hp) :=
  faddrS 2 x27 fun x28 => load1 x28 h2 fun x29 _ => ixS 1 x29 (.fv (.int .i64 2)) fun x31 => load1 x31 h2 fun x32 _ => outS1 [x32] h2
noncomputable def S95_36 (x15 : IV) (h2 : Hp) (x8 : IV) : Option (IV × Hp) :=
  faddrS 0 x15 fun x16 => load1 x16 h2 fun x17 _ => eqS EE 3 x17 (.fv (.int .i64 8)) fun x19 => condS x19 (nilS x8 fun x20 => S95_34 x20 h2) (nilS x8 fun x27 => S95_35 x27 h2)
noncomputable def S95_37 (x10 : IV) (h2 : Hp) (x1 : IV) (x8 : IV) : Option (IV × Hp) :=
  faddrS 0 x10 fun x11 => load1 x11 h2 fun x12 _ => neS EE 3 x12 (.fv (.int .i64 7)) fun x14 => condS x14 (outS1 [.fv .nilp] h2) (nilS x1 fun x15 => S95_36 x15 h2 x8)
noncomputable def S95 (ih : Handler) (n : Nat) (x0 : IV) (x1 : IV) (h2 : Hp) : Option (IV × Hp) :=
  nilS x1 fun x3 => faddrS 2 x3 fun x4 => load1 x4 h2 fun x5 _ => ixS 1 x5 (.fv (.int .i64 0)) fun x7 => load1 x7 h2 fun x8 _ => nilS x8 fun x10 => S95_37 x10 h2 x1 x8
theorem S95_ok (ih : Handler) (n : Nat) (x0 : IV) (x1 : IV) (h2 : Hp) : funS EE ih ft.get n 95 [x0, x1] h2 = S95 ih n x0 x1 h2 := by kernel_rfl
noncomputable def S96_74 (x15 : IV) (h2 : Hp) : Option (IV × Hp) :=
  faddrS 2 x15 fun x16 => load1 x16 h2 fun x17 _ => ixS 1 x17 (.fv (.int .i64 1)) fun x19 => load1 x19 h2 fun x20 _ => outS1 [x20] h2
noncomputable def S96_75 (h63 : Hp) (x60 : IV) (x62 : IV) (ih : Handler) (x0 : IV) (x1 : IV) : Option (IV × Hp) :=
  genS (pcBuildSlice EE 127 2 [(0, x60), (1, x62)]) 100671498 h63 fun x66 h67 r68 w69 => chkS [] r68 w69 (isoS [true, false, false, false] false false ih 103 [x0, x1, .fv (.int .i64 2), x66] h67 fun x70 h71 r72 w73 => chkS [] r72 w73 (outS1 [x70] h71))
noncomputable def S96_76 (x57 : IV) (h52 : Hp) (ih : Handler) (x0 : IV) (x26 : IV) (r58 : List Ref) (x1 : IV) : Option (IV × Hp) :=
  ixS 1 x57 (.fv (.int .i64 0)) fun x59 => load1 x59 h52 fun x60 r61 => chkS [] r61 [] (isoS [true, false] false false ih 102 [x0, x26] h52 fun x62 h63 r64 w65 => chkS [(r61, []), (r58, [])] r64 w65 (S96_75 h63 x60 x62 ih x0 x1))
noncomputable def S96_77 (r53 : List Ref) (w54 : List Ref) (x8 : IV) (h52 : Hp) (ih : Handler) (x0 : IV) (x26 : IV) (x1 : IV) : Option (IV × Hp) :=
  chkS [] r53 w54 (nilS x8 fun x55 => faddrS 2 x55 fun x56 => load1 x56 h52 fun x57 r58 => chkS [] r58 [] (S96_76 x57 h52 ih x0 x26 r58 x1))
noncomputable def S96_78 (r46 : List Ref) (r39 : List Ref) (r36 : List Ref) (h30 : Hp) (x38 : IV) (x45 : IV) (x26 : IV) (x8 : IV) (ih : Handler) (x0 : IV) (x1 : IV) : Option (IV × Hp) :=
  chkS [(r39, []), (r36, [])] r46 [] (genS (pcBuildSlice EE 127 4 [(0, .fv .nilp), (1, x38), (2, .fv .nilp), (3, x45)]) 100670476 h30 fun x47 h48 r49 w50 => chkS [] r49 w50 (faddrS 2 x26 fun x51 => store1 x51 x47 h48 fun h52 r53 w54 => S96_77 r53 w54 x8 h52 ih x0 x26 x1))
noncomputable def S96_79 (x40 : IV) (h30 : Hp) (r39 : List Ref) (r36 : List Ref) (x38 : IV) (x26 : IV) (x8 : IV) (ih : Handler) (x0 : IV) (x1 : IV) : Option (IV × Hp) :=
  faddrS 2 x40 fun x41 => load1 x41 h30 fun x42 r43 => chkS [(r39, []), (r36, [])] r43 [] (ixS 1 x42 (.fv (.int .i64 0)) fun x44 => load1 x44 h30 fun x45 r46 => S96_78 r46 r39 r36 h30 x38 x45 x26 x8 ih x0 x1)
noncomputable def S96_80 (r36 : List Ref) (x35 : IV) (h30 : Hp) (x8 : IV) (x26 : IV) (ih : Handler) (x0 : IV) (x1 : IV) : Option (IV × Hp) :=
  chkS [] r36 [] (ixS 1 x35 (.fv (.int .i64 1)) fun x37 => load1 x37 h30 fun x38 r39 => chkS [] r39 [] (nilS x8 fun x40 => S96_79 x40 h30 r39 r36 x38 x26 x8 ih x0 x1))
noncomputable def S96_81 (h2 : Hp) (x24 : IV) (x1 : IV) (x8 : IV) (ih : Handler) (x0 : IV) : Option (IV × Hp) :=
  newS 100669443 (.row [.fv (.int .i64 0), .fv (.int .i64 0), .nils, .fv (.int .i64 0), .fv (.int .i64 0), .nils, .fv (.nilp)] false) (.ptr (.own 100669443) 0) h2 fun x26 h27 _ _ => storeA 7 x26 x24 h27 fun h30 _ _ => nilS x1 fun x33 => faddrS 2 x33 fun x34 => load1 x34 h30 fun x35 r36 => S96_80 r36 x35 h30 x8 x26 ih x0 x1
noncomputable def S96_82 (x22 : IV) (x1 : IV) (h2 : Hp) (x8 : IV) (ih : Handler) (x0 : IV) : Option (IV × Hp) :=
  condS x22 (nilS x1 fun x23 => loadA 7 x23 h2 fun x24 _ => S96_81 h2 x24 x1 x8 ih x0) (outS1 [.fv .nilp] h2)
noncomputable def S96_83 (x10 : IV) (h2 : Hp) (x1 : IV) (x8 : IV) (ih : Handler) (x0 : IV) : Option (IV × Hp) :=
  faddrS 0 x10 fun x11 => load1 x11 h2 fun x12 _ => eqS EE 3 x12 (.fv (.int .i64 11)) fun x14 => condS x14 (nilS x1 fun x15 => S96_74 x15 h2) (eqS EE 3 x12 (.fv (.int .i64 12)) fun x22 => S96_82 x22 x1 h2 x8 ih x0)
noncomputable def S96 (ih : Handler) (n : Nat) (x0 : IV) (x1 : IV) (h2 : Hp) : Option (IV × Hp) :=
  nilS x1 fun x3 => faddrS 2 x3 fun x4 => load1 x4 h2 fun x5 _ => ixS 1 x5 (.fv (.int .i64 3)) fun x7 => load1 x7 h2 fun x8 _ => nilS x8 fun x10 => S96_83 x10 h2 x1 x8 ih x0
theorem S96_ok (ih : Handler) (n : Nat) (x0 : IV) (x1 : IV) (h2 : Hp) : funS EE ih ft.get n 96 [x0, x1] h2 = S96 ih n x0 x1 h2 := by kernel_rfl
noncomputable def S97 (ih : Handler) (n : Nat) (x0 : IV) (x1 : IV) (h2 : Hp) : Option (IV × Hp) :=
  isoS [] false false ih 109 [x1, .fv (.int .i64 19)] h2 fun x3 h4 _ _ => outS1 [x3] h4
theorem S97_ok (ih : Handler) (n : Nat) (x0 : IV) (x1 : IV) (h2 : Hp) : funS EE ih ft.get n 97 [x0, x1] h2 = S97 ih n x0 x1 h2 := by kernel_rfl
noncomputable def S98 (ih : Handler) (n : Nat) (x0 : IV) (x1 : IV) (h2 : Hp) : Option (IV × Hp) :=
  isoS [] false false ih 109 [x1, .fv (.int .i64 30)] h2 fun x3 h4 _ _ => outS1 [x3] h4
theorem S98_ok (ih : Handler) (n : Nat) (x0 : IV) (x1 : IV) (h2 : Hp) : funS EE ih ft.get n 98 [x0, x1] h2 = S98 ih n x0 x1 h2 := by kernel_rfl
noncomputable def S99_53 (h44 : Hp) (x49 : IV) : Option (IV × Hp) :=
  store1 x49 (.fv (.int .i64 17)) h44 fun h50 _ _ => outS1 [] h50
noncomputable def S99_54 (x16 : IV) (x43 : IV) (x0 : IV) (h44 : Hp) : Option (IV × Hp) :=
  pickS x16 x43 (.fv (.bool false)) fun x47 => condS x47 (nilS x0 fun x48 => faddrS 3 x48 fun x49 => S99_53 h44 x49) (outS1 [] h44)
noncomputable def S99_55 (h9 : Hp) (x16 : IV) (x0 : IV) : Option (IV × Hp) :=
  guardS x16 true h9 (fun k17 => k17 x0 h9 [] []) fun x18 h19 _ _ => guardS x16 true h19 (fun k22 => nilS x18 fun x23 => k22 x23 h19 [] []) fun x24 h25 _ _ => guardS x16 true h25 (fun k28 => faddrS 3 x24 fun x29 => k28 x29 h25 [] []) fun x30 h31 _ _ => guardS x16 true h31 (fun k34 => load1 x30 h31 fun x35 r36 => k34 x35 h31 r36 []) fun x37 h38 _ _ => guardS x16 true h38 (fun k41 => eqS EE 36 x37 (.fv (.int .i64 0)) fun x42 => k41 x42 h38 [] []) fun x43 h44 _ _ => S99_54 x16 x43 x0 h44
noncomputable def S99_56 (h1 : Hp) (x8 : IV) (x6 : IV) (x0 : IV) : Option (IV × Hp) :=
  store1 x8 x6 h1 fun h9 _ _ => nilS x0 fun x12 => faddrS 1 x12 fun x13 => load1 x13 h9 fun x14 _ => ltS EE 3 x14 (.fv (.int .i64 0)) fun x16 => S99_55 h9 x16 x0
noncomputable def S99 (ih : Handler) (n : Nat) (x0 : IV) (h1 : Hp) : Option (IV × Hp) :=
  nilS x0 fun x2 => faddrS 1 x2 fun x3 => load1 x3 h1 fun x4 _ => subS EE 3 x4 (.fv (.int .i64 1)) fun x6 => nilS x0 fun x7 => faddrS 1 x7 fun x8 => S99_56 h1 x8 x6 x0
theorem S99_ok (ih : Handler) (n : Nat) (x0 : IV) (h1 : Hp) : funS EE ih ft.get n 99 [x0] h1 = S99 ih n x0 h1 := by kernel_rfl
noncomputable def S100_27 (h5 : Hp) (x11 : IV) : Option (IV × Hp) :=
  load1 x11 h5 fun x12 _ => outS1 [x12] h5
noncomputable def S100_28 (x15 : IV) (h5 : Hp) (q3 : List IV → Hp → Option (IV × Hp)) (x14 : IV) : Option (IV × Hp) :=
  faddrS 1 x15 fun x16 => load1 x16 h5 fun x17 _ => q3 [x17, x14] h5
noncomputable def S100_29 (x9 : IV) (x6 : IV) (h5 : Hp) (x7 : IV) (q3 : List IV → Hp → Option (IV × Hp)) : Option (IV × Hp) :=
  condS x9 (nilS x6 fun x10 => faddrS 0 x10 fun x11 => S100_27 h5 x11) (subS EE 3 x7 (.fv (.int .i64 1)) fun x14 => nilS x6 fun x15 => S100_28 x15 h5 q3 x14)
noncomputable def S100_30 (x19 : IV) (h5 : Hp) : Option (IV × Hp) :=
  bldS [.fv (.int .i64 0), .fv (.int .i64 0), .nils, .fv (.int .i64 0), .fv (.int .i64 0), .nils, .fv (.nilp)] [(0, 1, .fv (.int .i64 1)), (1, 1, x19)] fun x20 => boxS 104863747 x20 h5 fun x21 h22 _ _ => outS1 [x21] h22
noncomputable def S100_31 (l4 : List IV) (h5 : Hp) (q3 : List IV → Hp → Option (IV × Hp)) : Option (IV × Hp) :=
  uncS l4 fun x6 l25 => uncS l25 fun x7 _ => neS EE 125 x6 (.fv .nilp) fun x8 => condS x8 (eqS EE 3 x7 (.fv (.int .i64 0)) fun x9 => S100_29 x9 x6 h5 x7 q3) (subS EE 3 (.fv (.int .i64 (-1))) x7 fun x19 => S100_30 x19 h5)
noncomputable def S100 (ih : Handler) (n : Nat) (x0 : IV) (x1 : IV) (h2 : Hp) : Option (IV × Hp) :=
  loopS n (fun q3 l4 h5 => S100_31 l4 h5 q3) [x0, x1] h2
theorem S100_ok (ih : Handler) (n : Nat) (x0 : IV) (x1 : IV) (h2 : Hp) : funS EE ih ft.get n 100 [x0, x1] h2 = S100 ih n x0 x1 h2 := by kernel_rfl
noncomputable def S101 (ih : Handler) (n : Nat) (x0 : IV) (x1 : IV) (h2 : Hp) : Option (IV × Hp) :=
  dynS EE ih (.fv (.func (.func 110) [] [])) [x0, x1] h2 fun x3 h4 _ _ => outS1 [x3] h4
theorem S101_ok (ih : Handler) (n : Nat) (x0 : IV) (x1 : IV) (h2 : Hp) : funS EE ih ft.get n 101 [x0, x1] h2 = S101 ih n x0 x1 h2 := by kernel_rfl
noncomputable def S102_126 (h113 : Hp) (x122 : IV) (j0_104 : Hp → Option (IV × Hp)) : Option (IV × Hp) :=
  store1 x122 (.fv (.int .i64 17)) h113 fun h123 _ _ => j0_104 h123
noncomputable def S102_127 (x120 : IV) (x0 : IV) (h113 : Hp) (j0_104 : Hp → Option (IV × Hp)) : Option (IV × Hp) :=
  condS x120 (nilS x0 fun x121 => faddrS 3 x121 fun x122 => S102_126 h113 x122 j0_104) (j0_104 h113)
noncomputable def S102_128 (h100 : Hp) (x112 : IV) (x110 : IV) (x0 : IV) (j0_104 : Hp → Option (IV × Hp)) : Option (IV × Hp) :=
  store1 x112 x110 h100 fun h113 _ _ => nilS x0 fun x116 => faddrS 0 x116 fun x117 => load1 x117 h113 fun x118 _ => ltS EE 3 x118 (.fv (.int .i64 0)) fun x120 => S102_127 x120 x0 h113 j0_104
noncomputable def S102_129 (x106 : IV) (h100 : Hp) (x0 : IV) (j0_104 : Hp → Option (IV × Hp)) : Option (IV × Hp) :=
  faddrS 0 x106 fun x107 => load1 x107 h100 fun x108 _ => subS EE 3 x108 (.fv (.int .i64 1)) fun x110 => nilS x0 fun x111 => faddrS 0 x111 fun x112 => S102_128 h100 x112 x110 x0 j0_104
noncomputable def S102_130 (x103 : IV) (h100 : Hp) (x1 : IV) (x68 : IV) (x0 : IV) : Option (IV × Hp) :=
  condS x103 (outS1 [x1] h100) ((fun (j0_104 : Hp → Option (IV × Hp)) => nilS x0 fun x106 => S102_129 x106 h100 x0 j0_104) fun h105 => outS1 [x68] h105)
noncomputable def S102_131 (h75 : Hp) (x72 : IV) (x74 : IV) (x1 : IV) (x68 : IV) (x0 : IV) : Option (IV × Hp) :=
  guardS x72 false h75 (fun k78 => nilS x74 fun x79 => k78 x79 h75 [] []) fun x80 h81 _ _ => guardS x72 false h81 (fun k84 => faddrS 3 x80 fun x85 => k84 x85 h81 [] []) fun x86 h87 _ _ => guardS x72 false h87 (fun k90 => load1 x86 h87 fun x91 r92 => k90 x91 h87 r92 []) fun x93 h94 _ _ => guardS x72 false h94 (fun k97 => neS EE 36 x93 (.fv (.int .i64 0)) fun x98 => k97 x98 h94 [] []) fun x99 h100 _ _ => pickS x72 (.fv (.bool true)) x99 fun x103 => S102_130 x103 h100 x1 x68 x0
noncomputable def S102_132 (x17 : IV) (h57 : Hp) (ih : Handler) (x1 : IV) (x0 : IV) : Option (IV × Hp) :=
  faddrS 0 x17 fun x65 => load1 x65 h57 fun x66 _ => dynS EE ih x66 [x1] h57 fun x68 h69 _ _ => eqS EE 96 x68 (.fv .nilp) fun x72 => guardS x72 false h69 (fun k73 => k73 x0 h69 [] []) fun x74 h75 _ _ => S102_131 h75 x72 x74 x1 x68 x0
noncomputable def S102_133 (x0 : IV) (h57 : Hp) (x1 : IV) (x17 : IV) (ih : Handler) : Option (IV × Hp) :=
  nilS x0 fun x60 => faddrS 3 x60 fun x61 => load1 x61 h57 fun x62 _ => neS EE 36 x62 (.fv (.int .i64 0)) fun x64 => condS x64 (outS1 [x1] h57) (S102_132 x17 h57 ih x1 x0)
noncomputable def S102_134 (h46 : Hp) (x24 : IV) (x45 : IV) (x1 : IV) (ih : Handler) (x0 : IV) (x17 : IV) : Option (IV × Hp) :=
  guardS x24 false h46 (fun k49 => neS EE 36 x45 (.fv (.int .i64 0)) fun x50 => k49 x50 h46 [] []) fun x51 h52 _ _ => pickS x24 (.fv (.bool true)) x51 fun x55 => condS x55 (outS1 [x1] h52) (isoS [true] false false ih 99 [x0] h52 fun _ h57 _ _ => S102_133 x0 h57 x1 x17 ih)
noncomputable def S102_135 (x16 : IV) (h21 : Hp) (x0 : IV) (x1 : IV) (ih : Handler) (x17 : IV) : Option (IV × Hp) :=
  optS (unR .not x16) fun x24 => guardS x24 false h21 (fun k25 => k25 x0 h21 [] []) fun x26 h27 _ _ => guardS x24 false h27 (fun k30 => nilS x26 fun x31 => k30 x31 h27 [] []) fun x32 h33 _ _ => guardS x24 false h33 (fun k36 => faddrS 3 x32 fun x37 => k36 x37 h33 [] []) fun x38 h39 _ _ => guardS x24 false h39 (fun k42 => load1 x38 h39 fun x43 r44 => k42 x43 h39 r44 []) fun x45 h46 _ _ => S102_134 h46 x24 x45 x1 ih x0 x17
noncomputable def S102_136 (x11 : IV) (h12 : Hp) (r13 : List Ref) (w14 : List Ref) (r10 : List Ref) (r6 : List Ref) (x15 : IV) (x0 : IV) (x1 : IV) (ih : Handler) : Option (IV × Hp) :=
  extS 1 x11 fun x16 => newS 106955788 (.row [.fv (.nilf)] false) (.ptr (.own 106955788) 0) h12 fun x17 h18 r19 w20 => chkS [(r13, w14), (r10, []), (r6, [])] r19 w20 (store1 x17 x15 h18 fun h21 r22 w23 => chkS [] r22 w23 (S102_135 x16 h21 x0 x1 ih x17))
noncomputable def S102_137 (h2 : Hp) (x8 : IV) (r6 : List Ref) (x5 : IV) (x0 : IV) (x1 : IV) (ih : Handler) : Option (IV × Hp) :=
  load1 x8 h2 fun x9 r10 => chkS [(r6, [])] r10 [] (genS (pcLookup EE 98 x5 x9 true) 106955784 h2 fun x11 h12 r13 w14 => chkS [] r13 w14 (extS 0 x11 fun x15 => S102_136 x11 h12 r13 w14 r10 r6 x15 x0 x1 ih))
noncomputable def S102 (ih : Handler) (n : Nat) (x0 : IV) (x1 : IV) (h2 : Hp) : Option (IV × Hp) :=
  nilS x0 fun x3 => faddrS 4 x3 fun x4 => load1 x4 h2 fun x5 r6 => chkS [] r6 [] (nilS x1 fun x7 => faddrS 0 x7 fun x8 => S102_137 h2 x8 r6 x5 x0 x1 ih)
theorem S102_ok (ih : Handler) (n : Nat) (x0 : IV) (x1 : IV) (h2 : Hp) : funS EE ih ft.get n 102 [x0, x1] h2 = S102 ih n x0 x1 h2 := by kernel_rfl
noncomputable def S103_25 (x16 : IV) (x2 : IV) (h10 : Hp) (r11 : List Ref) (w12 : List Ref) (r8 : List Ref) (ih : Handler) (x0 : IV) (x9 : IV) : Option (IV × Hp) :=
  ixS 3 x16 x2 fun x18 => loadA 3 x18 h10 fun x19 r20 => chkS [(r11, w12), (r8, [])] r20 [] (isoS [true, false, false] false false ih 71 [x0, x9, x19] h10 fun x21 h22 r23 w24 => chkS [] r23 w24 (outS1 [x21] h22))
noncomputable def S103_26 (x1 : IV) (h10 : Hp) (r11 : List Ref) (w12 : List Ref) (r8 : List Ref) (x2 : IV) (ih : Handler) (x0 : IV) (x9 : IV) : Option (IV × Hp) :=
  nilS x1 fun x13 => faddrS 3 x13 fun x14 => faddrS 2 x14 fun x15 => load1 x15 h10 fun x16 r17 => chkS [(r11, w12), (r8, [])] r17 [] (S103_25 x16 x2 h10 r11 w12 r8 ih x0 x9)
noncomputable def S103 (ih : Handler) (n : Nat) (x0 : IV) (x1 : IV) (x2 : IV) (x3 : IV) (h4 : Hp) : Option (IV × Hp) :=
  nilS x1 fun x5 => faddrS 6 x5 fun x6 => load1 x6 h4 fun x7 r8 => chkS [] r8 [] (isoS [] false false ih 111 [x7, x3] h4 fun x9 h10 r11 w12 => chkS [] r11 w12 (S103_26 x1 h10 r11 w12 r8 x2 ih x0 x9))
theorem S103_ok (ih : Handler) (n : Nat) (x0 : IV) (x1 : IV) (x2 : IV) (x3 : IV) (h4 : Hp) : funS EE ih ft.get n 103 [x0, x1, x2, x3] h4 = S103 ih n x0 x1 x2 x3 h4 := by kernel_rfl
noncomputable def S104_24 (ih : Handler) (h6 : Hp) (x8 : IV) (x13 : IV) (x10 : IV) (q4 : List IV → Hp → Option (IV × Hp)) (x7 : IV) (x9 : IV) : Option (IV × Hp) :=
  dynS EE ih x8 [x13] h6 fun x15 h16 _ _ => condS x15 (outS1 [x10] h16) (addS EE 3 x10 (.fv (.int .i64 1)) fun x19 => q4 [x7, x8, x9, x19] h16)
noncomputable def S104_25 (x11 : IV) (x7 : IV) (x10 : IV) (h6 : Hp) (ih : Handler) (x8 : IV) (q4 : List IV → Hp → Option (IV × Hp)) (x9 : IV) : Option (IV × Hp) :=
  condS x11 (ixS 3 x7 x10 fun x12 => loadA 3 x12 h6 fun x13 _ => S104_24 ih h6 x8 x13 x10 q4 x7 x9) (outS1 [.fv (.int .i64 (-1))] h6)
noncomputable def S104_26 (l5 : List IV) (h6 : Hp) (ih : Handler) (q4 : List IV → Hp → Option (IV × Hp)) : Option (IV × Hp) :=
  uncS l5 fun x7 l20 => uncS l20 fun x8 l21 => uncS l21 fun x9 l22 => uncS l22 fun x10 _ => ltS EE 3 x10 x9 fun x11 => S104_25 x11 x7 x10 h6 ih x8 q4 x9
noncomputable def S104 (ih : Handler) (n : Nat) (x0 : IV) (x1 : IV) (h2 : Hp) : Option (IV × Hp) :=
  lenS x0 fun x3 => loopS n (fun q4 l5 h6 => S104_26 l5 h6 ih q4) [x0, x1, x3, .fv (.int .i64 0)] h2
theorem S104_ok (ih : Handler) (n : Nat) (x0 : IV) (x1 : IV) (h2 : Hp) : funS EE ih ft.get n 104 [x0, x1] h2 = S104 ih n x0 x1 h2 := by kernel_rfl
noncomputable def S105_40 (x16 : IV) (h17 : Hp) (x6 : IV) : Option (IV × Hp) :=
  extS 0 x16 fun x20 => extS 1 x16 fun x21 => storeA 3 x6 x20 h17 fun h22 _ _ => cellS true 3 x6 h22 fun x25 => outS1 [x25, x21] h22
noncomputable def S105_41 (h33 : Hp) (x6 : IV) (x32 : IV) : Option (IV × Hp) :=
  storeA 3 x6 x32 h33 fun h36 r37 w38 => chkS [] r37 w38 (cellS true 3 x6 h36 fun x39 => outS1 [x39, .fv (.int .i64 0)] h36)
noncomputable def S105_42 (r27 : List Ref) (ih : Handler) (h13 : Hp) (x26 : IV) (x6 : IV) : Option (IV × Hp) :=
  chkS [] r27 [] (isoS [] false false ih 24 [.fv (.int .i64 11), .nils] h13 fun x28 h29 r30 w31 => chkS [(r27, [])] r30 w31 (isoS [] false false ih 67 [x26, .fv (.int .i64 0), x28] h29 fun x32 h33 r34 w35 => chkS [] r34 w35 (S105_41 h33 x6 x32)))
noncomputable def S105 (ih : Handler) (n : Nat) (x0 : IV) (h1 : Hp) : Option (IV × Hp) :=
  boxS 110100480 x0 h1 fun x2 h3 _ _ => newS 110100481 (.row [.fv (.int .i64 0), .fv (.int .i64 0), .nils] false) (.ptr (.own 110100481) 0) h3 fun x6 h7 _ _ => loadA 3 x2 h7 fun x10 _ => isoS [] false false ih 107 [x10, .fv (.int .i64 0)] h7 fun x12 h13 _ _ => condS x12 (isoS [] false false ih 44 [.fv (.int .i64 14)] h13 fun x16 h17 _ _ => S105_40 x16 h17 x6) (loadA 3 x2 h13 fun x26 r27 => S105_42 r27 ih h13 x26 x6)
theorem S105_ok (ih : Handler) (n : Nat) (x0 : IV) (h1 : Hp) : funS EE ih ft.get n 105 [x0] h1 = S105 ih n x0 h1 := by kernel_rfl
noncomputable def S106_36 (ih : Handler) (h21 : Hp) (x20 : IV) (x12 : IV) (x6 : IV) : Option (IV × Hp) :=
  isoS [] false false ih 24 [.fv (.int .i64 12), x20] h21 fun x24 h25 _ _ => isoS [] false false ih 67 [x12, .fv (.int .i64 0), x24] h25 fun x28 h29 _ _ => storeA 3 x6 x28 h29 fun h32 _ _ => cellS true 3 x6 h32 fun x35 => outS1 [x35] h32
noncomputable def S106 (ih : Handler) (n : Nat) (x0 : IV) (h1 : Hp) : Option (IV × Hp) :=
  boxS 111149056 x0 h1 fun x2 h3 _ _ => newS 111149057 (.row [.fv (.int .i64 0), .fv (.int .i64 0), .nils] false) (.ptr (.own 111149057) 0) h3 fun x6 h7 _ _ => loadA 3 x2 h7 fun x10 _ => isoS [] false false ih 45 [x10, .fv (.int .i64 2), .fv (.int .i64 1)] h7 fun x12 h13 _ _ => isoS [] false false ih 25 [.fv (.int .i64 1)] h13 fun x16 h17 _ _ => genS (pcBuildSlice EE 28 1 [(0, x16)]) 111150083 h17 fun x20 h21 _ _ => S106_36 ih h21 x20 x12 x6
theorem S106_ok (ih : Handler) (n : Nat) (x0 : IV) (h1 : Hp) : funS EE ih ft.get n 106 [x0] h1 = S106 ih n x0 h1 := by kernel_rfl
noncomputable def S107_48 (h4 : Hp) (x11 : IV) (x1 : IV) : Option (IV × Hp) :=
  load1 x11 h4 fun x12 _ => eqS EE 3 x12 x1 fun x14 => outS1 [x14] h4
noncomputable def S107_49 (x18 : IV) (x35 : IV) (ih : Handler) (h36 : Hp) (x30 : IV) (x20 : IV) (q15 : List IV → Hp → Option (IV × Hp)) (x19 : IV) : Option (IV × Hp) :=
  addS EE 3 x18 x35 fun x39 => isoS [] false false ih 107 [x30, x39] h36 fun x40 h41 r42 w43 => chkS [] r42 w43 (condS x40 (outS1 [.fv (.bool true)] h41) (addS EE 3 x20 (.fv (.int .i64 1)) fun x44 => q15 [x18, x19, x44] h41))
noncomputable def S107_50 (x19 : IV) (h17 : Hp) (r31 : List Ref) (r28 : List Ref) (ih : Handler) (x20 : IV) (x18 : IV) (x30 : IV) (q15 : List IV → Hp → Option (IV × Hp)) : Option (IV × Hp) :=
  faddrS 0 x19 fun x32 => load1 x32 h17 fun x33 r34 => chkS [(r31, []), (r28, [])] r34 [] (isoS [] false false ih 54 [x33, x20] h17 fun x35 h36 r37 w38 => chkS [(r31, []), (r28, [])] r37 w38 (S107_49 x18 x35 ih h36 x30 x20 q15 x19))
noncomputable def S107_51 (h17 : Hp) (x26 : IV) (x20 : IV) (x19 : IV) (ih : Handler) (x18 : IV) (q15 : List IV → Hp → Option (IV × Hp)) : Option (IV × Hp) :=
  load1 x26 h17 fun x27 r28 => chkS [] r28 [] (ixS 3 x27 x20 fun x29 => loadA 3 x29 h17 fun x30 r31 => chkS [] r31 [] (S107_50 x19 h17 r31 r28 ih x20 x18 x30 q15))
noncomputable def S107_52 (x22 : IV) (x20 : IV) (x19 : IV) (h17 : Hp) (ih : Handler) (x18 : IV) (q15 : List IV → Hp → Option (IV × Hp)) : Option (IV × Hp) :=
  lenS x22 fun x24 => ltS EE 3 x20 x24 fun x25 => condS x25 (faddrS 2 x19 fun x26 => S107_51 h17 x26 x20 x19 ih x18 q15) (outS1 [.fv (.bool false)] h17)
noncomputable def S107_53 (l16 : List IV) (h17 : Hp) (ih : Handler) (q15 : List IV → Hp → Option (IV × Hp)) : Option (IV × Hp) :=
  uncS l16 fun x18 l45 => uncS l45 fun x19 l46 => uncS l46 fun x20 _ => faddrS 2 x19 fun x21 => load1 x21 h17 fun x22 _ => S107_52 x22 x20 x19 h17 ih x18 q15
noncomputable def S107 (ih : Handler) (n : Nat) (x0 : IV) (x1 : IV) (h2 : Hp) : Option (IV × Hp) :=
  boxS 112197632 x0 h2 fun x3 h4 _ _ => faddrS 0 x3 fun x7 => load1 x7 h4 fun x8 _ => eqS EE 3 x8 (.fv (.int .i64 1)) fun x10 => condS x10 (faddrS 1 x3 fun x11 => S107_48 h4 x11 x1) (loopS n (fun q15 l16 h17 => S107_53 l16 h17 ih q15) [x1, x3, .fv (.int .i64 0)] h4)
theorem S107_ok (ih : Handler) (n : Nat) (x0 : IV) (x1 : IV) (h2 : Hp) : funS EE ih ft.get n 107 [x0, x1] h2 = S107 ih n x0 x1 h2 := by kernel_rfl
noncomputable def S108_29 (x0 : IV) (h13 : Hp) : Option (IV × Hp) :=
  nilS x0 fun x14 => faddrS 2 x14 fun x15 => load1 x15 h13 fun x16 _ => eqS EE 3 x16 (.fv (.int .i64 0)) fun x18 => outS1 [x18] h13
noncomputable def S108_30 (h9 : Hp) (x25 : IV) (j0_12 : Hp → Option (IV × Hp)) : Option (IV × Hp) :=
  store1 x25 (.fv (.int .i64 17)) h9 fun h26 _ _ => j0_12 h26
noncomputable def S108_31 (x21 : IV) (x0 : IV) (h9 : Hp) (j0_12 : Hp → Option (IV × Hp)) : Option (IV × Hp) :=
  gtS EE 3 x21 (.fv (.int .i64 1000)) fun x23 => condS x23 (nilS x0 fun x24 => faddrS 2 x24 fun x25 => S108_30 h9 x25 j0_12) (j0_12 h9)
noncomputable def S108_32 (h1 : Hp) (x8 : IV) (x6 : IV) (x0 : IV) : Option (IV × Hp) :=
  store1 x8 x6 h1 fun h9 _ _ => (fun (j0_12 : Hp → Option (IV × Hp)) => nilS x0 fun x19 => faddrS 0 x19 fun x20 => load1 x20 h9 fun x21 _ => S108_31 x21 x0 h9 j0_12) fun h13 => S108_29 x0 h13
noncomputable def S108 (ih : Handler) (n : Nat) (x0 : IV) (h1 : Hp) : Option (IV × Hp) :=
  nilS x0 fun x2 => faddrS 0 x2 fun x3 => load1 x3 h1 fun x4 _ => addS EE 3 x4 (.fv (.int .i64 1)) fun x6 => nilS x0 fun x7 => faddrS 0 x7 fun x8 => S108_32 h1 x8 x6 x0
theorem S108_ok (ih : Handler) (n : Nat) (x0 : IV) (h1 : Hp) : funS EE ih ft.get n 108 [x0] h1 = S108 ih n x0 h1 := by kernel_rfl
noncomputable def S109_29 (x22 : IV) (h2 : Hp) : Option (IV × Hp) :=
  faddrS 2 x22 fun x23 => load1 x23 h2 fun x24 _ => ixS 1 x24 (.fv (.int .i64 0)) fun x26 => load1 x26 h2 fun x27 _ => outS1 [x27] h2
noncomputable def S109_30 (x15 : IV) (h2 : Hp) : Option (IV × Hp) :=
  faddrS 2 x15 fun x16 => load1 x16 h2 fun x17 _ => ixS 1 x17 (.fv (.int .i64 0)) fun x19 => load1 x19 h2 fun x20 _ => nilS x20 fun x22 => S109_29 x22 h2
noncomputable def S109_31 (x10 : IV) (h2 : Hp) (x1 : IV) (x0 : IV) : Option (IV × Hp) :=
  faddrS 0 x10 fun x11 => load1 x11 h2 fun x12 _ => neS EE 3 x12 x1 fun x14 => condS x14 (outS1 [.fv .nilp] h2) (nilS x0 fun x15 => S109_30 x15 h2)
noncomputable def S109 (ih : Handler) (n : Nat) (x0 : IV) (x1 : IV) (h2 : Hp) : Option (IV × Hp) :=
  nilS x0 fun x3 => faddrS 2 x3 fun x4 => load1 x4 h2 fun x5 _ => ixS 1 x5 (.fv (.int .i64 0)) fun x7 => load1 x7 h2 fun x8 _ => nilS x8 fun x10 => S109_31 x10 h2 x1 x0
theorem S109_ok (ih : Handler) (n : Nat) (x0 : IV) (x1 : IV) (h2 : Hp) : funS EE ih ft.get n 109 [x0, x1] h2 = S109 ih n x0 x1 h2 := by kernel_rfl
noncomputable def S110_18 (x1 : IV) (h7 : Hp) (j0_3 : Hp → Option (IV × Hp)) : Option (IV × Hp) :=
  eqS EE 3 x1 (.fv (.int .i64 0)) fun x10 => condS x10 (outS1 [.fv (.int .i64 1)] h7) (eqS EE 3 x1 (.fv (.int .i64 2)) fun x11 => condS x11 (outS1 [.fv (.int .i64 2)] h7) (j0_3 h7))
noncomputable def S110_19 (x6 : IV) (x1 : IV) (h7 : Hp) (j0_3 : Hp → Option (IV × Hp)) (x0 : IV) : Option (IV × Hp) :=
  condS x6 (eqS EE 3 x1 (.fv (.int .i64 1)) fun x8 => condS x8 (outS1 [.fv (.int .i64 1)] h7) (j0_3 h7)) (eqS EE 3 x0 (.fv (.int .i64 13)) fun x9 => condS x9 (S110_18 x1 h7 j0_3) (j0_3 h7))
noncomputable def S110_20 (x0 : IV) (j1_5 : IV → Hp → Option (IV × Hp)) (h2 : Hp) : Option (IV × Hp) :=
  eqS EE 3 x0 (.fv (.int .i64 29)) fun x17 => j1_5 x17 h2
noncomputable def S110_21 (x0 : IV) (j1_5 : IV → Hp → Option (IV × Hp)) (h2 : Hp) : Option (IV × Hp) :=
  eqS EE 3 x0 (.fv (.int .i64 20)) fun x15 => condS x15 (j1_5 x15 h2) (eqS EE 3 x0 (.fv (.int .i64 28)) fun x16 => condS x16 (j1_5 x16 h2) (S110_20 x0 j1_5 h2))
noncomputable def S110_22 (x13 : IV) (j1_5 : IV → Hp → Option (IV × Hp)) (h2 : Hp) (x0 : IV) : Option (IV × Hp) :=
  condS x13 (j1_5 x13 h2) (eqS EE 3 x0 (.fv (.int .i64 6)) fun x14 => condS x14 (j1_5 x14 h2) (S110_21 x0 j1_5 h2))
noncomputable def S110 (ih : Handler) (n : Nat) (x0 : IV) (x1 : IV) (h2 : Hp) : Option (IV × Hp) :=
  (fun (j0_3 : Hp → Option (IV × Hp)) => (fun (j1_5 : IV → Hp → Option (IV × Hp)) => eqS EE 3 x0 (.fv (.int .i64 3)) fun x12 => condS x12 (j1_5 x12 h2) (eqS EE 3 x0 (.fv (.int .i64 4)) fun x13 => S110_22 x13 j1_5 h2 x0)) fun x6 h7 => S110_19 x6 x1 h7 j0_3 x0) fun h4 => outS1 [.fv (.int .i64 0)] h4
theorem S110_ok (ih : Handler) (n : Nat) (x0 : IV) (x1 : IV) (h2 : Hp) : funS EE ih ft.get n 110 [x0, x1] h2 = S110 ih n x0 x1 h2 := by kernel_rfl
noncomputable def S111_27 (x13 : IV) (x7 : IV) (h6 : Hp) (x10 : IV) (h2 : Hp) (x8 : IV) (x9 : IV) (q4 : List IV → Hp → Option (IV × Hp)) : Option (IV × Hp) :=
  bldS [.fv (.nilp), .fv (.nilp)] [(0, 1, x13), (1, 1, x7)] fun x15 => fzS (pcBox true 116396035 x15) 116396035 x15 h6 fun x16 h17 _ _ => addS EE 3 x10 (.fv (.int .i64 1)) fun x20 => dropS (h2.own.map (·.1)) [116396035] [x16, x8, x9, x20] h17 fun h21 => q4 [x16, x8, x9, x20] h21
noncomputable def S111_28 (x11 : IV) (x8 : IV) (x10 : IV) (h6 : Hp) (x7 : IV) (h2 : Hp) (x9 : IV) (q4 : List IV → Hp → Option (IV × Hp)) : Option (IV × Hp) :=
  condS x11 (ixS 1 x8 x10 fun x12 => load1 x12 h6 fun x13 _ => S111_27 x13 x7 h6 x10 h2 x8 x9 q4) (outS1 [x7] h6)
noncomputable def S111_29 (l5 : List IV) (h6 : Hp) (h2 : Hp) (q4 : List IV → Hp → Option (IV × Hp)) : Option (IV × Hp) :=
  uncS l5 fun x7 l22 => uncS l22 fun x8 l23 => uncS l23 fun x9 l24 => uncS l24 fun x10 _ => ltS EE 3 x10 x9 fun x11 => S111_28 x11 x8 x10 h6 x7 h2 x9 q4
noncomputable def S111 (ih : Handler) (n : Nat) (x0 : IV) (x1 : IV) (h2 : Hp) : Option (IV × Hp) :=
  lenS x1 fun x3 => dropS (h2.own.map (·.1)) [116396035] [x0, x1, x3, .fv (.int .i64 0)] h2 fun h26 => loopS n (fun q4 l5 h6 => S111_29 l5 h6 h2 q4) [x0, x1, x3, .fv (.int .i64 0)] h26
theorem S111_ok (ih : Handler) (n : Nat) (x0 : IV) (x1 : IV) (h2 : Hp) : funS EE ih ft.get n 111 [x0, x1] h2 = S111 ih n x0 x1 h2 := by kernel_rfl
end Idl
end Go.Proofs.Ytkfecngimlcfoaa
namespace Go.Proofs.Ytkfecngimlcfoaa
namespace Idl
noncomputable def dt : DT :=
 .node 63 (.node 35 (.node 20 (.node 14 (.node 11 (.node 3 (.leaf 2 (fun ih n => ar0 (S2 ih n)))
 (.node 8 (.leaf 3 (fun ih n => ar2 (S3 ih n)))
 (.leaf 8 (fun ih n => ar2 (S8 ih n)))))
 (.node 12 (.leaf 11 (fun ih n => ar0 (S11 ih n)))
 (.node 13 (.leaf 12 (fun ih n => ar1 (S12 ih n)))
 (.leaf 13 (fun ih n => ar4 (S13 ih n))))))
 (.node 17 (.node 15 (.leaf 14 (fun ih n => ar1 (S14 ih n)))
 (.node 16 (.leaf 15 (fun ih n => ar1 (S15 ih n)))
 (.leaf 16 (fun ih n => ar1 (S16 ih n)))))
 (.node 18 (.leaf 17 (fun ih n => ar2 (S17 ih n)))
 (.node 19 (.leaf 18 (fun ih n => ar1 (S18 ih n)))
 (.leaf 19 (fun ih n => ar2 (S19 ih n)))))))
 (.node 28 (.node 25 (.node 23 (.leaf 20 (fun ih n => ar3 (S20 ih n)))
 (.node 24 (.leaf 23 (fun ih n => ar2 (S23 ih n)))
 (.leaf 24 (fun ih n => ar2 (S24 ih n)))))
 (.node 26 (.leaf 25 (fun ih n => ar1 (S25 ih n)))
 (.node 27 (.leaf 26 (fun ih n => ar1 (S26 ih n)))
 (.leaf 27 (fun ih n => ar1 (S27 ih n))))))
 (.node 32 (.node 29 (.leaf 28 (fun ih n => ar2 (S28 ih n)))
 (.node 31 (.leaf 29 (fun ih n => ar1 (S29 ih n)))
 (.leaf 31 (fun ih n => ar1 (S31 ih n)))))
 (.node 33 (.leaf 32 (fun ih n => ar2 (S32 ih n)))
 (.node 34 (.leaf 33 (fun ih n => ar4 (S33 ih n)))
 (.leaf 34 (fun ih n => ar1 (S34 ih n))))))))
 (.node 47 (.node 41 (.node 38 (.node 36 (.leaf 35 (fun ih n => ar1 (S35 ih n)))
 (.node 37 (.leaf 36 (fun ih n => ar2 (S36 ih n)))
 (.leaf 37 (fun ih n => ar1 (S37 ih n)))))
 (.node 39 (.leaf 38 (fun ih n => ar3 (S38 ih n)))
 (.node 40 (.leaf 39 (fun ih n => ar4 (S39 ih n)))
 (.leaf 40 (fun ih n => ar1 (S40 ih n))))))
 (.node 44 (.node 42 (.leaf 41 (fun ih n => ar1 (S41 ih n)))
 (.node 43 (.leaf 42 (fun ih n => ar2 (S42 ih n)))
 (.leaf 43 (fun ih n => ar2 (S43 ih n)))))
 (.node 45 (.leaf 44 (fun ih n => ar1 (S44 ih n)))
 (.node 46 (.leaf 45 (fun ih n => ar3 (S45 ih n)))
 (.leaf 46 (fun ih n => ar2 (S46 ih n)))))))
 (.node 55 (.node 50 (.node 48 (.leaf 47 (fun ih n => ar1 (S47 ih n)))
 (.node 49 (.leaf 48 (fun ih n => ar4 (S48 ih n)))
 (.leaf 49 (fun ih n => ar4 (S49 ih n)))))
 (.node 52 (.leaf 50 (fun ih n => ar2 (S50 ih n)))
 (.node 54 (.leaf 52 (fun ih n => ar1 (S52 ih n)))
 (.leaf 54 (fun ih n => ar2 (S54 ih n))))))
 (.node 59 (.node 56 (.leaf 55 (fun ih n => ar2 (S55 ih n)))
 (.node 58 (.leaf 56 (fun ih n => ar2 (S56 ih n)))
 (.leaf 58 (fun ih n => ar4 (S58 ih n)))))
 (.node 61 (.node 60 (.leaf 59 (fun ih n => ar4 (S59 ih n)))
 (.leaf 60 (fun ih n => ar3 (S60 ih n))))
 (.node 62 (.leaf 61 (fun ih n => ar4 (S61 ih n)))
 (.leaf 62 (fun ih n => ar3 (S62 ih n)))))))))
 (.node 87 (.node 75 (.node 69 (.node 66 (.node 64 (.leaf 63 (fun ih n => ar3 (S63 ih n)))
 (.node 65 (.leaf 64 (fun ih n => ar0 (S64 ih n)))
 (.leaf 65 (fun ih n => ar4 (S65 ih n)))))
 (.node 67 (.leaf 66 (fun ih n => ar4 (S66 ih n)))
 (.node 68 (.leaf 67 (fun ih n => ar3 (S67 ih n)))
 (.leaf 68 (fun ih n => ar3 (S68 ih n))))))
 (.node 72 (.node 70 (.leaf 69 (fun ih n => ar1 (S69 ih n)))
 (.node 71 (.leaf 70 (fun ih n => ar0 (S70 ih n)))
 (.leaf 71 (fun ih n => ar3 (S71 ih n)))))
 (.node 73 (.leaf 72 (fun ih n => ar4 (S72 ih n)))
 (.node 74 (.leaf 73 (fun ih n => ar2 (S73 ih n)))
 (.leaf 74 (fun ih n => ar2 (S74 ih n)))))))
 (.node 81 (.node 78 (.node 76 (.leaf 75 (fun ih n => ar3 (S75 ih n)))
 (.node 77 (.leaf 76 (fun ih n => ar2 (S76 ih n)))
 (.leaf 77 (fun ih n => ar2 (S77 ih n)))))
 (.node 79 (.leaf 78 (fun ih n => ar3 (S78 ih n)))
 (.node 80 (.leaf 79 (fun ih n => ar3 (S79 ih n)))
 (.leaf 80 (fun ih n => ar4 (S80 ih n))))))
 (.node 84 (.node 82 (.leaf 81 (fun ih n => ar2 (S81 ih n)))
 (.node 83 (.leaf 82 (fun ih n => ar2 (S82 ih n)))
 (.leaf 83 (fun ih n => ar2 (S83 ih n)))))
 (.node 85 (.leaf 84 (fun ih n => ar2 (S84 ih n)))
 (.node 86 (.leaf 85 (fun ih n => ar2 (S85 ih n)))
 (.leaf 86 (fun ih n => ar1 (S86 ih n))))))))
 (.node 99 (.node 93 (.node 90 (.node 88 (.leaf 87 (fun ih n => ar2 (S87 ih n)))
 (.node 89 (.leaf 88 (fun ih n => ar2 (S88 ih n)))
 (.leaf 89 (fun ih n => ar2 (S89 ih n)))))
 (.node 91 (.leaf 90 (fun ih n => ar4 (S90 ih n)))
 (.node 92 (.leaf 91 (fun ih n => ar1 (S91 ih n)))
 (.leaf 92 (fun ih n => ar2 (S92 ih n))))))
 (.node 96 (.node 94 (.leaf 93 (fun ih n => ar1 (S93 ih n)))
 (.node 95 (.leaf 94 (fun ih n => ar2 (S94 ih n)))
 (.leaf 95 (fun ih n => ar2 (S95 ih n)))))
 (.node 97 (.leaf 96 (fun ih n => ar2 (S96 ih n)))
 (.node 98 (.leaf 97 (fun ih n => ar2 (S97 ih n)))
 (.leaf 98 (fun ih n => ar2 (S98 ih n)))))))
 (.node 105 (.node 102 (.node 100 (.leaf 99 (fun ih n => ar1 (S99 ih n)))
 (.node 101 (.leaf 100 (fun ih n => ar2 (S100 ih n)))
 (.leaf 101 (fun ih n => ar2 (S101 ih n)))))
 (.node 103 (.leaf 102 (fun ih n => ar2 (S102 ih n)))
 (.node 104 (.leaf 103 (fun ih n => ar4 (S103 ih n)))
 (.leaf 104 (fun ih n => ar2 (S104 ih n))))))
 (.node 108 (.node 106 (.leaf 105 (fun ih n => ar1 (S105 ih n)))
 (.node 107 (.leaf 106 (fun ih n => ar1 (S106 ih n)))
 (.leaf 107 (fun ih n => ar2 (S107 ih n)))))
 (.node 110 (.node 109 (.leaf 108 (fun ih n => ar1 (S108 ih n)))
 (.leaf 109 (fun ih n => ar2 (S109 ih n))))
 (.node 111 (.leaf 110 (fun ih n => ar2 (S110 ih n)))
 (.leaf 111 (fun ih n => ar2 (S111 ih n)))))))))
theorem dt_ok : dt.Ok EE ft.get :=
 ⟨⟨⟨⟨⟨⟨(fun ih n _ _ _ e => ar0_ok (F := funS EE ih ft.get n 2) (S2_ok ih n) e),
 ⟨(fun ih n _ _ _ e => ar2_ok (F := funS EE ih ft.get n 3) (S3_ok ih n) e),
 (fun ih n _ _ _ e => ar2_ok (F := funS EE ih ft.get n 8) (S8_ok ih n) e)⟩⟩,
 ⟨(fun ih n _ _ _ e => ar0_ok (F := funS EE ih ft.get n 11) (S11_ok ih n) e),
 ⟨(fun ih n _ _ _ e => ar1_ok (F := funS EE ih ft.get n 12) (S12_ok ih n) e),
 (fun ih n _ _ _ e => ar4_ok (F := funS EE ih ft.get n 13) (S13_ok ih n) e)⟩⟩⟩,
 ⟨⟨(fun ih n _ _ _ e => ar1_ok (F := funS EE ih ft.get n 14) (S14_ok ih n) e),
 ⟨(fun ih n _ _ _ e => ar1_ok (F := funS EE ih ft.get n 15) (S15_ok ih n) e),
 (fun ih n _ _ _ e => ar1_ok (F := funS EE ih ft.get n 16) (S16_ok ih n) e)⟩⟩,
 ⟨(fun ih n _ _ _ e => ar2_ok (F := funS EE ih ft.get n 17) (S17_ok ih n) e),
 ⟨(fun ih n _ _ _ e => ar1_ok (F := funS EE ih ft.get n 18) (S18_ok ih n) e),
 (fun ih n _ _ _ e => ar2_ok (F := funS EE ih ft.get n 19) (S19_ok ih n) e)⟩⟩⟩⟩,
 ⟨⟨⟨(fun ih n _ _ _ e => ar3_ok (F := funS EE ih ft.get n 20) (S20_ok ih n) e),
 ⟨(fun ih n _ _ _ e => ar2_ok (F := funS EE ih ft.get n 23) (S23_ok ih n) e),
 (fun ih n _ _ _ e => ar2_ok (F := funS EE ih ft.get n 24) (S24_ok ih n) e)⟩⟩,
 ⟨(fun ih n _ _ _ e => ar1_ok (F := funS EE ih ft.get n 25) (S25_ok ih n) e),
 ⟨(fun ih n _ _ _ e => ar1_ok (F := funS EE ih ft.get n 26) (S26_ok ih n) e),
 (fun ih n _ _ _ e => ar1_ok (F := funS EE ih ft.get n 27) (S27_ok ih n) e)⟩⟩⟩,
 ⟨⟨(fun ih n _ _ _ e => ar2_ok (F := funS EE ih ft.get n 28) (S28_ok ih n) e),
 ⟨(fun ih n _ _ _ e => ar1_ok (F := funS EE ih ft.get n 29) (S29_ok ih n) e),
 (fun ih n _ _ _ e => ar1_ok (F := funS EE ih ft.get n 31) (S31_ok ih n) e)⟩⟩,
 ⟨(fun ih n _ _ _ e => ar2_ok (F := funS EE ih ft.get n 32) (S32_ok ih n) e),
 ⟨(fun ih n _ _ _ e => ar4_ok (F := funS EE ih ft.get n 33) (S33_ok ih n) e),
 (fun ih n _ _ _ e => ar1_ok (F := funS EE ih ft.get n 34) (S34_ok ih n) e)⟩⟩⟩⟩⟩,
 ⟨⟨⟨⟨(fun ih n _ _ _ e => ar1_ok (F := funS EE ih ft.get n 35) (S35_ok ih n) e),
 ⟨(fun ih n _ _ _ e => ar2_ok (F := funS EE ih ft.get n 36) (S36_ok ih n) e),
 (fun ih n _ _ _ e => ar1_ok (F := funS EE ih ft.get n 37) (S37_ok ih n) e)⟩⟩,
 ⟨(fun ih n _ _ _ e => ar3_ok (F := funS EE ih ft.get n 38) (S38_ok ih n) e),
 ⟨(fun ih n _ _ _ e => ar4_ok (F := funS EE ih ft.get n 39) (S39_ok ih n) e),
 (fun ih n _ _ _ e => ar1_ok (F := funS EE ih ft.get n 40) (S40_ok ih n) e)⟩⟩⟩,
 ⟨⟨(fun ih n _ _ _ e => ar1_ok (F := funS EE ih ft.get n 41) (S41_ok ih n) e),
 ⟨(fun ih n _ _ _ e => ar2_ok (F := funS EE ih ft.get n 42) (S42_ok ih n) e),
 (fun ih n _ _ _ e => ar2_ok (F := funS EE ih ft.get n 43) (S43_ok ih n) e)⟩⟩,
 ⟨(fun ih n _ _ _ e => ar1_ok (F := funS EE ih ft.get n 44) (S44_ok ih n) e),
 ⟨(fun ih n _ _ _ e => ar3_ok (F := funS EE ih ft.get n 45) (S45_ok ih n) e),
 (fun ih n _ _ _ e => ar2_ok (F := funS EE ih ft.get n 46) (S46_ok ih n) e)⟩⟩⟩⟩,
 ⟨⟨⟨(fun ih n _ _ _ e => ar1_ok (F := funS EE ih ft.get n 47) (S47_ok ih n) e),
 ⟨(fun ih n _ _ _ e => ar4_ok (F := funS EE ih ft.get n 48) (S48_ok ih n) e),
 (fun ih n _ _ _ e => ar4_ok (F := funS EE ih ft.get n 49) (S49_ok ih n) e)⟩⟩,
 ⟨(fun ih n _ _ _ e => ar2_ok (F := funS EE ih ft.get n 50) (S50_ok ih n) e),
 ⟨(fun ih n _ _ _ e => ar1_ok (F := funS EE ih ft.get n 52) (S52_ok ih n) e),
 (fun ih n _ _ _ e => ar2_ok (F := funS EE ih ft.get n 54) (S54_ok ih n) e)⟩⟩⟩,
 ⟨⟨(fun ih n _ _ _ e => ar2_ok (F := funS EE ih ft.get n 55) (S55_ok ih n) e),
 ⟨(fun ih n _ _ _ e => ar2_ok (F := funS EE ih ft.get n 56) (S56_ok ih n) e),
 (fun ih n _ _ _ e => ar4_ok (F := funS EE ih ft.get n 58) (S58_ok ih n) e)⟩⟩,
 ⟨⟨(fun ih n _ _ _ e => ar4_ok (F := funS EE ih ft.get n 59) (S59_ok ih n) e),
 (fun ih n _ _ _ e => ar3_ok (F := funS EE ih ft.get n 60) (S60_ok ih n) e)⟩,
 ⟨(fun ih n _ _ _ e => ar4_ok (F := funS EE ih ft.get n 61) (S61_ok ih n) e),
 (fun ih n _ _ _ e => ar3_ok (F := funS EE ih ft.get n 62) (S62_ok ih n) e)⟩⟩⟩⟩⟩⟩,
 ⟨⟨⟨⟨⟨(fun ih n _ _ _ e => ar3_ok (F := funS EE ih ft.get n 63) (S63_ok ih n) e),
 ⟨(fun ih n _ _ _ e => ar0_ok (F := funS EE ih ft.get n 64) (S64_ok ih n) e),
 (fun ih n _ _ _ e => ar4_ok (F := funS EE ih ft.get n 65) (S65_ok ih n) e)⟩⟩,
 ⟨(fun ih n _ _ _ e => ar4_ok (F := funS EE ih ft.get n 66) (S66_ok ih n) e),
 ⟨(fun ih n _ _ _ e => ar3_ok (F := funS EE ih ft.get n 67) (S67_ok ih n) e),
 (fun ih n _ _ _ e => ar3_ok (F := funS EE ih ft.get n 68) (S68_ok ih n) e)⟩⟩⟩,
 ⟨⟨(fun ih n _ _ _ e => ar1_ok (F := funS EE ih ft.get n 69) (S69_ok ih n) e),
 ⟨(fun ih n _ _ _ e => ar0_ok (F := funS EE ih ft.get n 70) (S70_ok ih n) e),
 (fun ih n _ _ _ e => ar3_ok (F := funS EE ih ft.get n 71) (S71_ok ih n) e)⟩⟩,
 ⟨(fun ih n _ _ _ e => ar4_ok (F := funS EE ih ft.get n 72) (S72_ok ih n) e),
 ⟨(fun ih n _ _ _ e => ar2_ok (F := funS EE ih ft.get n 73) (S73_ok ih n) e),
 (fun ih n _ _ _ e => ar2_ok (F := funS EE ih ft.get n 74) (S74_ok ih n) e)⟩⟩⟩⟩,
 ⟨⟨⟨(fun ih n _ _ _ e => ar3_ok (F := funS EE ih ft.get n 75) (S75_ok ih n) e),
 ⟨(fun ih n _ _ _ e => ar2_ok (F := funS EE ih ft.get n 76) (S76_ok ih n) e),
 (fun ih n _ _ _ e => ar2_ok (F := funS EE ih ft.get n 77) (S77_ok ih n) e)⟩⟩,
 ⟨(fun ih n _ _ _ e => ar3_ok (F := funS EE ih ft.get n 78) (S78_ok ih n) e),
 ⟨(fun ih n _ _ _ e => ar3_ok (F := funS EE ih ft.get n 79) (S79_ok ih n) e),
 (fun ih n _ _ _ e => ar4_ok (F := funS EE ih ft.get n 80) (S80_ok ih n) e)⟩⟩⟩,
 ⟨⟨(fun ih n _ _ _ e => ar2_ok (F := funS EE ih ft.get n 81) (S81_ok ih n) e),
 ⟨(fun ih n _ _ _ e => ar2_ok (F := funS EE ih ft.get n 82) (S82_ok ih n) e),
 (fun ih n _ _ _ e => ar2_ok (F := funS EE ih ft.get n 83) (S83_ok ih n) e)⟩⟩,
 ⟨(fun ih n _ _ _ e => ar2_ok (F := funS EE ih ft.get n 84) (S84_ok ih n) e),
 ⟨(fun ih n _ _ _ e => ar2_ok (F := funS EE ih ft.get n 85) (S85_ok ih n) e),
 (fun ih n _ _ _ e => ar1_ok (F := funS EE ih ft.get n 86) (S86_ok ih n) e)⟩⟩⟩⟩⟩,
 ⟨⟨⟨⟨(fun ih n _ _ _ e => ar2_ok (F := funS EE ih ft.get n 87) (S87_ok ih n) e),
 ⟨(fun ih n _ _ _ e => ar2_ok (F := funS EE ih ft.get n 88) (S88_ok ih n) e),
 (fun ih n _ _ _ e => ar2_ok (F := funS EE ih ft.get n 89) (S89_ok ih n) e)⟩⟩,
 ⟨(fun ih n _ _ _ e => ar4_ok (F := funS EE ih ft.get n 90) (S90_ok ih n) e),
 ⟨(fun ih n _ _ _ e => ar1_ok (F := funS EE ih ft.get n 91) (S91_ok ih n) e),
 (fun ih n _ _ _ e => ar2_ok (F := funS EE ih ft.get n 92) (S92_ok ih n) e)⟩⟩⟩,
 ⟨⟨(fun ih n _ _ _ e => ar1_ok (F := funS EE ih ft.get n 93) (S93_ok ih n) e),
 ⟨(fun ih n _ _ _ e => ar2_ok (F := funS EE ih ft.get n 94) (S94_ok ih n) e),
 (fun ih n _ _ _ e => ar2_ok (F := funS EE ih ft.get n 95) (S95_ok ih n) e)⟩⟩,
 ⟨(fun ih n _ _ _ e => ar2_ok (F := funS EE ih ft.get n 96) (S96_ok ih n) e),
 ⟨(fun ih n _ _ _ e => ar2_ok (F := funS EE ih ft.get n 97) (S97_ok ih n) e),
 (fun ih n _ _ _ e => ar2_ok (F := funS EE ih ft.get n 98) (S98_ok ih n) e)⟩⟩⟩⟩,
 ⟨⟨⟨(fun ih n _ _ _ e => ar1_ok (F := funS EE ih ft.get n 99) (S99_ok ih n) e),
 ⟨(fun ih n _ _ _ e => ar2_ok (F := funS EE ih ft.get n 100) (S100_ok ih n) e),
 (fun ih n _ _ _ e => ar2_ok (F := funS EE ih ft.get n 101) (S101_ok ih n) e)⟩⟩,
 ⟨(fun ih n _ _ _ e => ar2_ok (F := funS EE ih ft.get n 102) (S102_ok ih n) e),
 ⟨(fun ih n _ _ _ e => ar4_ok (F := funS EE ih ft.get n 103) (S103_ok ih n) e),
 (fun ih n _ _ _ e => ar2_ok (F := funS EE ih ft.get n 104) (S104_ok ih n) e)⟩⟩⟩,
 ⟨⟨(fun ih n _ _ _ e => ar1_ok (F := funS EE ih ft.get n 105) (S105_ok ih n) e),
 ⟨(fun ih n _ _ _ e => ar1_ok (F := funS EE ih ft.get n 106) (S106_ok ih n) e),
 (fun ih n _ _ _ e => ar2_ok (F := funS EE ih ft.get n 107) (S107_ok ih n) e)⟩⟩,
 ⟨⟨(fun ih n _ _ _ e => ar1_ok (F := funS EE ih ft.get n 108) (S108_ok ih n) e),
 (fun ih n _ _ _ e => ar2_ok (F := funS EE ih ft.get n 109) (S109_ok ih n) e)⟩,
 ⟨(fun ih n _ _ _ e => ar2_ok (F := funS EE ih ft.get n 110) (S110_ok ih n) e),
 (fun ih n _ _ _ e => ar2_ok (F := funS EE ih ft.get n 111) (S111_ok ih n) e)⟩⟩⟩⟩⟩⟩⟩
theorem sh_run : ∀ n f args h x, SS dt n f args h = some x → run EE n f args h = some x := SS_ok ft_ok dt_ok
end Idl
end Go.Proofs.Ytkfecngimlcfoaa

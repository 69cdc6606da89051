/-
  Texts of a proof, part 10: an ideal semantics of the program, its functions in shallow form, contracts of them. No statement of the seat is proved here.
-/
import Derived.Test.YtdibmackcbpniaaObjValuesK9
set_option linter.all false
set_option maxRecDepth 100000
set_option linter.unusedVariables false
namespace Go.Proofs.Ytdibmackcbpniaa
namespace Idl
noncomputable def S112_513 (x29 : IV) (h65 : Hp) (x64 : IV) (x30 : IV) (h1 : Hp) (x27 : IV) (x28 : IV) (q24 : List IV → Hp → Option (IV × Hp)) : Option (IV × Hp) :=
  faddrS 2 x29 fun x68 => store1 x68 x64 h65 fun h69 _ _ => addS EE 3 x30 (.fv (.int .i64 1)) fun x72 => dropS (h1.own.map (·.1)) [117445638, 117448708] [x27, x28, x29, x72] h69 fun h73 => q24 [x27, x28, x29, x72] h73
noncomputable def S112_514 (x29 : IV) (h54 : Hp) (x46 : IV) (x30 : IV) (h1 : Hp) (x27 : IV) (x28 : IV) (q24 : List IV → Hp → Option (IV × Hp)) : Option (IV × Hp) :=
  faddrS 2 x29 fun x55 => load1 x55 h54 fun x56 _ => loadA 3 x46 h54 fun x58 _ => genS (pcBuildSlice EE 28 1 [(0, x58)]) 117448707 h54 fun x60 h61 _ _ => genS (builtinR EE 117448708 false .append [28, 28] [x56, x60]) 117448708 h61 fun x64 h65 _ _ => S112_513 x29 h65 x64 x30 h1 x27 x28 q24
noncomputable def S112_515 (h126 : Hp) (x46 : IV) (x125 : IV) (j0_53 : Hp → Option (IV × Hp)) : Option (IV × Hp) :=
  storeA 3 x46 x125 h126 fun h129 _ _ => j0_53 h129
noncomputable def S112_516 (h115 : Hp) (x74 : IV) (x95 : IV) (x114 : IV) (ih : Handler) (x46 : IV) (j0_53 : Hp → Option (IV × Hp)) : Option (IV × Hp) :=
  guardS x74 true h115 (fun k118 => pickS x95 (.fv (.bool true)) x114 fun x119 => k118 x119 h115 [] []) fun x120 h121 _ _ => pickS x74 x120 (.fv (.bool false)) fun x124 => condS x124 (isoS [] false false ih 30 [.fv (.int .i64 11), .nils] h121 fun x125 h126 _ _ => S112_515 h126 x46 x125 j0_53) (j0_53 h121)
noncomputable def S112_517 (h85 : Hp) (x74 : IV) (x84 : IV) (x27 : IV) (ih : Handler) (x46 : IV) (j0_53 : Hp → Option (IV × Hp)) : Option (IV × Hp) :=
  guardS x74 true h85 (fun k88 => eqS EE 3 x84 (.fv (.int .i64 4)) fun x89 => k88 x89 h85 [] []) fun x90 h91 _ _ => guardS x74 true h91 (fun k94 => k94 x90 h91 [] []) fun x95 h96 _ _ => guardS x95 false h96 (fun k99 => faddrS 0 x27 fun x100 => k99 x100 h96 [] []) fun x101 h102 _ _ => guardS x95 false h102 (fun k105 => load1 x101 h102 fun x106 r107 => k105 x106 h102 r107 []) fun x108 h109 _ _ => guardS x95 false h109 (fun k112 => eqS EE 3 x108 (.fv (.int .i64 7)) fun x113 => k112 x113 h109 [] []) fun x114 h115 _ _ => S112_516 h115 x74 x95 x114 ih x46 j0_53
noncomputable def S112_518 (h47 : Hp) (x46 : IV) (x42 : IV) (x29 : IV) (x30 : IV) (h1 : Hp) (x27 : IV) (x28 : IV) (q24 : List IV → Hp → Option (IV × Hp)) (ih : Handler) : Option (IV × Hp) :=
  storeA 3 x46 x42 h47 fun h50 _ _ => (fun (j0_53 : Hp → Option (IV × Hp)) => eqS EE 3 x30 (.fv (.int .i64 0)) fun x74 => guardS x74 true h50 (fun k75 => faddrS 0 x27 fun x76 => k75 x76 h50 [] []) fun x77 h78 _ _ => guardS x74 true h78 (fun k81 => load1 x77 h78 fun x82 r83 => k81 x82 h78 r83 []) fun x84 h85 _ _ => S112_517 h85 x74 x84 x27 ih x46 j0_53) fun h54 => S112_514 x29 h54 x46 x30 h1 x27 x28 q24
noncomputable def S112_519 (h26 : Hp) (x36 : IV) (x30 : IV) (ih : Handler) (x29 : IV) (h1 : Hp) (x27 : IV) (x28 : IV) (q24 : List IV → Hp → Option (IV × Hp)) : Option (IV × Hp) :=
  load1 x36 h26 fun x37 _ => ixS 3 x37 x30 fun x39 => loadA 3 x39 h26 fun x40 _ => isoS [] false false ih 112 [x40] h26 fun x42 h43 _ _ => newS 117445638 (.row [.fv (.int .i64 0), .fv (.int .i64 0), .nils] false) (.ptr (.own 117445638) 0) h43 fun x46 h47 _ _ => S112_518 h47 x46 x42 x29 x30 h1 x27 x28 q24 ih
noncomputable def S112_520 (ih : Handler) (h299 : Hp) (x296 : IV) (x298 : IV) (x28 : IV) : Option (IV × Hp) :=
  isoS [] false false ih 89 [x296, .fv (.int .i64 0), x298] h299 fun x302 h303 r304 w305 => chkS [] r304 w305 (storeA 3 x28 x302 h303 fun h306 r307 w308 => chkS [] r307 w308 (cellS true 3 x28 h306 fun x309 => outS1 [x309] h306))
noncomputable def S112_521 (x293 : IV) (h284 : Hp) (ih : Handler) (r294 : List Ref) (r290 : List Ref) (x28 : IV) : Option (IV × Hp) :=
  ixS 3 x293 (.fv (.int .i64 0)) fun x295 => loadA 3 x295 h284 fun x296 r297 => chkS [] r297 [] (isoS [] false false ih 30 [.fv (.int .i64 11), .nils] h284 fun x298 h299 r300 w301 => chkS [(r297, []), (r294, []), (r290, [])] r300 w301 (S112_520 ih h299 x296 x298 x28))
noncomputable def S112_522 (r290 : List Ref) (x289 : IV) (h284 : Hp) (ih : Handler) (x28 : IV) : Option (IV × Hp) :=
  chkS [] r290 [] (ixS 3 x289 (.fv (.int .i64 1)) fun x291 => faddrS 2 x291 fun x292 => load1 x292 h284 fun x293 r294 => chkS [] r294 [] (S112_521 x293 h284 ih r294 r290 x28))
noncomputable def S112_523 (h484 : Hp) (x495 : IV) (x28 : IV) : Option (IV × Hp) :=
  loadA 3 x495 h484 fun x496 _ => storeA 3 x28 x496 h484 fun h498 _ _ => cellS true 3 x28 h498 fun x501 => outS1 [x501] h498
noncomputable def S112_524 (h484 : Hp) (x488 : IV) (x28 : IV) : Option (IV × Hp) :=
  load1 x488 h484 fun x489 _ => ixS 3 x489 (.fv (.int .i64 1)) fun x491 => faddrS 2 x491 fun x492 => load1 x492 h484 fun x493 _ => ixS 3 x493 (.fv (.int .i64 0)) fun x495 => S112_523 h484 x495 x28
noncomputable def S112_525 (h484 : Hp) (x28 : IV) (x502 : IV) : Option (IV × Hp) :=
  storeA 3 x28 x502 h484 fun h504 _ _ => cellS true 3 x28 h504 fun x507 => outS1 [x507] h504
noncomputable def S112_526 (h479 : Hp) (x391 : IV) (ih : Handler) (x433 : IV) (x478 : IV) (x29 : IV) (x28 : IV) : Option (IV × Hp) :=
  guardS x391 true h479 (fun k482 => isoS [] false false ih 18 [x433, x478] h479 k482) fun x483 h484 r485 w486 => chkS [] r485 w486 (pickS x391 x483 (.fv (.bool false)) fun x487 => condS x487 (faddrS 2 x29 fun x488 => S112_524 h484 x488 x28) (loadA 3 x29 h484 fun x502 _ => S112_525 h484 x28 x502))
noncomputable def S112_527 (h459 : Hp) (x391 : IV) (x458 : IV) (r435 : List Ref) (w436 : List Ref) (r422 : List Ref) (w423 : List Ref) (r403 : List Ref) (w404 : List Ref) (ih : Handler) (x433 : IV) (x29 : IV) (x28 : IV) : Option (IV × Hp) :=
  guardS x391 true h459 (fun k462 => load1 x458 h459 fun x463 r464 => k462 x463 h459 r464 []) fun x465 h466 r467 w468 => chkS [(r435, w436), (r422, w423), (r403, w404)] r467 w468 (guardS x391 true h466 (fun k469 => ixS 3 x465 (.fv (.int .i64 0)) fun x470 => k469 x470 h466 [] []) fun x471 h472 _ _ => guardS x391 true h472 (fun k475 => loadA 3 x471 h472 fun x476 r477 => k475 x476 h472 r477 []) fun x478 h479 r480 w481 => chkS [(r435, w436), (r422, w423), (r403, w404)] r480 w481 (S112_526 h479 x391 ih x433 x478 x29 x28))
noncomputable def S112_528 (h434 : Hp) (x391 : IV) (x29 : IV) (r435 : List Ref) (w436 : List Ref) (r422 : List Ref) (w423 : List Ref) (r403 : List Ref) (w404 : List Ref) (ih : Handler) (x433 : IV) (x28 : IV) : Option (IV × Hp) :=
  guardS x391 true h434 (fun k437 => faddrS 2 x29 fun x438 => k437 x438 h434 [] []) fun x439 h440 _ _ => guardS x391 true h440 (fun k443 => load1 x439 h440 fun x444 r445 => k443 x444 h440 r445 []) fun x446 h447 r448 w449 => chkS [(r435, w436), (r422, w423), (r403, w404)] r448 w449 (guardS x391 true h447 (fun k450 => ixS 3 x446 (.fv (.int .i64 2)) fun x451 => k450 x451 h447 [] []) fun x452 h453 _ _ => guardS x391 true h453 (fun k456 => faddrS 2 x452 fun x457 => k456 x457 h453 [] []) fun x458 h459 _ _ => S112_527 h459 x391 x458 r435 w436 r422 w423 r403 w404 ih x433 x29 x28)
noncomputable def S112_529 (h414 : Hp) (x391 : IV) (x413 : IV) (x29 : IV) (r403 : List Ref) (w404 : List Ref) (ih : Handler) (x28 : IV) : Option (IV × Hp) :=
  guardS x391 true h414 (fun k417 => load1 x413 h414 fun x418 r419 => k417 x418 h414 r419 []) fun x420 h421 r422 w423 => chkS [] r422 w423 (guardS x391 true h421 (fun k424 => ixS 3 x420 (.fv (.int .i64 0)) fun x425 => k424 x425 h421 [] []) fun x426 h427 _ _ => guardS x391 true h427 (fun k430 => loadA 3 x426 h427 fun x431 r432 => k430 x431 h427 r432 []) fun x433 h434 r435 w436 => chkS [] r435 w436 (S112_528 h434 x391 x29 r435 w436 r422 w423 r403 w404 ih x433 x28))
noncomputable def S112_530 (h388 : Hp) (x391 : IV) (x29 : IV) (ih : Handler) (x28 : IV) : Option (IV × Hp) :=
  guardS x391 true h388 (fun k392 => faddrS 2 x29 fun x393 => k392 x393 h388 [] []) fun x394 h395 _ _ => guardS x391 true h395 (fun k398 => load1 x394 h395 fun x399 r400 => k398 x399 h395 r400 []) fun x401 h402 r403 w404 => chkS [] r403 w404 (guardS x391 true h402 (fun k405 => ixS 3 x401 (.fv (.int .i64 1)) fun x406 => k405 x406 h402 [] []) fun x407 h408 _ _ => guardS x391 true h408 (fun k411 => faddrS 2 x407 fun x412 => k411 x412 h408 [] []) fun x413 h414 _ _ => S112_529 h414 x391 x413 x29 r403 w404 ih x28)
noncomputable def S112_531 (h369 : Hp) (x352 : IV) (x368 : IV) (x29 : IV) (ih : Handler) (x28 : IV) : Option (IV × Hp) :=
  guardS x352 true h369 (fun k372 => faddrS 0 x368 fun x373 => k372 x373 h369 [] []) fun x374 h375 _ _ => guardS x352 true h375 (fun k378 => load1 x374 h375 fun x379 r380 => k378 x379 h375 r380 []) fun x381 h382 r383 w384 => chkS [] r383 w384 (guardS x352 true h382 (fun k385 => eqS EE 3 x381 (.fv (.int .i64 9)) fun x386 => k385 x386 h382 [] []) fun x387 h388 _ _ => pickS x352 x387 (.fv (.bool false)) fun x391 => S112_530 h388 x391 x29 ih x28)
noncomputable def S112_532 (x313 : IV) (x348 : IV) (h349 : Hp) (x29 : IV) (ih : Handler) (x28 : IV) : Option (IV × Hp) :=
  pickS x313 x348 (.fv (.bool false)) fun x352 => guardS x352 true h349 (fun k353 => faddrS 2 x29 fun x354 => k353 x354 h349 [] []) fun x355 h356 _ _ => guardS x352 true h356 (fun k359 => load1 x355 h356 fun x360 r361 => k359 x360 h356 r361 []) fun x362 h363 r364 w365 => chkS [] r364 w365 (guardS x352 true h363 (fun k366 => ixS 3 x362 (.fv (.int .i64 2)) fun x367 => k366 x367 h363 [] []) fun x368 h369 _ _ => S112_531 h369 x352 x368 x29 ih x28)
noncomputable def S112_533 (h324 : Hp) (x313 : IV) (x323 : IV) (x29 : IV) (ih : Handler) (x28 : IV) : Option (IV × Hp) :=
  guardS x313 true h324 (fun k327 => ixS 3 x323 (.fv (.int .i64 1)) fun x328 => k327 x328 h324 [] []) fun x329 h330 _ _ => guardS x313 true h330 (fun k333 => faddrS 0 x329 fun x334 => k333 x334 h330 [] []) fun x335 h336 _ _ => guardS x313 true h336 (fun k339 => load1 x335 h336 fun x340 r341 => k339 x340 h336 r341 []) fun x342 h343 r344 w345 => chkS [] r344 w345 (guardS x313 true h343 (fun k346 => eqS EE 3 x342 (.fv (.int .i64 8)) fun x347 => k346 x347 h343 [] []) fun x348 h349 _ _ => S112_532 x313 x348 h349 x29 ih x28)
noncomputable def S112_534 (r312 : List Ref) (x311 : IV) (h284 : Hp) (x29 : IV) (ih : Handler) (x28 : IV) : Option (IV × Hp) :=
  chkS [] r312 [] (eqS EE 3 x311 (.fv (.int .i64 7)) fun x313 => guardS x313 true h284 (fun k314 => faddrS 2 x29 fun x315 => k314 x315 h284 [] []) fun x316 h317 _ _ => guardS x313 true h317 (fun k320 => load1 x316 h317 fun x321 r322 => k320 x321 h317 r322 []) fun x323 h324 r325 w326 => chkS [] r325 w326 (S112_533 h324 x313 x323 x29 ih x28))
noncomputable def S112_535 (x230 : IV) (x283 : IV) (x29 : IV) (h284 : Hp) (ih : Handler) (x28 : IV) (x27 : IV) : Option (IV × Hp) :=
  pickS x230 x283 (.fv (.bool false)) fun x287 => condS x287 (faddrS 2 x29 fun x288 => load1 x288 h284 fun x289 r290 => S112_522 r290 x289 h284 ih x28) (faddrS 0 x27 fun x310 => load1 x310 h284 fun x311 r312 => S112_534 r312 x311 h284 x29 ih x28)
noncomputable def S112_536 (h266 : Hp) (x230 : IV) (x265 : IV) (ih : Handler) (x29 : IV) (x28 : IV) (x27 : IV) : Option (IV × Hp) :=
  guardS x230 true h266 (fun k269 => loadA 3 x265 h266 fun x270 r271 => k269 x270 h266 r271 []) fun x272 h273 r274 w275 => chkS [] r274 w275 (guardS x230 true h273 (fun k276 => isoS [] false false ih 118 [x272, .fv (.int .i64 0)] h273 k276) fun x277 h278 r279 w280 => chkS [] r279 w280 (guardS x230 true h278 (fun k281 => optS (unR .not x277) fun x282 => k281 x282 h278 [] []) fun x283 h284 _ _ => S112_535 x230 x283 x29 h284 ih x28 x27))
noncomputable def S112_537 (h241 : Hp) (x230 : IV) (x240 : IV) (ih : Handler) (x29 : IV) (x28 : IV) (x27 : IV) : Option (IV × Hp) :=
  guardS x230 true h241 (fun k244 => ixS 3 x240 (.fv (.int .i64 1)) fun x245 => k244 x245 h241 [] []) fun x246 h247 _ _ => guardS x230 true h247 (fun k250 => faddrS 2 x246 fun x251 => k250 x251 h247 [] []) fun x252 h253 _ _ => guardS x230 true h253 (fun k256 => load1 x252 h253 fun x257 r258 => k256 x257 h253 r258 []) fun x259 h260 r261 w262 => chkS [] r261 w262 (guardS x230 true h260 (fun k263 => ixS 3 x259 (.fv (.int .i64 0)) fun x264 => k263 x264 h260 [] []) fun x265 h266 _ _ => S112_536 h266 x230 x265 ih x29 x28 x27)
noncomputable def S112_538 (r228 : List Ref) (w229 : List Ref) (x174 : IV) (x226 : IV) (h227 : Hp) (x29 : IV) (ih : Handler) (x28 : IV) (x27 : IV) : Option (IV × Hp) :=
  chkS [] r228 w229 (pickS x174 x226 (.fv (.bool false)) fun x230 => guardS x230 true h227 (fun k231 => faddrS 2 x29 fun x232 => k231 x232 h227 [] []) fun x233 h234 _ _ => guardS x230 true h234 (fun k237 => load1 x233 h234 fun x238 r239 => k237 x238 h234 r239 []) fun x240 h241 r242 w243 => chkS [] r242 w243 (S112_537 h241 x230 x240 ih x29 x28 x27))
noncomputable def S112_539 (h210 : Hp) (x174 : IV) (x209 : IV) (ih : Handler) (r205 : List Ref) (w206 : List Ref) (r186 : List Ref) (w187 : List Ref) (x29 : IV) (x28 : IV) (x27 : IV) : Option (IV × Hp) :=
  guardS x174 true h210 (fun k213 => loadA 3 x209 h210 fun x214 r215 => k213 x214 h210 r215 []) fun x216 h217 r218 w219 => chkS [] r218 w219 (guardS x174 true h217 (fun k220 => isoS [] false false ih 29 [.fv (.int .i64 0)] h217 k220) fun x221 h222 r223 w224 => chkS [(r218, w219), (r205, w206), (r186, w187)] r223 w224 (guardS x174 true h222 (fun k225 => isoS [] false false ih 18 [x216, x221] h222 k225) fun x226 h227 r228 w229 => S112_538 r228 w229 x174 x226 h227 x29 ih x28 x27))
noncomputable def S112_540 (h185 : Hp) (x174 : IV) (x184 : IV) (ih : Handler) (r186 : List Ref) (w187 : List Ref) (x29 : IV) (x28 : IV) (x27 : IV) : Option (IV × Hp) :=
  guardS x174 true h185 (fun k188 => ixS 3 x184 (.fv (.int .i64 1)) fun x189 => k188 x189 h185 [] []) fun x190 h191 _ _ => guardS x174 true h191 (fun k194 => faddrS 2 x190 fun x195 => k194 x195 h191 [] []) fun x196 h197 _ _ => guardS x174 true h197 (fun k200 => load1 x196 h197 fun x201 r202 => k200 x201 h197 r202 []) fun x203 h204 r205 w206 => chkS [] r205 w206 (guardS x174 true h204 (fun k207 => ixS 3 x203 (.fv (.int .i64 1)) fun x208 => k207 x208 h204 [] []) fun x209 h210 _ _ => S112_539 h210 x174 x209 ih r205 w206 r186 w187 x29 x28 x27)
noncomputable def S112_541 (h165 : Hp) (x135 : IV) (x164 : IV) (x29 : IV) (ih : Handler) (x28 : IV) (x27 : IV) : Option (IV × Hp) :=
  guardS x135 true h165 (fun k168 => eqS EE 3 x164 (.fv (.int .i64 5)) fun x169 => k168 x169 h165 [] []) fun x170 h171 _ _ => pickS x135 x170 (.fv (.bool false)) fun x174 => guardS x174 true h171 (fun k175 => faddrS 2 x29 fun x176 => k175 x176 h171 [] []) fun x177 h178 _ _ => guardS x174 true h178 (fun k181 => load1 x177 h178 fun x182 r183 => k181 x182 h178 r183 []) fun x184 h185 r186 w187 => chkS [] r186 w187 (S112_540 h185 x174 x184 ih r186 w187 x29 x28 x27)
noncomputable def S112_542 (r147 : List Ref) (w148 : List Ref) (h146 : Hp) (x135 : IV) (x145 : IV) (x29 : IV) (ih : Handler) (x28 : IV) (x27 : IV) : Option (IV × Hp) :=
  chkS [] r147 w148 (guardS x135 true h146 (fun k149 => ixS 3 x145 (.fv (.int .i64 1)) fun x150 => k149 x150 h146 [] []) fun x151 h152 _ _ => guardS x135 true h152 (fun k155 => faddrS 0 x151 fun x156 => k155 x156 h152 [] []) fun x157 h158 _ _ => guardS x135 true h158 (fun k161 => load1 x157 h158 fun x162 r163 => k161 x162 h158 r163 []) fun x164 h165 r166 w167 => chkS [] r166 w167 (S112_541 h165 x135 x164 x29 ih x28 x27))
noncomputable def S112_543 (h26 : Hp) (x132 : IV) (x29 : IV) (ih : Handler) (x28 : IV) (x27 : IV) : Option (IV × Hp) :=
  load1 x132 h26 fun x133 r134 => chkS [] r134 [] (eqS EE 3 x133 (.fv (.int .i64 4)) fun x135 => guardS x135 true h26 (fun k136 => faddrS 2 x29 fun x137 => k136 x137 h26 [] []) fun x138 h139 _ _ => guardS x135 true h139 (fun k142 => load1 x138 h139 fun x143 r144 => k142 x143 h139 r144 []) fun x145 h146 r147 w148 => S112_542 r147 w148 h146 x135 x145 x29 ih x28 x27)
noncomputable def S112_544 (h26 : Hp) (x31 : IV) (x30 : IV) (x27 : IV) (ih : Handler) (x29 : IV) (h1 : Hp) (x28 : IV) (q24 : List IV → Hp → Option (IV × Hp)) : Option (IV × Hp) :=
  load1 x31 h26 fun x32 _ => lenS x32 fun x34 => ltS EE 3 x30 x34 fun x35 => condS x35 (faddrS 2 x27 fun x36 => S112_519 h26 x36 x30 ih x29 h1 x27 x28 q24) (faddrS 0 x27 fun x132 => S112_543 h26 x132 x29 ih x28 x27)
noncomputable def S112_545 (l25 : List IV) (h26 : Hp) (ih : Handler) (h1 : Hp) (q24 : List IV → Hp → Option (IV × Hp)) : Option (IV × Hp) :=
  uncS l25 fun x27 l508 => uncS l508 fun x28 l509 => uncS l509 fun x29 l510 => uncS l510 fun x30 _ => faddrS 2 x27 fun x31 => S112_544 h26 x31 x30 x27 ih x29 h1 x28 q24
noncomputable def S112_546 (x11 : IV) (x14 : IV) (h7 : Hp) (h1 : Hp) (x2 : IV) (x6 : IV) (n : Nat) (ih : Handler) : Option (IV × Hp) :=
  bldS [.fv (.int .i64 0), .fv (.int .i64 0), .nils] [(0, 1, x11), (1, 1, x14)] fun x16 => newS 117441541 (.row [.fv (.int .i64 0), .fv (.int .i64 0), .nils] false) (.ptr (.own 117441541) 0) h7 fun x17 h18 _ _ => storeA 3 x17 x16 h18 fun h21 _ _ => dropS (h1.own.map (·.1)) [117445638, 117448708] [x2, x6, x17, .fv (.int .i64 0)] h21 fun h512 => loopS n (fun q24 l25 h26 => S112_545 l25 h26 ih h1 q24) [x2, x6, x17, .fv (.int .i64 0)] h512
noncomputable def S112 (ih : Handler) (n : Nat) (x0 : IV) (h1 : Hp) : Option (IV × Hp) :=
  boxS 117440512 x0 h1 fun x2 h3 _ _ => newS 117440513 (.row [.fv (.int .i64 0), .fv (.int .i64 0), .nils] false) (.ptr (.own 117440513) 0) h3 fun x6 h7 _ _ => faddrS 0 x2 fun x10 => load1 x10 h7 fun x11 _ => faddrS 1 x2 fun x13 => load1 x13 h7 fun x14 _ => S112_546 x11 x14 h7 h1 x2 x6 n ih
theorem S112_ok (ih : Handler) (n : Nat) (x0 : IV) (h1 : Hp) : funS EE ih ft.get n 112 [x0] h1 = S112 ih n x0 h1 := by kernel_rfl
noncomputable def S113_135 (h28 : Hp) (x13 : IV) (x27 : IV) : Option (IV × Hp) :=
  storeA 3 x13 x27 h28 fun h31 _ _ => cellS true 3 x13 h31 fun x34 => outS1 [x34] h31
noncomputable def S113_136 (x40 : IV) (h14 : Hp) (x13 : IV) : Option (IV × Hp) :=
  subS EE 3 x40 (.fv (.int .i64 1)) fun x42 => bldS [.fv (.int .i64 0), .fv (.int .i64 0), .nils] [(0, 1, .fv (.int .i64 1)), (1, 1, x42)] fun x43 => storeA 3 x13 x43 h14 fun h44 _ _ => cellS true 3 x13 h44 fun x47 => outS1 [x47] h44
noncomputable def S113_137 (h50 : Hp) (x13 : IV) : Option (IV × Hp) :=
  cellS true 3 x13 h50 fun x53 => outS1 [x53] h50
noncomputable def S113_138 (x36 : IV) (x1 : IV) (x5 : IV) (h14 : Hp) (x13 : IV) : Option (IV × Hp) :=
  gtS EE 3 x36 x1 fun x38 => condS x38 (faddrS 1 x5 fun x39 => load1 x39 h14 fun x40 _ => S113_136 x40 h14 x13) (loadA 3 x5 h14 fun x48 _ => storeA 3 x13 x48 h14 fun h50 _ _ => S113_137 h50 x13)
noncomputable def S113_139 (x22 : IV) (x1 : IV) (h14 : Hp) (x9 : IV) (ih : Handler) (x2 : IV) (x13 : IV) (x5 : IV) : Option (IV × Hp) :=
  eqS EE 3 x22 x1 fun x24 => condS x24 (loadA 3 x9 h14 fun x25 _ => isoS [] false false ih 28 [x25, x2, .fv (.int .i64 0)] h14 fun x27 h28 _ _ => S113_135 h28 x13 x27) (faddrS 1 x5 fun x35 => load1 x35 h14 fun x36 _ => S113_138 x36 x1 x5 h14 x13)
noncomputable def S113_140 (x76 : IV) (h112 : Hp) (x111 : IV) (x77 : IV) (h4 : Hp) (x71 : IV) (x72 : IV) (x73 : IV) (x74 : IV) (x75 : IV) (q68 : List IV → Hp → Option (IV × Hp)) : Option (IV × Hp) :=
  faddrS 2 x76 fun x115 => store1 x115 x111 h112 fun h116 r117 w118 => chkS [] r117 w118 (addS EE 3 x77 (.fv (.int .i64 1)) fun x119 => dropS (h4.own.map (·.1)) [118501392] [x71, x72, x73, x74, x75, x76, x119] h116 fun h120 => q68 [x71, x72, x73, x74, x75, x76, x119] h120)
noncomputable def S113_141 (r105 : List Ref) (w106 : List Ref) (r92 : List Ref) (h104 : Hp) (x103 : IV) (x91 : IV) (x76 : IV) (x77 : IV) (h4 : Hp) (x71 : IV) (x72 : IV) (x73 : IV) (x74 : IV) (x75 : IV) (q68 : List IV → Hp → Option (IV × Hp)) : Option (IV × Hp) :=
  chkS [(r92, [])] r105 w106 (genS (pcBuildSlice EE 28 1 [(0, x103)]) 118501391 h104 fun x107 h108 r109 w110 => chkS [(r92, [])] r109 w110 (genS (builtinR EE 118501392 false .append [28, 28] [x91, x107]) 118501392 h108 fun x111 h112 r113 w114 => chkS [] r113 w114 (S113_140 x76 h112 x111 x77 h4 x71 x72 x73 x74 x75 q68)))
noncomputable def S113_142 (x71 : IV) (x86 : IV) (x72 : IV) (h87 : Hp) (x74 : IV) (r98 : List Ref) (r95 : List Ref) (r92 : List Ref) (ih : Handler) (x97 : IV) (x91 : IV) (x76 : IV) (x77 : IV) (h4 : Hp) (x73 : IV) (x75 : IV) (q68 : List IV → Hp → Option (IV × Hp)) : Option (IV × Hp) :=
  addS EE 3 x71 x86 fun x99 => addS EE 3 x72 x86 fun x100 => loadA 3 x74 h87 fun x101 r102 => chkS [(r98, []), (r95, []), (r92, [])] r102 [] (isoS [] false false ih 113 [x97, x99, x100, x101] h87 fun x103 h104 r105 w106 => S113_141 r105 w106 r92 h104 x103 x91 x76 x77 h4 x71 x72 x73 x74 x75 q68)
noncomputable def S113_143 (h87 : Hp) (x93 : IV) (r92 : List Ref) (x77 : IV) (x71 : IV) (x86 : IV) (x72 : IV) (x74 : IV) (ih : Handler) (x91 : IV) (x76 : IV) (h4 : Hp) (x73 : IV) (x75 : IV) (q68 : List IV → Hp → Option (IV × Hp)) : Option (IV × Hp) :=
  load1 x93 h87 fun x94 r95 => chkS [(r92, [])] r95 [] (ixS 3 x94 x77 fun x96 => loadA 3 x96 h87 fun x97 r98 => chkS [(r92, [])] r98 [] (S113_142 x71 x86 x72 h87 x74 r98 r95 r92 ih x97 x91 x76 x77 h4 x73 x75 q68))
noncomputable def S113_144 (ih : Handler) (h70 : Hp) (x84 : IV) (x77 : IV) (x76 : IV) (x73 : IV) (x71 : IV) (x72 : IV) (x74 : IV) (h4 : Hp) (x75 : IV) (q68 : List IV → Hp → Option (IV × Hp)) : Option (IV × Hp) :=
  isoS [] false false ih 48 [x84, x77] h70 fun x86 h87 _ _ => faddrS 2 x76 fun x90 => load1 x90 h87 fun x91 r92 => chkS [] r92 [] (faddrS 2 x73 fun x93 => S113_143 h87 x93 r92 x77 x71 x86 x72 x74 ih x91 x76 h4 x73 x75 q68)
noncomputable def S113_145 (h123 : Hp) (x75 : IV) : Option (IV × Hp) :=
  cellS true 3 x75 h123 fun x126 => outS1 [x126] h123
noncomputable def S113_146 (x77 : IV) (x81 : IV) (x73 : IV) (h70 : Hp) (ih : Handler) (x76 : IV) (x71 : IV) (x72 : IV) (x74 : IV) (h4 : Hp) (x75 : IV) (q68 : List IV → Hp → Option (IV × Hp)) : Option (IV × Hp) :=
  ltS EE 3 x77 x81 fun x82 => condS x82 (faddrS 0 x73 fun x83 => load1 x83 h70 fun x84 _ => S113_144 ih h70 x84 x77 x76 x73 x71 x72 x74 h4 x75 q68) (loadA 3 x76 h70 fun x121 _ => storeA 3 x75 x121 h70 fun h123 _ _ => S113_145 h123 x75)
noncomputable def S113_147 (l131 : List IV) (x73 : IV) (h70 : Hp) (ih : Handler) (x71 : IV) (x72 : IV) (x74 : IV) (h4 : Hp) (x75 : IV) (q68 : List IV → Hp → Option (IV × Hp)) : Option (IV × Hp) :=
  uncS l131 fun x76 l132 => uncS l132 fun x77 _ => faddrS 2 x73 fun x78 => load1 x78 h70 fun x79 _ => lenS x79 fun x81 => S113_146 x77 x81 x73 h70 ih x76 x71 x72 x74 h4 x75 q68
noncomputable def S113_148 (l69 : List IV) (h70 : Hp) (ih : Handler) (h4 : Hp) (q68 : List IV → Hp → Option (IV × Hp)) : Option (IV × Hp) :=
  uncS l69 fun x71 l127 => uncS l127 fun x72 l128 => uncS l128 fun x73 l129 => uncS l129 fun x74 l130 => uncS l130 fun x75 l131 => S113_147 l131 x73 h70 ih x71 x72 x74 h4 x75 q68
noncomputable def S113_149 (h4 : Hp) (h65 : Hp) (x1 : IV) (x2 : IV) (x5 : IV) (x9 : IV) (x13 : IV) (x61 : IV) (n : Nat) (ih : Handler) : Option (IV × Hp) :=
  dropS (h4.own.map (·.1)) [118501392] [x1, x2, x5, x9, x13, x61, .fv (.int .i64 0)] h65 fun h134 => loopS n (fun q68 l69 h70 => S113_148 l69 h70 ih h4 q68) [x1, x2, x5, x9, x13, x61, .fv (.int .i64 0)] h134
noncomputable def S113_150 (x5 : IV) (h14 : Hp) (x55 : IV) (h4 : Hp) (x1 : IV) (x2 : IV) (x9 : IV) (x13 : IV) (n : Nat) (ih : Handler) : Option (IV × Hp) :=
  faddrS 1 x5 fun x57 => load1 x57 h14 fun x58 _ => bldS [.fv (.int .i64 0), .fv (.int .i64 0), .nils] [(0, 1, x55), (1, 1, x58)] fun x60 => newS 118496261 (.row [.fv (.int .i64 0), .fv (.int .i64 0), .nils] false) (.ptr (.own 118496261) 0) h14 fun x61 h62 _ _ => storeA 3 x61 x60 h62 fun h65 _ _ => S113_149 h4 h65 x1 x2 x5 x9 x13 x61 n ih
noncomputable def S113_151 (x20 : IV) (x5 : IV) (h14 : Hp) (x1 : IV) (x9 : IV) (ih : Handler) (x2 : IV) (x13 : IV) (h4 : Hp) (n : Nat) : Option (IV × Hp) :=
  condS x20 (faddrS 1 x5 fun x21 => load1 x21 h14 fun x22 _ => S113_139 x22 x1 h14 x9 ih x2 x13 x5) (faddrS 0 x5 fun x54 => load1 x54 h14 fun x55 _ => S113_150 x5 h14 x55 h4 x1 x2 x9 x13 n ih)
noncomputable def S113 (ih : Handler) (n : Nat) (x0 : IV) (x1 : IV) (x2 : IV) (x3 : IV) (h4 : Hp) : Option (IV × Hp) :=
  boxS 118489088 x0 h4 fun x5 h6 _ _ => boxS 118489089 x3 h6 fun x9 h10 _ _ => newS 118489090 (.row [.fv (.int .i64 0), .fv (.int .i64 0), .nils] false) (.ptr (.own 118489090) 0) h10 fun x13 h14 _ _ => faddrS 0 x5 fun x17 => load1 x17 h14 fun x18 _ => eqS EE 3 x18 (.fv (.int .i64 1)) fun x20 => S113_151 x20 x5 h14 x1 x9 ih x2 x13 h4 n
theorem S113_ok (ih : Handler) (n : Nat) (x0 : IV) (x1 : IV) (x2 : IV) (x3 : IV) (h4 : Hp) : funS EE ih ft.get n 113 [x0, x1, x2, x3] h4 = S113 ih n x0 x1 x2 x3 h4 := by kernel_rfl
noncomputable def S115_49 (ih : Handler) (h28 : Hp) (x27 : IV) (x22 : IV) (x23 : IV) (q17 : List IV → Hp → Option (IV × Hp)) (x20 : IV) (x21 : IV) : Option (IV × Hp) :=
  isoS [] false false ih 30 [.fv (.int .i64 12), x27] h28 fun x31 h32 _ _ => storeA 3 x22 x31 h32 fun h35 _ _ => addS EE 3 x23 (.fv (.int .i64 1)) fun x38 => q17 [x20, x21, x22, x38] h35
noncomputable def S115_50 (h41 : Hp) (x21 : IV) : Option (IV × Hp) :=
  cellS true 3 x21 h41 fun x44 => outS1 [x44] h41
noncomputable def S115_51 (x24 : IV) (h19 : Hp) (x22 : IV) (ih : Handler) (x23 : IV) (q17 : List IV → Hp → Option (IV × Hp)) (x20 : IV) (x21 : IV) : Option (IV × Hp) :=
  condS x24 (loadA 3 x22 h19 fun x25 _ => genS (pcBuildSlice EE 28 1 [(0, x25)]) 120591361 h19 fun x27 h28 _ _ => S115_49 ih h28 x27 x22 x23 q17 x20 x21) (loadA 3 x22 h19 fun x39 _ => storeA 3 x21 x39 h19 fun h41 _ _ => S115_50 h41 x21)
noncomputable def S115_52 (l18 : List IV) (h19 : Hp) (ih : Handler) (q17 : List IV → Hp → Option (IV × Hp)) : Option (IV × Hp) :=
  uncS l18 fun x20 l45 => uncS l45 fun x21 l46 => uncS l46 fun x22 l47 => uncS l47 fun x23 _ => ltS EE 3 x23 x20 fun x24 => S115_51 x24 h19 x22 ih x23 q17 x20 x21
noncomputable def S115 (ih : Handler) (n : Nat) (x0 : IV) (h1 : Hp) : Option (IV × Hp) :=
  newS 120586240 (.row [.fv (.int .i64 0), .fv (.int .i64 0), .nils] false) (.ptr (.own 120586240) 0) h1 fun x2 h3 _ _ => isoS [] false false ih 30 [.fv (.int .i64 11), .nils] h3 fun x6 h7 _ _ => newS 120587265 (.row [.fv (.int .i64 0), .fv (.int .i64 0), .nils] false) (.ptr (.own 120587265) 0) h7 fun x10 h11 _ _ => storeA 3 x10 x6 h11 fun h14 _ _ => loopS n (fun q17 l18 h19 => S115_52 l18 h19 ih q17) [x0, x2, x10, .fv (.int .i64 0)] h14
theorem S115_ok (ih : Handler) (n : Nat) (x0 : IV) (h1 : Hp) : funS EE ih ft.get n 115 [x0] h1 = S115 ih n x0 h1 := by kernel_rfl
noncomputable def S116_54 (x45 : IV) (h42 : Hp) (x15 : IV) (h3 : Hp) (x11 : IV) (x12 : IV) (x13 : IV) (x14 : IV) (q8 : List IV → Hp → Option (IV × Hp)) : Option (IV × Hp) :=
  condS x45 (outS1 [.fv (.bool false)] h42) (addS EE 3 x15 (.fv (.int .i64 1)) fun x46 => dropS (h3.own.map (·.1)) [121639939, 121640964] [x11, x12, x13, x14, x46] h42 fun h47 => q8 [x11, x12, x13, x14, x46] h47)
noncomputable def S116_55 (h31 : Hp) (x30 : IV) (x28 : IV) (x20 : IV) (ih : Handler) (x12 : IV) (x15 : IV) (h3 : Hp) (x11 : IV) (x13 : IV) (x14 : IV) (q8 : List IV → Hp → Option (IV × Hp)) : Option (IV × Hp) :=
  storeA 3 x30 x28 h31 fun h34 _ _ => loadA 3 x20 h34 fun x37 _ => loadA 3 x30 h34 fun x39 _ => dynS EE ih x12 [x37, x39] h34 fun x41 h42 _ _ => optS (unR .not x41) fun x45 => S116_54 x45 h42 x15 h3 x11 x12 x13 x14 q8
noncomputable def S116_56 (h10 : Hp) (x18 : IV) (x11 : IV) (x15 : IV) (ih : Handler) (x12 : IV) (h3 : Hp) (x13 : IV) (x14 : IV) (q8 : List IV → Hp → Option (IV × Hp)) : Option (IV × Hp) :=
  newS 121639939 (.row [.fv (.int .i64 0), .fv (.int .i64 0), .nils] false) (.ptr (.own 121639939) 0) h10 fun x20 h21 _ _ => storeA 3 x20 x18 h21 fun h24 _ _ => ixS 3 x11 x15 fun x27 => loadA 3 x27 h24 fun x28 _ => newS 121640964 (.row [.fv (.int .i64 0), .fv (.int .i64 0), .nils] false) (.ptr (.own 121640964) 0) h24 fun x30 h31 _ _ => S116_55 h31 x30 x28 x20 ih x12 x15 h3 x11 x13 x14 q8
noncomputable def S116_57 (x15 : IV) (x14 : IV) (x13 : IV) (h10 : Hp) (x11 : IV) (ih : Handler) (x12 : IV) (h3 : Hp) (q8 : List IV → Hp → Option (IV × Hp)) : Option (IV × Hp) :=
  ltS EE 3 x15 x14 fun x16 => condS x16 (ixS 3 x13 x15 fun x17 => loadA 3 x17 h10 fun x18 _ => S116_56 h10 x18 x11 x15 ih x12 h3 x13 x14 q8) (outS1 [.fv (.bool true)] h10)
noncomputable def S116_58 (l9 : List IV) (h10 : Hp) (ih : Handler) (h3 : Hp) (q8 : List IV → Hp → Option (IV × Hp)) : Option (IV × Hp) :=
  uncS l9 fun x11 l48 => uncS l48 fun x12 l49 => uncS l49 fun x13 l50 => uncS l50 fun x14 l51 => uncS l51 fun x15 _ => S116_57 x15 x14 x13 h10 x11 ih x12 h3 q8
noncomputable def S116_59 (h3 : Hp) (x1 : IV) (x2 : IV) (x0 : IV) (x7 : IV) (n : Nat) (ih : Handler) : Option (IV × Hp) :=
  dropS (h3.own.map (·.1)) [121639939, 121640964] [x1, x2, x0, x7, .fv (.int .i64 0)] h3 fun h53 => loopS n (fun q8 l9 h10 => S116_58 l9 h10 ih h3 q8) [x1, x2, x0, x7, .fv (.int .i64 0)] h53
noncomputable def S116 (ih : Handler) (n : Nat) (x0 : IV) (x1 : IV) (x2 : IV) (h3 : Hp) : Option (IV × Hp) :=
  lenS x0 fun x4 => lenS x1 fun x5 => neS EE 3 x4 x5 fun x6 => condS x6 (outS1 [.fv (.bool false)] h3) (lenS x0 fun x7 => S116_59 h3 x1 x2 x0 x7 n ih)
theorem S116_ok (ih : Handler) (n : Nat) (x0 : IV) (x1 : IV) (x2 : IV) (h3 : Hp) : funS EE ih ft.get n 116 [x0, x1, x2] h3 = S116 ih n x0 x1 x2 h3 := by kernel_rfl
noncomputable def S117_29 (x0 : IV) (h13 : Hp) : Option (IV × Hp) :=
  nilS x0 fun x14 => faddrS 2 x14 fun x15 => load1 x15 h13 fun x16 _ => eqS EE 3 x16 (.fv (.int .i64 0)) fun x18 => outS1 [x18] h13
noncomputable def S117_30 (h9 : Hp) (x25 : IV) (j0_12 : Hp → Option (IV × Hp)) : Option (IV × Hp) :=
  store1 x25 (.fv (.int .i64 17)) h9 fun h26 _ _ => j0_12 h26
noncomputable def S117_31 (x21 : IV) (x0 : IV) (h9 : Hp) (j0_12 : Hp → Option (IV × Hp)) : Option (IV × Hp) :=
  gtS EE 3 x21 (.fv (.int .i64 1000)) fun x23 => condS x23 (nilS x0 fun x24 => faddrS 2 x24 fun x25 => S117_30 h9 x25 j0_12) (j0_12 h9)
noncomputable def S117_32 (h1 : Hp) (x8 : IV) (x6 : IV) (x0 : IV) : Option (IV × Hp) :=
  store1 x8 x6 h1 fun h9 _ _ => (fun (j0_12 : Hp → Option (IV × Hp)) => nilS x0 fun x19 => faddrS 0 x19 fun x20 => load1 x20 h9 fun x21 _ => S117_31 x21 x0 h9 j0_12) fun h13 => S117_29 x0 h13
noncomputable def S117 (ih : Handler) (n : Nat) (x0 : IV) (h1 : Hp) : Option (IV × Hp) :=
  nilS x0 fun x2 => faddrS 0 x2 fun x3 => load1 x3 h1 fun x4 _ => addS EE 3 x4 (.fv (.int .i64 1)) fun x6 => nilS x0 fun x7 => faddrS 0 x7 fun x8 => S117_32 h1 x8 x6 x0
theorem S117_ok (ih : Handler) (n : Nat) (x0 : IV) (h1 : Hp) : funS EE ih ft.get n 117 [x0] h1 = S117 ih n x0 h1 := by kernel_rfl
noncomputable def S118_48 (h4 : Hp) (x11 : IV) (x1 : IV) : Option (IV × Hp) :=
  load1 x11 h4 fun x12 _ => eqS EE 3 x12 x1 fun x14 => outS1 [x14] h4
noncomputable def S118_49 (x18 : IV) (x35 : IV) (ih : Handler) (h36 : Hp) (x30 : IV) (x20 : IV) (q15 : List IV → Hp → Option (IV × Hp)) (x19 : IV) : Option (IV × Hp) :=
  addS EE 3 x18 x35 fun x39 => isoS [] false false ih 118 [x30, x39] h36 fun x40 h41 r42 w43 => chkS [] r42 w43 (condS x40 (outS1 [.fv (.bool true)] h41) (addS EE 3 x20 (.fv (.int .i64 1)) fun x44 => q15 [x18, x19, x44] h41))
noncomputable def S118_50 (x19 : IV) (h17 : Hp) (r31 : List Ref) (r28 : List Ref) (ih : Handler) (x20 : IV) (x18 : IV) (x30 : IV) (q15 : List IV → Hp → Option (IV × Hp)) : Option (IV × Hp) :=
  faddrS 0 x19 fun x32 => load1 x32 h17 fun x33 r34 => chkS [(r31, []), (r28, [])] r34 [] (isoS [] false false ih 48 [x33, x20] h17 fun x35 h36 r37 w38 => chkS [(r31, []), (r28, [])] r37 w38 (S118_49 x18 x35 ih h36 x30 x20 q15 x19))
noncomputable def S118_51 (h17 : Hp) (x26 : IV) (x20 : IV) (x19 : IV) (ih : Handler) (x18 : IV) (q15 : List IV → Hp → Option (IV × Hp)) : Option (IV × Hp) :=
  load1 x26 h17 fun x27 r28 => chkS [] r28 [] (ixS 3 x27 x20 fun x29 => loadA 3 x29 h17 fun x30 r31 => chkS [] r31 [] (S118_50 x19 h17 r31 r28 ih x20 x18 x30 q15))
noncomputable def S118_52 (x22 : IV) (x20 : IV) (x19 : IV) (h17 : Hp) (ih : Handler) (x18 : IV) (q15 : List IV → Hp → Option (IV × Hp)) : Option (IV × Hp) :=
  lenS x22 fun x24 => ltS EE 3 x20 x24 fun x25 => condS x25 (faddrS 2 x19 fun x26 => S118_51 h17 x26 x20 x19 ih x18 q15) (outS1 [.fv (.bool false)] h17)
noncomputable def S118_53 (l16 : List IV) (h17 : Hp) (ih : Handler) (q15 : List IV → Hp → Option (IV × Hp)) : Option (IV × Hp) :=
  uncS l16 fun x18 l45 => uncS l45 fun x19 l46 => uncS l46 fun x20 _ => faddrS 2 x19 fun x21 => load1 x21 h17 fun x22 _ => S118_52 x22 x20 x19 h17 ih x18 q15
noncomputable def S118 (ih : Handler) (n : Nat) (x0 : IV) (x1 : IV) (h2 : Hp) : Option (IV × Hp) :=
  boxS 123731968 x0 h2 fun x3 h4 _ _ => faddrS 0 x3 fun x7 => load1 x7 h4 fun x8 _ => eqS EE 3 x8 (.fv (.int .i64 1)) fun x10 => condS x10 (faddrS 1 x3 fun x11 => S118_48 h4 x11 x1) (loopS n (fun q15 l16 h17 => S118_53 l16 h17 ih q15) [x1, x3, .fv (.int .i64 0)] h4)
theorem S118_ok (ih : Handler) (n : Nat) (x0 : IV) (x1 : IV) (h2 : Hp) : funS EE ih ft.get n 118 [x0, x1] h2 = S118 ih n x0 x1 h2 := by kernel_rfl
end Idl
end Go.Proofs.Ytdibmackcbpniaa
namespace Go.Proofs.Ytdibmackcbpniaa
namespace Idl
noncomputable def dt : DT :=
 .node 56 (.node 33 (.node 18 (.node 13 (.node 9 (.node 3 (.leaf 2 (fun ih n => ar0 (S2 ih n)))
 (.leaf 3 (fun ih n => ar4 (S3 ih n))))
 (.node 11 (.leaf 9 (fun ih n => ar3 (S9 ih n)))
 (.node 12 (.leaf 11 (fun ih n => ar0 (S11 ih n)))
 (.leaf 12 (fun ih n => ar1 (S12 ih n))))))
 (.node 15 (.node 14 (.leaf 13 (fun ih n => ar1 (S13 ih n)))
 (.leaf 14 (fun ih n => ar2 (S14 ih n))))
 (.node 16 (.leaf 15 (fun ih n => ar2 (S15 ih n)))
 (.node 17 (.leaf 16 (fun ih n => ar3 (S16 ih n)))
 (.leaf 17 (fun ih n => ar2 (S17 ih n)))))))
 (.node 25 (.node 20 (.node 19 (.leaf 18 (fun ih n => ar2 (S18 ih n)))
 (.leaf 19 (fun ih n => ar2 (S19 ih n))))
 (.node 21 (.leaf 20 (fun ih n => ar1 (S20 ih n)))
 (.node 23 (.leaf 21 (fun ih n => ar1 (S21 ih n)))
 (.leaf 23 (fun ih n => ar2 (S23 ih n))))))
 (.node 30 (.node 28 (.leaf 25 (fun ih n => ar1 (S25 ih n)))
 (.node 29 (.leaf 28 (fun ih n => ar3 (S28 ih n)))
 (.leaf 29 (fun ih n => ar1 (S29 ih n)))))
 (.node 31 (.leaf 30 (fun ih n => ar2 (S30 ih n)))
 (.node 32 (.leaf 31 (fun ih n => ar1 (S31 ih n)))
 (.leaf 32 (fun ih n => ar2 (S32 ih n))))))))
 (.node 45 (.node 40 (.node 36 (.node 35 (.leaf 33 (fun ih n => ar3 (S33 ih n)))
 (.leaf 35 (fun ih n => ar2 (S35 ih n))))
 (.node 37 (.leaf 36 (fun ih n => ar2 (S36 ih n)))
 (.node 38 (.leaf 37 (fun ih n => ar1 (S37 ih n)))
 (.leaf 38 (fun ih n => ar1 (S38 ih n))))))
 (.node 42 (.node 41 (.leaf 40 (fun ih n => ar2 (S40 ih n)))
 (.leaf 41 (fun ih n => ar2 (S41 ih n))))
 (.node 43 (.leaf 42 (fun ih n => ar2 (S42 ih n)))
 (.node 44 (.leaf 43 (fun ih n => ar4 (S43 ih n)))
 (.leaf 44 (fun ih n => ar1 (S44 ih n)))))))
 (.node 50 (.node 47 (.node 46 (.leaf 45 (fun ih n => ar2 (S45 ih n)))
 (.leaf 46 (fun ih n => ar1 (S46 ih n))))
 (.node 48 (.leaf 47 (fun ih n => ar2 (S47 ih n)))
 (.node 49 (.leaf 48 (fun ih n => ar2 (S48 ih n)))
 (.leaf 49 (fun ih n => ar1 (S49 ih n))))))
 (.node 53 (.node 51 (.leaf 50 (fun ih n => ar2 (S50 ih n)))
 (.node 52 (.leaf 51 (fun ih n => ar1 (S51 ih n)))
 (.leaf 52 (fun ih n => ar1 (S52 ih n)))))
 (.node 54 (.leaf 53 (fun ih n => ar2 (S53 ih n)))
 (.node 55 (.leaf 54 (fun ih n => ar1 (S54 ih n)))
 (.leaf 55 (fun ih n => ar2 (S55 ih n)))))))))
 (.node 96 (.node 73 (.node 68 (.node 60 (.node 58 (.leaf 56 (fun ih n => ar3 (S56 ih n)))
 (.leaf 58 (fun ih n => ar1 (S58 ih n))))
 (.node 64 (.leaf 60 (fun ih n => ar1 (S60 ih n)))
 (.node 67 (.leaf 64 (fun ih n => ar2 (S64 ih n)))
 (.leaf 67 (fun ih n => ar1 (S67 ih n))))))
 (.node 70 (.node 69 (.leaf 68 (fun ih n => ar4 (S68 ih n)))
 (.leaf 69 (fun ih n => ar3 (S69 ih n))))
 (.node 71 (.leaf 70 (fun ih n => ar4 (S70 ih n)))
 (.node 72 (.leaf 71 (fun ih n => ar3 (S71 ih n)))
 (.leaf 72 (fun ih n => ar2 (S72 ih n)))))))
 (.node 78 (.node 75 (.node 74 (.leaf 73 (fun ih n => ar3 (S73 ih n)))
 (.leaf 74 (fun ih n => ar2 (S74 ih n))))
 (.node 76 (.leaf 75 (fun ih n => ar2 (S75 ih n)))
 (.node 77 (.leaf 76 (fun ih n => ar2 (S76 ih n)))
 (.leaf 77 (fun ih n => ar3 (S77 ih n))))))
 (.node 81 (.node 79 (.leaf 78 (fun ih n => ar2 (S78 ih n)))
 (.node 80 (.leaf 79 (fun ih n => ar2 (S79 ih n)))
 (.leaf 80 (fun ih n => ar2 (S80 ih n)))))
 (.node 82 (.leaf 81 (fun ih n => ar4 (S81 ih n)))
 (.node 89 (.leaf 82 (fun ih n => ar3 (S82 ih n)))
 (.leaf 89 (fun ih n => ar3 (S89 ih n))))))))
 (.node 106 (.node 101 (.node 98 (.node 97 (.leaf 96 (fun ih n => ar3 (S96 ih n)))
 (.leaf 97 (fun ih n => ar4 (S97 ih n))))
 (.node 99 (.leaf 98 (fun ih n => ar4 (S98 ih n)))
 (.node 100 (.leaf 99 (fun ih n => ar0 (S99 ih n)))
 (.leaf 100 (fun ih n => ar4 (S100 ih n))))))
 (.node 103 (.node 102 (.leaf 101 (fun ih n => ar4 (S101 ih n)))
 (.leaf 102 (fun ih n => ar1 (S102 ih n))))
 (.node 104 (.leaf 103 (fun ih n => ar2 (S103 ih n)))
 (.node 105 (.leaf 104 (fun ih n => ar2 (S104 ih n)))
 (.leaf 105 (fun ih n => ar2 (S105 ih n)))))))
 (.node 112 (.node 108 (.node 107 (.leaf 106 (fun ih n => ar1 (S106 ih n)))
 (.leaf 107 (fun ih n => ar1 (S107 ih n))))
 (.node 109 (.leaf 108 (fun ih n => ar3 (S108 ih n)))
 (.node 110 (.leaf 109 (fun ih n => ar2 (S109 ih n)))
 (.leaf 110 (fun ih n => ar2 (S110 ih n))))))
 (.node 116 (.node 113 (.leaf 112 (fun ih n => ar1 (S112 ih n)))
 (.node 115 (.leaf 113 (fun ih n => ar4 (S113 ih n)))
 (.leaf 115 (fun ih n => ar1 (S115 ih n)))))
 (.node 117 (.leaf 116 (fun ih n => ar3 (S116 ih n)))
 (.node 118 (.leaf 117 (fun ih n => ar1 (S117 ih n)))
 (.leaf 118 (fun ih n => ar2 (S118 ih n)))))))))
theorem dt_ok : dt.Ok EE ft.get :=
 ⟨⟨⟨⟨⟨⟨(fun ih n _ _ _ e => ar0_ok (F := funS EE ih ft.get n 2) (S2_ok ih n) e),
 (fun ih n _ _ _ e => ar4_ok (F := funS EE ih ft.get n 3) (S3_ok ih n) e)⟩,
 ⟨(fun ih n _ _ _ e => ar3_ok (F := funS EE ih ft.get n 9) (S9_ok ih n) e),
 ⟨(fun ih n _ _ _ e => ar0_ok (F := funS EE ih ft.get n 11) (S11_ok ih n) e),
 (fun ih n _ _ _ e => ar1_ok (F := funS EE ih ft.get n 12) (S12_ok ih n) e)⟩⟩⟩,
 ⟨⟨(fun ih n _ _ _ e => ar1_ok (F := funS EE ih ft.get n 13) (S13_ok ih n) e),
 (fun ih n _ _ _ e => ar2_ok (F := funS EE ih ft.get n 14) (S14_ok ih n) e)⟩,
 ⟨(fun ih n _ _ _ e => ar2_ok (F := funS EE ih ft.get n 15) (S15_ok ih n) e),
 ⟨(fun ih n _ _ _ e => ar3_ok (F := funS EE ih ft.get n 16) (S16_ok ih n) e),
 (fun ih n _ _ _ e => ar2_ok (F := funS EE ih ft.get n 17) (S17_ok ih n) e)⟩⟩⟩⟩,
 ⟨⟨⟨(fun ih n _ _ _ e => ar2_ok (F := funS EE ih ft.get n 18) (S18_ok ih n) e),
 (fun ih n _ _ _ e => ar2_ok (F := funS EE ih ft.get n 19) (S19_ok ih n) e)⟩,
 ⟨(fun ih n _ _ _ e => ar1_ok (F := funS EE ih ft.get n 20) (S20_ok ih n) e),
 ⟨(fun ih n _ _ _ e => ar1_ok (F := funS EE ih ft.get n 21) (S21_ok ih n) e),
 (fun ih n _ _ _ e => ar2_ok (F := funS EE ih ft.get n 23) (S23_ok ih n) e)⟩⟩⟩,
 ⟨⟨(fun ih n _ _ _ e => ar1_ok (F := funS EE ih ft.get n 25) (S25_ok ih n) e),
 ⟨(fun ih n _ _ _ e => ar3_ok (F := funS EE ih ft.get n 28) (S28_ok ih n) e),
 (fun ih n _ _ _ e => ar1_ok (F := funS EE ih ft.get n 29) (S29_ok ih n) e)⟩⟩,
 ⟨(fun ih n _ _ _ e => ar2_ok (F := funS EE ih ft.get n 30) (S30_ok ih n) e),
 ⟨(fun ih n _ _ _ e => ar1_ok (F := funS EE ih ft.get n 31) (S31_ok ih n) e),
 (fun ih n _ _ _ e => ar2_ok (F := funS EE ih ft.get n 32) (S32_ok ih n) e)⟩⟩⟩⟩⟩,
 ⟨⟨⟨⟨(fun ih n _ _ _ e => ar3_ok (F := funS EE ih ft.get n 33) (S33_ok ih n) e),
 (fun ih n _ _ _ e => ar2_ok (F := funS EE ih ft.get n 35) (S35_ok ih n) e)⟩,
 ⟨(fun ih n _ _ _ e => ar2_ok (F := funS EE ih ft.get n 36) (S36_ok ih n) e),
 ⟨(fun ih n _ _ _ e => ar1_ok (F := funS EE ih ft.get n 37) (S37_ok ih n) e),
 (fun ih n _ _ _ e => ar1_ok (F := funS EE ih ft.get n 38) (S38_ok ih n) e)⟩⟩⟩,
 ⟨⟨(fun ih n _ _ _ e => ar2_ok (F := funS EE ih ft.get n 40) (S40_ok ih n) e),
 (fun ih n _ _ _ e => ar2_ok (F := funS EE ih ft.get n 41) (S41_ok ih n) e)⟩,
 ⟨(fun ih n _ _ _ e => ar2_ok (F := funS EE ih ft.get n 42) (S42_ok ih n) e),
 ⟨(fun ih n _ _ _ e => ar4_ok (F := funS EE ih ft.get n 43) (S43_ok ih n) e),
 (fun ih n _ _ _ e => ar1_ok (F := funS EE ih ft.get n 44) (S44_ok ih n) e)⟩⟩⟩⟩,
 ⟨⟨⟨(fun ih n _ _ _ e => ar2_ok (F := funS EE ih ft.get n 45) (S45_ok ih n) e),
 (fun ih n _ _ _ e => ar1_ok (F := funS EE ih ft.get n 46) (S46_ok ih n) e)⟩,
 ⟨(fun ih n _ _ _ e => ar2_ok (F := funS EE ih ft.get n 47) (S47_ok ih n) e),
 ⟨(fun ih n _ _ _ e => ar2_ok (F := funS EE ih ft.get n 48) (S48_ok ih n) e),
 (fun ih n _ _ _ e => ar1_ok (F := funS EE ih ft.get n 49) (S49_ok ih n) e)⟩⟩⟩,
 ⟨⟨(fun ih n _ _ _ e => ar2_ok (F := funS EE ih ft.get n 50) (S50_ok ih n) e),
 ⟨(fun ih n _ _ _ e => ar1_ok (F := funS EE ih ft.get n 51) (S51_ok ih n) e),
 (fun ih n _ _ _ e => ar1_ok (F := funS EE ih ft.get n 52) (S52_ok ih n) e)⟩⟩,
 ⟨(fun ih n _ _ _ e => ar2_ok (F := funS EE ih ft.get n 53) (S53_ok ih n) e),
 ⟨(fun ih n _ _ _ e => ar1_ok (F := funS EE ih ft.get n 54) (S54_ok ih n) e),
 (fun ih n _ _ _ e => ar2_ok (F := funS EE ih ft.get n 55) (S55_ok ih n) e)⟩⟩⟩⟩⟩⟩,
 ⟨⟨⟨⟨⟨(fun ih n _ _ _ e => ar3_ok (F := funS EE ih ft.get n 56) (S56_ok ih n) e),
 (fun ih n _ _ _ e => ar1_ok (F := funS EE ih ft.get n 58) (S58_ok ih n) e)⟩,
 ⟨(fun ih n _ _ _ e => ar1_ok (F := funS EE ih ft.get n 60) (S60_ok ih n) e),
 ⟨(fun ih n _ _ _ e => ar2_ok (F := funS EE ih ft.get n 64) (S64_ok ih n) e),
 (fun ih n _ _ _ e => ar1_ok (F := funS EE ih ft.get n 67) (S67_ok ih n) e)⟩⟩⟩,
 ⟨⟨(fun ih n _ _ _ e => ar4_ok (F := funS EE ih ft.get n 68) (S68_ok ih n) e),
 (fun ih n _ _ _ e => ar3_ok (F := funS EE ih ft.get n 69) (S69_ok ih n) e)⟩,
 ⟨(fun ih n _ _ _ e => ar4_ok (F := funS EE ih ft.get n 70) (S70_ok ih n) e),
 ⟨(fun ih n _ _ _ e => ar3_ok (F := funS EE ih ft.get n 71) (S71_ok ih n) e),
 (fun ih n _ _ _ e => ar2_ok (F := funS EE ih ft.get n 72) (S72_ok ih n) e)⟩⟩⟩⟩,
 ⟨⟨⟨(fun ih n _ _ _ e => ar3_ok (F := funS EE ih ft.get n 73) (S73_ok ih n) e),
 (fun ih n _ _ _ e => ar2_ok (F := funS EE ih ft.get n 74) (S74_ok ih n) e)⟩,
 ⟨(fun ih n _ _ _ e => ar2_ok (F := funS EE ih ft.get n 75) (S75_ok ih n) e),
 ⟨(fun ih n _ _ _ e => ar2_ok (F := funS EE ih ft.get n 76) (S76_ok ih n) e),
 (fun ih n _ _ _ e => ar3_ok (F := funS EE ih ft.get n 77) (S77_ok ih n) e)⟩⟩⟩,
 ⟨⟨(fun ih n _ _ _ e => ar2_ok (F := funS EE ih ft.get n 78) (S78_ok ih n) e),
 ⟨(fun ih n _ _ _ e => ar2_ok (F := funS EE ih ft.get n 79) (S79_ok ih n) e),
 (fun ih n _ _ _ e => ar2_ok (F := funS EE ih ft.get n 80) (S80_ok ih n) e)⟩⟩,
 ⟨(fun ih n _ _ _ e => ar4_ok (F := funS EE ih ft.get n 81) (S81_ok ih n) e),
 ⟨(fun ih n _ _ _ e => ar3_ok (F := funS EE ih ft.get n 82) (S82_ok ih n) e),
 (fun ih n _ _ _ e => ar3_ok (F := funS EE ih ft.get n 89) (S89_ok ih n) e)⟩⟩⟩⟩⟩,
 ⟨⟨⟨⟨(fun ih n _ _ _ e => ar3_ok (F := funS EE ih ft.get n 96) (S96_ok ih n) e),
 (fun ih n _ _ _ e => ar4_ok (F := funS EE ih ft.get n 97) (S97_ok ih n) e)⟩,
 ⟨(fun ih n _ _ _ e => ar4_ok (F := funS EE ih ft.get n 98) (S98_ok ih n) e),
 ⟨(fun ih n _ _ _ e => ar0_ok (F := funS EE ih ft.get n 99) (S99_ok ih n) e),
 (fun ih n _ _ _ e => ar4_ok (F := funS EE ih ft.get n 100) (S100_ok ih n) e)⟩⟩⟩,
 ⟨⟨(fun ih n _ _ _ e => ar4_ok (F := funS EE ih ft.get n 101) (S101_ok ih n) e),
 (fun ih n _ _ _ e => ar1_ok (F := funS EE ih ft.get n 102) (S102_ok ih n) e)⟩,
 ⟨(fun ih n _ _ _ e => ar2_ok (F := funS EE ih ft.get n 103) (S103_ok ih n) e),
 ⟨(fun ih n _ _ _ e => ar2_ok (F := funS EE ih ft.get n 104) (S104_ok ih n) e),
 (fun ih n _ _ _ e => ar2_ok (F := funS EE ih ft.get n 105) (S105_ok ih n) e)⟩⟩⟩⟩,
 ⟨⟨⟨(fun ih n _ _ _ e => ar1_ok (F := funS EE ih ft.get n 106) (S106_ok ih n) e),
 (fun ih n _ _ _ e => ar1_ok (F := funS EE ih ft.get n 107) (S107_ok ih n) e)⟩,
 ⟨(fun ih n _ _ _ e => ar3_ok (F := funS EE ih ft.get n 108) (S108_ok ih n) e),
 ⟨(fun ih n _ _ _ e => ar2_ok (F := funS EE ih ft.get n 109) (S109_ok ih n) e),
 (fun ih n _ _ _ e => ar2_ok (F := funS EE ih ft.get n 110) (S110_ok ih n) e)⟩⟩⟩,
 ⟨⟨(fun ih n _ _ _ e => ar1_ok (F := funS EE ih ft.get n 112) (S112_ok ih n) e),
 ⟨(fun ih n _ _ _ e => ar4_ok (F := funS EE ih ft.get n 113) (S113_ok ih n) e),
 (fun ih n _ _ _ e => ar1_ok (F := funS EE ih ft.get n 115) (S115_ok ih n) e)⟩⟩,
 ⟨(fun ih n _ _ _ e => ar3_ok (F := funS EE ih ft.get n 116) (S116_ok ih n) e),
 ⟨(fun ih n _ _ _ e => ar1_ok (F := funS EE ih ft.get n 117) (S117_ok ih n) e),
 (fun ih n _ _ _ e => ar2_ok (F := funS EE ih ft.get n 118) (S118_ok ih n) e)⟩⟩⟩⟩⟩⟩⟩
theorem sh_run : ∀ n f args h x, SS dt n f args h = some x → run EE n f args h = some x := SS_ok ft_ok dt_ok
end Idl
end Go.Proofs.Ytdibmackcbpniaa

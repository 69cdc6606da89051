/-
  THE SHALLOW FORM OF THE SEAT'S FUNCTIONS, a part; each is what its code's shallow run is. Printed by a program of mine (gen-sh). No statement is proved here.
-/
import Derived.Test.YtbkdidonegggdaaTab
import Derived.Test.YtbkdidonegggdaaIdl31
set_option maxRecDepth 100000
set_option linter.unusedVariables false
namespace Go.Proofs.Ytbkdidonegggdaa
namespace Idl
/-! Function 70. -/
noncomputable def S70_629 (r121 : List Ref) (w122 : List Ref) (h120 : Hp) (x119 : IV) : Option (IV × Hp) :=
  chkS [] r121 w122 (outS1 [x119] h120)
noncomputable def S70_630 (h79 : Hp) (x109 : IV) (r103 : List Ref) (r99 : List Ref) (ih : Handler) (x102 : IV) (x0 : IV) (x98 : IV) : Option (IV × Hp) :=
  genS (pcBuildSlice EE 93 1 [(0, x109)]) 73406479 h79 fun x111 h112 r113 w114 => chkS [(r103, []), (r99, [])] r113 w114 (isoS [] false false ih 69 [x102, x111] h112 fun x115 h116 r117 w118 => chkS [(r99, [])] r117 w118 (isoS [true, false, false] false false ih 49 [x0, x98, x115] h116 fun x119 h120 r121 w122 => S70_629 r121 w122 h120 x119))
noncomputable def S70_631 (h79 : Hp) (x105 : IV) (r103 : List Ref) (r99 : List Ref) (ih : Handler) (x102 : IV) (x0 : IV) (x98 : IV) : Option (IV × Hp) :=
  load1 x105 h79 fun x106 r107 => chkS [(r103, []), (r99, [])] r107 [] (ixS 1 x106 (.fv (.int .i64 1)) fun x108 => load1 x108 h79 fun x109 r110 => chkS [(r103, []), (r99, [])] r110 [] (S70_630 h79 x109 r103 r99 ih x102 x0 x98))
noncomputable def S70_632 (x100 : IV) (h79 : Hp) (r99 : List Ref) (x1 : IV) (ih : Handler) (x0 : IV) (x98 : IV) : Option (IV × Hp) :=
  faddrS 3 x100 fun x101 => load1 x101 h79 fun x102 r103 => chkS [(r99, [])] r103 [] (nilS x1 fun x104 => faddrS 2 x104 fun x105 => S70_631 h79 x105 r103 r99 ih x102 x0 x98)
noncomputable def S70_633 (x94 : IV) (h79 : Hp) (x1 : IV) (ih : Handler) (x0 : IV) : Option (IV × Hp) :=
  nilS x94 fun x96 => faddrS 4 x96 fun x97 => loadA 3 x97 h79 fun x98 r99 => chkS [] r99 [] (nilS x94 fun x100 => S70_632 x100 h79 r99 x1 ih x0 x98)
noncomputable def S70_634 (x87 : IV) (h79 : Hp) (x1 : IV) (ih : Handler) (x0 : IV) : Option (IV × Hp) :=
  nilS x87 fun x89 => faddrS 2 x89 fun x90 => load1 x90 h79 fun x91 _ => ixS 1 x91 (.fv (.int .i64 1)) fun x93 => load1 x93 h79 fun x94 _ => S70_633 x94 h79 x1 ih x0
noncomputable def S70_635 (x1 : IV) (h79 : Hp) (ih : Handler) (x0 : IV) : Option (IV × Hp) :=
  nilS x1 fun x82 => faddrS 2 x82 fun x83 => load1 x83 h79 fun x84 _ => ixS 1 x84 (.fv (.int .i64 0)) fun x86 => load1 x86 h79 fun x87 _ => S70_634 x87 h79 x1 ih x0
noncomputable def S70_636 (x235 : IV) (x242 : IV) (h223 : Hp) : Option (IV × Hp) :=
  ixS 1 x235 x242 fun x243 => load1 x243 h223 fun x244 r245 => chkS [] r245 [] (outS1 [x244] h223)
noncomputable def S70_637 (x237 : IV) (h223 : Hp) (r236 : List Ref) (r232 : List Ref) (r229 : List Ref) (x235 : IV) : Option (IV × Hp) :=
  faddrS 0 x237 fun x238 => load1 x238 h223 fun x239 r240 => chkS [(r236, []), (r232, []), (r229, [])] r240 [] (addS EE 3 (.fv (.int .i64 1)) x239 fun x241 => subS EE 3 x241 (.fv (.int .i64 8)) fun x242 => S70_636 x235 x242 h223)
noncomputable def S70_638 (x231 : IV) (h223 : Hp) (x1 : IV) (r232 : List Ref) (r229 : List Ref) : Option (IV × Hp) :=
  nilS x231 fun x233 => faddrS 2 x233 fun x234 => load1 x234 h223 fun x235 r236 => chkS [] r236 [] (nilS x1 fun x237 => S70_637 x237 h223 r236 r232 r229 x235)
noncomputable def S70_639 (h223 : Hp) (x227 : IV) (x1 : IV) : Option (IV × Hp) :=
  load1 x227 h223 fun x228 r229 => chkS [] r229 [] (ixS 1 x228 (.fv (.int .i64 0)) fun x230 => load1 x230 h223 fun x231 r232 => chkS [] r232 [] (S70_638 x231 h223 x1 r232 r229))
noncomputable def S70_640 (ih : Handler) (h218 : Hp) (x0 : IV) (x1 : IV) (j0_3 : Hp → Option (IV × Hp)) : Option (IV × Hp) :=
  isoS [true] false false ih 86 [x0] h218 fun x222 h223 _ _ => condS x222 (nilS x1 fun x226 => faddrS 2 x226 fun x227 => S70_639 h223 x227 x1) (j0_3 h223)
noncomputable def S70_641 (x258 : IV) (h250 : Hp) : Option (IV × Hp) :=
  nilS x258 fun x260 => faddrS 2 x260 fun x261 => load1 x261 h250 fun x262 _ => ixS 1 x262 (.fv (.int .i64 0)) fun x264 => load1 x264 h250 fun x265 _ => outS1 [x265] h250
noncomputable def S70_642 (x1 : IV) (h250 : Hp) : Option (IV × Hp) :=
  nilS x1 fun x253 => faddrS 2 x253 fun x254 => load1 x254 h250 fun x255 _ => ixS 1 x255 (.fv (.int .i64 0)) fun x257 => load1 x257 h250 fun x258 _ => S70_641 x258 h250
noncomputable def S70_643 (h336 : Hp) (x340 : IV) : Option (IV × Hp) :=
  load1 x340 h336 fun x341 _ => ixS 1 x341 (.fv (.int .i64 1)) fun x343 => load1 x343 h336 fun x344 _ => outS1 [x344] h336
noncomputable def S70_644 (x335 : IV) (x1 : IV) (h336 : Hp) (j0_3 : Hp → Option (IV × Hp)) : Option (IV × Hp) :=
  condS x335 (nilS x1 fun x339 => faddrS 2 x339 fun x340 => S70_643 h336 x340) (j0_3 h336)
noncomputable def S70_645 (r483 : List Ref) (w484 : List Ref) (r480 : List Ref) (r476 : List Ref) (ih : Handler) (h482 : Hp) (x479 : IV) (x481 : IV) (x0 : IV) (x475 : IV) : Option (IV × Hp) :=
  chkS [(r480, []), (r476, [])] r483 w484 (isoS [] false false ih 69 [x479, x481] h482 fun x485 h486 r487 w488 => chkS [(r476, [])] r487 w488 (isoS [true, false, false] false false ih 49 [x0, x475, x485] h486 fun x489 h490 r491 w492 => chkS [] r491 w492 (outS1 [x489] h490)))
noncomputable def S70_646 (x471 : IV) (h463 : Hp) (r476 : List Ref) (x430 : IV) (x462 : IV) (ih : Handler) (x0 : IV) (x475 : IV) : Option (IV × Hp) :=
  nilS x471 fun x477 => faddrS 3 x477 fun x478 => load1 x478 h463 fun x479 r480 => chkS [(r476, [])] r480 [] (genS (pcBuildSlice EE 93 2 [(0, x430), (1, x462)]) 73422859 h463 fun x481 h482 r483 w484 => S70_645 r483 w484 r480 r476 ih h482 x479 x481 x0 x475)
noncomputable def S70_647 (h463 : Hp) (x470 : IV) (x430 : IV) (x462 : IV) (ih : Handler) (x0 : IV) : Option (IV × Hp) :=
  load1 x470 h463 fun x471 _ => nilS x471 fun x473 => faddrS 4 x473 fun x474 => loadA 3 x474 h463 fun x475 r476 => chkS [] r476 [] (S70_646 x471 h463 r476 x430 x462 ih x0 x475)
noncomputable def S70_648 (r464 : List Ref) (w465 : List Ref) (x1 : IV) (h463 : Hp) (x430 : IV) (x462 : IV) (ih : Handler) (x0 : IV) : Option (IV × Hp) :=
  chkS [] r464 w465 (nilS x1 fun x466 => faddrS 2 x466 fun x467 => load1 x467 h463 fun x468 _ => ixS 1 x468 (.fv (.int .i64 2)) fun x470 => S70_647 h463 x470 x430 x462 ih x0)
noncomputable def S70_649 (r455 : List Ref) (w456 : List Ref) (x453 : IV) (h454 : Hp) (ih : Handler) (x0 : IV) (x1 : IV) (x430 : IV) : Option (IV × Hp) :=
  chkS [] r455 w456 (bldS [.fv (.int .i64 0), .fv (.int .i64 0), .nils, .nils, .fv (.int .i64 0), .fv (.int .i64 0), .nils] [(0, 1, .fv (.int .i64 13)), (2, 1, x453)] fun x457 => boxS 73420822 x457 h454 fun x458 h459 r460 w461 => chkS [] r460 w461 (isoS [true, false] false false ih 70 [x0, x458] h459 fun x462 h463 r464 w465 => S70_648 r464 w465 x1 h463 x430 x462 ih x0))
noncomputable def S70_650 (r449 : List Ref) (r445 : List Ref) (r442 : List Ref) (r438 : List Ref) (r435 : List Ref) (x448 : IV) (h415 : Hp) (x437 : IV) (x444 : IV) (x430 : IV) (ih : Handler) (x0 : IV) (x1 : IV) : Option (IV × Hp) :=
  chkS [(r445, []), (r442, []), (r438, []), (r435, [])] r449 [] (ixS 1 x448 (.fv (.int .i64 2)) fun x450 => load1 x450 h415 fun x451 r452 => chkS [(r445, []), (r442, []), (r438, []), (r435, [])] r452 [] (genS (pcBuildSlice EE 93 4 [(0, x437), (1, x444), (2, x451), (3, x430)]) 73420820 h415 fun x453 h454 r455 w456 => S70_649 r455 w456 x453 h454 ih x0 x1 x430))
noncomputable def S70_651 (h415 : Hp) (x443 : IV) (r438 : List Ref) (r435 : List Ref) (x1 : IV) (r442 : List Ref) (x437 : IV) (x430 : IV) (ih : Handler) (x0 : IV) : Option (IV × Hp) :=
  load1 x443 h415 fun x444 r445 => chkS [(r438, []), (r435, [])] r445 [] (nilS x1 fun x446 => faddrS 2 x446 fun x447 => load1 x447 h415 fun x448 r449 => S70_650 r449 r445 r442 r438 r435 x448 h415 x437 x444 x430 ih x0 x1)
noncomputable def S70_652 (x1 : IV) (h415 : Hp) (r438 : List Ref) (r435 : List Ref) (x437 : IV) (x430 : IV) (ih : Handler) (x0 : IV) : Option (IV × Hp) :=
  nilS x1 fun x439 => faddrS 2 x439 fun x440 => load1 x440 h415 fun x441 r442 => chkS [(r438, []), (r435, [])] r442 [] (ixS 1 x441 (.fv (.int .i64 1)) fun x443 => S70_651 h415 x443 r438 r435 x1 r442 x437 x430 ih x0)
noncomputable def S70_653 (h415 : Hp) (x433 : IV) (x1 : IV) (x430 : IV) (ih : Handler) (x0 : IV) : Option (IV × Hp) :=
  load1 x433 h415 fun x434 r435 => chkS [] r435 [] (ixS 1 x434 (.fv (.int .i64 0)) fun x436 => load1 x436 h415 fun x437 r438 => chkS [] r438 [] (S70_652 x1 h415 r438 r435 x437 x430 ih x0))
noncomputable def S70_654 (h415 : Hp) (x426 : IV) (x1 : IV) (ih : Handler) (x0 : IV) : Option (IV × Hp) :=
  load1 x426 h415 fun x427 _ => ixS 1 x427 (.fv (.int .i64 0)) fun x429 => load1 x429 h415 fun x430 _ => nilS x1 fun x432 => faddrS 2 x432 fun x433 => S70_653 h415 x433 x1 x430 ih x0
noncomputable def S70_655 (h415 : Hp) (x419 : IV) (x1 : IV) (ih : Handler) (x0 : IV) : Option (IV × Hp) :=
  load1 x419 h415 fun x420 _ => ixS 1 x420 (.fv (.int .i64 3)) fun x422 => load1 x422 h415 fun x423 _ => nilS x423 fun x425 => faddrS 2 x425 fun x426 => S70_654 h415 x426 x1 ih x0
noncomputable def S70_656 (ih : Handler) (h410 : Hp) (x0 : IV) (x1 : IV) (j0_3 : Hp → Option (IV × Hp)) : Option (IV × Hp) :=
  isoS [true] false false ih 86 [x0] h410 fun x414 h415 _ _ => condS x414 (nilS x1 fun x418 => faddrS 2 x418 fun x419 => S70_655 h415 x419 x1 ih x0) (j0_3 h415)
noncomputable def S70_657 (h391 : Hp) (x350 : IV) (x390 : IV) (ih : Handler) (x0 : IV) (x1 : IV) (j0_3 : Hp → Option (IV × Hp)) : Option (IV × Hp) :=
  guardS x350 true h391 (fun k394 => faddrS 0 x390 fun x395 => k394 x395 h391 [] []) fun x396 h397 _ _ => guardS x350 true h397 (fun k400 => load1 x396 h397 fun x401 r402 => k400 x401 h397 r402 []) fun x403 h404 _ _ => guardS x350 true h404 (fun k407 => eqS EE 3 x403 (.fv (.int .i64 12)) fun x408 => k407 x408 h404 [] []) fun x409 h410 _ _ => pickS x350 x409 (.fv (.bool false)) fun x413 => condS x413 (S70_656 ih h410 x0 x1 j0_3) (j0_3 h410)
noncomputable def S70_658 (h359 : Hp) (x350 : IV) (x358 : IV) (ih : Handler) (x0 : IV) (x1 : IV) (j0_3 : Hp → Option (IV × Hp)) : Option (IV × Hp) :=
  guardS x350 true h359 (fun k362 => faddrS 2 x358 fun x363 => k362 x363 h359 [] []) fun x364 h365 _ _ => guardS x350 true h365 (fun k368 => load1 x364 h365 fun x369 r370 => k368 x369 h365 r370 []) fun x371 h372 _ _ => guardS x350 true h372 (fun k375 => ixS 1 x371 (.fv (.int .i64 3)) fun x376 => k375 x376 h372 [] []) fun x377 h378 _ _ => guardS x350 true h378 (fun k381 => load1 x377 h378 fun x382 r383 => k381 x382 h378 r383 []) fun x384 h385 _ _ => guardS x350 true h385 (fun k388 => nilS x384 fun x389 => k388 x389 h385 [] []) fun x390 h391 _ _ => S70_657 h391 x350 x390 ih x0 x1 j0_3
noncomputable def S70_659 (x346 : IV) (h331 : Hp) (x1 : IV) (ih : Handler) (x0 : IV) (j0_3 : Hp → Option (IV × Hp)) : Option (IV × Hp) :=
  faddrS 0 x346 fun x347 => load1 x347 h331 fun x348 _ => eqS EE 3 x348 (.fv (.int .i64 13)) fun x350 => guardS x350 true h331 (fun k351 => k351 x1 h331 [] []) fun x352 h353 _ _ => guardS x350 true h353 (fun k356 => nilS x352 fun x357 => k356 x357 h353 [] []) fun x358 h359 _ _ => S70_658 h359 x350 x358 ih x0 x1 j0_3
noncomputable def S70_660 (h318 : Hp) (x271 : IV) (x317 : IV) (ih : Handler) (x0 : IV) (x1 : IV) (j0_3 : Hp → Option (IV × Hp)) : Option (IV × Hp) :=
  guardS x271 true h318 (fun k321 => load1 x317 h318 fun x322 r323 => k321 x322 h318 r323 []) fun x324 h325 _ _ => guardS x271 true h325 (fun k328 => eqS EE 3 x324 (.fv (.int .i64 11)) fun x329 => k328 x329 h325 [] []) fun x330 h331 _ _ => pickS x271 x330 (.fv (.bool false)) fun x334 => condS x334 (isoS [true] false false ih 86 [x0] h331 fun x335 h336 _ _ => S70_644 x335 x1 h336 j0_3) (nilS x1 fun x346 => S70_659 x346 h331 x1 ih x0 j0_3)
noncomputable def S70_661 (h286 : Hp) (x271 : IV) (x285 : IV) (ih : Handler) (x0 : IV) (x1 : IV) (j0_3 : Hp → Option (IV × Hp)) : Option (IV × Hp) :=
  guardS x271 true h286 (fun k289 => load1 x285 h286 fun x290 r291 => k289 x290 h286 r291 []) fun x292 h293 _ _ => guardS x271 true h293 (fun k296 => ixS 1 x292 (.fv (.int .i64 3)) fun x297 => k296 x297 h293 [] []) fun x298 h299 _ _ => guardS x271 true h299 (fun k302 => load1 x298 h299 fun x303 r304 => k302 x303 h299 r304 []) fun x305 h306 _ _ => guardS x271 true h306 (fun k309 => nilS x305 fun x310 => k309 x310 h306 [] []) fun x311 h312 _ _ => guardS x271 true h312 (fun k315 => faddrS 0 x311 fun x316 => k315 x316 h312 [] []) fun x317 h318 _ _ => S70_660 h318 x271 x317 ih x0 x1 j0_3
noncomputable def S70_662 (h248 : Hp) (x268 : IV) (x1 : IV) (ih : Handler) (x0 : IV) (j0_3 : Hp → Option (IV × Hp)) : Option (IV × Hp) :=
  load1 x268 h248 fun x269 _ => eqS EE 3 x269 (.fv (.int .i64 13)) fun x271 => guardS x271 true h248 (fun k272 => k272 x1 h248 [] []) fun x273 h274 _ _ => guardS x271 true h274 (fun k277 => nilS x273 fun x278 => k277 x278 h274 [] []) fun x279 h280 _ _ => guardS x271 true h280 (fun k283 => faddrS 2 x279 fun x284 => k283 x284 h280 [] []) fun x285 h286 _ _ => S70_661 h286 x271 x285 ih x0 x1 j0_3
noncomputable def S70_663 (x247 : IV) (ih : Handler) (h248 : Hp) (x0 : IV) (x1 : IV) (j0_3 : Hp → Option (IV × Hp)) : Option (IV × Hp) :=
  condS x247 (isoS [true] false false ih 86 [x0] h248 fun x249 h250 _ _ => condS x249 (S70_642 x1 h250) (j0_3 h250)) (nilS x1 fun x267 => faddrS 0 x267 fun x268 => S70_662 h248 x268 x1 ih x0 j0_3)
noncomputable def S70_664 (h612 : Hp) (x565 : IV) (x611 : IV) (j1_246 : IV → Hp → Option (IV × Hp)) : Option (IV × Hp) :=
  guardS x565 true h612 (fun k615 => load1 x611 h612 fun x616 r617 => k615 x616 h612 r617 []) fun x618 h619 _ _ => guardS x565 true h619 (fun k622 => eqS EE 3 x618 (.fv (.int .i64 30)) fun x623 => k622 x623 h619 [] []) fun x624 h625 _ _ => pickS x565 x624 (.fv (.bool false)) fun x628 => j1_246 x628 h625
noncomputable def S70_665 (h580 : Hp) (x565 : IV) (x579 : IV) (j1_246 : IV → Hp → Option (IV × Hp)) : Option (IV × Hp) :=
  guardS x565 true h580 (fun k583 => load1 x579 h580 fun x584 r585 => k583 x584 h580 r585 []) fun x586 h587 _ _ => guardS x565 true h587 (fun k590 => ixS 1 x586 (.fv (.int .i64 0)) fun x591 => k590 x591 h587 [] []) fun x592 h593 _ _ => guardS x565 true h593 (fun k596 => load1 x592 h593 fun x597 r598 => k596 x597 h593 r598 []) fun x599 h600 _ _ => guardS x565 true h600 (fun k603 => nilS x599 fun x604 => k603 x604 h600 [] []) fun x605 h606 _ _ => guardS x565 true h606 (fun k609 => faddrS 0 x605 fun x610 => k609 x610 h606 [] []) fun x611 h612 _ _ => S70_664 h612 x565 x611 j1_246
noncomputable def S70_666 (h557 : Hp) (x562 : IV) (x1 : IV) (j1_246 : IV → Hp → Option (IV × Hp)) : Option (IV × Hp) :=
  load1 x562 h557 fun x563 _ => eqS EE 3 x563 (.fv (.int .i64 19)) fun x565 => guardS x565 true h557 (fun k566 => k566 x1 h557 [] []) fun x567 h568 _ _ => guardS x565 true h568 (fun k571 => nilS x567 fun x572 => k571 x572 h568 [] []) fun x573 h574 _ _ => guardS x565 true h574 (fun k577 => faddrS 2 x573 fun x578 => k577 x578 h574 [] []) fun x579 h580 _ _ => S70_665 h580 x565 x579 j1_246
noncomputable def S70_667 (x497 : IV) (x556 : IV) (j1_246 : IV → Hp → Option (IV × Hp)) (h557 : Hp) (x1 : IV) : Option (IV × Hp) :=
  pickS x497 x556 (.fv (.bool false)) fun x560 => condS x560 (j1_246 x560 h557) (nilS x1 fun x561 => faddrS 0 x561 fun x562 => S70_666 h557 x562 x1 j1_246)
noncomputable def S70_668 (h525 : Hp) (x497 : IV) (x524 : IV) (j1_246 : IV → Hp → Option (IV × Hp)) (x1 : IV) : Option (IV × Hp) :=
  guardS x497 true h525 (fun k528 => load1 x524 h525 fun x529 r530 => k528 x529 h525 r530 []) fun x531 h532 _ _ => guardS x497 true h532 (fun k535 => nilS x531 fun x536 => k535 x536 h532 [] []) fun x537 h538 _ _ => guardS x497 true h538 (fun k541 => faddrS 0 x537 fun x542 => k541 x542 h538 [] []) fun x543 h544 _ _ => guardS x497 true h544 (fun k547 => load1 x543 h544 fun x548 r549 => k547 x548 h544 r549 []) fun x550 h551 _ _ => guardS x497 true h551 (fun k554 => eqS EE 3 x550 (.fv (.int .i64 19)) fun x555 => k554 x555 h551 [] []) fun x556 h557 _ _ => S70_667 x497 x556 j1_246 h557 x1
noncomputable def S70_669 (h218 : Hp) (x497 : IV) (x1 : IV) (j1_246 : IV → Hp → Option (IV × Hp)) : Option (IV × Hp) :=
  guardS x497 true h218 (fun k498 => k498 x1 h218 [] []) fun x499 h500 _ _ => guardS x497 true h500 (fun k503 => nilS x499 fun x504 => k503 x504 h500 [] []) fun x505 h506 _ _ => guardS x497 true h506 (fun k509 => faddrS 2 x505 fun x510 => k509 x510 h506 [] []) fun x511 h512 _ _ => guardS x497 true h512 (fun k515 => load1 x511 h512 fun x516 r517 => k515 x516 h512 r517 []) fun x518 h519 _ _ => guardS x497 true h519 (fun k522 => ixS 1 x518 (.fv (.int .i64 0)) fun x523 => k522 x523 h519 [] []) fun x524 h525 _ _ => S70_668 h525 x497 x524 j1_246 x1
noncomputable def S70_670 (ih : Handler) (x0 : IV) (x1 : IV) (j0_3 : Hp → Option (IV × Hp)) (h218 : Hp) : Option (IV × Hp) :=
  (fun (j1_246 : IV → Hp → Option (IV × Hp)) => nilS x1 fun x493 => faddrS 0 x493 fun x494 => load1 x494 h218 fun x495 _ => eqS EE 3 x495 (.fv (.int .i64 30)) fun x497 => S70_669 h218 x497 x1 j1_246) fun x247 h248 => S70_663 x247 ih h248 x0 x1 j0_3
noncomputable def S70_671 (h199 : Hp) (x158 : IV) (x198 : IV) (ih : Handler) (x0 : IV) (x1 : IV) (j0_3 : Hp → Option (IV × Hp)) : Option (IV × Hp) :=
  guardS x158 true h199 (fun k202 => faddrS 0 x198 fun x203 => k202 x203 h199 [] []) fun x204 h205 _ _ => guardS x158 true h205 (fun k208 => load1 x204 h205 fun x209 r210 => k208 x209 h205 r210 []) fun x211 h212 _ _ => guardS x158 true h212 (fun k215 => eqS EE 3 x211 (.fv (.int .i64 7)) fun x216 => k215 x216 h212 [] []) fun x217 h218 _ _ => pickS x158 x217 (.fv (.bool false)) fun x221 => condS x221 (S70_640 ih h218 x0 x1 j0_3) (S70_670 ih x0 x1 j0_3 h218)
noncomputable def S70_672 (h167 : Hp) (x158 : IV) (x166 : IV) (ih : Handler) (x0 : IV) (x1 : IV) (j0_3 : Hp → Option (IV × Hp)) : Option (IV × Hp) :=
  guardS x158 true h167 (fun k170 => faddrS 2 x166 fun x171 => k170 x171 h167 [] []) fun x172 h173 _ _ => guardS x158 true h173 (fun k176 => load1 x172 h173 fun x177 r178 => k176 x177 h173 r178 []) fun x179 h180 _ _ => guardS x158 true h180 (fun k183 => ixS 1 x179 (.fv (.int .i64 0)) fun x184 => k183 x184 h180 [] []) fun x185 h186 _ _ => guardS x158 true h186 (fun k189 => load1 x185 h186 fun x190 r191 => k189 x190 h186 r191 []) fun x192 h193 _ _ => guardS x158 true h193 (fun k196 => nilS x192 fun x197 => k196 x197 h193 [] []) fun x198 h199 _ _ => S70_671 h199 x158 x198 ih x0 x1 j0_3
noncomputable def S70_673 (h142 : Hp) (x127 : IV) (x141 : IV) (x1 : IV) (ih : Handler) (x0 : IV) (j0_3 : Hp → Option (IV × Hp)) : Option (IV × Hp) :=
  guardS x127 false h142 (fun k145 => load1 x141 h142 fun x146 r147 => k145 x146 h142 r147 []) fun x148 h149 _ _ => guardS x127 false h149 (fun k152 => eqS EE 3 x148 (.fv (.int .i64 9)) fun x153 => k152 x153 h149 [] []) fun x154 h155 _ _ => pickS x127 (.fv (.bool true)) x154 fun x158 => guardS x158 true h155 (fun k159 => k159 x1 h155 [] []) fun x160 h161 _ _ => guardS x158 true h161 (fun k164 => nilS x160 fun x165 => k164 x165 h161 [] []) fun x166 h167 _ _ => S70_672 h167 x158 x166 ih x0 x1 j0_3
noncomputable def S70_674 (h74 : Hp) (x124 : IV) (x1 : IV) (ih : Handler) (x0 : IV) (j0_3 : Hp → Option (IV × Hp)) : Option (IV × Hp) :=
  load1 x124 h74 fun x125 _ => eqS EE 3 x125 (.fv (.int .i64 8)) fun x127 => guardS x127 false h74 (fun k128 => k128 x1 h74 [] []) fun x129 h130 _ _ => guardS x127 false h130 (fun k133 => nilS x129 fun x134 => k133 x134 h130 [] []) fun x135 h136 _ _ => guardS x127 false h136 (fun k139 => faddrS 0 x135 fun x140 => k139 x140 h136 [] []) fun x141 h142 _ _ => S70_673 h142 x127 x141 x1 ih x0 j0_3
noncomputable def S70_675 (x77 : IV) (ih : Handler) (h74 : Hp) (x0 : IV) (x1 : IV) (j0_3 : Hp → Option (IV × Hp)) : Option (IV × Hp) :=
  condS x77 (isoS [true] false false ih 86 [x0] h74 fun x78 h79 _ _ => condS x78 (S70_635 x1 h79 ih x0) (j0_3 h79)) (nilS x1 fun x123 => faddrS 0 x123 fun x124 => S70_674 h74 x124 x1 ih x0 j0_3)
noncomputable def S70_676 (h49 : Hp) (x14 : IV) (x48 : IV) (ih : Handler) (x0 : IV) (x1 : IV) (j0_3 : Hp → Option (IV × Hp)) : Option (IV × Hp) :=
  guardS x14 true h49 (fun k52 => nilS x48 fun x53 => k52 x53 h49 [] []) fun x54 h55 _ _ => guardS x14 true h55 (fun k58 => faddrS 0 x54 fun x59 => k58 x59 h55 [] []) fun x60 h61 _ _ => guardS x14 true h61 (fun k64 => load1 x60 h61 fun x65 r66 => k64 x65 h61 r66 []) fun x67 h68 _ _ => guardS x14 true h68 (fun k71 => eqS EE 3 x67 (.fv (.int .i64 4)) fun x72 => k71 x72 h68 [] []) fun x73 h74 _ _ => pickS x14 x73 (.fv (.bool false)) fun x77 => S70_675 x77 ih h74 x0 x1 j0_3
noncomputable def S70_677 (h17 : Hp) (x14 : IV) (x16 : IV) (ih : Handler) (x0 : IV) (x1 : IV) (j0_3 : Hp → Option (IV × Hp)) : Option (IV × Hp) :=
  guardS x14 true h17 (fun k20 => nilS x16 fun x21 => k20 x21 h17 [] []) fun x22 h23 _ _ => guardS x14 true h23 (fun k26 => faddrS 2 x22 fun x27 => k26 x27 h23 [] []) fun x28 h29 _ _ => guardS x14 true h29 (fun k32 => load1 x28 h29 fun x33 r34 => k32 x33 h29 r34 []) fun x35 h36 _ _ => guardS x14 true h36 (fun k39 => ixS 1 x35 (.fv (.int .i64 0)) fun x40 => k39 x40 h36 [] []) fun x41 h42 _ _ => guardS x14 true h42 (fun k45 => load1 x41 h42 fun x46 r47 => k45 x46 h42 r47 []) fun x48 h49 _ _ => S70_676 h49 x14 x48 ih x0 x1 j0_3
noncomputable def S70_678 (x1 : IV) (h2 : Hp) (ih : Handler) (x0 : IV) (j0_3 : Hp → Option (IV × Hp)) : Option (IV × Hp) :=
  nilS x1 fun x10 => faddrS 0 x10 fun x11 => load1 x11 h2 fun x12 _ => eqS EE 3 x12 (.fv (.int .i64 5)) fun x14 => guardS x14 true h2 (fun k15 => k15 x1 h2 [] []) fun x16 h17 _ _ => S70_677 h17 x14 x16 ih x0 x1 j0_3
noncomputable def S70 (ih : Handler) (n : Nat) (x0 : IV) (x1 : IV) (h2 : Hp) : Option (IV × Hp) :=
  (fun (j0_3 : Hp → Option (IV × Hp)) => nilS x0 fun x5 => faddrS 2 x5 fun x6 => load1 x6 h2 fun x7 _ => neS EE 3 x7 (.fv (.int .i64 0)) fun x9 => condS x9 (outS1 [x1] h2) (S70_678 x1 h2 ih x0 j0_3)) fun h4 => outS1 [x1] h4
theorem S70_ok (ih : Handler) (n : Nat) (x0 : IV) (x1 : IV) (h2 : Hp) : funS EE ih ft.get n 70 [x0, x1] h2 = S70 ih n x0 x1 h2 := by kernel_rfl
/-! Function 71. -/
noncomputable def S71_17 (x0 : IV) (h7 : Hp) : Option (IV × Hp) :=
  eqS EE 3 x0 (.fv (.int .i64 13)) fun x9 => condS x9 (outS1 [.fv (.int .i64 4)] h7) (outS1 [.fv (.int .i64 (-1))] h7)
noncomputable def S71_18 (x6 : IV) (h7 : Hp) (x0 : IV) : Option (IV × Hp) :=
  condS x6 (outS1 [.fv (.int .i64 2)] h7) (eqS EE 3 x0 (.fv (.int .i64 7)) fun x8 => condS x8 (outS1 [.fv (.int .i64 3)] h7) (S71_17 x0 h7))
noncomputable def S71_19 (x10 : IV) (j1_5 : IV → Hp → Option (IV × Hp)) (h4 : Hp) (x0 : IV) : Option (IV × Hp) :=
  condS x10 (j1_5 x10 h4) (eqS EE 3 x0 (.fv (.int .i64 5)) fun x11 => j1_5 x11 h4)
noncomputable def S71_20 (x3 : IV) (h4 : Hp) (x0 : IV) : Option (IV × Hp) :=
  condS x3 (outS1 [.fv (.int .i64 1)] h4) ((fun (j1_5 : IV → Hp → Option (IV × Hp)) => eqS EE 3 x0 (.fv (.int .i64 4)) fun x10 => S71_19 x10 j1_5 h4 x0) fun x6 h7 => S71_18 x6 h7 x0)
noncomputable def S71_21 (x0 : IV) (j1_2 : IV → Hp → Option (IV × Hp)) (h1 : Hp) : Option (IV × Hp) :=
  eqS EE 3 x0 (.fv (.int .i64 30)) fun x16 => j1_2 x16 h1
noncomputable def S71_22 (x0 : IV) (j1_2 : IV → Hp → Option (IV × Hp)) (h1 : Hp) : Option (IV × Hp) :=
  eqS EE 3 x0 (.fv (.int .i64 12)) fun x14 => condS x14 (j1_2 x14 h1) (eqS EE 3 x0 (.fv (.int .i64 19)) fun x15 => condS x15 (j1_2 x15 h1) (S71_21 x0 j1_2 h1))
noncomputable def S71 (ih : Handler) (n : Nat) (x0 : IV) (h1 : Hp) : Option (IV × Hp) :=
  (fun (j1_2 : IV → Hp → Option (IV × Hp)) => eqS EE 3 x0 (.fv (.int .i64 8)) fun x12 => condS x12 (j1_2 x12 h1) (eqS EE 3 x0 (.fv (.int .i64 9)) fun x13 => condS x13 (j1_2 x13 h1) (S71_22 x0 j1_2 h1))) fun x3 h4 => S71_20 x3 h4 x0
theorem S71_ok (ih : Handler) (n : Nat) (x0 : IV) (h1 : Hp) : funS EE ih ft.get n 71 [x0] h1 = S71 ih n x0 h1 := by kernel_rfl
/-! Function 72. -/
noncomputable def S72_30 (ih : Handler) (h23 : Hp) (x0 : IV) (x8 : IV) (x22 : IV) : Option (IV × Hp) :=
  isoS [true, false, false, false] false false ih 81 [x0, x8, .fv (.int .i64 1), x22] h23 fun x26 h27 _ _ => outS1 [x26] h27
noncomputable def S72_31 (x15 : IV) (h2 : Hp) (ih : Handler) (x0 : IV) (x8 : IV) : Option (IV × Hp) :=
  faddrS 2 x15 fun x16 => load1 x16 h2 fun x17 _ => ixS 1 x17 (.fv (.int .i64 1)) fun x19 => load1 x19 h2 fun x20 _ => genS (pcBuildSlice EE 104 1 [(0, x20)]) 75500552 h2 fun x22 h23 _ _ => S72_30 ih h23 x0 x8 x22
noncomputable def S72_32 (x10 : IV) (h2 : Hp) (x1 : IV) (ih : Handler) (x0 : IV) (x8 : IV) : Option (IV × Hp) :=
  faddrS 0 x10 fun x11 => load1 x11 h2 fun x12 _ => eqS EE 3 x12 (.fv (.int .i64 4)) fun x14 => condS x14 (nilS x1 fun x15 => S72_31 x15 h2 ih x0 x8) (outS1 [.fv .nilp] h2)
noncomputable def S72 (ih : Handler) (n : Nat) (x0 : IV) (x1 : IV) (h2 : Hp) : Option (IV × Hp) :=
  nilS x1 fun x3 => faddrS 2 x3 fun x4 => load1 x4 h2 fun x5 _ => ixS 1 x5 (.fv (.int .i64 0)) fun x7 => load1 x7 h2 fun x8 _ => nilS x8 fun x10 => S72_32 x10 h2 x1 ih x0 x8
theorem S72_ok (ih : Handler) (n : Nat) (x0 : IV) (x1 : IV) (h2 : Hp) : funS EE ih ft.get n 72 [x0, x1] h2 = S72 ih n x0 x1 h2 := by kernel_rfl
/-! Function 73. -/
noncomputable def S73_34 (x20 : IV) (h2 : Hp) : Option (IV × Hp) :=
  faddrS 2 x20 fun x21 => load1 x21 h2 fun x22 _ => ixS 1 x22 (.fv (.int .i64 1)) fun x24 => load1 x24 h2 fun x25 _ => outS1 [x25] h2
noncomputable def S73_35 (x27 : IV) (h2 : Hp) : Option (IV × Hp) :=
  faddrS 2 x27 fun x28 => load1 x28 h2 fun x29 _ => ixS 1 x29 (.fv (.int .i64 2)) fun x31 => load1 x31 h2 fun x32 _ => outS1 [x32] h2
noncomputable def S73_36 (x15 : IV) (h2 : Hp) (x8 : IV) : Option (IV × Hp) :=
  faddrS 0 x15 fun x16 => load1 x16 h2 fun x17 _ => eqS EE 3 x17 (.fv (.int .i64 8)) fun x19 => condS x19 (nilS x8 fun x20 => S73_34 x20 h2) (nilS x8 fun x27 => S73_35 x27 h2)
noncomputable def S73_37 (x10 : IV) (h2 : Hp) (x1 : IV) (x8 : IV) : Option (IV × Hp) :=
  faddrS 0 x10 fun x11 => load1 x11 h2 fun x12 _ => neS EE 3 x12 (.fv (.int .i64 7)) fun x14 => condS x14 (outS1 [.fv .nilp] h2) (nilS x1 fun x15 => S73_36 x15 h2 x8)
noncomputable def S73 (ih : Handler) (n : Nat) (x0 : IV) (x1 : IV) (h2 : Hp) : Option (IV × Hp) :=
  nilS x1 fun x3 => faddrS 2 x3 fun x4 => load1 x4 h2 fun x5 _ => ixS 1 x5 (.fv (.int .i64 0)) fun x7 => load1 x7 h2 fun x8 _ => nilS x8 fun x10 => S73_37 x10 h2 x1 x8
theorem S73_ok (ih : Handler) (n : Nat) (x0 : IV) (x1 : IV) (h2 : Hp) : funS EE ih ft.get n 73 [x0, x1] h2 = S73 ih n x0 x1 h2 := by kernel_rfl
/-! Function 74. -/
noncomputable def S74_74 (x15 : IV) (h2 : Hp) : Option (IV × Hp) :=
  faddrS 2 x15 fun x16 => load1 x16 h2 fun x17 _ => ixS 1 x17 (.fv (.int .i64 1)) fun x19 => load1 x19 h2 fun x20 _ => outS1 [x20] h2
noncomputable def S74_75 (h63 : Hp) (x60 : IV) (x62 : IV) (ih : Handler) (x0 : IV) (x1 : IV) : Option (IV × Hp) :=
  genS (pcBuildSlice EE 104 2 [(0, x60), (1, x62)]) 77602826 h63 fun x66 h67 r68 w69 => chkS [] r68 w69 (isoS [true, false, false, false] false false ih 81 [x0, x1, .fv (.int .i64 2), x66] h67 fun x70 h71 r72 w73 => chkS [] r72 w73 (outS1 [x70] h71))
noncomputable def S74_76 (x57 : IV) (h52 : Hp) (ih : Handler) (x0 : IV) (x26 : IV) (r58 : List Ref) (x1 : IV) : Option (IV × Hp) :=
  ixS 1 x57 (.fv (.int .i64 0)) fun x59 => load1 x59 h52 fun x60 r61 => chkS [] r61 [] (isoS [true, false] false false ih 80 [x0, x26] h52 fun x62 h63 r64 w65 => chkS [(r61, []), (r58, [])] r64 w65 (S74_75 h63 x60 x62 ih x0 x1))
noncomputable def S74_77 (r53 : List Ref) (w54 : List Ref) (x8 : IV) (h52 : Hp) (ih : Handler) (x0 : IV) (x26 : IV) (x1 : IV) : Option (IV × Hp) :=
  chkS [] r53 w54 (nilS x8 fun x55 => faddrS 2 x55 fun x56 => load1 x56 h52 fun x57 r58 => chkS [] r58 [] (S74_76 x57 h52 ih x0 x26 r58 x1))
noncomputable def S74_78 (r46 : List Ref) (r39 : List Ref) (r36 : List Ref) (h30 : Hp) (x38 : IV) (x45 : IV) (x26 : IV) (x8 : IV) (ih : Handler) (x0 : IV) (x1 : IV) : Option (IV × Hp) :=
  chkS [(r39, []), (r36, [])] r46 [] (genS (pcBuildSlice EE 104 4 [(0, .fv .nilp), (1, x38), (2, .fv .nilp), (3, x45)]) 77601804 h30 fun x47 h48 r49 w50 => chkS [] r49 w50 (faddrS 2 x26 fun x51 => store1 x51 x47 h48 fun h52 r53 w54 => S74_77 r53 w54 x8 h52 ih x0 x26 x1))
noncomputable def S74_79 (x40 : IV) (h30 : Hp) (r39 : List Ref) (r36 : List Ref) (x38 : IV) (x26 : IV) (x8 : IV) (ih : Handler) (x0 : IV) (x1 : IV) : Option (IV × Hp) :=
  faddrS 2 x40 fun x41 => load1 x41 h30 fun x42 r43 => chkS [(r39, []), (r36, [])] r43 [] (ixS 1 x42 (.fv (.int .i64 0)) fun x44 => load1 x44 h30 fun x45 r46 => S74_78 r46 r39 r36 h30 x38 x45 x26 x8 ih x0 x1)
noncomputable def S74_80 (r36 : List Ref) (x35 : IV) (h30 : Hp) (x8 : IV) (x26 : IV) (ih : Handler) (x0 : IV) (x1 : IV) : Option (IV × Hp) :=
  chkS [] r36 [] (ixS 1 x35 (.fv (.int .i64 1)) fun x37 => load1 x37 h30 fun x38 r39 => chkS [] r39 [] (nilS x8 fun x40 => S74_79 x40 h30 r39 r36 x38 x26 x8 ih x0 x1))
noncomputable def S74_81 (h2 : Hp) (x24 : IV) (x1 : IV) (x8 : IV) (ih : Handler) (x0 : IV) : Option (IV × Hp) :=
  newS 77600771 (.row [.fv (.int .i64 0), .fv (.int .i64 0), .nils, .fv (.int .i64 0), .fv (.int .i64 0), .nils, .fv (.nilp)] false) (.ptr (.own 77600771) 0) h2 fun x26 h27 _ _ => storeA 7 x26 x24 h27 fun h30 _ _ => nilS x1 fun x33 => faddrS 2 x33 fun x34 => load1 x34 h30 fun x35 r36 => S74_80 r36 x35 h30 x8 x26 ih x0 x1
noncomputable def S74_82 (x22 : IV) (x1 : IV) (h2 : Hp) (x8 : IV) (ih : Handler) (x0 : IV) : Option (IV × Hp) :=
  condS x22 (nilS x1 fun x23 => loadA 7 x23 h2 fun x24 _ => S74_81 h2 x24 x1 x8 ih x0) (outS1 [.fv .nilp] h2)
noncomputable def S74_83 (x10 : IV) (h2 : Hp) (x1 : IV) (x8 : IV) (ih : Handler) (x0 : IV) : Option (IV × Hp) :=
  faddrS 0 x10 fun x11 => load1 x11 h2 fun x12 _ => eqS EE 3 x12 (.fv (.int .i64 11)) fun x14 => condS x14 (nilS x1 fun x15 => S74_74 x15 h2) (eqS EE 3 x12 (.fv (.int .i64 12)) fun x22 => S74_82 x22 x1 h2 x8 ih x0)
noncomputable def S74 (ih : Handler) (n : Nat) (x0 : IV) (x1 : IV) (h2 : Hp) : Option (IV × Hp) :=
  nilS x1 fun x3 => faddrS 2 x3 fun x4 => load1 x4 h2 fun x5 _ => ixS 1 x5 (.fv (.int .i64 3)) fun x7 => load1 x7 h2 fun x8 _ => nilS x8 fun x10 => S74_83 x10 h2 x1 x8 ih x0
theorem S74_ok (ih : Handler) (n : Nat) (x0 : IV) (x1 : IV) (h2 : Hp) : funS EE ih ft.get n 74 [x0, x1] h2 = S74 ih n x0 x1 h2 := by kernel_rfl
/-! Function 75. -/
noncomputable def S75 (ih : Handler) (n : Nat) (x0 : IV) (x1 : IV) (h2 : Hp) : Option (IV × Hp) :=
  isoS [] false false ih 87 [x1, .fv (.int .i64 19)] h2 fun x3 h4 _ _ => outS1 [x3] h4
theorem S75_ok (ih : Handler) (n : Nat) (x0 : IV) (x1 : IV) (h2 : Hp) : funS EE ih ft.get n 75 [x0, x1] h2 = S75 ih n x0 x1 h2 := by kernel_rfl
/-! Function 76. -/
noncomputable def S76 (ih : Handler) (n : Nat) (x0 : IV) (x1 : IV) (h2 : Hp) : Option (IV × Hp) :=
  isoS [] false false ih 87 [x1, .fv (.int .i64 30)] h2 fun x3 h4 _ _ => outS1 [x3] h4
theorem S76_ok (ih : Handler) (n : Nat) (x0 : IV) (x1 : IV) (h2 : Hp) : funS EE ih ft.get n 76 [x0, x1] h2 = S76 ih n x0 x1 h2 := by kernel_rfl
/-! Function 77. -/
noncomputable def S77_53 (h44 : Hp) (x49 : IV) : Option (IV × Hp) :=
  store1 x49 (.fv (.int .i64 17)) h44 fun h50 _ _ => outS1 [] h50
noncomputable def S77_54 (x16 : IV) (x43 : IV) (x0 : IV) (h44 : Hp) : Option (IV × Hp) :=
  pickS x16 x43 (.fv (.bool false)) fun x47 => condS x47 (nilS x0 fun x48 => faddrS 3 x48 fun x49 => S77_53 h44 x49) (outS1 [] h44)
noncomputable def S77_55 (h9 : Hp) (x16 : IV) (x0 : IV) : Option (IV × Hp) :=
  guardS x16 true h9 (fun k17 => k17 x0 h9 [] []) fun x18 h19 _ _ => guardS x16 true h19 (fun k22 => nilS x18 fun x23 => k22 x23 h19 [] []) fun x24 h25 _ _ => guardS x16 true h25 (fun k28 => faddrS 3 x24 fun x29 => k28 x29 h25 [] []) fun x30 h31 _ _ => guardS x16 true h31 (fun k34 => load1 x30 h31 fun x35 r36 => k34 x35 h31 r36 []) fun x37 h38 _ _ => guardS x16 true h38 (fun k41 => eqS EE 37 x37 (.fv (.int .i64 0)) fun x42 => k41 x42 h38 [] []) fun x43 h44 _ _ => S77_54 x16 x43 x0 h44
noncomputable def S77_56 (h1 : Hp) (x8 : IV) (x6 : IV) (x0 : IV) : Option (IV × Hp) :=
  store1 x8 x6 h1 fun h9 _ _ => nilS x0 fun x12 => faddrS 1 x12 fun x13 => load1 x13 h9 fun x14 _ => ltS EE 3 x14 (.fv (.int .i64 0)) fun x16 => S77_55 h9 x16 x0
noncomputable def S77 (ih : Handler) (n : Nat) (x0 : IV) (h1 : Hp) : Option (IV × Hp) :=
  nilS x0 fun x2 => faddrS 1 x2 fun x3 => load1 x3 h1 fun x4 _ => subS EE 3 x4 (.fv (.int .i64 1)) fun x6 => nilS x0 fun x7 => faddrS 1 x7 fun x8 => S77_56 h1 x8 x6 x0
theorem S77_ok (ih : Handler) (n : Nat) (x0 : IV) (h1 : Hp) : funS EE ih ft.get n 77 [x0] h1 = S77 ih n x0 h1 := by kernel_rfl
/-! Function 78. -/
noncomputable def S78_27 (h5 : Hp) (x11 : IV) : Option (IV × Hp) :=
  load1 x11 h5 fun x12 _ => outS1 [x12] h5
noncomputable def S78_28 (x15 : IV) (h5 : Hp) (q3 : List IV → Hp → Option (IV × Hp)) (x14 : IV) : Option (IV × Hp) :=
  faddrS 1 x15 fun x16 => load1 x16 h5 fun x17 _ => q3 [x17, x14] h5
noncomputable def S78_29 (x9 : IV) (x6 : IV) (h5 : Hp) (x7 : IV) (q3 : List IV → Hp → Option (IV × Hp)) : Option (IV × Hp) :=
  condS x9 (nilS x6 fun x10 => faddrS 0 x10 fun x11 => S78_27 h5 x11) (subS EE 3 x7 (.fv (.int .i64 1)) fun x14 => nilS x6 fun x15 => S78_28 x15 h5 q3 x14)
noncomputable def S78_30 (x19 : IV) (h5 : Hp) : Option (IV × Hp) :=
  bldS [.fv (.int .i64 0), .fv (.int .i64 0), .nils, .fv (.int .i64 0), .fv (.int .i64 0), .nils, .fv (.nilp)] [(0, 1, .fv (.int .i64 1)), (1, 1, x19)] fun x20 => boxS 81795075 x20 h5 fun x21 h22 _ _ => outS1 [x21] h22
noncomputable def S78_31 (l4 : List IV) (h5 : Hp) (q3 : List IV → Hp → Option (IV × Hp)) : Option (IV × Hp) :=
  uncS l4 fun x6 l25 => uncS l25 fun x7 _ => neS EE 102 x6 (.fv .nilp) fun x8 => condS x8 (eqS EE 3 x7 (.fv (.int .i64 0)) fun x9 => S78_29 x9 x6 h5 x7 q3) (subS EE 3 (.fv (.int .i64 (-1))) x7 fun x19 => S78_30 x19 h5)
noncomputable def S78 (ih : Handler) (n : Nat) (x0 : IV) (x1 : IV) (h2 : Hp) : Option (IV × Hp) :=
  loopS n (fun q3 l4 h5 => S78_31 l4 h5 q3) [x0, x1] h2
theorem S78_ok (ih : Handler) (n : Nat) (x0 : IV) (x1 : IV) (h2 : Hp) : funS EE ih ft.get n 78 [x0, x1] h2 = S78 ih n x0 x1 h2 := by kernel_rfl
/-! Function 79. -/
noncomputable def S79 (ih : Handler) (n : Nat) (x0 : IV) (x1 : IV) (h2 : Hp) : Option (IV × Hp) :=
  dynS EE ih (.fv (.func (.func 88) [] [])) [x0, x1] h2 fun x3 h4 _ _ => outS1 [x3] h4
theorem S79_ok (ih : Handler) (n : Nat) (x0 : IV) (x1 : IV) (h2 : Hp) : funS EE ih ft.get n 79 [x0, x1] h2 = S79 ih n x0 x1 h2 := by kernel_rfl
/-! Function 80. -/
noncomputable def S80_126 (h113 : Hp) (x122 : IV) (j0_104 : Hp → Option (IV × Hp)) : Option (IV × Hp) :=
  store1 x122 (.fv (.int .i64 17)) h113 fun h123 _ _ => j0_104 h123
noncomputable def S80_127 (x120 : IV) (x0 : IV) (h113 : Hp) (j0_104 : Hp → Option (IV × Hp)) : Option (IV × Hp) :=
  condS x120 (nilS x0 fun x121 => faddrS 3 x121 fun x122 => S80_126 h113 x122 j0_104) (j0_104 h113)
noncomputable def S80_128 (h100 : Hp) (x112 : IV) (x110 : IV) (x0 : IV) (j0_104 : Hp → Option (IV × Hp)) : Option (IV × Hp) :=
  store1 x112 x110 h100 fun h113 _ _ => nilS x0 fun x116 => faddrS 0 x116 fun x117 => load1 x117 h113 fun x118 _ => ltS EE 3 x118 (.fv (.int .i64 0)) fun x120 => S80_127 x120 x0 h113 j0_104
noncomputable def S80_129 (x106 : IV) (h100 : Hp) (x0 : IV) (j0_104 : Hp → Option (IV × Hp)) : Option (IV × Hp) :=
  faddrS 0 x106 fun x107 => load1 x107 h100 fun x108 _ => subS EE 3 x108 (.fv (.int .i64 1)) fun x110 => nilS x0 fun x111 => faddrS 0 x111 fun x112 => S80_128 h100 x112 x110 x0 j0_104
noncomputable def S80_130 (x103 : IV) (h100 : Hp) (x1 : IV) (x68 : IV) (x0 : IV) : Option (IV × Hp) :=
  condS x103 (outS1 [x1] h100) ((fun (j0_104 : Hp → Option (IV × Hp)) => nilS x0 fun x106 => S80_129 x106 h100 x0 j0_104) fun h105 => outS1 [x68] h105)
noncomputable def S80_131 (h75 : Hp) (x72 : IV) (x74 : IV) (x1 : IV) (x68 : IV) (x0 : IV) : Option (IV × Hp) :=
  guardS x72 false h75 (fun k78 => nilS x74 fun x79 => k78 x79 h75 [] []) fun x80 h81 _ _ => guardS x72 false h81 (fun k84 => faddrS 3 x80 fun x85 => k84 x85 h81 [] []) fun x86 h87 _ _ => guardS x72 false h87 (fun k90 => load1 x86 h87 fun x91 r92 => k90 x91 h87 r92 []) fun x93 h94 _ _ => guardS x72 false h94 (fun k97 => neS EE 37 x93 (.fv (.int .i64 0)) fun x98 => k97 x98 h94 [] []) fun x99 h100 _ _ => pickS x72 (.fv (.bool true)) x99 fun x103 => S80_130 x103 h100 x1 x68 x0
noncomputable def S80_132 (x17 : IV) (h57 : Hp) (ih : Handler) (x1 : IV) (x0 : IV) : Option (IV × Hp) :=
  faddrS 0 x17 fun x65 => load1 x65 h57 fun x66 _ => dynS EE ih x66 [x1] h57 fun x68 h69 _ _ => eqS EE 76 x68 (.fv .nilp) fun x72 => guardS x72 false h69 (fun k73 => k73 x0 h69 [] []) fun x74 h75 _ _ => S80_131 h75 x72 x74 x1 x68 x0
noncomputable def S80_133 (x0 : IV) (h57 : Hp) (x1 : IV) (x17 : IV) (ih : Handler) : Option (IV × Hp) :=
  nilS x0 fun x60 => faddrS 3 x60 fun x61 => load1 x61 h57 fun x62 _ => neS EE 37 x62 (.fv (.int .i64 0)) fun x64 => condS x64 (outS1 [x1] h57) (S80_132 x17 h57 ih x1 x0)
noncomputable def S80_134 (h46 : Hp) (x24 : IV) (x45 : IV) (x1 : IV) (ih : Handler) (x0 : IV) (x17 : IV) : Option (IV × Hp) :=
  guardS x24 false h46 (fun k49 => neS EE 37 x45 (.fv (.int .i64 0)) fun x50 => k49 x50 h46 [] []) fun x51 h52 _ _ => pickS x24 (.fv (.bool true)) x51 fun x55 => condS x55 (outS1 [x1] h52) (isoS [true] false false ih 77 [x0] h52 fun _ h57 _ _ => S80_133 x0 h57 x1 x17 ih)
noncomputable def S80_135 (x16 : IV) (h21 : Hp) (x0 : IV) (x1 : IV) (ih : Handler) (x17 : IV) : Option (IV × Hp) :=
  optS (unR .not x16) fun x24 => guardS x24 false h21 (fun k25 => k25 x0 h21 [] []) fun x26 h27 _ _ => guardS x24 false h27 (fun k30 => nilS x26 fun x31 => k30 x31 h27 [] []) fun x32 h33 _ _ => guardS x24 false h33 (fun k36 => faddrS 3 x32 fun x37 => k36 x37 h33 [] []) fun x38 h39 _ _ => guardS x24 false h39 (fun k42 => load1 x38 h39 fun x43 r44 => k42 x43 h39 r44 []) fun x45 h46 _ _ => S80_134 h46 x24 x45 x1 ih x0 x17
noncomputable def S80_136 (x11 : IV) (h12 : Hp) (r13 : List Ref) (w14 : List Ref) (r10 : List Ref) (r6 : List Ref) (x15 : IV) (x0 : IV) (x1 : IV) (ih : Handler) : Option (IV × Hp) :=
  extS 1 x11 fun x16 => newS 83887116 (.row [.fv (.nilf)] false) (.ptr (.own 83887116) 0) h12 fun x17 h18 r19 w20 => chkS [(r13, w14), (r10, []), (r6, [])] r19 w20 (store1 x17 x15 h18 fun h21 r22 w23 => chkS [] r22 w23 (S80_135 x16 h21 x0 x1 ih x17))
noncomputable def S80_137 (h2 : Hp) (x8 : IV) (r6 : List Ref) (x5 : IV) (x0 : IV) (x1 : IV) (ih : Handler) : Option (IV × Hp) :=
  load1 x8 h2 fun x9 r10 => chkS [(r6, [])] r10 [] (genS (pcLookup EE 78 x5 x9 true) 83887112 h2 fun x11 h12 r13 w14 => chkS [] r13 w14 (extS 0 x11 fun x15 => S80_136 x11 h12 r13 w14 r10 r6 x15 x0 x1 ih))
noncomputable def S80 (ih : Handler) (n : Nat) (x0 : IV) (x1 : IV) (h2 : Hp) : Option (IV × Hp) :=
  nilS x0 fun x3 => faddrS 4 x3 fun x4 => load1 x4 h2 fun x5 r6 => chkS [] r6 [] (nilS x1 fun x7 => faddrS 0 x7 fun x8 => S80_137 h2 x8 r6 x5 x0 x1 ih)
theorem S80_ok (ih : Handler) (n : Nat) (x0 : IV) (x1 : IV) (h2 : Hp) : funS EE ih ft.get n 80 [x0, x1] h2 = S80 ih n x0 x1 h2 := by kernel_rfl
/-! Function 81. -/
noncomputable def S81_25 (x16 : IV) (x2 : IV) (h10 : Hp) (r11 : List Ref) (w12 : List Ref) (r8 : List Ref) (ih : Handler) (x0 : IV) (x9 : IV) : Option (IV × Hp) :=
  ixS 3 x16 x2 fun x18 => loadA 3 x18 h10 fun x19 r20 => chkS [(r11, w12), (r8, [])] r20 [] (isoS [true, false, false] false false ih 52 [x0, x9, x19] h10 fun x21 h22 r23 w24 => chkS [] r23 w24 (outS1 [x21] h22))
noncomputable def S81_26 (x1 : IV) (h10 : Hp) (r11 : List Ref) (w12 : List Ref) (r8 : List Ref) (x2 : IV) (ih : Handler) (x0 : IV) (x9 : IV) : Option (IV × Hp) :=
  nilS x1 fun x13 => faddrS 3 x13 fun x14 => faddrS 2 x14 fun x15 => load1 x15 h10 fun x16 r17 => chkS [(r11, w12), (r8, [])] r17 [] (S81_25 x16 x2 h10 r11 w12 r8 ih x0 x9)
noncomputable def S81 (ih : Handler) (n : Nat) (x0 : IV) (x1 : IV) (x2 : IV) (x3 : IV) (h4 : Hp) : Option (IV × Hp) :=
  nilS x1 fun x5 => faddrS 6 x5 fun x6 => load1 x6 h4 fun x7 r8 => chkS [] r8 [] (isoS [] false false ih 89 [x7, x3] h4 fun x9 h10 r11 w12 => chkS [] r11 w12 (S81_26 x1 h10 r11 w12 r8 x2 ih x0 x9))
theorem S81_ok (ih : Handler) (n : Nat) (x0 : IV) (x1 : IV) (x2 : IV) (x3 : IV) (h4 : Hp) : funS EE ih ft.get n 81 [x0, x1, x2, x3] h4 = S81 ih n x0 x1 x2 x3 h4 := by kernel_rfl
/-! Function 82. -/
noncomputable def S82_44 (x12 : IV) (h13 : Hp) (x0 : IV) : Option (IV × Hp) :=
  condS x12 (outS1 [.fv (.int .i64 3)] h13) (eqS EE 3 x0 (.fv (.int .i64 13)) fun x14 => condS x14 (outS1 [.fv (.int .i64 4)] h13) (outS1 [.fv (.int .i64 (-1))] h13))
noncomputable def S82_45 (x15 : IV) (j1_11 : IV → Hp → Option (IV × Hp)) (h10 : Hp) (x0 : IV) : Option (IV × Hp) :=
  condS x15 (j1_11 x15 h10) (eqS EE 3 x0 (.fv (.int .i64 27)) fun x16 => j1_11 x16 h10)
noncomputable def S82_46 (x9 : IV) (h10 : Hp) (x0 : IV) : Option (IV × Hp) :=
  condS x9 (outS1 [.fv (.int .i64 2)] h10) ((fun (j1_11 : IV → Hp → Option (IV × Hp)) => eqS EE 3 x0 (.fv (.int .i64 7)) fun x15 => S82_45 x15 j1_11 h10 x0) fun x12 h13 => S82_44 x12 h13 x0)
noncomputable def S82_47 (x0 : IV) (j1_8 : IV → Hp → Option (IV × Hp)) (h7 : Hp) : Option (IV × Hp) :=
  eqS EE 3 x0 (.fv (.int .i64 28)) fun x27 => condS x27 (j1_8 x27 h7) (eqS EE 3 x0 (.fv (.int .i64 29)) fun x28 => j1_8 x28 h7)
noncomputable def S82_48 (x0 : IV) (j1_8 : IV → Hp → Option (IV × Hp)) (h7 : Hp) : Option (IV × Hp) :=
  eqS EE 3 x0 (.fv (.int .i64 22)) fun x25 => condS x25 (j1_8 x25 h7) (eqS EE 3 x0 (.fv (.int .i64 26)) fun x26 => condS x26 (j1_8 x26 h7) (S82_47 x0 j1_8 h7))
noncomputable def S82_49 (x0 : IV) (j1_8 : IV → Hp → Option (IV × Hp)) (h7 : Hp) : Option (IV × Hp) :=
  eqS EE 3 x0 (.fv (.int .i64 20)) fun x23 => condS x23 (j1_8 x23 h7) (eqS EE 3 x0 (.fv (.int .i64 21)) fun x24 => condS x24 (j1_8 x24 h7) (S82_48 x0 j1_8 h7))
noncomputable def S82_50 (x0 : IV) (j1_8 : IV → Hp → Option (IV × Hp)) (h7 : Hp) : Option (IV × Hp) :=
  eqS EE 3 x0 (.fv (.int .i64 16)) fun x21 => condS x21 (j1_8 x21 h7) (eqS EE 3 x0 (.fv (.int .i64 17)) fun x22 => condS x22 (j1_8 x22 h7) (S82_49 x0 j1_8 h7))
noncomputable def S82_51 (x0 : IV) (j1_8 : IV → Hp → Option (IV × Hp)) (h7 : Hp) : Option (IV × Hp) :=
  eqS EE 3 x0 (.fv (.int .i64 5)) fun x19 => condS x19 (j1_8 x19 h7) (eqS EE 3 x0 (.fv (.int .i64 6)) fun x20 => condS x20 (j1_8 x20 h7) (S82_50 x0 j1_8 h7))
noncomputable def S82_52 (x17 : IV) (j1_8 : IV → Hp → Option (IV × Hp)) (h7 : Hp) (x0 : IV) : Option (IV × Hp) :=
  condS x17 (j1_8 x17 h7) (eqS EE 3 x0 (.fv (.int .i64 4)) fun x18 => condS x18 (j1_8 x18 h7) (S82_51 x0 j1_8 h7))
noncomputable def S82_53 (x6 : IV) (h7 : Hp) (x0 : IV) : Option (IV × Hp) :=
  condS x6 (outS1 [.fv (.int .i64 1)] h7) ((fun (j1_8 : IV → Hp → Option (IV × Hp)) => eqS EE 3 x0 (.fv (.int .i64 3)) fun x17 => S82_52 x17 j1_8 h7 x0) fun x9 h10 => S82_46 x9 h10 x0)
noncomputable def S82_54 (x0 : IV) (j1_5 : IV → Hp → Option (IV × Hp)) (h4 : Hp) : Option (IV × Hp) :=
  eqS EE 3 x0 (.fv (.int .i64 24)) fun x35 => condS x35 (j1_5 x35 h4) (eqS EE 3 x0 (.fv (.int .i64 30)) fun x36 => j1_5 x36 h4)
noncomputable def S82_55 (x0 : IV) (j1_5 : IV → Hp → Option (IV × Hp)) (h4 : Hp) : Option (IV × Hp) :=
  eqS EE 3 x0 (.fv (.int .i64 19)) fun x33 => condS x33 (j1_5 x33 h4) (eqS EE 3 x0 (.fv (.int .i64 23)) fun x34 => condS x34 (j1_5 x34 h4) (S82_54 x0 j1_5 h4))
noncomputable def S82_56 (x0 : IV) (j1_5 : IV → Hp → Option (IV × Hp)) (h4 : Hp) : Option (IV × Hp) :=
  eqS EE 3 x0 (.fv (.int .i64 12)) fun x31 => condS x31 (j1_5 x31 h4) (eqS EE 3 x0 (.fv (.int .i64 18)) fun x32 => condS x32 (j1_5 x32 h4) (S82_55 x0 j1_5 h4))
noncomputable def S82_57 (x29 : IV) (j1_5 : IV → Hp → Option (IV × Hp)) (h4 : Hp) (x0 : IV) : Option (IV × Hp) :=
  condS x29 (j1_5 x29 h4) (eqS EE 3 x0 (.fv (.int .i64 9)) fun x30 => condS x30 (j1_5 x30 h4) (S82_56 x0 j1_5 h4))
noncomputable def S82_58 (x3 : IV) (h4 : Hp) (x0 : IV) : Option (IV × Hp) :=
  condS x3 (outS1 [.fv (.int .i64 0)] h4) ((fun (j1_5 : IV → Hp → Option (IV × Hp)) => eqS EE 3 x0 (.fv (.int .i64 8)) fun x29 => S82_57 x29 j1_5 h4 x0) fun x6 h7 => S82_53 x6 h7 x0)
noncomputable def S82_59 (x0 : IV) (j1_2 : IV → Hp → Option (IV × Hp)) (h1 : Hp) : Option (IV × Hp) :=
  eqS EE 3 x0 (.fv (.int .i64 25)) fun x43 => j1_2 x43 h1
noncomputable def S82_60 (x0 : IV) (j1_2 : IV → Hp → Option (IV × Hp)) (h1 : Hp) : Option (IV × Hp) :=
  eqS EE 3 x0 (.fv (.int .i64 14)) fun x41 => condS x41 (j1_2 x41 h1) (eqS EE 3 x0 (.fv (.int .i64 15)) fun x42 => condS x42 (j1_2 x42 h1) (S82_59 x0 j1_2 h1))
noncomputable def S82_61 (x0 : IV) (j1_2 : IV → Hp → Option (IV × Hp)) (h1 : Hp) : Option (IV × Hp) :=
  eqS EE 3 x0 (.fv (.int .i64 10)) fun x39 => condS x39 (j1_2 x39 h1) (eqS EE 3 x0 (.fv (.int .i64 11)) fun x40 => condS x40 (j1_2 x40 h1) (S82_60 x0 j1_2 h1))
noncomputable def S82 (ih : Handler) (n : Nat) (x0 : IV) (h1 : Hp) : Option (IV × Hp) :=
  (fun (j1_2 : IV → Hp → Option (IV × Hp)) => eqS EE 3 x0 (.fv (.int .i64 1)) fun x37 => condS x37 (j1_2 x37 h1) (eqS EE 3 x0 (.fv (.int .i64 2)) fun x38 => condS x38 (j1_2 x38 h1) (S82_61 x0 j1_2 h1))) fun x3 h4 => S82_58 x3 h4 x0
theorem S82_ok (ih : Handler) (n : Nat) (x0 : IV) (h1 : Hp) : funS EE ih ft.get n 82 [x0] h1 = S82 ih n x0 h1 := by kernel_rfl
/-! Function 83. -/
noncomputable def S83_47 (h7 : Hp) (x4 : IV) (x6 : IV) : Option (IV × Hp) :=
  guardS x4 true h7 (fun k10 => leS EE 3 x6 (.fv (.int .i64 3000)) fun x11 => k10 x11 h7 [] []) fun x12 h13 _ _ => pickS x4 x12 (.fv (.bool false)) fun x16 => outS1 [x16] h13
noncomputable def S83_48 (x1 : IV) (h2 : Hp) : Option (IV × Hp) :=
  geS EE 3 x1 (.fv (.int .i64 0)) fun x18 => guardS x18 true h2 (fun k19 => k19 x1 h2 [] []) fun x20 h21 _ _ => guardS x18 true h21 (fun k24 => leS EE 3 x20 (.fv (.int .i64 2)) fun x25 => k24 x25 h21 [] []) fun x26 h27 _ _ => pickS x18 x26 (.fv (.bool false)) fun x30 => outS1 [x30] h27
noncomputable def S83_49 (h35 : Hp) (x32 : IV) (x34 : IV) : Option (IV × Hp) :=
  guardS x32 true h35 (fun k38 => leS EE 3 x34 (.fv (.int .i64 4)) fun x39 => k38 x39 h35 [] []) fun x40 h41 _ _ => pickS x32 x40 (.fv (.bool false)) fun x44 => outS1 [x44] h41
noncomputable def S83_50 (x1 : IV) (h2 : Hp) : Option (IV × Hp) :=
  eqS EE 3 x1 (.fv (.int .i64 0)) fun x46 => outS1 [x46] h2
noncomputable def S83_51 (x0 : IV) (x1 : IV) (h2 : Hp) : Option (IV × Hp) :=
  eqS EE 3 x0 (.fv (.int .i64 26)) fun x31 => condS x31 (geS EE 3 x1 (.fv (.int .i64 0)) fun x32 => guardS x32 true h2 (fun k33 => k33 x1 h2 [] []) fun x34 h35 _ _ => S83_49 h35 x32 x34) (eqS EE 3 x0 (.fv (.int .i64 25)) fun x45 => condS x45 (outS1 [.fv (.bool true)] h2) (S83_50 x1 h2))
noncomputable def S83 (ih : Handler) (n : Nat) (x0 : IV) (x1 : IV) (h2 : Hp) : Option (IV × Hp) :=
  eqS EE 3 x0 (.fv (.int .i64 1)) fun x3 => condS x3 (geS EE 3 x1 (.fv (.int .i64 0)) fun x4 => guardS x4 true h2 (fun k5 => k5 x1 h2 [] []) fun x6 h7 _ _ => S83_47 h7 x4 x6) (eqS EE 3 x0 (.fv (.int .i64 2)) fun x17 => condS x17 (S83_48 x1 h2) (S83_51 x0 x1 h2))
theorem S83_ok (ih : Handler) (n : Nat) (x0 : IV) (x1 : IV) (h2 : Hp) : funS EE ih ft.get n 83 [x0, x1] h2 = S83 ih n x0 x1 h2 := by kernel_rfl
/-! Function 84. -/
noncomputable def S84_158 (h139 : Hp) (x6 : IV) : Option (IV × Hp) :=
  cellS true 3 x6 h139 fun x142 => outS1 [x142] h139
noncomputable def S84_159 (h154 : Hp) (x6 : IV) : Option (IV × Hp) :=
  cellS true 3 x6 h154 fun x157 => outS1 [x157] h154
noncomputable def S84_160 (x144 : IV) (h133 : Hp) (ih : Handler) (x6 : IV) : Option (IV × Hp) :=
  ixS 3 x144 (.fv (.int .i64 0)) fun x146 => loadA 3 x146 h133 fun x147 _ => bldS [.fv (.int .i64 0), .fv (.int .i64 0), .nils] [(0, 1, .fv (.int .i64 11))] fun x149 => isoS [] false false ih 91 [x147, .fv (.int .i64 0), x149] h133 fun x150 h151 _ _ => storeA 3 x6 x150 h151 fun h154 _ _ => S84_159 h154 x6
noncomputable def S84_161 (x136 : IV) (h133 : Hp) (x2 : IV) (x6 : IV) (x16 : IV) (ih : Handler) : Option (IV × Hp) :=
  condS x136 (loadA 3 x2 h133 fun x137 _ => storeA 3 x6 x137 h133 fun h139 _ _ => S84_158 h139 x6) (faddrS 2 x16 fun x143 => load1 x143 h133 fun x144 _ => S84_160 x144 h133 ih x6)
noncomputable def S84_162 (h108 : Hp) (x104 : IV) (x107 : IV) (ih : Handler) (x2 : IV) (x6 : IV) (x16 : IV) : Option (IV × Hp) :=
  guardS x104 false h108 (fun k111 => load1 x107 h108 fun x112 r113 => k111 x112 h108 r113 []) fun x114 h115 _ _ => guardS x104 false h115 (fun k118 => ixS 3 x114 (.fv (.int .i64 0)) fun x119 => k118 x119 h115 [] []) fun x120 h121 _ _ => guardS x104 false h121 (fun k124 => loadA 3 x120 h121 fun x125 r126 => k124 x125 h121 r126 []) fun x127 h128 _ _ => guardS x104 false h128 (fun k131 => isoS [] false false ih 90 [x127, .fv (.int .i64 0)] h128 k131) fun x132 h133 _ _ => pickS x104 (.fv (.bool true)) x132 fun x136 => S84_161 x136 h133 x2 x6 x16 ih
noncomputable def S84_163 (h82 : Hp) (x65 : IV) (x81 : IV) (x16 : IV) (ih : Handler) (x2 : IV) (x6 : IV) : Option (IV × Hp) :=
  guardS x65 false h82 (fun k85 => faddrS 1 x81 fun x86 => k85 x86 h82 [] []) fun x87 h88 _ _ => guardS x65 false h88 (fun k91 => load1 x87 h88 fun x92 r93 => k91 x92 h88 r93 []) fun x94 h95 _ _ => guardS x65 false h95 (fun k98 => neS EE 3 x94 (.fv (.int .i64 0)) fun x99 => k98 x99 h95 [] []) fun x100 h101 _ _ => pickS x65 (.fv (.bool true)) x100 fun x104 => guardS x104 false h101 (fun k105 => faddrS 2 x16 fun x106 => k105 x106 h101 [] []) fun x107 h108 _ _ => S84_162 h108 x104 x107 ih x2 x6 x16
noncomputable def S84_164 (h56 : Hp) (x26 : IV) (x55 : IV) (x16 : IV) (ih : Handler) (x2 : IV) (x6 : IV) : Option (IV × Hp) :=
  guardS x26 false h56 (fun k59 => neS EE 3 x55 (.fv (.int .i64 1)) fun x60 => k59 x60 h56 [] []) fun x61 h62 _ _ => pickS x26 (.fv (.bool true)) x61 fun x65 => guardS x65 false h62 (fun k66 => faddrS 2 x16 fun x67 => k66 x67 h62 [] []) fun x68 h69 _ _ => guardS x65 false h69 (fun k72 => load1 x68 h69 fun x73 r74 => k72 x73 h69 r74 []) fun x75 h76 _ _ => guardS x65 false h76 (fun k79 => ixS 3 x75 (.fv (.int .i64 1)) fun x80 => k79 x80 h76 [] []) fun x81 h82 _ _ => S84_163 h82 x65 x81 x16 ih x2 x6
noncomputable def S84_165 (h20 : Hp) (x26 : IV) (x16 : IV) (ih : Handler) (x2 : IV) (x6 : IV) : Option (IV × Hp) :=
  guardS x26 false h20 (fun k27 => faddrS 2 x16 fun x28 => k27 x28 h20 [] []) fun x29 h30 _ _ => guardS x26 false h30 (fun k33 => load1 x29 h30 fun x34 r35 => k33 x34 h30 r35 []) fun x36 h37 _ _ => guardS x26 false h37 (fun k40 => ixS 3 x36 (.fv (.int .i64 1)) fun x41 => k40 x41 h37 [] []) fun x42 h43 _ _ => guardS x26 false h43 (fun k46 => faddrS 0 x42 fun x47 => k46 x47 h43 [] []) fun x48 h49 _ _ => guardS x26 false h49 (fun k52 => load1 x48 h49 fun x53 r54 => k52 x53 h49 r54 []) fun x55 h56 _ _ => S84_164 h56 x26 x55 x16 ih x2 x6
noncomputable def S84_166 (h7 : Hp) (x14 : IV) (ih : Handler) (x2 : IV) (x6 : IV) : Option (IV × Hp) :=
  newS 88081412 (.row [.fv (.int .i64 0), .fv (.int .i64 0), .nils] false) (.ptr (.own 88081412) 0) h7 fun x16 h17 _ _ => storeA 3 x16 x14 h17 fun h20 _ _ => faddrS 0 x16 fun x23 => load1 x23 h20 fun x24 _ => neS EE 3 x24 (.fv (.int .i64 5)) fun x26 => S84_165 h20 x26 x16 ih x2 x6
noncomputable def S84 (ih : Handler) (n : Nat) (x0 : IV) (h1 : Hp) : Option (IV × Hp) :=
  boxS 88080384 x0 h1 fun x2 h3 _ _ => newS 88080385 (.row [.fv (.int .i64 0), .fv (.int .i64 0), .nils] false) (.ptr (.own 88080385) 0) h3 fun x6 h7 _ _ => faddrS 2 x2 fun x10 => load1 x10 h7 fun x11 _ => ixS 3 x11 (.fv (.int .i64 1)) fun x13 => loadA 3 x13 h7 fun x14 _ => S84_166 h7 x14 ih x2 x6
theorem S84_ok (ih : Handler) (n : Nat) (x0 : IV) (h1 : Hp) : funS EE ih ft.get n 84 [x0] h1 = S84 ih n x0 h1 := by kernel_rfl
/-! Function 85. -/
noncomputable def S85_140 (h126 : Hp) (x6 : IV) : Option (IV × Hp) :=
  cellS true 3 x6 h126 fun x129 => outS1 [x129] h126
noncomputable def S85_141 (x131 : IV) (h120 : Hp) (x6 : IV) : Option (IV × Hp) :=
  ixS 3 x131 (.fv (.int .i64 0)) fun x133 => loadA 3 x133 h120 fun x134 _ => storeA 3 x6 x134 h120 fun h136 _ _ => cellS true 3 x6 h136 fun x139 => outS1 [x139] h136
noncomputable def S85_142 (x59 : IV) (x119 : IV) (h120 : Hp) (x2 : IV) (x6 : IV) (x22 : IV) : Option (IV × Hp) :=
  pickS x59 (.fv (.bool true)) x119 fun x123 => condS x123 (loadA 3 x2 h120 fun x124 _ => storeA 3 x6 x124 h120 fun h126 _ _ => S85_140 h126 x6) (faddrS 2 x22 fun x130 => load1 x130 h120 fun x131 _ => S85_141 x131 h120 x6)
noncomputable def S85_143 (h102 : Hp) (x59 : IV) (x101 : IV) (r84 : List Ref) (w85 : List Ref) (r71 : List Ref) (w72 : List Ref) (ih : Handler) (x82 : IV) (x2 : IV) (x6 : IV) (x22 : IV) : Option (IV × Hp) :=
  guardS x59 false h102 (fun k105 => loadA 3 x101 h102 fun x106 r107 => k105 x106 h102 r107 []) fun x108 h109 r110 w111 => chkS [(r84, w85), (r71, w72)] r110 w111 (guardS x59 false h109 (fun k112 => isoS [] false false ih 92 [x82, x108] h109 k112) fun x113 h114 r115 w116 => chkS [] r115 w116 (guardS x59 false h114 (fun k117 => optS (unR .not x113) fun x118 => k117 x118 h114 [] []) fun x119 h120 _ _ => S85_142 x59 x119 h120 x2 x6 x22))
noncomputable def S85_144 (r84 : List Ref) (w85 : List Ref) (h83 : Hp) (x59 : IV) (x26 : IV) (r71 : List Ref) (w72 : List Ref) (ih : Handler) (x82 : IV) (x2 : IV) (x6 : IV) (x22 : IV) : Option (IV × Hp) :=
  chkS [] r84 w85 (guardS x59 false h83 (fun k86 => faddrS 2 x26 fun x87 => k86 x87 h83 [] []) fun x88 h89 _ _ => guardS x59 false h89 (fun k92 => load1 x88 h89 fun x93 r94 => k92 x93 h89 r94 []) fun x95 h96 r97 w98 => chkS [(r84, w85), (r71, w72)] r97 w98 (guardS x59 false h96 (fun k99 => ixS 3 x95 (.fv (.int .i64 0)) fun x100 => k99 x100 h96 [] []) fun x101 h102 _ _ => S85_143 h102 x59 x101 r84 w85 r71 w72 ih x82 x2 x6 x22))
noncomputable def S85_145 (h56 : Hp) (x59 : IV) (x22 : IV) (x26 : IV) (ih : Handler) (x2 : IV) (x6 : IV) : Option (IV × Hp) :=
  guardS x59 false h56 (fun k60 => faddrS 2 x22 fun x61 => k60 x61 h56 [] []) fun x62 h63 _ _ => guardS x59 false h63 (fun k66 => load1 x62 h63 fun x67 r68 => k66 x67 h63 r68 []) fun x69 h70 r71 w72 => chkS [] r71 w72 (guardS x59 false h70 (fun k73 => ixS 3 x69 (.fv (.int .i64 0)) fun x74 => k73 x74 h70 [] []) fun x75 h76 _ _ => guardS x59 false h76 (fun k79 => loadA 3 x75 h76 fun x80 r81 => k79 x80 h76 r81 []) fun x82 h83 r84 w85 => S85_144 r84 w85 h83 x59 x26 r71 w72 ih x82 x2 x6 x22)
noncomputable def S85_146 (h33 : Hp) (x39 : IV) (x26 : IV) (x22 : IV) (ih : Handler) (x2 : IV) (x6 : IV) : Option (IV × Hp) :=
  guardS x39 false h33 (fun k40 => faddrS 0 x26 fun x41 => k40 x41 h33 [] []) fun x42 h43 _ _ => guardS x39 false h43 (fun k46 => load1 x42 h43 fun x47 r48 => k46 x47 h43 r48 []) fun x49 h50 r51 w52 => chkS [] r51 w52 (guardS x39 false h50 (fun k53 => neS EE 3 x49 (.fv (.int .i64 9)) fun x54 => k53 x54 h50 [] []) fun x55 h56 _ _ => pickS x39 (.fv (.bool true)) x55 fun x59 => S85_145 h56 x59 x22 x26 ih x2 x6)
noncomputable def S85_147 (r34 : List Ref) (w35 : List Ref) (x22 : IV) (h33 : Hp) (x26 : IV) (ih : Handler) (x2 : IV) (x6 : IV) : Option (IV × Hp) :=
  chkS [] r34 w35 (faddrS 0 x22 fun x36 => load1 x36 h33 fun x37 r38 => chkS [] r38 [] (neS EE 3 x37 (.fv (.int .i64 8)) fun x39 => S85_146 h33 x39 x26 x22 ih x2 x6))
noncomputable def S85_148 (h23 : Hp) (r24 : List Ref) (w25 : List Ref) (r21 : List Ref) (r18 : List Ref) (r15 : List Ref) (r12 : List Ref) (x22 : IV) (x14 : IV) (x20 : IV) (ih : Handler) (x2 : IV) (x6 : IV) : Option (IV × Hp) :=
  newS 89129993 (.row [.fv (.int .i64 0), .fv (.int .i64 0), .nils] false) (.ptr (.own 89129993) 0) h23 fun x26 h27 r28 w29 => chkS [(r24, w25), (r21, []), (r18, []), (r15, []), (r12, [])] r28 w29 (storeA 3 x22 x14 h27 fun h30 r31 w32 => chkS [(r21, []), (r18, [])] r31 w32 (storeA 3 x26 x20 h30 fun h33 r34 w35 => S85_147 r34 w35 x22 h33 x26 ih x2 x6))
noncomputable def S85_149 (x17 : IV) (h7 : Hp) (r15 : List Ref) (r12 : List Ref) (r18 : List Ref) (x14 : IV) (ih : Handler) (x2 : IV) (x6 : IV) : Option (IV × Hp) :=
  ixS 3 x17 (.fv (.int .i64 2)) fun x19 => loadA 3 x19 h7 fun x20 r21 => chkS [(r15, []), (r12, [])] r21 [] (newS 89129992 (.row [.fv (.int .i64 0), .fv (.int .i64 0), .nils] false) (.ptr (.own 89129992) 0) h7 fun x22 h23 r24 w25 => chkS [(r21, []), (r18, []), (r15, []), (r12, [])] r24 w25 (S85_148 h23 r24 w25 r21 r18 r15 r12 x22 x14 x20 ih x2 x6))
noncomputable def S85_150 (h7 : Hp) (x13 : IV) (x2 : IV) (r12 : List Ref) (ih : Handler) (x6 : IV) : Option (IV × Hp) :=
  loadA 3 x13 h7 fun x14 r15 => chkS [] r15 [] (faddrS 2 x2 fun x16 => load1 x16 h7 fun x17 r18 => chkS [(r15, []), (r12, [])] r18 [] (S85_149 x17 h7 r15 r12 r18 x14 ih x2 x6))
noncomputable def S85 (ih : Handler) (n : Nat) (x0 : IV) (h1 : Hp) : Option (IV × Hp) :=
  boxS 89128960 x0 h1 fun x2 h3 _ _ => newS 89128961 (.row [.fv (.int .i64 0), .fv (.int .i64 0), .nils] false) (.ptr (.own 89128961) 0) h3 fun x6 h7 _ _ => faddrS 2 x2 fun x10 => load1 x10 h7 fun x11 r12 => chkS [] r12 [] (ixS 3 x11 (.fv (.int .i64 1)) fun x13 => S85_150 h7 x13 x2 r12 ih x6)
theorem S85_ok (ih : Handler) (n : Nat) (x0 : IV) (h1 : Hp) : funS EE ih ft.get n 85 [x0] h1 = S85 ih n x0 h1 := by kernel_rfl
/-! Function 86. -/
noncomputable def S86_29 (x0 : IV) (h13 : Hp) : Option (IV × Hp) :=
  nilS x0 fun x14 => faddrS 2 x14 fun x15 => load1 x15 h13 fun x16 _ => eqS EE 3 x16 (.fv (.int .i64 0)) fun x18 => outS1 [x18] h13
noncomputable def S86_30 (h9 : Hp) (x25 : IV) (j0_12 : Hp → Option (IV × Hp)) : Option (IV × Hp) :=
  store1 x25 (.fv (.int .i64 17)) h9 fun h26 _ _ => j0_12 h26
noncomputable def S86_31 (x21 : IV) (x0 : IV) (h9 : Hp) (j0_12 : Hp → Option (IV × Hp)) : Option (IV × Hp) :=
  gtS EE 3 x21 (.fv (.int .i64 1000)) fun x23 => condS x23 (nilS x0 fun x24 => faddrS 2 x24 fun x25 => S86_30 h9 x25 j0_12) (j0_12 h9)
noncomputable def S86_32 (h1 : Hp) (x8 : IV) (x6 : IV) (x0 : IV) : Option (IV × Hp) :=
  store1 x8 x6 h1 fun h9 _ _ => (fun (j0_12 : Hp → Option (IV × Hp)) => nilS x0 fun x19 => faddrS 0 x19 fun x20 => load1 x20 h9 fun x21 _ => S86_31 x21 x0 h9 j0_12) fun h13 => S86_29 x0 h13
noncomputable def S86 (ih : Handler) (n : Nat) (x0 : IV) (h1 : Hp) : Option (IV × Hp) :=
  nilS x0 fun x2 => faddrS 0 x2 fun x3 => load1 x3 h1 fun x4 _ => addS EE 3 x4 (.fv (.int .i64 1)) fun x6 => nilS x0 fun x7 => faddrS 0 x7 fun x8 => S86_32 h1 x8 x6 x0
theorem S86_ok (ih : Handler) (n : Nat) (x0 : IV) (h1 : Hp) : funS EE ih ft.get n 86 [x0] h1 = S86 ih n x0 h1 := by kernel_rfl
/-! Function 87. -/
noncomputable def S87_29 (x22 : IV) (h2 : Hp) : Option (IV × Hp) :=
  faddrS 2 x22 fun x23 => load1 x23 h2 fun x24 _ => ixS 1 x24 (.fv (.int .i64 0)) fun x26 => load1 x26 h2 fun x27 _ => outS1 [x27] h2
noncomputable def S87_30 (x15 : IV) (h2 : Hp) : Option (IV × Hp) :=
  faddrS 2 x15 fun x16 => load1 x16 h2 fun x17 _ => ixS 1 x17 (.fv (.int .i64 0)) fun x19 => load1 x19 h2 fun x20 _ => nilS x20 fun x22 => S87_29 x22 h2
noncomputable def S87_31 (x10 : IV) (h2 : Hp) (x1 : IV) (x0 : IV) : Option (IV × Hp) :=
  faddrS 0 x10 fun x11 => load1 x11 h2 fun x12 _ => neS EE 3 x12 x1 fun x14 => condS x14 (outS1 [.fv .nilp] h2) (nilS x0 fun x15 => S87_30 x15 h2)
noncomputable def S87 (ih : Handler) (n : Nat) (x0 : IV) (x1 : IV) (h2 : Hp) : Option (IV × Hp) :=
  nilS x0 fun x3 => faddrS 2 x3 fun x4 => load1 x4 h2 fun x5 _ => ixS 1 x5 (.fv (.int .i64 0)) fun x7 => load1 x7 h2 fun x8 _ => nilS x8 fun x10 => S87_31 x10 h2 x1 x0
theorem S87_ok (ih : Handler) (n : Nat) (x0 : IV) (x1 : IV) (h2 : Hp) : funS EE ih ft.get n 87 [x0, x1] h2 = S87 ih n x0 x1 h2 := by kernel_rfl
end Idl
end Go.Proofs.Ytbkdidonegggdaa

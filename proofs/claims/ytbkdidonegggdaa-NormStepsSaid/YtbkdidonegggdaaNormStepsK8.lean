/-
  Texts of a proof, part 8: an ideal semantics of the program, its functions in shallow form, contracts of them. No statement of the seat is proved here.
-/
import Derived.Test.YtbkdidonegggdaaNormStepsK7
set_option linter.all false
noncomputable section
set_option maxRecDepth 100000
set_option linter.unusedVariables false
namespace Go.Proofs.Ytbkdidonegggdaa
namespace Idl
noncomputable section
abbrev OH:=Option (IV×Hp)
abbrev AD:=List Ref
abbrev iq (n:Int):IV:=.fv (.int .i64 n)
def QM (h301:Hp) (x296 x277:IV) (ih:Aa) (x300:IV):OH :=
 Ab x296 true h301 (fun k304=>Ai 3 x277 h301 fun x305 r306=>k304 x305 h301 r306 []) fun x307 h308 _ _=>Ab x296 true h308 (fun k311=>Aj [] false false ih 21 [x300,x307] h308 k311) fun x312 h313 _ _=>AF x296 x312 (.fv (.bool false)) fun x316=>Ap [x316] h313
def SY (x261:IV) (h281:Hp) (x276 x262 x277:IV) (ih:Aa):OH :=
 A0 EE 37 x261 (.fv (.int .i64 0)) fun x284=>Ab x284 true h281 (fun k285=>k285 x276 h281 [] []) fun x286 h287 _ _=>Ab x284 true h287 (fun k290=>A0 EE 37 x286 (.fv (.int .i64 0)) fun x291=>k290 x291 h287 [] []) fun x292 h293 _ _=>AF x284 x292 (.fv (.bool false)) fun x296=>Ab x296 true h293 (fun k297=>Ai 3 x262 h293 fun x298 r299=>k297 x298 h293 r299 []) fun x300 h301 _ _=>QM h301 x296 x277 ih x300
def Sw (ih:Aa) (h266:Hp) (x269 x261 x262:IV):OH :=
 Aj [] false false ih 20 [x269] h266 fun x271 h272 _ _=>AL 0 x271 fun x275=>AL 1 x271 fun x276=>AM 5281797 (.row [.fv (.int .i64 0),.fv (.int .i64 0),.nils] false) (.ptr (.own 5281797) 0) h272 fun x277 h278 _ _=>Ak 3 x277 x275 h278 fun h281 _ _=>SY x261 h281 x276 x262 x277 ih
def SJ (x256:IV) (h257:Hp) (x151:IV) (ih:Aa):OH :=
 AL 0 x256 fun x260=>AL 1 x256 fun x261=>AM 5280773 (.row [.fv (.int .i64 0),.fv (.int .i64 0),.nils] false) (.ptr (.own 5280773) 0) h257 fun x262 h263 _ _=>Ak 3 x262 x260 h263 fun h266 _ _=>Ai 3 x151 h266 fun x269 _=>Sw ih h266 x269 x261 x262
def R2 (x253:IV) (h250:Hp) (x147:IV) (ih:Aa) (x151:IV):OH :=
 Al x253 (Ap [.fv (.bool true)] h250) (Ai 3 x147 h250 fun x254 _=>Aj [] false false ih 20 [x254] h250 fun x256 h257 _ _=>SJ x256 h257 x151 ih)
def Qi (h233:Hp) (x232 x230:IV) (ih:Aa) (x216 x231 x147 x151:IV):OH :=
 Ak 3 x232 x230 h233 fun h236 _ _=>Aj [] false false ih 19 [x216] h236 fun x239 h240 _ _=>Ab x239 false h240 (fun k243=>k243 x231 h240 [] []) fun x244 h245 _ _=>Ab x239 false h245 (fun k248=>Aj [] false false ih 19 [x244] h245 k248) fun x249 h250 _ _=>AF x239 (.fv (.bool true)) x249 fun x253=>R2 x253 h250 x147 ih x151
def Rc (h221:Hp) (x151:IV) (ih:Aa) (x216 x147:IV):OH :=
 Ai 3 x151 h221 fun x224 _=>Aj [] false false ih 18 [x224] h221 fun x226 h227 _ _=>AL 0 x226 fun x230=>AL 1 x226 fun x231=>AM 5277701 (.row [.fv (.int .i64 0),.fv (.int .i64 0),.nils] false) (.ptr (.own 5277701) 0) h227 fun x232 h233 _ _=>Qi h233 x232 x230 ih x216 x231 x147 x151
def SA (ih:Aa) (h205:Hp) (x209 x151 x147:IV):OH :=
 Aj [] false false ih 18 [x209] h205 fun x211 h212 _ _=>AL 0 x211 fun x215=>AL 1 x211 fun x216=>AM 5276677 (.row [.fv (.int .i64 0),.fv (.int .i64 0),.nils] false) (.ptr (.own 5276677) 0) h212 fun x217 h218 _ _=>Ak 3 x217 x215 h218 fun h221 _ _=>Rc h221 x151 ih x216 x147
def RH (h199:Hp) (x189 x198 x147:IV) (ih:Aa) (x151:IV):OH :=
 Ab x189 false h199 (fun k202=>I1 EE 3 x198 (.fv (.int .i64 0)) fun x203=>k202 x203 h199 [] []) fun x204 h205 _ _=>AF x189 (.fv (.bool true)) x204 fun x208=>Al x208 (Ap [.fv (.bool true)] h205) (Ai 3 x147 h205 fun x209 _=>SA ih h205 x209 x151 x147)
def QA (h175:Hp) (x170:IV) (ih:Aa) (x174 x151 x147:IV):OH :=
 Ab x170 false h175 (fun k178=>Aj [] false false ih 22 [x174] h175 k178) fun x179 h180 _ _=>Ab x170 false h180 (fun k183=>I1 EE 3 x179 (.fv (.int .i64 0)) fun x184=>k183 x184 h180 [] []) fun x185 h186 _ _=>AF x170 (.fv (.bool true)) x185 fun x189=>Ab x189 false h186 (fun k190=>Ai 3 x151 h186 fun x191 r192=>k190 x191 h186 r192 []) fun x193 h194 _ _=>Ab x189 false h194 (fun k197=>Aj [] false false ih 22 [x193] h194 k197) fun x198 h199 _ _=>RH h199 x189 x198 x147 ih x151
def VG (x156:IV) (h157:Hp) (x139 x147:IV) (ih:Aa) (x151:IV):OH :=
 CJ (KX .not x156) fun x158=>Ab x158 false h157 (fun k159=>k159 x139 h157 [] []) fun x160 h161 _ _=>Ab x158 false h161 (fun k164=>CJ (KX .not x160) fun x165=>k164 x165 h161 [] []) fun x166 h167 _ _=>AF x158 (.fv (.bool true)) x166 fun x170=>Ab x170 false h167 (fun k171=>Ai 3 x147 h167 fun x172 r173=>k171 x172 h167 r173 []) fun x174 h175 _ _=>QA h175 x170 ih x174 x151 x147
def Qw (r385 w386:AD) (j1_155:IV→Hp→OH) (h384:Hp) (x350:IV):OH :=
 Ac [] r385 w386 (j1_155 x350 h384)
def Ps (ih:Aa) (h370:Hp) (x373 x375 x147 x369 x151:IV) (j1_155:IV→Hp→OH) (x350:IV):OH :=
 Aj [] false false ih 30 [x373,.fv (.int .i64 0),x375] h370 fun x377 h378 r379 w380=>Ac [] r379 w380 (Ak 3 x147 x369 h378 fun h381 r382 w383=>Ac [] r382 w383 (Ak 3 x151 x377 h381 fun h384 r385 w386=>Qw r385 w386 j1_155 h384 x350))
def RO (r371 w372:AD) (h370:Hp) (x338:IV) (r367 w368 r364 r361 w362 r357 w358 r354 r352:AD) (x112:IV) (ih:Aa) (x147 x369 x151:IV) (j1_155:IV→Hp→OH) (x350:IV):OH :=
 Ac [] r371 w372 (Ai 3 x338 h370 fun x373 r374=>Ac [(r371,w372),(r367,w368),(r364,[]),(r361,w362),(r357,w358),(r354,[]),(r352,[])] r374 [] (Ai 3 x112 h370 fun x375 r376=>Ac [(r374,[]),(r371,w372),(r367,w368),(r364,[]),(r361,w362),(r357,w358),(r354,[]),(r352,[])] r376 [] (Ps ih h370 x373 x375 x147 x369 x151 j1_155 x350)))
def QE (h360:Hp) (x112:IV) (r361 w362 r357 w358 r354 r352:AD) (x359:IV) (ih:Aa) (x338 x147 x151:IV) (j1_155:IV→Hp→OH) (x350:IV):OH :=
 Ai 3 x112 h360 fun x363 r364=>Ac [(r361,w362),(r357,w358),(r354,[]),(r352,[])] r364 [] (Aw (Ag EE 29 2 [(0,x359),(1,x363)]) 5258245 h360 fun x365 h366 r367 w368=>Ac [] r367 w368 (Aj [] false false ih 27 [.fv (.int .i64 5),x365] h366 fun x369 h370 r371 w372=>RO r371 w372 h370 x338 r367 w368 r364 r361 w362 r357 w358 r354 r352 x112 ih x147 x369 x151 j1_155 x350))
def ST (r354 r352:AD) (h347:Hp) (x351 x353:IV) (ih:Aa) (x112 x338 x147 x151:IV) (j1_155:IV→Hp→OH) (x350:IV):OH :=
 Ac [(r352,[])] r354 [] (Aw (Ag EE 29 2 [(0,x351),(1,x353)]) 5258242 h347 fun x355 h356 r357 w358=>Ac [] r357 w358 (Aj [] false false ih 27 [.fv (.int .i64 4),x355] h356 fun x359 h360 r361 w362=>Ac [] r361 w362 (QE h360 x112 r361 w362 r357 w358 r354 r352 x359 ih x338 x147 x151 j1_155 x350)))
def SK (h342:Hp) (x111 x337 x95 x338:IV) (ih:Aa) (x112 x147 x151:IV) (j1_155:IV→Hp→OH):OH :=
 Ab x111 true h342 (fun k345=>k345 x337 h342 [] []) fun x346 h347 _ _=>AF x111 x346 (.fv (.bool false)) fun x350=>Ai 3 x95 h347 fun x351 r352=>Ac [] r352 [] (Ai 3 x338 h347 fun x353 r354=>ST r354 r352 h347 x351 x353 ih x112 x338 x147 x151 j1_155 x350)
def Ql (x332:IV) (h333:Hp) (r334 w335 r331 r329 r326 w327 r323:AD) (x336 x111 x95:IV) (ih:Aa) (x112 x147 x151:IV) (j1_155:IV→Hp→OH):OH :=
 AL 1 x332 fun x337=>AM 5256201 (.row [.fv (.int .i64 0),.fv (.int .i64 0),.nils] false) (.ptr (.own 5256201) 0) h333 fun x338 h339 r340 w341=>Ac [(r334,w335),(r331,[]),(r329,[]),(r326,w327),(r323,[])] r340 w341 (Ak 3 x338 x336 h339 fun h342 r343 w344=>Ac [] r343 w344 (SK h342 x111 x337 x95 x338 ih x112 x147 x151 j1_155))
def SX (h325:Hp) (x14:IV) (r329 r326 w327 r323:AD) (ih:Aa) (x324 x328 x111 x95 x112 x147 x151:IV) (j1_155:IV→Hp→OH):OH :=
 Ai 3 x14 h325 fun x330 r331=>Ac [(r329,[]),(r326,w327),(r323,[])] r331 [] (Aj [] false false ih 26 [x324,x328,x330,.fv (.int .i64 3)] h325 fun x332 h333 r334 w335=>Ac [] r334 w335 (AL 0 x332 fun x336=>Ql x332 h333 r334 w335 r331 r329 r326 w327 r323 x336 x111 x95 ih x112 x147 x151 j1_155))
def PB (r323:AD) (ih:Aa) (h318:Hp) (x85 x322 x123 x14 x111 x95 x112 x147 x151:IV) (j1_155:IV→Hp→OH):OH :=
 Ac [] r323 [] (Aj [] false false ih 29 [x85,.fv (.int .i64 1),x322] h318 fun x324 h325 r326 w327=>Ac [] r326 w327 (Ai 3 x123 h325 fun x328 r329=>Ac [(r326,w327),(r323,[])] r329 [] (SX h325 x14 r329 r326 w327 r323 ih x324 x328 x111 x95 x112 x147 x151 j1_155)))
def Qr (h417:Hp) (x147 x416:IV) (r421:AD) (x151 x420:IV) (j1_155:IV→Hp→OH) (x111:IV):OH :=
 Ak 3 x147 x416 h417 fun h422 r423 w424=>Ac [(r421,[])] r423 w424 (Ak 3 x151 x420 h422 fun h425 r426 w427=>Ac [] r426 w427 (j1_155 x111 h425))
def Pv (r414 w415:AD) (ih:Aa) (h413:Hp) (x412 x112:IV) (r410 w411 r406 w407 r403 r401 r398 w399 r394 w395 r391 r389:AD) (x147 x151:IV) (j1_155:IV→Hp→OH) (x111:IV):OH :=
 Ac [] r414 w415 (Aj [] false false ih 27 [.fv (.int .i64 8),x412] h413 fun x416 h417 r418 w419=>Ac [] r418 w419 (Ai 3 x112 h417 fun x420 r421=>Ac [(r418,w419),(r414,w415),(r410,w411),(r406,w407),(r403,[]),(r401,[]),(r398,w399),(r394,w395),(r391,[]),(r389,[])] r421 [] (Qr h417 x147 x416 r421 x151 x420 j1_155 x111)))
def Sk (h397:Hp) (x396 x400 x402:IV) (ih:Aa) (x112:IV) (r403 r401 r398 w399 r394 w395 r391 r389:AD) (x147 x151:IV) (j1_155:IV→Hp→OH) (x111:IV):OH :=
 Aw (Ag EE 29 3 [(0,x396),(1,x400),(2,x402)]) 5260294 h397 fun x404 h405 r406 w407=>Ac [] r406 w407 (Aj [] false false ih 27 [.fv (.int .i64 7),x404] h405 fun x408 h409 r410 w411=>Ac [] r410 w411 (Aw (Ag EE 29 1 [(0,x408)]) 5260296 h409 fun x412 h413 r414 w415=>Pv r414 w415 ih h413 x412 x112 r410 w411 r406 w407 r403 r401 r398 w399 r394 w395 r391 r389 x147 x151 j1_155 x111))
def RW (r398 w399:AD) (h397:Hp) (x112:IV) (r394 w395 r391 r389:AD) (x140 x396:IV) (ih:Aa) (x147 x151:IV) (j1_155:IV→Hp→OH) (x111:IV):OH :=
 Ac [] r398 w399 (Ai 3 x112 h397 fun x400 r401=>Ac [(r398,w399),(r394,w395),(r391,[]),(r389,[])] r401 [] (Ai 3 x140 h397 fun x402 r403=>Ac [(r401,[]),(r398,w399),(r394,w395),(r391,[]),(r389,[])] r403 [] (Sk h397 x396 x400 x402 ih x112 r403 r401 r398 w399 r394 w395 r391 r389 x147 x151 j1_155 x111)))
def Tk (h318:Hp) (x123:IV) (r389:AD) (x388:IV) (ih:Aa) (x112 x140 x147 x151:IV) (j1_155:IV→Hp→OH) (x111:IV):OH :=
 Ai 3 x123 h318 fun x390 r391=>Ac [(r389,[])] r391 [] (Aw (Ag EE 29 2 [(0,x388),(1,x390)]) 5260290 h318 fun x392 h393 r394 w395=>Ac [] r394 w395 (Aj [] false false ih 27 [.fv (.int .i64 6),x392] h393 fun x396 h397 r398 w399=>RW r398 w399 h397 x112 r394 w395 r391 r389 x140 x396 ih x147 x151 j1_155 x111))
def SN (r467 w468:AD) (j1_155:IV→Hp→OH) (h466:Hp) (x111:IV):OH :=
 Ac [] r467 w468 (j1_155 x111 h466)
def P9 (h458:Hp) (x140:IV) (r459 w460 r455 w456 r451 w452 r447 w448 r444 r442 r439 w440 r435 w436 r432 r430:AD) (x147 x457 x151:IV) (j1_155:IV→Hp→OH) (x111:IV):OH :=
 Ai 3 x140 h458 fun x461 r462=>Ac [(r459,w460),(r455,w456),(r451,w452),(r447,w448),(r444,[]),(r442,[]),(r439,w440),(r435,w436),(r432,[]),(r430,[])] r462 [] (Ak 3 x147 x457 h458 fun h463 r464 w465=>Ac [(r462,[])] r464 w465 (Ak 3 x151 x461 h463 fun h466 r467 w468=>SN r467 w468 j1_155 h466 x111))
def Rr (r451 w452:AD) (h450:Hp) (x449:IV) (ih:Aa) (x140:IV) (r447 w448 r444 r442 r439 w440 r435 w436 r432 r430:AD) (x147 x151:IV) (j1_155:IV→Hp→OH) (x111:IV):OH :=
 Ac [] r451 w452 (Aw (Ag EE 29 1 [(0,x449)]) 5262344 h450 fun x453 h454 r455 w456=>Ac [] r455 w456 (Aj [] false false ih 27 [.fv (.int .i64 9),x453] h454 fun x457 h458 r459 w460=>Ac [] r459 w460 (P9 h458 x140 r459 w460 r455 w456 r451 w452 r447 w448 r444 r442 r439 w440 r435 w436 r432 r430 x147 x457 x151 j1_155 x111)))
def Qa (h438:Hp) (x140:IV) (r442 r439 w440 r435 w436 r432 r430:AD) (x437 x441:IV) (ih:Aa) (x147 x151:IV) (j1_155:IV→Hp→OH) (x111:IV):OH :=
 Ai 3 x140 h438 fun x443 r444=>Ac [(r442,[]),(r439,w440),(r435,w436),(r432,[]),(r430,[])] r444 [] (Aw (Ag EE 29 3 [(0,x437),(1,x441),(2,x443)]) 5262342 h438 fun x445 h446 r447 w448=>Ac [] r447 w448 (Aj [] false false ih 27 [.fv (.int .i64 7),x445] h446 fun x449 h450 r451 w452=>Rr r451 w452 h450 x449 ih x140 r447 w448 r444 r442 r439 w440 r435 w436 r432 r430 x147 x151 j1_155 x111))
def To (r435 w436:AD) (ih:Aa) (h434:Hp) (x433 x112:IV) (r432 r430:AD) (x140 x147 x151:IV) (j1_155:IV→Hp→OH) (x111:IV):OH :=
 Ac [] r435 w436 (Aj [] false false ih 27 [.fv (.int .i64 6),x433] h434 fun x437 h438 r439 w440=>Ac [] r439 w440 (Ai 3 x112 h438 fun x441 r442=>Ac [(r439,w440),(r435,w436),(r432,[]),(r430,[])] r442 [] (Qa h438 x140 r442 r439 w440 r435 w436 r432 r430 x437 x441 ih x147 x151 j1_155 x111)))
def Qc (h318:Hp) (x95 x123:IV) (ih:Aa) (x112 x140 x147 x151:IV) (j1_155:IV→Hp→OH) (x111:IV):OH :=
 Ai 3 x95 h318 fun x429 r430=>Ac [] r430 [] (Ai 3 x123 h318 fun x431 r432=>Ac [(r430,[])] r432 [] (Aw (Ag EE 29 2 [(0,x429),(1,x431)]) 5262338 h318 fun x433 h434 r435 w436=>To r435 w436 ih h434 x433 x112 r432 r430 x140 x147 x151 j1_155 x111))
def SR (r497 r494 w495 r490 w491 r486 w487 r482 w483 r479 r477 r474 w475 r471:AD) (h493:Hp) (x147 x492 x151 x496:IV) (j1_155:IV→Hp→OH) (x111:IV):OH :=
 Ac [(r494,w495),(r490,w491),(r486,w487),(r482,w483),(r479,[]),(r477,[]),(r474,w475),(r471,[])] r497 [] (Ak 3 x147 x492 h493 fun h498 r499 w500=>Ac [(r497,[])] r499 w500 (Ak 3 x151 x496 h498 fun h501 r502 w503=>Ac [] r502 w503 (j1_155 x111 h501)))
def Q2 (h485:Hp) (x472 x476 x480 x484:IV) (ih:Aa) (x112:IV) (r486 w487 r482 w483 r479 r477 r474 w475 r471:AD) (x147 x151:IV) (j1_155:IV→Hp→OH) (x111:IV):OH :=
 Aw (Ag EE 29 4 [(0,x472),(1,x476),(2,x480),(3,x484)]) 5264390 h485 fun x488 h489 r490 w491=>Ac [] r490 w491 (Aj [] false false ih 27 [.fv (.int .i64 13),x488] h489 fun x492 h493 r494 w495=>Ac [] r494 w495 (Ai 3 x112 h493 fun x496 r497=>SR r497 r494 w495 r490 w491 r486 w487 r482 w483 r479 r477 r474 w475 r471 h493 x147 x492 x151 x496 j1_155 x111))
def Rf (r479 r477 r474 w475 r471:AD) (ih:Aa) (h473:Hp) (x478 x472 x476 x112 x147 x151:IV) (j1_155:IV→Hp→OH) (x111:IV):OH :=
 Ac [(r477,[]),(r474,w475),(r471,[])] r479 [] (Aj [] false false ih 31 [x478,.fv (.int .i64 2),.fv (.int .i64 0)] h473 fun x480 h481 r482 w483=>Ac [(r477,[])] r482 w483 (Aj [] false false ih 27 [.fv (.int .i64 11),.nils] h481 fun x484 h485 r486 w487=>Ac [(r477,[])] r486 w487 (Q2 h485 x472 x476 x480 x484 ih x112 r486 w487 r482 w483 r479 r477 r474 w475 r471 x147 x151 j1_155 x111)))
def Q3 (ih:Aa) (h318:Hp) (x470 x112:IV) (r471:AD) (x147 x151:IV) (j1_155:IV→Hp→OH) (x111:IV):OH :=
 Aj [] false false ih 31 [x470,.fv (.int .i64 1),.fv (.int .i64 0)] h318 fun x472 h473 r474 w475=>Ac [] r474 w475 (Ai 3 x112 h473 fun x476 r477=>Ac [(r474,w475),(r471,[])] r477 [] (Ai 3 x112 h473 fun x478 r479=>Rf r479 r477 r474 w475 r471 ih h473 x478 x472 x476 x112 x147 x151 j1_155 x111))
def Q0 (r622 w623:AD) (h621:Hp) (x151 x617:IV) (j1_155:IV→Hp→OH) (x547:IV):OH :=
 Ac [] r622 w623 (Ak 3 x151 x617 h621 fun h624 r625 w626=>Ac [] r625 w626 (j1_155 x547 h624))
def Tf (h612:Hp) (x140:IV) (r613 w614 r609 w610 r606 r604 r601 w602 r597 w598 r593 w594 r589 w590 r586 r584 r582 r579 w580 r576:AD) (ih:Aa) (x611 x147 x599 x151:IV) (j1_155:IV→Hp→OH) (x547:IV):OH :=
 Ai 3 x140 h612 fun x615 r616=>Ac [(r613,w614),(r609,w610),(r606,[]),(r604,[]),(r601,w602),(r597,w598),(r593,w594),(r589,w590),(r586,[]),(r584,[]),(r582,[]),(r579,w580),(r576,[])] r616 [] (Aj [] false false ih 30 [x611,.fv (.int .i64 0),x615] h612 fun x617 h618 r619 w620=>Ac [] r619 w620 (Ak 3 x147 x599 h618 fun h621 r622 w623=>Q0 r622 w623 h621 x151 x617 j1_155 x547))
def Se (r606 r604 r601 w602 r597 w598 r593 w594 r589 w590 r586 r584 r582 r579 w580 r576:AD) (ih:Aa) (h600:Hp) (x605 x603 x140 x147 x599 x151:IV) (j1_155:IV→Hp→OH) (x547:IV):OH :=
 Ac [(r604,[]),(r601,w602),(r597,w598),(r593,w594),(r589,w590),(r586,[]),(r584,[]),(r582,[]),(r579,w580),(r576,[])] r606 [] (Aj [] false false ih 31 [x605,.fv (.int .i64 1),.fv (.int .i64 0)] h600 fun x607 h608 r609 w610=>Ac [(r604,[])] r609 w610 (Aj [] false false ih 30 [x603,.fv (.int .i64 0),x607] h608 fun x611 h612 r613 w614=>Ac [] r613 w614 (Tf h612 x140 r613 w614 r609 w610 r606 r604 r601 w602 r597 w598 r593 w594 r589 w590 r586 r584 r582 r579 w580 r576 ih x611 x147 x599 x151 j1_155 x547)))
def RB (ih:Aa) (h596:Hp) (x595 x535:IV) (r597 w598 r593 w594 r589 w590 r586 r584 r582 r579 w580 r576:AD) (x568 x140 x147 x151:IV) (j1_155:IV→Hp→OH) (x547:IV):OH :=
 Aj [] false false ih 27 [.fv (.int .i64 13),x595] h596 fun x599 h600 r601 w602=>Ac [] r601 w602 (Ai 3 x535 h600 fun x603 r604=>Ac [(r601,w602),(r597,w598),(r593,w594),(r589,w590),(r586,[]),(r584,[]),(r582,[]),(r579,w580),(r576,[])] r604 [] (Ai 3 x568 h600 fun x605 r606=>Se r606 r604 r601 w602 r597 w598 r593 w594 r589 w590 r586 r584 r582 r579 w580 r576 ih h600 x605 x603 x140 x147 x599 x151 j1_155 x547))
def P2 (r589 w590 r584 r582 r579 w580 r576:AD) (ih:Aa) (h588:Hp) (x587 x577 x581 x583 x535:IV) (r586:AD) (x568 x140 x147 x151:IV) (j1_155:IV→Hp→OH) (x547:IV):OH :=
 Ac [(r584,[]),(r582,[]),(r579,w580),(r576,[])] r589 w590 (Aj [] false false ih 27 [.fv (.int .i64 12),x587] h588 fun x591 h592 r593 w594=>Ac [(r584,[]),(r582,[])] r593 w594 (Aw (Ag EE 29 4 [(0,x577),(1,x581),(2,x583),(3,x591)]) 5269511 h592 fun x595 h596 r597 w598=>Ac [] r597 w598 (RB ih h596 x595 x535 r597 w598 r593 w594 r589 w590 r586 r584 r582 r579 w580 r576 x568 x140 x147 x151 j1_155 x547)))
def Pw (h578:Hp) (x535:IV) (r582 r579 w580 r576:AD) (x140:IV) (ih:Aa) (x577 x581 x568 x147 x151:IV) (j1_155:IV→Hp→OH) (x547:IV):OH :=
 Ai 3 x535 h578 fun x583 r584=>Ac [(r582,[]),(r579,w580),(r576,[])] r584 [] (Ai 3 x140 h578 fun x585 r586=>Ac [(r584,[]),(r582,[]),(r579,w580),(r576,[])] r586 [] (Aw (Ag EE 29 1 [(0,x585)]) 5269509 h578 fun x587 h588 r589 w590=>P2 r589 w590 r584 r582 r579 w580 r576 ih h588 x587 x577 x581 x583 x535 r586 x568 x140 x147 x151 j1_155 x547))
def RA (r576:AD) (ih:Aa) (h572:Hp) (x575 x112 x535 x140 x568 x147 x151:IV) (j1_155:IV→Hp→OH) (x547:IV):OH :=
 Ac [] r576 [] (Aj [] false false ih 31 [x575,.fv (.int .i64 1),.fv (.int .i64 0)] h572 fun x577 h578 r579 w580=>Ac [] r579 w580 (Ai 3 x112 h578 fun x581 r582=>Ac [(r579,w580),(r576,[])] r582 [] (Pw h578 x535 r582 r579 w580 r576 x140 ih x577 x581 x568 x147 x151 j1_155 x547)))
def Q6 (h565:Hp) (r566 w567 r562 w563 r559 r557 r555 r552 w553 r549:AD) (x564 x95:IV) (ih:Aa) (x112 x535 x140 x147 x151:IV) (j1_155:IV→Hp→OH) (x547:IV):OH :=
 AM 5268487 (.row [.fv (.int .i64 0),.fv (.int .i64 0),.nils] false) (.ptr (.own 5268487) 0) h565 fun x568 h569 r570 w571=>Ac [(r566,w567),(r562,w563),(r559,[]),(r557,[]),(r555,[]),(r552,w553),(r549,[])] r570 w571 (Ak 3 x568 x564 h569 fun h572 r573 w574=>Ac [] r573 w574 (Ai 3 x95 h572 fun x575 r576=>RA r576 ih h572 x575 x112 x535 x140 x568 x147 x151 j1_155 x547))
def Rm (r559 r557 r555 r552 w553 r549:AD) (h551:Hp) (x550 x554 x556 x558:IV) (ih:Aa) (x95 x112 x535 x140 x147 x151:IV) (j1_155:IV→Hp→OH) (x547:IV):OH :=
 Ac [(r557,[]),(r555,[]),(r552,w553),(r549,[])] r559 [] (Aw (Ag EE 29 4 [(0,x550),(1,x554),(2,x556),(3,x558)]) 5268485 h551 fun x560 h561 r562 w563=>Ac [] r562 w563 (Aj [] false false ih 27 [.fv (.int .i64 13),x560] h561 fun x564 h565 r566 w567=>Ac [] r566 w567 (Q6 h565 r566 w567 r562 w563 r559 r557 r555 r552 w553 r549 x564 x95 ih x112 x535 x140 x147 x151 j1_155 x547)))
def S6 (h551:Hp) (x112:IV) (r552 w553 r549:AD) (x535 x140 x550:IV) (ih:Aa) (x95 x147 x151:IV) (j1_155:IV→Hp→OH) (x547:IV):OH :=
 Ai 3 x112 h551 fun x554 r555=>Ac [(r552,w553),(r549,[])] r555 [] (Ai 3 x535 h551 fun x556 r557=>Ac [(r555,[]),(r552,w553),(r549,[])] r557 [] (Ai 3 x140 h551 fun x558 r559=>Rm r559 r557 r555 r552 w553 r549 h551 x550 x554 x556 x558 ih x95 x112 x535 x140 x147 x151 j1_155 x547))
def RG (x111 x543:IV) (h544:Hp) (x95:IV) (ih:Aa) (x112 x535 x140 x147 x151:IV) (j1_155:IV→Hp→OH):OH :=
 AF x111 x543 (.fv (.bool false)) fun x547=>Ai 3 x95 h544 fun x548 r549=>Ac [] r549 [] (Aj [] false false ih 31 [x548,.fv (.int .i64 1),.fv (.int .i64 0)] h544 fun x550 h551 r552 w553=>Ac [] r552 w553 (S6 h551 x112 r552 w553 r549 x535 x140 x550 ih x95 x147 x151 j1_155 x547))
def Q4 (h530:Hp) (r531 w532 r528 r525 w526 r522 r519 w520 r515 w516 r512 r509 w510 r506:AD) (x533 x111 x534 x95:IV) (ih:Aa) (x112 x140 x147 x151:IV) (j1_155:IV→Hp→OH):OH :=
 AM 5266445 (.row [.fv (.int .i64 0),.fv (.int .i64 0),.nils] false) (.ptr (.own 5266445) 0) h530 fun x535 h536 r537 w538=>Ac [(r531,w532),(r528,[]),(r525,w526),(r522,[]),(r519,w520),(r515,w516),(r512,[]),(r509,w510),(r506,[])] r537 w538 (Ak 3 x535 x533 h536 fun h539 r540 w541=>Ac [] r540 w541 (Ab x111 true h539 (fun k542=>k542 x534 h539 [] []) fun x543 h544 _ _=>RG x111 x543 h544 x95 ih x112 x535 x140 x147 x151 j1_155))
def PN (r528 r525 w526 r522 r519 w520 r515 w516 r512 r509 w510 r506:AD) (ih:Aa) (h524:Hp) (x517 x523 x527 x111 x95 x112 x140 x147 x151:IV) (j1_155:IV→Hp→OH):OH :=
 Ac [(r525,w526),(r522,[]),(r519,w520),(r515,w516),(r512,[]),(r509,w510),(r506,[])] r528 [] (Aj [] false false ih 26 [x517,x523,x527,.fv (.int .i64 3)] h524 fun x529 h530 r531 w532=>Ac [] r531 w532 (AL 0 x529 fun x533=>AL 1 x529 fun x534=>Q4 h530 r531 w532 r528 r525 w526 r522 r519 w520 r515 w516 r512 r509 w510 r506 x533 x111 x534 x95 ih x112 x140 x147 x151 j1_155))
def PQ (h518:Hp) (x95:IV) (r519 w520 r515 w516 r512 r509 w510 r506:AD) (ih:Aa) (x14 x517 x111 x112 x140 x147 x151:IV) (j1_155:IV→Hp→OH):OH :=
 Ai 3 x95 h518 fun x521 r522=>Ac [(r519,w520),(r515,w516),(r512,[]),(r509,w510),(r506,[])] r522 [] (Aj [] false false ih 31 [x521,.fv (.int .i64 2),.fv (.int .i64 0)] h518 fun x523 h524 r525 w526=>Ac [] r525 w526 (Ai 3 x14 h524 fun x527 r528=>PN r528 r525 w526 r522 r519 w520 r515 w516 r512 r509 w510 r506 ih h524 x517 x523 x527 x111 x95 x112 x140 x147 x151 j1_155))
def Qg (r512 r509 w510 r506:AD) (ih:Aa) (h508:Hp) (x511 x507 x95 x14 x111 x112 x140 x147 x151:IV) (j1_155:IV→Hp→OH):OH :=
 Ac [(r509,w510),(r506,[])] r512 [] (Aj [] false false ih 31 [x511,.fv (.int .i64 1),.fv (.int .i64 0)] h508 fun x513 h514 r515 w516=>Ac [] r515 w516 (Aj [] false false ih 29 [x507,.fv (.int .i64 1),x513] h514 fun x517 h518 r519 w520=>Ac [] r519 w520 (PQ h518 x95 r519 w520 r515 w516 r512 r509 w510 r506 ih x14 x517 x111 x112 x140 x147 x151 j1_155)))
def Sg (h318:Hp) (x123:IV) (ih:Aa) (x85 x95 x14 x111 x112 x140 x147 x151:IV) (j1_155:IV→Hp→OH):OH :=
 Ai 3 x123 h318 fun x505 r506=>Ac [] r506 [] (Aj [] false false ih 29 [x85,.fv (.int .i64 1),x505] h318 fun x507 h508 r509 w510=>Ac [] r509 w510 (Ai 3 x95 h508 fun x511 r512=>Qg r512 r509 w510 r506 ih h508 x511 x507 x95 x14 x111 x112 x140 x147 x151 j1_155))
def QT (r670 w671 r668:AD) (h669:Hp) (x151 x667:IV) (j1_155:IV→Hp→OH) (x641:IV):OH :=
 Ac [(r668,[])] r670 w671 (Ak 3 x151 x667 h669 fun h672 r673 w674=>Ac [] r673 w674 (j1_155 x641 h672))
def Re (ih:Aa) (h660:Hp) (x659 x642:IV) (r661 w662 r657 w658 r653 w654 r650:AD) (x147 x151:IV) (j1_155:IV→Hp→OH) (x641:IV):OH :=
 Aj [] false false ih 27 [.fv (.int .i64 30),x659] h660 fun x663 h664 r665 w666=>Ac [] r665 w666 (Ai 3 x642 h664 fun x667 r668=>Ac [(r665,w666),(r661,w662),(r657,w658),(r653,w654),(r650,[])] r668 [] (Ak 3 x147 x663 h664 fun h669 r670 w671=>QT r670 w671 r668 h669 x151 x667 j1_155 x641))
def Qn (r653 w654:AD) (ih:Aa) (h652:Hp) (x651 x642:IV) (r650:AD) (x147 x151:IV) (j1_155:IV→Hp→OH) (x641:IV):OH :=
 Ac [] r653 w654 (Aj [] false false ih 27 [.fv (.int .i64 19),x651] h652 fun x655 h656 r657 w658=>Ac [] r657 w658 (Aw (Ag EE 29 1 [(0,x655)]) 5273603 h656 fun x659 h660 r661 w662=>Ac [] r661 w662 (Re ih h660 x659 x642 r661 w662 r657 w658 r653 w654 r650 x147 x151 j1_155 x641)))
def QL (h643:Hp) (x642 x640:IV) (ih:Aa) (x147 x151:IV) (j1_155:IV→Hp→OH) (x641:IV):OH :=
 Ak 3 x642 x640 h643 fun h646 r647 w648=>Ac [] r647 w648 (Ai 3 x642 h646 fun x649 r650=>Ac [] r650 [] (Aw (Ag EE 29 1 [(0,x649)]) 5273601 h646 fun x651 h652 r653 w654=>Qn r653 w654 ih h652 x651 x642 r650 x147 x151 j1_155 x641))
def Rw (r638 w639:AD) (x636:IV) (h637:Hp) (r635 r632 w633 r629:AD) (ih:Aa) (x147 x151:IV) (j1_155:IV→Hp→OH):OH :=
 Ac [] r638 w639 (AL 0 x636 fun x640=>AL 1 x636 fun x641=>AM 5271560 (.row [.fv (.int .i64 0),.fv (.int .i64 0),.nils] false) (.ptr (.own 5271560) 0) h637 fun x642 h643 r644 w645=>Ac [(r638,w639),(r635,[]),(r632,w633),(r629,[])] r644 w645 (QL h643 x642 x640 ih x147 x151 j1_155 x641))
def Ti (ih:Aa) (h318:Hp) (x628 x14:IV) (r629:AD) (x85 x147 x151:IV) (j1_155:IV→Hp→OH):OH :=
 Aj [] false false ih 33 [x628,.fv (.int .i64 1)] h318 fun x630 h631 r632 w633=>Ac [] r632 w633 (Ai 3 x14 h631 fun x634 r635=>Ac [(r632,w633),(r629,[])] r635 [] (Aj [] false false ih 32 [x85,x630,x634,.fv (.int .i64 4)] h631 fun x636 h637 r638 w639=>Rw r638 w639 x636 h637 r635 r632 w633 r629 ih x147 x151 j1_155))
def QS (x317:IV) (h318:Hp) (x10:IV) (ih:Aa) (x14 x85 x147 x151:IV) (j1_155:IV→Hp→OH) (x111:IV):OH :=
 A0 EE 3 x317 (.fv (.int .i64 5)) fun x627=>Al x627 (Ai 3 x10 h318 fun x628 r629=>Ac [] r629 [] (Ti ih h318 x628 x14 r629 x85 x147 x151 j1_155)) (j1_155 x111 h318)
def Sy (x317:IV) (h318:Hp) (x95:IV) (ih:Aa) (x112 x147 x151:IV) (j1_155:IV→Hp→OH) (x111 x123 x85 x14 x140 x10:IV):OH :=
 A0 EE 3 x317 (.fv (.int .i64 3)) fun x469=>Al x469 (Ai 3 x95 h318 fun x470 r471=>Ac [] r471 [] (Q3 ih h318 x470 x112 r471 x147 x151 j1_155 x111)) (A0 EE 3 x317 (.fv (.int .i64 4)) fun x504=>Al x504 (Sg h318 x123 ih x85 x95 x14 x111 x112 x140 x147 x151 j1_155) (QS x317 h318 x10 ih x14 x85 x147 x151 j1_155 x111))
def SL (x387:IV) (h318:Hp) (x95 x123:IV) (ih:Aa) (x112 x140 x147 x151:IV) (j1_155:IV→Hp→OH) (x111 x317 x85 x14 x10:IV):OH :=
 Al x387 (Ai 3 x95 h318 fun x388 r389=>Ac [] r389 [] (Tk h318 x123 r389 x388 ih x112 x140 x147 x151 j1_155 x111)) (A0 EE 3 x317 (.fv (.int .i64 2)) fun x428=>Al x428 (Qc h318 x95 x123 ih x112 x140 x147 x151 j1_155 x111) (Sy x317 h318 x95 ih x112 x147 x151 j1_155 x111 x123 x85 x14 x140 x10))
def Rz (ih:Aa) (h152:Hp) (x4 x95 x85 x123 x14 x111 x112 x147 x151:IV) (j1_155:IV→Hp→OH) (x140 x10:IV):OH :=
 Aj [] false false ih 28 [x4,.fv (.int .i64 6)] h152 fun x317 h318 _ _=>A0 EE 3 x317 (.fv (.int .i64 0)) fun x321=>Al x321 (Ai 3 x95 h318 fun x322 r323=>PB r323 ih h318 x85 x322 x123 x14 x111 x95 x112 x147 x151 j1_155) (A0 EE 3 x317 (.fv (.int .i64 1)) fun x387=>SL x387 h318 x95 x123 ih x112 x140 x147 x151 j1_155 x111 x317 x85 x14 x10)
def Qz (h135:Hp) (x138 x139:IV) (ih:Aa) (x4 x95 x85 x123 x14 x111 x112 x10:IV):OH :=
 AM 5252103 (.row [.fv (.int .i64 0),.fv (.int .i64 0),.nils] false) (.ptr (.own 5252103) 0) h135 fun x140 h141 _ _=>Ak 3 x140 x138 h141 fun h144 _ _=>AM 5253120 (.row [.fv (.int .i64 0),.fv (.int .i64 0),.nils] false) (.ptr (.own 5253120) 0) h144 fun x147 h148 _ _=>AM 5253121 (.row [.fv (.int .i64 0),.fv (.int .i64 0),.nils] false) (.ptr (.own 5253121) 0) h148 fun x151 h152 _ _=>(fun (j1_155:IV→Hp→OH)=>Rz ih h152 x4 x95 x85 x123 x14 x111 x112 x147 x151 j1_155 x140 x10) fun x156 h157=>VG x156 h157 x139 x147 ih x151
def SQ (h127:Hp) (x123 x14:IV) (ih:Aa) (x85 x4 x95 x111 x112 x10:IV):OH :=
 Ai 3 x123 h127 fun x130 _=>Ai 3 x14 h127 fun x132 _=>Aj [] false false ih 26 [x85,x130,x132,.fv (.int .i64 3)] h127 fun x134 h135 _ _=>AL 0 x134 fun x138=>AL 1 x134 fun x139=>Qz h135 x138 x139 ih x4 x95 x85 x123 x14 x111 x112 x10
def P4 (h107:Hp) (x110:IV) (ih:Aa) (x14 x85 x4 x95 x111 x10:IV):OH :=
 AM 5250055 (.row [.fv (.int .i64 0),.fv (.int .i64 0),.nils] false) (.ptr (.own 5250055) 0) h107 fun x112 h113 _ _=>Ak 3 x112 x110 h113 fun h116 _ _=>Aj [] false false ih 27 [.fv (.int .i64 10),.nils] h116 fun x119 h120 _ _=>AM 5251073 (.row [.fv (.int .i64 0),.fv (.int .i64 0),.nils] false) (.ptr (.own 5251073) 0) h120 fun x123 h124 _ _=>Ak 3 x123 x119 h124 fun h127 _ _=>SQ h127 x123 x14 ih x85 x4 x95 x111 x112 x10
def Q9 (h99:Hp) (x95 x6:IV) (ih:Aa) (x85 x14 x4 x10:IV):OH :=
 Ai 3 x95 h99 fun x102 _=>Ai 3 x6 h99 fun x104 _=>Aj [] false false ih 26 [x85,x102,x104,.fv (.int .i64 4)] h99 fun x106 h107 _ _=>AL 0 x106 fun x110=>AL 1 x106 fun x111=>P4 h107 x110 ih x14 x85 x4 x95 x111 x10
def Pu (ih:Aa) (h81:Hp) (x0 x10 x6 x14 x4:IV):OH :=
 Aj [] false false ih 24 [x0] h81 fun x85 h86 _ _=>Ai 3 x10 h86 fun x89 _=>Aj [] false false ih 25 [x85,x89,.fv (.int .i64 1)] h86 fun x91 h92 _ _=>AM 5249027 (.row [.fv (.int .i64 0),.fv (.int .i64 0),.nils] false) (.ptr (.own 5249027) 0) h92 fun x95 h96 _ _=>Ak 3 x95 x91 h96 fun h99 _ _=>Q9 h99 x95 x6 ih x85 x14 x4 x10
def Qo (h62:Hp) (x65 x14:IV) (ih:Aa) (x0 x10 x6 x4:IV):OH :=
 Ab x65 false h62 (fun k66=>Ai 3 x14 h62 fun x67 r68=>k66 x67 h62 r68 []) fun x69 h70 _ _=>Ab x65 false h70 (fun k73=>Aj [] false false ih 16 [x69] h70 k73) fun x74 h75 _ _=>Ab x65 false h75 (fun k78=>CJ (KX .not x74) fun x79=>k78 x79 h75 [] []) fun x80 h81 _ _=>AF x65 (.fv (.bool true)) x80 fun x84=>Al x84 (Ap [.fv (.bool true)] h81) (Pu ih h81 x0 x10 x6 x14 x4)
def P8 (x27 x42:IV) (h43:Hp) (x10:IV) (ih:Aa) (x14 x0 x6 x4:IV):OH :=
 AF x27 (.fv (.bool true)) x42 fun x46=>Ab x46 false h43 (fun k47=>Ai 3 x10 h43 fun x48 r49=>k47 x48 h43 r49 []) fun x50 h51 _ _=>Ab x46 false h51 (fun k54=>Aj [] false false ih 16 [x50] h51 k54) fun x55 h56 _ _=>Ab x46 false h56 (fun k59=>CJ (KX .not x55) fun x60=>k59 x60 h56 [] []) fun x61 h62 _ _=>AF x46 (.fv (.bool true)) x61 fun x65=>Qo h62 x65 x14 ih x0 x10 x6 x4
def Tc (ih:Aa) (h19:Hp) (x0 x6 x10 x14 x4:IV):OH :=
 Aj [] false false ih 15 [x0] h19 fun x23 h24 _ _=>CJ (KX .not x23) fun x27=>Ab x27 false h24 (fun k28=>Ai 3 x6 h24 fun x29 r30=>k28 x29 h24 r30 []) fun x31 h32 _ _=>Ab x27 false h32 (fun k35=>Aj [] false false ih 16 [x31] h32 k35) fun x36 h37 _ _=>Ab x27 false h37 (fun k40=>CJ (KX .not x36) fun x41=>k40 x41 h37 [] []) fun x42 h43 _ _=>P8 x27 x42 h43 x10 ih x14 x0 x6 x4
def S5 (ih:Aa) (n:Nat) (x0 x1 x2 x3 x4:IV) (h5:Hp):OH :=
 Bh 5242880 x1 h5 fun x6 h7 _ _=>Bh 5242881 x2 h7 fun x10 h11 _ _=>Bh 5242882 x3 h11 fun x14 h15 _ _=>Aj [] false false ih 14 [] h15 fun x18 h19 _ _=>CJ (KX .not x18) fun x22=>Al x22 (Ap [.fv (.bool false)] h19) (Tc ih h19 x0 x6 x10 x14 x4)
theorem Aow (ih:Aa) (n:Nat) (x0 x1 x2 x3 x4:IV) (h5:Hp):AI EE ih ft.get n 5 [x0,x1,x2,x3,x4] h5=S5 ih n x0 x1 x2 x3 x4 h5:=by kernel_rfl
def AhE (x362 x381:IV) (h382:Hp):OH :=
 AF x362 x381 (.fv (.bool false)) fun x385=>Ap [x385] h382
def Aic (h354:Hp) (x283:IV) (ih:Aa) (x358 x265:IV):OH :=
 Ai 3 x283 h354 fun x360 _=>Aj [] false false ih 37 [x358,x360] h354 fun x362 h363 _ _=>Ab x362 true h363 (fun k366=>Ai 3 x265 h363 fun x367 r368=>k366 x367 h363 r368 []) fun x369 h370 _ _=>Ab x362 true h370 (fun k373=>Ai 3 x283 h370 fun x374 r375=>k373 x374 h370 r375 []) fun x376 h377 _ _=>Ab x362 true h377 (fun k380=>Aj [] false false ih 37 [x369,x376] h377 k380) fun x381 h382 _ _=>AhE x362 x381 h382
def Ajd (h343:Hp) (x338:IV) (ih:Aa) (x342 x261 x283 x265:IV):OH :=
 Ab x338 false h343 (fun k346=>Aj [] false false ih 22 [x342] h343 k346) fun x347 h348 _ _=>Ab x338 false h348 (fun k351=>I1 EE 3 x347 (.fv (.int .i64 0)) fun x352=>k351 x352 h348 [] []) fun x353 h354 _ _=>AF x338 (.fv (.bool true)) x353 fun x357=>Al x357 (Ap [.fv (.bool true)] h354) (Ai 3 x261 h354 fun x358 _=>Aic h354 x283 ih x358 x265)
def Ahv (h316:Hp) (x319 x261:IV) (ih:Aa) (x265 x283:IV):OH :=
 Ab x319 false h316 (fun k320=>Ai 3 x261 h316 fun x321 r322=>k320 x321 h316 r322 []) fun x323 h324 _ _=>Ab x319 false h324 (fun k327=>Aj [] false false ih 22 [x323] h324 k327) fun x328 h329 _ _=>Ab x319 false h329 (fun k332=>I1 EE 3 x328 (.fv (.int .i64 0)) fun x333=>k332 x333 h329 [] []) fun x334 h335 _ _=>AF x319 (.fv (.bool true)) x334 fun x338=>Ab x338 false h335 (fun k339=>Ai 3 x265 h335 fun x340 r341=>k339 x340 h335 r341 []) fun x342 h343 _ _=>Ajd h343 x338 ih x342 x261 x283 x265
def Ajt (h299:Hp) (x298 x296:IV) (ih:Aa) (x282 x297 x261 x265 x283:IV):OH :=
 Ak 3 x298 x296 h299 fun h302 _ _=>Aj [] false false ih 19 [x282] h302 fun x305 h306 _ _=>Ab x305 false h306 (fun k309=>k309 x297 h306 [] []) fun x310 h311 _ _=>Ab x305 false h311 (fun k314=>Aj [] false false ih 19 [x310] h311 k314) fun x315 h316 _ _=>AF x305 (.fv (.bool true)) x315 fun x319=>Ahv h316 x319 x261 ih x265 x283
def Ahi (h287:Hp) (x265:IV) (ih:Aa) (x282 x261 x283:IV):OH :=
 Ai 3 x265 h287 fun x290 _=>Aj [] false false ih 18 [x290] h287 fun x292 h293 _ _=>AL 0 x292 fun x296=>AL 1 x292 fun x297=>AM 12597253 (.row [.fv (.int .i64 0),.fv (.int .i64 0),.nils] false) (.ptr (.own 12597253) 0) h293 fun x298 h299 _ _=>Ajt h299 x298 x296 ih x282 x297 x261 x265 x283
def Ajp (ih:Aa) (h272:Hp) (x275 x265 x261:IV):OH :=
 Aj [] false false ih 18 [x275] h272 fun x277 h278 _ _=>AL 0 x277 fun x281=>AL 1 x277 fun x282=>AM 12596229 (.row [.fv (.int .i64 0),.fv (.int .i64 0),.nils] false) (.ptr (.own 12596229) 0) h278 fun x283 h284 _ _=>Ak 3 x283 x281 h284 fun h287 _ _=>Ahi h287 x265 ih x282 x261 x283
def AiI (h266:Hp) (x261 x249 x265 x257:IV) (ih:Aa):OH :=
 Ak 3 x261 x249 h266 fun h269 r270 w271=>Ac [] r270 w271 (Ak 3 x265 x257 h269 fun h272 r273 w274=>Ac [] r273 w274 (Ai 3 x261 h272 fun x275 _=>Ajp ih h272 x275 x265 x261))
def AiE (r259 w260:AD) (h258:Hp) (r256 r254 r251 w252 r248 r246:AD) (x249 x257:IV) (ih:Aa):OH :=
 Ac [] r259 w260 (AM 12595206 (.row [.fv (.int .i64 0),.fv (.int .i64 0),.nils] false) (.ptr (.own 12595206) 0) h258 fun x261 h262 r263 w264=>Ac [(r259,w260),(r256,[]),(r254,[]),(r251,w252),(r248,[]),(r246,[])] r263 w264 (AM 12595207 (.row [.fv (.int .i64 0),.fv (.int .i64 0),.nils] false) (.ptr (.own 12595207) 0) h262 fun x265 h266 r267 w268=>Ac [(r263,w264),(r259,w260),(r256,[]),(r254,[]),(r251,w252),(r248,[]),(r246,[])] r267 w268 (AiI h266 x261 x249 x265 x257 ih)))
def Ai6 (h250:Hp) (x157:IV) (r251 w252 r248 r246:AD) (x142:IV) (ih:Aa) (x249:IV):OH :=
 Ai 3 x157 h250 fun x253 r254=>Ac [(r251,w252),(r248,[]),(r246,[])] r254 [] (Ai 3 x142 h250 fun x255 r256=>Ac [(r254,[]),(r251,w252),(r248,[]),(r246,[])] r256 [] (Aj [] false false ih 30 [x253,.fv (.int .i64 0),x255] h250 fun x257 h258 r259 w260=>AiE r259 w260 h258 r256 r254 r251 w252 r248 r246 x249 x257 ih))
def AhB (r246:AD) (h241:Hp) (x142:IV) (ih:Aa) (x245 x157:IV):OH :=
 Ac [] r246 [] (Ai 3 x142 h241 fun x247 r248=>Ac [(r246,[])] r248 [] (Aj [] false false ih 30 [x245,.fv (.int .i64 0),x247] h241 fun x249 h250 r251 w252=>Ac [] r251 w252 (Ai6 h250 x157 r251 w252 r248 r246 x142 ih x249)))
def Aiq (h230:Hp) (x225:IV) (ih:Aa) (x229 x119 x142 x157:IV):OH :=
 Ab x225 false h230 (fun k233=>Aj [] false false ih 36 [x229] h230 k233) fun x234 h235 _ _=>Ab x225 false h235 (fun k238=>KY EE 3 x234 (.fv (.int .i64 20)) fun x239=>k238 x239 h235 [] []) fun x240 h241 _ _=>AF x225 (.fv (.bool true)) x240 fun x244=>Al x244 (Ap [.fv (.bool true)] h241) (Ai 3 x119 h241 fun x245 r246=>AhB r246 h241 x142 ih x245 x157)
def Aiw (h203:Hp) (x206 x157:IV) (ih:Aa) (x142 x119:IV):OH :=
 Ab x206 false h203 (fun k207=>Ai 3 x157 h203 fun x208 r209=>k207 x208 h203 r209 []) fun x210 h211 _ _=>Ab x206 false h211 (fun k214=>Aj [] false false ih 36 [x210] h211 k214) fun x215 h216 _ _=>Ab x206 false h216 (fun k219=>KY EE 3 x215 (.fv (.int .i64 400)) fun x220=>k219 x220 h216 [] []) fun x221 h222 _ _=>AF x206 (.fv (.bool true)) x221 fun x225=>Ab x225 false h222 (fun k226=>Ai 3 x142 h222 fun x227 r228=>k226 x227 h222 r228 []) fun x229 h230 _ _=>Aiq h230 x225 ih x229 x119 x142 x157
def Ah3 (x176 x183:IV) (h184:Hp) (x119:IV) (ih:Aa) (x157 x142:IV):OH :=
 AF x176 (.fv (.bool true)) x183 fun x187=>Ab x187 false h184 (fun k188=>Ai 3 x119 h184 fun x189 r190=>k188 x189 h184 r190 []) fun x191 h192 _ _=>Ab x187 false h192 (fun k195=>Aj [] false false ih 36 [x191] h192 k195) fun x196 h197 _ _=>Ab x187 false h197 (fun k200=>KY EE 3 x196 (.fv (.int .i64 400)) fun x201=>k200 x201 h197 [] []) fun x202 h203 _ _=>AF x187 (.fv (.bool true)) x202 fun x206=>Aiw h203 x206 x157 ih x142 x119
def Ajh (h161:Hp) (x164 x141 x156:IV) (ih:Aa) (x119 x157 x142:IV):OH :=
 Ab x164 false h161 (fun k165=>k165 x141 h161 [] []) fun x166 h167 _ _=>Ab x164 false h167 (fun k170=>CJ (KX .not x166) fun x171=>k170 x171 h167 [] []) fun x172 h173 _ _=>AF x164 (.fv (.bool true)) x172 fun x176=>Ab x176 false h173 (fun k177=>k177 x156 h173 [] []) fun x178 h179 _ _=>Ab x176 false h179 (fun k182=>Aj [] false false ih 19 [x178] h179 k182) fun x183 h184 _ _=>Ah3 x176 x183 h184 x119 ih x157 x142
def AhM (x151:IV) (h152:Hp) (x118 x141:IV) (ih:Aa) (x119 x142:IV):OH :=
 AL 0 x151 fun x155=>AL 1 x151 fun x156=>AM 12592133 (.row [.fv (.int .i64 0),.fv (.int .i64 0),.nils] false) (.ptr (.own 12592133) 0) h152 fun x157 h158 _ _=>Ak 3 x157 x155 h158 fun h161 _ _=>CJ (KX .not x118) fun x164=>Ajh h161 x164 x141 x156 ih x119 x157 x142
def Ah4 (r144 w145 r138 w139 r135 r132 w133 r128 w129:AD) (h143:Hp) (x142 x140 x119:IV) (ih:Aa) (x118 x141:IV):OH :=
 Ac [(r138,w139),(r135,[]),(r132,w133),(r128,w129)] r144 w145 (Ak 3 x142 x140 h143 fun h146 r147 w148=>Ac [] r147 w148 (Ai 3 x119 h146 fun x149 _=>Aj [] false false ih 18 [x149] h146 fun x151 h152 _ _=>AhM x151 h152 x118 x141 ih x119 x142))
def Ahy (ih:Aa) (h131:Hp) (x126 x130 x134:IV) (r135 r132 w133 r128 w129:AD) (x119 x118:IV):OH :=
 Aj [] false false ih 26 [x126,x130,x134,.fv (.int .i64 2)] h131 fun x136 h137 r138 w139=>Ac [] r138 w139 (AL 0 x136 fun x140=>AL 1 x136 fun x141=>AM 12591112 (.row [.fv (.int .i64 0),.fv (.int .i64 0),.nils] false) (.ptr (.own 12591112) 0) h137 fun x142 h143 r144 w145=>Ah4 r144 w145 r138 w139 r135 r132 w133 r128 w129 h143 x142 x140 x119 ih x118 x141)
def Ajg (r128 w129:AD) (ih:Aa) (h127:Hp) (x13 x126 x119 x118:IV):OH :=
 Ac [] r128 w129 (Aj [] false false ih 42 [] h127 fun x130 h131 r132 w133=>Ac [] r132 w133 (Ai 3 x13 h131 fun x134 r135=>Ac [(r132,w133),(r128,w129)] r135 [] (Ahy ih h131 x126 x130 x134 r135 r132 w133 r128 w129 x119 x118)))
def AhI (x113:IV) (h114:Hp) (ih:Aa) (x0 x13:IV):OH :=
 AL 0 x113 fun x117=>AL 1 x113 fun x118=>AM 12590087 (.row [.fv (.int .i64 0),.fv (.int .i64 0),.nils] false) (.ptr (.own 12590087) 0) h114 fun x119 h120 _ _=>Ak 3 x119 x117 h120 fun h123 _ _=>Aj [] false false ih 24 [x0] h123 fun x126 h127 r128 w129=>Ajg r128 w129 ih h127 x13 x126 x119 x118
def AhL (h99:Hp) (x98 x5:IV) (ih:Aa) (x92 x0 x13:IV):OH :=
 AM 12589059 (.row [.fv (.int .i64 0),.fv (.int .i64 0),.nils] false) (.ptr (.own 12589059) 0) h99 fun x102 h103 _ _=>Ak 3 x102 x98 h103 fun h106 _ _=>Ai 3 x102 h106 fun x109 _=>Ai 3 x5 h106 fun x111 _=>Aj [] false false ih 26 [x92,x109,x111,.fv (.int .i64 4)] h106 fun x113 h114 _ _=>AhI x113 h114 ih x0 x13
def Aia (ih:Aa) (h80:Hp) (x0 x9 x5 x13:IV):OH :=
 Aj [] false false ih 24 [x0] h80 fun x84 h85 _ _=>Aj [] false false ih 42 [] h85 fun x88 h89 _ _=>Aj [] false false ih 29 [x84,.fv (.int .i64 1),x88] h89 fun x92 h93 _ _=>Ai 3 x9 h93 fun x96 _=>Aj [] false false ih 25 [x92,x96,.fv (.int .i64 1)] h93 fun x98 h99 _ _=>AhL h99 x98 x5 ih x92 x0 x13
def Aig (h61:Hp) (x64 x13:IV) (ih:Aa) (x0 x9 x5:IV):OH :=
 Ab x64 false h61 (fun k65=>Ai 3 x13 h61 fun x66 r67=>k65 x66 h61 r67 []) fun x68 h69 _ _=>Ab x64 false h69 (fun k72=>Aj [] false false ih 16 [x68] h69 k72) fun x73 h74 _ _=>Ab x64 false h74 (fun k77=>CJ (KX .not x73) fun x78=>k77 x78 h74 [] []) fun x79 h80 _ _=>AF x64 (.fv (.bool true)) x79 fun x83=>Al x83 (Ap [.fv (.bool true)] h80) (Aia ih h80 x0 x9 x5 x13)
def Ai3 (x26 x41:IV) (h42:Hp) (x9:IV) (ih:Aa) (x13 x0 x5:IV):OH :=
 AF x26 (.fv (.bool true)) x41 fun x45=>Ab x45 false h42 (fun k46=>Ai 3 x9 h42 fun x47 r48=>k46 x47 h42 r48 []) fun x49 h50 _ _=>Ab x45 false h50 (fun k53=>Aj [] false false ih 16 [x49] h50 k53) fun x54 h55 _ _=>Ab x45 false h55 (fun k58=>CJ (KX .not x54) fun x59=>k58 x59 h55 [] []) fun x60 h61 _ _=>AF x45 (.fv (.bool true)) x60 fun x64=>Aig h61 x64 x13 ih x0 x9 x5
def AhC (ih:Aa) (h18:Hp) (x0 x5 x9 x13:IV):OH :=
 Aj [] false false ih 15 [x0] h18 fun x22 h23 _ _=>CJ (KX .not x22) fun x26=>Ab x26 false h23 (fun k27=>Ai 3 x5 h23 fun x28 r29=>k27 x28 h23 r29 []) fun x30 h31 _ _=>Ab x26 false h31 (fun k34=>Aj [] false false ih 16 [x30] h31 k34) fun x35 h36 _ _=>Ab x26 false h36 (fun k39=>CJ (KX .not x35) fun x40=>k39 x40 h36 [] []) fun x41 h42 _ _=>Ai3 x26 x41 h42 x9 ih x13 x0 x5
def S12 (ih:Aa) (n:Nat) (x0 x1 x2 x3:IV) (h4:Hp):OH :=
 Bh 12582912 x1 h4 fun x5 h6 _ _=>Bh 12582913 x2 h6 fun x9 h10 _ _=>Bh 12582914 x3 h10 fun x13 h14 _ _=>Aj [] false false ih 14 [] h14 fun x17 h18 _ _=>CJ (KX .not x17) fun x21=>Al x21 (Ap [.fv (.bool false)] h18) (AhC ih h18 x0 x5 x9 x13)
theorem AmB (ih:Aa) (n:Nat) (x0 x1 x2 x3:IV) (h4:Hp):AI EE ih ft.get n 12 [x0,x1,x2,x3] h4=S12 ih n x0 x1 x2 x3 h4:=by kernel_rfl
def AlI (h70:Hp) (x60:IV) (ih:Aa) (x64 x69:IV):OH :=
 Ab x60 true h70 (fun k73=>Aj [] false false ih 21 [x64,x69] h70 k73) fun x74 h75 r76 w77=>Ac [] r76 w77 (AF x60 x74 (.fv (.bool false)) fun x78=>Ap [x78] h75)
def Amz (x52:IV) (h57:Hp) (x53:IV) (ih:Aa):OH :=
 A0 EE 37 x52 (.fv (.int .i64 0)) fun x60=>Ab x60 true h57 (fun k61=>Ai 3 x53 h57 fun x62 r63=>k61 x62 h57 r63 []) fun x64 h65 r66 w67=>Ac [] r66 w67 (Ab x60 true h65 (fun k68=>Aj [] false false ih 35 [.fv (.int .i64 2)] h65 k68) fun x69 h70 r71 w72=>Ac [(r66,w67)] r71 w72 (AlI h70 x60 ih x64 x69))
def AmQ (x47:IV) (h48:Hp) (r49 w50 r45 w46 r41 w42 r37 w38 r33 w34 r30 r27 w28 r24:AD) (x51:IV) (ih:Aa):OH :=
 AL 1 x47 fun x52=>AM 14682123 (.row [.fv (.int .i64 0),.fv (.int .i64 0),.nils] false) (.ptr (.own 14682123) 0) h48 fun x53 h54 r55 w56=>Ac [(r49,w50),(r45,w46),(r41,w42),(r37,w38),(r33,w34),(r30,[]),(r27,w28),(r24,[])] r55 w56 (Ak 3 x53 x51 h54 fun h57 r58 w59=>Ac [] r58 w59 (Amz x52 h57 x53 ih))
def Akl (ih:Aa) (h40:Hp) (x39:IV) (r41 w42 r37 w38 r33 w34 r30 r27 w28 r24:AD):OH :=
 Aj [] false false ih 27 [.fv (.int .i64 8),x39] h40 fun x43 h44 r45 w46=>Ac [] r45 w46 (Aj [] false false ih 20 [x43] h44 fun x47 h48 r49 w50=>Ac [] r49 w50 (AL 0 x47 fun x51=>AmQ x47 h48 r49 w50 r45 w46 r41 w42 r37 w38 r33 w34 r30 r27 w28 r24 x51 ih))
def Ame (r33 w34:AD) (ih:Aa) (h32:Hp) (x31:IV) (r30 r27 w28 r24:AD):OH :=
 Ac [] r33 w34 (Aj [] false false ih 27 [.fv (.int .i64 7),x31] h32 fun x35 h36 r37 w38=>Ac [] r37 w38 (Aw (Ag EE 29 1 [(0,x35)]) 14682117 h36 fun x39 h40 r41 w42=>Ac [] r41 w42 (Akl ih h40 x39 r41 w42 r37 w38 r33 w34 r30 r27 w28 r24)))
def Amr (ih:Aa) (h20:Hp) (r24:AD) (x9 x23:IV):OH :=
 Aj [] false false ih 35 [.fv (.int .i64 2)] h20 fun x25 h26 r27 w28=>Ac [(r24,[])] r27 w28 (Ai 3 x9 h26 fun x29 r30=>Ac [(r27,w28),(r24,[])] r30 [] (Aw (Ag EE 29 3 [(0,x23),(1,x25),(2,x29)]) 14682115 h26 fun x31 h32 r33 w34=>Ame r33 w34 ih h32 x31 r30 r27 w28 r24))
def Al5 (h10:Hp) (x9 x1 x8:IV) (ih:Aa):OH :=
 AM 14681094 (.row [.fv (.int .i64 0),.fv (.int .i64 0),.nils] false) (.ptr (.own 14681094) 0) h10 fun x13 h14 _ _=>Ak 3 x9 x1 h14 fun h17 _ _=>Ak 3 x13 x8 h17 fun h20 _ _=>Ai 3 x13 h20 fun x23 r24=>Ac [] r24 [] (Amr ih h20 r24 x9 x23)
def S14 (ih:Aa) (n:Nat) (h0:Hp):OH :=
 Bz [.fv (.int .i64 0),.fv (.int .i64 0),.nils] [(0,1,.fv (.int .i64 11))] fun x1=>Bz [.fv (.int .i64 0),.fv (.int .i64 0),.nils] [(0,1,.fv (.int .i64 10))] fun x2=>Bz [.fv (.int .i64 0),.fv (.int .i64 0),.nils] [(0,1,.fv (.int .i64 10))] fun x3=>Aw (Ag EE 29 2 [(0,x2),(1,x3)]) 14681091 h0 fun x4 h5 _ _=>Bz [.fv (.int .i64 0),.fv (.int .i64 0),.nils] [(0,1,.fv (.int .i64 6)),(2,1,x4)] fun x8=>AM 14681093 (.row [.fv (.int .i64 0),.fv (.int .i64 0),.nils] false) (.ptr (.own 14681093) 0) h5 fun x9 h10 _ _=>Al5 h10 x9 x1 x8 ih
theorem AkZ (ih:Aa) (n:Nat) (h0:Hp):AI EE ih ft.get n 14 [] h0=S14 ih n h0:=by kernel_rfl
def Lb (x6:IV) (q2:List IV→Hp→OH) (h13:Hp) (x5:IV):OH :=
 BH EE 3 x6 (.fv (.int .i64 1)) fun x17=>q2 [x5,x17] h13
def Ly (x5 x6:IV) (h4:Hp) (ih:Aa) (q2:List IV→Hp→OH):OH :=
 Bc 3 x5 x6 fun x9=>Ai 3 x9 h4 fun x10 _=>Aj [] false false ih 16 [x10] h4 fun x12 h13 _ _=>CJ (KX .not x12) fun x16=>Al x16 (Ap [.fv (.bool false)] h13) (Lb x6 q2 h13 x5)
def K4 (x5:IV) (h4:Hp):OH :=
 Cf x5 fun x18=>leS EE 3 x18 (.fv (.int .i64 6)) fun x19=>Ap [x19] h4
def Nx (l3:List IV) (h4:Hp) (ih:Aa) (q2:List IV→Hp→OH):OH :=
 AH l3 fun x5 l20=>AH l20 fun x6 _=>Cf x5 fun x7=>Hm EE 3 x6 x7 fun x8=>Al x8 (Ly x5 x6 h4 ih q2) (K4 x5 h4)
def S15 (ih:Aa) (n:Nat) (x0:IV) (h1:Hp):OH :=
 BQ n (fun q2 l3 h4=>Nx l3 h4 ih q2) [x0,.fv (.int .i64 0)] h1
theorem Akw (ih:Aa) (n:Nat) (x0:IV) (h1:Hp):AI EE ih ft.get n 15 [x0] h1=S15 ih n x0 h1:=by kernel_rfl
def S16 (ih:Aa) (n:Nat) (x0:IV) (h1:Hp):OH :=
 Bh 16777216 x0 h1 fun x2 h3 _ _=>Ai 3 x2 h3 fun x6 _=>Aj [] false false ih 47 [x6,.fv (.int .i64 300)] h3 fun x8 h9 _ _=>Hm EE 3 x8 (.fv (.int .i64 300)) fun x12=>Ap [x12] h9
theorem Alo (ih:Aa) (n:Nat) (x0:IV) (h1:Hp):AI EE ih ft.get n 16 [x0] h1=S16 ih n x0 h1:=by kernel_rfl
def Wp (r43 w44 r41:AD) (h42:Hp) (x6 x40:IV):OH :=
 Ac [(r41,[])] r43 w44 (AK true 3 x6 h42 fun x45=>Ap [x45,x40] h42)
def Vz (x11:IV) (h29:Hp) (x6 x37:IV):OH :=
 AG x11 fun x38=>Ae 2 x38 fun x39=>Ah x39 h29 fun x40 r41=>Ac [] r41 [] (Ak 3 x6 x37 h29 fun h42 r43 w44=>Wp r43 w44 r41 h42 x6 x40)
def Wc (h29:Hp) (x6 x46:IV):OH :=
 Ak 3 x6 x46 h29 fun h48 _ _=>AK true 3 x6 h48 fun x51=>Ap [x51,.fv (.int .i64 0)] h48
def V1 (h29:Hp) (x33 x11 x6 x25:IV):OH :=
 Ah x33 h29 fun x34 _=>I1 EE 3 x34 (.fv (.int .i64 0)) fun x36=>Al x36 (Bz [.fv (.int .i64 0),.fv (.int .i64 0),.nils] [] fun x37=>Vz x11 h29 x6 x37) (Ai 3 x25 h29 fun x46 _=>Wc h29 x6 x46)
def Vd (ih:Aa) (h18:Hp) (x11 x17 x6:IV):OH :=
 Aj [true,false,false,false] false false ih 48 [x11,x17,.fv (.int .i64 0),.fv (.int .i64 1)] h18 fun x21 h22 _ _=>AM 18876421 (.row [.fv (.int .i64 0),.fv (.int .i64 0),.nils] false) (.ptr (.own 18876421) 0) h22 fun x25 h26 _ _=>Ak 3 x25 x21 h26 fun h29 _ _=>AG x11 fun x32=>Ae 2 x32 fun x33=>V1 h29 x33 x11 x6 x25
def S18 (ih:Aa) (n:Nat) (x0:IV) (h1:Hp):OH :=
 Bh 18874368 x0 h1 fun x2 h3 _ _=>AM 18874369 (.row [.fv (.int .i64 0),.fv (.int .i64 0),.nils] false) (.ptr (.own 18874369) 0) h3 fun x6 h7 _ _=>Bz [.fv (.int .i64 0),.fv (.int .i64 0),.fv (.int .i64 0)] [] fun x10=>Bh 18875393 x10 h7 fun x11 h12 _ _=>Ai 3 x2 h12 fun x15 _=>Aj [true,false,false] false false ih 49 [x11,x15,.nils] h12 fun x17 h18 _ _=>Vd ih h18 x11 x17 x6
theorem Amm (ih:Aa) (n:Nat) (x0:IV) (h1:Hp):AI EE ih ft.get n 18 [x0] h1=S18 ih n x0 h1:=by kernel_rfl
def S19 (ih:Aa) (n:Nat) (x0:IV) (h1:Hp):OH :=
 A0 EE 3 x0 (.fv (.int .i64 17)) fun x2=>Ab x2 false h1 (fun k3=>k3 x0 h1 [] []) fun x4 h5 _ _=>Ab x2 false h5 (fun k8=>A0 EE 3 x4 (.fv (.int .i64 5)) fun x9=>k8 x9 h5 [] []) fun x10 h11 _ _=>AF x2 (.fv (.bool true)) x10 fun x14=>Ap [x14] h11
theorem Al7 (ih:Aa) (n:Nat) (x0:IV) (h1:Hp):AI EE ih ft.get n 19 [x0] h1=S19 ih n x0 h1:=by kernel_rfl
def NZ (h13:Hp) (x6:IV):OH :=
 Bz [.fv (.int .i64 0),.fv (.int .i64 0),.nils] [] fun x17=>Ak 3 x6 x17 h13 fun h18 _ _=>AK true 3 x6 h18 fun x21=>Ap [x21,.fv (.int .i64 1)] h18
def MT (r43 w44 r41:AD) (h42:Hp) (x6 x40:IV):OH :=
 Ac [(r41,[])] r43 w44 (AK true 3 x6 h42 fun x45=>Ap [x45,x40] h42)
def NR (x22:IV) (h29:Hp) (x6 x37:IV):OH :=
 AG x22 fun x38=>Ae 3 x38 fun x39=>Ah x39 h29 fun x40 r41=>Ac [] r41 [] (Ak 3 x6 x37 h29 fun h42 r43 w44=>MT r43 w44 r41 h42 x6 x40)
def MU (h67:Hp) (x6 x65:IV):OH :=
 AK true 3 x6 h67 fun x70=>Ap [x70,x65] h67
def Nd (x63:IV) (h54:Hp) (x6 x62:IV):OH :=
 Ae 3 x63 fun x64=>Ah x64 h54 fun x65 r66=>Ac [] r66 [] (Ak 3 x6 x62 h54 fun h67 r68 w69=>Ac [(r66,[])] r68 w69 (MU h67 x6 x65))
def Nq (h73:Hp) (x6:IV):OH :=
 AK true 3 x6 h73 fun x76=>Ap [x76,.fv (.int .i64 0)] h73
def Nt (x59 x22:IV) (h54:Hp) (x6 x50:IV):OH :=
 I1 EE 37 x59 (.fv (.int .i64 0)) fun x61=>Al x61 (Bz [.fv (.int .i64 0),.fv (.int .i64 0),.nils] [] fun x62=>AG x22 fun x63=>Nd x63 h54 x6 x62) (Ai 3 x50 h54 fun x71 _=>Ak 3 x6 x71 h54 fun h73 _ _=>Nq h73 x6)
def Nn (h47:Hp) (x46 x22 x6:IV):OH :=
 AM 20978691 (.row [.fv (.int .i64 0),.fv (.int .i64 0),.nils] false) (.ptr (.own 20978691) 0) h47 fun x50 h51 _ _=>Ak 3 x50 x46 h51 fun h54 _ _=>AG x22 fun x57=>Ae 3 x57 fun x58=>Ah x58 h54 fun x59 _=>Nt x59 x22 h54 x6 x50
def M4 (h29:Hp) (x33 x22 x6:IV) (ih:Aa) (x28:IV):OH :=
 Ah x33 h29 fun x34 _=>I1 EE 37 x34 (.fv (.int .i64 0)) fun x36=>Al x36 (Bz [.fv (.int .i64 0),.fv (.int .i64 0),.nils] [] fun x37=>NR x22 h29 x6 x37) (Aj [true,false,false,false] false false ih 53 [x22,x28,.fv (.int .i64 0),.fv (.int .i64 1)] h29 fun x46 h47 _ _=>Nn h47 x46 x22 x6)
def NK (ih:Aa) (h13:Hp) (x2 x6:IV):OH :=
 AeU ih 51 [] h13 fun x22 h23 _ _=>Ai 3 x2 h23 fun x26 _=>Aj [true,false,false] false false ih 52 [x22,.fv .nilp,x26] h23 fun x28 h29 _ _=>AG x22 fun x32=>Ae 3 x32 fun x33=>M4 h29 x33 x22 x6 ih x28
def S20 (ih:Aa) (n:Nat) (x0:IV) (h1:Hp):OH :=
 Bh 20971520 x0 h1 fun x2 h3 _ _=>AM 20971521 (.row [.fv (.int .i64 0),.fv (.int .i64 0),.nils] false) (.ptr (.own 20971521) 0) h3 fun x6 h7 _ _=>Ai 3 x2 h7 fun x10 _=>Aj [] false false ih 50 [x10] h7 fun x12 h13 _ _=>CJ (KX .not x12) fun x16=>Al x16 (NZ h13 x6) (NK ih h13 x2 x6)
theorem Amg (ih:Aa) (n:Nat) (x0:IV) (h1:Hp):AI EE ih ft.get n 20 [x0] h1=S20 ih n x0 h1:=by kernel_rfl
def FU (x101:IV) (q96:List IV→Hp→OH) (h120:Hp) (x99 x100:IV):OH :=
 BH EE 3 x101 (.fv (.int .i64 1)) fun x124=>q96 [x99,x100,x124] h120
def Gp (r118 r112 r109:AD) (ih:Aa) (h98:Hp) (x111 x117 x101:IV) (q96:List IV→Hp→OH) (x99 x100:IV):OH :=
 Ac [(r112,[]),(r109,[])] r118 [] (Aj [] false false ih 21 [x111,x117] h98 fun x119 h120 r121 w122=>Ac [] r121 w122 (CJ (KX .not x119) fun x123=>Al x123 (Ap [.fv (.bool false)] h120) (FU x101 q96 h120 x99 x100)))
def Gl (x100:IV) (h98:Hp) (r112 r109:AD) (x101:IV) (ih:Aa) (x111:IV) (q96:List IV→Hp→OH) (x99:IV):OH :=
 Ae 2 x100 fun x113=>Ah x113 h98 fun x114 r115=>Ac [(r112,[]),(r109,[])] r115 [] (Bc 3 x114 x101 fun x116=>Ai 3 x116 h98 fun x117 r118=>Gp r118 r112 r109 ih h98 x111 x117 x101 q96 x99 x100)
def Gd (h98:Hp) (x107 x101 x100:IV) (ih:Aa) (q96:List IV→Hp→OH) (x99:IV):OH :=
 Ah x107 h98 fun x108 r109=>Ac [] r109 [] (Bc 3 x108 x101 fun x110=>Ai 3 x110 h98 fun x111 r112=>Ac [] r112 [] (Gl x100 h98 r112 r109 x101 ih x111 q96 x99))
def Ga (x103 x101 x99:IV) (h98:Hp) (x100:IV) (ih:Aa) (q96:List IV→Hp→OH):OH :=
 Cf x103 fun x105=>Hm EE 3 x101 x105 fun x106=>Al x106 (Ae 2 x99 fun x107=>Gd h98 x107 x101 x100 ih q96 x99) (Ap [.fv (.bool true)] h98)
def Me (l97:List IV) (h98:Hp) (ih:Aa) (q96:List IV→Hp→OH):OH :=
 AH l97 fun x99 l125=>AH l125 fun x100 l126=>AH l126 fun x101 _=>Ae 2 x99 fun x102=>Ah x102 h98 fun x103 _=>Ga x103 x101 x99 h98 x100 ih q96
def Gj (x95:IV) (h92:Hp) (n:Nat) (x3 x7:IV) (ih:Aa):OH :=
 Al x95 (Ap [.fv (.bool false)] h92) (BQ n (fun q96 l97 h98=>Me l97 h98 ih q96) [x3,x7,.fv (.int .i64 0)] h92)
def Gf (h67:Hp) (x50 x7 x66:IV) (n:Nat) (x3:IV) (ih:Aa):OH :=
 Ab x50 false h67 (fun k70=>Ae 2 x7 fun x71=>k70 x71 h67 [] []) fun x72 h73 _ _=>Ab x50 false h73 (fun k76=>Ah x72 h73 fun x77 r78=>k76 x77 h73 r78 []) fun x79 h80 _ _=>Ab x50 false h80 (fun k83=>Cf x79 fun x84=>k83 x84 h80 [] []) fun x85 h86 _ _=>Ab x50 false h86 (fun k89=>I1 EE 3 x66 x85 fun x90=>k89 x90 h86 [] []) fun x91 h92 _ _=>AF x50 (.fv (.bool true)) x91 fun x95=>Gj x95 h92 n x3 x7 ih
def F6 (h41:Hp) (x17 x27 x40 x3 x7:IV) (n:Nat) (ih:Aa):OH :=
 Ab x17 false h41 (fun k44=>I1 EE 3 x27 x40 fun x45=>k44 x45 h41 [] []) fun x46 h47 _ _=>AF x17 (.fv (.bool true)) x46 fun x50=>Ab x50 false h47 (fun k51=>Ae 2 x3 fun x52=>k51 x52 h47 [] []) fun x53 h54 _ _=>Ab x50 false h54 (fun k57=>Ah x53 h54 fun x58 r59=>k57 x58 h54 r59 []) fun x60 h61 _ _=>Ab x50 false h61 (fun k64=>Cf x60 fun x65=>k64 x65 h61 [] []) fun x66 h67 _ _=>Gf h67 x50 x7 x66 n x3 ih
def FO (x12 x15:IV) (h8:Hp) (x3 x7:IV) (n:Nat) (ih:Aa):OH :=
 I1 EE 3 x12 x15 fun x17=>Ab x17 false h8 (fun k18=>Ae 1 x3 fun x19=>k18 x19 h8 [] []) fun x20 h21 _ _=>Ab x17 false h21 (fun k24=>Ah x20 h21 fun x25 r26=>k24 x25 h21 r26 []) fun x27 h28 _ _=>Ab x17 false h28 (fun k31=>Ae 1 x7 fun x32=>k31 x32 h28 [] []) fun x33 h34 _ _=>Ab x17 false h34 (fun k37=>Ah x33 h34 fun x38 r39=>k37 x38 h34 r39 []) fun x40 h41 _ _=>F6 h41 x17 x27 x40 x3 x7 n ih
def S21 (ih:Aa) (n:Nat) (x0 x1:IV) (h2:Hp):OH :=
 Bh 22020096 x0 h2 fun x3 h4 _ _=>Bh 22020097 x1 h4 fun x7 h8 _ _=>Ae 0 x3 fun x11=>Ah x11 h8 fun x12 _=>Ae 0 x7 fun x14=>Ah x14 h8 fun x15 _=>FO x12 x15 h8 x3 x7 n ih
theorem AlF (ih:Aa) (n:Nat) (x0 x1:IV) (h2:Hp):AI EE ih ft.get n 21 [x0,x1] h2=S21 ih n x0 x1 h2:=by kernel_rfl
def Ad4 (x17:IV) (h14:Hp):OH :=
 Ae 1 x17 fun x18=>Ah x18 h14 fun x19 _=>Ap [x19] h14
def S22 (ih:Aa) (n:Nat) (x0:IV) (h1:Hp):OH :=
 Bh 23068672 x0 h1 fun x2 h3 _ _=>Bz [.fv (.int .i64 0),.fv (.int .i64 0)] [] fun x6=>Bh 23069697 x6 h3 fun x7 h8 _ _=>Ai 3 x2 h8 fun x11 _=>Aj [true,false,false] false false ih 54 [x7,x11,.fv (.int .i64 1)] h8 fun _ h14 _ _=>AG x7 fun x17=>Ad4 x17 h14
theorem AlE (ih:Aa) (n:Nat) (x0:IV) (h1:Hp):AI EE ih ft.get n 22 [x0] h1=S22 ih n x0 h1:=by kernel_rfl
def Wj (x7:IV) (h1 h24:Hp) (x5 x23:IV) (q2:List IV→Hp→OH):OH :=
 BH EE 3 x7 (.fv (.int .i64 1)) fun x25=>BB (h1.own.map (·.1)) [25171978] [x5,x23,x25] h24 fun h26=>q2 [x5,x23,x25] h26
def Wt (ih:Aa) (h53:Hp) (x6 x59:IV) (j1_56:IV→Hp→OH):OH :=
 Aj [] false false ih 29 [x6,.fv (.int .i64 0),x59] h53 fun x61 h62 _ _=>j1_56 x61 h62
def U9 (r54 w55:AD) (j1_22:IV→Hp→OH) (x48:IV) (h53:Hp) (x49:IV) (ih:Aa) (x6:IV):OH :=
 Ac [] r54 w55 ((fun (j1_56:IV→Hp→OH)=>Al x48 (Ai 3 x49 h53 fun x59 _=>Wt ih h53 x6 x59 j1_56) (j1_56 x6 h53)) fun x57 h58=>j1_22 x57 h58)
def Wb (x43:IV) (h44:Hp) (r45 w46 r42 r38 w39:AD) (j1_22:IV→Hp→OH) (ih:Aa) (x6:IV):OH :=
 AL 0 x43 fun x47=>AL 1 x43 fun x48=>AM 25171978 (.row [.fv (.int .i64 0),.fv (.int .i64 0),.nils] false) (.ptr (.own 25171978) 0) h44 fun x49 h50 r51 w52=>Ac [(r45,w46),(r42,[]),(r38,w39)] r51 w52 (Ak 3 x49 x47 h50 fun h53 r54 w55=>U9 r54 w55 j1_22 x48 h53 x49 ih x6)
def Vs (x5 x7:IV) (h37:Hp) (r38 w39:AD) (ih:Aa) (x6 x36:IV) (j1_22:IV→Hp→OH):OH :=
 Bc 3 x5 x7 fun x40=>Ai 3 x40 h37 fun x41 r42=>Ac [(r38,w39)] r42 [] (Aj [] false false ih 26 [x6,x36,x41,.fv (.int .i64 2)] h37 fun x43 h44 r45 w46=>Ac [] r45 w46 (Wb x43 h44 r45 w46 r42 r38 w39 j1_22 ih x6))
def Wv (ih:Aa) (h32:Hp) (x6 x66:IV) (j1_22:IV→Hp→OH):OH :=
 Aj [] false false ih 25 [x6,x66,.fv (.int .i64 2)] h32 fun x68 h69 _ _=>Aj [] false false ih 29 [x6,.fv (.int .i64 1),x68] h69 fun x72 h73 _ _=>j1_22 x72 h73
def VW (x35:IV) (ih:Aa) (h32:Hp) (x5 x7 x6:IV) (j1_22:IV→Hp→OH):OH :=
 Al x35 (Aj [] false false ih 27 [.fv (.int .i64 14),.nils] h32 fun x36 h37 r38 w39=>Ac [] r38 w39 (Vs x5 x7 h37 r38 w39 ih x6 x36 j1_22)) (Bc 3 x5 x7 fun x65=>Ai 3 x65 h32 fun x66 _=>Wv ih h32 x6 x66 j1_22)
def Vq (x5 x7:IV) (h18:Hp) (ih:Aa) (x6:IV) (j1_22:IV→Hp→OH):OH :=
 Bc 3 x5 x7 fun x27=>Ae 1 x27 fun x28=>Ah x28 h18 fun x29 _=>Aj [] false false ih 55 [x29,.fv (.int .i64 3)] h18 fun x31 h32 _ _=>A0 EE 3 x31 (.fv (.int .i64 0)) fun x35=>VW x35 ih h32 x5 x7 x6 j1_22
def Wh (h4:Hp) (x9 x7:IV) (h1:Hp) (x5:IV) (q2:List IV→Hp→OH) (ih:Aa) (x6:IV):OH :=
 Ab x9 true h4 (fun k10=>k10 x7 h4 [] []) fun x11 h12 _ _=>Ab x9 true h12 (fun k15=>Hm EE 3 x11 (.fv (.int .i64 4)) fun x16=>k15 x16 h12 [] []) fun x17 h18 _ _=>AF x9 x17 (.fv (.bool false)) fun x21=>Al x21 ((fun (j1_22:IV→Hp→OH)=>Vq x5 x7 h18 ih x6 j1_22) fun x23 h24=>Wj x7 h1 h24 x5 x23 q2) (Ap [x6] h18)
def Ae2 (l3:List IV) (h4 h1:Hp) (q2:List IV→Hp→OH) (ih:Aa):OH :=
 AH l3 fun x5 l76=>AH l76 fun x6 l77=>AH l77 fun x7 _=>Cf x5 fun x8=>Hm EE 3 x7 x8 fun x9=>Wh h4 x9 x7 h1 x5 q2 ih x6
def S24 (ih:Aa) (n:Nat) (x0:IV) (h1:Hp):OH :=
 BB (h1.own.map (·.1)) [25171978] [x0,.nils,.fv (.int .i64 0)] h1 fun h79=>BQ n (fun q2 l3 h4=>Ae2 l3 h4 h1 q2 ih) [x0,.nils,.fv (.int .i64 0)] h79
theorem AmN (ih:Aa) (n:Nat) (x0:IV) (h1:Hp):AI EE ih ft.get n 24 [x0] h1=S24 ih n x0 h1:=by kernel_rfl
def Z1 (h29:Hp) (x8:IV):OH :=
 AK true 3 x8 h29 fun x32=>Ap [x32] h29
def Aab (ih:Aa) (h24:Hp) (x8:IV):OH :=
 Aj [] false false ih 27 [.fv (.int .i64 14),.nils] h24 fun x34 h35 _ _=>Ak 3 x8 x34 h35 fun h38 _ _=>AK true 3 x8 h38 fun x41=>Ap [x41] h38
def ZF (h46:Hp) (x45:IV) (ih:Aa) (x8:IV):OH :=
 Aw (Ag EE 29 1 [(0,x45)]) 26225666 h46 fun x49 h50 _ _=>Aj [] false false ih 27 [.fv (.int .i64 18),x49] h50 fun x53 h54 _ _=>Ak 3 x8 x53 h54 fun h57 _ _=>AK true 3 x8 h57 fun x60=>Ap [x60] h57
def AaX (ih:Aa) (h24:Hp) (x8:IV):OH :=
 Aj [] false false ih 57 [.fv (.int .i64 0)] h24 fun x62 h63 _ _=>Ak 3 x8 x62 h63 fun h66 _ _=>AK true 3 x8 h66 fun x69=>Ap [x69] h66
def Aam (r116 w117:AD) (h115:Hp) (x8 x114:IV):OH :=
 Ac [] r116 w117 (Ak 3 x8 x114 h115 fun h118 r119 w120=>Ac [] r119 w120 (AK true 3 x8 h118 fun x121=>Ap [x121] h118))
def Zx (ih:Aa) (h102:Hp) (x95 x101 x105:IV) (r92:AD) (x91 x8:IV):OH :=
 Aj [] false false ih 25 [x95,x101,x105] h102 fun x106 h107 r108 w109=>Ac [(r92,[])] r108 w109 (Aw (Ag EE 29 2 [(0,x91),(1,x106)]) 26231817 h107 fun x110 h111 r112 w113=>Ac [] r112 w113 (Aj [] false false ih 27 [.fv (.int .i64 3),x110] h111 fun x114 h115 r116 w117=>Aam r116 w117 h115 x8 x114))
def AcK (h96:Hp) (x4:IV) (r97 w98 r94 r92:AD) (ih:Aa) (x2 x95 x91 x8:IV):OH :=
 Ai 3 x4 h96 fun x99 r100=>Ac [(r97,w98),(r94,[]),(r92,[])] r100 [] (Aj [] false false ih 58 [x99,.fv (.int .i64 1)] h96 fun x101 h102 r103 w104=>Ac [(r92,[])] r103 w104 (A9 EE 3 x2 (.fv (.int .i64 1)) fun x105=>Zx ih h102 x95 x101 x105 r92 x91 x8))
def Acx (r92:AD) (h88:Hp) (x84:IV) (ih:Aa) (x0 x4 x2 x91 x8:IV):OH :=
 Ac [] r92 [] (Ai 3 x84 h88 fun x93 r94=>Ac [(r92,[])] r94 [] (Aj [] false false ih 29 [x0,.fv (.int .i64 1),x93] h88 fun x95 h96 r97 w98=>Ac [(r92,[])] r97 w98 (AcK h96 x4 r97 w98 r94 r92 ih x2 x95 x91 x8)))
def X0 (x2:IV) (ih:Aa) (h76:Hp) (x0 x75 x4 x8:IV):OH :=
 A9 EE 3 x2 (.fv (.int .i64 1)) fun x79=>Aj [] false false ih 25 [x0,x75,x79] h76 fun x80 h81 _ _=>AM 26230790 (.row [.fv (.int .i64 0),.fv (.int .i64 0),.nils] false) (.ptr (.own 26230790) 0) h81 fun x84 h85 _ _=>Ak 3 x84 x80 h85 fun h88 _ _=>Ai 3 x84 h88 fun x91 r92=>Acx r92 h88 x84 ih x0 x4 x2 x91 x8
def Yw (h168:Hp) (x8:IV):OH :=
 AK true 3 x8 h168 fun x171=>Ap [x171] h168
def AaP (r162 w163:AD) (ih:Aa) (h161:Hp) (x160 x8:IV):OH :=
 Ac [] r162 w163 (Aj [] false false ih 27 [.fv (.int .i64 6),x160] h161 fun x164 h165 r166 w167=>Ac [] r166 w167 (Ak 3 x8 x164 h165 fun h168 r169 w170=>Ac [] r169 w170 (Yw h168 x8)))
def W3 (r153 w154 r142:AD) (x2:IV) (ih:Aa) (h152:Hp) (x145 x151 x141 x8:IV):OH :=
 Ac [(r142,[])] r153 w154 (A9 EE 3 x2 (.fv (.int .i64 1)) fun x155=>Aj [] false false ih 25 [x145,x151,x155] h152 fun x156 h157 r158 w159=>Ac [(r142,[])] r158 w159 (Aw (Ag EE 29 2 [(0,x141),(1,x156)]) 26234889 h157 fun x160 h161 r162 w163=>AaP r162 w163 ih h161 x160 x8))
def Aa0 (ih:Aa) (h138:Hp) (x0 x143:IV) (r142:AD) (x4:IV) (r144:AD) (x2 x141 x8:IV):OH :=
 Aj [] false false ih 29 [x0,.fv (.int .i64 1),x143] h138 fun x145 h146 r147 w148=>Ac [(r142,[])] r147 w148 (Ai 3 x4 h146 fun x149 r150=>Ac [(r147,w148),(r144,[]),(r142,[])] r150 [] (Aj [] false false ih 58 [x149,.fv (.int .i64 1)] h146 fun x151 h152 r153 w154=>W3 r153 w154 r142 x2 ih h152 x145 x151 x141 x8))
def Aan (h135:Hp) (x134 x130:IV) (ih:Aa) (x0 x4 x2 x8:IV):OH :=
 Ak 3 x134 x130 h135 fun h138 _ _=>Ai 3 x134 h138 fun x141 r142=>Ac [] r142 [] (Ai 3 x134 h138 fun x143 r144=>Ac [(r142,[])] r144 [] (Aa0 ih h138 x0 x143 r142 x4 r144 x2 x141 x8))
def Aap (h72:Hp) (x4:IV) (ih:Aa) (x2 x0 x8:IV):OH :=
 Ai 3 x4 h72 fun x123 _=>Aj [] false false ih 58 [x123,.fv (.int .i64 0)] h72 fun x125 h126 _ _=>A9 EE 3 x2 (.fv (.int .i64 1)) fun x129=>Aj [] false false ih 25 [x0,x125,x129] h126 fun x130 h131 _ _=>AM 26233862 (.row [.fv (.int .i64 0),.fv (.int .i64 0),.nils] false) (.ptr (.own 26233862) 0) h131 fun x134 h135 _ _=>Aan h135 x134 x130 ih x0 x4 x2 x8
def Xq (h201:Hp) (x8:IV):OH :=
 AK true 3 x8 h201 fun x204=>Ap [x204] h201
def YW (ih:Aa) (h208:Hp) (x207 x8:IV):OH :=
 Aj [] false false ih 27 [.fv (.int .i64 18),x207] h208 fun x211 h212 _ _=>Ak 3 x8 x211 h212 fun h215 _ _=>AK true 3 x8 h215 fun x218=>Ap [x218] h215
def AcO (x188:IV) (ih:Aa) (h193:Hp) (x8 x189:IV):OH :=
 CJ (KX .not x188) fun x196=>Al x196 (Aj [] false false ih 56 [] h193 fun x197 h198 _ _=>Ak 3 x8 x197 h198 fun h201 _ _=>Xq h201 x8) (Ai 3 x189 h193 fun x205 _=>Aw (Ag EE 29 1 [(0,x205)]) 26238977 h193 fun x207 h208 _ _=>YW ih h208 x207 x8)
def Yc (x183:IV) (h184:Hp) (r185 w186 r180 w181 r177 r174 w175:AD) (x187:IV) (ih:Aa) (x8:IV):OH :=
 AL 1 x183 fun x188=>AM 26235914 (.row [.fv (.int .i64 0),.fv (.int .i64 0),.nils] false) (.ptr (.own 26235914) 0) h184 fun x189 h190 r191 w192=>Ac [(r185,w186),(r180,w181),(r177,[]),(r174,w175)] r191 w192 (Ak 3 x189 x187 h190 fun h193 r194 w195=>Ac [] r194 w195 (AcO x188 ih h193 x8 x189))
def Z2 (r180 w181:AD) (x2:IV) (ih:Aa) (h179:Hp) (x0 x172 x178:IV) (r177 r174 w175:AD) (x8:IV):OH :=
 Ac [] r180 w181 (A9 EE 3 x2 (.fv (.int .i64 1)) fun x182=>Aj [] false false ih 26 [x0,x172,x178,x182] h179 fun x183 h184 r185 w186=>Ac [] r185 w186 (AL 0 x183 fun x187=>Yc x183 h184 r185 w186 r180 w181 r177 r174 w175 x187 ih x8))
def Xw (ih:Aa) (h72:Hp) (x4 x2 x0 x8:IV):OH :=
 Aj [] false false ih 27 [.fv (.int .i64 14),.nils] h72 fun x172 h173 r174 w175=>Ac [] r174 w175 (Ai 3 x4 h173 fun x176 r177=>Ac [(r174,w175)] r177 [] (Aj [] false false ih 58 [x176,.fv (.int .i64 0)] h173 fun x178 h179 r180 w181=>Z2 r180 w181 x2 ih h179 x0 x172 x178 r177 r174 w175 x8))
def Xr (x71:IV) (h72:Hp) (x4:IV) (ih:Aa) (x2 x0 x8 x20:IV):OH :=
 Al x71 (Ai 3 x4 h72 fun x73 _=>Aj [] false false ih 58 [x73,.fv (.int .i64 0)] h72 fun x75 h76 _ _=>X0 x2 ih h76 x0 x75 x4 x8) (A0 EE 3 x20 (.fv (.int .i64 7)) fun x122=>Al x122 (Aap h72 x4 ih x2 x0 x8) (Xw ih h72 x4 x2 x0 x8))
def AcL (x4:IV) (ih:Aa) (x2 x0 x8 x20:IV) (h24:Hp):OH :=
 (fun (j1_70:IV→Hp→OH)=>A0 EE 3 x20 (.fv (.int .i64 5)) fun x219=>Al x219 (j1_70 x219 h24) (A0 EE 3 x20 (.fv (.int .i64 6)) fun x220=>j1_70 x220 h24)) fun x71 h72=>Xr x71 h72 x4 ih x2 x0 x8 x20
def Aac (x20:IV) (h24:Hp) (x4:IV) (ih:Aa) (x8 x2 x0:IV):OH :=
 A0 EE 3 x20 (.fv (.int .i64 3)) fun x42=>Al x42 (Ai 3 x4 h24 fun x43 _=>Aj [] false false ih 33 [x43,.fv (.int .i64 1)] h24 fun x45 h46 _ _=>ZF h46 x45 ih x8) (A0 EE 3 x20 (.fv (.int .i64 4)) fun x61=>Al x61 (AaX ih h24 x8) (AcL x4 ih x2 x0 x8 x20 h24))
def ZV (x23:IV) (ih:Aa) (h24:Hp) (x8 x20 x4 x2 x0:IV):OH :=
 Al x23 (Aj [] false false ih 56 [] h24 fun x25 h26 _ _=>Ak 3 x8 x25 h26 fun h29 _ _=>Z1 h29 x8) (A0 EE 3 x20 (.fv (.int .i64 2)) fun x33=>Al x33 (Aab ih h24 x8) (Aac x20 h24 x4 ih x8 x2 x0))
def XM (ih:Aa) (x8 x20 x4 x2 x0:IV) (h21:Hp):OH :=
 (fun (j1_22:IV→Hp→OH)=>A0 EE 3 x20 (.fv (.int .i64 0)) fun x221=>Al x221 (j1_22 x221 h21) (A0 EE 3 x20 (.fv (.int .i64 1)) fun x222=>j1_22 x222 h21)) fun x23 h24=>ZV x23 ih h24 x8 x20 x4 x2 x0
def Zw (x15:IV) (j1_19:IV→Hp→OH) (h232:Hp):OH :=
 CN EE 3 .rem x15 (.fv (.int .i64 5)) fun x236=>j1_19 x236 h232
def Yx (x2:IV) (h16:Hp) (x15:IV) (j1_19:IV→Hp→OH):OH :=
 leS EE 3 x2 (.fv (.int .i64 0)) fun x223=>Ab x223 true h16 (fun k224=>k224 x15 h16 [] []) fun x225 h226 _ _=>Ab x223 true h226 (fun k229=>KY EE 3 x225 (.fv (.int .i64 4)) fun x230=>k229 x230 h226 [] []) fun x231 h232 _ _=>AF x223 x231 (.fv (.bool false)) fun x235=>Al x235 (Zw x15 j1_19 h232) (j1_19 x15 h232)
def S25 (ih:Aa) (n:Nat) (x0 x1 x2:IV) (h3:Hp):OH :=
 Bh 26214400 x1 h3 fun x4 h5 _ _=>AM 26214401 (.row [.fv (.int .i64 0),.fv (.int .i64 0),.nils] false) (.ptr (.own 26214401) 0) h5 fun x8 h9 _ _=>Ae 0 x4 fun x12=>Ah x12 h9 fun x13 _=>Aj [] false false ih 55 [x13,.fv (.int .i64 9)] h9 fun x15 h16 _ _=>(fun (j1_19:IV→Hp→OH)=>Yx x2 h16 x15 j1_19) fun x20 h21=>XM ih x8 x20 x4 x2 x0 h21
theorem Am8 (ih:Aa) (n:Nat) (x0 x1 x2:IV) (h3:Hp):AI EE ih ft.get n 25 [x0,x1,x2] h3=S25 ih n x0 x1 x2 h3:=by kernel_rfl
def Abn (h25:Hp) (x13 x29:IV):OH :=
 Ak 3 x13 x29 h25 fun h30 _ _=>AK true 3 x13 h30 fun x33=>Ap [x33,.fv (.bool false)] h30
def AbO (h91:Hp) (x13 x44:IV):OH :=
 AK true 3 x13 h91 fun x94=>Ap [x94,x44] h91
def Xy (h126:Hp) (x13 x129 x130:IV):OH :=
 Ak 3 x13 x129 h126 fun h131 _ _=>AK true 3 x13 h131 fun x134=>Ap [x134,x130] h131
def Aat (h117:Hp) (x5 x9:IV) (ih:Aa) (x0 x3 x13:IV):OH :=
 Ai 3 x5 h117 fun x121 _=>Ai 3 x9 h117 fun x123 _=>Aj [] false false ih 60 [x0,x121,x123,x3] h117 fun x125 h126 _ _=>AL 0 x125 fun x129=>AL 1 x125 fun x130=>Xy h126 x13 x129 x130
def Xv (ih:Aa) (h140:Hp) (x0 x141 x143 x3 x13:IV):OH :=
 Aj [] false false ih 61 [x0,x141,x143,x3] h140 fun x145 h146 _ _=>AL 0 x145 fun x149=>AL 1 x145 fun x150=>Ak 3 x13 x149 h146 fun h151 _ _=>AK true 3 x13 h151 fun x154=>Ap [x154,x150] h151
def Ab7 (r209 w210:AD) (h208:Hp) (x13 x184:IV):OH :=
 Ac [] r209 w210 (AK true 3 x13 h208 fun x211=>Ap [x211,x184] h208)
def AbT (h189:Hp) (x196 x198:IV) (ih:Aa) (x13 x184:IV):OH :=
 Aw (Ag EE 29 2 [(0,x196),(1,x198)]) 27279365 h189 fun x200 h201 r202 w203=>Ac [] r202 w203 (Aj [] false false ih 27 [.fv (.int .i64 4),x200] h201 fun x204 h205 r206 w207=>Ac [] r206 w207 (Ak 3 x13 x204 h205 fun h208 r209 w210=>Ab7 r209 w210 h208 x13 x184))
def AbU (x193:IV) (h189:Hp) (x185:IV) (r194:AD) (ih:Aa) (x13 x184:IV):OH :=
 Bc 3 x193 (.fv (.int .i64 0)) fun x195=>Ai 3 x195 h189 fun x196 r197=>Ac [] r197 [] (Ai 3 x185 h189 fun x198 r199=>Ac [(r197,[]),(r194,[])] r199 [] (AbT h189 x196 x198 ih x13 x184))
def WW (h186:Hp) (x185 x183 x5:IV) (ih:Aa) (x13 x184:IV):OH :=
 Ak 3 x185 x183 h186 fun h189 r190 w191=>Ac [] r190 w191 (Ae 2 x5 fun x192=>Ah x192 h189 fun x193 r194=>Ac [] r194 [] (AbU x193 h189 x185 r194 ih x13 x184))
def AaQ (r181 w182:AD) (x179:IV) (h180:Hp) (r176 w177 r173 r171 r168 r164 w165 r161 r158:AD) (x5:IV) (ih:Aa) (x13:IV):OH :=
 Ac [] r181 w182 (AL 0 x179 fun x183=>AL 1 x179 fun x184=>AM 27278354 (.row [.fv (.int .i64 0),.fv (.int .i64 0),.nils] false) (.ptr (.own 27278354) 0) h180 fun x185 h186 r187 w188=>Ac [(r181,w182),(r176,w177),(r173,[]),(r171,[]),(r168,[]),(r164,w165),(r161,[]),(r158,[])] r187 w188 (WW h186 x185 x183 x5 ih x13 x184))
def WV (r173 r171 r168 r164 w165 r161 r158:AD) (ih:Aa) (h163:Hp) (x172 x3 x162 x170 x5 x13:IV):OH :=
 Ac [(r171,[]),(r168,[]),(r164,w165),(r161,[]),(r158,[])] r173 [] (Aj [] false false ih 58 [x172,.fv (.int .i64 0)] h163 fun x174 h175 r176 w177=>Ac [(r171,[]),(r168,[])] r176 w177 (A9 EE 3 x3 (.fv (.int .i64 1)) fun x178=>Aj [] false false ih 26 [x162,x170,x174,x178] h175 fun x179 h180 r181 w182=>AaQ r181 w182 x179 h180 r176 w177 r173 r171 r168 r164 w165 r161 r158 x5 ih x13))
def YG (r168 r164 w165 r161 r158:AD) (x167:IV) (h163:Hp) (x9:IV) (ih:Aa) (x3 x162 x5 x13:IV):OH :=
 Ac [(r164,w165),(r161,[]),(r158,[])] r168 [] (Bc 3 x167 (.fv (.int .i64 1)) fun x169=>Ai 3 x169 h163 fun x170 r171=>Ac [(r164,w165),(r161,[]),(r158,[])] r171 [] (Ai 3 x9 h163 fun x172 r173=>WV r173 r171 r168 r164 w165 r161 r158 ih h163 x172 x3 x162 x170 x5 x13))
def YI (r161:AD) (ih:Aa) (h140:Hp) (x0 x160 x5:IV) (r158:AD) (x9 x3 x13:IV):OH :=
 Ac [] r161 [] (Aj [] false false ih 29 [x0,.fv (.int .i64 1),x160] h140 fun x162 h163 r164 w165=>Ac [] r164 w165 (Ae 2 x5 fun x166=>Ah x166 h163 fun x167 r168=>YG r168 r164 w165 r161 r158 x167 h163 x9 ih x3 x162 x5 x13))
def Aa2 (x5:IV) (h140:Hp) (ih:Aa) (x0 x9 x3 x13:IV):OH :=
 Ae 2 x5 fun x156=>Ah x156 h140 fun x157 r158=>Ac [] r158 [] (Bc 3 x157 (.fv (.int .i64 0)) fun x159=>Ai 3 x159 h140 fun x160 r161=>YI r161 ih h140 x0 x160 x5 r158 x9 x3 x13)
def Zj (h236:Hp) (x13 x240 x44:IV):OH :=
 Ak 3 x13 x240 h236 fun h242 _ _=>AK true 3 x13 h242 fun x245=>Ap [x245,x44] h242
def WR (h275:Hp) (x278 x280 x282:IV) (ih:Aa) (x13 x270:IV):OH :=
 Aw (Ag EE 29 3 [(0,x278),(1,x280),(2,x282)]) 27285507 h275 fun x284 h285 _ _=>Aj [] false false ih 27 [.fv (.int .i64 7),x284] h285 fun x288 h289 _ _=>Ak 3 x13 x288 h289 fun h292 _ _=>AK true 3 x13 h292 fun x295=>Ap [x295,x270] h292
def Abl (h272:Hp) (x271 x269 x5 x232:IV) (ih:Aa) (x13 x270:IV):OH :=
 Ak 3 x271 x269 h272 fun h275 r276 w277=>Ac [] r276 w277 (Ai 3 x5 h275 fun x278 _=>Ai 3 x232 h275 fun x280 _=>Ai 3 x271 h275 fun x282 _=>WR h275 x278 x280 x282 ih x13 x270)
def Zq (r267 w268:AD) (x265:IV) (h266:Hp) (r262 w263 r259 r256 w257 r253 r251 r248:AD) (x5 x232:IV) (ih:Aa) (x13:IV):OH :=
 Ac [] r267 w268 (AL 0 x265 fun x269=>AL 1 x265 fun x270=>AM 27284495 (.row [.fv (.int .i64 0),.fv (.int .i64 0),.nils] false) (.ptr (.own 27284495) 0) h266 fun x271 h272 r273 w274=>Ac [(r267,w268),(r262,w263),(r259,[]),(r256,w257),(r253,[]),(r251,[]),(r248,[])] r273 w274 (Abl h272 x271 x269 x5 x232 ih x13 x270))
def Zk (r259 r256 w257 r253 r251 r248:AD) (ih:Aa) (h255:Hp) (x258 x3 x0 x254 x5 x232 x13:IV):OH :=
 Ac [(r256,w257),(r253,[]),(r251,[]),(r248,[])] r259 [] (Aj [] false false ih 58 [x258,.fv (.int .i64 1)] h255 fun x260 h261 r262 w263=>Ac [] r262 w263 (A9 EE 3 x3 (.fv (.int .i64 1)) fun x264=>Aj [] false false ih 26 [x0,x254,x260,x264] h261 fun x265 h266 r267 w268=>Zq r267 w268 x265 h266 r262 w263 r259 r256 w257 r253 r251 r248 x5 x232 ih x13))
def YV (h236:Hp) (x232:IV) (r251 r248:AD) (ih:Aa) (x250 x9 x3 x0 x5 x13:IV):OH :=
 Ai 3 x232 h236 fun x252 r253=>Ac [(r251,[]),(r248,[])] r253 [] (Aj [] false false ih 30 [x250,.fv (.int .i64 0),x252] h236 fun x254 h255 r256 w257=>Ac [] r256 w257 (Ai 3 x9 h255 fun x258 r259=>Zk r259 r256 w257 r253 r251 r248 ih h255 x258 x3 x0 x254 x5 x232 x13))
def AbX (h236:Hp) (x246 x232:IV) (ih:Aa) (x9 x3 x0 x5 x13:IV):OH :=
 Ah x246 h236 fun x247 r248=>Ac [] r248 [] (Bc 3 x247 (.fv (.int .i64 1)) fun x249=>Ai 3 x249 h236 fun x250 r251=>Ac [] r251 [] (YV h236 x232 r251 r248 ih x250 x9 x3 x0 x5 x13))
def AbH (h233:Hp) (x232 x230 x231 x45 x13 x44 x5:IV) (ih:Aa) (x9 x3 x0:IV):OH :=
 Ak 3 x232 x230 h233 fun h236 r237 w238=>Ac [] r237 w238 (CJ (KX .not x231) fun x239=>Al x239 (Ai 3 x45 h236 fun x240 _=>Zj h236 x13 x240 x44) (Ae 2 x5 fun x246=>AbX h236 x246 x232 ih x9 x3 x0 x5 x13))
def Abx (r228 w229:AD) (x226:IV) (h227:Hp) (r223 w224 r220 r218 r215:AD) (x45 x13 x44 x5:IV) (ih:Aa) (x9 x3 x0:IV):OH :=
 Ac [] r228 w229 (AL 0 x226 fun x230=>AL 1 x226 fun x231=>AM 27281421 (.row [.fv (.int .i64 0),.fv (.int .i64 0),.nils] false) (.ptr (.own 27281421) 0) h227 fun x232 h233 r234 w235=>Ac [(r228,w229),(r223,w224),(r220,[]),(r218,[]),(r215,[])] r234 w235 (AbH h233 x232 x230 x231 x45 x13 x44 x5 ih x9 x3 x0))
def AbN (r220 r218 r215:AD) (ih:Aa) (h140:Hp) (x219 x3 x0 x217 x45 x13 x44 x5 x9:IV):OH :=
 Ac [(r218,[]),(r215,[])] r220 [] (Aj [] false false ih 58 [x219,.fv (.int .i64 0)] h140 fun x221 h222 r223 w224=>Ac [(r218,[]),(r215,[])] r223 w224 (A9 EE 3 x3 (.fv (.int .i64 1)) fun x225=>Aj [] false false ih 26 [x0,x217,x221,x225] h222 fun x226 h227 r228 w229=>Abx r228 w229 x226 h227 r223 w224 r220 r218 r215 x45 x13 x44 x5 ih x9 x3 x0))
def Z5 (r215:AD) (x214:IV) (h140:Hp) (x9:IV) (ih:Aa) (x3 x0 x45 x13 x44 x5:IV):OH :=
 Ac [] r215 [] (Bc 3 x214 (.fv (.int .i64 0)) fun x216=>Ai 3 x216 h140 fun x217 r218=>Ac [] r218 [] (Ai 3 x9 h140 fun x219 r220=>AbN r220 r218 r215 ih h140 x219 x3 x0 x217 x45 x13 x44 x5 x9))
def Aah (h320:Hp) (x323:IV) (ih:Aa) (x13 x315:IV):OH :=
 Aw (Ag EE 29 1 [(0,x323)]) 27288577 h320 fun x325 h326 _ _=>Aj [] false false ih 27 [.fv (.int .i64 19),x325] h326 fun x329 h330 _ _=>Ak 3 x13 x329 h330 fun h333 _ _=>AK true 3 x13 h333 fun x336=>Ap [x336,x315] h333
def Y6 (h311:Hp) (r312 w313 r307 w308 r304 r302 r299:AD) (x314:IV) (ih:Aa) (x13 x315:IV):OH :=
 AM 27287565 (.row [.fv (.int .i64 0),.fv (.int .i64 0),.nils] false) (.ptr (.own 27287565) 0) h311 fun x316 h317 r318 w319=>Ac [(r312,w313),(r307,w308),(r304,[]),(r302,[]),(r299,[])] r318 w319 (Ak 3 x316 x314 h317 fun h320 r321 w322=>Ac [] r321 w322 (Ai 3 x316 h320 fun x323 _=>Aah h320 x323 ih x13 x315))
def X3 (x3:IV) (ih:Aa) (h306:Hp) (x0 x301 x305:IV) (r307 w308 r304 r302 r299:AD) (x13:IV):OH :=
 A9 EE 3 x3 (.fv (.int .i64 1)) fun x309=>Aj [] false false ih 32 [x0,x301,x305,x309] h306 fun x310 h311 r312 w313=>Ac [] r312 w313 (AL 0 x310 fun x314=>AL 1 x310 fun x315=>Y6 h311 r312 w313 r307 w308 r304 r302 r299 x314 ih x13 x315)
def Yf (r302:AD) (h140:Hp) (x9:IV) (r299:AD) (ih:Aa) (x3 x0 x301 x13:IV):OH :=
 Ac [] r302 [] (Ai 3 x9 h140 fun x303 r304=>Ac [(r302,[]),(r299,[])] r304 [] (Aj [] false false ih 58 [x303,.fv (.int .i64 0)] h140 fun x305 h306 r307 w308=>Ac [(r302,[]),(r299,[])] r307 w308 (X3 x3 ih h306 x0 x301 x305 r307 w308 r304 r302 r299 x13)))
def WG (x5:IV) (h140:Hp) (x9:IV) (ih:Aa) (x3 x0 x13:IV):OH :=
 Ae 2 x5 fun x297=>Ah x297 h140 fun x298 r299=>Ac [] r299 [] (Bc 3 x298 (.fv (.int .i64 0)) fun x300=>Ai 3 x300 h140 fun x301 r302=>Yf r302 h140 x9 r299 ih x3 x0 x301 x13)
def ZH (h140:Hp) (x45 x13 x44:IV):OH :=
 Ai 3 x45 h140 fun x337 _=>Ak 3 x13 x337 h140 fun h339 _ _=>AK true 3 x13 h339 fun x342=>Ap [x342,x44] h339
def XJ (x136 x5:IV) (h140:Hp) (x9:IV) (ih:Aa) (x3 x0 x45 x13 x44:IV):OH :=
 A0 EE 3 x136 (.fv (.int .i64 6)) fun x212=>Al x212 (Ae 2 x5 fun x213=>Ah x213 h140 fun x214 r215=>Z5 r215 x214 h140 x9 ih x3 x0 x45 x13 x44 x5) (A0 EE 3 x136 (.fv (.int .i64 18)) fun x296=>Al x296 (WG x5 h140 x9 ih x3 x0 x13) (ZH h140 x45 x13 x44))
def Aaa (x139:IV) (h140:Hp) (x5 x9:IV) (ih:Aa) (x0 x3 x13 x136 x45 x44:IV):OH :=
 Al x139 (Ai 3 x5 h140 fun x141 _=>Ai 3 x9 h140 fun x143 _=>Xv ih h140 x0 x141 x143 x3 x13) (A0 EE 3 x136 (.fv (.int .i64 3)) fun x155=>Al x155 (Aa2 x5 h140 ih x0 x9 x3 x13) (XJ x136 x5 h140 x9 ih x3 x0 x45 x13 x44))
def ZS (x136:IV) (j1_138:IV→Hp→OH) (h117:Hp):OH :=
 A0 EE 3 x136 (.fv (.int .i64 14)) fun x344=>Al x344 (j1_138 x344 h117) (A0 EE 3 x136 (.fv (.int .i64 2)) fun x345=>j1_138 x345 h117)
def Aa6 (x5:IV) (h117:Hp) (x9:IV) (ih:Aa) (x0 x3 x13 x45 x44:IV):OH :=
 Ae 0 x5 fun x135=>Ah x135 h117 fun x136 _=>(fun (j1_138:IV→Hp→OH)=>A0 EE 3 x136 (.fv (.int .i64 10)) fun x343=>Al x343 (j1_138 x343 h117) (ZS x136 j1_138 h117)) fun x139 h140=>Aaa x139 h140 x5 x9 ih x0 x3 x13 x136 x45 x44
def Acl (h99:Hp) (x95 x98:IV) (ih:Aa) (x5 x9 x0 x3 x13 x45 x44:IV):OH :=
 Ab x95 true h99 (fun k102=>Ah x98 h99 fun x103 r104=>k102 x103 h99 r104 []) fun x105 h106 _ _=>Ab x95 true h106 (fun k109=>Aj [] false false ih 55 [x105,.fv (.int .i64 7)] h106 k109) fun x110 h111 _ _=>Ab x95 true h111 (fun k114=>A0 EE 3 x110 (.fv (.int .i64 6)) fun x115=>k114 x115 h111 [] []) fun x116 h117 _ _=>AF x95 x116 (.fv (.bool false)) fun x120=>Al x120 (Aat h117 x5 x9 ih x0 x3 x13) (Aa6 x5 h117 x9 ih x0 x3 x13 x45 x44)
def W0 (x88:IV) (h85:Hp) (x45 x13 x44 x3 x9:IV) (ih:Aa) (x5 x0:IV):OH :=
 Al x88 (Ai 3 x45 h85 fun x89 _=>Ak 3 x13 x89 h85 fun h91 _ _=>AbO h91 x13 x44) (KY EE 3 x3 (.fv (.int .i64 0)) fun x95=>Ab x95 true h85 (fun k96=>Ae 0 x9 fun x97=>k96 x97 h85 [] []) fun x98 h99 _ _=>Acl h99 x95 x98 ih x5 x9 x0 x3 x13 x45 x44)
def Aa3 (h67:Hp) (x44 x66 x3 x45 x13 x9:IV) (ih:Aa) (x5 x0:IV):OH :=
 Ab x44 true h67 (fun k70=>A0 EE 3 x66 (.fv (.int .i64 0)) fun x71=>k70 x71 h67 [] []) fun x72 h73 _ _=>AF x44 x72 (.fv (.bool false)) fun x76=>Ab x76 false h73 (fun k77=>k77 x3 h73 [] []) fun x78 h79 _ _=>Ab x76 false h79 (fun k82=>Hm EE 3 x78 (.fv (.int .i64 (-4))) fun x83=>k82 x83 h79 [] []) fun x84 h85 _ _=>AF x76 (.fv (.bool true)) x84 fun x88=>W0 x88 h85 x45 x13 x44 x3 x9 ih x5 x0
def AbC (h40:Hp) (x43 x44 x9:IV) (ih:Aa) (x3 x13 x5 x0:IV):OH :=
 AM 27267080 (.row [.fv (.int .i64 0),.fv (.int .i64 0),.nils] false) (.ptr (.own 27267080) 0) h40 fun x45 h46 _ _=>Ak 3 x45 x43 h46 fun h49 _ _=>Ab x44 true h49 (fun k52=>Ae 0 x9 fun x53=>k52 x53 h49 [] []) fun x54 h55 _ _=>Ab x44 true h55 (fun k58=>Ah x54 h55 fun x59 r60=>k58 x59 h55 r60 []) fun x61 h62 _ _=>Ab x44 true h62 (fun k65=>Aj [] false false ih 55 [x61,.fv (.int .i64 3)] h62 k65) fun x66 h67 _ _=>Aa3 h67 x44 x66 x3 x45 x13 x9 ih x5 x0
def XP (x9:IV) (h25:Hp) (ih:Aa) (x0 x34 x3 x13 x5:IV):OH :=
 Ae 1 x9 fun x36=>Ah x36 h25 fun x37 _=>Aj [] false false ih 59 [x0,.fv (.int .i64 1),x34,x37] h25 fun x39 h40 _ _=>AL 0 x39 fun x43=>AL 1 x39 fun x44=>AbC h40 x43 x44 x9 ih x3 x13 x5 x0
def X2 (x19:IV) (h20:Hp) (x5 x23 x13 x9:IV) (ih:Aa) (x0 x3:IV):OH :=
 AL 1 x19 fun x24=>Ak 3 x5 x23 h20 fun h25 _ _=>I1 EE 3 x24 (.fv (.int .i64 0)) fun x28=>Al x28 (Bz [.fv (.int .i64 0),.fv (.int .i64 0),.nils] [] fun x29=>Abn h25 x13 x29) (Ai 3 x5 h25 fun x34 _=>XP x9 h25 ih x0 x34 x3 x13 x5)
def S26 (ih:Aa) (n:Nat) (x0 x1 x2 x3:IV) (h4:Hp):OH :=
 Bh 27262976 x1 h4 fun x5 h6 _ _=>Bh 27262977 x2 h6 fun x9 h10 _ _=>AM 27262978 (.row [.fv (.int .i64 0),.fv (.int .i64 0),.nils] false) (.ptr (.own 27262978) 0) h10 fun x13 h14 _ _=>Ai 3 x5 h14 fun x17 _=>Aj [] false false ih 18 [x17] h14 fun x19 h20 _ _=>AL 0 x19 fun x23=>X2 x19 h20 x5 x23 x13 x9 ih x0 x3
theorem Al0 (ih:Aa) (n:Nat) (x0 x1 x2 x3:IV) (h4:Hp):AI EE ih ft.get n 26 [x0,x1,x2,x3] h4=S26 ih n x0 x1 x2 x3 h4:=by kernel_rfl
def S27 (ih:Aa) (n:Nat) (x0 x1:IV) (h2:Hp):OH :=
 AM 28311552 (.row [.fv (.int .i64 0),.fv (.int .i64 0),.nils] false) (.ptr (.own 28311552) 0) h2 fun x3 h4 _ _=>Bz [.fv (.int .i64 0),.fv (.int .i64 0),.nils] [(0,1,x0),(2,1,x1)] fun x7=>Ak 3 x3 x7 h4 fun h8 _ _=>AK true 3 x3 h8 fun x11=>Ap [x11] h8
theorem AlP (ih:Aa) (n:Nat) (x0 x1:IV) (h2:Hp):AI EE ih ft.get n 27 [x0,x1] h2=S27 ih n x0 x1 h2:=by kernel_rfl
def S28 (ih:Aa) (n:Nat) (x0 x1:IV) (h2:Hp):OH :=
 CN EE 3 .rem x0 x1 fun x3=>(fun (j1_4:IV→Hp→OH)=>Hm EE 3 x3 (.fv (.int .i64 0)) fun x7=>Al x7 (BH EE 3 x3 x1 fun x8=>j1_4 x8 h2) (j1_4 x3 h2)) fun x5 h6=>Ap [x5] h6
theorem Akn (ih:Aa) (n:Nat) (x0 x1:IV) (h2:Hp):AI EE ih ft.get n 28 [x0,x1] h2=S28 ih n x0 x1 h2:=by kernel_rfl
def We (r25 w26:AD) (h24:Hp) (x23:IV):OH :=
 Ac [] r25 w26 (Ap [x23] h24)
def VI (r17 r14 w15 r10 w11:AD) (x1 x16:IV) (h13:Hp) (x12:IV):OH :=
 Ac [(r14,w15),(r10,w11)] r17 [] (Bz [.fv (.int .i64 0),.fv (.int .i64 0),.fv (.int .i64 0),.nils] [(0,1,x1),(1,3,x16)] fun x18=>Aw (Ag EE 28 1 [(0,x18)]) 30409734 h13 fun x19 h20 r21 w22=>Ac [(r14,w15),(r10,w11)] r21 w22 (Aw (AT EE 30409735 false .append [28,28] [x12,x19]) 30409735 h20 fun x23 h24 r25 w26=>We r25 w26 h24 x23))
def S29 (ih:Aa) (n:Nat) (x0 x1 x2:IV) (h3:Hp):OH :=
 Bh 30408704 x2 h3 fun x4 h5 _ _=>Aw (Ag EE 28 0 []) 30409728 h5 fun x8 h9 r10 w11=>Ac [] r10 w11 (Aw (AT EE 30409730 false .append [28,28] [x8,x0]) 30409730 h9 fun x12 h13 r14 w15=>Ac [] r14 w15 (Ai 3 x4 h13 fun x16 r17=>VI r17 r14 w15 r10 w11 x1 x16 h13 x12))
theorem Am5 (ih:Aa) (n:Nat) (x0 x1 x2:IV) (h3:Hp):AI EE ih ft.get n 29 [x0,x1,x2] h3=S29 ih n x0 x1 x2 h3:=by kernel_rfl
def Afw (h21:Hp) (x12 x20:IV):OH :=
 Ak 3 x12 x20 h21 fun h24 _ _=>AK true 3 x12 h24 fun x27=>Ap [x27] h24
def S30 (ih:Aa) (n:Nat) (x0 x1 x2:IV) (h3:Hp):OH :=
 Bh 31457280 x0 h3 fun x4 h5 _ _=>Bh 31457281 x2 h5 fun x8 h9 _ _=>AM 31457282 (.row [.fv (.int .i64 0),.fv (.int .i64 0),.nils] false) (.ptr (.own 31457282) 0) h9 fun x12 h13 _ _=>Ai 3 x4 h13 fun x16 _=>Ai 3 x8 h13 fun x18 _=>Aj [] false false ih 62 [x16,x1,.fv (.int .i64 0),x18] h13 fun x20 h21 _ _=>Afw h21 x12 x20
theorem AkQ (ih:Aa) (n:Nat) (x0 x1 x2:IV) (h3:Hp):AI EE ih ft.get n 30 [x0,x1,x2] h3=S30 ih n x0 x1 x2 h3:=by kernel_rfl
def Gk (h68:Hp) (x71 x67 x36:IV) (h3:Hp) (x31 x32 x33 x34 x35:IV) (q28:List IV→Hp→OH):OH :=
 Bt x71 x67 h68 fun h72 r73 w74=>Ac [] r73 w74 (BH EE 3 x36 (.fv (.int .i64 1)) fun x75=>BB (h3.own.map (·.1)) [32513040] [x31,x32,x33,x34,x35,x75] h72 fun h76=>q28 [x31,x32,x33,x34,x35,x75] h76)
def FY (h60:Hp) (x59:IV) (r44:AD) (x43 x35 x36:IV) (h3:Hp) (x31 x32 x33 x34:IV) (q28:List IV→Hp→OH):OH :=
 Aw (Ag EE 29 1 [(0,x59)]) 32513039 h60 fun x63 h64 r65 w66=>Ac [(r44,[])] r65 w66 (Aw (AT EE 32513040 false .append [29,29] [x43,x63]) 32513040 h64 fun x67 h68 r69 w70=>Ac [] r69 w70 (Ae 2 x35 fun x71=>Gk h68 x71 x67 x36 h3 x31 x32 x33 x34 x35 q28))
def FN (ih:Aa) (h30:Hp) (x52 x36:IV) (r50 r47 r44:AD) (x32 x49 x31 x43 x35:IV) (h3:Hp) (x33 x34:IV) (q28:List IV→Hp→OH):OH :=
 Aj [] false false ih 63 [x52,x36] h30 fun x54 h55 r56 w57=>Ac [(r50,[]),(r47,[]),(r44,[])] r56 w57 (BH EE 3 x32 x54 fun x58=>Aj [] false false ih 31 [x49,x31,x58] h55 fun x59 h60 r61 w62=>Ac [(r44,[])] r61 w62 (FY h60 x59 r44 x43 x35 x36 h3 x31 x32 x33 x34 q28))
def F4 (h30:Hp) (x48:IV) (r44:AD) (x33:IV) (r47:AD) (ih:Aa) (x36 x32 x31 x43 x35:IV) (h3:Hp) (x34:IV) (q28:List IV→Hp→OH):OH :=
 Ai 3 x48 h30 fun x49 r50=>Ac [(r44,[])] r50 [] (Ae 0 x33 fun x51=>Ah x51 h30 fun x52 r53=>Ac [(r50,[]),(r47,[]),(r44,[])] r53 [] (FN ih h30 x52 x36 r50 r47 r44 x32 x49 x31 x43 x35 h3 x33 x34 q28))
def Gh (r44:AD) (x33:IV) (h30:Hp) (x36:IV) (ih:Aa) (x32 x31 x43 x35:IV) (h3:Hp) (x34:IV) (q28:List IV→Hp→OH):OH :=
 Ac [] r44 [] (Ae 2 x33 fun x45=>Ah x45 h30 fun x46 r47=>Ac [(r44,[])] r47 [] (Bc 3 x46 x36 fun x48=>F4 h30 x48 r44 x33 r47 ih x36 x32 x31 x43 x35 h3 x34 q28))
def F7 (h79:Hp) (x34:IV):OH :=
 AK true 3 x34 h79 fun x82=>Ap [x82] h79
def F9 (x41 x35:IV) (h30:Hp) (x33 x36:IV) (ih:Aa) (x32 x31:IV) (h3:Hp) (x34:IV) (q28:List IV→Hp→OH):OH :=
 Al x41 (Ae 2 x35 fun x42=>Ah x42 h30 fun x43 r44=>Gh r44 x33 h30 x36 ih x32 x31 x43 x35 h3 x34 q28) (Ai 3 x35 h30 fun x77 _=>Ak 3 x34 x77 h30 fun h79 _ _=>F7 h79 x34)
def Ge (l87:List IV) (x33:IV) (h30:Hp) (x35:IV) (ih:Aa) (x32 x31:IV) (h3:Hp) (x34:IV) (q28:List IV→Hp→OH):OH :=
 AH l87 fun x36 _=>Ae 2 x33 fun x37=>Ah x37 h30 fun x38 _=>Cf x38 fun x40=>Hm EE 3 x36 x40 fun x41=>F9 x41 x35 h30 x33 x36 ih x32 x31 h3 x34 q28
def Ij (l29:List IV) (h30:Hp) (ih:Aa) (h3:Hp) (q28:List IV→Hp→OH):OH :=
 AH l29 fun x31 l83=>AH l83 fun x32 l84=>AH l84 fun x33 l85=>AH l85 fun x34 l86=>AH l86 fun x35 l87=>Ge l87 x33 h30 x35 ih x32 x31 h3 x34 q28
def FR (h3 h27:Hp) (x1 x2 x4 x8 x19:IV) (n:Nat) (ih:Aa):OH :=
 BB (h3.own.map (·.1)) [32513040] [x1,x2,x4,x8,x19,.fv (.int .i64 0)] h27 fun h89=>BQ n (fun q28 l29 h30=>Ij l29 h30 ih h3 q28) [x1,x2,x4,x8,x19,.fv (.int .i64 0)] h89
def F5 (h115:Hp) (x119 x1 x19:IV) (j0_26:Hp→OH):OH :=
 Ah x119 h115 fun x120 _=>BH EE 3 x120 x1 fun x122=>Ae 1 x19 fun x123=>Bt x123 x122 h115 fun h124 _ _=>j0_26 h124
def Gg (h109:Hp) (x93 x103 x108 x4 x1 x19:IV) (j0_26:Hp→OH):OH :=
 Ab x93 true h109 (fun k112=>geS EE 3 x103 x108 fun x113=>k112 x113 h109 [] []) fun x114 h115 _ _=>AF x93 x114 (.fv (.bool false)) fun x118=>Al x118 (Ae 1 x4 fun x119=>F5 h115 x119 x1 x19 j0_26) (j0_26 h115)
def Gq (h23:Hp) (x90 x4 x2 x1 x19:IV) (j0_26:Hp→OH):OH :=
 Ah x90 h23 fun x91 _=>A0 EE 3 x91 (.fv (.int .i64 1)) fun x93=>Ab x93 true h23 (fun k94=>Ae 1 x4 fun x95=>k94 x95 h23 [] []) fun x96 h97 _ _=>Ab x93 true h97 (fun k100=>Ah x96 h97 fun x101 r102=>k100 x101 h97 r102 []) fun x103 h104 _ _=>Ab x93 true h104 (fun k107=>k107 x2 h104 [] []) fun x108 h109 _ _=>Gg h109 x93 x103 x108 x4 x1 x19 j0_26
def Gs (x13 x16:IV) (h9 h3:Hp) (x1 x2 x4 x8:IV) (n:Nat) (ih:Aa):OH :=
 Bz [.fv (.int .i64 0),.fv (.int .i64 0),.nils] [(0,1,x13),(1,1,x16)] fun x18=>AM 32506885 (.row [.fv (.int .i64 0),.fv (.int .i64 0),.nils] false) (.ptr (.own 32506885) 0) h9 fun x19 h20 _ _=>Ak 3 x19 x18 h20 fun h23 _ _=>(fun (j0_26:Hp→OH)=>Ae 0 x4 fun x90=>Gq h23 x90 x4 x2 x1 x19 j0_26) fun h27=>FR h3 h27 x1 x2 x4 x8 x19 n ih
def S31 (ih:Aa) (n:Nat) (x0 x1 x2:IV) (h3:Hp):OH :=
 Bh 32505856 x0 h3 fun x4 h5 _ _=>AM 32505857 (.row [.fv (.int .i64 0),.fv (.int .i64 0),.nils] false) (.ptr (.own 32505857) 0) h5 fun x8 h9 _ _=>Ae 0 x4 fun x12=>Ah x12 h9 fun x13 _=>Ae 1 x4 fun x15=>Ah x15 h9 fun x16 _=>Gs x13 x16 h9 h3 x1 x2 x4 x8 n ih
theorem Al8 (ih:Aa) (n:Nat) (x0 x1 x2:IV) (h3:Hp):AI EE ih ft.get n 31 [x0,x1,x2] h3=S31 ih n x0 x1 x2 h3:=by kernel_rfl
def WQ (h25:Hp) (x13 x29:IV):OH :=
 Ak 3 x13 x29 h25 fun h30 _ _=>AK true 3 x13 h30 fun x33=>Ap [x33,.fv (.bool false)] h30
def AbE (h91:Hp) (x13 x44:IV):OH :=
 AK true 3 x13 h91 fun x94=>Ap [x94,x44] h91
def AbD (h126:Hp) (x13 x129 x130:IV):OH :=
 Ak 3 x13 x129 h126 fun h131 _ _=>AK true 3 x13 h131 fun x134=>Ap [x134,x130] h131
def AaW (h117:Hp) (x5 x9:IV) (ih:Aa) (x0 x3 x13:IV):OH :=
 Ai 3 x5 h117 fun x121 _=>Ai 3 x9 h117 fun x123 _=>Aj [] false false ih 64 [x0,x121,x123,x3] h117 fun x125 h126 _ _=>AL 0 x125 fun x129=>AL 1 x125 fun x130=>AbD h126 x13 x129 x130
def YT (h221:Hp) (x179 x201 x13 x224:IV):OH :=
 Ab x179 true h221 (fun k225=>k225 x201 h221 [] []) fun x226 h227 _ _=>AF x179 x226 (.fv (.bool false)) fun x230=>Ak 3 x13 x224 h227 fun h231 r232 w233=>Ac [] r232 w233 (AK true 3 x13 h231 fun x234=>Ap [x234,x230] h231)
def WI (h213:Hp) (x202:IV) (r217 r214 w215 r211:AD) (x216 x212 x179 x201 x13:IV):OH :=
 Ai 3 x202 h213 fun x218 r219=>Ac [(r217,[]),(r214,w215),(r211,[])] r219 [] (Aw (Ag EE 29 2 [(0,x216),(1,x218)]) 33568773 h213 fun x220 h221 r222 w223=>Ac [(r214,w215),(r211,[])] r222 w223 (Bz [.fv (.int .i64 0),.fv (.int .i64 0),.nils] [(0,1,.fv (.int .i64 26)),(1,1,x212),(2,1,x220)] fun x224=>YT h221 x179 x201 x13 x224))
def AaT (r211:AD) (ih:Aa) (h206:Hp) (x210 x180 x202 x179 x201 x13:IV):OH :=
 Ac [] r211 [] (Aj [] false false ih 55 [x210,.fv (.int .i64 5)] h206 fun x212 h213 r214 w215=>Ac [] r214 w215 (Ai 3 x180 h213 fun x216 r217=>Ac [(r214,w215),(r211,[])] r217 [] (WI h213 x202 r217 r214 w215 r211 x216 x212 x179 x201 x13)))
def WH (r204 w205 r198 w199 r193 w194 r190 r188:AD) (h203:Hp) (x202 x200 x9:IV) (ih:Aa) (x180 x179 x201 x13:IV):OH :=
 Ac [(r198,w199),(r193,w194),(r190,[]),(r188,[])] r204 w205 (Ak 3 x202 x200 h203 fun h206 r207 w208=>Ac [] r207 w208 (Ae 1 x9 fun x209=>Ah x209 h206 fun x210 r211=>AaT r211 ih h206 x210 x180 x202 x179 x201 x13))
def W4 (ih:Aa) (h192:Hp) (x0 x187 x191 x195:IV) (r193 w194 r190 r188:AD) (x9 x180 x179 x13:IV):OH :=
 Aj [] false false ih 32 [x0,x187,x191,x195] h192 fun x196 h197 r198 w199=>Ac [] r198 w199 (AL 0 x196 fun x200=>AL 1 x196 fun x201=>AM 33567754 (.row [.fv (.int .i64 0),.fv (.int .i64 0),.nils] false) (.ptr (.own 33567754) 0) h197 fun x202 h203 r204 w205=>WH r204 w205 r198 w199 r193 w194 r190 r188 h203 x202 x200 x9 ih x180 x179 x201 x13)
def XS (h184:Hp) (x9:IV) (r188:AD) (ih:Aa) (x3 x0 x187 x180 x179 x13:IV):OH :=
 Ai 3 x9 h184 fun x189 r190=>Ac [(r188,[])] r190 [] (Aj [] false false ih 58 [x189,.fv (.int .i64 1)] h184 fun x191 h192 r193 w194=>Ac [(r188,[])] r193 w194 (A9 EE 3 x3 (.fv (.int .i64 1)) fun x195=>W4 ih h192 x0 x187 x191 x195 r193 w194 r190 r188 x9 x180 x179 x13))
def Y2 (r182 w183 r176 w177 r171 w172 r168 r166:AD) (h181:Hp) (x180 x178 x5 x9:IV) (ih:Aa) (x3 x0 x179 x13:IV):OH :=
 Ac [(r176,w177),(r171,w172),(r168,[]),(r166,[])] r182 w183 (Ak 3 x180 x178 h181 fun h184 r185 w186=>Ac [] r185 w186 (Ai 3 x5 h184 fun x187 r188=>Ac [] r188 [] (XS h184 x9 r188 ih x3 x0 x187 x180 x179 x13)))
def X8 (ih:Aa) (h170:Hp) (x0 x165 x169 x173:IV) (r171 w172 r168 r166:AD) (x5 x9 x3 x13:IV):OH :=
 Aj [] false false ih 32 [x0,x165,x169,x173] h170 fun x174 h175 r176 w177=>Ac [] r176 w177 (AL 0 x174 fun x178=>AL 1 x174 fun x179=>AM 33566730 (.row [.fv (.int .i64 0),.fv (.int .i64 0),.nils] false) (.ptr (.own 33566730) 0) h175 fun x180 h181 r182 w183=>Y2 r182 w183 r176 w177 r171 w172 r168 r166 h181 x180 x178 x5 x9 ih x3 x0 x179 x13)
def YJ (h161:Hp) (x9:IV) (r166:AD) (ih:Aa) (x3 x0 x165 x5 x13:IV):OH :=
 Ai 3 x9 h161 fun x167 r168=>Ac [(r166,[])] r168 [] (Aj [] false false ih 58 [x167,.fv (.int .i64 0)] h161 fun x169 h170 r171 w172=>Ac [(r166,[])] r171 w172 (A9 EE 3 x3 (.fv (.int .i64 1)) fun x173=>X8 ih h170 x0 x165 x169 x173 r171 w172 r168 r166 x5 x9 x3 x13))
def X6 (ih:Aa) (h161:Hp) (x236 x13:IV):OH :=
 Aj [] false false ih 55 [x236,.fv (.int .i64 20)] h161 fun x238 h239 _ _=>A9 EE 3 x238 (.fv (.int .i64 5)) fun x242=>Aj [] false false ih 43 [x242] h239 fun x243 h244 _ _=>Ak 3 x13 x243 h244 fun h247 _ _=>AK true 3 x13 h247 fun x250=>Ap [x250,.fv (.bool true)] h247
def Zh (x164:IV) (h161:Hp) (x5 x9:IV) (ih:Aa) (x3 x0 x13:IV):OH :=
 Al x164 (Ai 3 x5 h161 fun x165 r166=>Ac [] r166 [] (YJ h161 x9 r166 ih x3 x0 x165 x5 x13)) (Ae 1 x9 fun x235=>Ah x235 h161 fun x236 _=>X6 ih h161 x236 x13)
def Ab1 (h117:Hp) (x139 x9:IV) (ih:Aa) (x5 x3 x0 x13:IV):OH :=
 Ab x139 true h117 (fun k140=>Ae 0 x9 fun x141=>k140 x141 h117 [] []) fun x142 h143 _ _=>Ab x139 true h143 (fun k146=>Ah x142 h143 fun x147 r148=>k146 x147 h143 r148 []) fun x149 h150 _ _=>Ab x139 true h150 (fun k153=>Aj [] false false ih 55 [x149,.fv (.int .i64 2)] h150 k153) fun x154 h155 _ _=>Ab x139 true h155 (fun k158=>A0 EE 3 x154 (.fv (.int .i64 1)) fun x159=>k158 x159 h155 [] []) fun x160 h161 _ _=>AF x139 x160 (.fv (.bool false)) fun x164=>Zh x164 h161 x5 x9 ih x3 x0 x13
def Acu (r309 w310:AD) (h308:Hp) (x13 x284:IV):OH :=
 Ac [] r309 w310 (AK true 3 x13 h308 fun x311=>Ap [x311,x284] h308)
def W1 (h289:Hp) (x296 x298:IV) (ih:Aa) (x13 x284:IV):OH :=
 Aw (Ag EE 29 2 [(0,x296),(1,x298)]) 33572869 h289 fun x300 h301 r302 w303=>Ac [] r302 w303 (Aj [] false false ih 27 [.fv (.int .i64 20),x300] h301 fun x304 h305 r306 w307=>Ac [] r306 w307 (Ak 3 x13 x304 h305 fun h308 r309 w310=>Acu r309 w310 h308 x13 x284))
def Aci (x293:IV) (h289:Hp) (x285:IV) (r294:AD) (ih:Aa) (x13 x284:IV):OH :=
 Bc 3 x293 (.fv (.int .i64 0)) fun x295=>Ai 3 x295 h289 fun x296 r297=>Ac [] r297 [] (Ai 3 x285 h289 fun x298 r299=>Ac [(r297,[]),(r294,[])] r299 [] (W1 h289 x296 x298 ih x13 x284))
def Ze (h286:Hp) (x285 x283 x5:IV) (ih:Aa) (x13 x284:IV):OH :=
 Ak 3 x285 x283 h286 fun h289 r290 w291=>Ac [] r290 w291 (Ae 2 x5 fun x292=>Ah x292 h289 fun x293 r294=>Ac [] r294 [] (Aci x293 h289 x285 r294 ih x13 x284))
def Aa1 (r281 w282:AD) (x279:IV) (h280:Hp) (r276 w277 r273 r270 w271 r267 r264 r260 w261 r257 r254:AD) (x5:IV) (ih:Aa) (x13:IV):OH :=
 Ac [] r281 w282 (AL 0 x279 fun x283=>AL 1 x279 fun x284=>AM 33571859 (.row [.fv (.int .i64 0),.fv (.int .i64 0),.nils] false) (.ptr (.own 33571859) 0) h280 fun x285 h286 r287 w288=>Ac [(r281,w282),(r276,w277),(r273,[]),(r270,w271),(r267,[]),(r264,[]),(r260,w261),(r257,[]),(r254,[])] r287 w288 (Ze h286 x285 x283 x5 ih x13 x284))
def Yb (r273 r270 w271 r267 r264 r260 w261 r257 r254:AD) (ih:Aa) (h269:Hp) (x272 x3 x258 x268 x5 x13:IV):OH :=
 Ac [(r270,w271),(r267,[]),(r264,[]),(r260,w261),(r257,[]),(r254,[])] r273 [] (Aj [] false false ih 58 [x272,.fv (.int .i64 0)] h269 fun x274 h275 r276 w277=>Ac [] r276 w277 (A9 EE 3 x3 (.fv (.int .i64 1)) fun x278=>Aj [] false false ih 32 [x258,x268,x274,x278] h275 fun x279 h280 r281 w282=>Aa1 r281 w282 x279 h280 r276 w277 r273 r270 w271 r267 r264 r260 w261 r257 r254 x5 ih x13))
def AcU (h259:Hp) (x265:IV) (r260 w261 r257 r254:AD) (ih:Aa) (x9:IV) (r264:AD) (x3 x258 x5 x13:IV):OH :=
 Ai 3 x265 h259 fun x266 r267=>Ac [(r260,w261),(r257,[]),(r254,[])] r267 [] (Aj [] false false ih 31 [x266,.fv (.int .i64 1),.fv (.int .i64 0)] h259 fun x268 h269 r270 w271=>Ac [] r270 w271 (Ai 3 x9 h269 fun x272 r273=>Yb r273 r270 w271 r267 r264 r260 w261 r257 r254 ih h269 x272 x3 x258 x268 x5 x13))
def Aal (r260 w261:AD) (x5:IV) (h259:Hp) (r257 r254:AD) (ih:Aa) (x9 x3 x258 x13:IV):OH :=
 Ac [] r260 w261 (Ae 2 x5 fun x262=>Ah x262 h259 fun x263 r264=>Ac [(r260,w261),(r257,[]),(r254,[])] r264 [] (Bc 3 x263 (.fv (.int .i64 1)) fun x265=>AcU h259 x265 r260 w261 r257 r254 ih x9 r264 x3 x258 x5 x13))
def Z0 (r254:AD) (x253:IV) (h117:Hp) (ih:Aa) (x0 x5 x9 x3 x13:IV):OH :=
 Ac [] r254 [] (Bc 3 x253 (.fv (.int .i64 0)) fun x255=>Ai 3 x255 h117 fun x256 r257=>Ac [] r257 [] (Aj [] false false ih 29 [x0,.fv (.int .i64 0),x256] h117 fun x258 h259 r260 w261=>Aal r260 w261 x5 h259 r257 r254 ih x9 x3 x258 x13))
def Yz (h383:Hp) (x13 x382:IV):OH :=
 AK true 3 x13 h383 fun x386=>Ap [x386,x382] h383
def Xo (h362:Hp) (x365 x367:IV) (ih:Aa) (x331 x357 x13:IV):OH :=
 Aw (Ag EE 29 2 [(0,x365),(1,x367)]) 33576962 h362 fun x369 h370 _ _=>Aj [] false false ih 27 [.fv (.int .i64 22),x369] h370 fun x373 h374 _ _=>Ab x331 true h374 (fun k377=>k377 x357 h374 [] []) fun x378 h379 _ _=>AF x331 x378 (.fv (.bool false)) fun x382=>Ak 3 x13 x373 h379 fun h383 _ _=>Yz h383 x13 x382
def ZX (r360 w361 r354 w355 r349 w350 r346 r344 r341:AD) (h359:Hp) (x358 x356 x332:IV) (ih:Aa) (x331 x357 x13:IV):OH :=
 Ac [(r354,w355),(r349,w350),(r346,[]),(r344,[]),(r341,[])] r360 w361 (Ak 3 x358 x356 h359 fun h362 r363 w364=>Ac [] r363 w364 (Ai 3 x332 h362 fun x365 _=>Ai 3 x358 h362 fun x367 _=>Xo h362 x365 x367 ih x331 x357 x13))
def AbZ (ih:Aa) (h348:Hp) (x0 x343 x347 x351:IV) (r349 w350 r346 r344 r341:AD) (x332 x331 x13:IV):OH :=
 Aj [] false false ih 32 [x0,x343,x347,x351] h348 fun x352 h353 r354 w355=>Ac [] r354 w355 (AL 0 x352 fun x356=>AL 1 x352 fun x357=>AM 33575949 (.row [.fv (.int .i64 0),.fv (.int .i64 0),.nils] false) (.ptr (.own 33575949) 0) h353 fun x358 h359 r360 w361=>ZX r360 w361 r354 w355 r349 w350 r346 r344 r341 h359 x358 x356 x332 ih x331 x357 x13)
def Abj (h336:Hp) (x9:IV) (r344 r341:AD) (ih:Aa) (x3 x0 x343 x332 x331 x13:IV):OH :=
 Ai 3 x9 h336 fun x345 r346=>Ac [(r344,[]),(r341,[])] r346 [] (Aj [] false false ih 58 [x345,.fv (.int .i64 1)] h336 fun x347 h348 r349 w350=>Ac [(r344,[]),(r341,[])] r349 w350 (A9 EE 3 x3 (.fv (.int .i64 1)) fun x351=>AbZ ih h348 x0 x343 x347 x351 r349 w350 r346 r344 r341 x332 x331 x13))
def AcN (h336:Hp) (x339 x9:IV) (ih:Aa) (x3 x0 x332 x331 x13:IV):OH :=
 Ah x339 h336 fun x340 r341=>Ac [] r341 [] (Bc 3 x340 (.fv (.int .i64 1)) fun x342=>Ai 3 x342 h336 fun x343 r344=>Ac [] r344 [] (Abj h336 x9 r344 r341 ih x3 x0 x343 x332 x331 x13))
def Zg (h327:Hp) (r328 w329 r323 w324 r320 r318 r315:AD) (x330 x5 x9:IV) (ih:Aa) (x3 x0 x331 x13:IV):OH :=
 AM 33574925 (.row [.fv (.int .i64 0),.fv (.int .i64 0),.nils] false) (.ptr (.own 33574925) 0) h327 fun x332 h333 r334 w335=>Ac [(r328,w329),(r323,w324),(r320,[]),(r318,[]),(r315,[])] r334 w335 (Ak 3 x332 x330 h333 fun h336 r337 w338=>Ac [] r337 w338 (Ae 2 x5 fun x339=>AcN h336 x339 x9 ih x3 x0 x332 x331 x13))
def AbW (x3:IV) (ih:Aa) (h322:Hp) (x0 x317 x321:IV) (r323 w324 r320 r318 r315:AD) (x5 x9 x13:IV):OH :=
 A9 EE 3 x3 (.fv (.int .i64 1)) fun x325=>Aj [] false false ih 32 [x0,x317,x321,x325] h322 fun x326 h327 r328 w329=>Ac [] r328 w329 (AL 0 x326 fun x330=>AL 1 x326 fun x331=>Zg h327 r328 w329 r323 w324 r320 r318 r315 x330 x5 x9 ih x3 x0 x331 x13)
def ZG (r318:AD) (h117:Hp) (x9:IV) (r315:AD) (ih:Aa) (x3 x0 x317 x5 x13:IV):OH :=
 Ac [] r318 [] (Ai 3 x9 h117 fun x319 r320=>Ac [(r318,[]),(r315,[])] r320 [] (Aj [] false false ih 58 [x319,.fv (.int .i64 0)] h117 fun x321 h322 r323 w324=>Ac [(r318,[]),(r315,[])] r323 w324 (AbW x3 ih h322 x0 x317 x321 r323 w324 r320 r318 r315 x5 x9 x13)))
def Zu (x5:IV) (h117:Hp) (x9:IV) (ih:Aa) (x3 x0 x13:IV):OH :=
 Ae 2 x5 fun x313=>Ah x313 h117 fun x314 r315=>Ac [] r315 [] (Bc 3 x314 (.fv (.int .i64 0)) fun x316=>Ai 3 x316 h117 fun x317 r318=>ZG r318 h117 x9 r315 ih x3 x0 x317 x5 x13)
def Acq (h117:Hp) (x45 x13 x44:IV):OH :=
 Ai 3 x45 h117 fun x387 _=>Ak 3 x13 x387 h117 fun h389 _ _=>AK true 3 x13 h389 fun x392=>Ap [x392,x44] h389
def XU (x251 x5:IV) (h117:Hp) (ih:Aa) (x0 x9 x3 x13 x136 x45 x44:IV):OH :=
 Al x251 (Ae 2 x5 fun x252=>Ah x252 h117 fun x253 r254=>Z0 r254 x253 h117 ih x0 x5 x9 x3 x13) (A0 EE 3 x136 (.fv (.int .i64 17)) fun x312=>Al x312 (Zu x5 h117 x9 ih x3 x0 x13) (Acq h117 x45 x13 x44))
def W2 (x5:IV) (h117:Hp) (x3 x9:IV) (ih:Aa) (x0 x13 x45 x44:IV):OH :=
 Ae 0 x5 fun x135=>Ah x135 h117 fun x136 _=>A0 EE 3 x136 (.fv (.int .i64 15)) fun x138=>Al x138 (KY EE 3 x3 (.fv (.int .i64 0)) fun x139=>Ab1 h117 x139 x9 ih x5 x3 x0 x13) (A0 EE 3 x136 (.fv (.int .i64 16)) fun x251=>XU x251 x5 h117 ih x0 x9 x3 x13 x136 x45 x44)
def Xz (h99:Hp) (x95 x98:IV) (ih:Aa) (x5 x9 x0 x3 x13 x45 x44:IV):OH :=
 Ab x95 true h99 (fun k102=>Ah x98 h99 fun x103 r104=>k102 x103 h99 r104 []) fun x105 h106 _ _=>Ab x95 true h106 (fun k109=>Aj [] false false ih 55 [x105,.fv (.int .i64 3)] h106 k109) fun x110 h111 _ _=>Ab x95 true h111 (fun k114=>A0 EE 3 x110 (.fv (.int .i64 1)) fun x115=>k114 x115 h111 [] []) fun x116 h117 _ _=>AF x95 x116 (.fv (.bool false)) fun x120=>Al x120 (AaW h117 x5 x9 ih x0 x3 x13) (W2 x5 h117 x3 x9 ih x0 x13 x45 x44)
def Acz (x88:IV) (h85:Hp) (x45 x13 x44 x3 x9:IV) (ih:Aa) (x5 x0:IV):OH :=
 Al x88 (Ai 3 x45 h85 fun x89 _=>Ak 3 x13 x89 h85 fun h91 _ _=>AbE h91 x13 x44) (KY EE 3 x3 (.fv (.int .i64 0)) fun x95=>Ab x95 true h85 (fun k96=>Ae 0 x9 fun x97=>k96 x97 h85 [] []) fun x98 h99 _ _=>Xz h99 x95 x98 ih x5 x9 x0 x3 x13 x45 x44)
def Ab6 (h67:Hp) (x44 x66 x3 x45 x13 x9:IV) (ih:Aa) (x5 x0:IV):OH :=
 Ab x44 true h67 (fun k70=>A0 EE 3 x66 (.fv (.int .i64 0)) fun x71=>k70 x71 h67 [] []) fun x72 h73 _ _=>AF x44 x72 (.fv (.bool false)) fun x76=>Ab x76 false h73 (fun k77=>k77 x3 h73 [] []) fun x78 h79 _ _=>Ab x76 false h79 (fun k82=>Hm EE 3 x78 (.fv (.int .i64 (-4))) fun x83=>k82 x83 h79 [] []) fun x84 h85 _ _=>AF x76 (.fv (.bool true)) x84 fun x88=>Acz x88 h85 x45 x13 x44 x3 x9 ih x5 x0
def YY (h40:Hp) (x43 x44 x9:IV) (ih:Aa) (x3 x13 x5 x0:IV):OH :=
 AM 33558536 (.row [.fv (.int .i64 0),.fv (.int .i64 0),.nils] false) (.ptr (.own 33558536) 0) h40 fun x45 h46 _ _=>Ak 3 x45 x43 h46 fun h49 _ _=>Ab x44 true h49 (fun k52=>Ae 0 x9 fun x53=>k52 x53 h49 [] []) fun x54 h55 _ _=>Ab x44 true h55 (fun k58=>Ah x54 h55 fun x59 r60=>k58 x59 h55 r60 []) fun x61 h62 _ _=>Ab x44 true h62 (fun k65=>Aj [] false false ih 55 [x61,.fv (.int .i64 3)] h62 k65) fun x66 h67 _ _=>Ab6 h67 x44 x66 x3 x45 x13 x9 ih x5 x0
def XW (x9:IV) (h25:Hp) (ih:Aa) (x0 x34 x3 x13 x5:IV):OH :=
 Ae 1 x9 fun x36=>Ah x36 h25 fun x37 _=>Aj [] false false ih 59 [x0,.fv (.int .i64 0),x34,x37] h25 fun x39 h40 _ _=>AL 0 x39 fun x43=>AL 1 x39 fun x44=>YY h40 x43 x44 x9 ih x3 x13 x5 x0
def Abi (x19:IV) (h20:Hp) (x5 x23 x13 x9:IV) (ih:Aa) (x0 x3:IV):OH :=
 AL 1 x19 fun x24=>Ak 3 x5 x23 h20 fun h25 _ _=>I1 EE 3 x24 (.fv (.int .i64 0)) fun x28=>Al x28 (Bz [.fv (.int .i64 0),.fv (.int .i64 0),.nils] [] fun x29=>WQ h25 x13 x29) (Ai 3 x5 h25 fun x34 _=>XW x9 h25 ih x0 x34 x3 x13 x5)
def S32 (ih:Aa) (n:Nat) (x0 x1 x2 x3:IV) (h4:Hp):OH :=
 Bh 33554432 x1 h4 fun x5 h6 _ _=>Bh 33554433 x2 h6 fun x9 h10 _ _=>AM 33554434 (.row [.fv (.int .i64 0),.fv (.int .i64 0),.nils] false) (.ptr (.own 33554434) 0) h10 fun x13 h14 _ _=>Ai 3 x5 h14 fun x17 _=>Aj [] false false ih 18 [x17] h14 fun x19 h20 _ _=>AL 0 x19 fun x23=>Abi x19 h20 x5 x23 x13 x9 ih x0 x3
theorem Amb (ih:Aa) (n:Nat) (x0 x1 x2 x3:IV) (h4:Hp):AI EE ih ft.get n 32 [x0,x1,x2,x3] h4=S32 ih n x0 x1 x2 x3 h4:=by kernel_rfl
def PP (h32:Hp) (x7 x31:IV):OH :=
 Ak 3 x7 x31 h32 fun h35 _ _=>AK true 3 x7 h35 fun x38=>Ap [x38] h35
def P1 (r72 w73:AD) (h71:Hp) (x7:IV):OH :=
 Ac [] r72 w73 (AK true 3 x7 h71 fun x74=>Ap [x74] h71)
def QR (h60:Hp) (x48 x59:IV) (ih:Aa) (x40 x7:IV):OH :=
 Aw (Ag EE 29 2 [(0,x48),(1,x59)]) 34607117 h60 fun x63 h64 r65 w66=>Ac [] r65 w66 (Aj [] false false ih 27 [x40,x63] h64 fun x67 h68 r69 w70=>Ac [] r69 w70 (Ak 3 x7 x67 h68 fun h71 r72 w73=>P1 r72 w73 h71 x7))
def QC (ih:Aa) (h49:Hp) (x52 x1 x48 x40 x7:IV):OH :=
 Aj [] false false ih 58 [x52,.fv (.int .i64 1)] h49 fun x54 h55 r56 w57=>Ac [] r56 w57 (A9 EE 3 x1 (.fv (.int .i64 1)) fun x58=>Aj [] false false ih 33 [x54,x58] h55 fun x59 h60 r61 w62=>Ac [] r61 w62 (QR h60 x48 x59 ih x40 x7))
def Rq (x1:IV) (ih:Aa) (h44:Hp) (x43 x3:IV) (r45 w46 r42:AD) (x40 x7:IV):OH :=
 A9 EE 3 x1 (.fv (.int .i64 1)) fun x47=>Aj [] false false ih 33 [x43,x47] h44 fun x48 h49 r50 w51=>Ac [] r50 w51 (Ai 3 x3 h49 fun x52 r53=>Ac [(r50,w51),(r45,w46),(r42,[])] r53 [] (QC ih h49 x52 x1 x48 x40 x7))
def Rl (x39:IV) (h27:Hp) (x3:IV) (ih:Aa) (x1 x7:IV):OH :=
 A9 EE 3 x39 (.fv (.int .i64 2)) fun x40=>Ai 3 x3 h27 fun x41 r42=>Ac [] r42 [] (Aj [] false false ih 58 [x41,.fv (.int .i64 0)] h27 fun x43 h44 r45 w46=>Ac [] r45 w46 (Rq x1 ih h44 x43 x3 r45 w46 r42 x40 x7))
def RL (h15:Hp) (x18 x14:IV) (ih:Aa) (x7 x3 x1:IV):OH :=
 Ab x18 false h15 (fun k19=>k19 x14 h15 [] []) fun x20 h21 _ _=>Ab x18 false h21 (fun k24=>Hm EE 3 x20 (.fv (.int .i64 2)) fun x25=>k24 x25 h21 [] []) fun x26 h27 _ _=>AF x18 (.fv (.bool true)) x26 fun x30=>Al x30 (Aj [] false false ih 27 [.fv (.int .i64 15),.nils] h27 fun x31 h32 _ _=>PP h32 x7 x31) (BH EE 3 (.fv (.int .i64 16)) x14 fun x39=>Rl x39 h27 x3 ih x1 x7)
def S33 (ih:Aa) (n:Nat) (x0 x1:IV) (h2:Hp):OH :=
 Bh 34603008 x0 h2 fun x3 h4 _ _=>AM 34603009 (.row [.fv (.int .i64 0),.fv (.int .i64 0),.nils] false) (.ptr (.own 34603009) 0) h4 fun x7 h8 _ _=>Ae 1 x3 fun x11=>Ah x11 h8 fun x12 _=>Aj [] false false ih 55 [x12,.fv (.int .i64 4)] h8 fun x14 h15 _ _=>leS EE 3 x1 (.fv (.int .i64 0)) fun x18=>RL h15 x18 x14 ih x7 x3 x1
theorem Al9 (ih:Aa) (n:Nat) (x0 x1:IV) (h2:Hp):AI EE ih ft.get n 33 [x0,x1] h2=S33 ih n x0 x1 h2:=by kernel_rfl
def S34 (ih:Aa) (n:Nat) (x0:IV) (h1:Hp):OH :=
 AM 35651584 (.row [.fv (.int .i64 0),.fv (.int .i64 0),.nils] false) (.ptr (.own 35651584) 0) h1 fun x2 h3 _ _=>Bz [.fv (.int .i64 0),.fv (.int .i64 0),.nils] [(0,1,.fv (.int .i64 1)),(1,1,x0)] fun x6=>Ak 3 x2 x6 h3 fun h7 _ _=>AK true 3 x2 h7 fun x10=>Ap [x10] h7
theorem Ams (ih:Aa) (n:Nat) (x0:IV) (h1:Hp):AI EE ih ft.get n 34 [x0] h1=S34 ih n x0 h1:=by kernel_rfl
def Su (ih:Aa) (h28:Hp) (x27 x22 x23:IV) (q17:List IV→Hp→OH) (x20 x21:IV):OH :=
 Aj [] false false ih 27 [.fv (.int .i64 12),x27] h28 fun x31 h32 _ _=>Ak 3 x22 x31 h32 fun h35 _ _=>BH EE 3 x23 (.fv (.int .i64 1)) fun x38=>q17 [x20,x21,x22,x38] h35
def SV (h41:Hp) (x21:IV):OH :=
 AK true 3 x21 h41 fun x44=>Ap [x44] h41
def PD (x24:IV) (h19:Hp) (x22:IV) (ih:Aa) (x23:IV) (q17:List IV→Hp→OH) (x20 x21:IV):OH :=
 Al x24 (Ai 3 x22 h19 fun x25 _=>Aw (Ag EE 29 1 [(0,x25)]) 36705281 h19 fun x27 h28 _ _=>Su ih h28 x27 x22 x23 q17 x20 x21) (Ai 3 x22 h19 fun x39 _=>Ak 3 x21 x39 h19 fun h41 _ _=>SV h41 x21)
def VQ (l18:List IV) (h19:Hp) (ih:Aa) (q17:List IV→Hp→OH):OH :=
 AH l18 fun x20 l45=>AH l45 fun x21 l46=>AH l46 fun x22 l47=>AH l47 fun x23 _=>Hm EE 3 x23 x20 fun x24=>PD x24 h19 x22 ih x23 q17 x20 x21
def S35 (ih:Aa) (n:Nat) (x0:IV) (h1:Hp):OH :=
 AM 36700160 (.row [.fv (.int .i64 0),.fv (.int .i64 0),.nils] false) (.ptr (.own 36700160) 0) h1 fun x2 h3 _ _=>Aj [] false false ih 27 [.fv (.int .i64 11),.nils] h3 fun x6 h7 _ _=>AM 36701185 (.row [.fv (.int .i64 0),.fv (.int .i64 0),.nils] false) (.ptr (.own 36701185) 0) h7 fun x10 h11 _ _=>Ak 3 x10 x6 h11 fun h14 _ _=>BQ n (fun q17 l18 h19=>VQ l18 h19 ih q17) [x0,x2,x10,.fv (.int .i64 0)] h14
theorem Ali (ih:Aa) (n:Nat) (x0:IV) (h1:Hp):AI EE ih ft.get n 35 [x0] h1=S35 ih n x0 h1:=by kernel_rfl
def Ala (x11:IV) (q6:List IV→Hp→OH) (h24:Hp) (x9 x27:IV):OH :=
 BH EE 3 x11 (.fv (.int .i64 1)) fun x28=>q6 [x9,x27,x28] h24
def Alt (h8:Hp) (x17 x11:IV) (ih:Aa) (x10:IV) (q6:List IV→Hp→OH) (x9:IV):OH :=
 Ah x17 h8 fun x18 _=>Bc 3 x18 x11 fun x20=>Ai 3 x20 h8 fun x21 _=>Aj [] false false ih 36 [x21] h8 fun x23 h24 _ _=>BH EE 3 x10 x23 fun x27=>Ala x11 q6 h24 x9 x27
def AlY (x13 x11 x9:IV) (h8:Hp) (ih:Aa) (x10:IV) (q6:List IV→Hp→OH):OH :=
 Cf x13 fun x15=>Hm EE 3 x11 x15 fun x16=>Al x16 (Ae 2 x9 fun x17=>Alt h8 x17 x11 ih x10 q6 x9) (Ap [x10] h8)
def Alx (l7:List IV) (h8:Hp) (ih:Aa) (q6:List IV→Hp→OH):OH :=
 AH l7 fun x9 l29=>AH l29 fun x10 l30=>AH l30 fun x11 _=>Ae 2 x9 fun x12=>Ah x12 h8 fun x13 _=>AlY x13 x11 x9 h8 ih x10 q6
def S36 (ih:Aa) (n:Nat) (x0:IV) (h1:Hp):OH :=
 Bh 37748736 x0 h1 fun x2 h3 _ _=>BQ n (fun q6 l7 h8=>Alx l7 h8 ih q6) [x2,.fv (.int .i64 1),.fv (.int .i64 0)] h3
theorem AkG (ih:Aa) (n:Nat) (x0:IV) (h1:Hp):AI EE ih ft.get n 36 [x0] h1=S36 ih n x0 h1:=by kernel_rfl
def AkC (h38:Hp) (x26:IV) (ih:Aa) (x30 x37:IV):OH :=
 Ab x26 true h38 (fun k41=>Aj [] false false ih 21 [x30,x37] h38 k41) fun x42 h43 _ _=>AF x26 x42 (.fv (.bool false)) fun x46=>Ap [x46] h43
def Akp (h14:Hp) (x17 x18 x7:IV) (ih:Aa):OH :=
 AM 38798341 (.row [.fv (.int .i64 0),.fv (.int .i64 0),.nils] false) (.ptr (.own 38798341) 0) h14 fun x19 h20 _ _=>Ak 3 x19 x17 h20 fun h23 _ _=>A0 EE 37 x18 (.fv (.int .i64 0)) fun x26=>Ab x26 true h23 (fun k27=>Ai 3 x19 h23 fun x28 r29=>k27 x28 h23 r29 []) fun x30 h31 _ _=>Ab x26 true h31 (fun k34=>Ai 3 x7 h31 fun x35 r36=>k34 x35 h31 r36 []) fun x37 h38 _ _=>AkC h38 x26 ih x30 x37
def S37 (ih:Aa) (n:Nat) (x0 x1:IV) (h2:Hp):OH :=
 Bh 38797312 x0 h2 fun x3 h4 _ _=>Bh 38797313 x1 h4 fun x7 h8 _ _=>Ai 3 x3 h8 fun x11 _=>Aj [] false false ih 20 [x11] h8 fun x13 h14 _ _=>AL 0 x13 fun x17=>AL 1 x13 fun x18=>Akp h14 x17 x18 x7 ih
theorem AlD (ih:Aa) (n:Nat) (x0 x1:IV) (h2:Hp):AI EE ih ft.get n 37 [x0,x1] h2=S37 ih n x0 x1 h2:=by kernel_rfl
def S42 (ih:Aa) (n:Nat) (h0:Hp):OH :=
 AM 44040192 (.row [.fv (.int .i64 0),.fv (.int .i64 0),.nils] false) (.ptr (.own 44040192) 0) h0 fun x1 h2 _ _=>Aj [] false false ih 27 [.fv (.int .i64 10),.nils] h2 fun x5 h6 _ _=>Ak 3 x1 x5 h6 fun h9 _ _=>AK true 3 x1 h9 fun x12=>Ap [x12] h9
theorem Akk (ih:Aa) (n:Nat) (h0:Hp):AI EE ih ft.get n 42 [] h0=S42 ih n h0:=by kernel_rfl
def S43 (ih:Aa) (n:Nat) (x0:IV) (h1:Hp):OH :=
 AM 45088768 (.row [.fv (.int .i64 0),.fv (.int .i64 0),.nils] false) (.ptr (.own 45088768) 0) h1 fun x2 h3 _ _=>Bz [.fv (.int .i64 0),.fv (.int .i64 0),.nils] [(0,1,.fv (.int .i64 25)),(1,1,x0)] fun x6=>Ak 3 x2 x6 h3 fun h7 _ _=>AK true 3 x2 h7 fun x10=>Ap [x10] h7
theorem AmE (ih:Aa) (n:Nat) (x0:IV) (h1:Hp):AI EE ih ft.get n 43 [x0] h1=S43 ih n x0 h1:=by kernel_rfl
def RR (x29:IV) (h65:Hp) (x64 x30:IV) (h1:Hp) (x27 x28:IV) (q24:List IV→Hp→OH):OH :=
 Ae 2 x29 fun x68=>Bt x68 x64 h65 fun h69 _ _=>BH EE 3 x30 (.fv (.int .i64 1)) fun x72=>BB (h1.own.map (·.1)) [48239622,48242692] [x27,x28,x29,x72] h69 fun h73=>q24 [x27,x28,x29,x72] h73
def Rs (x29:IV) (h54:Hp) (x46 x30:IV) (h1:Hp) (x27 x28:IV) (q24:List IV→Hp→OH):OH :=
 Ae 2 x29 fun x55=>Ah x55 h54 fun x56 _=>Ai 3 x46 h54 fun x58 _=>Aw (Ag EE 29 1 [(0,x58)]) 48242691 h54 fun x60 h61 _ _=>Aw (AT EE 48242692 false .append [29,29] [x56,x60]) 48242692 h61 fun x64 h65 _ _=>RR x29 h65 x64 x30 h1 x27 x28 q24
def Sr (h126:Hp) (x46 x125:IV) (j0_53:Hp→OH):OH :=
 Ak 3 x46 x125 h126 fun h129 _ _=>j0_53 h129
def So (h115:Hp) (x74 x95 x114:IV) (ih:Aa) (x46:IV) (j0_53:Hp→OH):OH :=
 Ab x74 true h115 (fun k118=>AF x95 (.fv (.bool true)) x114 fun x119=>k118 x119 h115 [] []) fun x120 h121 _ _=>AF x74 x120 (.fv (.bool false)) fun x124=>Al x124 (Aj [] false false ih 27 [.fv (.int .i64 11),.nils] h121 fun x125 h126 _ _=>Sr h126 x46 x125 j0_53) (j0_53 h121)
def Rh (h85:Hp) (x74 x84 x27:IV) (ih:Aa) (x46:IV) (j0_53:Hp→OH):OH :=
 Ab x74 true h85 (fun k88=>A0 EE 3 x84 (.fv (.int .i64 4)) fun x89=>k88 x89 h85 [] []) fun x90 h91 _ _=>Ab x74 true h91 (fun k94=>k94 x90 h91 [] []) fun x95 h96 _ _=>Ab x95 false h96 (fun k99=>Ae 0 x27 fun x100=>k99 x100 h96 [] []) fun x101 h102 _ _=>Ab x95 false h102 (fun k105=>Ah x101 h102 fun x106 r107=>k105 x106 h102 r107 []) fun x108 h109 _ _=>Ab x95 false h109 (fun k112=>A0 EE 3 x108 (.fv (.int .i64 7)) fun x113=>k112 x113 h109 [] []) fun x114 h115 _ _=>So h115 x74 x95 x114 ih x46 j0_53
def Pz (h47:Hp) (x46 x42 x29 x30:IV) (h1:Hp) (x27 x28:IV) (q24:List IV→Hp→OH) (ih:Aa):OH :=
 Ak 3 x46 x42 h47 fun h50 _ _=>(fun (j0_53:Hp→OH)=>A0 EE 3 x30 (.fv (.int .i64 0)) fun x74=>Ab x74 true h50 (fun k75=>Ae 0 x27 fun x76=>k75 x76 h50 [] []) fun x77 h78 _ _=>Ab x74 true h78 (fun k81=>Ah x77 h78 fun x82 r83=>k81 x82 h78 r83 []) fun x84 h85 _ _=>Rh h85 x74 x84 x27 ih x46 j0_53) fun h54=>Rs x29 h54 x46 x30 h1 x27 x28 q24
def Tp (h26:Hp) (x36 x30:IV) (ih:Aa) (x29:IV) (h1:Hp) (x27 x28:IV) (q24:List IV→Hp→OH):OH :=
 Ah x36 h26 fun x37 _=>Bc 3 x37 x30 fun x39=>Ai 3 x39 h26 fun x40 _=>Aj [] false false ih 46 [x40] h26 fun x42 h43 _ _=>AM 48239622 (.row [.fv (.int .i64 0),.fv (.int .i64 0),.nils] false) (.ptr (.own 48239622) 0) h43 fun x46 h47 _ _=>Pz h47 x46 x42 x29 x30 h1 x27 x28 q24 ih
def SF (ih:Aa) (h299:Hp) (x296 x298 x28:IV):OH :=
 Aj [] false false ih 30 [x296,.fv (.int .i64 0),x298] h299 fun x302 h303 r304 w305=>Ac [] r304 w305 (Ak 3 x28 x302 h303 fun h306 r307 w308=>Ac [] r307 w308 (AK true 3 x28 h306 fun x309=>Ap [x309] h306))
def Qy (x293:IV) (h284:Hp) (ih:Aa) (r294 r290:AD) (x28:IV):OH :=
 Bc 3 x293 (.fv (.int .i64 0)) fun x295=>Ai 3 x295 h284 fun x296 r297=>Ac [] r297 [] (Aj [] false false ih 27 [.fv (.int .i64 11),.nils] h284 fun x298 h299 r300 w301=>Ac [(r297,[]),(r294,[]),(r290,[])] r300 w301 (SF ih h299 x296 x298 x28))
def PH (r290:AD) (x289:IV) (h284:Hp) (ih:Aa) (x28:IV):OH :=
 Ac [] r290 [] (Bc 3 x289 (.fv (.int .i64 1)) fun x291=>Ae 2 x291 fun x292=>Ah x292 h284 fun x293 r294=>Ac [] r294 [] (Qy x293 h284 ih r294 r290 x28))
def Sd (h484:Hp) (x495 x28:IV):OH :=
 Ai 3 x495 h484 fun x496 _=>Ak 3 x28 x496 h484 fun h498 _ _=>AK true 3 x28 h498 fun x501=>Ap [x501] h498
def Qx (h484:Hp) (x488 x28:IV):OH :=
 Ah x488 h484 fun x489 _=>Bc 3 x489 (.fv (.int .i64 1)) fun x491=>Ae 2 x491 fun x492=>Ah x492 h484 fun x493 _=>Bc 3 x493 (.fv (.int .i64 0)) fun x495=>Sd h484 x495 x28
def SG (h484:Hp) (x28 x502:IV):OH :=
 Ak 3 x28 x502 h484 fun h504 _ _=>AK true 3 x28 h504 fun x507=>Ap [x507] h504
def R0 (h479:Hp) (x391:IV) (ih:Aa) (x433 x478 x29 x28:IV):OH :=
 Ab x391 true h479 (fun k482=>Aj [] false false ih 21 [x433,x478] h479 k482) fun x483 h484 r485 w486=>Ac [] r485 w486 (AF x391 x483 (.fv (.bool false)) fun x487=>Al x487 (Ae 2 x29 fun x488=>Qx h484 x488 x28) (Ai 3 x29 h484 fun x502 _=>SG h484 x28 x502))
def Qb (h459:Hp) (x391 x458:IV) (r435 w436 r422 w423 r403 w404:AD) (ih:Aa) (x433 x29 x28:IV):OH :=
 Ab x391 true h459 (fun k462=>Ah x458 h459 fun x463 r464=>k462 x463 h459 r464 []) fun x465 h466 r467 w468=>Ac [(r435,w436),(r422,w423),(r403,w404)] r467 w468 (Ab x391 true h466 (fun k469=>Bc 3 x465 (.fv (.int .i64 0)) fun x470=>k469 x470 h466 [] []) fun x471 h472 _ _=>Ab x391 true h472 (fun k475=>Ai 3 x471 h472 fun x476 r477=>k475 x476 h472 r477 []) fun x478 h479 r480 w481=>Ac [(r435,w436),(r422,w423),(r403,w404)] r480 w481 (R0 h479 x391 ih x433 x478 x29 x28))
def QY (h434:Hp) (x391 x29:IV) (r435 w436 r422 w423 r403 w404:AD) (ih:Aa) (x433 x28:IV):OH :=
 Ab x391 true h434 (fun k437=>Ae 2 x29 fun x438=>k437 x438 h434 [] []) fun x439 h440 _ _=>Ab x391 true h440 (fun k443=>Ah x439 h440 fun x444 r445=>k443 x444 h440 r445 []) fun x446 h447 r448 w449=>Ac [(r435,w436),(r422,w423),(r403,w404)] r448 w449 (Ab x391 true h447 (fun k450=>Bc 3 x446 (.fv (.int .i64 2)) fun x451=>k450 x451 h447 [] []) fun x452 h453 _ _=>Ab x391 true h453 (fun k456=>Ae 2 x452 fun x457=>k456 x457 h453 [] []) fun x458 h459 _ _=>Qb h459 x391 x458 r435 w436 r422 w423 r403 w404 ih x433 x29 x28)
def Qf (h414:Hp) (x391 x413 x29:IV) (r403 w404:AD) (ih:Aa) (x28:IV):OH :=
 Ab x391 true h414 (fun k417=>Ah x413 h414 fun x418 r419=>k417 x418 h414 r419 []) fun x420 h421 r422 w423=>Ac [] r422 w423 (Ab x391 true h421 (fun k424=>Bc 3 x420 (.fv (.int .i64 0)) fun x425=>k424 x425 h421 [] []) fun x426 h427 _ _=>Ab x391 true h427 (fun k430=>Ai 3 x426 h427 fun x431 r432=>k430 x431 h427 r432 []) fun x433 h434 r435 w436=>Ac [] r435 w436 (QY h434 x391 x29 r435 w436 r422 w423 r403 w404 ih x433 x28))
def RJ (h388:Hp) (x391 x29:IV) (ih:Aa) (x28:IV):OH :=
 Ab x391 true h388 (fun k392=>Ae 2 x29 fun x393=>k392 x393 h388 [] []) fun x394 h395 _ _=>Ab x391 true h395 (fun k398=>Ah x394 h395 fun x399 r400=>k398 x399 h395 r400 []) fun x401 h402 r403 w404=>Ac [] r403 w404 (Ab x391 true h402 (fun k405=>Bc 3 x401 (.fv (.int .i64 1)) fun x406=>k405 x406 h402 [] []) fun x407 h408 _ _=>Ab x391 true h408 (fun k411=>Ae 2 x407 fun x412=>k411 x412 h408 [] []) fun x413 h414 _ _=>Qf h414 x391 x413 x29 r403 w404 ih x28)
def Sn (h369:Hp) (x352 x368 x29:IV) (ih:Aa) (x28:IV):OH :=
 Ab x352 true h369 (fun k372=>Ae 0 x368 fun x373=>k372 x373 h369 [] []) fun x374 h375 _ _=>Ab x352 true h375 (fun k378=>Ah x374 h375 fun x379 r380=>k378 x379 h375 r380 []) fun x381 h382 r383 w384=>Ac [] r383 w384 (Ab x352 true h382 (fun k385=>A0 EE 3 x381 (.fv (.int .i64 9)) fun x386=>k385 x386 h382 [] []) fun x387 h388 _ _=>AF x352 x387 (.fv (.bool false)) fun x391=>RJ h388 x391 x29 ih x28)
def P7 (x313 x348:IV) (h349:Hp) (x29:IV) (ih:Aa) (x28:IV):OH :=
 AF x313 x348 (.fv (.bool false)) fun x352=>Ab x352 true h349 (fun k353=>Ae 2 x29 fun x354=>k353 x354 h349 [] []) fun x355 h356 _ _=>Ab x352 true h356 (fun k359=>Ah x355 h356 fun x360 r361=>k359 x360 h356 r361 []) fun x362 h363 r364 w365=>Ac [] r364 w365 (Ab x352 true h363 (fun k366=>Bc 3 x362 (.fv (.int .i64 2)) fun x367=>k366 x367 h363 [] []) fun x368 h369 _ _=>Sn h369 x352 x368 x29 ih x28)
def P3 (h324:Hp) (x313 x323 x29:IV) (ih:Aa) (x28:IV):OH :=
 Ab x313 true h324 (fun k327=>Bc 3 x323 (.fv (.int .i64 1)) fun x328=>k327 x328 h324 [] []) fun x329 h330 _ _=>Ab x313 true h330 (fun k333=>Ae 0 x329 fun x334=>k333 x334 h330 [] []) fun x335 h336 _ _=>Ab x313 true h336 (fun k339=>Ah x335 h336 fun x340 r341=>k339 x340 h336 r341 []) fun x342 h343 r344 w345=>Ac [] r344 w345 (Ab x313 true h343 (fun k346=>A0 EE 3 x342 (.fv (.int .i64 8)) fun x347=>k346 x347 h343 [] []) fun x348 h349 _ _=>P7 x313 x348 h349 x29 ih x28)
def Sc (r312:AD) (x311:IV) (h284:Hp) (x29:IV) (ih:Aa) (x28:IV):OH :=
 Ac [] r312 [] (A0 EE 3 x311 (.fv (.int .i64 7)) fun x313=>Ab x313 true h284 (fun k314=>Ae 2 x29 fun x315=>k314 x315 h284 [] []) fun x316 h317 _ _=>Ab x313 true h317 (fun k320=>Ah x316 h317 fun x321 r322=>k320 x321 h317 r322 []) fun x323 h324 r325 w326=>Ac [] r325 w326 (P3 h324 x313 x323 x29 ih x28))
def QH (x230 x283 x29:IV) (h284:Hp) (ih:Aa) (x28 x27:IV):OH :=
 AF x230 x283 (.fv (.bool false)) fun x287=>Al x287 (Ae 2 x29 fun x288=>Ah x288 h284 fun x289 r290=>PH r290 x289 h284 ih x28) (Ae 0 x27 fun x310=>Ah x310 h284 fun x311 r312=>Sc r312 x311 h284 x29 ih x28)
def RM (h266:Hp) (x230 x265:IV) (ih:Aa) (x29 x28 x27:IV):OH :=
 Ab x230 true h266 (fun k269=>Ai 3 x265 h266 fun x270 r271=>k269 x270 h266 r271 []) fun x272 h273 r274 w275=>Ac [] r274 w275 (Ab x230 true h273 (fun k276=>Aj [] false false ih 68 [x272,.fv (.int .i64 0)] h273 k276) fun x277 h278 r279 w280=>Ac [] r279 w280 (Ab x230 true h278 (fun k281=>CJ (KX .not x277) fun x282=>k281 x282 h278 [] []) fun x283 h284 _ _=>QH x230 x283 x29 h284 ih x28 x27))
def SD (h241:Hp) (x230 x240:IV) (ih:Aa) (x29 x28 x27:IV):OH :=
 Ab x230 true h241 (fun k244=>Bc 3 x240 (.fv (.int .i64 1)) fun x245=>k244 x245 h241 [] []) fun x246 h247 _ _=>Ab x230 true h247 (fun k250=>Ae 2 x246 fun x251=>k250 x251 h247 [] []) fun x252 h253 _ _=>Ab x230 true h253 (fun k256=>Ah x252 h253 fun x257 r258=>k256 x257 h253 r258 []) fun x259 h260 r261 w262=>Ac [] r261 w262 (Ab x230 true h260 (fun k263=>Bc 3 x259 (.fv (.int .i64 0)) fun x264=>k263 x264 h260 [] []) fun x265 h266 _ _=>RM h266 x230 x265 ih x29 x28 x27)
def QO (r228 w229:AD) (x174 x226:IV) (h227:Hp) (x29:IV) (ih:Aa) (x28 x27:IV):OH :=
 Ac [] r228 w229 (AF x174 x226 (.fv (.bool false)) fun x230=>Ab x230 true h227 (fun k231=>Ae 2 x29 fun x232=>k231 x232 h227 [] []) fun x233 h234 _ _=>Ab x230 true h234 (fun k237=>Ah x233 h234 fun x238 r239=>k237 x238 h234 r239 []) fun x240 h241 r242 w243=>Ac [] r242 w243 (SD h241 x230 x240 ih x29 x28 x27))
def PL (h210:Hp) (x174 x209:IV) (ih:Aa) (r205 w206 r186 w187:AD) (x29 x28 x27:IV):OH :=
 Ab x174 true h210 (fun k213=>Ai 3 x209 h210 fun x214 r215=>k213 x214 h210 r215 []) fun x216 h217 r218 w219=>Ac [] r218 w219 (Ab x174 true h217 (fun k220=>Aj [] false false ih 34 [.fv (.int .i64 0)] h217 k220) fun x221 h222 r223 w224=>Ac [(r218,w219),(r205,w206),(r186,w187)] r223 w224 (Ab x174 true h222 (fun k225=>Aj [] false false ih 21 [x216,x221] h222 k225) fun x226 h227 r228 w229=>QO r228 w229 x174 x226 h227 x29 ih x28 x27))
def PC (h185:Hp) (x174 x184:IV) (ih:Aa) (r186 w187:AD) (x29 x28 x27:IV):OH :=
 Ab x174 true h185 (fun k188=>Bc 3 x184 (.fv (.int .i64 1)) fun x189=>k188 x189 h185 [] []) fun x190 h191 _ _=>Ab x174 true h191 (fun k194=>Ae 2 x190 fun x195=>k194 x195 h191 [] []) fun x196 h197 _ _=>Ab x174 true h197 (fun k200=>Ah x196 h197 fun x201 r202=>k200 x201 h197 r202 []) fun x203 h204 r205 w206=>Ac [] r205 w206 (Ab x174 true h204 (fun k207=>Bc 3 x203 (.fv (.int .i64 1)) fun x208=>k207 x208 h204 [] []) fun x209 h210 _ _=>PL h210 x174 x209 ih r205 w206 r186 w187 x29 x28 x27)
def Sb (h165:Hp) (x135 x164 x29:IV) (ih:Aa) (x28 x27:IV):OH :=
 Ab x135 true h165 (fun k168=>A0 EE 3 x164 (.fv (.int .i64 5)) fun x169=>k168 x169 h165 [] []) fun x170 h171 _ _=>AF x135 x170 (.fv (.bool false)) fun x174=>Ab x174 true h171 (fun k175=>Ae 2 x29 fun x176=>k175 x176 h171 [] []) fun x177 h178 _ _=>Ab x174 true h178 (fun k181=>Ah x177 h178 fun x182 r183=>k181 x182 h178 r183 []) fun x184 h185 r186 w187=>Ac [] r186 w187 (PC h185 x174 x184 ih r186 w187 x29 x28 x27)
def PZ (r147 w148:AD) (h146:Hp) (x135 x145 x29:IV) (ih:Aa) (x28 x27:IV):OH :=
 Ac [] r147 w148 (Ab x135 true h146 (fun k149=>Bc 3 x145 (.fv (.int .i64 1)) fun x150=>k149 x150 h146 [] []) fun x151 h152 _ _=>Ab x135 true h152 (fun k155=>Ae 0 x151 fun x156=>k155 x156 h152 [] []) fun x157 h158 _ _=>Ab x135 true h158 (fun k161=>Ah x157 h158 fun x162 r163=>k161 x162 h158 r163 []) fun x164 h165 r166 w167=>Ac [] r166 w167 (Sb h165 x135 x164 x29 ih x28 x27))
def Tn (h26:Hp) (x132 x29:IV) (ih:Aa) (x28 x27:IV):OH :=
 Ah x132 h26 fun x133 r134=>Ac [] r134 [] (A0 EE 3 x133 (.fv (.int .i64 4)) fun x135=>Ab x135 true h26 (fun k136=>Ae 2 x29 fun x137=>k136 x137 h26 [] []) fun x138 h139 _ _=>Ab x135 true h139 (fun k142=>Ah x138 h139 fun x143 r144=>k142 x143 h139 r144 []) fun x145 h146 r147 w148=>PZ r147 w148 h146 x135 x145 x29 ih x28 x27)
def Q7 (h26:Hp) (x31 x30 x27:IV) (ih:Aa) (x29:IV) (h1:Hp) (x28:IV) (q24:List IV→Hp→OH):OH :=
 Ah x31 h26 fun x32 _=>Cf x32 fun x34=>Hm EE 3 x30 x34 fun x35=>Al x35 (Ae 2 x27 fun x36=>Tp h26 x36 x30 ih x29 h1 x27 x28 q24) (Ae 0 x27 fun x132=>Tn h26 x132 x29 ih x28 x27)
def IM (l25:List IV) (h26:Hp) (ih:Aa) (h1:Hp) (q24:List IV→Hp→OH):OH :=
 AH l25 fun x27 l508=>AH l508 fun x28 l509=>AH l509 fun x29 l510=>AH l510 fun x30 _=>Ae 2 x27 fun x31=>Q7 h26 x31 x30 x27 ih x29 h1 x28 q24
def PF (x11 x14:IV) (h7 h1:Hp) (x2 x6:IV) (n:Nat) (ih:Aa):OH :=
 Bz [.fv (.int .i64 0),.fv (.int .i64 0),.nils] [(0,1,x11),(1,1,x14)] fun x16=>AM 48235525 (.row [.fv (.int .i64 0),.fv (.int .i64 0),.nils] false) (.ptr (.own 48235525) 0) h7 fun x17 h18 _ _=>Ak 3 x17 x16 h18 fun h21 _ _=>BB (h1.own.map (·.1)) [48239622,48242692] [x2,x6,x17,.fv (.int .i64 0)] h21 fun h512=>BQ n (fun q24 l25 h26=>IM l25 h26 ih h1 q24) [x2,x6,x17,.fv (.int .i64 0)] h512
def S46 (ih:Aa) (n:Nat) (x0:IV) (h1:Hp):OH :=
 Bh 48234496 x0 h1 fun x2 h3 _ _=>AM 48234497 (.row [.fv (.int .i64 0),.fv (.int .i64 0),.nils] false) (.ptr (.own 48234497) 0) h3 fun x6 h7 _ _=>Ae 0 x2 fun x10=>Ah x10 h7 fun x11 _=>Ae 1 x2 fun x13=>Ah x13 h7 fun x14 _=>PF x11 x14 h7 h1 x2 x6 n ih
theorem Ak6 (ih:Aa) (n:Nat) (x0:IV) (h1:Hp):AI EE ih ft.get n 46 [x0] h1=S46 ih n x0 h1:=by kernel_rfl
def NI (x12 x43 x13:IV) (q7:List IV→Hp→OH) (h44:Hp) (x10 x11:IV):OH :=
 BH EE 3 x12 x43 fun x47=>BH EE 3 x13 (.fv (.int .i64 1)) fun x48=>q7 [x10,x11,x47,x48] h44
def MO (h32:Hp) (x36 x13 x10 x12:IV) (ih:Aa) (q7:List IV→Hp→OH) (x11:IV):OH :=
 Ah x36 h32 fun x37 _=>Bc 3 x37 x13 fun x39=>Ai 3 x39 h32 fun x40 _=>A9 EE 3 x10 x12 fun x42=>Aj [] false false ih 47 [x40,x42] h32 fun x43 h44 _ _=>NI x12 x43 x13 q7 h44 x10 x11
def MG (h26:Hp) (x18 x20 x25 x11 x13 x10 x12:IV) (ih:Aa) (q7:List IV→Hp→OH):OH :=
 Ab x18 true h26 (fun k29=>Hm EE 3 x20 x25 fun x30=>k29 x30 h26 [] []) fun x31 h32 _ _=>AF x18 x31 (.fv (.bool false)) fun x35=>Al x35 (Ae 2 x11 fun x36=>MO h32 x36 x13 x10 x12 ih q7 x11) (Ap [x12] h32)
def MZ (h9:Hp) (x14 x13 x12 x10 x11:IV) (ih:Aa) (q7:List IV→Hp→OH):OH :=
 Ah x14 h9 fun x15 _=>Cf x15 fun x17=>Hm EE 3 x13 x17 fun x18=>Ab x18 true h9 (fun k19=>k19 x12 h9 [] []) fun x20 h21 _ _=>Ab x18 true h21 (fun k24=>k24 x10 h21 [] []) fun x25 h26 _ _=>MG h26 x18 x20 x25 x11 x13 x10 x12 ih q7
def RI (l8:List IV) (h9:Hp) (ih:Aa) (q7:List IV→Hp→OH):OH :=
 AH l8 fun x10 l49=>AH l49 fun x11 l50=>AH l50 fun x12 l51=>AH l51 fun x13 _=>Ae 2 x11 fun x14=>MZ h9 x14 x13 x12 x10 x11 ih q7
def S47 (ih:Aa) (n:Nat) (x0 x1:IV) (h2:Hp):OH :=
 Bh 49283072 x0 h2 fun x3 h4 _ _=>BQ n (fun q7 l8 h9=>RI l8 h9 ih q7) [x1,x3,.fv (.int .i64 1),.fv (.int .i64 0)] h4
theorem Akh (ih:Aa) (n:Nat) (x0 x1:IV) (h2:Hp):AI EE ih ft.get n 47 [x0,x1] h2=S47 ih n x0 x1 h2:=by kernel_rfl
def Ez (h20:Hp) (x5:IV):OH :=
 Bz [.fv (.int .i64 0),.fv (.int .i64 0),.nils] [] fun x26=>Ak 3 x5 x26 h20 fun h27 _ _=>AK true 3 x5 h27 fun x30=>Ap [x30] h27
def Ey (ih:Aa) (h20:Hp) (x41 x5:IV):OH :=
 Aj [] false false ih 34 [x41] h20 fun x42 h43 _ _=>Ak 3 x5 x42 h43 fun h46 _ _=>AK true 3 x5 h46 fun x49=>Ap [x49] h46
def EA (x2 x1:IV) (h20:Hp) (ih:Aa) (x5:IV):OH :=
 A9 EE 3 x2 (.fv (.int .i64 1)) fun x36=>AG x1 fun x37=>Ae 1 x37 fun x38=>Ah x38 h20 fun x39 _=>A9 EE 3 x36 x39 fun x41=>Ey ih h20 x41 x5
def El (h4 h126:Hp) (x98 x99 x100 x101 x102 x103 x129:IV) (q66:List IV→Hp→OH):OH :=
 BB (h4.own.map (·.1)) [50351109,50353163] [x98,x99,x100,x101,x102,x103,x129] h126 fun h130=>q66 [x98,x99,x100,x101,x102,x103,x129] h130
def ED (r123 w124:AD) (x103:IV) (h122:Hp) (x121 x104:IV) (h4:Hp) (x98 x99 x100 x101 x102:IV) (q66:List IV→Hp→OH):OH :=
 Ac [] r123 w124 (Ae 2 x103 fun x125=>Bt x125 x121 h122 fun h126 r127 w128=>Ac [] r127 w128 (BH EE 3 x104 (.fv (.int .i64 1)) fun x129=>El h4 h126 x98 x99 x100 x101 x102 x103 x129 q66))
def En (ih:Aa) (h107:Hp) (x98 x106 x111 x112:IV) (r110:AD) (x109 x103 x104:IV) (h4:Hp) (x99 x100 x101 x102:IV) (q66:List IV→Hp→OH):OH :=
 Aj [true,false,false,false] false false ih 48 [x98,x106,x111,x112] h107 fun x113 h114 r115 w116=>Ac [(r110,[])] r115 w116 (Aw (Ag EE 29 1 [(0,x113)]) 50353162 h114 fun x117 h118 r119 w120=>Ac [(r110,[])] r119 w120 (Aw (AT EE 50353163 false .append [29,29] [x109,x117]) 50353163 h118 fun x121 h122 r123 w124=>ED r123 w124 x103 h122 x121 x104 h4 x98 x99 x100 x101 x102 q66))
def GV (x103:IV) (h107:Hp) (x100 x105 x101:IV) (ih:Aa) (x98 x106 x104:IV) (h4:Hp) (x99 x102:IV) (q66:List IV→Hp→OH):OH :=
 Ae 2 x103 fun x108=>Ah x108 h107 fun x109 r110=>Ac [] r110 [] (BH EE 3 x100 x105 fun x111=>BH EE 3 x101 (.fv (.int .i64 1)) fun x112=>En ih h107 x98 x106 x111 x112 r110 x109 x103 x104 h4 x99 x100 x101 x102 q66)
def Eu (h4 h162:Hp) (x139 x140 x141 x142 x143 x144 x145 x146 x147 x161 x165:IV) (q136:List IV→Hp→OH):OH :=
 BB (h4.own.map (·.1)) [50351109] [x139,x140,x141,x142,x143,x144,x145,x146,x147,x161,x165] h162 fun h166=>q136 [x139,x140,x141,x142,x143,x144,x145,x146,x147,x161,x165] h166
def EK (x151:IV) (h138:Hp) (ih:Aa) (x148 x149:IV) (h4:Hp) (x139 x140 x141 x142 x143 x144 x145 x146 x147:IV) (q136:List IV→Hp→OH):OH :=
 Bz [.fv (.int .i64 0),.fv (.int .i64 0),.nils,.nils,.fv (.int .i64 0),.fv (.int .i64 0),.nils] [(0,1,.fv (.int .i64 1)),(1,1,x151)] fun x152=>fzS (Kw true 50351109 x152) 50351109 x152 h138 fun x153 h154 _ _=>Aw (Ag EE 93 1 [(0,x153)]) 50351110 h154 fun x157 h158 _ _=>Aj [] false false ih 69 [x148,x157] h158 fun x161 h162 _ _=>BH EE 3 x149 (.fv (.int .i64 1)) fun x165=>Eu h4 h162 x139 x140 x141 x142 x143 x144 x145 x146 x147 x161 x165 q136
def EM (x167:IV) (h138:Hp) (ih:Aa) (x139 x148:IV) (j9_97:IV→IV→IV→IV→IV→IV→IV→IV→IV→Hp→OH) (x140 x141 x142 x143 x144 x145 x146:IV):OH :=
 Ae 4 x167 fun x168=>Ai 3 x168 h138 fun x169 _=>Aj [true,false,false] false false ih 49 [x139,x169,x148] h138 fun x171 h172 _ _=>j9_97 x139 x140 x141 x142 x143 x144 x145 x146 x171 h172
def Ew (l184:List IV) (x146 x141:IV) (h138:Hp) (ih:Aa) (x148:IV) (h4:Hp) (x139 x140 x142 x143 x144 x145 x147:IV) (q136:List IV→Hp→OH) (j9_97:IV→IV→IV→IV→IV→IV→IV→IV→IV→Hp→OH):OH :=
 AH l184 fun x149 _=>Hm EE 3 x149 x146 fun x150=>Al x150 (BH EE 3 x141 x149 fun x151=>EK x151 h138 ih x148 x149 h4 x139 x140 x141 x142 x143 x144 x145 x146 x147 q136) (AG x147 fun x167=>EM x167 h138 ih x139 x148 j9_97 x140 x141 x142 x143 x144 x145 x146)
def EJ (l179:List IV) (x141:IV) (h138:Hp) (ih:Aa) (h4:Hp) (x139 x140 x142 x143:IV) (q136:List IV→Hp→OH) (j9_97:IV→IV→IV→IV→IV→IV→IV→IV→IV→Hp→OH):OH :=
 AH l179 fun x144 l180=>AH l180 fun x145 l181=>AH l181 fun x146 l182=>AH l182 fun x147 l183=>AH l183 fun x148 l184=>Ew l184 x146 x141 h138 ih x148 h4 x139 x140 x142 x143 x144 x145 x147 q136 j9_97
def Hd (l137:List IV) (h138:Hp) (ih:Aa) (h4:Hp) (q136:List IV→Hp→OH) (j9_97:IV→IV→IV→IV→IV→IV→IV→IV→IV→Hp→OH):OH :=
 AH l137 fun x139 l175=>AH l175 fun x140 l176=>AH l176 fun x141 l177=>AH l177 fun x142 l178=>AH l178 fun x143 l179=>EJ l179 x141 h138 ih h4 x139 x140 x142 x143 q136 j9_97
def Eo (h87:Hp) (x133:IV) (h4:Hp) (x69 x70 x71 x72 x73 x74 x75 x86 x95:IV) (n:Nat) (ih:Aa) (j9_97:IV→IV→IV→IV→IV→IV→IV→IV→IV→Hp→OH):OH :=
 Ah x133 h87 fun x134 _=>BB (h4.own.map (·.1)) [50351109] [x69,x70,x71,x72,x73,x74,x75,x86,x95,x134,.fv (.int .i64 0)] h87 fun h186=>BQ n (fun q136 l137 h138=>Hd l137 h138 ih h4 q136 j9_97) [x69,x70,x71,x72,x73,x74,x75,x86,x95,x134,.fv (.int .i64 0)] h186
def Eg (x131 x95:IV) (h87 h4:Hp) (x69 x70 x71 x72 x73 x74 x75 x86:IV) (n:Nat) (ih:Aa) (j9_97:IV→IV→IV→IV→IV→IV→IV→IV→IV→Hp→OH):OH :=
 Al x131 (AG x95 fun x132=>Ae 3 x132 fun x133=>Eo h87 x133 h4 x69 x70 x71 x72 x73 x74 x75 x86 x95 n ih j9_97) (j9_97 x69 x70 x71 x72 x73 x74 x75 x86 x95 h87)
def EI (h87:Hp) (x91 x75:IV) (ih:Aa) (h4:Hp) (q66:List IV→Hp→OH) (x86 x69 x70 x71 x72 x73 x74:IV) (n:Nat):OH :=
 Ah x91 h87 fun x92 _=>Bc 1 x92 x75 fun x94=>Ah x94 h87 fun x95 _=>(fun (j9_97:IV→IV→IV→IV→IV→IV→IV→IV→IV→Hp→OH)=>KY EE 3 x86 (.fv (.int .i64 0)) fun x131=>Eg x131 x95 h87 h4 x69 x70 x71 x72 x73 x74 x75 x86 n ih j9_97) fun x98 x99 x100 x101 x102 x103 x104 x105 x106 h107=>GV x103 h107 x100 x105 x101 ih x98 x106 x104 h4 x99 x102 q66
def Em (x82:IV) (h68:Hp) (ih:Aa) (x75 x70:IV) (h4:Hp) (q66:List IV→Hp→OH) (x69 x71 x72 x73 x74:IV) (n:Nat):OH :=
 Ae 0 x82 fun x83=>Ah x83 h68 fun x84 _=>Aj [] false false ih 63 [x84,x75] h68 fun x86 h87 _ _=>AG x70 fun x90=>Ae 2 x90 fun x91=>EI h87 x91 x75 ih h4 q66 x86 x69 x70 x71 x72 x73 x74 n
def EG (h68:Hp) (x73 x187:IV):OH :=
 Ak 3 x73 x187 h68 fun h189 _ _=>AK true 3 x73 h189 fun x192=>Ap [x192] h189
def EC (x78 x75 x70:IV) (h68:Hp) (ih:Aa) (h4:Hp) (q66:List IV→Hp→OH) (x69 x71 x72 x73 x74:IV) (n:Nat):OH :=
 Cf x78 fun x80=>Hm EE 3 x75 x80 fun x81=>Al x81 (AG x70 fun x82=>Em x82 h68 ih x75 x70 h4 q66 x69 x71 x72 x73 x74 n) (Ai 3 x74 h68 fun x187 _=>EG h68 x73 x187)
def Ei (l197:List IV) (x70:IV) (h68:Hp) (ih:Aa) (h4:Hp) (q66:List IV→Hp→OH) (x69 x71 x72 x73:IV) (n:Nat):OH :=
 AH l197 fun x74 l198=>AH l198 fun x75 _=>AG x70 fun x76=>Ae 2 x76 fun x77=>Ah x77 h68 fun x78 _=>EC x78 x75 x70 h68 ih h4 q66 x69 x71 x72 x73 x74 n
def E4 (l67:List IV) (h68:Hp) (ih:Aa) (h4:Hp) (q66:List IV→Hp→OH) (n:Nat):OH :=
 AH l67 fun x69 l193=>AH l193 fun x70 l194=>AH l194 fun x71 l195=>AH l195 fun x72 l196=>AH l196 fun x73 l197=>Ei l197 x70 h68 ih h4 q66 x69 x71 x72 x73 n
def EH (r61 w62 r57 r53:AD) (h60:Hp) (x59 x58:IV) (h4:Hp) (x0 x1 x2 x3 x5:IV) (n:Nat) (ih:Aa):OH :=
 Ac [(r57,[]),(r53,[])] r61 w62 (Ak 3 x59 x58 h60 fun h63 r64 w65=>Ac [] r64 w65 (BB (h4.own.map (·.1)) [50351109,50353163] [x0,x1,x2,x3,x5,x59,.fv (.int .i64 0)] h63 fun h200=>BQ n (fun q66 l67 h68=>E4 l67 h68 ih h4 q66 n) [x0,x1,x2,x3,x5,x59,.fv (.int .i64 0)] h200))
def Et (x54:IV) (h20:Hp) (r53:AD) (x52:IV) (h4:Hp) (x0 x1 x2 x3 x5:IV) (n:Nat) (ih:Aa):OH :=
 Ae 1 x54 fun x55=>Ah x55 h20 fun x56 r57=>Ac [(r53,[])] r57 [] (Bz [.fv (.int .i64 0),.fv (.int .i64 0),.nils] [(0,1,x52),(1,1,x56)] fun x58=>AM 50339849 (.row [.fv (.int .i64 0),.fv (.int .i64 0),.nils] false) (.ptr (.own 50339849) 0) h20 fun x59 h60 r61 w62=>EH r61 w62 r57 r53 h60 x59 x58 h4 x0 x1 x2 x3 x5 n ih)
def EF (x1:IV) (h20 h4:Hp) (x0 x2 x3 x5:IV) (n:Nat) (ih:Aa):OH :=
 AG x1 fun x50=>Ae 0 x50 fun x51=>Ah x51 h20 fun x52 r53=>Ac [] r53 [] (AG x1 fun x54=>Et x54 h20 r53 x52 h4 x0 x1 x2 x3 x5 n ih)
def Ep (x1:IV) (h20:Hp) (x2:IV) (ih:Aa) (x5:IV) (h4:Hp) (x0 x3:IV) (n:Nat):OH :=
 AG x1 fun x31=>Ae 0 x31 fun x32=>Ah x32 h20 fun x33 _=>A0 EE 3 x33 (.fv (.int .i64 1)) fun x35=>Al x35 (EA x2 x1 h20 ih x5) (EF x1 h20 h4 x0 x2 x3 x5 n ih)
def EL (x0:IV) (h20:Hp) (x5 x1 x2:IV) (ih:Aa) (h4:Hp) (x3:IV) (n:Nat):OH :=
 AG x0 fun x21=>Ae 2 x21 fun x22=>Ah x22 h20 fun x23 _=>I1 EE 3 x23 (.fv (.int .i64 0)) fun x25=>Al x25 (Ez h20 x5) (Ep x1 h20 x2 ih x5 h4 x0 x3 n)
def Ej (x259:IV) (h255:Hp) (j0_19:Hp→OH):OH :=
 Ae 2 x259 fun x260=>Bt x260 (.fv (.int .i64 5)) h255 fun h261 _ _=>j0_19 h261
def Ek (h249:Hp) (x205 x237 x248 x0:IV) (j0_19:Hp→OH):OH :=
 Ab x205 true h249 (fun k252=>AF x237 (.fv (.bool true)) x248 fun x253=>k252 x253 h249 [] []) fun x254 h255 _ _=>AF x205 x254 (.fv (.bool false)) fun x258=>Al x258 (AG x0 fun x259=>Ej x259 h255 j0_19) (j0_19 h255)
def Es (h220:Hp) (x205 x219 x3 x0:IV) (j0_19:Hp→OH):OH :=
 Ab x205 true h220 (fun k223=>Ah x219 h220 fun x224 r225=>k223 x224 h220 r225 []) fun x226 h227 _ _=>Ab x205 true h227 (fun k230=>KY EE 3 x226 (.fv (.int .i64 3000)) fun x231=>k230 x231 h227 [] []) fun x232 h233 _ _=>Ab x205 true h233 (fun k236=>k236 x232 h233 [] []) fun x237 h238 _ _=>Ab x237 false h238 (fun k241=>k241 x3 h238 [] []) fun x242 h243 _ _=>Ab x237 false h243 (fun k246=>KY EE 3 x242 (.fv (.int .i64 120)) fun x247=>k246 x247 h243 [] []) fun x248 h249 _ _=>Ek h249 x205 x237 x248 x0 j0_19
def EB (h16:Hp) (x202 x0 x3:IV) (j0_19:Hp→OH):OH :=
 Ah x202 h16 fun x203 _=>A0 EE 3 x203 (.fv (.int .i64 0)) fun x205=>Ab x205 true h16 (fun k206=>k206 x0 h16 [] []) fun x207 h208 _ _=>Ab x205 true h208 (fun k211=>AG x207 fun x212=>k211 x212 h208 [] []) fun x213 h214 _ _=>Ab x205 true h214 (fun k217=>Ae 1 x213 fun x218=>k217 x218 h214 [] []) fun x219 h220 _ _=>Es h220 x205 x219 x3 x0 j0_19
def Eh (x14:IV) (h6:Hp) (x13 x0 x5 x1 x2:IV) (ih:Aa) (h4:Hp) (x3:IV) (n:Nat):OH :=
 Ae 1 x14 fun x15=>Bt x15 x13 h6 fun h16 _ _=>(fun (j0_19:Hp→OH)=>AG x0 fun x201=>Ae 2 x201 fun x202=>EB h16 x202 x0 x3 j0_19) fun h20=>EL x0 h20 x5 x1 x2 ih h4 x3 n
def S48 (ih:Aa) (n:Nat) (x0 x1 x2 x3:IV) (h4:Hp):OH :=
 AM 50331648 (.row [.fv (.int .i64 0),.fv (.int .i64 0),.nils] false) (.ptr (.own 50331648) 0) h4 fun x5 h6 _ _=>AG x0 fun x9=>Ae 1 x9 fun x10=>Ah x10 h6 fun x11 _=>BH EE 3 x11 (.fv (.int .i64 1)) fun x13=>AG x0 fun x14=>Eh x14 h6 x13 x0 x5 x1 x2 ih h4 x3 n
theorem AkO (ih:Aa) (n:Nat) (x0 x1 x2 x3:IV) (h4:Hp):AI EE ih ft.get n 48 [x0,x1,x2,x3] h4=S48 ih n x0 x1 x2 x3 h4:=by kernel_rfl
def Ih (h5:Hp):OH :=
 Bz [.fv (.int .i64 0),.fv (.int .i64 0),.nils,.nils,.fv (.int .i64 0),.fv (.int .i64 0),.nils] [(0,1,.fv (.int .i64 11))] fun x13=>Bh 51382273 x13 h5 fun x14 h15 _ _=>Ap [x14] h15
def H9 (h5:Hp) (x33:IV):OH :=
 Ah x33 h5 fun x34 _=>Ap [x34] h5
def IW (x27 x4:IV) (h5:Hp) (x2:IV):OH :=
 A9 EE 3 x27 (.fv (.int .i64 1)) fun x28=>Ae 1 x4 fun x29=>Ah x29 h5 fun x30 _=>A9 EE 3 x28 x30 fun x32=>Bc 1 x2 x32 fun x33=>H9 h5 x33
def H5 (h5:Hp) (x42:IV):OH :=
 Bh 51386375 x42 h5 fun x43 h44 _ _=>Ap [x43] h44
def Il (x36 x4:IV) (h5:Hp):OH :=
 A9 EE 3 x36 (.fv (.int .i64 1)) fun x37=>Ae 1 x4 fun x38=>Ah x38 h5 fun x39 _=>A9 EE 3 x37 x39 fun x41=>Bz [.fv (.int .i64 0),.fv (.int .i64 0),.nils,.nils,.fv (.int .i64 0),.fv (.int .i64 0),.nils] [(0,1,.fv (.int .i64 1)),(1,1,x41)] fun x42=>H5 h5 x42
def IF (h5:Hp) (x22 x2 x4:IV):OH :=
 Ah x22 h5 fun x23 _=>Cf x2 fun x25=>Hm EE 3 x23 x25 fun x26=>Al x26 (Cf x2 fun x27=>IW x27 x4 h5 x2) (Cf x2 fun x36=>Il x36 x4 h5)
def Is (x65:IV) (h3 h72:Hp) (x61 x62 x63 x64:IV) (q58:List IV→Hp→OH):OH :=
 BH EE 3 x65 (.fv (.int .i64 1)) fun x73=>BB (h3.own.map (·.1)) [51392524,51392526,51393550] [x61,x62,x63,x64,x73] h72 fun h74=>q58 [x61,x62,x63,x64,x73] h74
def IA (x64:IV) (h103:Hp) (x102:IV) (j0_71:Hp→OH):OH :=
 AG x64 fun x106=>Ae 2 x106 fun x107=>Bt x107 x102 h103 fun h108 r109 w110=>Ac [] r109 w110 (j0_71 h108)
def IZ (r96 w97 r86:AD) (h95:Hp) (x94 x85 x64:IV) (j0_71:Hp→OH):OH :=
 Ac [(r86,[])] r96 w97 (Aw (Ag EE 93 1 [(0,x94)]) 51392525 h95 fun x98 h99 r100 w101=>Ac [(r86,[])] r100 w101 (Aw (AT EE 51392526 false .append [93,93] [x85,x98]) 51392526 h99 fun x102 h103 r104 w105=>Ac [] r104 w105 (IA x64 h103 x102 j0_71)))
def Ig (x88 x65:IV) (h79:Hp) (r86:AD) (x62 x85 x64:IV) (j0_71:Hp→OH):OH :=
 Bc 3 x88 x65 fun x90=>Ai 3 x90 h79 fun x91 r92=>Ac [(r86,[])] r92 [] (Bz [.fv (.int .i64 0),.fv (.int .i64 0),.nils,.nils,.fv (.int .i64 0),.fv (.int .i64 0),.nils] [(3,1,x62),(4,3,x91)] fun x93=>Bh 51392524 x93 h79 fun x94 h95 r96 w97=>IZ r96 w97 r86 h95 x94 x85 x64 j0_71)
def IG (h79:Hp) (x84 x63 x65 x62 x64:IV) (j0_71:Hp→OH):OH :=
 Ah x84 h79 fun x85 r86=>Ac [] r86 [] (Ae 2 x63 fun x87=>Ah x87 h79 fun x88 r89=>Ac [(r86,[])] r89 [] (Ig x88 x65 h79 r86 x62 x85 x64 j0_71))
def IT (x133:IV) (h130:Hp) (x129:IV) (j0_71:Hp→OH):OH :=
 Ae 2 x133 fun x134=>Bt x134 x129 h130 fun h135 r136 w137=>Ac [] r136 w137 (j0_71 h135)
def IY (h122:Hp) (x121:IV) (r114:AD) (x113 x64:IV) (j0_71:Hp→OH):OH :=
 Aw (Ag EE 93 1 [(0,x121)]) 51393549 h122 fun x125 h126 r127 w128=>Ac [(r114,[])] r127 w128 (Aw (AT EE 51393550 false .append [93,93] [x113,x125]) 51393550 h126 fun x129 h130 r131 w132=>Ac [] r131 w132 (AG x64 fun x133=>IT x133 h130 x129 j0_71))
def Iz (x116 x65:IV) (h79:Hp) (r114:AD) (ih:Aa) (x61 x62 x113 x64:IV) (j0_71:Hp→OH):OH :=
 Bc 3 x116 x65 fun x118=>Ai 3 x118 h79 fun x119 r120=>Ac [(r114,[])] r120 [] (Aj [true,false,false] false false ih 49 [x61,x119,x62] h79 fun x121 h122 r123 w124=>Ac [(r114,[])] r123 w124 (IY h122 x121 r114 x113 x64 j0_71))
def II (h79:Hp) (x112 x63 x65:IV) (ih:Aa) (x61 x62 x64:IV) (j0_71:Hp→OH):OH :=
 Ah x112 h79 fun x113 r114=>Ac [] r114 [] (Ae 2 x63 fun x115=>Ah x115 h79 fun x116 r117=>Ac [(r114,[])] r117 [] (Iz x116 x65 h79 r114 ih x61 x62 x113 x64 j0_71))
def H1 (x82 x64:IV) (h79:Hp) (x63 x65 x62:IV) (j0_71:Hp→OH) (ih:Aa) (x61:IV):OH :=
 Al x82 (AG x64 fun x83=>Ae 2 x83 fun x84=>IG h79 x84 x63 x65 x62 x64 j0_71) (AG x64 fun x111=>Ae 2 x111 fun x112=>II h79 x112 x63 x65 ih x61 x62 x64 j0_71)
def I0 (x65:IV) (h3:Hp) (x61 x62 x63 x64:IV) (q58:List IV→Hp→OH) (h60:Hp) (ih:Aa):OH :=
 (fun (j0_71:Hp→OH)=>Ae 0 x63 fun x75=>Ah x75 h60 fun x76 _=>Aj [] false false ih 63 [x76,x65] h60 fun x78 h79 _ _=>KY EE 3 x78 (.fv (.int .i64 0)) fun x82=>H1 x82 x64 h79 x63 x65 x62 j0_71 ih x61) fun h72=>Is x65 h3 h72 x61 x62 x63 x64 q58
def Ir (ih:Aa) (h60:Hp) (x61 x64:IV):OH :=
 Aj [true,false] false false ih 70 [x61,x64] h60 fun x138 h139 _ _=>Ap [x138] h139
def If (x63:IV) (h60:Hp) (x65:IV) (h3:Hp) (x61 x62 x64:IV) (q58:List IV→Hp→OH) (ih:Aa):OH :=
 Ae 2 x63 fun x66=>Ah x66 h60 fun x67 _=>Cf x67 fun x69=>Hm EE 3 x65 x69 fun x70=>Al x70 (I0 x65 h3 x61 x62 x63 x64 q58 h60 ih) (Ir ih h60 x61 x64)
def YS (l59:List IV) (h60 h3:Hp) (q58:List IV→Hp→OH) (ih:Aa):OH :=
 AH l59 fun x61 l142=>AH l142 fun x62 l143=>AH l143 fun x63 l144=>AH l144 fun x64 l145=>AH l145 fun x65 _=>If x63 h60 x65 h3 x61 x62 x64 q58 ih
def Ix (h3 h55:Hp) (x0 x2 x4 x54:IV) (n:Nat) (ih:Aa):OH :=
 BB (h3.own.map (·.1)) [51392524,51392526,51393550] [x0,x2,x4,x54,.fv (.int .i64 0)] h55 fun h147=>BQ n (fun q58 l59 h60=>YS l59 h60 h3 q58 ih) [x0,x2,x4,x54,.fv (.int .i64 0)] h147
def Ie (h5:Hp) (x47 x4:IV) (h3:Hp) (x0 x2:IV) (n:Nat) (ih:Aa):OH :=
 Ah x47 h5 fun x48 _=>Ae 1 x4 fun x50=>Ah x50 h5 fun x51 _=>Bz [.fv (.int .i64 0),.fv (.int .i64 0),.nils,.nils,.fv (.int .i64 0),.fv (.int .i64 0),.nils] [(0,1,x48),(1,1,x51)] fun x53=>Bh 51387397 x53 h5 fun x54 h55 _ _=>Ix h3 h55 x0 x2 x4 x54 n ih
def IU (x4:IV) (h5:Hp) (x2:IV) (h3:Hp) (x0:IV) (n:Nat) (ih:Aa):OH :=
 Ae 0 x4 fun x18=>Ah x18 h5 fun x19 _=>A0 EE 3 x19 (.fv (.int .i64 1)) fun x21=>Al x21 (Ae 1 x4 fun x22=>IF h5 x22 x2 x4) (Ae 0 x4 fun x47=>Ie h5 x47 x4 h3 x0 x2 n ih)
def S49 (ih:Aa) (n:Nat) (x0 x1 x2:IV) (h3:Hp):OH :=
 Bh 51380224 x1 h3 fun x4 h5 _ _=>AG x0 fun x8=>Ae 2 x8 fun x9=>Ah x9 h5 fun x10 _=>I1 EE 3 x10 (.fv (.int .i64 0)) fun x12=>Al x12 (Ih h5) (IU x4 h5 x2 h3 x0 n ih)
theorem Amq (ih:Aa) (n:Nat) (x0 x1 x2:IV) (h3:Hp):AI EE ih ft.get n 49 [x0,x1,x2] h3=S49 ih n x0 x1 x2 h3:=by kernel_rfl
def KU (h1 h119:Hp) (x102 x103 x123:IV) (q99:List IV→Hp→OH):OH :=
 BB (h1.own.map (·.1)) [52434946] [x102,x103,x123] h119 fun h124=>q99 [x102,x103,x123] h124
def Kd (ih:Aa) (h113:Hp) (x116 x104:IV) (h1:Hp) (x102 x103:IV) (q99:List IV→Hp→OH):OH :=
 Aj [] false false ih 50 [x116] h113 fun x118 h119 _ _=>CJ (KX .not x118) fun x122=>Al x122 (Ap [.fv (.bool false)] h119) (BH EE 3 x104 (.fv (.int .i64 1)) fun x123=>KU h1 h119 x102 x103 x123 q99)
def Kq (x102 x104:IV) (h101:Hp) (ih:Aa) (h1:Hp) (x103:IV) (q99:List IV→Hp→OH):OH :=
 Bc 3 x102 x104 fun x106=>Ai 3 x106 h101 fun x107 _=>AM 52434946 (.row [.fv (.int .i64 0),.fv (.int .i64 0),.nils] false) (.ptr (.own 52434946) 0) h101 fun x109 h110 _ _=>Ak 3 x109 x107 h110 fun h113 _ _=>Ai 3 x109 h113 fun x116 _=>Kd ih h113 x116 x104 h1 x102 x103 q99
def JI (l100:List IV) (h101:Hp) (ih:Aa) (h1:Hp) (q99:List IV→Hp→OH):OH :=
 AH l100 fun x102 l125=>AH l125 fun x103 l126=>AH l126 fun x104 _=>Hm EE 3 x104 x103 fun x105=>Al x105 (Kq x102 x104 h101 ih h1 x103 q99) (Ap [.fv (.bool true)] h101)
def JZ (x2:IV) (h91 h1:Hp) (n:Nat) (ih:Aa):OH :=
 Ae 2 x2 fun x95=>Ah x95 h91 fun x96 _=>Cf x96 fun x98=>BB (h1.own.map (·.1)) [52434946] [x96,x98,.fv (.int .i64 0)] h91 fun h128=>BQ n (fun q99 l100 h101=>JI l100 h101 ih h1 q99) [x96,x98,.fv (.int .i64 0)] h128
def J0 (h72:Hp) (x65 x71 x44 x2:IV) (h1:Hp) (n:Nat) (ih:Aa):OH :=
 Ab x65 true h72 (fun k75=>Ah x71 h72 fun x76 r77=>k75 x76 h72 r77 []) fun x78 h79 _ _=>Ab x65 true h79 (fun k82=>Hm EE 3 x78 (.fv (.int .i64 0)) fun x83=>k82 x83 h79 [] []) fun x84 h85 _ _=>Ab x44 false h85 (fun k88=>AF x65 x84 (.fv (.bool false)) fun x89=>k88 x89 h85 [] []) fun x90 h91 _ _=>AF x44 (.fv (.bool true)) x90 fun x94=>Al x94 (Ap [.fv (.bool false)] h91) (JZ x2 h91 h1 n ih)
def Kn (h41:Hp) (x44 x2:IV) (h1:Hp) (n:Nat) (ih:Aa):OH :=
 Ab x44 false h41 (fun k45=>Ae 0 x2 fun x46=>k45 x46 h41 [] []) fun x47 h48 _ _=>Ab x44 false h48 (fun k51=>Ah x47 h48 fun x52 r53=>k51 x52 h48 r53 []) fun x54 h55 _ _=>Ab x44 false h55 (fun k58=>A0 EE 3 x54 (.fv (.int .i64 1)) fun x59=>k58 x59 h55 [] []) fun x60 h61 _ _=>Ab x44 false h61 (fun k64=>k64 x60 h61 [] []) fun x65 h66 _ _=>Ab x65 true h66 (fun k69=>Ae 1 x2 fun x70=>k69 x70 h66 [] []) fun x71 h72 _ _=>J0 h72 x65 x71 x44 x2 h1 n ih
def Kl (h16:Hp) (x13 x2 x15:IV) (h1:Hp) (n:Nat) (ih:Aa):OH :=
 Ab x13 true h16 (fun k19=>Ae 2 x2 fun x20=>k19 x20 h16 [] []) fun x21 h22 _ _=>Ab x13 true h22 (fun k25=>Ah x21 h22 fun x26 r27=>k25 x26 h22 r27 []) fun x28 h29 _ _=>Ab x13 true h29 (fun k32=>Cf x28 fun x33=>k32 x33 h29 [] []) fun x34 h35 _ _=>Ab x13 true h35 (fun k38=>I1 EE 3 x15 x34 fun x39=>k38 x39 h35 [] []) fun x40 h41 _ _=>AF x13 x40 (.fv (.bool false)) fun x44=>Kn h41 x44 x2 h1 n ih
def S50 (ih:Aa) (n:Nat) (x0:IV) (h1:Hp):OH :=
 Bh 52428800 x0 h1 fun x2 h3 _ _=>Ae 0 x2 fun x6=>Ah x6 h3 fun x7 _=>Aj [] false false ih 71 [x7] h3 fun x9 h10 _ _=>geS EE 3 x9 (.fv (.int .i64 0)) fun x13=>Ab x13 true h10 (fun k14=>k14 x9 h10 [] []) fun x15 h16 _ _=>Kl h16 x13 x2 x15 h1 n ih
theorem Aki (ih:Aa) (n:Nat) (x0:IV) (h1:Hp):AI EE ih ft.get n 50 [x0] h1=S50 ih n x0 h1:=by kernel_rfl
def RE (x2:IV) (h61:Hp) (x6:IV):OH :=
 AG x2 fun x64=>Ae 4 x64 fun x65=>Bt x65 x6 h61 fun h66 _ _=>Ap [x2] h66
def Td (x46:IV) (h47:Hp) (x6 x2:IV):OH :=
 Bz [.fv (.nilf)] [(0,1,x46)] fun x50=>Aw (B2 EE 78 x6 (.fv (.int .i64 30)) x50) 53479445 h47 fun _ h52 _ _=>Aw (val (FH (.func 76) [x2] [])) 53479447 h52 fun x55 h56 _ _=>Bz [.fv (.nilf)] [(0,1,x55)] fun x59=>Aw (B2 EE 78 x6 (.fv (.int .i64 19)) x59) 53479449 h56 fun _ h61 _ _=>RE x2 h61 x6
def PJ (h29:Hp) (x6 x32 x2:IV):OH :=
 Aw (B2 EE 78 x6 (.fv (.int .i64 9)) x32) 53479437 h29 fun _ h34 _ _=>Aw (val (FH (.func 74) [x2] [])) 53479439 h34 fun x37 h38 _ _=>Bz [.fv (.nilf)] [(0,1,x37)] fun x41=>Aw (B2 EE 78 x6 (.fv (.int .i64 13)) x41) 53479441 h38 fun _ h43 _ _=>Aw (val (FH (.func 75) [x2] [])) 53479443 h43 fun x46 h47 _ _=>Td x46 h47 x6 x2
def V3 (h16:Hp) (x2 x6:IV):OH :=
 Aw (val (FH (.func 73) [x2] [])) 53479431 h16 fun x19 h20 _ _=>Bz [.fv (.nilf)] [(0,1,x19)] fun x23=>Aw (B2 EE 78 x6 (.fv (.int .i64 8)) x23) 53479433 h20 fun _ h25 _ _=>Aw (val (FH (.func 73) [x2] [])) 53479435 h25 fun x28 h29 _ _=>Bz [.fv (.nilf)] [(0,1,x28)] fun x32=>PJ h29 x6 x32 x2
def S51 (ih:Aa) (n:Nat) (h0:Hp):OH :=
 Bz [.fv (.int .i64 0),.fv (.int .i64 0),.fv (.int .i64 0),.fv (.int .i64 0),.dead] [(0,1,.fv (.int .i64 100000)),(1,1,.fv (.int .i64 5000000))] fun x1=>Bh 53478401 x1 h0 fun x2 h3 _ _=>Aw (GM 53479425) 53479425 h3 fun x6 h7 _ _=>Aw (val (FH (.func 72) [x2] [])) 53479427 h7 fun x10 h11 _ _=>Bz [.fv (.nilf)] [(0,1,x10)] fun x14=>Aw (B2 EE 78 x6 (.fv (.int .i64 5)) x14) 53479429 h11 fun _ h16 _ _=>V3 h16 x2 x6
theorem Amj (ih:Aa) (n:Nat) (h0:Hp):AI EE ih ft.get n 51 [] h0=S51 ih n h0:=by kernel_rfl
def Mw (x4:IV) (h9:Hp) (ih:Aa) (x1:IV):OH :=
 Ae 1 x4 fun x16=>Ah x16 h9 fun x17 _=>Aj [] false false ih 78 [x1,x17] h9 fun x19 h20 _ _=>Ap [x19] h20
def L5 (x62:IV) (h3 h65:Hp) (x56 x57 x58 x59 x60 x61:IV) (q53:List IV→Hp→OH):OH :=
 BH EE 3 x62 (.fv (.int .i64 1)) fun x66=>BB (h3.own.map (·.1)) [54535171] [x56,x57,x58,x59,x60,x61,x66] h65 fun h67=>q53 [x56,x57,x58,x59,x60,x61,x66] h67
def L9 (ih:Aa) (h82:Hp) (x56 x57 x90:IV) (r89:AD) (x88 x62:IV) (j0_64:Hp→OH):OH :=
 Aj [true,false,false] false false ih 52 [x56,x57,x90] h82 fun x92 h93 r94 w95=>Ac [(r89,[])] r94 w95 (Bc 1 x88 x62 fun x96=>Bt x96 x92 h93 fun h97 r98 w99=>Ac [] r98 w99 (j0_64 h97))
def MA (x86:IV) (h82:Hp) (x71:IV) (ih:Aa) (x56 x57 x62:IV) (j0_64:Hp→OH):OH :=
 Ae 2 x86 fun x87=>Ah x87 h82 fun x88 r89=>Ac [] r89 [] (Ai 3 x71 h82 fun x90 r91=>Ac [(r89,[])] r91 [] (L9 ih h82 x56 x57 x90 r89 x88 x62 j0_64))
def Mg (h75:Hp) (x78:IV) (ih:Aa) (x62 x59 x71 x56 x57:IV) (j0_64:Hp→OH):OH :=
 Ah x78 h75 fun x79 _=>Aj [] false false ih 79 [x79,x62] h75 fun x81 h82 _ _=>A0 EE 3 x81 (.fv (.int .i64 0)) fun x85=>Al x85 (AG x59 fun x86=>MA x86 h82 x71 ih x56 x57 x62 j0_64) (j0_64 h82)
def Mb (x60 x62:IV) (h55:Hp) (x58:IV) (ih:Aa) (x59 x56 x57:IV) (j0_64:Hp→OH):OH :=
 Bc 3 x60 x62 fun x68=>Ai 3 x68 h55 fun x69 _=>AM 54535171 (.row [.fv (.int .i64 0),.fv (.int .i64 0),.nils] false) (.ptr (.own 54535171) 0) h55 fun x71 h72 _ _=>Ak 3 x71 x69 h72 fun h75 _ _=>Ae 0 x58 fun x78=>Mg h75 x78 ih x62 x59 x71 x56 x57 j0_64
def Mu (x100:IV) (h55:Hp) (x59:IV) (ih:Aa) (x56:IV):OH :=
 Ae 3 x100 fun x101=>Ah x101 h55 fun x102 _=>I1 EE 37 x102 (.fv (.int .i64 0)) fun x104=>Al x104 (Ap [x59] h55) (Aj [true,false] false false ih 80 [x56,x59] h55 fun x105 h106 _ _=>Ap [x105] h106)
def Mp (l113:List IV) (h3:Hp) (x56 x57 x58 x59 x60:IV) (q53:List IV→Hp→OH) (h55:Hp) (ih:Aa):OH :=
 AH l113 fun x61 l114=>AH l114 fun x62 _=>Hm EE 3 x62 x61 fun x63=>Al x63 ((fun (j0_64:Hp→OH)=>Mb x60 x62 h55 x58 ih x59 x56 x57 j0_64) fun h65=>L5 x62 h3 h65 x56 x57 x58 x59 x60 x61 q53) (AG x56 fun x100=>Mu x100 h55 x59 ih x56)
def XC (l54:List IV) (h3:Hp) (q53:List IV→Hp→OH) (h55:Hp) (ih:Aa):OH :=
 AH l54 fun x56 l109=>AH l109 fun x57 l110=>AH l110 fun x58 l111=>AH l111 fun x59 l112=>AH l112 fun x60 l113=>Mp l113 h3 x56 x57 x58 x59 x60 q53 h55 ih
def Ma (x50:IV) (h3 h41:Hp) (x0 x1 x4 x40:IV) (n:Nat) (ih:Aa):OH :=
 Cf x50 fun x52=>BB (h3.own.map (·.1)) [54535171] [x0,x1,x4,x40,x50,x52,.fv (.int .i64 0)] h41 fun h116=>BQ n (fun q53 l54 h55=>XC l54 h3 q53 h55 ih) [x0,x1,x4,x40,x50,x52,.fv (.int .i64 0)] h116
def Mz (x46:IV) (h41:Hp) (x40 x4:IV) (h3:Hp) (x0 x1:IV) (n:Nat) (ih:Aa):OH :=
 I1 EE 37 x46 (.fv (.int .i64 0)) fun x48=>Al x48 (Ap [x40] h41) (Ae 2 x4 fun x49=>Ah x49 h41 fun x50 _=>Ma x50 h3 h41 x0 x1 x4 x40 n ih)
def Mc (h34:Hp) (x39 x0 x4:IV) (h3:Hp) (x1:IV) (n:Nat) (ih:Aa):OH :=
 Bh 54530059 x39 h34 fun x40 h41 r42 w43=>Ac [] r42 w43 (AG x0 fun x44=>Ae 3 x44 fun x45=>Ah x45 h41 fun x46 _=>Mz x46 h41 x40 x4 h3 x0 x1 n ih)
def Mx (h9:Hp) (x32:IV) (r28 r25:AD) (x4:IV) (r31:AD) (x24 x27 x1 x0:IV) (h3:Hp) (n:Nat) (ih:Aa):OH :=
 Aw (BP EE 54530055 104 x32 x32) 54530055 h9 fun x33 h34 r35 w36=>Ac [(r28,[]),(r25,[])] r35 w36 (Ai 3 x4 h34 fun x37 r38=>Ac [(r35,w36),(r31,[]),(r28,[]),(r25,[])] r38 [] (Bz [.fv (.int .i64 0),.fv (.int .i64 0),.nils,.fv (.int .i64 0),.fv (.int .i64 0),.nils,.fv (.nilp)] [(0,1,x24),(1,1,x27),(2,1,x33),(3,3,x37),(6,1,x1)] fun x39=>Mc h34 x39 x0 x4 h3 x1 n ih))
def L8 (r28 r25:AD) (x4:IV) (h9:Hp) (x24 x27 x1 x0:IV) (h3:Hp) (n:Nat) (ih:Aa):OH :=
 Ac [(r25,[])] r28 [] (Ae 2 x4 fun x29=>Ah x29 h9 fun x30 r31=>Ac [(r28,[]),(r25,[])] r31 [] (Cf x30 fun x32=>Mx h9 x32 r28 r25 x4 r31 x24 x27 x1 x0 h3 n ih))
def Ms (x4:IV) (h9:Hp) (x1 x0:IV) (h3:Hp) (n:Nat) (ih:Aa):OH :=
 Ae 0 x4 fun x23=>Ah x23 h9 fun x24 r25=>Ac [] r25 [] (Ae 1 x4 fun x26=>Ah x26 h9 fun x27 r28=>L8 r28 r25 x4 h9 x24 x27 x1 x0 h3 n ih)
def S52 (ih:Aa) (n:Nat) (x0 x1 x2:IV) (h3:Hp):OH :=
 Bh 54525952 x2 h3 fun x4 h5 _ _=>Aj [true] false false ih 77 [x0] h5 fun _ h9 _ _=>Ae 0 x4 fun x12=>Ah x12 h9 fun x13 _=>A0 EE 3 x13 (.fv (.int .i64 1)) fun x15=>Al x15 (Mw x4 h9 ih x1) (Ms x4 h9 x1 x0 h3 n ih)
theorem Amd (ih:Aa) (n:Nat) (x0 x1 x2:IV) (h3:Hp):AI EE ih ft.get n 52 [x0,x1,x2] h3=S52 ih n x0 x1 x2 h3:=by kernel_rfl
def Dr (h21:Hp) (x5:IV):OH :=
 AK true 3 x5 h21 fun x24=>Ap [x24] h21
def DS (h12:Hp) (x5 x36:IV):OH :=
 Ak 3 x5 x36 h12 fun h37 _ _=>AK true 3 x5 h37 fun x40=>Ap [x40] h37
def Dj (x1:IV) (h12:Hp) (x30 x5:IV):OH :=
 AG x1 fun x31=>Ae 1 x31 fun x32=>Ah x32 h12 fun x33 _=>A9 EE 3 x30 x33 fun x35=>Bz [.fv (.int .i64 0),.fv (.int .i64 0),.nils] [(0,1,.fv (.int .i64 1)),(1,1,x35)] fun x36=>DS h12 x5 x36
def DG (h90:Hp) (x83:IV):OH :=
 Bz [.fv (.int .i64 0),.fv (.int .i64 0),.nils] [] fun x96=>Ak 3 x83 x96 h90 fun h97 _ _=>AK true 3 x83 h97 fun x100=>Ap [x100] h97
def Dy (x89:IV) (h4 h108:Hp) (x79 x80 x81 x82 x83 x84 x88:IV) (q51:List IV→Hp→OH):OH :=
 BH EE 3 x89 (.fv (.int .i64 1)) fun x111=>BB (h4.own.map (·.1)) [55589889,55593990] [x79,x80,x81,x82,x83,x84,x88,x111] h108 fun h112=>q51 [x79,x80,x81,x82,x83,x84,x88,x111] h112
def DO (x81 x87 x82:IV) (ih:Aa) (h90:Hp) (x79 x86 x84 x85 x89:IV) (h4:Hp) (x80 x83 x88:IV) (q51:List IV→Hp→OH):OH :=
 BH EE 3 x81 x87 fun x101=>BH EE 3 x82 (.fv (.int .i64 1)) fun x102=>Aj [true,false,false,false] false false ih 53 [x79,x86,x101,x102] h90 fun x103 h104 _ _=>Bc 3 x84 x85 fun x107=>Ak 3 x107 x103 h104 fun h108 _ _=>Dy x89 h4 h108 x79 x80 x81 x82 x83 x84 x88 q51
def CF (x79:IV) (h90:Hp) (x83 x81 x87 x82:IV) (ih:Aa) (x86 x84 x85 x89:IV) (h4:Hp) (x80 x88:IV) (q51:List IV→Hp→OH):OH :=
 AG x79 fun x91=>Ae 3 x91 fun x92=>Ah x92 h90 fun x93 _=>I1 EE 37 x93 (.fv (.int .i64 0)) fun x95=>Al x95 (DG h90 x83) (DO x81 x87 x82 ih h90 x79 x86 x84 x85 x89 h4 x80 x83 x88 q51)
def Di (x134:IV) (h4 h143:Hp) (x122 x123 x124 x125 x126 x127 x128 x129 x130 x131 x132 x133:IV) (q119:List IV→Hp→OH):OH :=
 BH EE 3 x134 (.fv (.int .i64 1)) fun x146=>BB (h4.own.map (·.1)) [55593990] [x122,x123,x124,x125,x126,x127,x128,x129,x130,x131,x132,x133,x146] h143 fun h147=>q119 [x122,x123,x124,x125,x126,x127,x128,x129,x130,x131,x132,x133,x146] h147
def DC (x124 x134:IV) (h121:Hp) (x130:IV) (h4:Hp) (x122 x123 x125 x126 x127 x128 x129 x131 x132 x133:IV) (q119:List IV→Hp→OH):OH :=
 BH EE 3 x124 x134 fun x136=>Bz [.fv (.int .i64 0),.fv (.int .i64 0),.nils,.fv (.int .i64 0),.fv (.int .i64 0),.nils,.fv (.nilp)] [(0,1,.fv (.int .i64 1)),(1,1,x136)] fun x137=>fzS (Kw true 55593990 x137) 55593990 x137 h121 fun x138 h139 _ _=>Bc 1 x130 x134 fun x142=>Bt x142 x138 h139 fun h143 _ _=>Di x134 h4 h143 x122 x123 x124 x125 x126 x127 x128 x129 x130 x131 x132 x133 q119
def Dk (ih:Aa) (h121:Hp) (x122 x123 x128 x130:IV) (j11_78:IV→IV→IV→IV→IV→IV→IV→IV→IV→IV→IV→Hp→OH) (x124 x125 x126 x127 x129 x131 x132:IV):OH :=
 Aj [true,false,false,false] false false ih 81 [x122,x123,x128,x130] h121 fun x148 h149 _ _=>j11_78 x122 x123 x124 x125 x126 x127 x128 x148 x129 x131 x132 h149
def Dn (l161:List IV) (x124:IV) (h121:Hp) (x130:IV) (h4:Hp) (x122 x123 x125 x126 x127 x128 x129 x131:IV) (q119:List IV→Hp→OH) (ih:Aa) (j11_78:IV→IV→IV→IV→IV→IV→IV→IV→IV→IV→IV→Hp→OH):OH :=
 AH l161 fun x132 l162=>AH l162 fun x133 l163=>AH l163 fun x134 _=>Hm EE 3 x134 x133 fun x135=>Al x135 (DC x124 x134 h121 x130 h4 x122 x123 x125 x126 x127 x128 x129 x131 x132 x133 q119) (Dk ih h121 x122 x123 x128 x130 j11_78 x124 x125 x126 x127 x129 x131 x132)
def DR (l156:List IV) (x124:IV) (h121 h4:Hp) (x122 x123 x125 x126:IV) (q119:List IV→Hp→OH) (ih:Aa) (j11_78:IV→IV→IV→IV→IV→IV→IV→IV→IV→IV→IV→Hp→OH):OH :=
 AH l156 fun x127 l157=>AH l157 fun x128 l158=>AH l158 fun x129 l159=>AH l159 fun x130 l160=>AH l160 fun x131 l161=>Dn l161 x124 h121 x130 h4 x122 x123 x125 x126 x127 x128 x129 x131 q119 ih j11_78
def E3 (l120:List IV) (h121 h4:Hp) (q119:List IV→Hp→OH) (ih:Aa) (j11_78:IV→IV→IV→IV→IV→IV→IV→IV→IV→IV→IV→Hp→OH):OH :=
 AH l120 fun x122 l152=>AH l152 fun x123 l153=>AH l153 fun x124 l154=>AH l154 fun x125 l155=>AH l155 fun x126 l156=>DR l156 x124 h121 h4 x122 x123 x125 x126 q119 ih j11_78
def DE (h4 h115:Hp) (x54 x55 x56 x57 x58 x59 x61 x74 x114 x60 x118:IV) (n:Nat) (ih:Aa) (j11_78:IV→IV→IV→IV→IV→IV→IV→IV→IV→IV→IV→Hp→OH):OH :=
 BB (h4.own.map (·.1)) [55593990] [x54,x55,x56,x57,x58,x59,x61,x74,x114,x60,x61,x118,.fv (.int .i64 0)] h115 fun h165=>BQ n (fun q119 l120 h121=>E3 l120 h121 h4 q119 ih j11_78) [x54,x55,x56,x57,x58,x59,x61,x74,x114,x60,x61,x118,.fv (.int .i64 0)] h165
def DJ (x113:IV) (h75:Hp) (x74:IV) (h4:Hp) (x54 x55 x56 x57 x58 x59 x61 x60:IV) (n:Nat) (ih:Aa) (j11_78:IV→IV→IV→IV→IV→IV→IV→IV→IV→IV→IV→Hp→OH) (x68:IV):OH :=
 Al x113 (Aw (BP EE 55589889 104 x74 x74) 55589889 h75 fun x114 h115 _ _=>Cf x114 fun x118=>DE h4 h115 x54 x55 x56 x57 x58 x59 x61 x74 x114 x60 x118 n ih j11_78) (j11_78 x54 x55 x56 x57 x58 x59 x61 x68 x74 x60 x61 h75)
def DP (r73 r69 r66:AD) (ih:Aa) (h53:Hp) (x72 x61:IV) (h4:Hp) (q51:List IV→Hp→OH) (x54 x55 x56 x57 x58 x59 x60:IV) (n:Nat) (x68:IV):OH :=
 Ac [(r69,[]),(r66,[])] r73 [] (Aj [] false false ih 79 [x72,x61] h53 fun x74 h75 r76 w77=>Ac [(r69,[]),(r66,[])] r76 w77 ((fun (j11_78:IV→IV→IV→IV→IV→IV→IV→IV→IV→IV→IV→Hp→OH)=>KY EE 3 x74 (.fv (.int .i64 0)) fun x113=>DJ x113 h75 x74 h4 x54 x55 x56 x57 x58 x59 x61 x60 n ih j11_78 x68) fun x79 x80 x81 x82 x83 x84 x85 x86 x87 x88 x89 h90=>CF x79 h90 x83 x81 x87 x82 ih x86 x84 x85 x89 h4 x80 x88 q51))
def Du (h53:Hp) (x67 x55:IV) (r66:AD) (ih:Aa) (x61:IV) (h4:Hp) (q51:List IV→Hp→OH) (x54 x56 x57 x58 x59 x60:IV) (n:Nat):OH :=
 Ah x67 h53 fun x68 r69=>Ac [] r69 [] (AG x55 fun x70=>Ae 0 x70 fun x71=>Ah x71 h53 fun x72 r73=>DP r73 r69 r66 ih h53 x72 x61 h4 q51 x54 x55 x56 x57 x58 x59 x60 n x68)
def Dt (x55:IV) (h53:Hp) (x61:IV) (ih:Aa) (h4:Hp) (q51:List IV→Hp→OH) (x54 x56 x57 x58 x59 x60:IV) (n:Nat):OH :=
 AG x55 fun x63=>Ae 2 x63 fun x64=>Ah x64 h53 fun x65 r66=>Ac [] r66 [] (Bc 1 x65 x61 fun x67=>Du h53 x67 x55 r66 ih x61 h4 q51 x54 x56 x57 x58 x59 x60 n)
def DL (r176 w177:AD) (h175:Hp) (x58:IV):OH :=
 Ac [] r176 w177 (AK true 3 x58 h175 fun x178=>Ap [x178] h175)
def DM (x170:IV) (h53:Hp) (r169:AD) (x168 x59 x58:IV):OH :=
 Ae 1 x170 fun x171=>Ah x171 h53 fun x172 r173=>Ac [(r169,[])] r173 [] (Bz [.fv (.int .i64 0),.fv (.int .i64 0),.nils] [(0,1,x168),(1,1,x172),(2,1,x59)] fun x174=>Ak 3 x58 x174 h53 fun h175 r176 w177=>DL r176 w177 h175 x58)
def Df (x55:IV) (h53:Hp) (x59 x58:IV):OH :=
 AG x55 fun x166=>Ae 0 x166 fun x167=>Ah x167 h53 fun x168 r169=>Ac [] r169 [] (AG x55 fun x170=>DM x170 h53 r169 x168 x59 x58)
def Dz (l183:List IV) (x55:IV) (h53:Hp) (ih:Aa) (h4:Hp) (q51:List IV→Hp→OH) (x54 x56 x57 x58:IV) (n:Nat):OH :=
 AH l183 fun x59 l184=>AH l184 fun x60 l185=>AH l185 fun x61 _=>Hm EE 3 x61 x60 fun x62=>Al x62 (Dt x55 h53 x61 ih h4 q51 x54 x56 x57 x58 x59 x60 n) (Df x55 h53 x59 x58)
def Fe (l52:List IV) (h53:Hp) (ih:Aa) (h4:Hp) (q51:List IV→Hp→OH) (n:Nat):OH :=
 AH l52 fun x54 l179=>AH l179 fun x55 l180=>AH l180 fun x56 l181=>AH l181 fun x57 l182=>AH l182 fun x58 l183=>Dz l183 x55 h53 ih h4 q51 x54 x56 x57 x58 n
def Dd (h4 h47:Hp) (x0 x1 x2 x3 x5 x46 x50:IV) (n:Nat) (ih:Aa):OH :=
 BB (h4.own.map (·.1)) [55589889,55593990] [x0,x1,x2,x3,x5,x46,x50,.fv (.int .i64 0)] h47 fun h187=>BQ n (fun q51 l52 h53=>Fe l52 h53 ih h4 q51 n) [x0,x1,x2,x3,x5,x46,x50,.fv (.int .i64 0)] h187
def DW (x41:IV) (h12 h4:Hp) (x0 x1 x2 x3 x5:IV) (n:Nat) (ih:Aa):OH :=
 Ae 2 x41 fun x42=>Ah x42 h12 fun x43 _=>Cf x43 fun x45=>Aw (BP EE 55583749 29 x45 x45) 55583749 h12 fun x46 h47 _ _=>Cf x46 fun x50=>Dd h4 h47 x0 x1 x2 x3 x5 x46 x50 n ih
def DN (h12:Hp) (x26 x2 x1 x5:IV) (h4:Hp) (x0 x3:IV) (n:Nat) (ih:Aa):OH :=
 Ah x26 h12 fun x27 _=>A0 EE 3 x27 (.fv (.int .i64 1)) fun x29=>Al x29 (A9 EE 3 x2 (.fv (.int .i64 1)) fun x30=>Dj x1 h12 x30 x5) (AG x1 fun x41=>DW x41 h12 h4 x0 x1 x2 x3 x5 n ih)
def DB (x19:IV) (h12:Hp) (x5 x1 x2:IV) (h4:Hp) (x0 x3:IV) (n:Nat) (ih:Aa):OH :=
 Al x19 (Bz [.fv (.int .i64 0),.fv (.int .i64 0),.nils] [] fun x20=>Ak 3 x5 x20 h12 fun h21 _ _=>Dr h21 x5) (AG x1 fun x25=>Ae 0 x25 fun x26=>DN h12 x26 x2 x1 x5 h4 x0 x3 n ih)
def E6 (ih:Aa) (h10:Hp) (x0 x5 x1 x2:IV) (h4:Hp) (x3:IV) (n:Nat):OH :=
 Aj [true] false false ih 77 [x0] h10 fun _ h12 _ _=>AG x0 fun x15=>Ae 3 x15 fun x16=>Ah x16 h12 fun x17 _=>I1 EE 37 x17 (.fv (.int .i64 0)) fun x19=>DB x19 h12 x5 x1 x2 h4 x0 x3 n ih
def Dl (x256:IV) (h252:Hp) (j0_9:Hp→OH):OH :=
 Ae 3 x256 fun x257=>Bt x257 (.fv (.int .i64 5)) h252 fun h258 _ _=>j0_9 h258
def DU (h246:Hp) (x202 x234 x245 x0:IV) (j0_9:Hp→OH):OH :=
 Ab x202 true h246 (fun k249=>AF x234 (.fv (.bool true)) x245 fun x250=>k249 x250 h246 [] []) fun x251 h252 _ _=>AF x202 x251 (.fv (.bool false)) fun x255=>Al x255 (AG x0 fun x256=>Dl x256 h252 j0_9) (j0_9 h252)
def De (h217:Hp) (x202 x216 x3 x0:IV) (j0_9:Hp→OH):OH :=
 Ab x202 true h217 (fun k220=>Ah x216 h217 fun x221 r222=>k220 x221 h217 r222 []) fun x223 h224 _ _=>Ab x202 true h224 (fun k227=>KY EE 3 x223 (.fv (.int .i64 3000)) fun x228=>k227 x228 h224 [] []) fun x229 h230 _ _=>Ab x202 true h230 (fun k233=>k233 x229 h230 [] []) fun x234 h235 _ _=>Ab x234 false h235 (fun k238=>k238 x3 h235 [] []) fun x239 h240 _ _=>Ab x234 false h240 (fun k243=>KY EE 3 x239 (.fv (.int .i64 120)) fun x244=>k243 x244 h240 [] []) fun x245 h246 _ _=>DU h246 x202 x234 x245 x0 j0_9
def DD (h195:Hp) (x199 x0 x3:IV) (j0_9:Hp→OH):OH :=
 Ah x199 h195 fun x200 _=>A0 EE 37 x200 (.fv (.int .i64 0)) fun x202=>Ab x202 true h195 (fun k203=>k203 x0 h195 [] []) fun x204 h205 _ _=>Ab x202 true h205 (fun k208=>AG x204 fun x209=>k208 x209 h205 [] []) fun x210 h211 _ _=>Ab x202 true h211 (fun k214=>Ae 2 x210 fun x215=>k214 x215 h211 [] []) fun x216 h217 _ _=>De h217 x202 x216 x3 x0 j0_9
def DX (x0:IV) (h6:Hp) (x192 x3:IV) (j0_9:Hp→OH):OH :=
 AG x0 fun x193=>Ae 2 x193 fun x194=>Bt x194 x192 h6 fun h195 _ _=>AG x0 fun x198=>Ae 3 x198 fun x199=>DD h195 x199 x0 x3 j0_9
def S53 (ih:Aa) (n:Nat) (x0 x1 x2 x3:IV) (h4:Hp):OH :=
 AM 55574528 (.row [.fv (.int .i64 0),.fv (.int .i64 0),.nils] false) (.ptr (.own 55574528) 0) h4 fun x5 h6 _ _=>(fun (j0_9:Hp→OH)=>AG x0 fun x188=>Ae 2 x188 fun x189=>Ah x189 h6 fun x190 _=>BH EE 3 x190 (.fv (.int .i64 1)) fun x192=>DX x0 h6 x192 x3 j0_9) fun h10=>E6 ih h10 x0 x5 x1 x2 h4 x3 n
theorem AkR (ih:Aa) (n:Nat) (x0 x1 x2 x3:IV) (h4:Hp):AI EE ih ft.get n 53 [x0,x1,x2,x3] h4=S53 ih n x0 x1 x2 x3 h4:=by kernel_rfl
def J9 (ih:Aa) (h59:Hp) (x23 x67 x69 x26:IV) (q20:List IV→Hp→OH) (x24 x25:IV):OH :=
 Aj [true,false,false] false false ih 54 [x23,x67,x69] h59 fun _ h71 _ _=>BH EE 3 x26 (.fv (.int .i64 1)) fun x74=>q20 [x23,x24,x25,x74] h71
def JF (x25:IV) (h59:Hp) (x26 x24:IV) (ih:Aa) (x23:IV) (q20:List IV→Hp→OH):OH :=
 Ae 2 x25 fun x63=>Ah x63 h59 fun x64 _=>Bc 3 x64 x26 fun x66=>Ai 3 x66 h59 fun x67 _=>BH EE 3 x24 (.fv (.int .i64 1)) fun x69=>J9 ih h59 x23 x67 x69 x26 q20 x24 x25
def JY (h40:Hp) (x31 x39 x25 x26 x24:IV) (ih:Aa) (x23:IV) (q20:List IV→Hp→OH):OH :=
 Ab x31 true h40 (fun k43=>Ae 1 x39 fun x44=>k43 x44 h40 [] []) fun x45 h46 _ _=>Ab x31 true h46 (fun k49=>Ah x45 h46 fun x50 r51=>k49 x50 h46 r51 []) fun x52 h53 _ _=>Ab x31 true h53 (fun k56=>A0 EE 3 x52 (.fv (.int .i64 0)) fun x57=>k56 x57 h53 [] []) fun x58 h59 _ _=>AF x31 x58 (.fv (.bool false)) fun x62=>Al x62 (JF x25 h59 x26 x24 ih x23 q20) (Ap [] h59)
def Kg (h22:Hp) (x27 x26 x23 x25 x24:IV) (ih:Aa) (q20:List IV→Hp→OH):OH :=
 Ah x27 h22 fun x28 _=>Cf x28 fun x30=>Hm EE 3 x26 x30 fun x31=>Ab x31 true h22 (fun k32=>k32 x23 h22 [] []) fun x33 h34 _ _=>Ab x31 true h34 (fun k37=>AG x33 fun x38=>k37 x38 h34 [] []) fun x39 h40 _ _=>JY h40 x31 x39 x25 x26 x24 ih x23 q20
def JC (l21:List IV) (h22:Hp) (ih:Aa) (q20:List IV→Hp→OH):OH :=
 AH l21 fun x23 l75=>AH l75 fun x24 l76=>AH l76 fun x25 l77=>AH l77 fun x26 _=>Ae 2 x25 fun x27=>Kg h22 x27 x26 x23 x25 x24 ih q20
def KD (n:Nat) (h19:Hp) (x0 x2 x4:IV) (ih:Aa):OH :=
 BQ n (fun q20 l21 h22=>JC l21 h22 ih q20) [x0,x2,x4,.fv (.int .i64 0)] h19
def JH (h92:Hp) (x97:IV) (j0_18:Hp→OH):OH :=
 Bt x97 (.fv (.int .i64 5)) h92 fun h98 _ _=>j0_18 h98
def Ke (x151:IV) (h147:Hp) (j0_18:Hp→OH):OH :=
 Ae 1 x151 fun x152=>Bt x152 (.fv (.int .i64 1)) h147 fun h153 _ _=>j0_18 h153
def KS (r142 w143:AD) (h141:Hp) (x112 x140 x0:IV) (j0_18:Hp→OH):OH :=
 Ac [] r142 w143 (Ab x112 false h141 (fun k144=>CJ (KX .not x140) fun x145=>k144 x145 h141 [] []) fun x146 h147 _ _=>AF x112 (.fv (.bool true)) x146 fun x150=>Al x150 (AG x0 fun x151=>Ke x151 h147 j0_18) (j0_18 h147))
def Kc (r124 w125:AD) (h123:Hp) (x112 x4:IV) (ih:Aa) (x122 x0:IV) (j0_18:Hp→OH):OH :=
 Ac [] r124 w125 (Ab x112 false h123 (fun k126=>Ae 1 x4 fun x127=>k126 x127 h123 [] []) fun x128 h129 _ _=>Ab x112 false h129 (fun k132=>Ah x128 h129 fun x133 r134=>k132 x133 h129 r134 []) fun x135 h136 r137 w138=>Ac [(r124,w125)] r137 w138 (Ab x112 false h136 (fun k139=>Aj [] false false ih 83 [x122,x135] h136 k139) fun x140 h141 r142 w143=>KS r142 w143 h141 x112 x140 x0 j0_18))
def J5 (r110 r106 w107 r103:AD) (x109 x104:IV) (h105:Hp) (x4:IV) (ih:Aa) (x0:IV) (j0_18:Hp→OH):OH :=
 Ac [(r106,w107),(r103,[])] r110 [] (Cf x109 fun x111=>I1 EE 3 x104 x111 fun x112=>Ab x112 false h105 (fun k113=>Ae 0 x4 fun x114=>k113 x114 h105 [] []) fun x115 h116 _ _=>Ab x112 false h116 (fun k119=>Ah x115 h116 fun x120 r121=>k119 x120 h116 r121 []) fun x122 h123 r124 w125=>Kc r124 w125 h123 x112 x4 ih x122 x0 j0_18)
def JQ (r103:AD) (ih:Aa) (h92:Hp) (x102 x4 x0:IV) (j0_18:Hp→OH):OH :=
 Ac [] r103 [] (Aj [] false false ih 82 [x102] h92 fun x104 h105 r106 w107=>Ac [] r106 w107 (Ae 2 x4 fun x108=>Ah x108 h105 fun x109 r110=>J5 r110 r106 w107 r103 x109 x104 h105 x4 ih x0 j0_18))
def Kk (x95 x0:IV) (h92:Hp) (j0_18:Hp→OH) (x4:IV) (ih:Aa):OH :=
 Al x95 (AG x0 fun x96=>Ae 1 x96 fun x97=>JH h92 x97 j0_18) (Ae 0 x4 fun x101=>Ah x101 h92 fun x102 r103=>JQ r103 ih h92 x102 x4 x0 j0_18)
def KW (h15:Hp) (x80 x2 x0:IV) (j0_18:Hp→OH) (x4:IV) (ih:Aa):OH :=
 Ah x80 h15 fun x81 _=>KY EE 3 x81 (.fv (.int .i64 3000)) fun x83=>Ab x83 false h15 (fun k84=>k84 x2 h15 [] []) fun x85 h86 _ _=>Ab x83 false h86 (fun k89=>KY EE 3 x85 (.fv (.int .i64 120)) fun x90=>k89 x90 h86 [] []) fun x91 h92 _ _=>AF x83 (.fv (.bool true)) x91 fun x95=>Kk x95 x0 h92 j0_18 x4 ih
def Kp (x13:IV) (h5:Hp) (x12:IV) (n:Nat) (x0 x2 x4:IV) (ih:Aa):OH :=
 Ae 0 x13 fun x14=>Bt x14 x12 h5 fun h15 _ _=>(fun (j0_18:Hp→OH)=>AG x0 fun x79=>Ae 0 x79 fun x80=>KW h15 x80 x2 x0 j0_18 x4 ih) fun h19=>KD n h19 x0 x2 x4 ih
def S54 (ih:Aa) (n:Nat) (x0 x1 x2:IV) (h3:Hp):OH :=
 Bh 56623104 x1 h3 fun x4 h5 _ _=>AG x0 fun x8=>Ae 0 x8 fun x9=>Ah x9 h5 fun x10 _=>BH EE 3 x10 (.fv (.int .i64 1)) fun x12=>AG x0 fun x13=>Kp x13 h5 x12 n x0 x2 x4 ih
theorem Anb (ih:Aa) (n:Nat) (x0 x1 x2:IV) (h3:Hp):AI EE ih ft.get n 54 [x0,x1,x2] h3=S54 ih n x0 x1 x2 h3:=by kernel_rfl
def S55 (ih:Aa) (n:Nat) (x0 x1:IV) (h2:Hp):OH :=
 CN EE 3 .rem x0 x1 fun x3=>(fun (j1_4:IV→Hp→OH)=>Hm EE 3 x3 (.fv (.int .i64 0)) fun x7=>Al x7 (BH EE 3 x3 x1 fun x8=>j1_4 x8 h2) (j1_4 x3 h2)) fun x5 h6=>Ap [x5] h6
theorem AlX (ih:Aa) (n:Nat) (x0 x1:IV) (h2:Hp):AI EE ih ft.get n 55 [x0,x1] h2=S55 ih n x0 x1 h2:=by kernel_rfl
end
end Idl
end Go.Proofs.Ytbkdidonegggdaa

/-
  Texts of a proof, part 9: an ideal semantics of the program, its functions in shallow form, contracts of them. No statement of the seat is proved here.
-/
import Derived.Test.YtdibmackcbpniaaObjTypesK8
set_option linter.all false
set_option maxRecDepth 100000
set_option linter.unusedVariables false
namespace Go.Proofs.Ytdibmackcbpniaa
namespace Idl
noncomputable def S64 (ih : Handler) (n : Nat) (x0 : IV) (x1 : IV) (h2 : Hp) : Option (IV × Hp) :=
  newS 67108864 (.row [.fv (.int .i64 0), .fv (.int .i64 0), .nils] false) (.ptr (.own 67108864) 0) h2 fun x3 h4 _ _ => bldS [.fv (.int .i64 0), .fv (.int .i64 0), .nils] [(0, 1, x0), (2, 1, x1)] fun x7 => storeA 3 x3 x7 h4 fun h8 _ _ => cellS true 3 x3 h8 fun x11 => outS1 [x11] h8
theorem S64_ok (ih : Handler) (n : Nat) (x0 : IV) (x1 : IV) (h2 : Hp) : funS EE ih ft.get n 64 [x0, x1] h2 = S64 ih n x0 x1 h2 := by kernel_rfl
noncomputable def S67_80 (x7 : IV) (h1 : Hp) (h24 : Hp) (x5 : IV) (x23 : IV) (q2 : List IV → Hp → Option (IV × Hp)) : Option (IV × Hp) :=
  addS EE 3 x7 (.fv (.int .i64 1)) fun x25 => dropS (h1.own.map (·.1)) [70260746] [x5, x23, x25] h24 fun h26 => q2 [x5, x23, x25] h26
noncomputable def S67_81 (ih : Handler) (h53 : Hp) (x6 : IV) (x59 : IV) (j1_56 : IV → Hp → Option (IV × Hp)) : Option (IV × Hp) :=
  isoS [] false false ih 96 [x6, .fv (.int .i64 0), x59] h53 fun x61 h62 _ _ => j1_56 x61 h62
noncomputable def S67_82 (r54 : List Ref) (w55 : List Ref) (j1_22 : IV → Hp → Option (IV × Hp)) (x48 : IV) (h53 : Hp) (x49 : IV) (ih : Handler) (x6 : IV) : Option (IV × Hp) :=
  chkS [] r54 w55 ((fun (j1_56 : IV → Hp → Option (IV × Hp)) => condS x48 (loadA 3 x49 h53 fun x59 _ => S67_81 ih h53 x6 x59 j1_56) (j1_56 x6 h53)) fun x57 h58 => j1_22 x57 h58)
noncomputable def S67_83 (x43 : IV) (h44 : Hp) (r45 : List Ref) (w46 : List Ref) (r42 : List Ref) (r38 : List Ref) (w39 : List Ref) (j1_22 : IV → Hp → Option (IV × Hp)) (ih : Handler) (x6 : IV) : Option (IV × Hp) :=
  extS 0 x43 fun x47 => extS 1 x43 fun x48 => newS 70260746 (.row [.fv (.int .i64 0), .fv (.int .i64 0), .nils] false) (.ptr (.own 70260746) 0) h44 fun x49 h50 r51 w52 => chkS [(r45, w46), (r42, []), (r38, w39)] r51 w52 (storeA 3 x49 x47 h50 fun h53 r54 w55 => S67_82 r54 w55 j1_22 x48 h53 x49 ih x6)
noncomputable def S67_84 (x5 : IV) (x7 : IV) (h37 : Hp) (r38 : List Ref) (w39 : List Ref) (ih : Handler) (x6 : IV) (x36 : IV) (j1_22 : IV → Hp → Option (IV × Hp)) : Option (IV × Hp) :=
  ixS 3 x5 x7 fun x40 => loadA 3 x40 h37 fun x41 r42 => chkS [(r38, w39)] r42 [] (isoS [] false false ih 70 [x6, x36, x41, .fv (.int .i64 2)] h37 fun x43 h44 r45 w46 => chkS [] r45 w46 (S67_83 x43 h44 r45 w46 r42 r38 w39 j1_22 ih x6))
noncomputable def S67_85 (ih : Handler) (h32 : Hp) (x6 : IV) (x66 : IV) (j1_22 : IV → Hp → Option (IV × Hp)) : Option (IV × Hp) :=
  isoS [] false false ih 69 [x6, x66, .fv (.int .i64 2)] h32 fun x68 h69 _ _ => isoS [] false false ih 96 [x6, .fv (.int .i64 1), x68] h69 fun x72 h73 _ _ => j1_22 x72 h73
noncomputable def S67_86 (x35 : IV) (ih : Handler) (h32 : Hp) (x5 : IV) (x7 : IV) (x6 : IV) (j1_22 : IV → Hp → Option (IV × Hp)) : Option (IV × Hp) :=
  condS x35 (isoS [] false false ih 30 [.fv (.int .i64 14), .nils] h32 fun x36 h37 r38 w39 => chkS [] r38 w39 (S67_84 x5 x7 h37 r38 w39 ih x6 x36 j1_22)) (ixS 3 x5 x7 fun x65 => loadA 3 x65 h32 fun x66 _ => S67_85 ih h32 x6 x66 j1_22)
noncomputable def S67_87 (x5 : IV) (x7 : IV) (h18 : Hp) (ih : Handler) (x6 : IV) (j1_22 : IV → Hp → Option (IV × Hp)) : Option (IV × Hp) :=
  ixS 3 x5 x7 fun x27 => faddrS 1 x27 fun x28 => load1 x28 h18 fun x29 _ => isoS [] false false ih 41 [x29, .fv (.int .i64 3)] h18 fun x31 h32 _ _ => eqS EE 3 x31 (.fv (.int .i64 0)) fun x35 => S67_86 x35 ih h32 x5 x7 x6 j1_22
noncomputable def S67_88 (h4 : Hp) (x9 : IV) (x7 : IV) (h1 : Hp) (x5 : IV) (q2 : List IV → Hp → Option (IV × Hp)) (ih : Handler) (x6 : IV) : Option (IV × Hp) :=
  guardS x9 true h4 (fun k10 => k10 x7 h4 [] []) fun x11 h12 _ _ => guardS x9 true h12 (fun k15 => ltS EE 3 x11 (.fv (.int .i64 4)) fun x16 => k15 x16 h12 [] []) fun x17 h18 _ _ => pickS x9 x17 (.fv (.bool false)) fun x21 => condS x21 ((fun (j1_22 : IV → Hp → Option (IV × Hp)) => S67_87 x5 x7 h18 ih x6 j1_22) fun x23 h24 => S67_80 x7 h1 h24 x5 x23 q2) (outS1 [x6] h18)
noncomputable def S67_89 (l3 : List IV) (h4 : Hp) (h1 : Hp) (q2 : List IV → Hp → Option (IV × Hp)) (ih : Handler) : Option (IV × Hp) :=
  uncS l3 fun x5 l76 => uncS l76 fun x6 l77 => uncS l77 fun x7 _ => lenS x5 fun x8 => ltS EE 3 x7 x8 fun x9 => S67_88 h4 x9 x7 h1 x5 q2 ih x6
noncomputable def S67 (ih : Handler) (n : Nat) (x0 : IV) (h1 : Hp) : Option (IV × Hp) :=
  dropS (h1.own.map (·.1)) [70260746] [x0, .nils, .fv (.int .i64 0)] h1 fun h79 => loopS n (fun q2 l3 h4 => S67_89 l3 h4 h1 q2 ih) [x0, .nils, .fv (.int .i64 0)] h79
theorem S67_ok (ih : Handler) (n : Nat) (x0 : IV) (h1 : Hp) : funS EE ih ft.get n 67 [x0] h1 = S67 ih n x0 h1 := by kernel_rfl
noncomputable def S68_393 (h25 : Hp) (x13 : IV) (x29 : IV) : Option (IV × Hp) :=
  storeA 3 x13 x29 h25 fun h30 _ _ => cellS true 3 x13 h30 fun x33 => outS1 [x33, .fv (.bool false)] h30
noncomputable def S68_394 (h91 : Hp) (x13 : IV) (x44 : IV) : Option (IV × Hp) :=
  cellS true 3 x13 h91 fun x94 => outS1 [x94, x44] h91
noncomputable def S68_395 (h126 : Hp) (x13 : IV) (x129 : IV) (x130 : IV) : Option (IV × Hp) :=
  storeA 3 x13 x129 h126 fun h131 _ _ => cellS true 3 x13 h131 fun x134 => outS1 [x134, x130] h131
noncomputable def S68_396 (h117 : Hp) (x5 : IV) (x9 : IV) (ih : Handler) (x0 : IV) (x3 : IV) (x13 : IV) : Option (IV × Hp) :=
  loadA 3 x5 h117 fun x121 _ => loadA 3 x9 h117 fun x123 _ => isoS [] false false ih 98 [x0, x121, x123, x3] h117 fun x125 h126 _ _ => extS 0 x125 fun x129 => extS 1 x125 fun x130 => S68_395 h126 x13 x129 x130
noncomputable def S68_397 (h221 : Hp) (x179 : IV) (x201 : IV) (x13 : IV) (x224 : IV) : Option (IV × Hp) :=
  guardS x179 true h221 (fun k225 => k225 x201 h221 [] []) fun x226 h227 _ _ => pickS x179 x226 (.fv (.bool false)) fun x230 => storeA 3 x13 x224 h227 fun h231 r232 w233 => chkS [] r232 w233 (cellS true 3 x13 h231 fun x234 => outS1 [x234, x230] h231)
noncomputable def S68_398 (h213 : Hp) (x202 : IV) (r217 : List Ref) (r214 : List Ref) (w215 : List Ref) (r211 : List Ref) (x216 : IV) (x212 : IV) (x179 : IV) (x201 : IV) (x13 : IV) : Option (IV × Hp) :=
  loadA 3 x202 h213 fun x218 r219 => chkS [(r217, []), (r214, w215), (r211, [])] r219 [] (genS (pcBuildSlice EE 28 2 [(0, x216), (1, x218)]) 71317509 h213 fun x220 h221 r222 w223 => chkS [(r214, w215), (r211, [])] r222 w223 (bldS [.fv (.int .i64 0), .fv (.int .i64 0), .nils] [(0, 1, .fv (.int .i64 26)), (1, 1, x212), (2, 1, x220)] fun x224 => S68_397 h221 x179 x201 x13 x224))
noncomputable def S68_399 (r211 : List Ref) (ih : Handler) (h206 : Hp) (x210 : IV) (x180 : IV) (x202 : IV) (x179 : IV) (x201 : IV) (x13 : IV) : Option (IV × Hp) :=
  chkS [] r211 [] (isoS [] false false ih 41 [x210, .fv (.int .i64 5)] h206 fun x212 h213 r214 w215 => chkS [] r214 w215 (loadA 3 x180 h213 fun x216 r217 => chkS [(r214, w215), (r211, [])] r217 [] (S68_398 h213 x202 r217 r214 w215 r211 x216 x212 x179 x201 x13)))
noncomputable def S68_400 (r204 : List Ref) (w205 : List Ref) (r198 : List Ref) (w199 : List Ref) (r193 : List Ref) (w194 : List Ref) (r190 : List Ref) (r188 : List Ref) (h203 : Hp) (x202 : IV) (x200 : IV) (x9 : IV) (ih : Handler) (x180 : IV) (x179 : IV) (x201 : IV) (x13 : IV) : Option (IV × Hp) :=
  chkS [(r198, w199), (r193, w194), (r190, []), (r188, [])] r204 w205 (storeA 3 x202 x200 h203 fun h206 r207 w208 => chkS [] r207 w208 (faddrS 1 x9 fun x209 => load1 x209 h206 fun x210 r211 => S68_399 r211 ih h206 x210 x180 x202 x179 x201 x13))
noncomputable def S68_401 (ih : Handler) (h192 : Hp) (x0 : IV) (x187 : IV) (x191 : IV) (x195 : IV) (r193 : List Ref) (w194 : List Ref) (r190 : List Ref) (r188 : List Ref) (x9 : IV) (x180 : IV) (x179 : IV) (x13 : IV) : Option (IV × Hp) :=
  isoS [] false false ih 68 [x0, x187, x191, x195] h192 fun x196 h197 r198 w199 => chkS [] r198 w199 (extS 0 x196 fun x200 => extS 1 x196 fun x201 => newS 71316490 (.row [.fv (.int .i64 0), .fv (.int .i64 0), .nils] false) (.ptr (.own 71316490) 0) h197 fun x202 h203 r204 w205 => S68_400 r204 w205 r198 w199 r193 w194 r190 r188 h203 x202 x200 x9 ih x180 x179 x201 x13)
noncomputable def S68_402 (h184 : Hp) (x9 : IV) (r188 : List Ref) (ih : Handler) (x3 : IV) (x0 : IV) (x187 : IV) (x180 : IV) (x179 : IV) (x13 : IV) : Option (IV × Hp) :=
  loadA 3 x9 h184 fun x189 r190 => chkS [(r188, [])] r190 [] (isoS [] false false ih 42 [x189, .fv (.int .i64 1)] h184 fun x191 h192 r193 w194 => chkS [(r188, [])] r193 w194 (subS EE 3 x3 (.fv (.int .i64 1)) fun x195 => S68_401 ih h192 x0 x187 x191 x195 r193 w194 r190 r188 x9 x180 x179 x13))
noncomputable def S68_403 (r182 : List Ref) (w183 : List Ref) (r176 : List Ref) (w177 : List Ref) (r171 : List Ref) (w172 : List Ref) (r168 : List Ref) (r166 : List Ref) (h181 : Hp) (x180 : IV) (x178 : IV) (x5 : IV) (x9 : IV) (ih : Handler) (x3 : IV) (x0 : IV) (x179 : IV) (x13 : IV) : Option (IV × Hp) :=
  chkS [(r176, w177), (r171, w172), (r168, []), (r166, [])] r182 w183 (storeA 3 x180 x178 h181 fun h184 r185 w186 => chkS [] r185 w186 (loadA 3 x5 h184 fun x187 r188 => chkS [] r188 [] (S68_402 h184 x9 r188 ih x3 x0 x187 x180 x179 x13)))
noncomputable def S68_404 (ih : Handler) (h170 : Hp) (x0 : IV) (x165 : IV) (x169 : IV) (x173 : IV) (r171 : List Ref) (w172 : List Ref) (r168 : List Ref) (r166 : List Ref) (x5 : IV) (x9 : IV) (x3 : IV) (x13 : IV) : Option (IV × Hp) :=
  isoS [] false false ih 68 [x0, x165, x169, x173] h170 fun x174 h175 r176 w177 => chkS [] r176 w177 (extS 0 x174 fun x178 => extS 1 x174 fun x179 => newS 71315466 (.row [.fv (.int .i64 0), .fv (.int .i64 0), .nils] false) (.ptr (.own 71315466) 0) h175 fun x180 h181 r182 w183 => S68_403 r182 w183 r176 w177 r171 w172 r168 r166 h181 x180 x178 x5 x9 ih x3 x0 x179 x13)
noncomputable def S68_405 (h161 : Hp) (x9 : IV) (r166 : List Ref) (ih : Handler) (x3 : IV) (x0 : IV) (x165 : IV) (x5 : IV) (x13 : IV) : Option (IV × Hp) :=
  loadA 3 x9 h161 fun x167 r168 => chkS [(r166, [])] r168 [] (isoS [] false false ih 42 [x167, .fv (.int .i64 0)] h161 fun x169 h170 r171 w172 => chkS [(r166, [])] r171 w172 (subS EE 3 x3 (.fv (.int .i64 1)) fun x173 => S68_404 ih h170 x0 x165 x169 x173 r171 w172 r168 r166 x5 x9 x3 x13))
noncomputable def S68_406 (ih : Handler) (h161 : Hp) (x236 : IV) (x13 : IV) : Option (IV × Hp) :=
  isoS [] false false ih 41 [x236, .fv (.int .i64 20)] h161 fun x238 h239 _ _ => subS EE 3 x238 (.fv (.int .i64 5)) fun x242 => isoS [] false false ih 31 [x242] h239 fun x243 h244 _ _ => storeA 3 x13 x243 h244 fun h247 _ _ => cellS true 3 x13 h247 fun x250 => outS1 [x250, .fv (.bool true)] h247
noncomputable def S68_407 (x164 : IV) (h161 : Hp) (x5 : IV) (x9 : IV) (ih : Handler) (x3 : IV) (x0 : IV) (x13 : IV) : Option (IV × Hp) :=
  condS x164 (loadA 3 x5 h161 fun x165 r166 => chkS [] r166 [] (S68_405 h161 x9 r166 ih x3 x0 x165 x5 x13)) (faddrS 1 x9 fun x235 => load1 x235 h161 fun x236 _ => S68_406 ih h161 x236 x13)
noncomputable def S68_408 (h117 : Hp) (x139 : IV) (x9 : IV) (ih : Handler) (x5 : IV) (x3 : IV) (x0 : IV) (x13 : IV) : Option (IV × Hp) :=
  guardS x139 true h117 (fun k140 => faddrS 0 x9 fun x141 => k140 x141 h117 [] []) fun x142 h143 _ _ => guardS x139 true h143 (fun k146 => load1 x142 h143 fun x147 r148 => k146 x147 h143 r148 []) fun x149 h150 _ _ => guardS x139 true h150 (fun k153 => isoS [] false false ih 41 [x149, .fv (.int .i64 2)] h150 k153) fun x154 h155 _ _ => guardS x139 true h155 (fun k158 => eqS EE 3 x154 (.fv (.int .i64 1)) fun x159 => k158 x159 h155 [] []) fun x160 h161 _ _ => pickS x139 x160 (.fv (.bool false)) fun x164 => S68_407 x164 h161 x5 x9 ih x3 x0 x13
noncomputable def S68_409 (r309 : List Ref) (w310 : List Ref) (h308 : Hp) (x13 : IV) (x284 : IV) : Option (IV × Hp) :=
  chkS [] r309 w310 (cellS true 3 x13 h308 fun x311 => outS1 [x311, x284] h308)
noncomputable def S68_410 (h289 : Hp) (x296 : IV) (x298 : IV) (ih : Handler) (x13 : IV) (x284 : IV) : Option (IV × Hp) :=
  genS (pcBuildSlice EE 28 2 [(0, x296), (1, x298)]) 71321605 h289 fun x300 h301 r302 w303 => chkS [] r302 w303 (isoS [] false false ih 30 [.fv (.int .i64 20), x300] h301 fun x304 h305 r306 w307 => chkS [] r306 w307 (storeA 3 x13 x304 h305 fun h308 r309 w310 => S68_409 r309 w310 h308 x13 x284))
noncomputable def S68_411 (x293 : IV) (h289 : Hp) (x285 : IV) (r294 : List Ref) (ih : Handler) (x13 : IV) (x284 : IV) : Option (IV × Hp) :=
  ixS 3 x293 (.fv (.int .i64 0)) fun x295 => loadA 3 x295 h289 fun x296 r297 => chkS [] r297 [] (loadA 3 x285 h289 fun x298 r299 => chkS [(r297, []), (r294, [])] r299 [] (S68_410 h289 x296 x298 ih x13 x284))
noncomputable def S68_412 (h286 : Hp) (x285 : IV) (x283 : IV) (x5 : IV) (ih : Handler) (x13 : IV) (x284 : IV) : Option (IV × Hp) :=
  storeA 3 x285 x283 h286 fun h289 r290 w291 => chkS [] r290 w291 (faddrS 2 x5 fun x292 => load1 x292 h289 fun x293 r294 => chkS [] r294 [] (S68_411 x293 h289 x285 r294 ih x13 x284))
noncomputable def S68_413 (r281 : List Ref) (w282 : List Ref) (x279 : IV) (h280 : Hp) (r276 : List Ref) (w277 : List Ref) (r273 : List Ref) (r270 : List Ref) (w271 : List Ref) (r267 : List Ref) (r264 : List Ref) (r260 : List Ref) (w261 : List Ref) (r257 : List Ref) (r254 : List Ref) (x5 : IV) (ih : Handler) (x13 : IV) : Option (IV × Hp) :=
  chkS [] r281 w282 (extS 0 x279 fun x283 => extS 1 x279 fun x284 => newS 71320595 (.row [.fv (.int .i64 0), .fv (.int .i64 0), .nils] false) (.ptr (.own 71320595) 0) h280 fun x285 h286 r287 w288 => chkS [(r281, w282), (r276, w277), (r273, []), (r270, w271), (r267, []), (r264, []), (r260, w261), (r257, []), (r254, [])] r287 w288 (S68_412 h286 x285 x283 x5 ih x13 x284))
noncomputable def S68_414 (r273 : List Ref) (r270 : List Ref) (w271 : List Ref) (r267 : List Ref) (r264 : List Ref) (r260 : List Ref) (w261 : List Ref) (r257 : List Ref) (r254 : List Ref) (ih : Handler) (h269 : Hp) (x272 : IV) (x3 : IV) (x258 : IV) (x268 : IV) (x5 : IV) (x13 : IV) : Option (IV × Hp) :=
  chkS [(r270, w271), (r267, []), (r264, []), (r260, w261), (r257, []), (r254, [])] r273 [] (isoS [] false false ih 42 [x272, .fv (.int .i64 0)] h269 fun x274 h275 r276 w277 => chkS [] r276 w277 (subS EE 3 x3 (.fv (.int .i64 1)) fun x278 => isoS [] false false ih 68 [x258, x268, x274, x278] h275 fun x279 h280 r281 w282 => S68_413 r281 w282 x279 h280 r276 w277 r273 r270 w271 r267 r264 r260 w261 r257 r254 x5 ih x13))
noncomputable def S68_415 (h259 : Hp) (x265 : IV) (r260 : List Ref) (w261 : List Ref) (r257 : List Ref) (r254 : List Ref) (ih : Handler) (x9 : IV) (r264 : List Ref) (x3 : IV) (x258 : IV) (x5 : IV) (x13 : IV) : Option (IV × Hp) :=
  loadA 3 x265 h259 fun x266 r267 => chkS [(r260, w261), (r257, []), (r254, [])] r267 [] (isoS [] false false ih 28 [x266, .fv (.int .i64 1), .fv (.int .i64 0)] h259 fun x268 h269 r270 w271 => chkS [] r270 w271 (loadA 3 x9 h269 fun x272 r273 => S68_414 r273 r270 w271 r267 r264 r260 w261 r257 r254 ih h269 x272 x3 x258 x268 x5 x13))
noncomputable def S68_416 (r260 : List Ref) (w261 : List Ref) (x5 : IV) (h259 : Hp) (r257 : List Ref) (r254 : List Ref) (ih : Handler) (x9 : IV) (x3 : IV) (x258 : IV) (x13 : IV) : Option (IV × Hp) :=
  chkS [] r260 w261 (faddrS 2 x5 fun x262 => load1 x262 h259 fun x263 r264 => chkS [(r260, w261), (r257, []), (r254, [])] r264 [] (ixS 3 x263 (.fv (.int .i64 1)) fun x265 => S68_415 h259 x265 r260 w261 r257 r254 ih x9 r264 x3 x258 x5 x13))
noncomputable def S68_417 (r254 : List Ref) (x253 : IV) (h117 : Hp) (ih : Handler) (x0 : IV) (x5 : IV) (x9 : IV) (x3 : IV) (x13 : IV) : Option (IV × Hp) :=
  chkS [] r254 [] (ixS 3 x253 (.fv (.int .i64 0)) fun x255 => loadA 3 x255 h117 fun x256 r257 => chkS [] r257 [] (isoS [] false false ih 96 [x0, .fv (.int .i64 0), x256] h117 fun x258 h259 r260 w261 => S68_416 r260 w261 x5 h259 r257 r254 ih x9 x3 x258 x13))
noncomputable def S68_418 (h383 : Hp) (x13 : IV) (x382 : IV) : Option (IV × Hp) :=
  cellS true 3 x13 h383 fun x386 => outS1 [x386, x382] h383
noncomputable def S68_419 (h362 : Hp) (x365 : IV) (x367 : IV) (ih : Handler) (x331 : IV) (x357 : IV) (x13 : IV) : Option (IV × Hp) :=
  genS (pcBuildSlice EE 28 2 [(0, x365), (1, x367)]) 71325698 h362 fun x369 h370 _ _ => isoS [] false false ih 30 [.fv (.int .i64 22), x369] h370 fun x373 h374 _ _ => guardS x331 true h374 (fun k377 => k377 x357 h374 [] []) fun x378 h379 _ _ => pickS x331 x378 (.fv (.bool false)) fun x382 => storeA 3 x13 x373 h379 fun h383 _ _ => S68_418 h383 x13 x382
noncomputable def S68_420 (r360 : List Ref) (w361 : List Ref) (r354 : List Ref) (w355 : List Ref) (r349 : List Ref) (w350 : List Ref) (r346 : List Ref) (r344 : List Ref) (r341 : List Ref) (h359 : Hp) (x358 : IV) (x356 : IV) (x332 : IV) (ih : Handler) (x331 : IV) (x357 : IV) (x13 : IV) : Option (IV × Hp) :=
  chkS [(r354, w355), (r349, w350), (r346, []), (r344, []), (r341, [])] r360 w361 (storeA 3 x358 x356 h359 fun h362 r363 w364 => chkS [] r363 w364 (loadA 3 x332 h362 fun x365 _ => loadA 3 x358 h362 fun x367 _ => S68_419 h362 x365 x367 ih x331 x357 x13))
noncomputable def S68_421 (ih : Handler) (h348 : Hp) (x0 : IV) (x343 : IV) (x347 : IV) (x351 : IV) (r349 : List Ref) (w350 : List Ref) (r346 : List Ref) (r344 : List Ref) (r341 : List Ref) (x332 : IV) (x331 : IV) (x13 : IV) : Option (IV × Hp) :=
  isoS [] false false ih 68 [x0, x343, x347, x351] h348 fun x352 h353 r354 w355 => chkS [] r354 w355 (extS 0 x352 fun x356 => extS 1 x352 fun x357 => newS 71324685 (.row [.fv (.int .i64 0), .fv (.int .i64 0), .nils] false) (.ptr (.own 71324685) 0) h353 fun x358 h359 r360 w361 => S68_420 r360 w361 r354 w355 r349 w350 r346 r344 r341 h359 x358 x356 x332 ih x331 x357 x13)
noncomputable def S68_422 (h336 : Hp) (x9 : IV) (r344 : List Ref) (r341 : List Ref) (ih : Handler) (x3 : IV) (x0 : IV) (x343 : IV) (x332 : IV) (x331 : IV) (x13 : IV) : Option (IV × Hp) :=
  loadA 3 x9 h336 fun x345 r346 => chkS [(r344, []), (r341, [])] r346 [] (isoS [] false false ih 42 [x345, .fv (.int .i64 1)] h336 fun x347 h348 r349 w350 => chkS [(r344, []), (r341, [])] r349 w350 (subS EE 3 x3 (.fv (.int .i64 1)) fun x351 => S68_421 ih h348 x0 x343 x347 x351 r349 w350 r346 r344 r341 x332 x331 x13))
noncomputable def S68_423 (h336 : Hp) (x339 : IV) (x9 : IV) (ih : Handler) (x3 : IV) (x0 : IV) (x332 : IV) (x331 : IV) (x13 : IV) : Option (IV × Hp) :=
  load1 x339 h336 fun x340 r341 => chkS [] r341 [] (ixS 3 x340 (.fv (.int .i64 1)) fun x342 => loadA 3 x342 h336 fun x343 r344 => chkS [] r344 [] (S68_422 h336 x9 r344 r341 ih x3 x0 x343 x332 x331 x13))
noncomputable def S68_424 (h327 : Hp) (r328 : List Ref) (w329 : List Ref) (r323 : List Ref) (w324 : List Ref) (r320 : List Ref) (r318 : List Ref) (r315 : List Ref) (x330 : IV) (x5 : IV) (x9 : IV) (ih : Handler) (x3 : IV) (x0 : IV) (x331 : IV) (x13 : IV) : Option (IV × Hp) :=
  newS 71323661 (.row [.fv (.int .i64 0), .fv (.int .i64 0), .nils] false) (.ptr (.own 71323661) 0) h327 fun x332 h333 r334 w335 => chkS [(r328, w329), (r323, w324), (r320, []), (r318, []), (r315, [])] r334 w335 (storeA 3 x332 x330 h333 fun h336 r337 w338 => chkS [] r337 w338 (faddrS 2 x5 fun x339 => S68_423 h336 x339 x9 ih x3 x0 x332 x331 x13))
noncomputable def S68_425 (x3 : IV) (ih : Handler) (h322 : Hp) (x0 : IV) (x317 : IV) (x321 : IV) (r323 : List Ref) (w324 : List Ref) (r320 : List Ref) (r318 : List Ref) (r315 : List Ref) (x5 : IV) (x9 : IV) (x13 : IV) : Option (IV × Hp) :=
  subS EE 3 x3 (.fv (.int .i64 1)) fun x325 => isoS [] false false ih 68 [x0, x317, x321, x325] h322 fun x326 h327 r328 w329 => chkS [] r328 w329 (extS 0 x326 fun x330 => extS 1 x326 fun x331 => S68_424 h327 r328 w329 r323 w324 r320 r318 r315 x330 x5 x9 ih x3 x0 x331 x13)
noncomputable def S68_426 (r318 : List Ref) (h117 : Hp) (x9 : IV) (r315 : List Ref) (ih : Handler) (x3 : IV) (x0 : IV) (x317 : IV) (x5 : IV) (x13 : IV) : Option (IV × Hp) :=
  chkS [] r318 [] (loadA 3 x9 h117 fun x319 r320 => chkS [(r318, []), (r315, [])] r320 [] (isoS [] false false ih 42 [x319, .fv (.int .i64 0)] h117 fun x321 h322 r323 w324 => chkS [(r318, []), (r315, [])] r323 w324 (S68_425 x3 ih h322 x0 x317 x321 r323 w324 r320 r318 r315 x5 x9 x13)))
noncomputable def S68_427 (x5 : IV) (h117 : Hp) (x9 : IV) (ih : Handler) (x3 : IV) (x0 : IV) (x13 : IV) : Option (IV × Hp) :=
  faddrS 2 x5 fun x313 => load1 x313 h117 fun x314 r315 => chkS [] r315 [] (ixS 3 x314 (.fv (.int .i64 0)) fun x316 => loadA 3 x316 h117 fun x317 r318 => S68_426 r318 h117 x9 r315 ih x3 x0 x317 x5 x13)
noncomputable def S68_428 (h117 : Hp) (x45 : IV) (x13 : IV) (x44 : IV) : Option (IV × Hp) :=
  loadA 3 x45 h117 fun x387 _ => storeA 3 x13 x387 h117 fun h389 _ _ => cellS true 3 x13 h389 fun x392 => outS1 [x392, x44] h389
noncomputable def S68_429 (x251 : IV) (x5 : IV) (h117 : Hp) (ih : Handler) (x0 : IV) (x9 : IV) (x3 : IV) (x13 : IV) (x136 : IV) (x45 : IV) (x44 : IV) : Option (IV × Hp) :=
  condS x251 (faddrS 2 x5 fun x252 => load1 x252 h117 fun x253 r254 => S68_417 r254 x253 h117 ih x0 x5 x9 x3 x13) (eqS EE 3 x136 (.fv (.int .i64 17)) fun x312 => condS x312 (S68_427 x5 h117 x9 ih x3 x0 x13) (S68_428 h117 x45 x13 x44))
noncomputable def S68_430 (x5 : IV) (h117 : Hp) (x3 : IV) (x9 : IV) (ih : Handler) (x0 : IV) (x13 : IV) (x45 : IV) (x44 : IV) : Option (IV × Hp) :=
  faddrS 0 x5 fun x135 => load1 x135 h117 fun x136 _ => eqS EE 3 x136 (.fv (.int .i64 15)) fun x138 => condS x138 (gtS EE 3 x3 (.fv (.int .i64 0)) fun x139 => S68_408 h117 x139 x9 ih x5 x3 x0 x13) (eqS EE 3 x136 (.fv (.int .i64 16)) fun x251 => S68_429 x251 x5 h117 ih x0 x9 x3 x13 x136 x45 x44)
noncomputable def S68_431 (h99 : Hp) (x95 : IV) (x98 : IV) (ih : Handler) (x5 : IV) (x9 : IV) (x0 : IV) (x3 : IV) (x13 : IV) (x45 : IV) (x44 : IV) : Option (IV × Hp) :=
  guardS x95 true h99 (fun k102 => load1 x98 h99 fun x103 r104 => k102 x103 h99 r104 []) fun x105 h106 _ _ => guardS x95 true h106 (fun k109 => isoS [] false false ih 41 [x105, .fv (.int .i64 3)] h106 k109) fun x110 h111 _ _ => guardS x95 true h111 (fun k114 => eqS EE 3 x110 (.fv (.int .i64 1)) fun x115 => k114 x115 h111 [] []) fun x116 h117 _ _ => pickS x95 x116 (.fv (.bool false)) fun x120 => condS x120 (S68_396 h117 x5 x9 ih x0 x3 x13) (S68_430 x5 h117 x3 x9 ih x0 x13 x45 x44)
noncomputable def S68_432 (x88 : IV) (h85 : Hp) (x45 : IV) (x13 : IV) (x44 : IV) (x3 : IV) (x9 : IV) (ih : Handler) (x5 : IV) (x0 : IV) : Option (IV × Hp) :=
  condS x88 (loadA 3 x45 h85 fun x89 _ => storeA 3 x13 x89 h85 fun h91 _ _ => S68_394 h91 x13 x44) (gtS EE 3 x3 (.fv (.int .i64 0)) fun x95 => guardS x95 true h85 (fun k96 => faddrS 0 x9 fun x97 => k96 x97 h85 [] []) fun x98 h99 _ _ => S68_431 h99 x95 x98 ih x5 x9 x0 x3 x13 x45 x44)
noncomputable def S68_433 (h67 : Hp) (x44 : IV) (x66 : IV) (x3 : IV) (x45 : IV) (x13 : IV) (x9 : IV) (ih : Handler) (x5 : IV) (x0 : IV) : Option (IV × Hp) :=
  guardS x44 true h67 (fun k70 => eqS EE 3 x66 (.fv (.int .i64 0)) fun x71 => k70 x71 h67 [] []) fun x72 h73 _ _ => pickS x44 x72 (.fv (.bool false)) fun x76 => guardS x76 false h73 (fun k77 => k77 x3 h73 [] []) fun x78 h79 _ _ => guardS x76 false h79 (fun k82 => ltS EE 3 x78 (.fv (.int .i64 (-4))) fun x83 => k82 x83 h79 [] []) fun x84 h85 _ _ => pickS x76 (.fv (.bool true)) x84 fun x88 => S68_432 x88 h85 x45 x13 x44 x3 x9 ih x5 x0
noncomputable def S68_434 (h40 : Hp) (x43 : IV) (x44 : IV) (x9 : IV) (ih : Handler) (x3 : IV) (x13 : IV) (x5 : IV) (x0 : IV) : Option (IV × Hp) :=
  newS 71307272 (.row [.fv (.int .i64 0), .fv (.int .i64 0), .nils] false) (.ptr (.own 71307272) 0) h40 fun x45 h46 _ _ => storeA 3 x45 x43 h46 fun h49 _ _ => guardS x44 true h49 (fun k52 => faddrS 0 x9 fun x53 => k52 x53 h49 [] []) fun x54 h55 _ _ => guardS x44 true h55 (fun k58 => load1 x54 h55 fun x59 r60 => k58 x59 h55 r60 []) fun x61 h62 _ _ => guardS x44 true h62 (fun k65 => isoS [] false false ih 41 [x61, .fv (.int .i64 3)] h62 k65) fun x66 h67 _ _ => S68_433 h67 x44 x66 x3 x45 x13 x9 ih x5 x0
noncomputable def S68_435 (x9 : IV) (h25 : Hp) (ih : Handler) (x0 : IV) (x34 : IV) (x3 : IV) (x13 : IV) (x5 : IV) : Option (IV × Hp) :=
  faddrS 1 x9 fun x36 => load1 x36 h25 fun x37 _ => isoS [] false false ih 97 [x0, .fv (.int .i64 0), x34, x37] h25 fun x39 h40 _ _ => extS 0 x39 fun x43 => extS 1 x39 fun x44 => S68_434 h40 x43 x44 x9 ih x3 x13 x5 x0
noncomputable def S68_436 (x19 : IV) (h20 : Hp) (x5 : IV) (x23 : IV) (x13 : IV) (x9 : IV) (ih : Handler) (x0 : IV) (x3 : IV) : Option (IV × Hp) :=
  extS 1 x19 fun x24 => storeA 3 x5 x23 h20 fun h25 _ _ => neS EE 3 x24 (.fv (.int .i64 0)) fun x28 => condS x28 (bldS [.fv (.int .i64 0), .fv (.int .i64 0), .nils] [] fun x29 => S68_393 h25 x13 x29) (loadA 3 x5 h25 fun x34 _ => S68_435 x9 h25 ih x0 x34 x3 x13 x5)
noncomputable def S68 (ih : Handler) (n : Nat) (x0 : IV) (x1 : IV) (x2 : IV) (x3 : IV) (h4 : Hp) : Option (IV × Hp) :=
  boxS 71303168 x1 h4 fun x5 h6 _ _ => boxS 71303169 x2 h6 fun x9 h10 _ _ => newS 71303170 (.row [.fv (.int .i64 0), .fv (.int .i64 0), .nils] false) (.ptr (.own 71303170) 0) h10 fun x13 h14 _ _ => loadA 3 x5 h14 fun x17 _ => isoS [] false false ih 58 [x17] h14 fun x19 h20 _ _ => extS 0 x19 fun x23 => S68_436 x19 h20 x5 x23 x13 x9 ih x0 x3
theorem S68_ok (ih : Handler) (n : Nat) (x0 : IV) (x1 : IV) (x2 : IV) (x3 : IV) (h4 : Hp) : funS EE ih ft.get n 68 [x0, x1, x2, x3] h4 = S68 ih n x0 x1 x2 x3 h4 := by kernel_rfl
noncomputable def S69_237 (h29 : Hp) (x8 : IV) : Option (IV × Hp) :=
  cellS true 3 x8 h29 fun x32 => outS1 [x32] h29
noncomputable def S69_238 (ih : Handler) (h24 : Hp) (x8 : IV) : Option (IV × Hp) :=
  isoS [] false false ih 30 [.fv (.int .i64 14), .nils] h24 fun x34 h35 _ _ => storeA 3 x8 x34 h35 fun h38 _ _ => cellS true 3 x8 h38 fun x41 => outS1 [x41] h38
noncomputable def S69_239 (h46 : Hp) (x45 : IV) (ih : Handler) (x8 : IV) : Option (IV × Hp) :=
  genS (pcBuildSlice EE 28 1 [(0, x45)]) 72363010 h46 fun x49 h50 _ _ => isoS [] false false ih 30 [.fv (.int .i64 18), x49] h50 fun x53 h54 _ _ => storeA 3 x8 x53 h54 fun h57 _ _ => cellS true 3 x8 h57 fun x60 => outS1 [x60] h57
noncomputable def S69_240 (ih : Handler) (h24 : Hp) (x8 : IV) : Option (IV × Hp) :=
  isoS [] false false ih 60 [.fv (.int .i64 0)] h24 fun x62 h63 _ _ => storeA 3 x8 x62 h63 fun h66 _ _ => cellS true 3 x8 h66 fun x69 => outS1 [x69] h66
noncomputable def S69_241 (r116 : List Ref) (w117 : List Ref) (h115 : Hp) (x8 : IV) (x114 : IV) : Option (IV × Hp) :=
  chkS [] r116 w117 (storeA 3 x8 x114 h115 fun h118 r119 w120 => chkS [] r119 w120 (cellS true 3 x8 h118 fun x121 => outS1 [x121] h118))
noncomputable def S69_242 (ih : Handler) (h102 : Hp) (x95 : IV) (x101 : IV) (x105 : IV) (r92 : List Ref) (x91 : IV) (x8 : IV) : Option (IV × Hp) :=
  isoS [] false false ih 69 [x95, x101, x105] h102 fun x106 h107 r108 w109 => chkS [(r92, [])] r108 w109 (genS (pcBuildSlice EE 28 2 [(0, x91), (1, x106)]) 72369161 h107 fun x110 h111 r112 w113 => chkS [] r112 w113 (isoS [] false false ih 30 [.fv (.int .i64 3), x110] h111 fun x114 h115 r116 w117 => S69_241 r116 w117 h115 x8 x114))
noncomputable def S69_243 (h96 : Hp) (x4 : IV) (r97 : List Ref) (w98 : List Ref) (r94 : List Ref) (r92 : List Ref) (ih : Handler) (x2 : IV) (x95 : IV) (x91 : IV) (x8 : IV) : Option (IV × Hp) :=
  loadA 3 x4 h96 fun x99 r100 => chkS [(r97, w98), (r94, []), (r92, [])] r100 [] (isoS [] false false ih 42 [x99, .fv (.int .i64 1)] h96 fun x101 h102 r103 w104 => chkS [(r92, [])] r103 w104 (subS EE 3 x2 (.fv (.int .i64 1)) fun x105 => S69_242 ih h102 x95 x101 x105 r92 x91 x8))
noncomputable def S69_244 (r92 : List Ref) (h88 : Hp) (x84 : IV) (ih : Handler) (x0 : IV) (x4 : IV) (x2 : IV) (x91 : IV) (x8 : IV) : Option (IV × Hp) :=
  chkS [] r92 [] (loadA 3 x84 h88 fun x93 r94 => chkS [(r92, [])] r94 [] (isoS [] false false ih 96 [x0, .fv (.int .i64 1), x93] h88 fun x95 h96 r97 w98 => chkS [(r92, [])] r97 w98 (S69_243 h96 x4 r97 w98 r94 r92 ih x2 x95 x91 x8)))
noncomputable def S69_245 (x2 : IV) (ih : Handler) (h76 : Hp) (x0 : IV) (x75 : IV) (x4 : IV) (x8 : IV) : Option (IV × Hp) :=
  subS EE 3 x2 (.fv (.int .i64 1)) fun x79 => isoS [] false false ih 69 [x0, x75, x79] h76 fun x80 h81 _ _ => newS 72368134 (.row [.fv (.int .i64 0), .fv (.int .i64 0), .nils] false) (.ptr (.own 72368134) 0) h81 fun x84 h85 _ _ => storeA 3 x84 x80 h85 fun h88 _ _ => loadA 3 x84 h88 fun x91 r92 => S69_244 r92 h88 x84 ih x0 x4 x2 x91 x8
noncomputable def S69_246 (h168 : Hp) (x8 : IV) : Option (IV × Hp) :=
  cellS true 3 x8 h168 fun x171 => outS1 [x171] h168
noncomputable def S69_247 (r162 : List Ref) (w163 : List Ref) (ih : Handler) (h161 : Hp) (x160 : IV) (x8 : IV) : Option (IV × Hp) :=
  chkS [] r162 w163 (isoS [] false false ih 30 [.fv (.int .i64 6), x160] h161 fun x164 h165 r166 w167 => chkS [] r166 w167 (storeA 3 x8 x164 h165 fun h168 r169 w170 => chkS [] r169 w170 (S69_246 h168 x8)))
noncomputable def S69_248 (r153 : List Ref) (w154 : List Ref) (r142 : List Ref) (x2 : IV) (ih : Handler) (h152 : Hp) (x145 : IV) (x151 : IV) (x141 : IV) (x8 : IV) : Option (IV × Hp) :=
  chkS [(r142, [])] r153 w154 (subS EE 3 x2 (.fv (.int .i64 1)) fun x155 => isoS [] false false ih 69 [x145, x151, x155] h152 fun x156 h157 r158 w159 => chkS [(r142, [])] r158 w159 (genS (pcBuildSlice EE 28 2 [(0, x141), (1, x156)]) 72372233 h157 fun x160 h161 r162 w163 => S69_247 r162 w163 ih h161 x160 x8))
noncomputable def S69_249 (ih : Handler) (h138 : Hp) (x0 : IV) (x143 : IV) (r142 : List Ref) (x4 : IV) (r144 : List Ref) (x2 : IV) (x141 : IV) (x8 : IV) : Option (IV × Hp) :=
  isoS [] false false ih 96 [x0, .fv (.int .i64 1), x143] h138 fun x145 h146 r147 w148 => chkS [(r142, [])] r147 w148 (loadA 3 x4 h146 fun x149 r150 => chkS [(r147, w148), (r144, []), (r142, [])] r150 [] (isoS [] false false ih 42 [x149, .fv (.int .i64 1)] h146 fun x151 h152 r153 w154 => S69_248 r153 w154 r142 x2 ih h152 x145 x151 x141 x8))
noncomputable def S69_250 (h135 : Hp) (x134 : IV) (x130 : IV) (ih : Handler) (x0 : IV) (x4 : IV) (x2 : IV) (x8 : IV) : Option (IV × Hp) :=
  storeA 3 x134 x130 h135 fun h138 _ _ => loadA 3 x134 h138 fun x141 r142 => chkS [] r142 [] (loadA 3 x134 h138 fun x143 r144 => chkS [(r142, [])] r144 [] (S69_249 ih h138 x0 x143 r142 x4 r144 x2 x141 x8))
noncomputable def S69_251 (h72 : Hp) (x4 : IV) (ih : Handler) (x2 : IV) (x0 : IV) (x8 : IV) : Option (IV × Hp) :=
  loadA 3 x4 h72 fun x123 _ => isoS [] false false ih 42 [x123, .fv (.int .i64 0)] h72 fun x125 h126 _ _ => subS EE 3 x2 (.fv (.int .i64 1)) fun x129 => isoS [] false false ih 69 [x0, x125, x129] h126 fun x130 h131 _ _ => newS 72371206 (.row [.fv (.int .i64 0), .fv (.int .i64 0), .nils] false) (.ptr (.own 72371206) 0) h131 fun x134 h135 _ _ => S69_250 h135 x134 x130 ih x0 x4 x2 x8
noncomputable def S69_252 (h201 : Hp) (x8 : IV) : Option (IV × Hp) :=
  cellS true 3 x8 h201 fun x204 => outS1 [x204] h201
noncomputable def S69_253 (ih : Handler) (h208 : Hp) (x207 : IV) (x8 : IV) : Option (IV × Hp) :=
  isoS [] false false ih 30 [.fv (.int .i64 18), x207] h208 fun x211 h212 _ _ => storeA 3 x8 x211 h212 fun h215 _ _ => cellS true 3 x8 h215 fun x218 => outS1 [x218] h215
noncomputable def S69_254 (x188 : IV) (ih : Handler) (h193 : Hp) (x8 : IV) (x189 : IV) : Option (IV × Hp) :=
  optS (unR .not x188) fun x196 => condS x196 (isoS [] false false ih 99 [] h193 fun x197 h198 _ _ => storeA 3 x8 x197 h198 fun h201 _ _ => S69_252 h201 x8) (loadA 3 x189 h193 fun x205 _ => genS (pcBuildSlice EE 28 1 [(0, x205)]) 72376321 h193 fun x207 h208 _ _ => S69_253 ih h208 x207 x8)
noncomputable def S69_255 (x183 : IV) (h184 : Hp) (r185 : List Ref) (w186 : List Ref) (r180 : List Ref) (w181 : List Ref) (r177 : List Ref) (r174 : List Ref) (w175 : List Ref) (x187 : IV) (ih : Handler) (x8 : IV) : Option (IV × Hp) :=
  extS 1 x183 fun x188 => newS 72373258 (.row [.fv (.int .i64 0), .fv (.int .i64 0), .nils] false) (.ptr (.own 72373258) 0) h184 fun x189 h190 r191 w192 => chkS [(r185, w186), (r180, w181), (r177, []), (r174, w175)] r191 w192 (storeA 3 x189 x187 h190 fun h193 r194 w195 => chkS [] r194 w195 (S69_254 x188 ih h193 x8 x189))
noncomputable def S69_256 (r180 : List Ref) (w181 : List Ref) (x2 : IV) (ih : Handler) (h179 : Hp) (x0 : IV) (x172 : IV) (x178 : IV) (r177 : List Ref) (r174 : List Ref) (w175 : List Ref) (x8 : IV) : Option (IV × Hp) :=
  chkS [] r180 w181 (subS EE 3 x2 (.fv (.int .i64 1)) fun x182 => isoS [] false false ih 70 [x0, x172, x178, x182] h179 fun x183 h184 r185 w186 => chkS [] r185 w186 (extS 0 x183 fun x187 => S69_255 x183 h184 r185 w186 r180 w181 r177 r174 w175 x187 ih x8))
noncomputable def S69_257 (ih : Handler) (h72 : Hp) (x4 : IV) (x2 : IV) (x0 : IV) (x8 : IV) : Option (IV × Hp) :=
  isoS [] false false ih 30 [.fv (.int .i64 14), .nils] h72 fun x172 h173 r174 w175 => chkS [] r174 w175 (loadA 3 x4 h173 fun x176 r177 => chkS [(r174, w175)] r177 [] (isoS [] false false ih 42 [x176, .fv (.int .i64 0)] h173 fun x178 h179 r180 w181 => S69_256 r180 w181 x2 ih h179 x0 x172 x178 r177 r174 w175 x8))
noncomputable def S69_258 (x71 : IV) (h72 : Hp) (x4 : IV) (ih : Handler) (x2 : IV) (x0 : IV) (x8 : IV) (x20 : IV) : Option (IV × Hp) :=
  condS x71 (loadA 3 x4 h72 fun x73 _ => isoS [] false false ih 42 [x73, .fv (.int .i64 0)] h72 fun x75 h76 _ _ => S69_245 x2 ih h76 x0 x75 x4 x8) (eqS EE 3 x20 (.fv (.int .i64 7)) fun x122 => condS x122 (S69_251 h72 x4 ih x2 x0 x8) (S69_257 ih h72 x4 x2 x0 x8))
noncomputable def S69_259 (x4 : IV) (ih : Handler) (x2 : IV) (x0 : IV) (x8 : IV) (x20 : IV) (h24 : Hp) : Option (IV × Hp) :=
  (fun (j1_70 : IV → Hp → Option (IV × Hp)) => eqS EE 3 x20 (.fv (.int .i64 5)) fun x219 => condS x219 (j1_70 x219 h24) (eqS EE 3 x20 (.fv (.int .i64 6)) fun x220 => j1_70 x220 h24)) fun x71 h72 => S69_258 x71 h72 x4 ih x2 x0 x8 x20
noncomputable def S69_260 (x20 : IV) (h24 : Hp) (x4 : IV) (ih : Handler) (x8 : IV) (x2 : IV) (x0 : IV) : Option (IV × Hp) :=
  eqS EE 3 x20 (.fv (.int .i64 3)) fun x42 => condS x42 (loadA 3 x4 h24 fun x43 _ => isoS [] false false ih 14 [x43, .fv (.int .i64 1)] h24 fun x45 h46 _ _ => S69_239 h46 x45 ih x8) (eqS EE 3 x20 (.fv (.int .i64 4)) fun x61 => condS x61 (S69_240 ih h24 x8) (S69_259 x4 ih x2 x0 x8 x20 h24))
noncomputable def S69_261 (x23 : IV) (ih : Handler) (h24 : Hp) (x8 : IV) (x20 : IV) (x4 : IV) (x2 : IV) (x0 : IV) : Option (IV × Hp) :=
  condS x23 (isoS [] false false ih 99 [] h24 fun x25 h26 _ _ => storeA 3 x8 x25 h26 fun h29 _ _ => S69_237 h29 x8) (eqS EE 3 x20 (.fv (.int .i64 2)) fun x33 => condS x33 (S69_238 ih h24 x8) (S69_260 x20 h24 x4 ih x8 x2 x0))
noncomputable def S69_262 (ih : Handler) (x8 : IV) (x20 : IV) (x4 : IV) (x2 : IV) (x0 : IV) (h21 : Hp) : Option (IV × Hp) :=
  (fun (j1_22 : IV → Hp → Option (IV × Hp)) => eqS EE 3 x20 (.fv (.int .i64 0)) fun x221 => condS x221 (j1_22 x221 h21) (eqS EE 3 x20 (.fv (.int .i64 1)) fun x222 => j1_22 x222 h21)) fun x23 h24 => S69_261 x23 ih h24 x8 x20 x4 x2 x0
noncomputable def S69_263 (x15 : IV) (j1_19 : IV → Hp → Option (IV × Hp)) (h232 : Hp) : Option (IV × Hp) :=
  binS EE 3 .rem x15 (.fv (.int .i64 5)) fun x236 => j1_19 x236 h232
noncomputable def S69_264 (x2 : IV) (h16 : Hp) (x15 : IV) (j1_19 : IV → Hp → Option (IV × Hp)) : Option (IV × Hp) :=
  leS EE 3 x2 (.fv (.int .i64 0)) fun x223 => guardS x223 true h16 (fun k224 => k224 x15 h16 [] []) fun x225 h226 _ _ => guardS x223 true h226 (fun k229 => gtS EE 3 x225 (.fv (.int .i64 4)) fun x230 => k229 x230 h226 [] []) fun x231 h232 _ _ => pickS x223 x231 (.fv (.bool false)) fun x235 => condS x235 (S69_263 x15 j1_19 h232) (j1_19 x15 h232)
noncomputable def S69 (ih : Handler) (n : Nat) (x0 : IV) (x1 : IV) (x2 : IV) (h3 : Hp) : Option (IV × Hp) :=
  boxS 72351744 x1 h3 fun x4 h5 _ _ => newS 72351745 (.row [.fv (.int .i64 0), .fv (.int .i64 0), .nils] false) (.ptr (.own 72351745) 0) h5 fun x8 h9 _ _ => faddrS 0 x4 fun x12 => load1 x12 h9 fun x13 _ => isoS [] false false ih 41 [x13, .fv (.int .i64 9)] h9 fun x15 h16 _ _ => (fun (j1_19 : IV → Hp → Option (IV × Hp)) => S69_264 x2 h16 x15 j1_19) fun x20 h21 => S69_262 ih x8 x20 x4 x2 x0 h21
theorem S69_ok (ih : Handler) (n : Nat) (x0 : IV) (x1 : IV) (x2 : IV) (h3 : Hp) : funS EE ih ft.get n 69 [x0, x1, x2] h3 = S69 ih n x0 x1 x2 h3 := by kernel_rfl
noncomputable def S70_346 (h25 : Hp) (x13 : IV) (x29 : IV) : Option (IV × Hp) :=
  storeA 3 x13 x29 h25 fun h30 _ _ => cellS true 3 x13 h30 fun x33 => outS1 [x33, .fv (.bool false)] h30
noncomputable def S70_347 (h91 : Hp) (x13 : IV) (x44 : IV) : Option (IV × Hp) :=
  cellS true 3 x13 h91 fun x94 => outS1 [x94, x44] h91
noncomputable def S70_348 (h126 : Hp) (x13 : IV) (x129 : IV) (x130 : IV) : Option (IV × Hp) :=
  storeA 3 x13 x129 h126 fun h131 _ _ => cellS true 3 x13 h131 fun x134 => outS1 [x134, x130] h131
noncomputable def S70_349 (h117 : Hp) (x5 : IV) (x9 : IV) (ih : Handler) (x0 : IV) (x3 : IV) (x13 : IV) : Option (IV × Hp) :=
  loadA 3 x5 h117 fun x121 _ => loadA 3 x9 h117 fun x123 _ => isoS [] false false ih 100 [x0, x121, x123, x3] h117 fun x125 h126 _ _ => extS 0 x125 fun x129 => extS 1 x125 fun x130 => S70_348 h126 x13 x129 x130
noncomputable def S70_350 (ih : Handler) (h140 : Hp) (x0 : IV) (x141 : IV) (x143 : IV) (x3 : IV) (x13 : IV) : Option (IV × Hp) :=
  isoS [] false false ih 101 [x0, x141, x143, x3] h140 fun x145 h146 _ _ => extS 0 x145 fun x149 => extS 1 x145 fun x150 => storeA 3 x13 x149 h146 fun h151 _ _ => cellS true 3 x13 h151 fun x154 => outS1 [x154, x150] h151
noncomputable def S70_351 (r209 : List Ref) (w210 : List Ref) (h208 : Hp) (x13 : IV) (x184 : IV) : Option (IV × Hp) :=
  chkS [] r209 w210 (cellS true 3 x13 h208 fun x211 => outS1 [x211, x184] h208)
noncomputable def S70_352 (h189 : Hp) (x196 : IV) (x198 : IV) (ih : Handler) (x13 : IV) (x184 : IV) : Option (IV × Hp) :=
  genS (pcBuildSlice EE 28 2 [(0, x196), (1, x198)]) 73416709 h189 fun x200 h201 r202 w203 => chkS [] r202 w203 (isoS [] false false ih 30 [.fv (.int .i64 4), x200] h201 fun x204 h205 r206 w207 => chkS [] r206 w207 (storeA 3 x13 x204 h205 fun h208 r209 w210 => S70_351 r209 w210 h208 x13 x184))
noncomputable def S70_353 (x193 : IV) (h189 : Hp) (x185 : IV) (r194 : List Ref) (ih : Handler) (x13 : IV) (x184 : IV) : Option (IV × Hp) :=
  ixS 3 x193 (.fv (.int .i64 0)) fun x195 => loadA 3 x195 h189 fun x196 r197 => chkS [] r197 [] (loadA 3 x185 h189 fun x198 r199 => chkS [(r197, []), (r194, [])] r199 [] (S70_352 h189 x196 x198 ih x13 x184))
noncomputable def S70_354 (h186 : Hp) (x185 : IV) (x183 : IV) (x5 : IV) (ih : Handler) (x13 : IV) (x184 : IV) : Option (IV × Hp) :=
  storeA 3 x185 x183 h186 fun h189 r190 w191 => chkS [] r190 w191 (faddrS 2 x5 fun x192 => load1 x192 h189 fun x193 r194 => chkS [] r194 [] (S70_353 x193 h189 x185 r194 ih x13 x184))
noncomputable def S70_355 (r181 : List Ref) (w182 : List Ref) (x179 : IV) (h180 : Hp) (r176 : List Ref) (w177 : List Ref) (r173 : List Ref) (r171 : List Ref) (r168 : List Ref) (r164 : List Ref) (w165 : List Ref) (r161 : List Ref) (r158 : List Ref) (x5 : IV) (ih : Handler) (x13 : IV) : Option (IV × Hp) :=
  chkS [] r181 w182 (extS 0 x179 fun x183 => extS 1 x179 fun x184 => newS 73415698 (.row [.fv (.int .i64 0), .fv (.int .i64 0), .nils] false) (.ptr (.own 73415698) 0) h180 fun x185 h186 r187 w188 => chkS [(r181, w182), (r176, w177), (r173, []), (r171, []), (r168, []), (r164, w165), (r161, []), (r158, [])] r187 w188 (S70_354 h186 x185 x183 x5 ih x13 x184))
noncomputable def S70_356 (r173 : List Ref) (r171 : List Ref) (r168 : List Ref) (r164 : List Ref) (w165 : List Ref) (r161 : List Ref) (r158 : List Ref) (ih : Handler) (h163 : Hp) (x172 : IV) (x3 : IV) (x162 : IV) (x170 : IV) (x5 : IV) (x13 : IV) : Option (IV × Hp) :=
  chkS [(r171, []), (r168, []), (r164, w165), (r161, []), (r158, [])] r173 [] (isoS [] false false ih 42 [x172, .fv (.int .i64 0)] h163 fun x174 h175 r176 w177 => chkS [(r171, []), (r168, [])] r176 w177 (subS EE 3 x3 (.fv (.int .i64 1)) fun x178 => isoS [] false false ih 70 [x162, x170, x174, x178] h175 fun x179 h180 r181 w182 => S70_355 r181 w182 x179 h180 r176 w177 r173 r171 r168 r164 w165 r161 r158 x5 ih x13))
noncomputable def S70_357 (r168 : List Ref) (r164 : List Ref) (w165 : List Ref) (r161 : List Ref) (r158 : List Ref) (x167 : IV) (h163 : Hp) (x9 : IV) (ih : Handler) (x3 : IV) (x162 : IV) (x5 : IV) (x13 : IV) : Option (IV × Hp) :=
  chkS [(r164, w165), (r161, []), (r158, [])] r168 [] (ixS 3 x167 (.fv (.int .i64 1)) fun x169 => loadA 3 x169 h163 fun x170 r171 => chkS [(r164, w165), (r161, []), (r158, [])] r171 [] (loadA 3 x9 h163 fun x172 r173 => S70_356 r173 r171 r168 r164 w165 r161 r158 ih h163 x172 x3 x162 x170 x5 x13))
noncomputable def S70_358 (r161 : List Ref) (ih : Handler) (h140 : Hp) (x0 : IV) (x160 : IV) (x5 : IV) (r158 : List Ref) (x9 : IV) (x3 : IV) (x13 : IV) : Option (IV × Hp) :=
  chkS [] r161 [] (isoS [] false false ih 96 [x0, .fv (.int .i64 1), x160] h140 fun x162 h163 r164 w165 => chkS [] r164 w165 (faddrS 2 x5 fun x166 => load1 x166 h163 fun x167 r168 => S70_357 r168 r164 w165 r161 r158 x167 h163 x9 ih x3 x162 x5 x13))
noncomputable def S70_359 (x5 : IV) (h140 : Hp) (ih : Handler) (x0 : IV) (x9 : IV) (x3 : IV) (x13 : IV) : Option (IV × Hp) :=
  faddrS 2 x5 fun x156 => load1 x156 h140 fun x157 r158 => chkS [] r158 [] (ixS 3 x157 (.fv (.int .i64 0)) fun x159 => loadA 3 x159 h140 fun x160 r161 => S70_358 r161 ih h140 x0 x160 x5 r158 x9 x3 x13)
noncomputable def S70_360 (h236 : Hp) (x13 : IV) (x240 : IV) (x44 : IV) : Option (IV × Hp) :=
  storeA 3 x13 x240 h236 fun h242 _ _ => cellS true 3 x13 h242 fun x245 => outS1 [x245, x44] h242
noncomputable def S70_361 (h275 : Hp) (x278 : IV) (x280 : IV) (x282 : IV) (ih : Handler) (x13 : IV) (x270 : IV) : Option (IV × Hp) :=
  genS (pcBuildSlice EE 28 3 [(0, x278), (1, x280), (2, x282)]) 73422851 h275 fun x284 h285 _ _ => isoS [] false false ih 30 [.fv (.int .i64 7), x284] h285 fun x288 h289 _ _ => storeA 3 x13 x288 h289 fun h292 _ _ => cellS true 3 x13 h292 fun x295 => outS1 [x295, x270] h292
noncomputable def S70_362 (h272 : Hp) (x271 : IV) (x269 : IV) (x5 : IV) (x232 : IV) (ih : Handler) (x13 : IV) (x270 : IV) : Option (IV × Hp) :=
  storeA 3 x271 x269 h272 fun h275 r276 w277 => chkS [] r276 w277 (loadA 3 x5 h275 fun x278 _ => loadA 3 x232 h275 fun x280 _ => loadA 3 x271 h275 fun x282 _ => S70_361 h275 x278 x280 x282 ih x13 x270)
noncomputable def S70_363 (r267 : List Ref) (w268 : List Ref) (x265 : IV) (h266 : Hp) (r262 : List Ref) (w263 : List Ref) (r259 : List Ref) (r256 : List Ref) (w257 : List Ref) (r253 : List Ref) (r251 : List Ref) (r248 : List Ref) (x5 : IV) (x232 : IV) (ih : Handler) (x13 : IV) : Option (IV × Hp) :=
  chkS [] r267 w268 (extS 0 x265 fun x269 => extS 1 x265 fun x270 => newS 73421839 (.row [.fv (.int .i64 0), .fv (.int .i64 0), .nils] false) (.ptr (.own 73421839) 0) h266 fun x271 h272 r273 w274 => chkS [(r267, w268), (r262, w263), (r259, []), (r256, w257), (r253, []), (r251, []), (r248, [])] r273 w274 (S70_362 h272 x271 x269 x5 x232 ih x13 x270))
noncomputable def S70_364 (r259 : List Ref) (r256 : List Ref) (w257 : List Ref) (r253 : List Ref) (r251 : List Ref) (r248 : List Ref) (ih : Handler) (h255 : Hp) (x258 : IV) (x3 : IV) (x0 : IV) (x254 : IV) (x5 : IV) (x232 : IV) (x13 : IV) : Option (IV × Hp) :=
  chkS [(r256, w257), (r253, []), (r251, []), (r248, [])] r259 [] (isoS [] false false ih 42 [x258, .fv (.int .i64 1)] h255 fun x260 h261 r262 w263 => chkS [] r262 w263 (subS EE 3 x3 (.fv (.int .i64 1)) fun x264 => isoS [] false false ih 70 [x0, x254, x260, x264] h261 fun x265 h266 r267 w268 => S70_363 r267 w268 x265 h266 r262 w263 r259 r256 w257 r253 r251 r248 x5 x232 ih x13))
noncomputable def S70_365 (h236 : Hp) (x232 : IV) (r251 : List Ref) (r248 : List Ref) (ih : Handler) (x250 : IV) (x9 : IV) (x3 : IV) (x0 : IV) (x5 : IV) (x13 : IV) : Option (IV × Hp) :=
  loadA 3 x232 h236 fun x252 r253 => chkS [(r251, []), (r248, [])] r253 [] (isoS [] false false ih 89 [x250, .fv (.int .i64 0), x252] h236 fun x254 h255 r256 w257 => chkS [] r256 w257 (loadA 3 x9 h255 fun x258 r259 => S70_364 r259 r256 w257 r253 r251 r248 ih h255 x258 x3 x0 x254 x5 x232 x13))
noncomputable def S70_366 (h236 : Hp) (x246 : IV) (x232 : IV) (ih : Handler) (x9 : IV) (x3 : IV) (x0 : IV) (x5 : IV) (x13 : IV) : Option (IV × Hp) :=
  load1 x246 h236 fun x247 r248 => chkS [] r248 [] (ixS 3 x247 (.fv (.int .i64 1)) fun x249 => loadA 3 x249 h236 fun x250 r251 => chkS [] r251 [] (S70_365 h236 x232 r251 r248 ih x250 x9 x3 x0 x5 x13))
noncomputable def S70_367 (h233 : Hp) (x232 : IV) (x230 : IV) (x231 : IV) (x45 : IV) (x13 : IV) (x44 : IV) (x5 : IV) (ih : Handler) (x9 : IV) (x3 : IV) (x0 : IV) : Option (IV × Hp) :=
  storeA 3 x232 x230 h233 fun h236 r237 w238 => chkS [] r237 w238 (optS (unR .not x231) fun x239 => condS x239 (loadA 3 x45 h236 fun x240 _ => S70_360 h236 x13 x240 x44) (faddrS 2 x5 fun x246 => S70_366 h236 x246 x232 ih x9 x3 x0 x5 x13))
noncomputable def S70_368 (r228 : List Ref) (w229 : List Ref) (x226 : IV) (h227 : Hp) (r223 : List Ref) (w224 : List Ref) (r220 : List Ref) (r218 : List Ref) (r215 : List Ref) (x45 : IV) (x13 : IV) (x44 : IV) (x5 : IV) (ih : Handler) (x9 : IV) (x3 : IV) (x0 : IV) : Option (IV × Hp) :=
  chkS [] r228 w229 (extS 0 x226 fun x230 => extS 1 x226 fun x231 => newS 73418765 (.row [.fv (.int .i64 0), .fv (.int .i64 0), .nils] false) (.ptr (.own 73418765) 0) h227 fun x232 h233 r234 w235 => chkS [(r228, w229), (r223, w224), (r220, []), (r218, []), (r215, [])] r234 w235 (S70_367 h233 x232 x230 x231 x45 x13 x44 x5 ih x9 x3 x0))
noncomputable def S70_369 (r220 : List Ref) (r218 : List Ref) (r215 : List Ref) (ih : Handler) (h140 : Hp) (x219 : IV) (x3 : IV) (x0 : IV) (x217 : IV) (x45 : IV) (x13 : IV) (x44 : IV) (x5 : IV) (x9 : IV) : Option (IV × Hp) :=
  chkS [(r218, []), (r215, [])] r220 [] (isoS [] false false ih 42 [x219, .fv (.int .i64 0)] h140 fun x221 h222 r223 w224 => chkS [(r218, []), (r215, [])] r223 w224 (subS EE 3 x3 (.fv (.int .i64 1)) fun x225 => isoS [] false false ih 70 [x0, x217, x221, x225] h222 fun x226 h227 r228 w229 => S70_368 r228 w229 x226 h227 r223 w224 r220 r218 r215 x45 x13 x44 x5 ih x9 x3 x0))
noncomputable def S70_370 (r215 : List Ref) (x214 : IV) (h140 : Hp) (x9 : IV) (ih : Handler) (x3 : IV) (x0 : IV) (x45 : IV) (x13 : IV) (x44 : IV) (x5 : IV) : Option (IV × Hp) :=
  chkS [] r215 [] (ixS 3 x214 (.fv (.int .i64 0)) fun x216 => loadA 3 x216 h140 fun x217 r218 => chkS [] r218 [] (loadA 3 x9 h140 fun x219 r220 => S70_369 r220 r218 r215 ih h140 x219 x3 x0 x217 x45 x13 x44 x5 x9))
noncomputable def S70_371 (h320 : Hp) (x323 : IV) (ih : Handler) (x13 : IV) (x315 : IV) : Option (IV × Hp) :=
  genS (pcBuildSlice EE 28 1 [(0, x323)]) 73425921 h320 fun x325 h326 _ _ => isoS [] false false ih 30 [.fv (.int .i64 19), x325] h326 fun x329 h330 _ _ => storeA 3 x13 x329 h330 fun h333 _ _ => cellS true 3 x13 h333 fun x336 => outS1 [x336, x315] h333
noncomputable def S70_372 (h311 : Hp) (r312 : List Ref) (w313 : List Ref) (r307 : List Ref) (w308 : List Ref) (r304 : List Ref) (r302 : List Ref) (r299 : List Ref) (x314 : IV) (ih : Handler) (x13 : IV) (x315 : IV) : Option (IV × Hp) :=
  newS 73424909 (.row [.fv (.int .i64 0), .fv (.int .i64 0), .nils] false) (.ptr (.own 73424909) 0) h311 fun x316 h317 r318 w319 => chkS [(r312, w313), (r307, w308), (r304, []), (r302, []), (r299, [])] r318 w319 (storeA 3 x316 x314 h317 fun h320 r321 w322 => chkS [] r321 w322 (loadA 3 x316 h320 fun x323 _ => S70_371 h320 x323 ih x13 x315))
noncomputable def S70_373 (x3 : IV) (ih : Handler) (h306 : Hp) (x0 : IV) (x301 : IV) (x305 : IV) (r307 : List Ref) (w308 : List Ref) (r304 : List Ref) (r302 : List Ref) (r299 : List Ref) (x13 : IV) : Option (IV × Hp) :=
  subS EE 3 x3 (.fv (.int .i64 1)) fun x309 => isoS [] false false ih 68 [x0, x301, x305, x309] h306 fun x310 h311 r312 w313 => chkS [] r312 w313 (extS 0 x310 fun x314 => extS 1 x310 fun x315 => S70_372 h311 r312 w313 r307 w308 r304 r302 r299 x314 ih x13 x315)
noncomputable def S70_374 (r302 : List Ref) (h140 : Hp) (x9 : IV) (r299 : List Ref) (ih : Handler) (x3 : IV) (x0 : IV) (x301 : IV) (x13 : IV) : Option (IV × Hp) :=
  chkS [] r302 [] (loadA 3 x9 h140 fun x303 r304 => chkS [(r302, []), (r299, [])] r304 [] (isoS [] false false ih 42 [x303, .fv (.int .i64 0)] h140 fun x305 h306 r307 w308 => chkS [(r302, []), (r299, [])] r307 w308 (S70_373 x3 ih h306 x0 x301 x305 r307 w308 r304 r302 r299 x13)))
noncomputable def S70_375 (x5 : IV) (h140 : Hp) (x9 : IV) (ih : Handler) (x3 : IV) (x0 : IV) (x13 : IV) : Option (IV × Hp) :=
  faddrS 2 x5 fun x297 => load1 x297 h140 fun x298 r299 => chkS [] r299 [] (ixS 3 x298 (.fv (.int .i64 0)) fun x300 => loadA 3 x300 h140 fun x301 r302 => S70_374 r302 h140 x9 r299 ih x3 x0 x301 x13)
noncomputable def S70_376 (h140 : Hp) (x45 : IV) (x13 : IV) (x44 : IV) : Option (IV × Hp) :=
  loadA 3 x45 h140 fun x337 _ => storeA 3 x13 x337 h140 fun h339 _ _ => cellS true 3 x13 h339 fun x342 => outS1 [x342, x44] h339
noncomputable def S70_377 (x136 : IV) (x5 : IV) (h140 : Hp) (x9 : IV) (ih : Handler) (x3 : IV) (x0 : IV) (x45 : IV) (x13 : IV) (x44 : IV) : Option (IV × Hp) :=
  eqS EE 3 x136 (.fv (.int .i64 6)) fun x212 => condS x212 (faddrS 2 x5 fun x213 => load1 x213 h140 fun x214 r215 => S70_370 r215 x214 h140 x9 ih x3 x0 x45 x13 x44 x5) (eqS EE 3 x136 (.fv (.int .i64 18)) fun x296 => condS x296 (S70_375 x5 h140 x9 ih x3 x0 x13) (S70_376 h140 x45 x13 x44))
noncomputable def S70_378 (x139 : IV) (h140 : Hp) (x5 : IV) (x9 : IV) (ih : Handler) (x0 : IV) (x3 : IV) (x13 : IV) (x136 : IV) (x45 : IV) (x44 : IV) : Option (IV × Hp) :=
  condS x139 (loadA 3 x5 h140 fun x141 _ => loadA 3 x9 h140 fun x143 _ => S70_350 ih h140 x0 x141 x143 x3 x13) (eqS EE 3 x136 (.fv (.int .i64 3)) fun x155 => condS x155 (S70_359 x5 h140 ih x0 x9 x3 x13) (S70_377 x136 x5 h140 x9 ih x3 x0 x45 x13 x44))
noncomputable def S70_379 (x136 : IV) (j1_138 : IV → Hp → Option (IV × Hp)) (h117 : Hp) : Option (IV × Hp) :=
  eqS EE 3 x136 (.fv (.int .i64 14)) fun x344 => condS x344 (j1_138 x344 h117) (eqS EE 3 x136 (.fv (.int .i64 2)) fun x345 => j1_138 x345 h117)
noncomputable def S70_380 (x5 : IV) (h117 : Hp) (x9 : IV) (ih : Handler) (x0 : IV) (x3 : IV) (x13 : IV) (x45 : IV) (x44 : IV) : Option (IV × Hp) :=
  faddrS 0 x5 fun x135 => load1 x135 h117 fun x136 _ => (fun (j1_138 : IV → Hp → Option (IV × Hp)) => eqS EE 3 x136 (.fv (.int .i64 10)) fun x343 => condS x343 (j1_138 x343 h117) (S70_379 x136 j1_138 h117)) fun x139 h140 => S70_378 x139 h140 x5 x9 ih x0 x3 x13 x136 x45 x44
noncomputable def S70_381 (h99 : Hp) (x95 : IV) (x98 : IV) (ih : Handler) (x5 : IV) (x9 : IV) (x0 : IV) (x3 : IV) (x13 : IV) (x45 : IV) (x44 : IV) : Option (IV × Hp) :=
  guardS x95 true h99 (fun k102 => load1 x98 h99 fun x103 r104 => k102 x103 h99 r104 []) fun x105 h106 _ _ => guardS x95 true h106 (fun k109 => isoS [] false false ih 41 [x105, .fv (.int .i64 7)] h106 k109) fun x110 h111 _ _ => guardS x95 true h111 (fun k114 => eqS EE 3 x110 (.fv (.int .i64 6)) fun x115 => k114 x115 h111 [] []) fun x116 h117 _ _ => pickS x95 x116 (.fv (.bool false)) fun x120 => condS x120 (S70_349 h117 x5 x9 ih x0 x3 x13) (S70_380 x5 h117 x9 ih x0 x3 x13 x45 x44)
noncomputable def S70_382 (x88 : IV) (h85 : Hp) (x45 : IV) (x13 : IV) (x44 : IV) (x3 : IV) (x9 : IV) (ih : Handler) (x5 : IV) (x0 : IV) : Option (IV × Hp) :=
  condS x88 (loadA 3 x45 h85 fun x89 _ => storeA 3 x13 x89 h85 fun h91 _ _ => S70_347 h91 x13 x44) (gtS EE 3 x3 (.fv (.int .i64 0)) fun x95 => guardS x95 true h85 (fun k96 => faddrS 0 x9 fun x97 => k96 x97 h85 [] []) fun x98 h99 _ _ => S70_381 h99 x95 x98 ih x5 x9 x0 x3 x13 x45 x44)
noncomputable def S70_383 (h67 : Hp) (x44 : IV) (x66 : IV) (x3 : IV) (x45 : IV) (x13 : IV) (x9 : IV) (ih : Handler) (x5 : IV) (x0 : IV) : Option (IV × Hp) :=
  guardS x44 true h67 (fun k70 => eqS EE 3 x66 (.fv (.int .i64 0)) fun x71 => k70 x71 h67 [] []) fun x72 h73 _ _ => pickS x44 x72 (.fv (.bool false)) fun x76 => guardS x76 false h73 (fun k77 => k77 x3 h73 [] []) fun x78 h79 _ _ => guardS x76 false h79 (fun k82 => ltS EE 3 x78 (.fv (.int .i64 (-4))) fun x83 => k82 x83 h79 [] []) fun x84 h85 _ _ => pickS x76 (.fv (.bool true)) x84 fun x88 => S70_382 x88 h85 x45 x13 x44 x3 x9 ih x5 x0
noncomputable def S70_384 (h40 : Hp) (x43 : IV) (x44 : IV) (x9 : IV) (ih : Handler) (x3 : IV) (x13 : IV) (x5 : IV) (x0 : IV) : Option (IV × Hp) :=
  newS 73404424 (.row [.fv (.int .i64 0), .fv (.int .i64 0), .nils] false) (.ptr (.own 73404424) 0) h40 fun x45 h46 _ _ => storeA 3 x45 x43 h46 fun h49 _ _ => guardS x44 true h49 (fun k52 => faddrS 0 x9 fun x53 => k52 x53 h49 [] []) fun x54 h55 _ _ => guardS x44 true h55 (fun k58 => load1 x54 h55 fun x59 r60 => k58 x59 h55 r60 []) fun x61 h62 _ _ => guardS x44 true h62 (fun k65 => isoS [] false false ih 41 [x61, .fv (.int .i64 3)] h62 k65) fun x66 h67 _ _ => S70_383 h67 x44 x66 x3 x45 x13 x9 ih x5 x0
noncomputable def S70_385 (x9 : IV) (h25 : Hp) (ih : Handler) (x0 : IV) (x34 : IV) (x3 : IV) (x13 : IV) (x5 : IV) : Option (IV × Hp) :=
  faddrS 1 x9 fun x36 => load1 x36 h25 fun x37 _ => isoS [] false false ih 97 [x0, .fv (.int .i64 1), x34, x37] h25 fun x39 h40 _ _ => extS 0 x39 fun x43 => extS 1 x39 fun x44 => S70_384 h40 x43 x44 x9 ih x3 x13 x5 x0
noncomputable def S70_386 (x19 : IV) (h20 : Hp) (x5 : IV) (x23 : IV) (x13 : IV) (x9 : IV) (ih : Handler) (x0 : IV) (x3 : IV) : Option (IV × Hp) :=
  extS 1 x19 fun x24 => storeA 3 x5 x23 h20 fun h25 _ _ => neS EE 3 x24 (.fv (.int .i64 0)) fun x28 => condS x28 (bldS [.fv (.int .i64 0), .fv (.int .i64 0), .nils] [] fun x29 => S70_346 h25 x13 x29) (loadA 3 x5 h25 fun x34 _ => S70_385 x9 h25 ih x0 x34 x3 x13 x5)
noncomputable def S70 (ih : Handler) (n : Nat) (x0 : IV) (x1 : IV) (x2 : IV) (x3 : IV) (h4 : Hp) : Option (IV × Hp) :=
  boxS 73400320 x1 h4 fun x5 h6 _ _ => boxS 73400321 x2 h6 fun x9 h10 _ _ => newS 73400322 (.row [.fv (.int .i64 0), .fv (.int .i64 0), .nils] false) (.ptr (.own 73400322) 0) h10 fun x13 h14 _ _ => loadA 3 x5 h14 fun x17 _ => isoS [] false false ih 58 [x17] h14 fun x19 h20 _ _ => extS 0 x19 fun x23 => S70_386 x19 h20 x5 x23 x13 x9 ih x0 x3
theorem S70_ok (ih : Handler) (n : Nat) (x0 : IV) (x1 : IV) (x2 : IV) (x3 : IV) (h4 : Hp) : funS EE ih ft.get n 70 [x0, x1, x2, x3] h4 = S70 ih n x0 x1 x2 x3 h4 := by kernel_rfl
noncomputable def S71_121 (x108 : IV) (h109 : Hp) (x93 : IV) (h3 : Hp) (x89 : IV) (x90 : IV) (x91 : IV) (x92 : IV) (q86 : List IV → Hp → Option (IV × Hp)) : Option (IV × Hp) :=
  neS EE 35 x108 (.fv (.int .i64 0)) fun x112 => condS x112 (outS1 [x108] h109) (addS EE 3 x93 (.fv (.int .i64 1)) fun x113 => dropS (h3.own.map (·.1)) [74457090] [x89, x90, x91, x92, x113] h109 fun h114 => q86 [x89, x90, x91, x92, x113] h114)
noncomputable def S71_122 (h88 : Hp) (x96 : IV) (x90 : IV) (ih : Handler) (x89 : IV) (x93 : IV) (h3 : Hp) (x91 : IV) (x92 : IV) (q86 : List IV → Hp → Option (IV × Hp)) : Option (IV × Hp) :=
  newS 74457090 (.row [.fv (.int .i64 0), .fv (.int .i64 0), .nils] false) (.ptr (.own 74457090) 0) h88 fun x98 h99 _ _ => storeA 3 x98 x96 h99 fun h102 _ _ => loadA 3 x98 h102 fun x105 _ => addS EE 3 x90 (.fv (.int .i64 1)) fun x107 => isoS [false, true, false] false false ih 71 [x105, x89, x107] h102 fun x108 h109 _ _ => S71_121 x108 h109 x93 h3 x89 x90 x91 x92 q86
noncomputable def S71_123 (x93 : IV) (x92 : IV) (x91 : IV) (h88 : Hp) (x90 : IV) (ih : Handler) (x89 : IV) (h3 : Hp) (q86 : List IV → Hp → Option (IV × Hp)) : Option (IV × Hp) :=
  ltS EE 3 x93 x92 fun x94 => condS x94 (ixS 3 x91 x93 fun x95 => loadA 3 x95 h88 fun x96 _ => S71_122 h88 x96 x90 ih x89 x93 h3 x91 x92 q86) (outS1 [.fv (.int .i64 0)] h88)
noncomputable def S71_124 (l87 : List IV) (h88 : Hp) (ih : Handler) (h3 : Hp) (q86 : List IV → Hp → Option (IV × Hp)) : Option (IV × Hp) :=
  uncS l87 fun x89 l115 => uncS l115 fun x90 l116 => uncS l116 fun x91 l117 => uncS l117 fun x92 l118 => uncS l118 fun x93 _ => S71_123 x93 x92 x91 h88 x90 ih x89 h3 q86
noncomputable def S71_125 (h78 : Hp) (x82 : IV) (h3 : Hp) (x1 : IV) (x2 : IV) (n : Nat) (ih : Handler) : Option (IV × Hp) :=
  load1 x82 h78 fun x83 _ => lenS x83 fun x85 => dropS (h3.own.map (·.1)) [74457090] [x1, x2, x83, x85, .fv (.int .i64 0)] h78 fun h120 => loopS n (fun q86 l87 h88 => S71_124 l87 h88 ih h3 q86) [x1, x2, x83, x85, .fv (.int .i64 0)] h120
noncomputable def S71_126 (r73 : List Ref) (w74 : List Ref) (h72 : Hp) (x43 : IV) (x71 : IV) (x4 : IV) (h3 : Hp) (x1 : IV) (x2 : IV) (n : Nat) (ih : Handler) : Option (IV × Hp) :=
  chkS [] r73 w74 (guardS x43 false h72 (fun k75 => optS (unR .not x71) fun x76 => k75 x76 h72 [] []) fun x77 h78 _ _ => pickS x43 (.fv (.bool true)) x77 fun x81 => condS x81 (outS1 [.fv (.int .i64 1)] h78) (faddrS 2 x4 fun x82 => S71_125 h78 x82 h3 x1 x2 n ih))
noncomputable def S71_127 (r55 : List Ref) (w56 : List Ref) (h54 : Hp) (x43 : IV) (x4 : IV) (ih : Handler) (x53 : IV) (h3 : Hp) (x1 : IV) (x2 : IV) (n : Nat) : Option (IV × Hp) :=
  chkS [] r55 w56 (guardS x43 false h54 (fun k57 => faddrS 1 x4 fun x58 => k57 x58 h54 [] []) fun x59 h60 _ _ => guardS x43 false h60 (fun k63 => load1 x59 h60 fun x64 r65 => k63 x64 h60 r65 []) fun x66 h67 r68 w69 => chkS [(r55, w56)] r68 w69 (guardS x43 false h67 (fun k70 => isoS [] false false ih 103 [x53, x66] h67 k70) fun x71 h72 r73 w74 => S71_126 r73 w74 h72 x43 x71 x4 h3 x1 x2 n ih))
noncomputable def S71_128 (r41 : List Ref) (r37 : List Ref) (w38 : List Ref) (r34 : List Ref) (x40 : IV) (x35 : IV) (h36 : Hp) (x4 : IV) (ih : Handler) (h3 : Hp) (x1 : IV) (x2 : IV) (n : Nat) : Option (IV × Hp) :=
  chkS [(r37, w38), (r34, [])] r41 [] (lenS x40 fun x42 => neS EE 3 x35 x42 fun x43 => guardS x43 false h36 (fun k44 => faddrS 0 x4 fun x45 => k44 x45 h36 [] []) fun x46 h47 _ _ => guardS x43 false h47 (fun k50 => load1 x46 h47 fun x51 r52 => k50 x51 h47 r52 []) fun x53 h54 r55 w56 => S71_127 r55 w56 h54 x43 x4 ih x53 h3 x1 x2 n)
noncomputable def S71_129 (r34 : List Ref) (ih : Handler) (h28 : Hp) (x33 : IV) (x4 : IV) (h3 : Hp) (x1 : IV) (x2 : IV) (n : Nat) : Option (IV × Hp) :=
  chkS [] r34 [] (isoS [] false false ih 102 [x33] h28 fun x35 h36 r37 w38 => chkS [] r37 w38 (faddrS 2 x4 fun x39 => load1 x39 h36 fun x40 r41 => S71_128 r41 r37 w38 r34 x40 x35 h36 x4 ih h3 x1 x2 n))
noncomputable def S71_130 (x19 : IV) (x27 : IV) (h28 : Hp) (x4 : IV) (ih : Handler) (h3 : Hp) (x1 : IV) (x2 : IV) (n : Nat) : Option (IV × Hp) :=
  pickS x19 (.fv (.bool true)) x27 fun x31 => condS x31 (outS1 [.fv (.int .i64 5)] h28) (faddrS 0 x4 fun x32 => load1 x32 h28 fun x33 r34 => S71_129 r34 ih h28 x33 x4 h3 x1 x2 n)
noncomputable def S71_131 (x1 : IV) (h13 : Hp) (x2 : IV) (x4 : IV) (ih : Handler) (h3 : Hp) (n : Nat) : Option (IV × Hp) :=
  nilS x1 fun x16 => load1 x16 h13 fun x17 _ => gtS EE 3 x17 (.fv (.int .i64 3000)) fun x19 => guardS x19 false h13 (fun k20 => k20 x2 h13 [] []) fun x21 h22 _ _ => guardS x19 false h22 (fun k25 => gtS EE 3 x21 (.fv (.int .i64 120)) fun x26 => k25 x26 h22 [] []) fun x27 h28 _ _ => S71_130 x19 x27 h28 x4 ih h3 x1 x2 n
noncomputable def S71 (ih : Handler) (n : Nat) (x0 : IV) (x1 : IV) (x2 : IV) (h3 : Hp) : Option (IV × Hp) :=
  boxS 74448896 x0 h3 fun x4 h5 _ _ => nilS x1 fun x8 => load1 x8 h5 fun x9 _ => addS EE 3 x9 (.fv (.int .i64 1)) fun x11 => nilS x1 fun x12 => store1 x12 x11 h5 fun h13 _ _ => S71_131 x1 h13 x2 x4 ih h3 n
theorem S71_ok (ih : Handler) (n : Nat) (x0 : IV) (x1 : IV) (x2 : IV) (h3 : Hp) : funS EE ih ft.get n 71 [x0, x1, x2] h3 = S71 ih n x0 x1 x2 h3 := by kernel_rfl
noncomputable def S72_24 (ih : Handler) (h6 : Hp) (x8 : IV) (x13 : IV) (x10 : IV) (q4 : List IV → Hp → Option (IV × Hp)) (x7 : IV) (x9 : IV) : Option (IV × Hp) :=
  dynS EE ih x8 [x13] h6 fun x15 h16 _ _ => condS x15 (outS1 [x10] h16) (addS EE 3 x10 (.fv (.int .i64 1)) fun x19 => q4 [x7, x8, x9, x19] h16)
noncomputable def S72_25 (x11 : IV) (x7 : IV) (x10 : IV) (h6 : Hp) (ih : Handler) (x8 : IV) (q4 : List IV → Hp → Option (IV × Hp)) (x9 : IV) : Option (IV × Hp) :=
  condS x11 (ixS 3 x7 x10 fun x12 => loadA 3 x12 h6 fun x13 _ => S72_24 ih h6 x8 x13 x10 q4 x7 x9) (outS1 [.fv (.int .i64 (-1))] h6)
noncomputable def S72_26 (l5 : List IV) (h6 : Hp) (ih : Handler) (q4 : List IV → Hp → Option (IV × Hp)) : Option (IV × Hp) :=
  uncS l5 fun x7 l20 => uncS l20 fun x8 l21 => uncS l21 fun x9 l22 => uncS l22 fun x10 _ => ltS EE 3 x10 x9 fun x11 => S72_25 x11 x7 x10 h6 ih x8 q4 x9
noncomputable def S72 (ih : Handler) (n : Nat) (x0 : IV) (x1 : IV) (h2 : Hp) : Option (IV × Hp) :=
  lenS x0 fun x3 => loopS n (fun q4 l5 h6 => S72_26 l5 h6 ih q4) [x0, x1, x3, .fv (.int .i64 0)] h2
theorem S72_ok (ih : Handler) (n : Nat) (x0 : IV) (x1 : IV) (h2 : Hp) : funS EE ih ft.get n 72 [x0, x1] h2 = S72 ih n x0 x1 h2 := by kernel_rfl
noncomputable def S73_57 (h35 : Hp) (x30 : IV) (x20 : IV) (ih : Handler) (x34 : IV) (j1_27 : IV → Hp → Option (IV × Hp)) (x19 : IV) : Option (IV × Hp) :=
  guardS x30 true h35 (fun k38 => loadA 3 x20 h35 fun x39 r40 => k38 x39 h35 r40 []) fun x41 h42 _ _ => guardS x30 true h42 (fun k45 => isoS [] false false ih 104 [x34, x41] h42 k45) fun x46 h47 _ _ => guardS x30 true h47 (fun k50 => optS (unR .not x46) fun x51 => k50 x51 h47 [] []) fun x52 h53 _ _ => pickS x30 x52 (.fv (.bool false)) fun x56 => condS x56 (j1_27 (.fv (.int .i64 11)) h53) (j1_27 x19 h53)
noncomputable def S73_58 (h15 : Hp) (x18 : IV) (x19 : IV) (x8 : IV) (ih : Handler) : Option (IV × Hp) :=
  newS 76547078 (.row [.fv (.int .i64 0), .fv (.int .i64 0), .nils] false) (.ptr (.own 76547078) 0) h15 fun x20 h21 _ _ => storeA 3 x20 x18 h21 fun h24 _ _ => (fun (j1_27 : IV → Hp → Option (IV × Hp)) => eqS EE 35 x19 (.fv (.int .i64 0)) fun x30 => guardS x30 true h24 (fun k31 => loadA 3 x8 h24 fun x32 r33 => k31 x32 h24 r33 []) fun x34 h35 _ _ => S73_57 h35 x30 x20 ih x34 j1_27 x19) fun x28 h29 => outS1 [x28] h29
noncomputable def S73 (ih : Handler) (n : Nat) (x0 : IV) (x1 : IV) (x2 : IV) (h3 : Hp) : Option (IV × Hp) :=
  boxS 76546048 x1 h3 fun x4 h5 _ _ => boxS 76546049 x2 h5 fun x8 h9 _ _ => loadA 3 x4 h9 fun x12 _ => isoS [] false false ih 53 [x0, x12] h9 fun x14 h15 _ _ => extS 0 x14 fun x18 => extS 1 x14 fun x19 => S73_58 h15 x18 x19 x8 ih
theorem S73_ok (ih : Handler) (n : Nat) (x0 : IV) (x1 : IV) (x2 : IV) (h3 : Hp) : funS EE ih ft.get n 73 [x0, x1, x2] h3 = S73 ih n x0 x1 x2 h3 := by kernel_rfl
noncomputable def S74_116 (h40 : Hp) (x7 : IV) : Option (IV × Hp) :=
  bldS [.fv (.int .i64 0), .fv (.int .i64 0), .nils] [] fun x44 => storeA 3 x7 x44 h40 fun h45 _ _ => cellS true 3 x7 h45 fun x48 => outS1 [x48, .fv (.int .i64 10)] h45
noncomputable def S74_117 (r67 : List Ref) (w68 : List Ref) (r54 : List Ref) (h66 : Hp) (x7 : IV) (x53 : IV) (x65 : IV) : Option (IV × Hp) :=
  chkS [(r54, [])] r67 w68 (storeA 3 x7 x53 h66 fun h69 r70 w71 => chkS [] r70 w71 (cellS true 3 x7 h69 fun x72 => outS1 [x72, x65] h69))
noncomputable def S74_118 (h58 : Hp) (x27 : IV) (r59 : List Ref) (w60 : List Ref) (r56 : List Ref) (r54 : List Ref) (x23 : IV) (ih : Handler) (x57 : IV) (x7 : IV) (x53 : IV) : Option (IV × Hp) :=
  loadA 3 x27 h58 fun x61 r62 => chkS [(r59, w60), (r56, []), (r54, [])] r62 [] (loadA 3 x23 h58 fun x63 r64 => chkS [(r62, []), (r59, w60), (r56, []), (r54, [])] r64 [] (isoS [] false false ih 73 [x57, x61, x63] h58 fun x65 h66 r67 w68 => S74_117 r67 w68 r54 h66 x7 x53 x65))
noncomputable def S74_119 (r54 : List Ref) (h40 : Hp) (x23 : IV) (ih : Handler) (x0 : IV) (x27 : IV) (x7 : IV) (x53 : IV) : Option (IV × Hp) :=
  chkS [] r54 [] (loadA 3 x23 h40 fun x55 r56 => chkS [(r54, [])] r56 [] (isoS [] false false ih 75 [x0, x55] h40 fun x57 h58 r59 w60 => chkS [(r54, [])] r59 w60 (S74_118 h58 x27 r59 w60 r56 r54 x23 ih x57 x7 x53)))
noncomputable def S74_120 (h107 : Hp) (x7 : IV) (x110 : IV) (x111 : IV) : Option (IV × Hp) :=
  storeA 3 x7 x110 h107 fun h112 _ _ => cellS true 3 x7 h112 fun x115 => outS1 [x115, x111] h112
noncomputable def S74_121 (h91 : Hp) (x94 : IV) (x96 : IV) (ih : Handler) (x86 : IV) (x7 : IV) : Option (IV × Hp) :=
  genS (pcBuildSlice EE 28 2 [(0, x94), (1, x96)]) 77601794 h91 fun x98 h99 _ _ => isoS [] false false ih 64 [.fv (.int .i64 16), x98] h99 fun x102 h103 _ _ => isoS [] false false ih 105 [x102, x86] h103 fun x106 h107 _ _ => extS 0 x106 fun x110 => extS 1 x106 fun x111 => S74_120 h107 x7 x110 x111
noncomputable def S74_122 (r89 : List Ref) (w90 : List Ref) (r83 : List Ref) (w84 : List Ref) (r80 : List Ref) (r77 : List Ref) (w78 : List Ref) (r74 : List Ref) (h88 : Hp) (x87 : IV) (x85 : IV) (x23 : IV) (ih : Handler) (x86 : IV) (x7 : IV) : Option (IV × Hp) :=
  chkS [(r83, w84), (r80, []), (r77, w78), (r74, [])] r89 w90 (storeA 3 x87 x85 h88 fun h91 r92 w93 => chkS [] r92 w93 (loadA 3 x23 h91 fun x94 _ => loadA 3 x87 h91 fun x96 _ => S74_121 h91 x94 x96 ih x86 x7))
noncomputable def S74_123 (ih : Handler) (h76 : Hp) (x75 : IV) (x79 : IV) (r80 : List Ref) (r77 : List Ref) (w78 : List Ref) (r74 : List Ref) (x23 : IV) (x7 : IV) : Option (IV × Hp) :=
  isoS [] false false ih 53 [x75, x79] h76 fun x81 h82 r83 w84 => chkS [] r83 w84 (extS 0 x81 fun x85 => extS 1 x81 fun x86 => newS 77600776 (.row [.fv (.int .i64 0), .fv (.int .i64 0), .nils] false) (.ptr (.own 77600776) 0) h82 fun x87 h88 r89 w90 => S74_122 r89 w90 r83 w84 r80 r77 w78 r74 h88 x87 x85 x23 ih x86 x7)
noncomputable def S74_124 (r74 : List Ref) (ih : Handler) (h40 : Hp) (x0 : IV) (x73 : IV) (x27 : IV) (x23 : IV) (x7 : IV) : Option (IV × Hp) :=
  chkS [] r74 [] (isoS [] false false ih 75 [x0, x73] h40 fun x75 h76 r77 w78 => chkS [] r77 w78 (loadA 3 x27 h76 fun x79 r80 => chkS [(r77, w78), (r74, [])] r80 [] (S74_123 ih h76 x75 x79 r80 r77 w78 r74 x23 x7)))
noncomputable def S74_125 (x3 : IV) (h40 : Hp) (x23 : IV) (ih : Handler) (x0 : IV) (x27 : IV) (x7 : IV) : Option (IV × Hp) :=
  faddrS 0 x3 fun x49 => load1 x49 h40 fun x50 _ => eqS EE 3 x50 (.fv (.int .i64 29)) fun x52 => condS x52 (loadA 3 x23 h40 fun x53 r54 => S74_119 r54 h40 x23 ih x0 x27 x7 x53) (loadA 3 x23 h40 fun x73 r74 => S74_124 r74 ih h40 x0 x73 x27 x23 x7)
noncomputable def S74_126 (r35 : List Ref) (w36 : List Ref) (h34 : Hp) (x23 : IV) (ih : Handler) (x7 : IV) (x3 : IV) (x0 : IV) (x27 : IV) : Option (IV × Hp) :=
  chkS [] r35 w36 (loadA 3 x23 h34 fun x37 _ => isoS [] false false ih 52 [x37] h34 fun x39 h40 _ _ => optS (unR .not x39) fun x43 => condS x43 (S74_116 h40 x7) (S74_125 x3 h40 x23 ih x0 x27 x7))
noncomputable def S74_127 (h24 : Hp) (r25 : List Ref) (w26 : List Ref) (r22 : List Ref) (r19 : List Ref) (r16 : List Ref) (r13 : List Ref) (x23 : IV) (x15 : IV) (x21 : IV) (ih : Handler) (x7 : IV) (x3 : IV) (x0 : IV) : Option (IV × Hp) :=
  newS 77595657 (.row [.fv (.int .i64 0), .fv (.int .i64 0), .nils] false) (.ptr (.own 77595657) 0) h24 fun x27 h28 r29 w30 => chkS [(r25, w26), (r22, []), (r19, []), (r16, []), (r13, [])] r29 w30 (storeA 3 x23 x15 h28 fun h31 r32 w33 => chkS [(r22, []), (r19, [])] r32 w33 (storeA 3 x27 x21 h31 fun h34 r35 w36 => S74_126 r35 w36 h34 x23 ih x7 x3 x0 x27))
noncomputable def S74_128 (x18 : IV) (h8 : Hp) (r16 : List Ref) (r13 : List Ref) (r19 : List Ref) (x15 : IV) (ih : Handler) (x7 : IV) (x3 : IV) (x0 : IV) : Option (IV × Hp) :=
  ixS 3 x18 (.fv (.int .i64 1)) fun x20 => loadA 3 x20 h8 fun x21 r22 => chkS [(r16, []), (r13, [])] r22 [] (newS 77595656 (.row [.fv (.int .i64 0), .fv (.int .i64 0), .nils] false) (.ptr (.own 77595656) 0) h8 fun x23 h24 r25 w26 => chkS [(r22, []), (r19, []), (r16, []), (r13, [])] r25 w26 (S74_127 h24 r25 w26 r22 r19 r16 r13 x23 x15 x21 ih x7 x3 x0))
noncomputable def S74_129 (h8 : Hp) (x14 : IV) (x3 : IV) (r13 : List Ref) (ih : Handler) (x7 : IV) (x0 : IV) : Option (IV × Hp) :=
  loadA 3 x14 h8 fun x15 r16 => chkS [] r16 [] (faddrS 2 x3 fun x17 => load1 x17 h8 fun x18 r19 => chkS [(r16, []), (r13, [])] r19 [] (S74_128 x18 h8 r16 r13 r19 x15 ih x7 x3 x0))
noncomputable def S74 (ih : Handler) (n : Nat) (x0 : IV) (x1 : IV) (h2 : Hp) : Option (IV × Hp) :=
  boxS 77594624 x1 h2 fun x3 h4 _ _ => newS 77594625 (.row [.fv (.int .i64 0), .fv (.int .i64 0), .nils] false) (.ptr (.own 77594625) 0) h4 fun x7 h8 _ _ => faddrS 2 x3 fun x11 => load1 x11 h8 fun x12 r13 => chkS [] r13 [] (ixS 3 x12 (.fv (.int .i64 0)) fun x14 => S74_129 h8 x14 x3 r13 ih x7 x0)
theorem S74_ok (ih : Handler) (n : Nat) (x0 : IV) (x1 : IV) (h2 : Hp) : funS EE ih ft.get n 74 [x0, x1] h2 = S74 ih n x0 x1 h2 := by kernel_rfl
noncomputable def S75_25 (r16 : List Ref) (r13 : List Ref) (w14 : List Ref) (r9 : List Ref) (w10 : List Ref) (h12 : Hp) (x15 : IV) (x11 : IV) : Option (IV × Hp) :=
  chkS [(r13, w14), (r9, w10)] r16 [] (genS (pcBuildSlice EE 78 1 [(0, x15)]) 78644228 h12 fun x17 h18 r19 w20 => chkS [(r13, w14), (r9, w10)] r19 w20 (genS (builtinR EE 78644229 false .append [78, 78] [x11, x17]) 78644229 h18 fun x21 h22 r23 w24 => chkS [] r23 w24 (outS1 [x21] h22)))
noncomputable def S75 (ih : Handler) (n : Nat) (x0 : IV) (x1 : IV) (h2 : Hp) : Option (IV × Hp) :=
  boxS 78643200 x1 h2 fun x3 h4 _ _ => isoS [] true false ih 107 [x0] h4 fun x7 h8 r9 w10 => chkS [] r9 w10 (isoS [] false true ih 106 [x7] h8 fun x11 h12 r13 w14 => chkS [] r13 w14 (loadA 3 x3 h12 fun x15 r16 => S75_25 r16 r13 w14 r9 w10 h12 x15 x11))
theorem S75_ok (ih : Handler) (n : Nat) (x0 : IV) (x1 : IV) (h2 : Hp) : funS EE ih ft.get n 75 [x0, x1] h2 = S75 ih n x0 x1 h2 := by kernel_rfl
noncomputable def S76_191 (h36 : Hp) (x7 : IV) (x26 : IV) : Option (IV × Hp) :=
  cellS true 3 x7 h36 fun x39 => outS1 [x39, x26] h36
noncomputable def S76_192 (x68 : IV) (h69 : Hp) (x7 : IV) : Option (IV × Hp) :=
  extS 0 x68 fun x72 => extS 1 x68 fun x73 => storeA 3 x7 x72 h69 fun h74 _ _ => cellS true 3 x7 h74 fun x77 => outS1 [x77, x73] h74
noncomputable def S76_193 (h53 : Hp) (x27 : IV) (x49 : IV) (ih : Handler) (x48 : IV) (x7 : IV) : Option (IV × Hp) :=
  loadA 3 x27 h53 fun x56 _ => loadA 3 x49 h53 fun x58 _ => genS (pcBuildSlice EE 28 2 [(0, x56), (1, x58)]) 79699970 h53 fun x60 h61 _ _ => isoS [] false false ih 64 [.fv (.int .i64 17), x60] h61 fun x64 h65 _ _ => isoS [] false false ih 105 [x64, x48] h65 fun x68 h69 _ _ => S76_192 x68 h69 x7
noncomputable def S76_194 (ih : Handler) (h31 : Hp) (x0 : IV) (x41 : IV) (x27 : IV) (x7 : IV) : Option (IV × Hp) :=
  isoS [] false false ih 53 [x0, x41] h31 fun x43 h44 _ _ => extS 0 x43 fun x47 => extS 1 x43 fun x48 => newS 79698952 (.row [.fv (.int .i64 0), .fv (.int .i64 0), .nils] false) (.ptr (.own 79698952) 0) h44 fun x49 h50 _ _ => storeA 3 x49 x47 h50 fun h53 _ _ => S76_193 h53 x27 x49 ih x48 x7
noncomputable def S76_195 (x26 : IV) (h31 : Hp) (x7 : IV) (x12 : IV) (ih : Handler) (x0 : IV) (x27 : IV) : Option (IV × Hp) :=
  neS EE 35 x26 (.fv (.int .i64 0)) fun x34 => condS x34 (bldS [.fv (.int .i64 0), .fv (.int .i64 0), .nils] [] fun x35 => storeA 3 x7 x35 h31 fun h36 _ _ => S76_191 h36 x7 x26) (ixS 3 x12 (.fv (.int .i64 1)) fun x40 => loadA 3 x40 h31 fun x41 _ => S76_194 ih h31 x0 x41 x27 x7)
noncomputable def S76_196 (ih : Handler) (h8 : Hp) (x0 : IV) (x19 : IV) (x7 : IV) (x12 : IV) : Option (IV × Hp) :=
  isoS [] false false ih 53 [x0, x19] h8 fun x21 h22 _ _ => extS 0 x21 fun x25 => extS 1 x21 fun x26 => newS 79695880 (.row [.fv (.int .i64 0), .fv (.int .i64 0), .nils] false) (.ptr (.own 79695880) 0) h22 fun x27 h28 _ _ => storeA 3 x27 x25 h28 fun h31 _ _ => S76_195 x26 h31 x7 x12 ih x0 x27
noncomputable def S76_197 (h105 : Hp) (x7 : IV) (x88 : IV) : Option (IV × Hp) :=
  cellS true 3 x7 h105 fun x108 => outS1 [x108, x88] h105
noncomputable def S76_198 (ih : Handler) (h100 : Hp) (x0 : IV) (x112 : IV) (x114 : IV) (r110 : List Ref) (x7 : IV) (x109 : IV) : Option (IV × Hp) :=
  isoS [] false false ih 73 [x0, x112, x114] h100 fun x116 h117 r118 w119 => chkS [(r110, [])] r118 w119 (storeA 3 x7 x109 h117 fun h120 r121 w122 => chkS [] r121 w122 (cellS true 3 x7 h120 fun x123 => outS1 [x123, x116] h120))
noncomputable def S76_199 (x12 : IV) (h100 : Hp) (r110 : List Ref) (x89 : IV) (ih : Handler) (x0 : IV) (x7 : IV) (x109 : IV) : Option (IV × Hp) :=
  ixS 3 x12 (.fv (.int .i64 1)) fun x111 => loadA 3 x111 h100 fun x112 r113 => chkS [(r110, [])] r113 [] (loadA 3 x89 h100 fun x114 r115 => chkS [(r113, []), (r110, [])] r115 [] (S76_198 ih h100 x0 x112 x114 r110 x7 x109))
noncomputable def S76_200 (x88 : IV) (h100 : Hp) (x7 : IV) (x93 : IV) (x12 : IV) (x89 : IV) (ih : Handler) (x0 : IV) : Option (IV × Hp) :=
  neS EE 35 x88 (.fv (.int .i64 0)) fun x103 => condS x103 (bldS [.fv (.int .i64 0), .fv (.int .i64 0), .nils] [] fun x104 => storeA 3 x7 x104 h100 fun h105 _ _ => S76_197 h105 x7 x88) (loadA 3 x93 h100 fun x109 r110 => chkS [] r110 [] (S76_199 x12 h100 r110 x89 ih x0 x7 x109))
noncomputable def S76_201 (x82 : IV) (h83 : Hp) (x86 : IV) (x87 : IV) (x7 : IV) (x12 : IV) (ih : Handler) (x0 : IV) : Option (IV × Hp) :=
  extS 2 x82 fun x88 => newS 79702025 (.row [.fv (.int .i64 0), .fv (.int .i64 0), .nils] false) (.ptr (.own 79702025) 0) h83 fun x89 h90 _ _ => newS 79702026 (.row [.fv (.int .i64 0), .fv (.int .i64 0), .nils] false) (.ptr (.own 79702026) 0) h90 fun x93 h94 _ _ => storeA 3 x89 x86 h94 fun h97 _ _ => storeA 3 x93 x87 h97 fun h100 _ _ => S76_200 x88 h100 x7 x93 x12 x89 ih x0
noncomputable def S76_202 (x12 : IV) (h8 : Hp) (ih : Handler) (x0 : IV) (x7 : IV) : Option (IV × Hp) :=
  ixS 3 x12 (.fv (.int .i64 0)) fun x79 => loadA 3 x79 h8 fun x80 _ => isoS [] false false ih 108 [x0, x80, .fv (.int .i64 16)] h8 fun x82 h83 _ _ => extS 0 x82 fun x86 => extS 1 x82 fun x87 => S76_201 x82 h83 x86 x87 x7 x12 ih x0
noncomputable def S76_203 (h151 : Hp) (x7 : IV) (x134 : IV) : Option (IV × Hp) :=
  cellS true 3 x7 h151 fun x154 => outS1 [x154, x134] h151
noncomputable def S76_204 (h136 : Hp) (x135 : IV) (x132 : IV) (x133 : IV) (x7 : IV) (x134 : IV) : Option (IV × Hp) :=
  newS 79707146 (.row [.fv (.int .i64 0), .fv (.int .i64 0), .nils] false) (.ptr (.own 79707146) 0) h136 fun x139 h140 _ _ => storeA 3 x135 x132 h140 fun h143 _ _ => storeA 3 x139 x133 h143 fun h146 _ _ => loadA 3 x135 h146 fun x149 _ => storeA 3 x7 x149 h146 fun h151 _ _ => S76_203 h151 x7 x134
noncomputable def S76_205 (ih : Handler) (h8 : Hp) (x0 : IV) (x126 : IV) (x7 : IV) : Option (IV × Hp) :=
  isoS [] false false ih 108 [x0, x126, .fv (.int .i64 17)] h8 fun x128 h129 _ _ => extS 0 x128 fun x132 => extS 1 x128 fun x133 => extS 2 x128 fun x134 => newS 79707145 (.row [.fv (.int .i64 0), .fv (.int .i64 0), .nils] false) (.ptr (.own 79707145) 0) h129 fun x135 h136 _ _ => S76_204 h136 x135 x132 x133 x7 x134
noncomputable def S76_206 (h177 : Hp) (x170 : IV) (x7 : IV) (x165 : IV) : Option (IV × Hp) :=
  loadA 3 x170 h177 fun x180 _ => storeA 3 x7 x180 h177 fun h182 _ _ => cellS true 3 x7 h182 fun x185 => outS1 [x185, x165] h182
noncomputable def S76_207 (x159 : IV) (h160 : Hp) (x163 : IV) (x164 : IV) (x7 : IV) : Option (IV × Hp) :=
  extS 2 x159 fun x165 => newS 79710217 (.row [.fv (.int .i64 0), .fv (.int .i64 0), .nils] false) (.ptr (.own 79710217) 0) h160 fun x166 h167 _ _ => newS 79710218 (.row [.fv (.int .i64 0), .fv (.int .i64 0), .nils] false) (.ptr (.own 79710218) 0) h167 fun x170 h171 _ _ => storeA 3 x166 x163 h171 fun h174 _ _ => storeA 3 x170 x164 h174 fun h177 _ _ => S76_206 h177 x170 x7 x165
noncomputable def S76_208 (x12 : IV) (h8 : Hp) (ih : Handler) (x0 : IV) (x7 : IV) : Option (IV × Hp) :=
  ixS 3 x12 (.fv (.int .i64 0)) fun x156 => loadA 3 x156 h8 fun x157 _ => isoS [] false false ih 108 [x0, x157, .fv (.int .i64 17)] h8 fun x159 h160 _ _ => extS 0 x159 fun x163 => extS 1 x159 fun x164 => S76_207 x159 h160 x163 x164 x7
noncomputable def S76_209 (h8 : Hp) (x7 : IV) : Option (IV × Hp) :=
  bldS [.fv (.int .i64 0), .fv (.int .i64 0), .nils] [] fun x186 => storeA 3 x7 x186 h8 fun h187 _ _ => cellS true 3 x7 h187 fun x190 => outS1 [x190, .fv (.int .i64 10)] h187
noncomputable def S76_210 (x15 : IV) (x12 : IV) (h8 : Hp) (ih : Handler) (x0 : IV) (x7 : IV) : Option (IV × Hp) :=
  eqS EE 3 x15 (.fv (.int .i64 23)) fun x124 => condS x124 (ixS 3 x12 (.fv (.int .i64 0)) fun x125 => loadA 3 x125 h8 fun x126 _ => S76_205 ih h8 x0 x126 x7) (eqS EE 3 x15 (.fv (.int .i64 24)) fun x155 => condS x155 (S76_208 x12 h8 ih x0 x7) (S76_209 h8 x7))
noncomputable def S76_211 (x15 : IV) (x12 : IV) (h8 : Hp) (ih : Handler) (x0 : IV) (x7 : IV) : Option (IV × Hp) :=
  eqS EE 3 x15 (.fv (.int .i64 22)) fun x17 => condS x17 (ixS 3 x12 (.fv (.int .i64 0)) fun x18 => loadA 3 x18 h8 fun x19 _ => S76_196 ih h8 x0 x19 x7 x12) (eqS EE 3 x15 (.fv (.int .i64 21)) fun x78 => condS x78 (S76_202 x12 h8 ih x0 x7) (S76_210 x15 x12 h8 ih x0 x7))
noncomputable def S76 (ih : Handler) (n : Nat) (x0 : IV) (x1 : IV) (h2 : Hp) : Option (IV × Hp) :=
  boxS 79691776 x1 h2 fun x3 h4 _ _ => newS 79691777 (.row [.fv (.int .i64 0), .fv (.int .i64 0), .nils] false) (.ptr (.own 79691777) 0) h4 fun x7 h8 _ _ => faddrS 2 x3 fun x11 => load1 x11 h8 fun x12 _ => faddrS 0 x3 fun x14 => load1 x14 h8 fun x15 _ => S76_211 x15 x12 h8 ih x0 x7
theorem S76_ok (ih : Handler) (n : Nat) (x0 : IV) (x1 : IV) (h2 : Hp) : funS EE ih ft.get n 76 [x0, x1] h2 = S76 ih n x0 x1 h2 := by kernel_rfl
noncomputable def S77_57 (h35 : Hp) (x30 : IV) (x20 : IV) (ih : Handler) (x34 : IV) (j1_27 : IV → Hp → Option (IV × Hp)) (x19 : IV) : Option (IV × Hp) :=
  guardS x30 true h35 (fun k38 => loadA 3 x20 h35 fun x39 r40 => k38 x39 h35 r40 []) fun x41 h42 _ _ => guardS x30 true h42 (fun k45 => isoS [] false false ih 18 [x34, x41] h42 k45) fun x46 h47 _ _ => guardS x30 true h47 (fun k50 => optS (unR .not x46) fun x51 => k50 x51 h47 [] []) fun x52 h53 _ _ => pickS x30 x52 (.fv (.bool false)) fun x56 => condS x56 (j1_27 (.fv (.int .i64 11)) h53) (j1_27 x19 h53)
noncomputable def S77_58 (h15 : Hp) (x18 : IV) (x19 : IV) (x8 : IV) (ih : Handler) : Option (IV × Hp) :=
  newS 80741382 (.row [.fv (.int .i64 0), .fv (.int .i64 0), .nils] false) (.ptr (.own 80741382) 0) h15 fun x20 h21 _ _ => storeA 3 x20 x18 h21 fun h24 _ _ => (fun (j1_27 : IV → Hp → Option (IV × Hp)) => eqS EE 3 x19 (.fv (.int .i64 0)) fun x30 => guardS x30 true h24 (fun k31 => loadA 3 x8 h24 fun x32 r33 => k31 x32 h24 r33 []) fun x34 h35 _ _ => S77_57 h35 x30 x20 ih x34 j1_27 x19) fun x28 h29 => outS1 [x28] h29
noncomputable def S77 (ih : Handler) (n : Nat) (x0 : IV) (x1 : IV) (x2 : IV) (h3 : Hp) : Option (IV × Hp) :=
  boxS 80740352 x1 h3 fun x4 h5 _ _ => boxS 80740353 x2 h5 fun x8 h9 _ _ => loadA 3 x4 h9 fun x12 _ => isoS [] false false ih 19 [x0, x12] h9 fun x14 h15 _ _ => extS 0 x14 fun x18 => extS 1 x14 fun x19 => S77_58 h15 x18 x19 x8 ih
theorem S77_ok (ih : Handler) (n : Nat) (x0 : IV) (x1 : IV) (x2 : IV) (h3 : Hp) : funS EE ih ft.get n 77 [x0, x1, x2] h3 = S77 ih n x0 x1 x2 h3 := by kernel_rfl
noncomputable def S78_25 (r16 : List Ref) (r13 : List Ref) (w14 : List Ref) (r9 : List Ref) (w10 : List Ref) (h12 : Hp) (x15 : IV) (x11 : IV) : Option (IV × Hp) :=
  chkS [(r13, w14), (r9, w10)] r16 [] (genS (pcBuildSlice EE 28 1 [(0, x15)]) 81789956 h12 fun x17 h18 r19 w20 => chkS [(r13, w14), (r9, w10)] r19 w20 (genS (builtinR EE 81789957 false .append [28, 28] [x11, x17]) 81789957 h18 fun x21 h22 r23 w24 => chkS [] r23 w24 (outS1 [x21] h22)))
noncomputable def S78 (ih : Handler) (n : Nat) (x0 : IV) (x1 : IV) (h2 : Hp) : Option (IV × Hp) :=
  boxS 81788928 x1 h2 fun x3 h4 _ _ => genS (pcBuildSlice EE 28 0 []) 81789952 h4 fun x7 h8 r9 w10 => chkS [] r9 w10 (genS (builtinR EE 81789954 false .append [28, 28] [x7, x0]) 81789954 h8 fun x11 h12 r13 w14 => chkS [] r13 w14 (loadA 3 x3 h12 fun x15 r16 => S78_25 r16 r13 w14 r9 w10 h12 x15 x11))
theorem S78_ok (ih : Handler) (n : Nat) (x0 : IV) (x1 : IV) (h2 : Hp) : funS EE ih ft.get n 78 [x0, x1] h2 = S78 ih n x0 x1 h2 := by kernel_rfl
noncomputable def S79_27 (h13 : Hp) (x3 : IV) (x7 : IV) (x12 : IV) : Option (IV × Hp) :=
  loadA 3 x3 h13 fun x14 _ => storeA 3 x7 x14 h13 fun h16 _ _ => cellS true 3 x7 h16 fun x19 => outS1 [x19, x12] h16
noncomputable def S79_28 (ih : Handler) (h8 : Hp) (x21 : IV) (j1_11 : IV → Hp → Option (IV × Hp)) : Option (IV × Hp) :=
  isoS [] false false ih 25 [x21] h8 fun x23 h24 _ _ => j1_11 x23 h24
noncomputable def S79 (ih : Handler) (n : Nat) (x0 : IV) (x1 : IV) (h2 : Hp) : Option (IV × Hp) :=
  boxS 82837504 x0 h2 fun x3 h4 _ _ => newS 82837505 (.row [.fv (.int .i64 0), .fv (.int .i64 0), .nils] false) (.ptr (.own 82837505) 0) h4 fun x7 h8 _ _ => (fun (j1_11 : IV → Hp → Option (IV × Hp)) => eqS EE 3 x1 (.fv (.int .i64 0)) fun x20 => condS x20 (loadA 3 x3 h8 fun x21 _ => S79_28 ih h8 x21 j1_11) (j1_11 x1 h8)) fun x12 h13 => S79_27 h13 x3 x7 x12
theorem S79_ok (ih : Handler) (n : Nat) (x0 : IV) (x1 : IV) (h2 : Hp) : funS EE ih ft.get n 79 [x0, x1] h2 = S79 ih n x0 x1 h2 := by kernel_rfl
noncomputable def S80_47 (h7 : Hp) (x4 : IV) (x6 : IV) : Option (IV × Hp) :=
  guardS x4 true h7 (fun k10 => leS EE 3 x6 (.fv (.int .i64 3000)) fun x11 => k10 x11 h7 [] []) fun x12 h13 _ _ => pickS x4 x12 (.fv (.bool false)) fun x16 => outS1 [x16] h13
noncomputable def S80_48 (x1 : IV) (h2 : Hp) : Option (IV × Hp) :=
  geS EE 3 x1 (.fv (.int .i64 0)) fun x18 => guardS x18 true h2 (fun k19 => k19 x1 h2 [] []) fun x20 h21 _ _ => guardS x18 true h21 (fun k24 => leS EE 3 x20 (.fv (.int .i64 2)) fun x25 => k24 x25 h21 [] []) fun x26 h27 _ _ => pickS x18 x26 (.fv (.bool false)) fun x30 => outS1 [x30] h27
noncomputable def S80_49 (h35 : Hp) (x32 : IV) (x34 : IV) : Option (IV × Hp) :=
  guardS x32 true h35 (fun k38 => leS EE 3 x34 (.fv (.int .i64 4)) fun x39 => k38 x39 h35 [] []) fun x40 h41 _ _ => pickS x32 x40 (.fv (.bool false)) fun x44 => outS1 [x44] h41
noncomputable def S80_50 (x1 : IV) (h2 : Hp) : Option (IV × Hp) :=
  eqS EE 3 x1 (.fv (.int .i64 0)) fun x46 => outS1 [x46] h2
noncomputable def S80_51 (x0 : IV) (x1 : IV) (h2 : Hp) : Option (IV × Hp) :=
  eqS EE 3 x0 (.fv (.int .i64 26)) fun x31 => condS x31 (geS EE 3 x1 (.fv (.int .i64 0)) fun x32 => guardS x32 true h2 (fun k33 => k33 x1 h2 [] []) fun x34 h35 _ _ => S80_49 h35 x32 x34) (eqS EE 3 x0 (.fv (.int .i64 25)) fun x45 => condS x45 (outS1 [.fv (.bool true)] h2) (S80_50 x1 h2))
noncomputable def S80 (ih : Handler) (n : Nat) (x0 : IV) (x1 : IV) (h2 : Hp) : Option (IV × Hp) :=
  eqS EE 3 x0 (.fv (.int .i64 1)) fun x3 => condS x3 (geS EE 3 x1 (.fv (.int .i64 0)) fun x4 => guardS x4 true h2 (fun k5 => k5 x1 h2 [] []) fun x6 h7 _ _ => S80_47 h7 x4 x6) (eqS EE 3 x0 (.fv (.int .i64 2)) fun x17 => condS x17 (S80_48 x1 h2) (S80_51 x0 x1 h2))
theorem S80_ok (ih : Handler) (n : Nat) (x0 : IV) (x1 : IV) (h2 : Hp) : funS EE ih ft.get n 80 [x0, x1] h2 = S80 ih n x0 x1 h2 := by kernel_rfl
noncomputable def S81_264 (h20 : Hp) (x5 : IV) : Option (IV × Hp) :=
  bldS [.fv (.int .i64 0), .fv (.int .i64 0), .nils] [] fun x26 => storeA 3 x5 x26 h20 fun h27 _ _ => cellS true 3 x5 h27 fun x30 => outS1 [x30] h27
noncomputable def S81_265 (ih : Handler) (h20 : Hp) (x41 : IV) (x5 : IV) : Option (IV × Hp) :=
  isoS [] false false ih 29 [x41] h20 fun x42 h43 _ _ => storeA 3 x5 x42 h43 fun h46 _ _ => cellS true 3 x5 h46 fun x49 => outS1 [x49] h46
noncomputable def S81_266 (x2 : IV) (x1 : IV) (h20 : Hp) (ih : Handler) (x5 : IV) : Option (IV × Hp) :=
  subS EE 3 x2 (.fv (.int .i64 1)) fun x36 => nilS x1 fun x37 => faddrS 1 x37 fun x38 => load1 x38 h20 fun x39 _ => subS EE 3 x36 x39 fun x41 => S81_265 ih h20 x41 x5
noncomputable def S81_267 (h4 : Hp) (h126 : Hp) (x98 : IV) (x99 : IV) (x100 : IV) (x101 : IV) (x102 : IV) (x103 : IV) (x129 : IV) (q66 : List IV → Hp → Option (IV × Hp)) : Option (IV × Hp) :=
  dropS (h4.own.map (·.1)) [84954117, 84956171] [x98, x99, x100, x101, x102, x103, x129] h126 fun h130 => q66 [x98, x99, x100, x101, x102, x103, x129] h130
noncomputable def S81_268 (r123 : List Ref) (w124 : List Ref) (x103 : IV) (h122 : Hp) (x121 : IV) (x104 : IV) (h4 : Hp) (x98 : IV) (x99 : IV) (x100 : IV) (x101 : IV) (x102 : IV) (q66 : List IV → Hp → Option (IV × Hp)) : Option (IV × Hp) :=
  chkS [] r123 w124 (faddrS 2 x103 fun x125 => store1 x125 x121 h122 fun h126 r127 w128 => chkS [] r127 w128 (addS EE 3 x104 (.fv (.int .i64 1)) fun x129 => S81_267 h4 h126 x98 x99 x100 x101 x102 x103 x129 q66))
noncomputable def S81_269 (ih : Handler) (h107 : Hp) (x98 : IV) (x106 : IV) (x111 : IV) (x112 : IV) (r110 : List Ref) (x109 : IV) (x103 : IV) (x104 : IV) (h4 : Hp) (x99 : IV) (x100 : IV) (x101 : IV) (x102 : IV) (q66 : List IV → Hp → Option (IV × Hp)) : Option (IV × Hp) :=
  isoS [true, false, false, false] false false ih 81 [x98, x106, x111, x112] h107 fun x113 h114 r115 w116 => chkS [(r110, [])] r115 w116 (genS (pcBuildSlice EE 28 1 [(0, x113)]) 84956170 h114 fun x117 h118 r119 w120 => chkS [(r110, [])] r119 w120 (genS (builtinR EE 84956171 false .append [28, 28] [x109, x117]) 84956171 h118 fun x121 h122 r123 w124 => S81_268 r123 w124 x103 h122 x121 x104 h4 x98 x99 x100 x101 x102 q66))
noncomputable def S81_270 (x103 : IV) (h107 : Hp) (x100 : IV) (x105 : IV) (x101 : IV) (ih : Handler) (x98 : IV) (x106 : IV) (x104 : IV) (h4 : Hp) (x99 : IV) (x102 : IV) (q66 : List IV → Hp → Option (IV × Hp)) : Option (IV × Hp) :=
  faddrS 2 x103 fun x108 => load1 x108 h107 fun x109 r110 => chkS [] r110 [] (addS EE 3 x100 x105 fun x111 => addS EE 3 x101 (.fv (.int .i64 1)) fun x112 => S81_269 ih h107 x98 x106 x111 x112 r110 x109 x103 x104 h4 x99 x100 x101 x102 q66)
noncomputable def S81_271 (h4 : Hp) (h162 : Hp) (x139 : IV) (x140 : IV) (x141 : IV) (x142 : IV) (x143 : IV) (x144 : IV) (x145 : IV) (x146 : IV) (x147 : IV) (x161 : IV) (x165 : IV) (q136 : List IV → Hp → Option (IV × Hp)) : Option (IV × Hp) :=
  dropS (h4.own.map (·.1)) [84954117] [x139, x140, x141, x142, x143, x144, x145, x146, x147, x161, x165] h162 fun h166 => q136 [x139, x140, x141, x142, x143, x144, x145, x146, x147, x161, x165] h166
noncomputable def S81_272 (x151 : IV) (h138 : Hp) (ih : Handler) (x148 : IV) (x149 : IV) (h4 : Hp) (x139 : IV) (x140 : IV) (x141 : IV) (x142 : IV) (x143 : IV) (x144 : IV) (x145 : IV) (x146 : IV) (x147 : IV) (q136 : List IV → Hp → Option (IV × Hp)) : Option (IV × Hp) :=
  bldS [.fv (.int .i64 0), .fv (.int .i64 0), .nils, .nils, .fv (.int .i64 0), .fv (.int .i64 0), .nils] [(0, 1, .fv (.int .i64 1)), (1, 1, x151)] fun x152 => fzS (pcBox true 84954117 x152) 84954117 x152 h138 fun x153 h154 _ _ => genS (pcBuildSlice EE 129 1 [(0, x153)]) 84954118 h154 fun x157 h158 _ _ => isoS [] false false ih 109 [x148, x157] h158 fun x161 h162 _ _ => addS EE 3 x149 (.fv (.int .i64 1)) fun x165 => S81_271 h4 h162 x139 x140 x141 x142 x143 x144 x145 x146 x147 x161 x165 q136
noncomputable def S81_273 (x167 : IV) (h138 : Hp) (ih : Handler) (x139 : IV) (x148 : IV) (j9_97 : IV → IV → IV → IV → IV → IV → IV → IV → IV → Hp → Option (IV × Hp)) (x140 : IV) (x141 : IV) (x142 : IV) (x143 : IV) (x144 : IV) (x145 : IV) (x146 : IV) : Option (IV × Hp) :=
  faddrS 4 x167 fun x168 => loadA 3 x168 h138 fun x169 _ => isoS [true, false, false] false false ih 82 [x139, x169, x148] h138 fun x171 h172 _ _ => j9_97 x139 x140 x141 x142 x143 x144 x145 x146 x171 h172
noncomputable def S81_274 (l184 : List IV) (x146 : IV) (x141 : IV) (h138 : Hp) (ih : Handler) (x148 : IV) (h4 : Hp) (x139 : IV) (x140 : IV) (x142 : IV) (x143 : IV) (x144 : IV) (x145 : IV) (x147 : IV) (q136 : List IV → Hp → Option (IV × Hp)) (j9_97 : IV → IV → IV → IV → IV → IV → IV → IV → IV → Hp → Option (IV × Hp)) : Option (IV × Hp) :=
  uncS l184 fun x149 _ => ltS EE 3 x149 x146 fun x150 => condS x150 (addS EE 3 x141 x149 fun x151 => S81_272 x151 h138 ih x148 x149 h4 x139 x140 x141 x142 x143 x144 x145 x146 x147 q136) (nilS x147 fun x167 => S81_273 x167 h138 ih x139 x148 j9_97 x140 x141 x142 x143 x144 x145 x146)
noncomputable def S81_275 (l179 : List IV) (x141 : IV) (h138 : Hp) (ih : Handler) (h4 : Hp) (x139 : IV) (x140 : IV) (x142 : IV) (x143 : IV) (q136 : List IV → Hp → Option (IV × Hp)) (j9_97 : IV → IV → IV → IV → IV → IV → IV → IV → IV → Hp → Option (IV × Hp)) : Option (IV × Hp) :=
  uncS l179 fun x144 l180 => uncS l180 fun x145 l181 => uncS l181 fun x146 l182 => uncS l182 fun x147 l183 => uncS l183 fun x148 l184 => S81_274 l184 x146 x141 h138 ih x148 h4 x139 x140 x142 x143 x144 x145 x147 q136 j9_97
noncomputable def S81_276 (l137 : List IV) (h138 : Hp) (ih : Handler) (h4 : Hp) (q136 : List IV → Hp → Option (IV × Hp)) (j9_97 : IV → IV → IV → IV → IV → IV → IV → IV → IV → Hp → Option (IV × Hp)) : Option (IV × Hp) :=
  uncS l137 fun x139 l175 => uncS l175 fun x140 l176 => uncS l176 fun x141 l177 => uncS l177 fun x142 l178 => uncS l178 fun x143 l179 => S81_275 l179 x141 h138 ih h4 x139 x140 x142 x143 q136 j9_97
noncomputable def S81_277 (h87 : Hp) (x133 : IV) (h4 : Hp) (x69 : IV) (x70 : IV) (x71 : IV) (x72 : IV) (x73 : IV) (x74 : IV) (x75 : IV) (x86 : IV) (x95 : IV) (n : Nat) (ih : Handler) (j9_97 : IV → IV → IV → IV → IV → IV → IV → IV → IV → Hp → Option (IV × Hp)) : Option (IV × Hp) :=
  load1 x133 h87 fun x134 _ => dropS (h4.own.map (·.1)) [84954117] [x69, x70, x71, x72, x73, x74, x75, x86, x95, x134, .fv (.int .i64 0)] h87 fun h186 => loopS n (fun q136 l137 h138 => S81_276 l137 h138 ih h4 q136 j9_97) [x69, x70, x71, x72, x73, x74, x75, x86, x95, x134, .fv (.int .i64 0)] h186
noncomputable def S81_278 (x131 : IV) (x95 : IV) (h87 : Hp) (h4 : Hp) (x69 : IV) (x70 : IV) (x71 : IV) (x72 : IV) (x73 : IV) (x74 : IV) (x75 : IV) (x86 : IV) (n : Nat) (ih : Handler) (j9_97 : IV → IV → IV → IV → IV → IV → IV → IV → IV → Hp → Option (IV × Hp)) : Option (IV × Hp) :=
  condS x131 (nilS x95 fun x132 => faddrS 3 x132 fun x133 => S81_277 h87 x133 h4 x69 x70 x71 x72 x73 x74 x75 x86 x95 n ih j9_97) (j9_97 x69 x70 x71 x72 x73 x74 x75 x86 x95 h87)
noncomputable def S81_279 (h87 : Hp) (x91 : IV) (x75 : IV) (ih : Handler) (h4 : Hp) (q66 : List IV → Hp → Option (IV × Hp)) (x86 : IV) (x69 : IV) (x70 : IV) (x71 : IV) (x72 : IV) (x73 : IV) (x74 : IV) (n : Nat) : Option (IV × Hp) :=
  load1 x91 h87 fun x92 _ => ixS 1 x92 x75 fun x94 => load1 x94 h87 fun x95 _ => (fun (j9_97 : IV → IV → IV → IV → IV → IV → IV → IV → IV → Hp → Option (IV × Hp)) => gtS EE 3 x86 (.fv (.int .i64 0)) fun x131 => S81_278 x131 x95 h87 h4 x69 x70 x71 x72 x73 x74 x75 x86 n ih j9_97) fun x98 x99 x100 x101 x102 x103 x104 x105 x106 h107 => S81_270 x103 h107 x100 x105 x101 ih x98 x106 x104 h4 x99 x102 q66
noncomputable def S81_280 (x82 : IV) (h68 : Hp) (ih : Handler) (x75 : IV) (x70 : IV) (h4 : Hp) (q66 : List IV → Hp → Option (IV × Hp)) (x69 : IV) (x71 : IV) (x72 : IV) (x73 : IV) (x74 : IV) (n : Nat) : Option (IV × Hp) :=
  faddrS 0 x82 fun x83 => load1 x83 h68 fun x84 _ => isoS [] false false ih 48 [x84, x75] h68 fun x86 h87 _ _ => nilS x70 fun x90 => faddrS 2 x90 fun x91 => S81_279 h87 x91 x75 ih h4 q66 x86 x69 x70 x71 x72 x73 x74 n
noncomputable def S81_281 (h68 : Hp) (x73 : IV) (x187 : IV) : Option (IV × Hp) :=
  storeA 3 x73 x187 h68 fun h189 _ _ => cellS true 3 x73 h189 fun x192 => outS1 [x192] h189
noncomputable def S81_282 (x78 : IV) (x75 : IV) (x70 : IV) (h68 : Hp) (ih : Handler) (h4 : Hp) (q66 : List IV → Hp → Option (IV × Hp)) (x69 : IV) (x71 : IV) (x72 : IV) (x73 : IV) (x74 : IV) (n : Nat) : Option (IV × Hp) :=
  lenS x78 fun x80 => ltS EE 3 x75 x80 fun x81 => condS x81 (nilS x70 fun x82 => S81_280 x82 h68 ih x75 x70 h4 q66 x69 x71 x72 x73 x74 n) (loadA 3 x74 h68 fun x187 _ => S81_281 h68 x73 x187)
noncomputable def S81_283 (l197 : List IV) (x70 : IV) (h68 : Hp) (ih : Handler) (h4 : Hp) (q66 : List IV → Hp → Option (IV × Hp)) (x69 : IV) (x71 : IV) (x72 : IV) (x73 : IV) (n : Nat) : Option (IV × Hp) :=
  uncS l197 fun x74 l198 => uncS l198 fun x75 _ => nilS x70 fun x76 => faddrS 2 x76 fun x77 => load1 x77 h68 fun x78 _ => S81_282 x78 x75 x70 h68 ih h4 q66 x69 x71 x72 x73 x74 n
noncomputable def S81_284 (l67 : List IV) (h68 : Hp) (ih : Handler) (h4 : Hp) (q66 : List IV → Hp → Option (IV × Hp)) (n : Nat) : Option (IV × Hp) :=
  uncS l67 fun x69 l193 => uncS l193 fun x70 l194 => uncS l194 fun x71 l195 => uncS l195 fun x72 l196 => uncS l196 fun x73 l197 => S81_283 l197 x70 h68 ih h4 q66 x69 x71 x72 x73 n
noncomputable def S81_285 (r61 : List Ref) (w62 : List Ref) (r57 : List Ref) (r53 : List Ref) (h60 : Hp) (x59 : IV) (x58 : IV) (h4 : Hp) (x0 : IV) (x1 : IV) (x2 : IV) (x3 : IV) (x5 : IV) (n : Nat) (ih : Handler) : Option (IV × Hp) :=
  chkS [(r57, []), (r53, [])] r61 w62 (storeA 3 x59 x58 h60 fun h63 r64 w65 => chkS [] r64 w65 (dropS (h4.own.map (·.1)) [84954117, 84956171] [x0, x1, x2, x3, x5, x59, .fv (.int .i64 0)] h63 fun h200 => loopS n (fun q66 l67 h68 => S81_284 l67 h68 ih h4 q66 n) [x0, x1, x2, x3, x5, x59, .fv (.int .i64 0)] h200))
noncomputable def S81_286 (x54 : IV) (h20 : Hp) (r53 : List Ref) (x52 : IV) (h4 : Hp) (x0 : IV) (x1 : IV) (x2 : IV) (x3 : IV) (x5 : IV) (n : Nat) (ih : Handler) : Option (IV × Hp) :=
  faddrS 1 x54 fun x55 => load1 x55 h20 fun x56 r57 => chkS [(r53, [])] r57 [] (bldS [.fv (.int .i64 0), .fv (.int .i64 0), .nils] [(0, 1, x52), (1, 1, x56)] fun x58 => newS 84942857 (.row [.fv (.int .i64 0), .fv (.int .i64 0), .nils] false) (.ptr (.own 84942857) 0) h20 fun x59 h60 r61 w62 => S81_285 r61 w62 r57 r53 h60 x59 x58 h4 x0 x1 x2 x3 x5 n ih)
noncomputable def S81_287 (x1 : IV) (h20 : Hp) (h4 : Hp) (x0 : IV) (x2 : IV) (x3 : IV) (x5 : IV) (n : Nat) (ih : Handler) : Option (IV × Hp) :=
  nilS x1 fun x50 => faddrS 0 x50 fun x51 => load1 x51 h20 fun x52 r53 => chkS [] r53 [] (nilS x1 fun x54 => S81_286 x54 h20 r53 x52 h4 x0 x1 x2 x3 x5 n ih)
noncomputable def S81_288 (x1 : IV) (h20 : Hp) (x2 : IV) (ih : Handler) (x5 : IV) (h4 : Hp) (x0 : IV) (x3 : IV) (n : Nat) : Option (IV × Hp) :=
  nilS x1 fun x31 => faddrS 0 x31 fun x32 => load1 x32 h20 fun x33 _ => eqS EE 3 x33 (.fv (.int .i64 1)) fun x35 => condS x35 (S81_266 x2 x1 h20 ih x5) (S81_287 x1 h20 h4 x0 x2 x3 x5 n ih)
noncomputable def S81_289 (x0 : IV) (h20 : Hp) (x5 : IV) (x1 : IV) (x2 : IV) (ih : Handler) (h4 : Hp) (x3 : IV) (n : Nat) : Option (IV × Hp) :=
  nilS x0 fun x21 => faddrS 2 x21 fun x22 => load1 x22 h20 fun x23 _ => neS EE 3 x23 (.fv (.int .i64 0)) fun x25 => condS x25 (S81_264 h20 x5) (S81_288 x1 h20 x2 ih x5 h4 x0 x3 n)
noncomputable def S81_290 (x259 : IV) (h255 : Hp) (j0_19 : Hp → Option (IV × Hp)) : Option (IV × Hp) :=
  faddrS 2 x259 fun x260 => store1 x260 (.fv (.int .i64 5)) h255 fun h261 _ _ => j0_19 h261
noncomputable def S81_291 (h249 : Hp) (x205 : IV) (x237 : IV) (x248 : IV) (x0 : IV) (j0_19 : Hp → Option (IV × Hp)) : Option (IV × Hp) :=
  guardS x205 true h249 (fun k252 => pickS x237 (.fv (.bool true)) x248 fun x253 => k252 x253 h249 [] []) fun x254 h255 _ _ => pickS x205 x254 (.fv (.bool false)) fun x258 => condS x258 (nilS x0 fun x259 => S81_290 x259 h255 j0_19) (j0_19 h255)
noncomputable def S81_292 (h220 : Hp) (x205 : IV) (x219 : IV) (x3 : IV) (x0 : IV) (j0_19 : Hp → Option (IV × Hp)) : Option (IV × Hp) :=
  guardS x205 true h220 (fun k223 => load1 x219 h220 fun x224 r225 => k223 x224 h220 r225 []) fun x226 h227 _ _ => guardS x205 true h227 (fun k230 => gtS EE 3 x226 (.fv (.int .i64 3000)) fun x231 => k230 x231 h227 [] []) fun x232 h233 _ _ => guardS x205 true h233 (fun k236 => k236 x232 h233 [] []) fun x237 h238 _ _ => guardS x237 false h238 (fun k241 => k241 x3 h238 [] []) fun x242 h243 _ _ => guardS x237 false h243 (fun k246 => gtS EE 3 x242 (.fv (.int .i64 120)) fun x247 => k246 x247 h243 [] []) fun x248 h249 _ _ => S81_291 h249 x205 x237 x248 x0 j0_19
noncomputable def S81_293 (h16 : Hp) (x202 : IV) (x0 : IV) (x3 : IV) (j0_19 : Hp → Option (IV × Hp)) : Option (IV × Hp) :=
  load1 x202 h16 fun x203 _ => eqS EE 3 x203 (.fv (.int .i64 0)) fun x205 => guardS x205 true h16 (fun k206 => k206 x0 h16 [] []) fun x207 h208 _ _ => guardS x205 true h208 (fun k211 => nilS x207 fun x212 => k211 x212 h208 [] []) fun x213 h214 _ _ => guardS x205 true h214 (fun k217 => faddrS 1 x213 fun x218 => k217 x218 h214 [] []) fun x219 h220 _ _ => S81_292 h220 x205 x219 x3 x0 j0_19
noncomputable def S81_294 (x14 : IV) (h6 : Hp) (x13 : IV) (x0 : IV) (x5 : IV) (x1 : IV) (x2 : IV) (ih : Handler) (h4 : Hp) (x3 : IV) (n : Nat) : Option (IV × Hp) :=
  faddrS 1 x14 fun x15 => store1 x15 x13 h6 fun h16 _ _ => (fun (j0_19 : Hp → Option (IV × Hp)) => nilS x0 fun x201 => faddrS 2 x201 fun x202 => S81_293 h16 x202 x0 x3 j0_19) fun h20 => S81_289 x0 h20 x5 x1 x2 ih h4 x3 n
noncomputable def S81 (ih : Handler) (n : Nat) (x0 : IV) (x1 : IV) (x2 : IV) (x3 : IV) (h4 : Hp) : Option (IV × Hp) :=
  newS 84934656 (.row [.fv (.int .i64 0), .fv (.int .i64 0), .nils] false) (.ptr (.own 84934656) 0) h4 fun x5 h6 _ _ => nilS x0 fun x9 => faddrS 1 x9 fun x10 => load1 x10 h6 fun x11 _ => addS EE 3 x11 (.fv (.int .i64 1)) fun x13 => nilS x0 fun x14 => S81_294 x14 h6 x13 x0 x5 x1 x2 ih h4 x3 n
theorem S81_ok (ih : Handler) (n : Nat) (x0 : IV) (x1 : IV) (x2 : IV) (x3 : IV) (h4 : Hp) : funS EE ih ft.get n 81 [x0, x1, x2, x3] h4 = S81 ih n x0 x1 x2 x3 h4 := by kernel_rfl
noncomputable def S82_148 (h5 : Hp) : Option (IV × Hp) :=
  bldS [.fv (.int .i64 0), .fv (.int .i64 0), .nils, .nils, .fv (.int .i64 0), .fv (.int .i64 0), .nils] [(0, 1, .fv (.int .i64 11))] fun x13 => boxS 85985281 x13 h5 fun x14 h15 _ _ => outS1 [x14] h15
noncomputable def S82_149 (h5 : Hp) (x33 : IV) : Option (IV × Hp) :=
  load1 x33 h5 fun x34 _ => outS1 [x34] h5
noncomputable def S82_150 (x27 : IV) (x4 : IV) (h5 : Hp) (x2 : IV) : Option (IV × Hp) :=
  subS EE 3 x27 (.fv (.int .i64 1)) fun x28 => faddrS 1 x4 fun x29 => load1 x29 h5 fun x30 _ => subS EE 3 x28 x30 fun x32 => ixS 1 x2 x32 fun x33 => S82_149 h5 x33
noncomputable def S82_151 (h5 : Hp) (x42 : IV) : Option (IV × Hp) :=
  boxS 85989383 x42 h5 fun x43 h44 _ _ => outS1 [x43] h44
noncomputable def S82_152 (x36 : IV) (x4 : IV) (h5 : Hp) : Option (IV × Hp) :=
  subS EE 3 x36 (.fv (.int .i64 1)) fun x37 => faddrS 1 x4 fun x38 => load1 x38 h5 fun x39 _ => subS EE 3 x37 x39 fun x41 => bldS [.fv (.int .i64 0), .fv (.int .i64 0), .nils, .nils, .fv (.int .i64 0), .fv (.int .i64 0), .nils] [(0, 1, .fv (.int .i64 1)), (1, 1, x41)] fun x42 => S82_151 h5 x42
noncomputable def S82_153 (h5 : Hp) (x22 : IV) (x2 : IV) (x4 : IV) : Option (IV × Hp) :=
  load1 x22 h5 fun x23 _ => lenS x2 fun x25 => ltS EE 3 x23 x25 fun x26 => condS x26 (lenS x2 fun x27 => S82_150 x27 x4 h5 x2) (lenS x2 fun x36 => S82_152 x36 x4 h5)
noncomputable def S82_154 (x65 : IV) (h3 : Hp) (h72 : Hp) (x61 : IV) (x62 : IV) (x63 : IV) (x64 : IV) (q58 : List IV → Hp → Option (IV × Hp)) : Option (IV × Hp) :=
  addS EE 3 x65 (.fv (.int .i64 1)) fun x73 => dropS (h3.own.map (·.1)) [85995532, 85995534, 85996558] [x61, x62, x63, x64, x73] h72 fun h74 => q58 [x61, x62, x63, x64, x73] h74
noncomputable def S82_155 (x64 : IV) (h103 : Hp) (x102 : IV) (j0_71 : Hp → Option (IV × Hp)) : Option (IV × Hp) :=
  nilS x64 fun x106 => faddrS 2 x106 fun x107 => store1 x107 x102 h103 fun h108 r109 w110 => chkS [] r109 w110 (j0_71 h108)
noncomputable def S82_156 (r96 : List Ref) (w97 : List Ref) (r86 : List Ref) (h95 : Hp) (x94 : IV) (x85 : IV) (x64 : IV) (j0_71 : Hp → Option (IV × Hp)) : Option (IV × Hp) :=
  chkS [(r86, [])] r96 w97 (genS (pcBuildSlice EE 129 1 [(0, x94)]) 85995533 h95 fun x98 h99 r100 w101 => chkS [(r86, [])] r100 w101 (genS (builtinR EE 85995534 false .append [129, 129] [x85, x98]) 85995534 h99 fun x102 h103 r104 w105 => chkS [] r104 w105 (S82_155 x64 h103 x102 j0_71)))
noncomputable def S82_157 (x88 : IV) (x65 : IV) (h79 : Hp) (r86 : List Ref) (x62 : IV) (x85 : IV) (x64 : IV) (j0_71 : Hp → Option (IV × Hp)) : Option (IV × Hp) :=
  ixS 3 x88 x65 fun x90 => loadA 3 x90 h79 fun x91 r92 => chkS [(r86, [])] r92 [] (bldS [.fv (.int .i64 0), .fv (.int .i64 0), .nils, .nils, .fv (.int .i64 0), .fv (.int .i64 0), .nils] [(3, 1, x62), (4, 3, x91)] fun x93 => boxS 85995532 x93 h79 fun x94 h95 r96 w97 => S82_156 r96 w97 r86 h95 x94 x85 x64 j0_71)
noncomputable def S82_158 (h79 : Hp) (x84 : IV) (x63 : IV) (x65 : IV) (x62 : IV) (x64 : IV) (j0_71 : Hp → Option (IV × Hp)) : Option (IV × Hp) :=
  load1 x84 h79 fun x85 r86 => chkS [] r86 [] (faddrS 2 x63 fun x87 => load1 x87 h79 fun x88 r89 => chkS [(r86, [])] r89 [] (S82_157 x88 x65 h79 r86 x62 x85 x64 j0_71))
noncomputable def S82_159 (x133 : IV) (h130 : Hp) (x129 : IV) (j0_71 : Hp → Option (IV × Hp)) : Option (IV × Hp) :=
  faddrS 2 x133 fun x134 => store1 x134 x129 h130 fun h135 r136 w137 => chkS [] r136 w137 (j0_71 h135)
noncomputable def S82_160 (h122 : Hp) (x121 : IV) (r114 : List Ref) (x113 : IV) (x64 : IV) (j0_71 : Hp → Option (IV × Hp)) : Option (IV × Hp) :=
  genS (pcBuildSlice EE 129 1 [(0, x121)]) 85996557 h122 fun x125 h126 r127 w128 => chkS [(r114, [])] r127 w128 (genS (builtinR EE 85996558 false .append [129, 129] [x113, x125]) 85996558 h126 fun x129 h130 r131 w132 => chkS [] r131 w132 (nilS x64 fun x133 => S82_159 x133 h130 x129 j0_71))
noncomputable def S82_161 (x116 : IV) (x65 : IV) (h79 : Hp) (r114 : List Ref) (ih : Handler) (x61 : IV) (x62 : IV) (x113 : IV) (x64 : IV) (j0_71 : Hp → Option (IV × Hp)) : Option (IV × Hp) :=
  ixS 3 x116 x65 fun x118 => loadA 3 x118 h79 fun x119 r120 => chkS [(r114, [])] r120 [] (isoS [true, false, false] false false ih 82 [x61, x119, x62] h79 fun x121 h122 r123 w124 => chkS [(r114, [])] r123 w124 (S82_160 h122 x121 r114 x113 x64 j0_71))
noncomputable def S82_162 (h79 : Hp) (x112 : IV) (x63 : IV) (x65 : IV) (ih : Handler) (x61 : IV) (x62 : IV) (x64 : IV) (j0_71 : Hp → Option (IV × Hp)) : Option (IV × Hp) :=
  load1 x112 h79 fun x113 r114 => chkS [] r114 [] (faddrS 2 x63 fun x115 => load1 x115 h79 fun x116 r117 => chkS [(r114, [])] r117 [] (S82_161 x116 x65 h79 r114 ih x61 x62 x113 x64 j0_71))
noncomputable def S82_163 (x82 : IV) (x64 : IV) (h79 : Hp) (x63 : IV) (x65 : IV) (x62 : IV) (j0_71 : Hp → Option (IV × Hp)) (ih : Handler) (x61 : IV) : Option (IV × Hp) :=
  condS x82 (nilS x64 fun x83 => faddrS 2 x83 fun x84 => S82_158 h79 x84 x63 x65 x62 x64 j0_71) (nilS x64 fun x111 => faddrS 2 x111 fun x112 => S82_162 h79 x112 x63 x65 ih x61 x62 x64 j0_71)
noncomputable def S82_164 (x65 : IV) (h3 : Hp) (x61 : IV) (x62 : IV) (x63 : IV) (x64 : IV) (q58 : List IV → Hp → Option (IV × Hp)) (h60 : Hp) (ih : Handler) : Option (IV × Hp) :=
  (fun (j0_71 : Hp → Option (IV × Hp)) => faddrS 0 x63 fun x75 => load1 x75 h60 fun x76 _ => isoS [] false false ih 48 [x76, x65] h60 fun x78 h79 _ _ => gtS EE 3 x78 (.fv (.int .i64 0)) fun x82 => S82_163 x82 x64 h79 x63 x65 x62 j0_71 ih x61) fun h72 => S82_154 x65 h3 h72 x61 x62 x63 x64 q58
noncomputable def S82_165 (ih : Handler) (h60 : Hp) (x61 : IV) (x64 : IV) : Option (IV × Hp) :=
  isoS [true, false] false false ih 110 [x61, x64] h60 fun x138 h139 _ _ => outS1 [x138] h139
noncomputable def S82_166 (x63 : IV) (h60 : Hp) (x65 : IV) (h3 : Hp) (x61 : IV) (x62 : IV) (x64 : IV) (q58 : List IV → Hp → Option (IV × Hp)) (ih : Handler) : Option (IV × Hp) :=
  faddrS 2 x63 fun x66 => load1 x66 h60 fun x67 _ => lenS x67 fun x69 => ltS EE 3 x65 x69 fun x70 => condS x70 (S82_164 x65 h3 x61 x62 x63 x64 q58 h60 ih) (S82_165 ih h60 x61 x64)
noncomputable def S82_167 (l59 : List IV) (h60 : Hp) (h3 : Hp) (q58 : List IV → Hp → Option (IV × Hp)) (ih : Handler) : Option (IV × Hp) :=
  uncS l59 fun x61 l142 => uncS l142 fun x62 l143 => uncS l143 fun x63 l144 => uncS l144 fun x64 l145 => uncS l145 fun x65 _ => S82_166 x63 h60 x65 h3 x61 x62 x64 q58 ih
noncomputable def S82_168 (h3 : Hp) (h55 : Hp) (x0 : IV) (x2 : IV) (x4 : IV) (x54 : IV) (n : Nat) (ih : Handler) : Option (IV × Hp) :=
  dropS (h3.own.map (·.1)) [85995532, 85995534, 85996558] [x0, x2, x4, x54, .fv (.int .i64 0)] h55 fun h147 => loopS n (fun q58 l59 h60 => S82_167 l59 h60 h3 q58 ih) [x0, x2, x4, x54, .fv (.int .i64 0)] h147
noncomputable def S82_169 (h5 : Hp) (x47 : IV) (x4 : IV) (h3 : Hp) (x0 : IV) (x2 : IV) (n : Nat) (ih : Handler) : Option (IV × Hp) :=
  load1 x47 h5 fun x48 _ => faddrS 1 x4 fun x50 => load1 x50 h5 fun x51 _ => bldS [.fv (.int .i64 0), .fv (.int .i64 0), .nils, .nils, .fv (.int .i64 0), .fv (.int .i64 0), .nils] [(0, 1, x48), (1, 1, x51)] fun x53 => boxS 85990405 x53 h5 fun x54 h55 _ _ => S82_168 h3 h55 x0 x2 x4 x54 n ih
noncomputable def S82_170 (x4 : IV) (h5 : Hp) (x2 : IV) (h3 : Hp) (x0 : IV) (n : Nat) (ih : Handler) : Option (IV × Hp) :=
  faddrS 0 x4 fun x18 => load1 x18 h5 fun x19 _ => eqS EE 3 x19 (.fv (.int .i64 1)) fun x21 => condS x21 (faddrS 1 x4 fun x22 => S82_153 h5 x22 x2 x4) (faddrS 0 x4 fun x47 => S82_169 h5 x47 x4 h3 x0 x2 n ih)
noncomputable def S82 (ih : Handler) (n : Nat) (x0 : IV) (x1 : IV) (x2 : IV) (h3 : Hp) : Option (IV × Hp) :=
  boxS 85983232 x1 h3 fun x4 h5 _ _ => nilS x0 fun x8 => faddrS 2 x8 fun x9 => load1 x9 h5 fun x10 _ => neS EE 3 x10 (.fv (.int .i64 0)) fun x12 => condS x12 (S82_148 h5) (S82_170 x4 h5 x2 h3 x0 n ih)
theorem S82_ok (ih : Handler) (n : Nat) (x0 : IV) (x1 : IV) (x2 : IV) (h3 : Hp) : funS EE ih ft.get n 82 [x0, x1, x2] h3 = S82 ih n x0 x1 x2 h3 := by kernel_rfl
noncomputable def S83_60 (x38 : IV) (h39 : Hp) (x12 : IV) : Option (IV × Hp) :=
  extS 0 x38 fun x42 => extS 1 x38 fun x43 => storeA 3 x12 x42 h39 fun h44 _ _ => cellS true 3 x12 h44 fun x47 => outS1 [x47, x43] h44
noncomputable def S83_61 (ih : Handler) (h34 : Hp) (x48 : IV) (x12 : IV) : Option (IV × Hp) :=
  isoS [] false false ih 111 [x48] h34 fun x50 h51 _ _ => extS 0 x50 fun x54 => extS 1 x50 fun x55 => storeA 3 x12 x54 h51 fun h56 _ _ => cellS true 3 x12 h56 fun x59 => outS1 [x59, x55] h56
noncomputable def S83_62 (r35 : List Ref) (w36 : List Ref) (x29 : IV) (ih : Handler) (h34 : Hp) (x12 : IV) (x30 : IV) : Option (IV × Hp) :=
  chkS [] r35 w36 (neS EE 3 x29 (.fv (.int .i64 0)) fun x37 => condS x37 (isoS [] false false ih 57 [x29] h34 fun x38 h39 _ _ => S83_60 x38 h39 x12) (loadA 3 x30 h34 fun x48 _ => S83_61 ih h34 x48 x12))
noncomputable def S83_63 (x24 : IV) (h25 : Hp) (r26 : List Ref) (w27 : List Ref) (r23 : List Ref) (r20 : List Ref) (w21 : List Ref) (r17 : List Ref) (ih : Handler) (x12 : IV) : Option (IV × Hp) :=
  extS 0 x24 fun x28 => extS 1 x24 fun x29 => newS 87032840 (.row [.fv (.int .i64 0), .fv (.int .i64 0), .nils] false) (.ptr (.own 87032840) 0) h25 fun x30 h31 r32 w33 => chkS [(r26, w27), (r23, []), (r20, w21), (r17, [])] r32 w33 (storeA 3 x30 x28 h31 fun h34 r35 w36 => S83_62 r35 w36 x29 ih h34 x12 x30)
noncomputable def S83_64 (r20 : List Ref) (w21 : List Ref) (h19 : Hp) (x8 : IV) (r17 : List Ref) (ih : Handler) (x18 : IV) (x12 : IV) : Option (IV × Hp) :=
  chkS [] r20 w21 (loadA 3 x8 h19 fun x22 r23 => chkS [(r20, w21), (r17, [])] r23 [] (isoS [] false false ih 26 [x18, .fv (.int .i64 0), x22] h19 fun x24 h25 r26 w27 => chkS [] r26 w27 (S83_63 x24 h25 r26 w27 r23 r20 w21 r17 ih x12)))
noncomputable def S83 (ih : Handler) (n : Nat) (x0 : IV) (x1 : IV) (x2 : IV) (h3 : Hp) : Option (IV × Hp) :=
  boxS 87031808 x1 h3 fun x4 h5 _ _ => boxS 87031809 x2 h5 fun x8 h9 _ _ => newS 87031810 (.row [.fv (.int .i64 0), .fv (.int .i64 0), .nils] false) (.ptr (.own 87031810) 0) h9 fun x12 h13 _ _ => loadA 3 x4 h13 fun x16 r17 => chkS [] r17 [] (isoS [] false false ih 84 [x0, .fv (.int .i64 0), x16] h13 fun x18 h19 r20 w21 => S83_64 r20 w21 h19 x8 r17 ih x18 x12)
theorem S83_ok (ih : Handler) (n : Nat) (x0 : IV) (x1 : IV) (x2 : IV) (h3 : Hp) : funS EE ih ft.get n 83 [x0, x1, x2] h3 = S83 ih n x0 x1 x2 h3 := by kernel_rfl
noncomputable def S84_27 (r25 : List Ref) (w26 : List Ref) (h24 : Hp) (x23 : IV) : Option (IV × Hp) :=
  chkS [] r25 w26 (outS1 [x23] h24)
noncomputable def S84_28 (r17 : List Ref) (r14 : List Ref) (w15 : List Ref) (r10 : List Ref) (w11 : List Ref) (x1 : IV) (x16 : IV) (h13 : Hp) (x12 : IV) : Option (IV × Hp) :=
  chkS [(r14, w15), (r10, w11)] r17 [] (bldS [.fv (.int .i64 0), .fv (.int .i64 0), .fv (.int .i64 0), .nils] [(0, 1, x1), (1, 3, x16)] fun x18 => genS (pcBuildSlice EE 71 1 [(0, x18)]) 88081414 h13 fun x19 h20 r21 w22 => chkS [(r14, w15), (r10, w11)] r21 w22 (genS (builtinR EE 88081415 false .append [71, 71] [x12, x19]) 88081415 h20 fun x23 h24 r25 w26 => S84_27 r25 w26 h24 x23))
noncomputable def S84 (ih : Handler) (n : Nat) (x0 : IV) (x1 : IV) (x2 : IV) (h3 : Hp) : Option (IV × Hp) :=
  boxS 88080384 x2 h3 fun x4 h5 _ _ => genS (pcBuildSlice EE 71 0 []) 88081408 h5 fun x8 h9 r10 w11 => chkS [] r10 w11 (genS (builtinR EE 88081410 false .append [71, 71] [x8, x0]) 88081410 h9 fun x12 h13 r14 w15 => chkS [] r14 w15 (loadA 3 x4 h13 fun x16 r17 => S84_28 r17 r14 w15 r10 w11 x1 x16 h13 x12))
theorem S84_ok (ih : Handler) (n : Nat) (x0 : IV) (x1 : IV) (x2 : IV) (h3 : Hp) : funS EE ih ft.get n 84 [x0, x1, x2] h3 = S84 ih n x0 x1 x2 h3 := by kernel_rfl
noncomputable def S85_74 (x32 : IV) (h33 : Hp) (x9 : IV) (x36 : IV) : Option (IV × Hp) :=
  extS 1 x32 fun x37 => storeA 3 x9 x36 h33 fun h38 _ _ => cellS true 3 x9 h38 fun x41 => outS1 [x41, x37] h38
noncomputable def S85_75 (h44 : Hp) (x9 : IV) : Option (IV × Hp) :=
  cellS true 3 x9 h44 fun x47 => outS1 [x47, .fv (.int .i64 0)] h44
noncomputable def S85_76 (x29 : IV) (ih : Handler) (h30 : Hp) (x9 : IV) (x21 : IV) : Option (IV × Hp) :=
  neS EE 3 x29 (.fv (.int .i64 0)) fun x31 => condS x31 (isoS [] false false ih 57 [x29] h30 fun x32 h33 _ _ => extS 0 x32 fun x36 => S85_74 x32 h33 x9 x36) (loadA 3 x21 h30 fun x42 _ => storeA 3 x9 x42 h30 fun h44 _ _ => S85_75 h44 x9)
noncomputable def S85_77 (h52 : Hp) (x48 : IV) (x51 : IV) (x3 : IV) (j1_28 : IV → Hp → Option (IV × Hp)) (x20 : IV) : Option (IV × Hp) :=
  guardS x48 true h52 (fun k55 => load1 x51 h52 fun x56 r57 => k55 x56 h52 r57 []) fun x58 h59 _ _ => guardS x48 true h59 (fun k62 => k62 x3 h59 [] []) fun x63 h64 _ _ => guardS x48 true h64 (fun k67 => neS EE 3 x58 x63 fun x68 => k67 x68 h64 [] []) fun x69 h70 _ _ => pickS x48 x69 (.fv (.bool false)) fun x73 => condS x73 (j1_28 (.fv (.int .i64 12)) h70) (j1_28 x20 h70)
noncomputable def S85_78 (h16 : Hp) (x19 : IV) (ih : Handler) (x9 : IV) (x20 : IV) (x3 : IV) : Option (IV × Hp) :=
  newS 89129991 (.row [.fv (.int .i64 0), .fv (.int .i64 0), .nils] false) (.ptr (.own 89129991) 0) h16 fun x21 h22 _ _ => storeA 3 x21 x19 h22 fun h25 _ _ => (fun (j1_28 : IV → Hp → Option (IV × Hp)) => eqS EE 3 x20 (.fv (.int .i64 0)) fun x48 => guardS x48 true h25 (fun k49 => faddrS 0 x21 fun x50 => k49 x50 h25 [] []) fun x51 h52 _ _ => S85_77 h52 x48 x51 x3 j1_28 x20) fun x29 h30 => S85_76 x29 ih h30 x9 x21
noncomputable def S85 (ih : Handler) (n : Nat) (x0 : IV) (x1 : IV) (x2 : IV) (x3 : IV) (h4 : Hp) : Option (IV × Hp) :=
  boxS 89128960 x2 h4 fun x5 h6 _ _ => newS 89128961 (.row [.fv (.int .i64 0), .fv (.int .i64 0), .nils] false) (.ptr (.own 89128961) 0) h6 fun x9 h10 _ _ => loadA 3 x5 h10 fun x13 _ => isoS [] false false ih 26 [x0, x1, x13] h10 fun x15 h16 _ _ => extS 0 x15 fun x19 => extS 1 x15 fun x20 => S85_78 h16 x19 ih x9 x20 x3
theorem S85_ok (ih : Handler) (n : Nat) (x0 : IV) (x1 : IV) (x2 : IV) (x3 : IV) (h4 : Hp) : funS EE ih ft.get n 85 [x0, x1, x2, x3] h4 = S85 ih n x0 x1 x2 x3 h4 := by kernel_rfl
noncomputable def S86_259 (x38 : IV) (h39 : Hp) (x7 : IV) (x42 : IV) : Option (IV × Hp) :=
  extS 1 x38 fun x43 => storeA 3 x7 x42 h39 fun h44 _ _ => cellS true 3 x7 h44 fun x47 => outS1 [x47, x43] h44
noncomputable def S86_260 (x49 : IV) (h36 : Hp) (x7 : IV) : Option (IV × Hp) :=
  ixS 3 x49 (.fv (.int .i64 1)) fun x51 => loadA 3 x51 h36 fun x52 _ => storeA 3 x7 x52 h36 fun h54 _ _ => cellS true 3 x7 h54 fun x57 => outS1 [x57, .fv (.int .i64 0)] h54
noncomputable def S86_261 (x35 : IV) (ih : Handler) (h36 : Hp) (x7 : IV) (x27 : IV) : Option (IV × Hp) :=
  neS EE 3 x35 (.fv (.int .i64 0)) fun x37 => condS x37 (isoS [] false false ih 57 [x35] h36 fun x38 h39 _ _ => extS 0 x38 fun x42 => S86_259 x38 h39 x7 x42) (faddrS 2 x27 fun x48 => load1 x48 h36 fun x49 _ => S86_260 x49 h36 x7)
noncomputable def S86_262 (x63 : IV) (h31 : Hp) (r61 : List Ref) (ih : Handler) (x0 : IV) (x60 : IV) (j1_34 : IV → Hp → Option (IV × Hp)) : Option (IV × Hp) :=
  ixS 3 x63 (.fv (.int .i64 0)) fun x65 => loadA 3 x65 h31 fun x66 r67 => chkS [(r61, [])] r67 [] (isoS [] false false ih 61 [x0, .fv (.int .i64 0), x60, x66] h31 fun x68 h69 r70 w71 => chkS [] r70 w71 (j1_34 x68 h69))
noncomputable def S86_263 (h31 : Hp) (x59 : IV) (x27 : IV) (ih : Handler) (x0 : IV) (j1_34 : IV → Hp → Option (IV × Hp)) : Option (IV × Hp) :=
  loadA 3 x59 h31 fun x60 r61 => chkS [] r61 [] (faddrS 2 x27 fun x62 => load1 x62 h31 fun x63 r64 => chkS [(r61, [])] r64 [] (S86_262 x63 h31 r61 ih x0 x60 j1_34))
noncomputable def S86_264 (ih : Handler) (x7 : IV) (x27 : IV) (x26 : IV) (x12 : IV) (h31 : Hp) (x0 : IV) : Option (IV × Hp) :=
  (fun (j1_34 : IV → Hp → Option (IV × Hp)) => eqS EE 3 x26 (.fv (.int .i64 0)) fun x58 => condS x58 (ixS 3 x12 (.fv (.int .i64 1)) fun x59 => S86_263 h31 x59 x27 ih x0 j1_34) (j1_34 x26 h31)) fun x35 h36 => S86_261 x35 ih h36 x7 x27
noncomputable def S86_265 (ih : Handler) (h8 : Hp) (x0 : IV) (x19 : IV) (x7 : IV) (x12 : IV) : Option (IV × Hp) :=
  isoS [] false false ih 85 [x0, .fv (.int .i64 0), x19, .fv (.int .i64 16)] h8 fun x21 h22 _ _ => extS 0 x21 fun x25 => extS 1 x21 fun x26 => newS 90181640 (.row [.fv (.int .i64 0), .fv (.int .i64 0), .nils] false) (.ptr (.own 90181640) 0) h22 fun x27 h28 _ _ => storeA 3 x27 x25 h28 fun h31 _ _ => S86_264 ih x7 x27 x26 x12 h31 x0
noncomputable def S86_266 (x90 : IV) (h91 : Hp) (x7 : IV) : Option (IV × Hp) :=
  extS 0 x90 fun x94 => extS 1 x90 fun x95 => storeA 3 x7 x94 h91 fun h96 _ _ => cellS true 3 x7 h96 fun x99 => outS1 [x99, x95] h96
noncomputable def S86_267 (x117 : IV) (h118 : Hp) (x7 : IV) : Option (IV × Hp) :=
  extS 0 x117 fun x121 => extS 1 x117 fun x122 => storeA 3 x7 x121 h118 fun h123 _ _ => cellS true 3 x7 h123 fun x126 => outS1 [x126, x122] h123
noncomputable def S86_268 (x139 : IV) (h140 : Hp) (x7 : IV) (x143 : IV) : Option (IV × Hp) :=
  extS 1 x139 fun x144 => storeA 3 x7 x143 h140 fun h145 _ _ => cellS true 3 x7 h145 fun x148 => outS1 [x148, x144] h145
noncomputable def S86_269 (h113 : Hp) (x109 : IV) (x127 : IV) (ih : Handler) (x7 : IV) : Option (IV × Hp) :=
  loadA 3 x109 h113 fun x129 _ => genS (pcBuildSlice EE 28 2 [(0, x127), (1, x129)]) 90194946 h113 fun x131 h132 _ _ => isoS [] false false ih 30 [.fv (.int .i64 17), x131] h132 fun x135 h136 _ _ => isoS [] false false ih 58 [x135] h136 fun x139 h140 _ _ => extS 0 x139 fun x143 => S86_268 x139 h140 x7 x143
noncomputable def S86_270 (h110 : Hp) (x109 : IV) (x107 : IV) (x108 : IV) (ih : Handler) (x7 : IV) (x82 : IV) : Option (IV × Hp) :=
  storeA 3 x109 x107 h110 fun h113 _ _ => neS EE 3 x108 (.fv (.int .i64 0)) fun x116 => condS x116 (isoS [] false false ih 57 [x108] h113 fun x117 h118 _ _ => S86_267 x117 h118 x7) (loadA 3 x82 h113 fun x127 _ => S86_269 h113 x109 x127 ih x7)
noncomputable def S86_271 (h86 : Hp) (x100 : IV) (ih : Handler) (x0 : IV) (x7 : IV) (x82 : IV) : Option (IV × Hp) :=
  loadA 3 x100 h86 fun x101 _ => isoS [] false false ih 26 [x0, .fv (.int .i64 0), x101] h86 fun x103 h104 _ _ => extS 0 x103 fun x107 => extS 1 x103 fun x108 => newS 90191880 (.row [.fv (.int .i64 0), .fv (.int .i64 0), .nils] false) (.ptr (.own 90191880) 0) h104 fun x109 h110 _ _ => S86_270 h110 x109 x107 x108 ih x7 x82
noncomputable def S86_272 (h77 : Hp) (x80 : IV) (x81 : IV) (ih : Handler) (x7 : IV) (x12 : IV) (x0 : IV) : Option (IV × Hp) :=
  newS 90188808 (.row [.fv (.int .i64 0), .fv (.int .i64 0), .nils] false) (.ptr (.own 90188808) 0) h77 fun x82 h83 _ _ => storeA 3 x82 x80 h83 fun h86 _ _ => neS EE 3 x81 (.fv (.int .i64 0)) fun x89 => condS x89 (isoS [] false false ih 57 [x81] h86 fun x90 h91 _ _ => S86_266 x90 h91 x7) (ixS 3 x12 (.fv (.int .i64 1)) fun x100 => S86_271 h86 x100 ih x0 x7 x82)
noncomputable def S86_273 (x12 : IV) (h8 : Hp) (ih : Handler) (x0 : IV) (x7 : IV) : Option (IV × Hp) :=
  ixS 3 x12 (.fv (.int .i64 0)) fun x73 => loadA 3 x73 h8 fun x74 _ => isoS [] false false ih 26 [x0, .fv (.int .i64 0), x74] h8 fun x76 h77 _ _ => extS 0 x76 fun x80 => extS 1 x76 fun x81 => S86_272 h77 x80 x81 ih x7 x12 x0
noncomputable def S86_274 (x162 : IV) (h163 : Hp) (x7 : IV) (x166 : IV) : Option (IV × Hp) :=
  extS 1 x162 fun x167 => storeA 3 x7 x166 h163 fun h168 _ _ => cellS true 3 x7 h168 fun x171 => outS1 [x171, x167] h168
noncomputable def S86_275 (x192 : IV) (h193 : Hp) (x7 : IV) (x196 : IV) : Option (IV × Hp) :=
  extS 1 x192 fun x197 => storeA 3 x7 x196 h193 fun h198 _ _ => cellS true 3 x7 h198 fun x201 => outS1 [x201, x197] h198
noncomputable def S86_276 (h204 : Hp) (x7 : IV) : Option (IV × Hp) :=
  cellS true 3 x7 h204 fun x207 => outS1 [x207, .fv (.int .i64 0)] h204
noncomputable def S86_277 (x189 : IV) (ih : Handler) (h190 : Hp) (x7 : IV) (x181 : IV) : Option (IV × Hp) :=
  neS EE 3 x189 (.fv (.int .i64 0)) fun x191 => condS x191 (isoS [] false false ih 57 [x189] h190 fun x192 h193 _ _ => extS 0 x192 fun x196 => S86_275 x192 h193 x7 x196) (loadA 3 x181 h190 fun x202 _ => storeA 3 x7 x202 h190 fun h204 _ _ => S86_276 h204 x7)
noncomputable def S86_278 (r216 : List Ref) (w217 : List Ref) (j1_188 : IV → Hp → Option (IV × Hp)) (h215 : Hp) (x214 : IV) : Option (IV × Hp) :=
  chkS [] r216 w217 (j1_188 x214 h215)
noncomputable def S86_279 (h185 : Hp) (x209 : IV) (x181 : IV) (ih : Handler) (x0 : IV) (j1_188 : IV → Hp → Option (IV × Hp)) : Option (IV × Hp) :=
  loadA 3 x209 h185 fun x210 r211 => chkS [] r211 [] (loadA 3 x181 h185 fun x212 r213 => chkS [(r211, [])] r213 [] (isoS [] false false ih 61 [x0, .fv (.int .i64 0), x210, x212] h185 fun x214 h215 r216 w217 => S86_278 r216 w217 j1_188 h215 x214))
noncomputable def S86_280 (ih : Handler) (x7 : IV) (x181 : IV) (x180 : IV) (x12 : IV) (h185 : Hp) (x0 : IV) : Option (IV × Hp) :=
  (fun (j1_188 : IV → Hp → Option (IV × Hp)) => eqS EE 3 x180 (.fv (.int .i64 0)) fun x208 => condS x208 (ixS 3 x12 (.fv (.int .i64 2)) fun x209 => S86_279 h185 x209 x181 ih x0 j1_188) (j1_188 x180 h185)) fun x189 h190 => S86_277 x189 ih h190 x7 x181
noncomputable def S86_281 (ih : Handler) (h158 : Hp) (x0 : IV) (x173 : IV) (x7 : IV) (x12 : IV) : Option (IV × Hp) :=
  isoS [] false false ih 26 [x0, .fv (.int .i64 0), x173] h158 fun x175 h176 _ _ => extS 0 x175 fun x179 => extS 1 x175 fun x180 => newS 90200072 (.row [.fv (.int .i64 0), .fv (.int .i64 0), .nils] false) (.ptr (.own 90200072) 0) h176 fun x181 h182 _ _ => storeA 3 x181 x179 h182 fun h185 _ _ => S86_280 ih x7 x181 x180 x12 h185 x0
noncomputable def S86_282 (x157 : IV) (ih : Handler) (h158 : Hp) (x7 : IV) (x12 : IV) (x0 : IV) : Option (IV × Hp) :=
  neS EE 3 x157 (.fv (.int .i64 0)) fun x161 => condS x161 (isoS [] false false ih 57 [x157] h158 fun x162 h163 _ _ => extS 0 x162 fun x166 => S86_274 x162 h163 x7 x166) (ixS 3 x12 (.fv (.int .i64 1)) fun x172 => loadA 3 x172 h158 fun x173 _ => S86_281 ih h158 x0 x173 x7 x12)
noncomputable def S86_283 (r152 : List Ref) (ih : Handler) (h8 : Hp) (x0 : IV) (x151 : IV) (x7 : IV) (x12 : IV) : Option (IV × Hp) :=
  chkS [] r152 [] (isoS [] false false ih 30 [.fv (.int .i64 15), .nils] h8 fun x153 h154 r155 w156 => chkS [(r152, [])] r155 w156 (isoS [] false false ih 61 [x0, .fv (.int .i64 0), x151, x153] h154 fun x157 h158 r159 w160 => chkS [] r159 w160 (S86_282 x157 ih h158 x7 x12 x0)))
noncomputable def S86_284 (x235 : IV) (h236 : Hp) (x7 : IV) (x239 : IV) : Option (IV × Hp) :=
  extS 1 x235 fun x240 => storeA 3 x7 x239 h236 fun h241 _ _ => cellS true 3 x7 h241 fun x244 => outS1 [x244, x240] h241
noncomputable def S86_285 (h231 : Hp) (x7 : IV) (x253 : IV) : Option (IV × Hp) :=
  storeA 3 x7 x253 h231 fun h255 _ _ => cellS true 3 x7 h255 fun x258 => outS1 [x258, .fv (.int .i64 0)] h255
noncomputable def S86_286 (x3 : IV) (h231 : Hp) (x246 : IV) (x7 : IV) : Option (IV × Hp) :=
  faddrS 0 x3 fun x248 => load1 x248 h231 fun x249 _ => subS EE 3 x249 (.fv (.int .i64 23)) fun x251 => ixS 3 x246 x251 fun x252 => loadA 3 x252 h231 fun x253 _ => S86_285 h231 x7 x253
noncomputable def S86_287 (x226 : IV) (ih : Handler) (h231 : Hp) (x7 : IV) (x227 : IV) (x3 : IV) : Option (IV × Hp) :=
  neS EE 3 x226 (.fv (.int .i64 0)) fun x234 => condS x234 (isoS [] false false ih 57 [x226] h231 fun x235 h236 _ _ => extS 0 x235 fun x239 => S86_284 x235 h236 x7 x239) (faddrS 2 x227 fun x245 => load1 x245 h231 fun x246 _ => S86_286 x3 h231 x246 x7)
noncomputable def S86_288 (ih : Handler) (h8 : Hp) (x0 : IV) (x219 : IV) (x7 : IV) (x3 : IV) : Option (IV × Hp) :=
  isoS [] false false ih 85 [x0, .fv (.int .i64 0), x219, .fv (.int .i64 17)] h8 fun x221 h222 _ _ => extS 0 x221 fun x225 => extS 1 x221 fun x226 => newS 90206216 (.row [.fv (.int .i64 0), .fv (.int .i64 0), .nils] false) (.ptr (.own 90206216) 0) h222 fun x227 h228 _ _ => storeA 3 x227 x225 h228 fun h231 _ _ => S86_287 x226 ih h231 x7 x227 x3
noncomputable def S86_289 (x15 : IV) (x12 : IV) (h8 : Hp) (ih : Handler) (x0 : IV) (x7 : IV) (x3 : IV) : Option (IV × Hp) :=
  eqS EE 3 x15 (.fv (.int .i64 27)) fun x149 => condS x149 (ixS 3 x12 (.fv (.int .i64 0)) fun x150 => loadA 3 x150 h8 fun x151 r152 => S86_283 r152 ih h8 x0 x151 x7 x12) (ixS 3 x12 (.fv (.int .i64 0)) fun x218 => loadA 3 x218 h8 fun x219 _ => S86_288 ih h8 x0 x219 x7 x3)
noncomputable def S86_290 (x15 : IV) (x12 : IV) (h8 : Hp) (ih : Handler) (x0 : IV) (x7 : IV) (x3 : IV) : Option (IV × Hp) :=
  eqS EE 3 x15 (.fv (.int .i64 21)) fun x17 => condS x17 (ixS 3 x12 (.fv (.int .i64 0)) fun x18 => loadA 3 x18 h8 fun x19 _ => S86_265 ih h8 x0 x19 x7 x12) (eqS EE 3 x15 (.fv (.int .i64 22)) fun x72 => condS x72 (S86_273 x12 h8 ih x0 x7) (S86_289 x15 x12 h8 ih x0 x7 x3))
noncomputable def S86 (ih : Handler) (n : Nat) (x0 : IV) (x1 : IV) (h2 : Hp) : Option (IV × Hp) :=
  boxS 90177536 x1 h2 fun x3 h4 _ _ => newS 90177537 (.row [.fv (.int .i64 0), .fv (.int .i64 0), .nils] false) (.ptr (.own 90177537) 0) h4 fun x7 h8 _ _ => faddrS 2 x3 fun x11 => load1 x11 h8 fun x12 _ => faddrS 0 x3 fun x14 => load1 x14 h8 fun x15 _ => S86_290 x15 x12 h8 ih x0 x7 x3
theorem S86_ok (ih : Handler) (n : Nat) (x0 : IV) (x1 : IV) (h2 : Hp) : funS EE ih ft.get n 86 [x0, x1] h2 = S86 ih n x0 x1 h2 := by kernel_rfl
noncomputable def S87_59 (r53 : List Ref) (w54 : List Ref) (ih : Handler) (h52 : Hp) (x45 : IV) (x51 : IV) : Option (IV × Hp) :=
  chkS [] r53 w54 (isoS [] false false ih 18 [x45, x51] h52 fun x55 h56 r57 w58 => chkS [] r57 w58 (outS1 [x55, .fv (.int .i64 0)] h56))
noncomputable def S87_60 (ih : Handler) (h39 : Hp) (x43 : IV) (x35 : IV) (r44 : List Ref) : Option (IV × Hp) :=
  isoS [] false false ih 112 [x43] h39 fun x45 h46 r47 w48 => chkS [] r47 w48 (loadA 3 x35 h46 fun x49 r50 => chkS [(r47, w48), (r44, [])] r50 [] (isoS [] false false ih 112 [x49] h46 fun x51 h52 r53 w54 => S87_59 r53 w54 ih h52 x45 x51))
noncomputable def S87_61 (x34 : IV) (h39 : Hp) (x19 : IV) (ih : Handler) (x35 : IV) : Option (IV × Hp) :=
  neS EE 3 x34 (.fv (.int .i64 0)) fun x42 => condS x42 (outS1 [.fv (.bool false), x34] h39) (loadA 3 x19 h39 fun x43 r44 => chkS [] r44 [] (S87_60 ih h39 x43 x35 r44))
noncomputable def S87_62 (ih : Handler) (h23 : Hp) (x27 : IV) (x19 : IV) : Option (IV × Hp) :=
  isoS [] false false ih 58 [x27] h23 fun x29 h30 _ _ => extS 0 x29 fun x33 => extS 1 x29 fun x34 => newS 91230213 (.row [.fv (.int .i64 0), .fv (.int .i64 0), .nils] false) (.ptr (.own 91230213) 0) h30 fun x35 h36 _ _ => storeA 3 x35 x33 h36 fun h39 _ _ => S87_61 x34 h39 x19 ih x35
noncomputable def S87_63 (h14 : Hp) (x17 : IV) (x18 : IV) (x7 : IV) (ih : Handler) : Option (IV × Hp) :=
  newS 91227141 (.row [.fv (.int .i64 0), .fv (.int .i64 0), .nils] false) (.ptr (.own 91227141) 0) h14 fun x19 h20 _ _ => storeA 3 x19 x17 h20 fun h23 _ _ => neS EE 3 x18 (.fv (.int .i64 0)) fun x26 => condS x26 (outS1 [.fv (.bool false), x18] h23) (loadA 3 x7 h23 fun x27 _ => S87_62 ih h23 x27 x19)
noncomputable def S87 (ih : Handler) (n : Nat) (x0 : IV) (x1 : IV) (h2 : Hp) : Option (IV × Hp) :=
  boxS 91226112 x0 h2 fun x3 h4 _ _ => boxS 91226113 x1 h4 fun x7 h8 _ _ => loadA 3 x3 h8 fun x11 _ => isoS [] false false ih 58 [x11] h8 fun x13 h14 _ _ => extS 0 x13 fun x17 => extS 1 x13 fun x18 => S87_63 h14 x17 x18 x7 ih
theorem S87_ok (ih : Handler) (n : Nat) (x0 : IV) (x1 : IV) (h2 : Hp) : funS EE ih ft.get n 87 [x0, x1] h2 = S87 ih n x0 x1 h2 := by kernel_rfl
noncomputable def S88_30 (h19 : Hp) (x27 : IV) : Option (IV × Hp) :=
  load1 x27 h19 fun x28 _ => outS1 [x28, .fv (.int .i64 0)] h19
noncomputable def S88_31 (h19 : Hp) (x23 : IV) (x15 : IV) : Option (IV × Hp) :=
  load1 x23 h19 fun x24 _ => neS EE 3 x24 (.fv (.int .i64 2)) fun x26 => condS x26 (outS1 [.fv (.int .i64 0), .fv (.int .i64 12)] h19) (faddrS 1 x15 fun x27 => S88_30 h19 x27)
noncomputable def S88_32 (h16 : Hp) (x15 : IV) (x13 : IV) (x14 : IV) : Option (IV × Hp) :=
  storeA 3 x15 x13 h16 fun h19 _ _ => neS EE 3 x14 (.fv (.int .i64 0)) fun x22 => condS x22 (outS1 [.fv (.int .i64 0), x14] h19) (faddrS 0 x15 fun x23 => S88_31 h19 x23 x15)
noncomputable def S88 (ih : Handler) (n : Nat) (x0 : IV) (x1 : IV) (h2 : Hp) : Option (IV × Hp) :=
  boxS 92274688 x1 h2 fun x3 h4 _ _ => loadA 3 x3 h4 fun x7 _ => isoS [] false false ih 26 [x0, .fv (.int .i64 1), x7] h4 fun x9 h10 _ _ => extS 0 x9 fun x13 => extS 1 x9 fun x14 => newS 92275718 (.row [.fv (.int .i64 0), .fv (.int .i64 0), .nils] false) (.ptr (.own 92275718) 0) h10 fun x15 h16 _ _ => S88_32 h16 x15 x13 x14
theorem S88_ok (ih : Handler) (n : Nat) (x0 : IV) (x1 : IV) (h2 : Hp) : funS EE ih ft.get n 88 [x0, x1] h2 = S88 ih n x0 x1 h2 := by kernel_rfl
noncomputable def S89_28 (h21 : Hp) (x12 : IV) (x20 : IV) : Option (IV × Hp) :=
  storeA 3 x12 x20 h21 fun h24 _ _ => cellS true 3 x12 h24 fun x27 => outS1 [x27] h24
noncomputable def S89 (ih : Handler) (n : Nat) (x0 : IV) (x1 : IV) (x2 : IV) (h3 : Hp) : Option (IV × Hp) :=
  boxS 93323264 x0 h3 fun x4 h5 _ _ => boxS 93323265 x2 h5 fun x8 h9 _ _ => newS 93323266 (.row [.fv (.int .i64 0), .fv (.int .i64 0), .nils] false) (.ptr (.own 93323266) 0) h9 fun x12 h13 _ _ => loadA 3 x4 h13 fun x16 _ => loadA 3 x8 h13 fun x18 _ => isoS [] false false ih 113 [x16, x1, .fv (.int .i64 0), x18] h13 fun x20 h21 _ _ => S89_28 h21 x12 x20
theorem S89_ok (ih : Handler) (n : Nat) (x0 : IV) (x1 : IV) (x2 : IV) (h3 : Hp) : funS EE ih ft.get n 89 [x0, x1, x2] h3 = S89 ih n x0 x1 x2 h3 := by kernel_rfl
noncomputable def S90_151 (ih : Handler) (h18 : Hp) (x22 : IV) (x7 : IV) : Option (IV × Hp) :=
  isoS [] false false ih 57 [x22] h18 fun x24 h25 _ _ => extS 0 x24 fun x28 => extS 1 x24 fun x29 => storeA 3 x7 x28 h25 fun h30 _ _ => cellS true 3 x7 h30 fun x33 => outS1 [x33, x29] h30
noncomputable def S90_152 (x57 : IV) (h58 : Hp) (x7 : IV) (x61 : IV) : Option (IV × Hp) :=
  extS 1 x57 fun x62 => storeA 3 x7 x61 h58 fun h63 _ _ => cellS true 3 x7 h63 fun x66 => outS1 [x66, x62] h63
noncomputable def S90_153 (x87 : IV) (h88 : Hp) (x7 : IV) (x91 : IV) : Option (IV × Hp) :=
  extS 1 x87 fun x92 => storeA 3 x7 x91 h88 fun h93 _ _ => cellS true 3 x7 h93 fun x96 => outS1 [x96, x92] h93
noncomputable def S90_154 (h99 : Hp) (x7 : IV) : Option (IV × Hp) :=
  cellS true 3 x7 h99 fun x102 => outS1 [x102, .fv (.int .i64 0)] h99
noncomputable def S90_155 (x84 : IV) (ih : Handler) (h85 : Hp) (x7 : IV) (x46 : IV) : Option (IV × Hp) :=
  neS EE 3 x84 (.fv (.int .i64 0)) fun x86 => condS x86 (isoS [] false false ih 57 [x84] h85 fun x87 h88 _ _ => extS 0 x87 fun x91 => S90_153 x87 h88 x7 x91) (loadA 3 x46 h85 fun x97 _ => storeA 3 x7 x97 h85 fun h99 _ _ => S90_154 h99 x7)
noncomputable def S90_156 (ih : Handler) (h123 : Hp) (x0 : IV) (x108 : IV) (x122 : IV) (j1_83 : IV → Hp → Option (IV × Hp)) : Option (IV × Hp) :=
  isoS [] false false ih 61 [x0, .fv (.int .i64 1), x108, x122] h123 fun x126 h127 r128 w129 => chkS [] r128 w129 (j1_83 x126 h127)
noncomputable def S90_157 (x117 : IV) (h80 : Hp) (r115 : List Ref) (r112 : List Ref) (r109 : List Ref) (r106 : List Ref) (ih : Handler) (x114 : IV) (x0 : IV) (x108 : IV) (j1_83 : IV → Hp → Option (IV × Hp)) : Option (IV × Hp) :=
  ixS 3 x117 (.fv (.int .i64 1)) fun x119 => loadA 3 x119 h80 fun x120 r121 => chkS [(r115, []), (r112, []), (r109, []), (r106, [])] r121 [] (isoS [] false false ih 89 [x114, .fv (.int .i64 0), x120] h80 fun x122 h123 r124 w125 => chkS [(r109, []), (r106, [])] r124 w125 (S90_156 ih h123 x0 x108 x122 j1_83))
noncomputable def S90_158 (h80 : Hp) (x113 : IV) (r109 : List Ref) (r106 : List Ref) (x3 : IV) (r112 : List Ref) (ih : Handler) (x0 : IV) (x108 : IV) (j1_83 : IV → Hp → Option (IV × Hp)) : Option (IV × Hp) :=
  loadA 3 x113 h80 fun x114 r115 => chkS [(r109, []), (r106, [])] r115 [] (faddrS 2 x3 fun x116 => load1 x116 h80 fun x117 r118 => chkS [(r115, []), (r112, []), (r109, []), (r106, [])] r118 [] (S90_157 x117 h80 r115 r112 r109 r106 ih x114 x0 x108 j1_83))
noncomputable def S90_159 (r109 : List Ref) (x46 : IV) (h80 : Hp) (r106 : List Ref) (x3 : IV) (ih : Handler) (x0 : IV) (x108 : IV) (j1_83 : IV → Hp → Option (IV × Hp)) : Option (IV × Hp) :=
  chkS [] r109 [] (faddrS 2 x46 fun x110 => load1 x110 h80 fun x111 r112 => chkS [(r109, []), (r106, [])] r112 [] (ixS 3 x111 (.fv (.int .i64 1)) fun x113 => S90_158 h80 x113 r109 r106 x3 r112 ih x0 x108 j1_83))
noncomputable def S90_160 (x3 : IV) (h80 : Hp) (x46 : IV) (ih : Handler) (x0 : IV) (j1_83 : IV → Hp → Option (IV × Hp)) : Option (IV × Hp) :=
  faddrS 2 x3 fun x104 => load1 x104 h80 fun x105 r106 => chkS [] r106 [] (ixS 3 x105 (.fv (.int .i64 2)) fun x107 => loadA 3 x107 h80 fun x108 r109 => S90_159 r109 x46 h80 r106 x3 ih x0 x108 j1_83)
noncomputable def S90_161 (ih : Handler) (h55 : Hp) (x0 : IV) (x71 : IV) (x77 : IV) (x7 : IV) (x46 : IV) (x3 : IV) : Option (IV × Hp) :=
  isoS [] false false ih 61 [x0, .fv (.int .i64 1), x71, x77] h55 fun x79 h80 r81 w82 => chkS [] r81 w82 ((fun (j1_83 : IV → Hp → Option (IV × Hp)) => eqS EE 3 x79 (.fv (.int .i64 0)) fun x103 => condS x103 (S90_160 x3 h80 x46 ih x0 j1_83) (j1_83 x79 h80)) fun x84 h85 => S90_155 x84 ih h85 x7 x46)
noncomputable def S90_162 (h55 : Hp) (x73 : IV) (r72 : List Ref) (r69 : List Ref) (ih : Handler) (x0 : IV) (x71 : IV) (x7 : IV) (x46 : IV) (x3 : IV) : Option (IV × Hp) :=
  load1 x73 h55 fun x74 r75 => chkS [(r72, []), (r69, [])] r75 [] (ixS 3 x74 (.fv (.int .i64 0)) fun x76 => loadA 3 x76 h55 fun x77 r78 => chkS [(r72, []), (r69, [])] r78 [] (S90_161 ih h55 x0 x71 x77 x7 x46 x3))
noncomputable def S90_163 (r69 : List Ref) (x68 : IV) (h55 : Hp) (x46 : IV) (ih : Handler) (x0 : IV) (x7 : IV) (x3 : IV) : Option (IV × Hp) :=
  chkS [] r69 [] (ixS 3 x68 (.fv (.int .i64 1)) fun x70 => loadA 3 x70 h55 fun x71 r72 => chkS [] r72 [] (faddrS 2 x46 fun x73 => S90_162 h55 x73 r72 r69 ih x0 x71 x7 x46 x3))
noncomputable def S90_164 (x54 : IV) (ih : Handler) (h55 : Hp) (x7 : IV) (x3 : IV) (x46 : IV) (x0 : IV) : Option (IV × Hp) :=
  neS EE 3 x54 (.fv (.int .i64 0)) fun x56 => condS x56 (isoS [] false false ih 57 [x54] h55 fun x57 h58 _ _ => extS 0 x57 fun x61 => S90_152 x57 h58 x7 x61) (faddrS 2 x3 fun x67 => load1 x67 h55 fun x68 r69 => S90_163 r69 x68 h55 x46 ih x0 x7 x3)
noncomputable def S90_165 (x150 : IV) (j1_53 : IV → Hp → Option (IV × Hp)) (h147 : Hp) (x45 : IV) : Option (IV × Hp) :=
  condS x150 (j1_53 (.fv (.int .i64 12)) h147) (j1_53 x45 h147)
noncomputable def S90_166 (x45 : IV) (h50 : Hp) (x46 : IV) (j1_53 : IV → Hp → Option (IV × Hp)) : Option (IV × Hp) :=
  eqS EE 3 x45 (.fv (.int .i64 0)) fun x130 => guardS x130 true h50 (fun k131 => faddrS 0 x46 fun x132 => k131 x132 h50 [] []) fun x133 h134 _ _ => guardS x130 true h134 (fun k137 => load1 x133 h134 fun x138 r139 => k137 x138 h134 r139 []) fun x140 h141 _ _ => guardS x130 true h141 (fun k144 => neS EE 3 x140 (.fv (.int .i64 6)) fun x145 => k144 x145 h141 [] []) fun x146 h147 _ _ => pickS x130 x146 (.fv (.bool false)) fun x150 => S90_165 x150 j1_53 h147 x45
noncomputable def S90_167 (x40 : IV) (h41 : Hp) (ih : Handler) (x7 : IV) (x3 : IV) (x0 : IV) : Option (IV × Hp) :=
  extS 0 x40 fun x44 => extS 1 x40 fun x45 => newS 94375944 (.row [.fv (.int .i64 0), .fv (.int .i64 0), .nils] false) (.ptr (.own 94375944) 0) h41 fun x46 h47 _ _ => storeA 3 x46 x44 h47 fun h50 _ _ => (fun (j1_53 : IV → Hp → Option (IV × Hp)) => S90_166 x45 h50 x46 j1_53) fun x54 h55 => S90_164 x54 ih h55 x7 x3 x46 x0
noncomputable def S90_168 (x3 : IV) (h18 : Hp) (ih : Handler) (x7 : IV) (x0 : IV) : Option (IV × Hp) :=
  faddrS 2 x3 fun x34 => load1 x34 h18 fun x35 _ => ixS 3 x35 (.fv (.int .i64 0)) fun x37 => loadA 3 x37 h18 fun x38 _ => isoS [] false false ih 58 [x38] h18 fun x40 h41 _ _ => S90_167 x40 h41 ih x7 x3 x0
noncomputable def S90_169 (ih : Handler) (h8 : Hp) (x0 : IV) (x15 : IV) (x7 : IV) (x3 : IV) : Option (IV × Hp) :=
  isoS [] false false ih 88 [x0, x15] h8 fun x17 h18 _ _ => extS 0 x17 fun _ => extS 1 x17 fun x22 => neS EE 3 x22 (.fv (.int .i64 0)) fun x23 => condS x23 (S90_151 ih h18 x22 x7) (S90_168 x3 h18 ih x7 x0)
noncomputable def S90 (ih : Handler) (n : Nat) (x0 : IV) (x1 : IV) (h2 : Hp) : Option (IV × Hp) :=
  boxS 94371840 x1 h2 fun x3 h4 _ _ => newS 94371841 (.row [.fv (.int .i64 0), .fv (.int .i64 0), .nils] false) (.ptr (.own 94371841) 0) h4 fun x7 h8 _ _ => faddrS 2 x3 fun x11 => load1 x11 h8 fun x12 _ => ixS 3 x12 (.fv (.int .i64 0)) fun x14 => loadA 3 x14 h8 fun x15 _ => S90_169 ih h8 x0 x15 x7 x3
theorem S90_ok (ih : Handler) (n : Nat) (x0 : IV) (x1 : IV) (h2 : Hp) : funS EE ih ft.get n 90 [x0, x1] h2 = S90 ih n x0 x1 h2 := by kernel_rfl
noncomputable def S91_154 (x59 : IV) (h60 : Hp) (x7 : IV) (x63 : IV) : Option (IV × Hp) :=
  extS 1 x59 fun x64 => storeA 3 x7 x63 h60 fun h65 _ _ => cellS true 3 x7 h65 fun x68 => outS1 [x68, x64] h65
noncomputable def S91_155 (x81 : IV) (h82 : Hp) (x7 : IV) : Option (IV × Hp) :=
  extS 0 x81 fun x85 => extS 1 x81 fun x86 => storeA 3 x7 x85 h82 fun h87 r88 w89 => chkS [] r88 w89 (cellS true 3 x7 h87 fun x90 => outS1 [x90, x86] h87)
noncomputable def S91_156 (r76 : List Ref) (r70 : List Ref) (ih : Handler) (h57 : Hp) (x69 : IV) (x75 : IV) (x7 : IV) : Option (IV × Hp) :=
  chkS [(r70, [])] r76 [] (isoS [] false false ih 89 [x69, .fv (.int .i64 0), x75] h57 fun x77 h78 r79 w80 => chkS [] r79 w80 (isoS [] false false ih 58 [x77] h78 fun x81 h82 r83 w84 => chkS [] r83 w84 (S91_155 x81 h82 x7)))
noncomputable def S91_157 (x3 : IV) (h57 : Hp) (r70 : List Ref) (ih : Handler) (x69 : IV) (x7 : IV) : Option (IV × Hp) :=
  faddrS 2 x3 fun x71 => load1 x71 h57 fun x72 r73 => chkS [(r70, [])] r73 [] (ixS 3 x72 (.fv (.int .i64 3)) fun x74 => loadA 3 x74 h57 fun x75 r76 => S91_156 r76 r70 ih h57 x69 x75 x7)
noncomputable def S91_158 (x56 : IV) (ih : Handler) (h57 : Hp) (x7 : IV) (x28 : IV) (x3 : IV) : Option (IV × Hp) :=
  neS EE 3 x56 (.fv (.int .i64 0)) fun x58 => condS x58 (isoS [] false false ih 57 [x56] h57 fun x59 h60 _ _ => extS 0 x59 fun x63 => S91_154 x59 h60 x7 x63) (loadA 3 x28 h57 fun x69 r70 => chkS [] r70 [] (S91_157 x3 h57 r70 ih x69 x7))
noncomputable def S91_159 (h54 : Hp) (x15 : IV) (r97 : List Ref) (r94 : List Ref) (ih : Handler) (x0 : IV) (x96 : IV) (j1_55 : IV → Hp → Option (IV × Hp)) : Option (IV × Hp) :=
  loadA 3 x15 h54 fun x98 r99 => chkS [(r97, []), (r94, [])] r99 [] (isoS [] false false ih 61 [x0, .fv (.int .i64 1), x96, x98] h54 fun x100 h101 r102 w103 => chkS [] r102 w103 (j1_55 x100 h101))
noncomputable def S91_160 (h54 : Hp) (x92 : IV) (x15 : IV) (ih : Handler) (x0 : IV) (j1_55 : IV → Hp → Option (IV × Hp)) : Option (IV × Hp) :=
  load1 x92 h54 fun x93 r94 => chkS [] r94 [] (ixS 3 x93 (.fv (.int .i64 3)) fun x95 => loadA 3 x95 h54 fun x96 r97 => chkS [] r97 [] (S91_159 h54 x15 r97 r94 ih x0 x96 j1_55))
noncomputable def S91_161 (ih : Handler) (x7 : IV) (x28 : IV) (x3 : IV) (x53 : IV) (h54 : Hp) (x15 : IV) (x0 : IV) : Option (IV × Hp) :=
  (fun (j1_55 : IV → Hp → Option (IV × Hp)) => eqS EE 3 x53 (.fv (.int .i64 0)) fun x91 => condS x91 (faddrS 2 x3 fun x92 => S91_160 h54 x92 x15 ih x0 j1_55) (j1_55 x53 h54)) fun x56 h57 => S91_158 x56 ih h57 x7 x28 x3
noncomputable def S91_162 (ih : Handler) (h114 : Hp) (x123 : IV) (r122 : List Ref) (r119 : List Ref) (x113 : IV) (x121 : IV) (j1_52 : IV → Hp → Option (IV × Hp)) : Option (IV × Hp) :=
  isoS [] false false ih 114 [x123] h114 fun x125 h126 r127 w128 => chkS [(r122, []), (r119, [])] r127 w128 (isoS [] false false ih 61 [x113, .fv (.int .i64 1), x121, x125] h126 fun x129 h130 r131 w132 => chkS [] r131 w132 (j1_52 x129 h130))
noncomputable def S91_163 (x118 : IV) (h114 : Hp) (r115 : List Ref) (w116 : List Ref) (r112 : List Ref) (r109 : List Ref) (w110 : List Ref) (r106 : List Ref) (x28 : IV) (r119 : List Ref) (ih : Handler) (x113 : IV) (j1_52 : IV → Hp → Option (IV × Hp)) : Option (IV × Hp) :=
  ixS 3 x118 (.fv (.int .i64 2)) fun x120 => loadA 3 x120 h114 fun x121 r122 => chkS [(r115, w116), (r112, []), (r109, w110), (r106, [])] r122 [] (loadA 3 x28 h114 fun x123 r124 => chkS [(r122, []), (r119, []), (r115, w116), (r112, []), (r109, w110), (r106, [])] r124 [] (S91_162 ih h114 x123 r122 r119 x113 x121 j1_52))
noncomputable def S91_164 (ih : Handler) (h108 : Hp) (x107 : IV) (x111 : IV) (x3 : IV) (r112 : List Ref) (r109 : List Ref) (w110 : List Ref) (r106 : List Ref) (x28 : IV) (j1_52 : IV → Hp → Option (IV × Hp)) : Option (IV × Hp) :=
  isoS [] false false ih 84 [x107, .fv (.int .i64 1), x111] h108 fun x113 h114 r115 w116 => chkS [] r115 w116 (faddrS 2 x3 fun x117 => load1 x117 h114 fun x118 r119 => chkS [(r115, w116), (r112, []), (r109, w110), (r106, [])] r119 [] (S91_163 x118 h114 r115 w116 r112 r109 w110 r106 x28 r119 ih x113 j1_52))
noncomputable def S91_165 (r106 : List Ref) (ih : Handler) (h51 : Hp) (x0 : IV) (x105 : IV) (x28 : IV) (x3 : IV) (j1_52 : IV → Hp → Option (IV × Hp)) : Option (IV × Hp) :=
  chkS [] r106 [] (isoS [] false false ih 84 [x0, .fv (.int .i64 1), x105] h51 fun x107 h108 r109 w110 => chkS [] r109 w110 (loadA 3 x28 h108 fun x111 r112 => chkS [(r109, w110), (r106, [])] r112 [] (S91_164 ih h108 x107 x111 x3 r112 r109 w110 r106 x28 j1_52)))
noncomputable def S91_166 (ih : Handler) (x7 : IV) (x28 : IV) (x3 : IV) (x15 : IV) (x0 : IV) (x50 : IV) (h51 : Hp) : Option (IV × Hp) :=
  (fun (j1_52 : IV → Hp → Option (IV × Hp)) => eqS EE 3 x50 (.fv (.int .i64 0)) fun x104 => condS x104 (loadA 3 x15 h51 fun x105 r106 => S91_165 r106 ih h51 x0 x105 x28 x3 j1_52) (j1_52 x50 h51)) fun x53 h54 => S91_161 ih x7 x28 x3 x53 h54 x15 x0
noncomputable def S91_167 (r148 : List Ref) (w149 : List Ref) (r139 : List Ref) (r136 : List Ref) (ih : Handler) (h147 : Hp) (x0 : IV) (x138 : IV) (x146 : IV) (j1_49 : IV → Hp → Option (IV × Hp)) : Option (IV × Hp) :=
  chkS [(r139, []), (r136, [])] r148 w149 (isoS [] false false ih 61 [x0, .fv (.int .i64 1), x138, x146] h147 fun x150 h151 r152 w153 => chkS [] r152 w153 (j1_49 x150 h151))
noncomputable def S91_168 (h44 : Hp) (x28 : IV) (r139 : List Ref) (r136 : List Ref) (ih : Handler) (x0 : IV) (x138 : IV) (j1_49 : IV → Hp → Option (IV × Hp)) : Option (IV × Hp) :=
  loadA 3 x28 h44 fun x140 r141 => chkS [(r139, []), (r136, [])] r141 [] (isoS [] false false ih 30 [.fv (.int .i64 11), .nils] h44 fun x142 h143 r144 w145 => chkS [(r141, []), (r139, []), (r136, [])] r144 w145 (isoS [] false false ih 89 [x140, .fv (.int .i64 0), x142] h143 fun x146 h147 r148 w149 => S91_167 r148 w149 r139 r136 ih h147 x0 x138 x146 j1_49))
noncomputable def S91_169 (h44 : Hp) (x134 : IV) (x28 : IV) (ih : Handler) (x0 : IV) (j1_49 : IV → Hp → Option (IV × Hp)) : Option (IV × Hp) :=
  load1 x134 h44 fun x135 r136 => chkS [] r136 [] (ixS 3 x135 (.fv (.int .i64 1)) fun x137 => loadA 3 x137 h44 fun x138 r139 => chkS [] r139 [] (S91_168 h44 x28 r139 r136 ih x0 x138 j1_49))
noncomputable def S91_170 (ih : Handler) (x7 : IV) (x28 : IV) (x3 : IV) (x15 : IV) (x0 : IV) (x48 : IV) (h44 : Hp) : Option (IV × Hp) :=
  (fun (j1_49 : IV → Hp → Option (IV × Hp)) => eqS EE 3 x48 (.fv (.int .i64 0)) fun x133 => condS x133 (faddrS 2 x3 fun x134 => S91_169 h44 x134 x28 ih x0 j1_49) (j1_49 x48 h44)) fun x50 h51 => S91_166 ih x7 x28 x3 x15 x0 x50 h51
noncomputable def S91_171 (r42 : List Ref) (r39 : List Ref) (w40 : List Ref) (r36 : List Ref) (ih : Handler) (h38 : Hp) (x37 : IV) (x41 : IV) (x7 : IV) (x28 : IV) (x3 : IV) (x15 : IV) (x0 : IV) : Option (IV × Hp) :=
  chkS [(r39, w40), (r36, [])] r42 [] (isoS [] false false ih 88 [x37, x41] h38 fun x43 h44 r45 w46 => chkS [] r45 w46 (extS 0 x43 fun _ => extS 1 x43 fun x48 => S91_170 ih x7 x28 x3 x15 x0 x48 h44))
noncomputable def S91_172 (h32 : Hp) (x15 : IV) (ih : Handler) (x0 : IV) (x28 : IV) (x7 : IV) (x3 : IV) : Option (IV × Hp) :=
  loadA 3 x15 h32 fun x35 r36 => chkS [] r36 [] (isoS [] false false ih 84 [x0, .fv (.int .i64 1), x35] h32 fun x37 h38 r39 w40 => chkS [] r39 w40 (loadA 3 x28 h38 fun x41 r42 => S91_171 r42 r39 w40 r36 ih h38 x37 x41 x7 x28 x3 x15 x0))
noncomputable def S91_173 (h19 : Hp) (x22 : IV) (x15 : IV) (ih : Handler) (x0 : IV) (x7 : IV) (x3 : IV) : Option (IV × Hp) :=
  load1 x22 h19 fun x23 _ => ixS 3 x23 (.fv (.int .i64 0)) fun x25 => loadA 3 x25 h19 fun x26 _ => newS 95422468 (.row [.fv (.int .i64 0), .fv (.int .i64 0), .nils] false) (.ptr (.own 95422468) 0) h19 fun x28 h29 _ _ => storeA 3 x28 x26 h29 fun h32 _ _ => S91_172 h32 x15 ih x0 x28 x7 x3
noncomputable def S91 (ih : Handler) (n : Nat) (x0 : IV) (x1 : IV) (h2 : Hp) : Option (IV × Hp) :=
  boxS 95420416 x1 h2 fun x3 h4 _ _ => newS 95420417 (.row [.fv (.int .i64 0), .fv (.int .i64 0), .nils] false) (.ptr (.own 95420417) 0) h4 fun x7 h8 _ _ => isoS [] false false ih 30 [.fv (.int .i64 10), .nils] h8 fun x11 h12 _ _ => newS 95421441 (.row [.fv (.int .i64 0), .fv (.int .i64 0), .nils] false) (.ptr (.own 95421441) 0) h12 fun x15 h16 _ _ => storeA 3 x15 x11 h16 fun h19 _ _ => faddrS 2 x3 fun x22 => S91_173 h19 x22 x15 ih x0 x7 x3
theorem S91_ok (ih : Handler) (n : Nat) (x0 : IV) (x1 : IV) (h2 : Hp) : funS EE ih ft.get n 91 [x0, x1] h2 = S91 ih n x0 x1 h2 := by kernel_rfl
noncomputable def S96_27 (r25 : List Ref) (w26 : List Ref) (h24 : Hp) (x23 : IV) : Option (IV × Hp) :=
  chkS [] r25 w26 (outS1 [x23] h24)
noncomputable def S96_28 (r17 : List Ref) (r14 : List Ref) (w15 : List Ref) (r10 : List Ref) (w11 : List Ref) (x1 : IV) (x16 : IV) (h13 : Hp) (x12 : IV) : Option (IV × Hp) :=
  chkS [(r14, w15), (r10, w11)] r17 [] (bldS [.fv (.int .i64 0), .fv (.int .i64 0), .fv (.int .i64 0), .nils] [(0, 1, x1), (1, 3, x16)] fun x18 => genS (pcBuildSlice EE 71 1 [(0, x18)]) 100664326 h13 fun x19 h20 r21 w22 => chkS [(r14, w15), (r10, w11)] r21 w22 (genS (builtinR EE 100664327 false .append [71, 71] [x12, x19]) 100664327 h20 fun x23 h24 r25 w26 => S96_27 r25 w26 h24 x23))
noncomputable def S96 (ih : Handler) (n : Nat) (x0 : IV) (x1 : IV) (x2 : IV) (h3 : Hp) : Option (IV × Hp) :=
  boxS 100663296 x2 h3 fun x4 h5 _ _ => genS (pcBuildSlice EE 71 0 []) 100664320 h5 fun x8 h9 r10 w11 => chkS [] r10 w11 (genS (builtinR EE 100664322 false .append [71, 71] [x8, x0]) 100664322 h9 fun x12 h13 r14 w15 => chkS [] r14 w15 (loadA 3 x4 h13 fun x16 r17 => S96_28 r17 r14 w15 r10 w11 x1 x16 h13 x12))
theorem S96_ok (ih : Handler) (n : Nat) (x0 : IV) (x1 : IV) (x2 : IV) (h3 : Hp) : funS EE ih ft.get n 96 [x0, x1, x2] h3 = S96 ih n x0 x1 x2 h3 := by kernel_rfl
noncomputable def S97_133 (x22 : IV) (h4 : Hp) (h27 : Hp) (x16 : IV) (x17 : IV) (x18 : IV) (x19 : IV) (x20 : IV) (x26 : IV) (q13 : List IV → Hp → Option (IV × Hp)) : Option (IV × Hp) :=
  addS EE 3 x22 (.fv (.int .i64 1)) fun x28 => dropS (h4.own.map (·.1)) [101718032, 101720067] [x16, x17, x18, x19, x20, x26, x28] h27 fun h29 => q13 [x16, x17, x18, x19, x20, x26, x28] h29
noncomputable def S97_134 (h90 : Hp) (x22 : IV) (x21 : IV) (j1_25 : IV → Hp → Option (IV × Hp)) : Option (IV × Hp) :=
  genS (pcBuildSlice EE 51 1 [(0, x22)]) 101720066 h90 fun x94 h95 _ _ => genS (builtinR EE 101720067 false .append [51, 51] [x21, x94]) 101720067 h95 fun x98 h99 _ _ => j1_25 x98 h99
noncomputable def S97_135 (r86 : List Ref) (w87 : List Ref) (h85 : Hp) (x63 : IV) (ih : Handler) (x72 : IV) (x84 : IV) (x22 : IV) (x21 : IV) (j1_25 : IV → Hp → Option (IV × Hp)) : Option (IV × Hp) :=
  chkS [] r86 w87 (guardS x63 true h85 (fun k88 => isoS [] false false ih 18 [x72, x84] h85 k88) fun x89 h90 r91 w92 => chkS [] r91 w92 (pickS x63 x89 (.fv (.bool false)) fun x93 => condS x93 (S97_134 h90 x22 x21 j1_25) (j1_25 x21 h90)))
noncomputable def S97_136 (h68 : Hp) (x63 : IV) (ih : Handler) (x67 : IV) (x19 : IV) (r69 : List Ref) (w70 : List Ref) (x22 : IV) (x21 : IV) (j1_25 : IV → Hp → Option (IV × Hp)) : Option (IV × Hp) :=
  guardS x63 true h68 (fun k71 => isoS [] false false ih 112 [x67] h68 k71) fun x72 h73 r74 w75 => chkS [] r74 w75 (guardS x63 true h73 (fun k76 => loadA 3 x19 h73 fun x77 r78 => k76 x77 h73 r78 []) fun x79 h80 r81 w82 => chkS [(r74, w75), (r69, w70)] r81 w82 (guardS x63 true h80 (fun k83 => isoS [] false false ih 112 [x79] h80 k83) fun x84 h85 r86 w87 => S97_135 r86 w87 h85 x63 ih x72 x84 x22 x21 j1_25))
noncomputable def S97_137 (h51 : Hp) (x54 : IV) (x55 : IV) (ih : Handler) (x19 : IV) (x22 : IV) (x21 : IV) (j1_25 : IV → Hp → Option (IV × Hp)) : Option (IV × Hp) :=
  newS 101718032 (.row [.fv (.int .i64 0), .fv (.int .i64 0), .nils] false) (.ptr (.own 101718032) 0) h51 fun x56 h57 _ _ => storeA 3 x56 x54 h57 fun h60 _ _ => eqS EE 3 x55 (.fv (.int .i64 0)) fun x63 => guardS x63 true h60 (fun k64 => loadA 3 x56 h60 fun x65 r66 => k64 x65 h60 r66 []) fun x67 h68 r69 w70 => chkS [] r69 w70 (S97_136 h68 x63 ih x67 x19 r69 w70 x22 x21 j1_25)
noncomputable def S97_138 (x22 : IV) (ih : Handler) (h15 : Hp) (x43 : IV) (x19 : IV) (x21 : IV) (j1_25 : IV → Hp → Option (IV × Hp)) : Option (IV × Hp) :=
  addS EE 3 x22 (.fv (.int .i64 1)) fun x45 => isoS [] false false ih 28 [x43, x45, .fv (.int .i64 0)] h15 fun x46 h47 _ _ => isoS [] false false ih 58 [x46] h47 fun x50 h51 _ _ => extS 0 x50 fun x54 => extS 1 x50 fun x55 => S97_137 h51 x54 x55 ih x19 x22 x21 j1_25
noncomputable def S97_139 (x38 : IV) (x22 : IV) (x16 : IV) (h15 : Hp) (ih : Handler) (x19 : IV) (x21 : IV) (j1_25 : IV → Hp → Option (IV × Hp)) : Option (IV × Hp) :=
  subS EE 3 x38 (.fv (.int .i64 1)) fun x39 => subS EE 3 x39 x22 fun x40 => ixS 4 x16 x40 fun x41 => faddrS 1 x41 fun x42 => loadA 3 x42 h15 fun x43 _ => S97_138 x22 ih h15 x43 x19 x21 j1_25
noncomputable def S97_140 (x33 : IV) (h15 : Hp) (x17 : IV) (j1_25 : IV → Hp → Option (IV × Hp)) (x21 : IV) (x16 : IV) (x22 : IV) (ih : Handler) (x19 : IV) : Option (IV × Hp) :=
  faddrS 0 x33 fun x34 => load1 x34 h15 fun x35 _ => neS EE 3 x35 x17 fun x37 => condS x37 (j1_25 x21 h15) (lenS x16 fun x38 => S97_139 x38 x22 x16 h15 ih x19 x21 j1_25)
noncomputable def S97_141 (x22 : IV) (h4 : Hp) (x16 : IV) (x17 : IV) (x18 : IV) (x19 : IV) (x20 : IV) (q13 : List IV → Hp → Option (IV × Hp)) (h15 : Hp) (x21 : IV) (ih : Handler) : Option (IV × Hp) :=
  (fun (j1_25 : IV → Hp → Option (IV × Hp)) => lenS x16 fun x30 => subS EE 3 x30 (.fv (.int .i64 1)) fun x31 => subS EE 3 x31 x22 fun x32 => ixS 4 x16 x32 fun x33 => S97_140 x33 h15 x17 j1_25 x21 x16 x22 ih x19) fun x26 h27 => S97_133 x22 h4 h27 x16 x17 x18 x19 x20 x26 q13
noncomputable def S97_142 (h15 : Hp) (x20 : IV) (x104 : IV) : Option (IV × Hp) :=
  storeA 3 x20 x104 h15 fun h105 _ _ => cellS true 3 x20 h105 fun x108 => outS1 [x108, .fv (.bool false)] h105
noncomputable def S97_143 (h121 : Hp) (x20 : IV) : Option (IV × Hp) :=
  cellS true 3 x20 h121 fun x124 => outS1 [x124, .fv (.bool true)] h121
noncomputable def S97_144 (ih : Handler) (h15 : Hp) (x18 : IV) (x109 : IV) (x21 : IV) (x20 : IV) : Option (IV × Hp) :=
  isoS [] false false ih 41 [x18, x109] h15 fun x110 h111 _ _ => ixS 1 x21 x110 fun x114 => load1 x114 h111 fun x115 _ => isoS [] false false ih 29 [x115] h111 fun x117 h118 _ _ => storeA 3 x20 x117 h118 fun h121 _ _ => S97_143 h121 x20
noncomputable def S97_145 (x21 : IV) (h15 : Hp) (x20 : IV) (ih : Handler) (x18 : IV) : Option (IV × Hp) :=
  lenS x21 fun x102 => eqS EE 3 x102 (.fv (.int .i64 0)) fun x103 => condS x103 (bldS [.fv (.int .i64 0), .fv (.int .i64 0), .nils] [] fun x104 => S97_142 h15 x20 x104) (lenS x21 fun x109 => S97_144 ih h15 x18 x109 x21 x20)
noncomputable def S97_146 (l129 : List IV) (x16 : IV) (h4 : Hp) (x17 : IV) (x18 : IV) (x19 : IV) (x20 : IV) (q13 : List IV → Hp → Option (IV × Hp)) (h15 : Hp) (ih : Handler) : Option (IV × Hp) :=
  uncS l129 fun x21 l130 => uncS l130 fun x22 _ => lenS x16 fun x23 => ltS EE 3 x22 x23 fun x24 => condS x24 (S97_141 x22 h4 x16 x17 x18 x19 x20 q13 h15 x21 ih) (S97_145 x21 h15 x20 ih x18)
noncomputable def S97_147 (l14 : List IV) (h4 : Hp) (q13 : List IV → Hp → Option (IV × Hp)) (h15 : Hp) (ih : Handler) : Option (IV × Hp) :=
  uncS l14 fun x16 l125 => uncS l125 fun x17 l126 => uncS l126 fun x18 l127 => uncS l127 fun x19 l128 => uncS l128 fun x20 l129 => S97_146 l129 x16 h4 x17 x18 x19 x20 q13 h15 ih
noncomputable def S97 (ih : Handler) (n : Nat) (x0 : IV) (x1 : IV) (x2 : IV) (x3 : IV) (h4 : Hp) : Option (IV × Hp) :=
  boxS 101711872 x2 h4 fun x5 h6 _ _ => newS 101711873 (.row [.fv (.int .i64 0), .fv (.int .i64 0), .nils] false) (.ptr (.own 101711873) 0) h6 fun x9 h10 _ _ => dropS (h4.own.map (·.1)) [101718032, 101720067] [x0, x1, x3, x5, x9, .nils, .fv (.int .i64 0)] h10 fun h132 => loopS n (fun q13 l14 h15 => S97_147 l14 h4 q13 h15 ih) [x0, x1, x3, x5, x9, .nils, .fv (.int .i64 0)] h132
theorem S97_ok (ih : Handler) (n : Nat) (x0 : IV) (x1 : IV) (x2 : IV) (x3 : IV) (h4 : Hp) : funS EE ih ft.get n 97 [x0, x1, x2, x3] h4 = S97 ih n x0 x1 x2 x3 h4 := by kernel_rfl
noncomputable def S98_498 (h128 : Hp) (x13 : IV) (x127 : IV) : Option (IV × Hp) :=
  cellS true 3 x13 h128 fun x131 => outS1 [x131, x127] h128
noncomputable def S98_499 (h113 : Hp) (x50 : IV) (x72 : IV) (x94 : IV) (x13 : IV) (x112 : IV) : Option (IV × Hp) :=
  guardS x50 true h113 (fun k116 => k116 x72 h113 [] []) fun x117 h118 _ _ => pickS x50 x117 (.fv (.bool false)) fun x121 => guardS x121 true h118 (fun k122 => k122 x94 h118 [] []) fun x123 h124 _ _ => pickS x121 x123 (.fv (.bool false)) fun x127 => storeA 3 x13 x112 h124 fun h128 _ _ => S98_498 h128 x13 x127
noncomputable def S98_500 (h99 : Hp) (x51 : IV) (x73 : IV) (x95 : IV) (ih : Handler) (x50 : IV) (x72 : IV) (x94 : IV) (x13 : IV) : Option (IV × Hp) :=
  loadA 3 x51 h99 fun x102 _ => loadA 3 x73 h99 fun x104 _ => loadA 3 x95 h99 fun x106 _ => genS (pcBuildSlice EE 28 3 [(0, x102), (1, x104), (2, x106)]) 102767619 h99 fun x108 h109 _ _ => isoS [] false false ih 30 [.fv (.int .i64 27), x108] h109 fun x112 h113 _ _ => S98_499 h113 x50 x72 x94 x13 x112
noncomputable def S98_501 (x89 : IV) (h90 : Hp) (r91 : List Ref) (w92 : List Ref) (r86 : List Ref) (w87 : List Ref) (r83 : List Ref) (r81 : List Ref) (x93 : IV) (x51 : IV) (x73 : IV) (ih : Handler) (x50 : IV) (x72 : IV) (x13 : IV) : Option (IV × Hp) :=
  extS 1 x89 fun x94 => newS 102766602 (.row [.fv (.int .i64 0), .fv (.int .i64 0), .nils] false) (.ptr (.own 102766602) 0) h90 fun x95 h96 r97 w98 => chkS [(r91, w92), (r86, w87), (r83, []), (r81, [])] r97 w98 (storeA 3 x95 x93 h96 fun h99 r100 w101 => chkS [] r100 w101 (S98_500 h99 x51 x73 x95 ih x50 x72 x94 x13))
noncomputable def S98_502 (r86 : List Ref) (w87 : List Ref) (r81 : List Ref) (x3 : IV) (ih : Handler) (h85 : Hp) (x0 : IV) (x80 : IV) (x84 : IV) (r83 : List Ref) (x51 : IV) (x73 : IV) (x50 : IV) (x72 : IV) (x13 : IV) : Option (IV × Hp) :=
  chkS [(r81, [])] r86 w87 (subS EE 3 x3 (.fv (.int .i64 2)) fun x88 => isoS [] false false ih 68 [x0, x80, x84, x88] h85 fun x89 h90 r91 w92 => chkS [] r91 w92 (extS 0 x89 fun x93 => S98_501 x89 h90 r91 w92 r86 w87 r83 r81 x93 x51 x73 ih x50 x72 x13))
noncomputable def S98_503 (h77 : Hp) (x5 : IV) (x9 : IV) (ih : Handler) (x3 : IV) (x0 : IV) (x51 : IV) (x73 : IV) (x50 : IV) (x72 : IV) (x13 : IV) : Option (IV × Hp) :=
  loadA 3 x5 h77 fun x80 r81 => chkS [] r81 [] (loadA 3 x9 h77 fun x82 r83 => chkS [(r81, [])] r83 [] (isoS [] false false ih 42 [x82, .fv (.int .i64 2)] h77 fun x84 h85 r86 w87 => S98_502 r86 w87 r81 x3 ih h85 x0 x80 x84 r83 x51 x73 x50 x72 x13))
noncomputable def S98_504 (x67 : IV) (h68 : Hp) (r69 : List Ref) (w70 : List Ref) (r64 : List Ref) (w65 : List Ref) (r61 : List Ref) (r59 : List Ref) (x71 : IV) (x5 : IV) (x9 : IV) (ih : Handler) (x3 : IV) (x0 : IV) (x51 : IV) (x50 : IV) (x13 : IV) : Option (IV × Hp) :=
  extS 1 x67 fun x72 => newS 102765578 (.row [.fv (.int .i64 0), .fv (.int .i64 0), .nils] false) (.ptr (.own 102765578) 0) h68 fun x73 h74 r75 w76 => chkS [(r69, w70), (r64, w65), (r61, []), (r59, [])] r75 w76 (storeA 3 x73 x71 h74 fun h77 r78 w79 => chkS [] r78 w79 (S98_503 h77 x5 x9 ih x3 x0 x51 x73 x50 x72 x13))
noncomputable def S98_505 (r64 : List Ref) (w65 : List Ref) (r59 : List Ref) (x3 : IV) (ih : Handler) (h63 : Hp) (x0 : IV) (x58 : IV) (x62 : IV) (r61 : List Ref) (x5 : IV) (x9 : IV) (x51 : IV) (x50 : IV) (x13 : IV) : Option (IV × Hp) :=
  chkS [(r59, [])] r64 w65 (subS EE 3 x3 (.fv (.int .i64 2)) fun x66 => isoS [] false false ih 68 [x0, x58, x62, x66] h63 fun x67 h68 r69 w70 => chkS [] r69 w70 (extS 0 x67 fun x71 => S98_504 x67 h68 r69 w70 r64 w65 r61 r59 x71 x5 x9 ih x3 x0 x51 x50 x13))
noncomputable def S98_506 (h55 : Hp) (x5 : IV) (x9 : IV) (ih : Handler) (x3 : IV) (x0 : IV) (x51 : IV) (x50 : IV) (x13 : IV) : Option (IV × Hp) :=
  loadA 3 x5 h55 fun x58 r59 => chkS [] r59 [] (loadA 3 x9 h55 fun x60 r61 => chkS [(r59, [])] r61 [] (isoS [] false false ih 42 [x60, .fv (.int .i64 1)] h55 fun x62 h63 r64 w65 => S98_505 r64 w65 r59 x3 ih h63 x0 x58 x62 r61 x5 x9 x51 x50 x13))
noncomputable def S98_507 (x45 : IV) (h46 : Hp) (r47 : List Ref) (w48 : List Ref) (r42 : List Ref) (w43 : List Ref) (r39 : List Ref) (r37 : List Ref) (x49 : IV) (x5 : IV) (x9 : IV) (ih : Handler) (x3 : IV) (x0 : IV) (x13 : IV) : Option (IV × Hp) :=
  extS 1 x45 fun x50 => newS 102764554 (.row [.fv (.int .i64 0), .fv (.int .i64 0), .nils] false) (.ptr (.own 102764554) 0) h46 fun x51 h52 r53 w54 => chkS [(r47, w48), (r42, w43), (r39, []), (r37, [])] r53 w54 (storeA 3 x51 x49 h52 fun h55 r56 w57 => chkS [] r56 w57 (S98_506 h55 x5 x9 ih x3 x0 x51 x50 x13))
noncomputable def S98_508 (r42 : List Ref) (w43 : List Ref) (r37 : List Ref) (x3 : IV) (ih : Handler) (h41 : Hp) (x0 : IV) (x36 : IV) (x40 : IV) (r39 : List Ref) (x5 : IV) (x9 : IV) (x13 : IV) : Option (IV × Hp) :=
  chkS [(r37, [])] r42 w43 (subS EE 3 x3 (.fv (.int .i64 2)) fun x44 => isoS [] false false ih 68 [x0, x36, x40, x44] h41 fun x45 h46 r47 w48 => chkS [] r47 w48 (extS 0 x45 fun x49 => S98_507 x45 h46 r47 w48 r42 w43 r39 r37 x49 x5 x9 ih x3 x0 x13))
noncomputable def S98_509 (h32 : Hp) (x21 : IV) (x9 : IV) (ih : Handler) (x3 : IV) (x0 : IV) (x5 : IV) (x13 : IV) : Option (IV × Hp) :=
  loadA 3 x21 h32 fun x36 r37 => chkS [] r37 [] (loadA 3 x9 h32 fun x38 r39 => chkS [(r37, [])] r39 [] (isoS [] false false ih 42 [x38, .fv (.int .i64 0)] h32 fun x40 h41 r42 w43 => S98_508 r42 w43 r37 x3 ih h41 x0 x36 x40 r39 x5 x9 x13))
noncomputable def S98_510 (h218 : Hp) (x13 : IV) (x212 : IV) (x221 : IV) : Option (IV × Hp) :=
  storeA 3 x13 x212 h218 fun h222 _ _ => cellS true 3 x13 h222 fun x225 => outS1 [x225, x221] h222
noncomputable def S98_511 (h201 : Hp) (x197 : IV) (x204 : IV) (ih : Handler) (x164 : IV) (x196 : IV) (x13 : IV) : Option (IV × Hp) :=
  loadA 3 x197 h201 fun x206 _ => genS (pcBuildSlice EE 28 2 [(0, x204), (1, x206)]) 102772738 h201 fun x208 h209 _ _ => isoS [] false false ih 30 [.fv (.int .i64 28), x208] h209 fun x212 h213 _ _ => guardS x164 true h213 (fun k216 => k216 x196 h213 [] []) fun x217 h218 _ _ => pickS x164 x217 (.fv (.bool false)) fun x221 => S98_510 h218 x13 x212 x221
noncomputable def S98_512 (h192 : Hp) (r193 : List Ref) (w194 : List Ref) (r188 : List Ref) (w189 : List Ref) (r185 : List Ref) (r182 : List Ref) (w183 : List Ref) (r179 : List Ref) (r176 : List Ref) (w177 : List Ref) (r173 : List Ref) (x195 : IV) (x165 : IV) (ih : Handler) (x164 : IV) (x196 : IV) (x13 : IV) : Option (IV × Hp) :=
  newS 102771725 (.row [.fv (.int .i64 0), .fv (.int .i64 0), .nils] false) (.ptr (.own 102771725) 0) h192 fun x197 h198 r199 w200 => chkS [(r193, w194), (r188, w189), (r185, []), (r182, w183), (r179, []), (r176, w177), (r173, [])] r199 w200 (storeA 3 x197 x195 h198 fun h201 r202 w203 => chkS [] r202 w203 (loadA 3 x165 h201 fun x204 _ => S98_511 h201 x197 x204 ih x164 x196 x13))
noncomputable def S98_513 (x3 : IV) (ih : Handler) (h187 : Hp) (x174 : IV) (x180 : IV) (x186 : IV) (r188 : List Ref) (w189 : List Ref) (r185 : List Ref) (r182 : List Ref) (w183 : List Ref) (r179 : List Ref) (r176 : List Ref) (w177 : List Ref) (r173 : List Ref) (x165 : IV) (x164 : IV) (x13 : IV) : Option (IV × Hp) :=
  subS EE 3 x3 (.fv (.int .i64 2)) fun x190 => isoS [] false false ih 68 [x174, x180, x186, x190] h187 fun x191 h192 r193 w194 => chkS [] r193 w194 (extS 0 x191 fun x195 => extS 1 x191 fun x196 => S98_512 h192 r193 w194 r188 w189 r185 r182 w183 r179 r176 w177 r173 x195 x165 ih x164 x196 x13)
noncomputable def S98_514 (r182 : List Ref) (w183 : List Ref) (h181 : Hp) (x9 : IV) (r179 : List Ref) (r176 : List Ref) (w177 : List Ref) (r173 : List Ref) (ih : Handler) (x3 : IV) (x174 : IV) (x180 : IV) (x165 : IV) (x164 : IV) (x13 : IV) : Option (IV × Hp) :=
  chkS [] r182 w183 (loadA 3 x9 h181 fun x184 r185 => chkS [(r182, w183), (r179, []), (r176, w177), (r173, [])] r185 [] (isoS [] false false ih 42 [x184, .fv (.int .i64 2)] h181 fun x186 h187 r188 w189 => chkS [] r188 w189 (S98_513 x3 ih h187 x174 x180 x186 r188 w189 r185 r182 w183 r179 r176 w177 r173 x165 x164 x13)))
noncomputable def S98_515 (ih : Handler) (h169 : Hp) (x0 : IV) (x172 : IV) (x5 : IV) (r173 : List Ref) (x9 : IV) (x3 : IV) (x165 : IV) (x164 : IV) (x13 : IV) : Option (IV × Hp) :=
  isoS [] false false ih 96 [x0, .fv (.int .i64 0), x172] h169 fun x174 h175 r176 w177 => chkS [] r176 w177 (loadA 3 x5 h175 fun x178 r179 => chkS [(r176, w177), (r173, [])] r179 [] (isoS [] false false ih 28 [x178, .fv (.int .i64 1), .fv (.int .i64 0)] h175 fun x180 h181 r182 w183 => S98_514 r182 w183 h181 x9 r179 r176 w177 r173 ih x3 x174 x180 x165 x164 x13))
noncomputable def S98_516 (r167 : List Ref) (w168 : List Ref) (r161 : List Ref) (w162 : List Ref) (r156 : List Ref) (w157 : List Ref) (r153 : List Ref) (r151 : List Ref) (h166 : Hp) (x165 : IV) (x163 : IV) (x143 : IV) (ih : Handler) (x0 : IV) (x5 : IV) (x9 : IV) (x3 : IV) (x164 : IV) (x13 : IV) : Option (IV × Hp) :=
  chkS [(r161, w162), (r156, w157), (r153, []), (r151, [])] r167 w168 (storeA 3 x165 x163 h166 fun h169 r170 w171 => chkS [] r170 w171 (loadA 3 x143 h169 fun x172 r173 => chkS [] r173 [] (S98_515 ih h169 x0 x172 x5 r173 x9 x3 x165 x164 x13)))
noncomputable def S98_517 (ih : Handler) (h155 : Hp) (x0 : IV) (x150 : IV) (x154 : IV) (x158 : IV) (r156 : List Ref) (w157 : List Ref) (r153 : List Ref) (r151 : List Ref) (x143 : IV) (x5 : IV) (x9 : IV) (x3 : IV) (x13 : IV) : Option (IV × Hp) :=
  isoS [] false false ih 68 [x0, x150, x154, x158] h155 fun x159 h160 r161 w162 => chkS [] r161 w162 (extS 0 x159 fun x163 => extS 1 x159 fun x164 => newS 102770698 (.row [.fv (.int .i64 0), .fv (.int .i64 0), .nils] false) (.ptr (.own 102770698) 0) h160 fun x165 h166 r167 w168 => S98_516 r167 w168 r161 w162 r156 w157 r153 r151 h166 x165 x163 x143 ih x0 x5 x9 x3 x164 x13)
noncomputable def S98_518 (h147 : Hp) (x9 : IV) (r151 : List Ref) (ih : Handler) (x3 : IV) (x0 : IV) (x150 : IV) (x143 : IV) (x5 : IV) (x13 : IV) : Option (IV × Hp) :=
  loadA 3 x9 h147 fun x152 r153 => chkS [(r151, [])] r153 [] (isoS [] false false ih 42 [x152, .fv (.int .i64 1)] h147 fun x154 h155 r156 w157 => chkS [(r151, [])] r156 w157 (subS EE 3 x3 (.fv (.int .i64 2)) fun x158 => S98_517 ih h155 x0 x150 x154 x158 r156 w157 r153 r151 x143 x5 x9 x3 x13))
noncomputable def S98_519 (ih : Handler) (h136 : Hp) (x135 : IV) (x9 : IV) (x3 : IV) (x0 : IV) (x5 : IV) (x13 : IV) : Option (IV × Hp) :=
  isoS [] false false ih 14 [x135, .fv (.int .i64 1)] h136 fun x139 h140 _ _ => newS 102769667 (.row [.fv (.int .i64 0), .fv (.int .i64 0), .nils] false) (.ptr (.own 102769667) 0) h140 fun x143 h144 _ _ => storeA 3 x143 x139 h144 fun h147 _ _ => loadA 3 x143 h147 fun x150 r151 => chkS [] r151 [] (S98_518 h147 x9 r151 ih x3 x0 x150 x143 x5 x13)
noncomputable def S98_520 (h317 : Hp) (x258 : IV) (x290 : IV) (x13 : IV) (x316 : IV) : Option (IV × Hp) :=
  guardS x258 true h317 (fun k320 => k320 x290 h317 [] []) fun x321 h322 _ _ => pickS x258 x321 (.fv (.bool false)) fun x325 => storeA 3 x13 x316 h322 fun h326 r327 w328 => chkS [] r327 w328 (cellS true 3 x13 h326 fun x329 => outS1 [x329, x325] h326)
noncomputable def S98_521 (r311 : List Ref) (r308 : List Ref) (w309 : List Ref) (r304 : List Ref) (w305 : List Ref) (r301 : List Ref) (r299 : List Ref) (h307 : Hp) (x306 : IV) (x310 : IV) (ih : Handler) (x258 : IV) (x290 : IV) (x13 : IV) : Option (IV × Hp) :=
  chkS [(r308, w309), (r304, w305), (r301, []), (r299, [])] r311 [] (genS (pcBuildSlice EE 28 2 [(0, x306), (1, x310)]) 102777861 h307 fun x312 h313 r314 w315 => chkS [] r314 w315 (isoS [] false false ih 30 [.fv (.int .i64 21), x312] h313 fun x316 h317 r318 w319 => chkS [] r318 w319 (S98_520 h317 x258 x290 x13 x316)))
noncomputable def S98_522 (h295 : Hp) (x298 : IV) (x300 : IV) (ih : Handler) (x259 : IV) (r301 : List Ref) (r299 : List Ref) (x258 : IV) (x290 : IV) (x13 : IV) : Option (IV × Hp) :=
  genS (pcBuildSlice EE 28 2 [(0, x298), (1, x300)]) 102777858 h295 fun x302 h303 r304 w305 => chkS [] r304 w305 (isoS [] false false ih 30 [.fv (.int .i64 20), x302] h303 fun x306 h307 r308 w309 => chkS [] r308 w309 (loadA 3 x259 h307 fun x310 r311 => S98_521 r311 r308 w309 r304 w305 r301 r299 h307 x306 x310 ih x258 x290 x13))
noncomputable def S98_523 (r296 : List Ref) (w297 : List Ref) (h295 : Hp) (x237 : IV) (x291 : IV) (ih : Handler) (x259 : IV) (x258 : IV) (x290 : IV) (x13 : IV) : Option (IV × Hp) :=
  chkS [] r296 w297 (loadA 3 x237 h295 fun x298 r299 => chkS [] r299 [] (loadA 3 x291 h295 fun x300 r301 => chkS [(r299, [])] r301 [] (S98_522 h295 x298 x300 ih x259 r301 r299 x258 x290 x13)))
noncomputable def S98_524 (x285 : IV) (h286 : Hp) (r287 : List Ref) (w288 : List Ref) (r282 : List Ref) (w283 : List Ref) (r279 : List Ref) (r276 : List Ref) (w277 : List Ref) (r273 : List Ref) (r270 : List Ref) (w271 : List Ref) (r267 : List Ref) (x237 : IV) (ih : Handler) (x259 : IV) (x258 : IV) (x13 : IV) : Option (IV × Hp) :=
  extS 0 x285 fun x289 => extS 1 x285 fun x290 => newS 102776845 (.row [.fv (.int .i64 0), .fv (.int .i64 0), .nils] false) (.ptr (.own 102776845) 0) h286 fun x291 h292 r293 w294 => chkS [(r287, w288), (r282, w283), (r279, []), (r276, w277), (r273, []), (r270, w271), (r267, [])] r293 w294 (storeA 3 x291 x289 h292 fun h295 r296 w297 => S98_523 r296 w297 h295 x237 x291 ih x259 x258 x290 x13)
noncomputable def S98_525 (ih : Handler) (h275 : Hp) (x278 : IV) (x3 : IV) (x268 : IV) (x274 : IV) (r279 : List Ref) (r276 : List Ref) (w277 : List Ref) (r273 : List Ref) (r270 : List Ref) (w271 : List Ref) (r267 : List Ref) (x237 : IV) (x259 : IV) (x258 : IV) (x13 : IV) : Option (IV × Hp) :=
  isoS [] false false ih 42 [x278, .fv (.int .i64 2)] h275 fun x280 h281 r282 w283 => chkS [] r282 w283 (subS EE 3 x3 (.fv (.int .i64 2)) fun x284 => isoS [] false false ih 68 [x268, x274, x280, x284] h281 fun x285 h286 r287 w288 => chkS [] r287 w288 (S98_524 x285 h286 r287 w288 r282 w283 r279 r276 w277 r273 r270 w271 r267 x237 ih x259 x258 x13))
noncomputable def S98_526 (r273 : List Ref) (r270 : List Ref) (w271 : List Ref) (r267 : List Ref) (ih : Handler) (h269 : Hp) (x272 : IV) (x9 : IV) (x3 : IV) (x268 : IV) (x237 : IV) (x259 : IV) (x258 : IV) (x13 : IV) : Option (IV × Hp) :=
  chkS [(r270, w271), (r267, [])] r273 [] (isoS [] false false ih 28 [x272, .fv (.int .i64 1), .fv (.int .i64 0)] h269 fun x274 h275 r276 w277 => chkS [] r276 w277 (loadA 3 x9 h275 fun x278 r279 => chkS [(r276, w277), (r273, []), (r270, w271), (r267, [])] r279 [] (S98_525 ih h275 x278 x3 x268 x274 r279 r276 w277 r273 r270 w271 r267 x237 x259 x258 x13)))
noncomputable def S98_527 (h263 : Hp) (x237 : IV) (ih : Handler) (x0 : IV) (x5 : IV) (x9 : IV) (x3 : IV) (x259 : IV) (x258 : IV) (x13 : IV) : Option (IV × Hp) :=
  loadA 3 x237 h263 fun x266 r267 => chkS [] r267 [] (isoS [] false false ih 96 [x0, .fv (.int .i64 0), x266] h263 fun x268 h269 r270 w271 => chkS [] r270 w271 (loadA 3 x5 h269 fun x272 r273 => S98_526 r273 r270 w271 r267 ih h269 x272 x9 x3 x268 x237 x259 x258 x13))
noncomputable def S98_528 (x253 : IV) (h254 : Hp) (r255 : List Ref) (w256 : List Ref) (r250 : List Ref) (w251 : List Ref) (r247 : List Ref) (r245 : List Ref) (x257 : IV) (x237 : IV) (ih : Handler) (x0 : IV) (x5 : IV) (x9 : IV) (x3 : IV) (x13 : IV) : Option (IV × Hp) :=
  extS 1 x253 fun x258 => newS 102775818 (.row [.fv (.int .i64 0), .fv (.int .i64 0), .nils] false) (.ptr (.own 102775818) 0) h254 fun x259 h260 r261 w262 => chkS [(r255, w256), (r250, w251), (r247, []), (r245, [])] r261 w262 (storeA 3 x259 x257 h260 fun h263 r264 w265 => chkS [] r264 w265 (S98_527 h263 x237 ih x0 x5 x9 x3 x259 x258 x13))
noncomputable def S98_529 (r250 : List Ref) (w251 : List Ref) (r245 : List Ref) (x3 : IV) (ih : Handler) (h249 : Hp) (x0 : IV) (x244 : IV) (x248 : IV) (r247 : List Ref) (x237 : IV) (x5 : IV) (x9 : IV) (x13 : IV) : Option (IV × Hp) :=
  chkS [(r245, [])] r250 w251 (subS EE 3 x3 (.fv (.int .i64 2)) fun x252 => isoS [] false false ih 68 [x0, x244, x248, x252] h249 fun x253 h254 r255 w256 => chkS [] r255 w256 (extS 0 x253 fun x257 => S98_528 x253 h254 r255 w256 r250 w251 r247 r245 x257 x237 ih x0 x5 x9 x3 x13))
noncomputable def S98_530 (h241 : Hp) (x237 : IV) (x9 : IV) (ih : Handler) (x3 : IV) (x0 : IV) (x5 : IV) (x13 : IV) : Option (IV × Hp) :=
  loadA 3 x237 h241 fun x244 r245 => chkS [] r245 [] (loadA 3 x9 h241 fun x246 r247 => chkS [(r245, [])] r247 [] (isoS [] false false ih 42 [x246, .fv (.int .i64 1)] h241 fun x248 h249 r250 w251 => S98_529 r250 w251 r245 x3 ih h249 x0 x244 x248 r247 x237 x5 x9 x13))
noncomputable def S98_531 (h32 : Hp) (x9 : IV) (ih : Handler) (x3 : IV) (x0 : IV) (x5 : IV) (x13 : IV) : Option (IV × Hp) :=
  loadA 3 x9 h32 fun x227 _ => isoS [] false false ih 42 [x227, .fv (.int .i64 0)] h32 fun x229 h230 _ _ => isoS [] false false ih 14 [x229, .fv (.int .i64 1)] h230 fun x233 h234 _ _ => newS 102774787 (.row [.fv (.int .i64 0), .fv (.int .i64 0), .nils] false) (.ptr (.own 102774787) 0) h234 fun x237 h238 _ _ => storeA 3 x237 x233 h238 fun h241 _ _ => S98_530 h241 x237 x9 ih x3 x0 x5 x13
noncomputable def S98_532 (x345 : IV) (x396 : IV) (h397 : Hp) (x13 : IV) (x391 : IV) : Option (IV × Hp) :=
  pickS x345 x396 (.fv (.bool false)) fun x400 => storeA 3 x13 x391 h397 fun h401 _ _ => cellS true 3 x13 h401 fun x404 => outS1 [x404, x400] h401
noncomputable def S98_533 (h372 : Hp) (x375 : IV) (x377 : IV) (ih : Handler) (x345 : IV) (x367 : IV) (x13 : IV) : Option (IV × Hp) :=
  genS (pcBuildSlice EE 28 2 [(0, x375), (1, x377)]) 102781954 h372 fun x379 h380 _ _ => isoS [] false false ih 30 [.fv (.int .i64 22), x379] h380 fun x383 h384 _ _ => genS (pcBuildSlice EE 28 1 [(0, x383)]) 102781956 h384 fun x387 h388 _ _ => isoS [] false false ih 30 [.fv (.int .i64 23), x387] h388 fun x391 h392 _ _ => guardS x345 true h392 (fun k395 => k395 x367 h392 [] []) fun x396 h397 _ _ => S98_532 x345 x396 h397 x13 x391
noncomputable def S98_534 (r370 : List Ref) (w371 : List Ref) (r364 : List Ref) (w365 : List Ref) (r359 : List Ref) (w360 : List Ref) (r356 : List Ref) (r354 : List Ref) (h369 : Hp) (x368 : IV) (x366 : IV) (x346 : IV) (ih : Handler) (x345 : IV) (x367 : IV) (x13 : IV) : Option (IV × Hp) :=
  chkS [(r364, w365), (r359, w360), (r356, []), (r354, [])] r370 w371 (storeA 3 x368 x366 h369 fun h372 r373 w374 => chkS [] r373 w374 (loadA 3 x346 h372 fun x375 _ => loadA 3 x368 h372 fun x377 _ => S98_533 h372 x375 x377 ih x345 x367 x13))
noncomputable def S98_535 (ih : Handler) (h358 : Hp) (x0 : IV) (x353 : IV) (x357 : IV) (x361 : IV) (r359 : List Ref) (w360 : List Ref) (r356 : List Ref) (r354 : List Ref) (x346 : IV) (x345 : IV) (x13 : IV) : Option (IV × Hp) :=
  isoS [] false false ih 68 [x0, x353, x357, x361] h358 fun x362 h363 r364 w365 => chkS [] r364 w365 (extS 0 x362 fun x366 => extS 1 x362 fun x367 => newS 102780938 (.row [.fv (.int .i64 0), .fv (.int .i64 0), .nils] false) (.ptr (.own 102780938) 0) h363 fun x368 h369 r370 w371 => S98_534 r370 w371 r364 w365 r359 w360 r356 r354 h369 x368 x366 x346 ih x345 x367 x13)
noncomputable def S98_536 (h350 : Hp) (x9 : IV) (r354 : List Ref) (ih : Handler) (x3 : IV) (x0 : IV) (x353 : IV) (x346 : IV) (x345 : IV) (x13 : IV) : Option (IV × Hp) :=
  loadA 3 x9 h350 fun x355 r356 => chkS [(r354, [])] r356 [] (isoS [] false false ih 42 [x355, .fv (.int .i64 1)] h350 fun x357 h358 r359 w360 => chkS [(r354, [])] r359 w360 (subS EE 3 x3 (.fv (.int .i64 2)) fun x361 => S98_535 ih h358 x0 x353 x357 x361 r359 w360 r356 r354 x346 x345 x13))
noncomputable def S98_537 (r348 : List Ref) (w349 : List Ref) (r342 : List Ref) (w343 : List Ref) (r337 : List Ref) (w338 : List Ref) (r334 : List Ref) (r332 : List Ref) (h347 : Hp) (x346 : IV) (x344 : IV) (x21 : IV) (x9 : IV) (ih : Handler) (x3 : IV) (x0 : IV) (x345 : IV) (x13 : IV) : Option (IV × Hp) :=
  chkS [(r342, w343), (r337, w338), (r334, []), (r332, [])] r348 w349 (storeA 3 x346 x344 h347 fun h350 r351 w352 => chkS [] r351 w352 (loadA 3 x21 h350 fun x353 r354 => chkS [] r354 [] (S98_536 h350 x9 r354 ih x3 x0 x353 x346 x345 x13)))
noncomputable def S98_538 (ih : Handler) (h336 : Hp) (x0 : IV) (x331 : IV) (x335 : IV) (x339 : IV) (r337 : List Ref) (w338 : List Ref) (r334 : List Ref) (r332 : List Ref) (x21 : IV) (x9 : IV) (x3 : IV) (x13 : IV) : Option (IV × Hp) :=
  isoS [] false false ih 68 [x0, x331, x335, x339] h336 fun x340 h341 r342 w343 => chkS [] r342 w343 (extS 0 x340 fun x344 => extS 1 x340 fun x345 => newS 102779914 (.row [.fv (.int .i64 0), .fv (.int .i64 0), .nils] false) (.ptr (.own 102779914) 0) h341 fun x346 h347 r348 w349 => S98_537 r348 w349 r342 w343 r337 w338 r334 r332 h347 x346 x344 x21 x9 ih x3 x0 x345 x13)
noncomputable def S98_539 (h32 : Hp) (x9 : IV) (r332 : List Ref) (ih : Handler) (x3 : IV) (x0 : IV) (x331 : IV) (x21 : IV) (x13 : IV) : Option (IV × Hp) :=
  loadA 3 x9 h32 fun x333 r334 => chkS [(r332, [])] r334 [] (isoS [] false false ih 42 [x333, .fv (.int .i64 0)] h32 fun x335 h336 r337 w338 => chkS [(r332, [])] r337 w338 (subS EE 3 x3 (.fv (.int .i64 2)) fun x339 => S98_538 ih h336 x0 x331 x335 x339 r337 w338 r334 r332 x21 x9 x3 x13))
noncomputable def S98_540 (h447 : Hp) (x13 : IV) (x446 : IV) (x430 : IV) : Option (IV × Hp) :=
  storeA 3 x13 x446 h447 fun h450 _ _ => cellS true 3 x13 h450 fun x453 => outS1 [x453, x430] h450
noncomputable def S98_541 (r436 : List Ref) (w437 : List Ref) (h435 : Hp) (x5 : IV) (x431 : IV) (ih : Handler) (x13 : IV) (x430 : IV) : Option (IV × Hp) :=
  chkS [] r436 w437 (loadA 3 x5 h435 fun x438 _ => loadA 3 x431 h435 fun x440 _ => genS (pcBuildSlice EE 28 2 [(0, x438), (1, x440)]) 102785026 h435 fun x442 h443 _ _ => isoS [] false false ih 30 [.fv (.int .i64 29), x442] h443 fun x446 h447 _ _ => S98_540 h447 x13 x446 x430)
noncomputable def S98_542 (x425 : IV) (h426 : Hp) (r427 : List Ref) (w428 : List Ref) (r422 : List Ref) (w423 : List Ref) (r419 : List Ref) (r416 : List Ref) (w417 : List Ref) (r413 : List Ref) (r410 : List Ref) (w411 : List Ref) (r407 : List Ref) (x5 : IV) (ih : Handler) (x13 : IV) : Option (IV × Hp) :=
  extS 0 x425 fun x429 => extS 1 x425 fun x430 => newS 102784013 (.row [.fv (.int .i64 0), .fv (.int .i64 0), .nils] false) (.ptr (.own 102784013) 0) h426 fun x431 h432 r433 w434 => chkS [(r427, w428), (r422, w423), (r419, []), (r416, w417), (r413, []), (r410, w411), (r407, [])] r433 w434 (storeA 3 x431 x429 h432 fun h435 r436 w437 => S98_541 r436 w437 h435 x5 x431 ih x13 x430)
noncomputable def S98_543 (ih : Handler) (h415 : Hp) (x418 : IV) (x3 : IV) (x408 : IV) (x414 : IV) (r419 : List Ref) (r416 : List Ref) (w417 : List Ref) (r413 : List Ref) (r410 : List Ref) (w411 : List Ref) (r407 : List Ref) (x5 : IV) (x13 : IV) : Option (IV × Hp) :=
  isoS [] false false ih 42 [x418, .fv (.int .i64 0)] h415 fun x420 h421 r422 w423 => chkS [] r422 w423 (subS EE 3 x3 (.fv (.int .i64 2)) fun x424 => isoS [] false false ih 68 [x408, x414, x420, x424] h421 fun x425 h426 r427 w428 => chkS [] r427 w428 (S98_542 x425 h426 r427 w428 r422 w423 r419 r416 w417 r413 r410 w411 r407 x5 ih x13))
noncomputable def S98_544 (r413 : List Ref) (r410 : List Ref) (w411 : List Ref) (r407 : List Ref) (ih : Handler) (h409 : Hp) (x412 : IV) (x9 : IV) (x3 : IV) (x408 : IV) (x5 : IV) (x13 : IV) : Option (IV × Hp) :=
  chkS [(r410, w411), (r407, [])] r413 [] (isoS [] false false ih 28 [x412, .fv (.int .i64 1), .fv (.int .i64 0)] h409 fun x414 h415 r416 w417 => chkS [] r416 w417 (loadA 3 x9 h415 fun x418 r419 => chkS [(r416, w417), (r413, []), (r410, w411), (r407, [])] r419 [] (S98_543 ih h415 x418 x3 x408 x414 r419 r416 w417 r413 r410 w411 r407 x5 x13)))
noncomputable def S98_545 (h32 : Hp) (x5 : IV) (ih : Handler) (x0 : IV) (x9 : IV) (x3 : IV) (x13 : IV) : Option (IV × Hp) :=
  loadA 3 x5 h32 fun x406 r407 => chkS [] r407 [] (isoS [] false false ih 96 [x0, .fv (.int .i64 0), x406] h32 fun x408 h409 r410 w411 => chkS [] r410 w411 (loadA 3 x5 h409 fun x412 r413 => S98_544 r413 r410 w411 r407 ih h409 x412 x9 x3 x408 x5 x13))
noncomputable def S98_546 (h481 : Hp) (x484 : IV) (ih : Handler) (x13 : IV) (x476 : IV) : Option (IV × Hp) :=
  genS (pcBuildSlice EE 28 1 [(0, x484)]) 102787073 h481 fun x486 h487 _ _ => isoS [] false false ih 30 [.fv (.int .i64 30), x486] h487 fun x490 h491 _ _ => storeA 3 x13 x490 h491 fun h494 _ _ => cellS true 3 x13 h494 fun x497 => outS1 [x497, x476] h494
noncomputable def S98_547 (h472 : Hp) (r473 : List Ref) (w474 : List Ref) (r468 : List Ref) (w469 : List Ref) (r465 : List Ref) (r462 : List Ref) (w463 : List Ref) (r458 : List Ref) (w459 : List Ref) (r455 : List Ref) (x475 : IV) (ih : Handler) (x13 : IV) (x476 : IV) : Option (IV × Hp) :=
  newS 102786060 (.row [.fv (.int .i64 0), .fv (.int .i64 0), .nils] false) (.ptr (.own 102786060) 0) h472 fun x477 h478 r479 w480 => chkS [(r473, w474), (r468, w469), (r465, []), (r462, w463), (r458, w459), (r455, [])] r479 w480 (storeA 3 x477 x475 h478 fun h481 r482 w483 => chkS [] r482 w483 (loadA 3 x477 h481 fun x484 _ => S98_546 h481 x484 ih x13 x476))
noncomputable def S98_548 (x3 : IV) (ih : Handler) (h467 : Hp) (x0 : IV) (x460 : IV) (x466 : IV) (r468 : List Ref) (w469 : List Ref) (r465 : List Ref) (r462 : List Ref) (w463 : List Ref) (r458 : List Ref) (w459 : List Ref) (r455 : List Ref) (x13 : IV) : Option (IV × Hp) :=
  subS EE 3 x3 (.fv (.int .i64 1)) fun x470 => isoS [] false false ih 70 [x0, x460, x466, x470] h467 fun x471 h472 r473 w474 => chkS [] r473 w474 (extS 0 x471 fun x475 => extS 1 x471 fun x476 => S98_547 h472 r473 w474 r468 w469 r465 r462 w463 r458 w459 r455 x475 ih x13 x476)
noncomputable def S98_549 (r462 : List Ref) (w463 : List Ref) (h461 : Hp) (x9 : IV) (r458 : List Ref) (w459 : List Ref) (r455 : List Ref) (ih : Handler) (x3 : IV) (x0 : IV) (x460 : IV) (x13 : IV) : Option (IV × Hp) :=
  chkS [] r462 w463 (loadA 3 x9 h461 fun x464 r465 => chkS [(r462, w463), (r458, w459), (r455, [])] r465 [] (isoS [] false false ih 42 [x464, .fv (.int .i64 0)] h461 fun x466 h467 r468 w469 => chkS [] r468 w469 (S98_548 x3 ih h467 x0 x460 x466 r468 w469 r465 r462 w463 r458 w459 r455 x13)))
noncomputable def S98_550 (h32 : Hp) (x5 : IV) (ih : Handler) (x9 : IV) (x3 : IV) (x0 : IV) (x13 : IV) : Option (IV × Hp) :=
  loadA 3 x5 h32 fun x454 r455 => chkS [] r455 [] (genS (pcBuildSlice EE 28 1 [(0, x454)]) 102786050 h32 fun x456 h457 r458 w459 => chkS [] r458 w459 (isoS [] false false ih 30 [.fv (.int .i64 18), x456] h457 fun x460 h461 r462 w463 => S98_549 r462 w463 h461 x9 r458 w459 r455 ih x3 x0 x460 x13))
noncomputable def S98_551 (x31 : IV) (h32 : Hp) (x5 : IV) (x9 : IV) (ih : Handler) (x3 : IV) (x0 : IV) (x21 : IV) (x13 : IV) : Option (IV × Hp) :=
  eqS EE 3 x31 (.fv (.int .i64 3)) fun x330 => condS x330 (loadA 3 x5 h32 fun x331 r332 => chkS [] r332 [] (S98_539 h32 x9 r332 ih x3 x0 x331 x21 x13)) (eqS EE 3 x31 (.fv (.int .i64 4)) fun x405 => condS x405 (S98_545 h32 x5 ih x0 x9 x3 x13) (S98_550 h32 x5 ih x9 x3 x0 x13))
noncomputable def S98_552 (x31 : IV) (h32 : Hp) (x9 : IV) (ih : Handler) (x3 : IV) (x0 : IV) (x5 : IV) (x13 : IV) (x21 : IV) : Option (IV × Hp) :=
  eqS EE 3 x31 (.fv (.int .i64 1)) fun x132 => condS x132 (loadA 3 x9 h32 fun x133 _ => isoS [] false false ih 42 [x133, .fv (.int .i64 0)] h32 fun x135 h136 _ _ => S98_519 ih h136 x135 x9 x3 x0 x5 x13) (eqS EE 3 x31 (.fv (.int .i64 2)) fun x226 => condS x226 (S98_531 h32 x9 ih x3 x0 x5 x13) (S98_551 x31 h32 x5 x9 ih x3 x0 x21 x13))
noncomputable def S98_553 (x9 : IV) (h25 : Hp) (ih : Handler) (x21 : IV) (x3 : IV) (x0 : IV) (x5 : IV) (x13 : IV) : Option (IV × Hp) :=
  faddrS 1 x9 fun x28 => load1 x28 h25 fun x29 _ => isoS [] false false ih 41 [x29, .fv (.int .i64 7)] h25 fun x31 h32 _ _ => eqS EE 3 x31 (.fv (.int .i64 0)) fun x35 => condS x35 (S98_509 h32 x21 x9 ih x3 x0 x5 x13) (S98_552 x31 h32 x9 ih x3 x0 x5 x13 x21)
noncomputable def S98 (ih : Handler) (n : Nat) (x0 : IV) (x1 : IV) (x2 : IV) (x3 : IV) (h4 : Hp) : Option (IV × Hp) :=
  boxS 102760448 x1 h4 fun x5 h6 _ _ => boxS 102760449 x2 h6 fun x9 h10 _ _ => newS 102760450 (.row [.fv (.int .i64 0), .fv (.int .i64 0), .nils] false) (.ptr (.own 102760450) 0) h10 fun x13 h14 _ _ => isoS [] false false ih 30 [.fv (.int .i64 15), .nils] h14 fun x17 h18 _ _ => newS 102761473 (.row [.fv (.int .i64 0), .fv (.int .i64 0), .nils] false) (.ptr (.own 102761473) 0) h18 fun x21 h22 _ _ => storeA 3 x21 x17 h22 fun h25 _ _ => S98_553 x9 h25 ih x21 x3 x0 x5 x13
theorem S98_ok (ih : Handler) (n : Nat) (x0 : IV) (x1 : IV) (x2 : IV) (x3 : IV) (h4 : Hp) : funS EE ih ft.get n 98 [x0, x1, x2, x3] h4 = S98 ih n x0 x1 x2 x3 h4 := by kernel_rfl
noncomputable def S99 (ih : Handler) (n : Nat) (h0 : Hp) : Option (IV × Hp) :=
  newS 103809024 (.row [.fv (.int .i64 0), .fv (.int .i64 0), .nils] false) (.ptr (.own 103809024) 0) h0 fun x1 h2 _ _ => isoS [] false false ih 30 [.fv (.int .i64 10), .nils] h2 fun x5 h6 _ _ => storeA 3 x1 x5 h6 fun h9 _ _ => cellS true 3 x1 h9 fun x12 => outS1 [x12] h9
theorem S99_ok (ih : Handler) (n : Nat) (h0 : Hp) : funS EE ih ft.get n 99 [] h0 = S99 ih n h0 := by kernel_rfl
noncomputable def S100_205 (x48 : IV) (x132 : IV) (h133 : Hp) (x13 : IV) (x127 : IV) : Option (IV × Hp) :=
  pickS x48 x132 (.fv (.bool false)) fun x136 => storeA 3 x13 x127 h133 fun h137 _ _ => cellS true 3 x13 h137 fun x140 => outS1 [x140, x136] h137
noncomputable def S100_206 (h106 : Hp) (x109 : IV) (x111 : IV) (x113 : IV) (ih : Handler) (x48 : IV) (x78 : IV) (x13 : IV) : Option (IV × Hp) :=
  genS (pcBuildSlice EE 28 3 [(0, x109), (1, x111), (2, x113)]) 104863747 h106 fun x115 h116 _ _ => isoS [] false false ih 30 [.fv (.int .i64 7), x115] h116 fun x119 h120 _ _ => genS (pcBuildSlice EE 28 1 [(0, x119)]) 104863749 h120 fun x123 h124 _ _ => isoS [] false false ih 30 [.fv (.int .i64 8), x123] h124 fun x127 h128 _ _ => guardS x48 true h128 (fun k131 => k131 x78 h128 [] []) fun x132 h133 _ _ => S100_205 x48 x132 h133 x13 x127
noncomputable def S100_207 (h103 : Hp) (x102 : IV) (x98 : IV) (x79 : IV) (x49 : IV) (ih : Handler) (x48 : IV) (x78 : IV) (x13 : IV) : Option (IV × Hp) :=
  storeA 3 x102 x98 h103 fun h106 r107 w108 => chkS [] r107 w108 (loadA 3 x102 h106 fun x109 _ => loadA 3 x79 h106 fun x111 _ => loadA 3 x49 h106 fun x113 _ => S100_206 h106 x109 x111 x113 ih x48 x78 x13)
noncomputable def S100_208 (r96 : List Ref) (w97 : List Ref) (ih : Handler) (h95 : Hp) (x94 : IV) (r92 : List Ref) (w93 : List Ref) (r89 : List Ref) (r87 : List Ref) (x79 : IV) (x49 : IV) (x48 : IV) (x78 : IV) (x13 : IV) : Option (IV × Hp) :=
  chkS [] r96 w97 (isoS [] false false ih 30 [.fv (.int .i64 6), x94] h95 fun x98 h99 r100 w101 => chkS [] r100 w101 (newS 104862725 (.row [.fv (.int .i64 0), .fv (.int .i64 0), .nils] false) (.ptr (.own 104862725) 0) h99 fun x102 h103 r104 w105 => chkS [(r100, w101), (r96, w97), (r92, w93), (r89, []), (r87, [])] r104 w105 (S100_207 h103 x102 x98 x79 x49 ih x48 x78 x13)))
noncomputable def S100_209 (h83 : Hp) (x27 : IV) (r87 : List Ref) (ih : Handler) (x86 : IV) (x79 : IV) (x49 : IV) (x48 : IV) (x78 : IV) (x13 : IV) : Option (IV × Hp) :=
  loadA 3 x27 h83 fun x88 r89 => chkS [(r87, [])] r89 [] (isoS [] false false ih 28 [x88, .fv (.int .i64 1), .fv (.int .i64 0)] h83 fun x90 h91 r92 w93 => chkS [(r87, [])] r92 w93 (genS (pcBuildSlice EE 28 2 [(0, x86), (1, x90)]) 104862723 h91 fun x94 h95 r96 w97 => S100_208 r96 w97 ih h95 x94 r92 w93 r89 r87 x79 x49 x48 x78 x13))
noncomputable def S100_210 (r81 : List Ref) (w82 : List Ref) (r75 : List Ref) (w76 : List Ref) (r70 : List Ref) (w71 : List Ref) (r67 : List Ref) (r65 : List Ref) (h80 : Hp) (x79 : IV) (x77 : IV) (x5 : IV) (x27 : IV) (ih : Handler) (x49 : IV) (x48 : IV) (x78 : IV) (x13 : IV) : Option (IV × Hp) :=
  chkS [(r75, w76), (r70, w71), (r67, []), (r65, [])] r81 w82 (storeA 3 x79 x77 h80 fun h83 r84 w85 => chkS [] r84 w85 (loadA 3 x5 h83 fun x86 r87 => chkS [] r87 [] (S100_209 h83 x27 r87 ih x86 x79 x49 x48 x78 x13)))
noncomputable def S100_211 (ih : Handler) (h69 : Hp) (x0 : IV) (x64 : IV) (x68 : IV) (x72 : IV) (r70 : List Ref) (w71 : List Ref) (r67 : List Ref) (r65 : List Ref) (x5 : IV) (x27 : IV) (x49 : IV) (x48 : IV) (x13 : IV) : Option (IV × Hp) :=
  isoS [] false false ih 70 [x0, x64, x68, x72] h69 fun x73 h74 r75 w76 => chkS [] r75 w76 (extS 0 x73 fun x77 => extS 1 x73 fun x78 => newS 104861706 (.row [.fv (.int .i64 0), .fv (.int .i64 0), .nils] false) (.ptr (.own 104861706) 0) h74 fun x79 h80 r81 w82 => S100_210 r81 w82 r75 w76 r70 w71 r67 r65 h80 x79 x77 x5 x27 ih x49 x48 x78 x13)
noncomputable def S100_212 (h60 : Hp) (x9 : IV) (r65 : List Ref) (ih : Handler) (x3 : IV) (x0 : IV) (x64 : IV) (x5 : IV) (x27 : IV) (x49 : IV) (x48 : IV) (x13 : IV) : Option (IV × Hp) :=
  loadA 3 x9 h60 fun x66 r67 => chkS [(r65, [])] r67 [] (isoS [] false false ih 42 [x66, .fv (.int .i64 2)] h60 fun x68 h69 r70 w71 => chkS [(r65, [])] r70 w71 (subS EE 3 x3 (.fv (.int .i64 2)) fun x72 => S100_211 ih h69 x0 x64 x68 x72 r70 w71 r67 r65 x5 x27 x49 x48 x13))
noncomputable def S100_213 (h197 : Hp) (x13 : IV) (x191 : IV) (x200 : IV) : Option (IV × Hp) :=
  storeA 3 x13 x191 h197 fun h201 r202 w203 => chkS [] r202 w203 (cellS true 3 x13 h201 fun x204 => outS1 [x204, x200] h201)
noncomputable def S100_214 (r189 : List Ref) (w190 : List Ref) (ih : Handler) (h188 : Hp) (x187 : IV) (x48 : IV) (x165 : IV) (x13 : IV) : Option (IV × Hp) :=
  chkS [] r189 w190 (isoS [] false false ih 30 [.fv (.int .i64 5), x187] h188 fun x191 h192 r193 w194 => chkS [] r193 w194 (guardS x48 true h192 (fun k195 => k195 x165 h192 [] []) fun x196 h197 _ _ => pickS x48 x196 (.fv (.bool false)) fun x200 => S100_213 h197 x13 x191 x200))
noncomputable def S100_215 (ih : Handler) (h178 : Hp) (x177 : IV) (x49 : IV) (r179 : List Ref) (w180 : List Ref) (r176 : List Ref) (r174 : List Ref) (x48 : IV) (x165 : IV) (x13 : IV) : Option (IV × Hp) :=
  isoS [] false false ih 30 [.fv (.int .i64 4), x177] h178 fun x181 h182 r183 w184 => chkS [] r183 w184 (loadA 3 x49 h182 fun x185 r186 => chkS [(r183, w184), (r179, w180), (r176, []), (r174, [])] r186 [] (genS (pcBuildSlice EE 28 2 [(0, x181), (1, x185)]) 104865797 h182 fun x187 h188 r189 w190 => S100_214 r189 w190 ih h188 x187 x48 x165 x13))
noncomputable def S100_216 (r174 : List Ref) (h170 : Hp) (x166 : IV) (x173 : IV) (ih : Handler) (x49 : IV) (x48 : IV) (x165 : IV) (x13 : IV) : Option (IV × Hp) :=
  chkS [] r174 [] (loadA 3 x166 h170 fun x175 r176 => chkS [(r174, [])] r176 [] (genS (pcBuildSlice EE 28 2 [(0, x173), (1, x175)]) 104865794 h170 fun x177 h178 r179 w180 => chkS [] r179 w180 (S100_215 ih h178 x177 x49 r179 w180 r176 r174 x48 x165 x13)))
noncomputable def S100_217 (h161 : Hp) (r162 : List Ref) (w163 : List Ref) (r157 : List Ref) (w158 : List Ref) (r154 : List Ref) (r151 : List Ref) (w152 : List Ref) (r148 : List Ref) (r145 : List Ref) (w146 : List Ref) (r142 : List Ref) (x164 : IV) (x27 : IV) (ih : Handler) (x49 : IV) (x48 : IV) (x165 : IV) (x13 : IV) : Option (IV × Hp) :=
  newS 104864781 (.row [.fv (.int .i64 0), .fv (.int .i64 0), .nils] false) (.ptr (.own 104864781) 0) h161 fun x166 h167 r168 w169 => chkS [(r162, w163), (r157, w158), (r154, []), (r151, w152), (r148, []), (r145, w146), (r142, [])] r168 w169 (storeA 3 x166 x164 h167 fun h170 r171 w172 => chkS [] r171 w172 (loadA 3 x27 h170 fun x173 r174 => S100_216 r174 h170 x166 x173 ih x49 x48 x165 x13))
noncomputable def S100_218 (x3 : IV) (ih : Handler) (h156 : Hp) (x143 : IV) (x149 : IV) (x155 : IV) (r157 : List Ref) (w158 : List Ref) (r154 : List Ref) (r151 : List Ref) (w152 : List Ref) (r148 : List Ref) (r145 : List Ref) (w146 : List Ref) (r142 : List Ref) (x27 : IV) (x49 : IV) (x48 : IV) (x13 : IV) : Option (IV × Hp) :=
  subS EE 3 x3 (.fv (.int .i64 2)) fun x159 => isoS [] false false ih 70 [x143, x149, x155, x159] h156 fun x160 h161 r162 w163 => chkS [] r162 w163 (extS 0 x160 fun x164 => extS 1 x160 fun x165 => S100_217 h161 r162 w163 r157 w158 r154 r151 w152 r148 r145 w146 r142 x164 x27 ih x49 x48 x165 x13)
noncomputable def S100_219 (r151 : List Ref) (w152 : List Ref) (h150 : Hp) (x9 : IV) (r148 : List Ref) (r145 : List Ref) (w146 : List Ref) (r142 : List Ref) (ih : Handler) (x3 : IV) (x143 : IV) (x149 : IV) (x27 : IV) (x49 : IV) (x48 : IV) (x13 : IV) : Option (IV × Hp) :=
  chkS [] r151 w152 (loadA 3 x9 h150 fun x153 r154 => chkS [(r151, w152), (r148, []), (r145, w146), (r142, [])] r154 [] (isoS [] false false ih 42 [x153, .fv (.int .i64 2)] h150 fun x155 h156 r157 w158 => chkS [] r157 w158 (S100_218 x3 ih h156 x143 x149 x155 r157 w158 r154 r151 w152 r148 r145 w146 r142 x27 x49 x48 x13)))
noncomputable def S100_220 (ih : Handler) (h60 : Hp) (x0 : IV) (x141 : IV) (x5 : IV) (r142 : List Ref) (x9 : IV) (x3 : IV) (x27 : IV) (x49 : IV) (x48 : IV) (x13 : IV) : Option (IV × Hp) :=
  isoS [] false false ih 96 [x0, .fv (.int .i64 1), x141] h60 fun x143 h144 r145 w146 => chkS [] r145 w146 (loadA 3 x5 h144 fun x147 r148 => chkS [(r145, w146), (r142, [])] r148 [] (isoS [] false false ih 28 [x147, .fv (.int .i64 1), .fv (.int .i64 0)] h144 fun x149 h150 r151 w152 => S100_219 r151 w152 h150 x9 r148 r145 w146 r142 ih x3 x143 x149 x27 x49 x48 x13))
noncomputable def S100_221 (x59 : IV) (h60 : Hp) (x5 : IV) (x9 : IV) (ih : Handler) (x3 : IV) (x0 : IV) (x27 : IV) (x49 : IV) (x48 : IV) (x13 : IV) : Option (IV × Hp) :=
  eqS EE 3 x59 (.fv (.int .i64 0)) fun x63 => condS x63 (loadA 3 x5 h60 fun x64 r65 => chkS [] r65 [] (S100_212 h60 x9 r65 ih x3 x0 x64 x5 x27 x49 x48 x13)) (loadA 3 x27 h60 fun x141 r142 => chkS [] r142 [] (S100_220 ih h60 x0 x141 x5 r142 x9 x3 x27 x49 x48 x13))
noncomputable def S100_222 (h50 : Hp) (x49 : IV) (x47 : IV) (x9 : IV) (ih : Handler) (x5 : IV) (x3 : IV) (x0 : IV) (x27 : IV) (x48 : IV) (x13 : IV) : Option (IV × Hp) :=
  storeA 3 x49 x47 h50 fun h53 r54 w55 => chkS [] r54 w55 (faddrS 1 x9 fun x56 => load1 x56 h53 fun x57 _ => isoS [] false false ih 41 [x57, .fv (.int .i64 3)] h53 fun x59 h60 _ _ => S100_221 x59 h60 x5 x9 ih x3 x0 x27 x49 x48 x13)
noncomputable def S100_223 (r45 : List Ref) (w46 : List Ref) (x43 : IV) (h44 : Hp) (r40 : List Ref) (w41 : List Ref) (r37 : List Ref) (r35 : List Ref) (x9 : IV) (ih : Handler) (x5 : IV) (x3 : IV) (x0 : IV) (x27 : IV) (x13 : IV) : Option (IV × Hp) :=
  chkS [] r45 w46 (extS 0 x43 fun x47 => extS 1 x43 fun x48 => newS 104859658 (.row [.fv (.int .i64 0), .fv (.int .i64 0), .nils] false) (.ptr (.own 104859658) 0) h44 fun x49 h50 r51 w52 => chkS [(r45, w46), (r40, w41), (r37, []), (r35, [])] r51 w52 (S100_222 h50 x49 x47 x9 ih x5 x3 x0 x27 x48 x13))
noncomputable def S100_224 (r37 : List Ref) (r35 : List Ref) (ih : Handler) (h31 : Hp) (x36 : IV) (x3 : IV) (x0 : IV) (x34 : IV) (x9 : IV) (x5 : IV) (x27 : IV) (x13 : IV) : Option (IV × Hp) :=
  chkS [(r35, [])] r37 [] (isoS [] false false ih 42 [x36, .fv (.int .i64 1)] h31 fun x38 h39 r40 w41 => chkS [(r35, [])] r40 w41 (subS EE 3 x3 (.fv (.int .i64 2)) fun x42 => isoS [] false false ih 70 [x0, x34, x38, x42] h39 fun x43 h44 r45 w46 => S100_223 r45 w46 x43 h44 r40 w41 r37 r35 x9 ih x5 x3 x0 x27 x13))
noncomputable def S100_225 (h24 : Hp) (x23 : IV) (x9 : IV) (ih : Handler) (x3 : IV) (x0 : IV) (x5 : IV) (x13 : IV) : Option (IV × Hp) :=
  newS 104858628 (.row [.fv (.int .i64 0), .fv (.int .i64 0), .nils] false) (.ptr (.own 104858628) 0) h24 fun x27 h28 _ _ => storeA 3 x27 x23 h28 fun h31 _ _ => loadA 3 x27 h31 fun x34 r35 => chkS [] r35 [] (loadA 3 x9 h31 fun x36 r37 => S100_224 r37 r35 ih h31 x36 x3 x0 x34 x9 x5 x27 x13)
noncomputable def S100 (ih : Handler) (n : Nat) (x0 : IV) (x1 : IV) (x2 : IV) (x3 : IV) (h4 : Hp) : Option (IV × Hp) :=
  boxS 104857600 x1 h4 fun x5 h6 _ _ => boxS 104857601 x2 h6 fun x9 h10 _ _ => newS 104857602 (.row [.fv (.int .i64 0), .fv (.int .i64 0), .nils] false) (.ptr (.own 104857602) 0) h10 fun x13 h14 _ _ => loadA 3 x9 h14 fun x17 _ => isoS [] false false ih 42 [x17, .fv (.int .i64 0)] h14 fun x19 h20 _ _ => isoS [] false false ih 69 [x0, x19, .fv (.int .i64 1)] h20 fun x23 h24 _ _ => S100_225 h24 x23 x9 ih x3 x0 x5 x13
theorem S100_ok (ih : Handler) (n : Nat) (x0 : IV) (x1 : IV) (x2 : IV) (x3 : IV) (h4 : Hp) : funS EE ih ft.get n 100 [x0, x1, x2, x3] h4 = S100 ih n x0 x1 x2 x3 h4 := by kernel_rfl
end Idl
end Go.Proofs.Ytdibmackcbpniaa

/-
  Texts of a proof, part 8: an ideal semantics of the program, its functions in shallow form, contracts of them. No statement of the seat is proved here.
-/
import Derived.Test.YtaifgaidaglblaaEqualSumsK7
set_option linter.all false
set_option maxRecDepth 100000
set_option linter.unusedVariables false
namespace Go.Proofs.Ytaifgaidaglblaa
namespace Idl
noncomputable def S2 (ih : Handler) (n : Nat) (h0 : Hp) : Option (IV × Hp) :=
  isoS [] false false ih 1 [] h0 fun _ h2 _ _ => outS1 [] h2
theorem S2_ok (ih : Handler) (n : Nat) (h0 : Hp) : funS EE ih ft.get n 2 [] h0 = S2 ih n h0 := by kernel_rfl
noncomputable def S6_322 (h312 : Hp) (x256 : IV) (x284 : IV) (x311 : IV) : Option (IV × Hp) :=
  guardS x256 true h312 (fun k315 => eqS EE 4 x284 x311 fun x316 => k315 x316 h312 [] []) fun x317 h318 _ _ => pickS x256 x317 (.fv (.bool false)) fun x321 => outS1 [x321] h318
noncomputable def S6_323 (h285 : Hp) (x256 : IV) (x9 : IV) (x13 : IV) (x17 : IV) (x284 : IV) : Option (IV × Hp) :=
  guardS x256 true h285 (fun k288 => k288 x9 h285 [] []) fun x289 h290 _ _ => guardS x256 true h290 (fun k293 => k293 x13 h290 [] []) fun x294 h295 _ _ => guardS x256 true h295 (fun k298 => addS EE 3 x289 x294 fun x299 => k298 x299 h295 [] []) fun x300 h301 _ _ => guardS x256 true h301 (fun k304 => k304 x17 h301 [] []) fun x305 h306 _ _ => guardS x256 true h306 (fun k309 => eqS EE 3 x300 x305 fun x310 => k309 x310 h306 [] []) fun x311 h312 _ _ => S6_322 h312 x256 x284 x311
noncomputable def S6_324 (r274 : List Ref) (w275 : List Ref) (h273 : Hp) (x256 : IV) (x45 : IV) (r269 : List Ref) (w270 : List Ref) (r262 : List Ref) (w263 : List Ref) (ih : Handler) (x272 : IV) (x9 : IV) (x13 : IV) (x17 : IV) : Option (IV × Hp) :=
  chkS [] r274 w275 (guardS x256 true h273 (fun k276 => loadA 3 x45 h273 fun x277 r278 => k276 x277 h273 r278 []) fun x279 h280 r281 w282 => chkS [(r274, w275), (r269, w270), (r262, w263)] r281 w282 (guardS x256 true h280 (fun k283 => isoS [] false false ih 30 [x272, x279] h280 k283) fun x284 h285 r286 w287 => chkS [] r286 w287 (S6_323 h285 x256 x9 x13 x17 x284)))
noncomputable def S6_325 (h253 : Hp) (x256 : IV) (x37 : IV) (x41 : IV) (ih : Handler) (x45 : IV) (x9 : IV) (x13 : IV) (x17 : IV) : Option (IV × Hp) :=
  guardS x256 true h253 (fun k257 => loadA 3 x37 h253 fun x258 r259 => k257 x258 h253 r259 []) fun x260 h261 r262 w263 => chkS [] r262 w263 (guardS x256 true h261 (fun k264 => loadA 3 x41 h261 fun x265 r266 => k264 x265 h261 r266 []) fun x267 h268 r269 w270 => chkS [(r262, w263)] r269 w270 (guardS x256 true h268 (fun k271 => isoS [] false false ih 31 [x260, x267] h268 k271) fun x272 h273 r274 w275 => S6_324 r274 w275 h273 x256 x45 r269 w270 r262 w263 ih x272 x9 x13 x17))
noncomputable def S6_326 (r243 : List Ref) (w244 : List Ref) (h242 : Hp) (x206 : IV) (ih : Handler) (x222 : IV) (x241 : IV) (x37 : IV) (x41 : IV) (x45 : IV) (x9 : IV) (x13 : IV) (x17 : IV) : Option (IV × Hp) :=
  chkS [] r243 w244 (guardS x206 true h242 (fun k245 => isoS [] false false ih 30 [x222, x241] h242 k245) fun x246 h247 r248 w249 => chkS [] r248 w249 (guardS x206 true h247 (fun k250 => eqS EE 4 x246 (.fv (.bool false)) fun x251 => k250 x251 h247 [] []) fun x252 h253 _ _ => pickS x206 x252 (.fv (.bool false)) fun x256 => S6_325 h253 x256 x37 x41 ih x45 x9 x13 x17))
noncomputable def S6_327 (h223 : Hp) (x206 : IV) (x37 : IV) (r224 : List Ref) (w225 : List Ref) (r219 : List Ref) (w220 : List Ref) (r212 : List Ref) (w213 : List Ref) (x49 : IV) (ih : Handler) (x222 : IV) (x41 : IV) (x45 : IV) (x9 : IV) (x13 : IV) (x17 : IV) : Option (IV × Hp) :=
  guardS x206 true h223 (fun k226 => loadA 3 x37 h223 fun x227 r228 => k226 x227 h223 r228 []) fun x229 h230 r231 w232 => chkS [(r224, w225), (r219, w220), (r212, w213)] r231 w232 (guardS x206 true h230 (fun k233 => loadA 3 x49 h230 fun x234 r235 => k233 x234 h230 r235 []) fun x236 h237 r238 w239 => chkS [(r231, w232), (r224, w225), (r219, w220), (r212, w213)] r238 w239 (guardS x206 true h237 (fun k240 => isoS [] false false ih 31 [x229, x236] h237 k240) fun x241 h242 r243 w244 => S6_326 r243 w244 h242 x206 ih x222 x241 x37 x41 x45 x9 x13 x17))
noncomputable def S6_328 (r212 : List Ref) (w213 : List Ref) (h211 : Hp) (x206 : IV) (x37 : IV) (ih : Handler) (x210 : IV) (x49 : IV) (x41 : IV) (x45 : IV) (x9 : IV) (x13 : IV) (x17 : IV) : Option (IV × Hp) :=
  chkS [] r212 w213 (guardS x206 true h211 (fun k214 => loadA 3 x37 h211 fun x215 r216 => k214 x215 h211 r216 []) fun x217 h218 r219 w220 => chkS [(r212, w213)] r219 w220 (guardS x206 true h218 (fun k221 => isoS [] false false ih 31 [x210, x217] h218 k221) fun x222 h223 r224 w225 => chkS [] r224 w225 (S6_327 h223 x206 x37 r224 w225 r219 w220 r212 w213 x49 ih x222 x41 x45 x9 x13 x17)))
noncomputable def S6_329 (r199 : List Ref) (w200 : List Ref) (h198 : Hp) (x152 : IV) (ih : Handler) (x168 : IV) (x197 : IV) (x49 : IV) (x37 : IV) (x41 : IV) (x45 : IV) (x9 : IV) (x13 : IV) (x17 : IV) : Option (IV × Hp) :=
  chkS [] r199 w200 (guardS x152 true h198 (fun k201 => isoS [] false false ih 30 [x168, x197] h198 k201) fun x202 h203 r204 w205 => chkS [] r204 w205 (pickS x152 x202 (.fv (.bool false)) fun x206 => guardS x206 true h203 (fun k207 => loadA 3 x49 h203 fun x208 r209 => k207 x208 h203 r209 []) fun x210 h211 r212 w213 => S6_328 r212 w213 h211 x206 x37 ih x210 x49 x41 x45 x9 x13 x17))
noncomputable def S6_330 (h181 : Hp) (x152 : IV) (ih : Handler) (x173 : IV) (x180 : IV) (x49 : IV) (r182 : List Ref) (w183 : List Ref) (r175 : List Ref) (w176 : List Ref) (r170 : List Ref) (w171 : List Ref) (r165 : List Ref) (w166 : List Ref) (r158 : List Ref) (w159 : List Ref) (x168 : IV) (x37 : IV) (x41 : IV) (x45 : IV) (x9 : IV) (x13 : IV) (x17 : IV) : Option (IV × Hp) :=
  guardS x152 true h181 (fun k184 => isoS [] false false ih 31 [x173, x180] h181 k184) fun x185 h186 r187 w188 => chkS [] r187 w188 (guardS x152 true h186 (fun k189 => loadA 3 x49 h186 fun x190 r191 => k189 x190 h186 r191 []) fun x192 h193 r194 w195 => chkS [(r187, w188), (r182, w183), (r175, w176), (r170, w171), (r165, w166), (r158, w159)] r194 w195 (guardS x152 true h193 (fun k196 => isoS [] false false ih 31 [x185, x192] h193 k196) fun x197 h198 r199 w200 => S6_329 r199 w200 h198 x152 ih x168 x197 x49 x37 x41 x45 x9 x13 x17))
noncomputable def S6_331 (r170 : List Ref) (w171 : List Ref) (h169 : Hp) (x152 : IV) (ih : Handler) (x37 : IV) (r165 : List Ref) (w166 : List Ref) (r158 : List Ref) (w159 : List Ref) (x49 : IV) (x168 : IV) (x41 : IV) (x45 : IV) (x9 : IV) (x13 : IV) (x17 : IV) : Option (IV × Hp) :=
  chkS [] r170 w171 (guardS x152 true h169 (fun k172 => isoS [] false false ih 24 [.fv (.int .i64 11), .nils] h169 k172) fun x173 h174 r175 w176 => chkS [] r175 w176 (guardS x152 true h174 (fun k177 => loadA 3 x37 h174 fun x178 r179 => k177 x178 h174 r179 []) fun x180 h181 r182 w183 => chkS [(r175, w176), (r170, w171), (r165, w166), (r158, w159)] r182 w183 (S6_330 h181 x152 ih x173 x180 x49 r182 w183 r175 w176 r170 w171 r165 w166 r158 w159 x168 x37 x41 x45 x9 x13 x17)))
noncomputable def S6_332 (h149 : Hp) (x152 : IV) (x37 : IV) (x49 : IV) (ih : Handler) (x41 : IV) (x45 : IV) (x9 : IV) (x13 : IV) (x17 : IV) : Option (IV × Hp) :=
  guardS x152 true h149 (fun k153 => loadA 3 x37 h149 fun x154 r155 => k153 x154 h149 r155 []) fun x156 h157 r158 w159 => chkS [] r158 w159 (guardS x152 true h157 (fun k160 => loadA 3 x49 h157 fun x161 r162 => k160 x161 h157 r162 []) fun x163 h164 r165 w166 => chkS [(r158, w159)] r165 w166 (guardS x152 true h164 (fun k167 => isoS [] false false ih 31 [x156, x163] h164 k167) fun x168 h169 r170 w171 => S6_331 r170 w171 h169 x152 ih x37 r165 w166 r158 w159 x49 x168 x41 x45 x9 x13 x17))
noncomputable def S6_333 (h139 : Hp) (x81 : IV) (ih : Handler) (x119 : IV) (x138 : IV) (x112 : IV) (x37 : IV) (x49 : IV) (x41 : IV) (x45 : IV) (x9 : IV) (x13 : IV) (x17 : IV) : Option (IV × Hp) :=
  guardS x81 true h139 (fun k142 => isoS [] false false ih 31 [x119, x138] h139 k142) fun x143 h144 r145 w146 => chkS [] r145 w146 (guardS x81 true h144 (fun k147 => isoS [] false false ih 30 [x112, x143] h144 k147) fun x148 h149 r150 w151 => chkS [] r150 w151 (pickS x81 x148 (.fv (.bool false)) fun x152 => S6_332 h149 x152 x37 x49 ih x41 x45 x9 x13 x17))
noncomputable def S6_334 (r128 : List Ref) (w129 : List Ref) (r121 : List Ref) (w122 : List Ref) (r114 : List Ref) (w115 : List Ref) (r109 : List Ref) (w110 : List Ref) (r102 : List Ref) (w103 : List Ref) (r97 : List Ref) (w98 : List Ref) (r90 : List Ref) (w91 : List Ref) (h127 : Hp) (x81 : IV) (x45 : IV) (ih : Handler) (x126 : IV) (x119 : IV) (x112 : IV) (x37 : IV) (x49 : IV) (x41 : IV) (x9 : IV) (x13 : IV) (x17 : IV) : Option (IV × Hp) :=
  chkS [(r121, w122), (r114, w115), (r109, w110), (r102, w103), (r97, w98), (r90, w91)] r128 w129 (guardS x81 true h127 (fun k130 => loadA 3 x45 h127 fun x131 r132 => k130 x131 h127 r132 []) fun x133 h134 r135 w136 => chkS [(r128, w129), (r121, w122), (r114, w115), (r109, w110), (r102, w103), (r97, w98), (r90, w91)] r135 w136 (guardS x81 true h134 (fun k137 => isoS [] false false ih 31 [x126, x133] h134 k137) fun x138 h139 r140 w141 => chkS [(r121, w122)] r140 w141 (S6_333 h139 x81 ih x119 x138 x112 x37 x49 x41 x45 x9 x13 x17)))
noncomputable def S6_335 (h108 : Hp) (x81 : IV) (ih : Handler) (x100 : IV) (x107 : IV) (x37 : IV) (r109 : List Ref) (w110 : List Ref) (r102 : List Ref) (w103 : List Ref) (r97 : List Ref) (w98 : List Ref) (r90 : List Ref) (w91 : List Ref) (x41 : IV) (x45 : IV) (x49 : IV) (x9 : IV) (x13 : IV) (x17 : IV) : Option (IV × Hp) :=
  guardS x81 true h108 (fun k111 => isoS [] false false ih 31 [x100, x107] h108 k111) fun x112 h113 r114 w115 => chkS [] r114 w115 (guardS x81 true h113 (fun k116 => loadA 3 x37 h113 fun x117 r118 => k116 x117 h113 r118 []) fun x119 h120 r121 w122 => chkS [(r114, w115), (r109, w110), (r102, w103), (r97, w98), (r90, w91)] r121 w122 (guardS x81 true h120 (fun k123 => loadA 3 x41 h120 fun x124 r125 => k123 x124 h120 r125 []) fun x126 h127 r128 w129 => S6_334 r128 w129 r121 w122 r114 w115 r109 w110 r102 w103 r97 w98 r90 w91 h127 x81 x45 ih x126 x119 x112 x37 x49 x41 x9 x13 x17))
noncomputable def S6_336 (r97 : List Ref) (w98 : List Ref) (r90 : List Ref) (w91 : List Ref) (h96 : Hp) (x81 : IV) (ih : Handler) (x88 : IV) (x95 : IV) (x45 : IV) (x37 : IV) (x41 : IV) (x49 : IV) (x9 : IV) (x13 : IV) (x17 : IV) : Option (IV × Hp) :=
  chkS [(r90, w91)] r97 w98 (guardS x81 true h96 (fun k99 => isoS [] false false ih 31 [x88, x95] h96 k99) fun x100 h101 r102 w103 => chkS [] r102 w103 (guardS x81 true h101 (fun k104 => loadA 3 x45 h101 fun x105 r106 => k104 x105 h101 r106 []) fun x107 h108 r109 w110 => chkS [(r102, w103), (r97, w98), (r90, w91)] r109 w110 (S6_335 h108 x81 ih x100 x107 x37 r109 w110 r102 w103 r97 w98 r90 w91 x41 x45 x49 x9 x13 x17)))
noncomputable def S6_337 (ih : Handler) (h78 : Hp) (x69 : IV) (x77 : IV) (x37 : IV) (x41 : IV) (x45 : IV) (x49 : IV) (x9 : IV) (x13 : IV) (x17 : IV) : Option (IV × Hp) :=
  isoS [] false false ih 30 [x69, x77] h78 fun x81 h82 r83 w84 => chkS [] r83 w84 (guardS x81 true h82 (fun k85 => loadA 3 x37 h82 fun x86 r87 => k85 x86 h82 r87 []) fun x88 h89 r90 w91 => chkS [] r90 w91 (guardS x81 true h89 (fun k92 => loadA 3 x41 h89 fun x93 r94 => k92 x93 h89 r94 []) fun x95 h96 r97 w98 => S6_336 r97 w98 r90 w91 h96 x81 ih x88 x95 x45 x37 x41 x49 x9 x13 x17))
noncomputable def S6_338 (r74 : List Ref) (r71 : List Ref) (w72 : List Ref) (r68 : List Ref) (r66 : List Ref) (h70 : Hp) (x37 : IV) (ih : Handler) (x73 : IV) (x69 : IV) (x41 : IV) (x45 : IV) (x49 : IV) (x9 : IV) (x13 : IV) (x17 : IV) : Option (IV × Hp) :=
  chkS [(r71, w72), (r68, []), (r66, [])] r74 [] (loadA 3 x37 h70 fun x75 r76 => chkS [(r74, []), (r71, w72), (r68, []), (r66, [])] r76 [] (isoS [] false false ih 31 [x73, x75] h70 fun x77 h78 r79 w80 => chkS [] r79 w80 (S6_337 ih h78 x69 x77 x37 x41 x45 x49 x9 x13 x17)))
noncomputable def S6_339 (h62 : Hp) (x41 : IV) (r66 : List Ref) (ih : Handler) (x65 : IV) (x37 : IV) (x45 : IV) (x49 : IV) (x9 : IV) (x13 : IV) (x17 : IV) : Option (IV × Hp) :=
  loadA 3 x41 h62 fun x67 r68 => chkS [(r66, [])] r68 [] (isoS [] false false ih 31 [x65, x67] h62 fun x69 h70 r71 w72 => chkS [] r71 w72 (loadA 3 x41 h70 fun x73 r74 => S6_338 r74 r71 w72 r68 r66 h70 x37 ih x73 x69 x41 x45 x49 x9 x13 x17))
noncomputable def S6_340 (h53 : Hp) (x41 : IV) (x25 : IV) (x45 : IV) (x29 : IV) (x49 : IV) (x33 : IV) (x37 : IV) (ih : Handler) (x9 : IV) (x13 : IV) (x17 : IV) : Option (IV × Hp) :=
  storeA 3 x41 x25 h53 fun h56 _ _ => storeA 3 x45 x29 h56 fun h59 _ _ => storeA 3 x49 x33 h59 fun h62 _ _ => loadA 3 x37 h62 fun x65 r66 => chkS [] r66 [] (S6_339 h62 x41 r66 ih x65 x37 x45 x49 x9 x13 x17)
noncomputable def S6_341 (h34 : Hp) (x21 : IV) (x25 : IV) (x29 : IV) (x33 : IV) (ih : Handler) (x9 : IV) (x13 : IV) (x17 : IV) : Option (IV × Hp) :=
  newS 6295559 (.row [.fv (.int .i64 0), .fv (.int .i64 0), .nils] false) (.ptr (.own 6295559) 0) h34 fun x37 h38 _ _ => newS 6295560 (.row [.fv (.int .i64 0), .fv (.int .i64 0), .nils] false) (.ptr (.own 6295560) 0) h38 fun x41 h42 _ _ => newS 6295561 (.row [.fv (.int .i64 0), .fv (.int .i64 0), .nils] false) (.ptr (.own 6295561) 0) h42 fun x45 h46 _ _ => newS 6295562 (.row [.fv (.int .i64 0), .fv (.int .i64 0), .nils] false) (.ptr (.own 6295562) 0) h46 fun x49 h50 _ _ => storeA 3 x37 x21 h50 fun h53 _ _ => S6_340 h53 x41 x25 x45 x29 x49 x33 x37 ih x9 x13 x17
noncomputable def S6_342 (ih : Handler) (h14 : Hp) (x2 : IV) (x9 : IV) (x13 : IV) : Option (IV × Hp) :=
  isoS [] false false ih 28 [x2, .fv (.int .i64 12)] h14 fun x17 h18 _ _ => isoS [] false false ih 29 [x9] h18 fun x21 h22 _ _ => isoS [] false false ih 29 [x13] h22 fun x25 h26 _ _ => isoS [] false false ih 29 [x17] h26 fun x29 h30 _ _ => isoS [] false false ih 26 [.fv (.int .i64 0)] h30 fun x33 h34 _ _ => S6_341 h34 x21 x25 x29 x33 ih x9 x13 x17
noncomputable def S6 (ih : Handler) (n : Nat) (x0 : IV) (x1 : IV) (x2 : IV) (h3 : Hp) : Option (IV × Hp) :=
  isoS [] false false ih 10 [] h3 fun x4 h5 _ _ => optS (unR .not x4) fun x8 => condS x8 (outS1 [.fv (.bool false)] h5) (isoS [] false false ih 28 [x0, .fv (.int .i64 12)] h5 fun x9 h10 _ _ => isoS [] false false ih 28 [x1, .fv (.int .i64 12)] h10 fun x13 h14 _ _ => S6_342 ih h14 x2 x9 x13)
theorem S6_ok (ih : Handler) (n : Nat) (x0 : IV) (x1 : IV) (x2 : IV) (h3 : Hp) : funS EE ih ft.get n 6 [x0, x1, x2] h3 = S6 ih n x0 x1 x2 h3 := by kernel_rfl
noncomputable def S10_98 (x85 : IV) (x93 : IV) (h94 : Hp) : Option (IV × Hp) :=
  pickS x85 x93 (.fv (.bool false)) fun x97 => outS1 [x97] h94
noncomputable def S10_99 (h70 : Hp) (x73 : IV) (x60 : IV) (x61 : IV) : Option (IV × Hp) :=
  guardS x73 true h70 (fun k74 => k74 x60 h70 [] []) fun x75 h76 _ _ => guardS x73 true h76 (fun k79 => optS (unR .not x75) fun x80 => k79 x80 h76 [] []) fun x81 h82 _ _ => pickS x73 x81 (.fv (.bool false)) fun x85 => guardS x85 true h82 (fun k86 => k86 x61 h82 [] []) fun x87 h88 _ _ => guardS x85 true h88 (fun k91 => eqS EE 37 x87 (.fv (.int .i64 0)) fun x92 => k91 x92 h88 [] []) fun x93 h94 _ _ => S10_98 x85 x93 h94
noncomputable def S10_100 (x56 : IV) (h57 : Hp) (x46 : IV) (x47 : IV) : Option (IV × Hp) :=
  extS 0 x56 fun x60 => extS 1 x56 fun x61 => guardS x46 true h57 (fun k62 => k62 x47 h57 [] []) fun x63 h64 _ _ => guardS x46 true h64 (fun k67 => eqS EE 37 x63 (.fv (.int .i64 0)) fun x68 => k67 x68 h64 [] []) fun x69 h70 _ _ => pickS x46 x69 (.fv (.bool false)) fun x73 => S10_99 h70 x73 x60 x61
noncomputable def S10_101 (x42 : IV) (ih : Handler) (h43 : Hp) : Option (IV × Hp) :=
  extS 0 x42 fun x46 => extS 1 x42 fun x47 => isoS [] false false ih 29 [.fv (.int .i64 1)] h43 fun x48 h49 _ _ => isoS [] false false ih 29 [.fv (.int .i64 2)] h49 fun x52 h53 _ _ => isoS [] false false ih 16 [x48, x52] h53 fun x56 h57 _ _ => S10_100 x56 h57 x46 x47
noncomputable def S10_102 (r36 : List Ref) (w37 : List Ref) (r13 : List Ref) (ih : Handler) (h35 : Hp) (x34 : IV) (x12 : IV) : Option (IV × Hp) :=
  chkS [(r13, [])] r36 w37 (isoS [] false false ih 24 [.fv (.int .i64 4), x34] h35 fun x38 h39 r40 w41 => chkS [(r13, [])] r40 w41 (isoS [] false false ih 16 [x12, x38] h39 fun x42 h43 r44 w45 => chkS [] r44 w45 (S10_101 x42 ih h43)))
noncomputable def S10_103 (h23 : Hp) (x18 : IV) (x22 : IV) (r13 : List Ref) (ih : Handler) (x14 : IV) (x12 : IV) : Option (IV × Hp) :=
  genS (pcBuildSlice EE 29 2 [(0, x18), (1, x22)]) 10487812 h23 fun x26 h27 r28 w29 => chkS [(r13, [])] r28 w29 (isoS [] false false ih 24 [.fv (.int .i64 5), x26] h27 fun x30 h31 r32 w33 => chkS [(r13, [])] r32 w33 (genS (pcBuildSlice EE 29 2 [(0, x14), (1, x30)]) 10487814 h31 fun x34 h35 r36 w37 => S10_102 r36 w37 r13 ih h35 x34 x12))
noncomputable def S10_104 (r16 : List Ref) (w17 : List Ref) (r13 : List Ref) (ih : Handler) (h15 : Hp) (x14 : IV) (x12 : IV) : Option (IV × Hp) :=
  chkS [(r13, [])] r16 w17 (isoS [] false false ih 26 [.fv (.int .i64 1)] h15 fun x18 h19 r20 w21 => chkS [(r13, [])] r20 w21 (isoS [] false false ih 26 [.fv (.int .i64 0)] h19 fun x22 h23 r24 w25 => chkS [(r13, [])] r24 w25 (S10_103 h23 x18 x22 r13 ih x14 x12)))
noncomputable def S10 (ih : Handler) (n : Nat) (h0 : Hp) : Option (IV × Hp) :=
  isoS [] false false ih 26 [.fv (.int .i64 0)] h0 fun x1 h2 _ _ => newS 10486785 (.row [.fv (.int .i64 0), .fv (.int .i64 0), .nils] false) (.ptr (.own 10486785) 0) h2 fun x5 h6 _ _ => storeA 3 x5 x1 h6 fun h9 _ _ => loadA 3 x5 h9 fun x12 r13 => chkS [] r13 [] (isoS [] false false ih 24 [.fv (.int .i64 10), .nils] h9 fun x14 h15 r16 w17 => S10_104 r16 w17 r13 ih h15 x14 x12)
theorem S10_ok (ih : Handler) (n : Nat) (h0 : Hp) : funS EE ih ft.get n 10 [] h0 = S10 ih n h0 := by kernel_rfl
noncomputable def S16_59 (r43 : List Ref) (h34 : Hp) (x42 : IV) : Option (IV × Hp) :=
  chkS [] r43 [] (outS1 [.fv (.bool false), x42] h34)
noncomputable def S16_60 (r50 : List Ref) (h34 : Hp) (x49 : IV) : Option (IV × Hp) :=
  chkS [] r50 [] (outS1 [.fv (.bool false), x49] h34)
noncomputable def S16_61 (ih : Handler) (h34 : Hp) (x51 : IV) (x53 : IV) : Option (IV × Hp) :=
  dynS EE ih (.fv (.func (.func 40) [] [])) [x51, x53] h34 fun x55 h56 _ _ => outS1 [x55, .fv (.int .i64 0)] h56
noncomputable def S16_62 (x45 : IV) (x27 : IV) (h34 : Hp) (x23 : IV) (ih : Handler) : Option (IV × Hp) :=
  neS EE 37 x45 (.fv (.int .i64 0)) fun x47 => condS x47 (faddrS 3 x27 fun x48 => load1 x48 h34 fun x49 r50 => S16_60 r50 h34 x49) (loadA 4 x23 h34 fun x51 _ => loadA 4 x27 h34 fun x53 _ => S16_61 ih h34 x51 x53)
noncomputable def S16_63 (x40 : IV) (x23 : IV) (h34 : Hp) (x27 : IV) (ih : Handler) : Option (IV × Hp) :=
  condS x40 (faddrS 3 x23 fun x41 => load1 x41 h34 fun x42 r43 => S16_59 r43 h34 x42) (faddrS 3 x27 fun x44 => load1 x44 h34 fun x45 _ => S16_62 x45 x27 h34 x23 ih)
noncomputable def S16_64 (h31 : Hp) (x27 : IV) (x19 : IV) (x23 : IV) (ih : Handler) : Option (IV × Hp) :=
  storeA 4 x27 x19 h31 fun h34 r35 w36 => chkS [] r35 w36 (faddrS 3 x23 fun x37 => load1 x37 h34 fun x38 _ => neS EE 37 x38 (.fv (.int .i64 0)) fun x40 => S16_63 x40 x23 h34 x27 ih)
noncomputable def S16_65 (r25 : List Ref) (w26 : List Ref) (r21 : List Ref) (w22 : List Ref) (r18 : List Ref) (r15 : List Ref) (w16 : List Ref) (r12 : List Ref) (h24 : Hp) (x23 : IV) (x13 : IV) (x19 : IV) (ih : Handler) : Option (IV × Hp) :=
  chkS [(r21, w22), (r18, []), (r15, w16), (r12, [])] r25 w26 (newS 16778245 (.row [.fv (.int .i64 0), .fv (.int .i64 0), .nils, .fv (.int .i64 0)] false) (.ptr (.own 16778245) 0) h24 fun x27 h28 r29 w30 => chkS [(r25, w26), (r21, w22), (r18, []), (r15, w16), (r12, [])] r29 w30 (storeA 4 x23 x13 h28 fun h31 r32 w33 => chkS [] r32 w33 (S16_64 h31 x27 x19 x23 ih)))
noncomputable def S16_66 (h14 : Hp) (x7 : IV) (r15 : List Ref) (w16 : List Ref) (r12 : List Ref) (ih : Handler) (x13 : IV) : Option (IV × Hp) :=
  loadA 3 x7 h14 fun x17 r18 => chkS [(r15, w16), (r12, [])] r18 [] (isoS [] false false ih 39 [x17] h14 fun x19 h20 r21 w22 => chkS [] r21 w22 (newS 16778244 (.row [.fv (.int .i64 0), .fv (.int .i64 0), .nils, .fv (.int .i64 0)] false) (.ptr (.own 16778244) 0) h20 fun x23 h24 r25 w26 => S16_65 r25 w26 r21 w22 r18 r15 w16 r12 h24 x23 x13 x19 ih))
noncomputable def S16 (ih : Handler) (n : Nat) (x0 : IV) (x1 : IV) (h2 : Hp) : Option (IV × Hp) :=
  boxS 16777216 x0 h2 fun x3 h4 _ _ => boxS 16777217 x1 h4 fun x7 h8 _ _ => loadA 3 x3 h8 fun x11 r12 => chkS [] r12 [] (isoS [] false false ih 39 [x11] h8 fun x13 h14 r15 w16 => chkS [] r15 w16 (S16_66 h14 x7 r15 w16 r12 ih x13))
theorem S16_ok (ih : Handler) (n : Nat) (x0 : IV) (x1 : IV) (h2 : Hp) : funS EE ih ft.get n 16 [x0, x1] h2 = S16 ih n x0 x1 h2 := by kernel_rfl
noncomputable def S24 (ih : Handler) (n : Nat) (x0 : IV) (x1 : IV) (h2 : Hp) : Option (IV × Hp) :=
  newS 25165824 (.row [.fv (.int .i64 0), .fv (.int .i64 0), .nils] false) (.ptr (.own 25165824) 0) h2 fun x3 h4 _ _ => bldS [.fv (.int .i64 0), .fv (.int .i64 0), .nils] [(0, 1, x0), (2, 1, x1)] fun x7 => storeA 3 x3 x7 h4 fun h8 _ _ => cellS true 3 x3 h8 fun x11 => outS1 [x11] h8
theorem S24_ok (ih : Handler) (n : Nat) (x0 : IV) (x1 : IV) (h2 : Hp) : funS EE ih ft.get n 24 [x0, x1] h2 = S24 ih n x0 x1 h2 := by kernel_rfl
noncomputable def S26 (ih : Handler) (n : Nat) (x0 : IV) (h1 : Hp) : Option (IV × Hp) :=
  newS 27262976 (.row [.fv (.int .i64 0), .fv (.int .i64 0), .nils] false) (.ptr (.own 27262976) 0) h1 fun x2 h3 _ _ => bldS [.fv (.int .i64 0), .fv (.int .i64 0), .nils] [(0, 1, .fv (.int .i64 1)), (1, 1, x0)] fun x6 => storeA 3 x2 x6 h3 fun h7 _ _ => cellS true 3 x2 h7 fun x10 => outS1 [x10] h7
theorem S26_ok (ih : Handler) (n : Nat) (x0 : IV) (h1 : Hp) : funS EE ih ft.get n 26 [x0] h1 = S26 ih n x0 h1 := by kernel_rfl
noncomputable def S28 (ih : Handler) (n : Nat) (x0 : IV) (x1 : IV) (h2 : Hp) : Option (IV × Hp) :=
  binS EE 3 .rem x0 x1 fun x3 => (fun (j1_4 : IV → Hp → Option (IV × Hp)) => ltS EE 3 x3 (.fv (.int .i64 0)) fun x7 => condS x7 (addS EE 3 x3 x1 fun x8 => j1_4 x8 h2) (j1_4 x3 h2)) fun x5 h6 => outS1 [x5] h6
theorem S28_ok (ih : Handler) (n : Nat) (x0 : IV) (x1 : IV) (h2 : Hp) : funS EE ih ft.get n 28 [x0, x1] h2 = S28 ih n x0 x1 h2 := by kernel_rfl
noncomputable def S29_49 (ih : Handler) (h28 : Hp) (x27 : IV) (x22 : IV) (x23 : IV) (q17 : List IV → Hp → Option (IV × Hp)) (x20 : IV) (x21 : IV) : Option (IV × Hp) :=
  isoS [] false false ih 24 [.fv (.int .i64 12), x27] h28 fun x31 h32 _ _ => storeA 3 x22 x31 h32 fun h35 _ _ => addS EE 3 x23 (.fv (.int .i64 1)) fun x38 => q17 [x20, x21, x22, x38] h35
noncomputable def S29_50 (h41 : Hp) (x21 : IV) : Option (IV × Hp) :=
  cellS true 3 x21 h41 fun x44 => outS1 [x44] h41
noncomputable def S29_51 (x24 : IV) (h19 : Hp) (x22 : IV) (ih : Handler) (x23 : IV) (q17 : List IV → Hp → Option (IV × Hp)) (x20 : IV) (x21 : IV) : Option (IV × Hp) :=
  condS x24 (loadA 3 x22 h19 fun x25 _ => genS (pcBuildSlice EE 29 1 [(0, x25)]) 30413825 h19 fun x27 h28 _ _ => S29_49 ih h28 x27 x22 x23 q17 x20 x21) (loadA 3 x22 h19 fun x39 _ => storeA 3 x21 x39 h19 fun h41 _ _ => S29_50 h41 x21)
noncomputable def S29_52 (l18 : List IV) (h19 : Hp) (ih : Handler) (q17 : List IV → Hp → Option (IV × Hp)) : Option (IV × Hp) :=
  uncS l18 fun x20 l45 => uncS l45 fun x21 l46 => uncS l46 fun x22 l47 => uncS l47 fun x23 _ => ltS EE 3 x23 x20 fun x24 => S29_51 x24 h19 x22 ih x23 q17 x20 x21
noncomputable def S29 (ih : Handler) (n : Nat) (x0 : IV) (h1 : Hp) : Option (IV × Hp) :=
  newS 30408704 (.row [.fv (.int .i64 0), .fv (.int .i64 0), .nils] false) (.ptr (.own 30408704) 0) h1 fun x2 h3 _ _ => isoS [] false false ih 24 [.fv (.int .i64 11), .nils] h3 fun x6 h7 _ _ => newS 30409729 (.row [.fv (.int .i64 0), .fv (.int .i64 0), .nils] false) (.ptr (.own 30409729) 0) h7 fun x10 h11 _ _ => storeA 3 x10 x6 h11 fun h14 _ _ => loopS n (fun q17 l18 h19 => S29_52 l18 h19 ih q17) [x0, x2, x10, .fv (.int .i64 0)] h14
theorem S29_ok (ih : Handler) (n : Nat) (x0 : IV) (h1 : Hp) : funS EE ih ft.get n 29 [x0] h1 = S29 ih n x0 h1 := by kernel_rfl
noncomputable def S30_28 (x15 : IV) (h16 : Hp) (x19 : IV) : Option (IV × Hp) :=
  extS 1 x15 fun x20 => eqS EE 37 x20 (.fv (.int .i64 0)) fun x21 => guardS x21 true h16 (fun k22 => k22 x19 h16 [] []) fun x23 h24 _ _ => pickS x21 x23 (.fv (.bool false)) fun x27 => outS1 [x27] h24
noncomputable def S30 (ih : Handler) (n : Nat) (x0 : IV) (x1 : IV) (h2 : Hp) : Option (IV × Hp) :=
  boxS 31457280 x0 h2 fun x3 h4 _ _ => boxS 31457281 x1 h4 fun x7 h8 _ _ => loadA 3 x3 h8 fun x11 _ => loadA 3 x7 h8 fun x13 _ => isoS [] false false ih 16 [x11, x13] h8 fun x15 h16 _ _ => extS 0 x15 fun x19 => S30_28 x15 h16 x19
theorem S30_ok (ih : Handler) (n : Nat) (x0 : IV) (x1 : IV) (h2 : Hp) : funS EE ih ft.get n 30 [x0, x1] h2 = S30 ih n x0 x1 h2 := by kernel_rfl
noncomputable def S31_47 (h43 : Hp) (x11 : IV) : Option (IV × Hp) :=
  cellS true 3 x11 h43 fun x46 => outS1 [x46] h43
noncomputable def S31_48 (r37 : List Ref) (w38 : List Ref) (ih : Handler) (h36 : Hp) (x35 : IV) (x11 : IV) : Option (IV × Hp) :=
  chkS [] r37 w38 (isoS [] false false ih 24 [.fv (.int .i64 13), x35] h36 fun x39 h40 r41 w42 => chkS [] r41 w42 (storeA 3 x11 x39 h40 fun h43 r44 w45 => chkS [] r44 w45 (S31_47 h43 x11)))
noncomputable def S31_49 (ih : Handler) (h26 : Hp) (x25 : IV) (r20 : List Ref) (x3 : IV) (r27 : List Ref) (w28 : List Ref) (r23 : List Ref) (w24 : List Ref) (r17 : List Ref) (w18 : List Ref) (x15 : IV) (x19 : IV) (x11 : IV) : Option (IV × Hp) :=
  isoS [] false false ih 24 [.fv (.int .i64 12), x25] h26 fun x29 h30 r31 w32 => chkS [(r20, [])] r31 w32 (loadA 3 x3 h30 fun x33 r34 => chkS [(r31, w32), (r27, w28), (r23, w24), (r20, []), (r17, w18)] r34 [] (genS (pcBuildSlice EE 29 4 [(0, x15), (1, x19), (2, x29), (3, x33)]) 32506886 h30 fun x35 h36 r37 w38 => S31_48 r37 w38 ih h36 x35 x11))
noncomputable def S31_50 (r20 : List Ref) (r17 : List Ref) (w18 : List Ref) (ih : Handler) (h16 : Hp) (x3 : IV) (x15 : IV) (x19 : IV) (x11 : IV) : Option (IV × Hp) :=
  chkS [(r17, w18)] r20 [] (isoS [] false false ih 26 [.fv (.int .i64 0)] h16 fun x21 h22 r23 w24 => chkS [(r20, [])] r23 w24 (genS (pcBuildSlice EE 29 1 [(0, x21)]) 32506883 h22 fun x25 h26 r27 w28 => chkS [(r20, [])] r27 w28 (S31_49 ih h26 x25 r20 x3 r27 w28 r23 w24 r17 w18 x15 x19 x11)))
noncomputable def S31 (ih : Handler) (n : Nat) (x0 : IV) (x1 : IV) (h2 : Hp) : Option (IV × Hp) :=
  boxS 32505856 x0 h2 fun x3 h4 _ _ => boxS 32505857 x1 h4 fun x7 h8 _ _ => newS 32505858 (.row [.fv (.int .i64 0), .fv (.int .i64 0), .nils] false) (.ptr (.own 32505858) 0) h8 fun x11 h12 _ _ => isoS [] false false ih 32 [] h12 fun x15 h16 r17 w18 => chkS [] r17 w18 (loadA 3 x7 h16 fun x19 r20 => S31_50 r20 r17 w18 ih h16 x3 x15 x19 x11)
theorem S31_ok (ih : Handler) (n : Nat) (x0 : IV) (x1 : IV) (h2 : Hp) : funS EE ih ft.get n 31 [x0, x1] h2 = S31 ih n x0 x1 h2 := by kernel_rfl
noncomputable def S32 (ih : Handler) (n : Nat) (h0 : Hp) : Option (IV × Hp) :=
  newS 33554432 (.row [.fv (.int .i64 0), .fv (.int .i64 0), .nils] false) (.ptr (.own 33554432) 0) h0 fun x1 h2 _ _ => isoS [] false false ih 24 [.fv (.int .i64 10), .nils] h2 fun x5 h6 _ _ => storeA 3 x1 x5 h6 fun h9 _ _ => cellS true 3 x1 h9 fun x12 => outS1 [x12] h9
theorem S32_ok (ih : Handler) (n : Nat) (h0 : Hp) : funS EE ih ft.get n 32 [] h0 = S32 ih n h0 := by kernel_rfl
noncomputable def S39_42 (h22 : Hp) (x6 : IV) (x26 : IV) : Option (IV × Hp) :=
  storeA 4 x6 x26 h22 fun h27 _ _ => cellS true 4 x6 h27 fun x30 => outS1 [x30] h27
noncomputable def S39_43 (ih : Handler) (h22 : Hp) (x31 : IV) (x6 : IV) : Option (IV × Hp) :=
  isoS [] false false ih 56 [x31] h22 fun x33 h34 _ _ => bldS [.fv (.int .i64 0), .fv (.int .i64 0), .nils, .fv (.int .i64 0)] [(0, 3, x33)] fun x37 => storeA 4 x6 x37 h34 fun h38 _ _ => cellS true 4 x6 h38 fun x41 => outS1 [x41] h38
noncomputable def S39_44 (h13 : Hp) (x16 : IV) (x17 : IV) (x6 : IV) (ih : Handler) : Option (IV × Hp) :=
  newS 40895493 (.row [.fv (.int .i64 0), .fv (.int .i64 0), .nils] false) (.ptr (.own 40895493) 0) h13 fun x18 h19 _ _ => storeA 3 x18 x16 h19 fun h22 _ _ => neS EE 37 x17 (.fv (.int .i64 0)) fun x25 => condS x25 (bldS [.fv (.int .i64 0), .fv (.int .i64 0), .nils, .fv (.int .i64 0)] [(3, 1, x17)] fun x26 => S39_42 h22 x6 x26) (loadA 3 x18 h22 fun x31 _ => S39_43 ih h22 x31 x6)
noncomputable def S39 (ih : Handler) (n : Nat) (x0 : IV) (h1 : Hp) : Option (IV × Hp) :=
  boxS 40894464 x0 h1 fun x2 h3 _ _ => newS 40894465 (.row [.fv (.int .i64 0), .fv (.int .i64 0), .nils, .fv (.int .i64 0)] false) (.ptr (.own 40894465) 0) h3 fun x6 h7 _ _ => loadA 3 x2 h7 fun x10 _ => isoS [] false false ih 55 [x10] h7 fun x12 h13 _ _ => extS 0 x12 fun x16 => extS 1 x12 fun x17 => S39_44 h13 x16 x17 x6 ih
theorem S39_ok (ih : Handler) (n : Nat) (x0 : IV) (h1 : Hp) : funS EE ih ft.get n 39 [x0] h1 = S39 ih n x0 h1 := by kernel_rfl
noncomputable def S40_21 (ih : Handler) (h8 : Hp) (x12 : IV) (x15 : IV) : Option (IV × Hp) :=
  isoS [] false false ih 57 [x12, x15] h8 fun x17 h18 _ _ => outS1 [x17] h18
noncomputable def S40 (ih : Handler) (n : Nat) (x0 : IV) (x1 : IV) (h2 : Hp) : Option (IV × Hp) :=
  boxS 41943040 x0 h2 fun x3 h4 _ _ => boxS 41943041 x1 h4 fun x7 h8 _ _ => faddrS 0 x3 fun x11 => loadA 3 x11 h8 fun x12 _ => faddrS 0 x7 fun x14 => loadA 3 x14 h8 fun x15 _ => S40_21 ih h8 x12 x15
theorem S40_ok (ih : Handler) (n : Nat) (x0 : IV) (x1 : IV) (h2 : Hp) : funS EE ih ft.get n 40 [x0, x1] h2 = S40 ih n x0 x1 h2 := by kernel_rfl
noncomputable def S55_77 (h13 : Hp) (x6 : IV) : Option (IV × Hp) :=
  bldS [.fv (.int .i64 0), .fv (.int .i64 0), .nils] [] fun x17 => storeA 3 x6 x17 h13 fun h18 _ _ => cellS true 3 x6 h18 fun x21 => outS1 [x21, .fv (.int .i64 1)] h18
noncomputable def S55_78 (r43 : List Ref) (w44 : List Ref) (r41 : List Ref) (h42 : Hp) (x6 : IV) (x40 : IV) : Option (IV × Hp) :=
  chkS [(r41, [])] r43 w44 (cellS true 3 x6 h42 fun x45 => outS1 [x45, x40] h42)
noncomputable def S55_79 (x22 : IV) (h29 : Hp) (x6 : IV) (x37 : IV) : Option (IV × Hp) :=
  nilS x22 fun x38 => faddrS 3 x38 fun x39 => load1 x39 h29 fun x40 r41 => chkS [] r41 [] (storeA 3 x6 x37 h29 fun h42 r43 w44 => S55_78 r43 w44 r41 h42 x6 x40)
noncomputable def S55_80 (h67 : Hp) (x6 : IV) (x65 : IV) : Option (IV × Hp) :=
  cellS true 3 x6 h67 fun x70 => outS1 [x70, x65] h67
noncomputable def S55_81 (x63 : IV) (h54 : Hp) (x6 : IV) (x62 : IV) : Option (IV × Hp) :=
  faddrS 3 x63 fun x64 => load1 x64 h54 fun x65 r66 => chkS [] r66 [] (storeA 3 x6 x62 h54 fun h67 r68 w69 => chkS [(r66, [])] r68 w69 (S55_80 h67 x6 x65))
noncomputable def S55_82 (h73 : Hp) (x6 : IV) : Option (IV × Hp) :=
  cellS true 3 x6 h73 fun x76 => outS1 [x76, .fv (.int .i64 0)] h73
noncomputable def S55_83 (x59 : IV) (x22 : IV) (h54 : Hp) (x6 : IV) (x50 : IV) : Option (IV × Hp) :=
  neS EE 37 x59 (.fv (.int .i64 0)) fun x61 => condS x61 (bldS [.fv (.int .i64 0), .fv (.int .i64 0), .nils] [] fun x62 => nilS x22 fun x63 => S55_81 x63 h54 x6 x62) (loadA 3 x50 h54 fun x71 _ => storeA 3 x6 x71 h54 fun h73 _ _ => S55_82 h73 x6)
noncomputable def S55_84 (h47 : Hp) (x46 : IV) (x22 : IV) (x6 : IV) : Option (IV × Hp) :=
  newS 57678851 (.row [.fv (.int .i64 0), .fv (.int .i64 0), .nils] false) (.ptr (.own 57678851) 0) h47 fun x50 h51 _ _ => storeA 3 x50 x46 h51 fun h54 _ _ => nilS x22 fun x57 => faddrS 3 x57 fun x58 => load1 x58 h54 fun x59 _ => S55_83 x59 x22 h54 x6 x50
noncomputable def S55_85 (h29 : Hp) (x33 : IV) (x22 : IV) (x6 : IV) (ih : Handler) (x28 : IV) : Option (IV × Hp) :=
  load1 x33 h29 fun x34 _ => neS EE 37 x34 (.fv (.int .i64 0)) fun x36 => condS x36 (bldS [.fv (.int .i64 0), .fv (.int .i64 0), .nils] [] fun x37 => S55_79 x22 h29 x6 x37) (isoS [true, false, false, false] false false ih 66 [x22, x28, .fv (.int .i64 0), .fv (.int .i64 1)] h29 fun x46 h47 _ _ => S55_84 h47 x46 x22 x6)
noncomputable def S55_86 (ih : Handler) (h13 : Hp) (x2 : IV) (x6 : IV) : Option (IV × Hp) :=
  inlS ih 64 [] h13 fun x22 h23 _ _ => loadA 3 x2 h23 fun x26 _ => isoS [true, false, false] false false ih 65 [x22, .fv .nilp, x26] h23 fun x28 h29 _ _ => nilS x22 fun x32 => faddrS 3 x32 fun x33 => S55_85 h29 x33 x22 x6 ih x28
noncomputable def S55 (ih : Handler) (n : Nat) (x0 : IV) (h1 : Hp) : Option (IV × Hp) :=
  boxS 57671680 x0 h1 fun x2 h3 _ _ => newS 57671681 (.row [.fv (.int .i64 0), .fv (.int .i64 0), .nils] false) (.ptr (.own 57671681) 0) h3 fun x6 h7 _ _ => loadA 3 x2 h7 fun x10 _ => isoS [] false false ih 63 [x10] h7 fun x12 h13 _ _ => optS (unR .not x12) fun x16 => condS x16 (S55_77 h13 x6) (S55_86 ih h13 x2 x6)
theorem S55_ok (ih : Handler) (n : Nat) (x0 : IV) (h1 : Hp) : funS EE ih ft.get n 55 [x0] h1 = S55 ih n x0 h1 := by kernel_rfl
noncomputable def S56_37 (h13 : Hp) (x2 : IV) (ih : Handler) (x6 : IV) : Option (IV × Hp) :=
  loadA 3 x2 h13 fun x17 _ => isoS [] false false ih 67 [x17] h13 fun x19 h20 _ _ => storeA 3 x6 x19 h20 fun h23 _ _ => cellS true 3 x6 h23 fun x26 => outS1 [x26] h23
noncomputable def S56_38 (h13 : Hp) (x2 : IV) (ih : Handler) (x6 : IV) : Option (IV × Hp) :=
  loadA 3 x2 h13 fun x27 _ => isoS [] false false ih 68 [x27] h13 fun x29 h30 _ _ => storeA 3 x6 x29 h30 fun h33 _ _ => cellS true 3 x6 h33 fun x36 => outS1 [x36] h33
noncomputable def S56 (ih : Handler) (n : Nat) (x0 : IV) (h1 : Hp) : Option (IV × Hp) :=
  boxS 58720256 x0 h1 fun x2 h3 _ _ => newS 58720257 (.row [.fv (.int .i64 0), .fv (.int .i64 0), .nils] false) (.ptr (.own 58720257) 0) h3 fun x6 h7 _ _ => loadA 3 x2 h7 fun x10 _ => isoS [] false false ih 63 [x10] h7 fun x12 h13 _ _ => optS (unR .not x12) fun x16 => condS x16 (S56_37 h13 x2 ih x6) (S56_38 h13 x2 ih x6)
theorem S56_ok (ih : Handler) (n : Nat) (x0 : IV) (h1 : Hp) : funS EE ih ft.get n 56 [x0] h1 = S56 ih n x0 h1 := by kernel_rfl
noncomputable def S57_83 (h67 : Hp) (x50 : IV) (x66 : IV) (ih : Handler) (x60 : IV) : Option (IV × Hp) :=
  guardS x50 true h67 (fun k70 => load1 x66 h67 fun x71 r72 => k70 x71 h67 r72 []) fun x73 h74 _ _ => guardS x50 true h74 (fun k77 => isoS [] false false ih 69 [x60, x73, .fv (.func (.func 57) [] [])] h74 k77) fun x78 h79 _ _ => pickS x50 x78 (.fv (.bool false)) fun x82 => outS1 [x82] h79
noncomputable def S57_84 (h41 : Hp) (x17 : IV) (x27 : IV) (x40 : IV) (x3 : IV) (x7 : IV) (ih : Handler) : Option (IV × Hp) :=
  guardS x17 true h41 (fun k44 => eqS EE 3 x27 x40 fun x45 => k44 x45 h41 [] []) fun x46 h47 _ _ => pickS x17 x46 (.fv (.bool false)) fun x50 => guardS x50 true h47 (fun k51 => faddrS 2 x3 fun x52 => k51 x52 h47 [] []) fun x53 h54 _ _ => guardS x50 true h54 (fun k57 => load1 x53 h54 fun x58 r59 => k57 x58 h54 r59 []) fun x60 h61 _ _ => guardS x50 true h61 (fun k64 => faddrS 2 x7 fun x65 => k64 x65 h61 [] []) fun x66 h67 _ _ => S57_83 h67 x50 x66 ih x60
noncomputable def S57_85 (x12 : IV) (x15 : IV) (h8 : Hp) (x3 : IV) (x7 : IV) (ih : Handler) : Option (IV × Hp) :=
  eqS EE 3 x12 x15 fun x17 => guardS x17 true h8 (fun k18 => faddrS 1 x3 fun x19 => k18 x19 h8 [] []) fun x20 h21 _ _ => guardS x17 true h21 (fun k24 => load1 x20 h21 fun x25 r26 => k24 x25 h21 r26 []) fun x27 h28 _ _ => guardS x17 true h28 (fun k31 => faddrS 1 x7 fun x32 => k31 x32 h28 [] []) fun x33 h34 _ _ => guardS x17 true h34 (fun k37 => load1 x33 h34 fun x38 r39 => k37 x38 h34 r39 []) fun x40 h41 _ _ => S57_84 h41 x17 x27 x40 x3 x7 ih
noncomputable def S57 (ih : Handler) (n : Nat) (x0 : IV) (x1 : IV) (h2 : Hp) : Option (IV × Hp) :=
  boxS 59768832 x0 h2 fun x3 h4 _ _ => boxS 59768833 x1 h4 fun x7 h8 _ _ => faddrS 0 x3 fun x11 => load1 x11 h8 fun x12 _ => faddrS 0 x7 fun x14 => load1 x14 h8 fun x15 _ => S57_85 x12 x15 h8 x3 x7 ih
theorem S57_ok (ih : Handler) (n : Nat) (x0 : IV) (x1 : IV) (h2 : Hp) : funS EE ih ft.get n 57 [x0, x1] h2 = S57 ih n x0 x1 h2 := by kernel_rfl
noncomputable def S63_129 (h1 : Hp) (h119 : Hp) (x102 : IV) (x103 : IV) (x123 : IV) (q99 : List IV → Hp → Option (IV × Hp)) : Option (IV × Hp) :=
  dropS (h1.own.map (·.1)) [66066434] [x102, x103, x123] h119 fun h124 => q99 [x102, x103, x123] h124
noncomputable def S63_130 (ih : Handler) (h113 : Hp) (x116 : IV) (x104 : IV) (h1 : Hp) (x102 : IV) (x103 : IV) (q99 : List IV → Hp → Option (IV × Hp)) : Option (IV × Hp) :=
  isoS [] false false ih 63 [x116] h113 fun x118 h119 _ _ => optS (unR .not x118) fun x122 => condS x122 (outS1 [.fv (.bool false)] h119) (addS EE 3 x104 (.fv (.int .i64 1)) fun x123 => S63_129 h1 h119 x102 x103 x123 q99)
noncomputable def S63_131 (x102 : IV) (x104 : IV) (h101 : Hp) (ih : Handler) (h1 : Hp) (x103 : IV) (q99 : List IV → Hp → Option (IV × Hp)) : Option (IV × Hp) :=
  ixS 3 x102 x104 fun x106 => loadA 3 x106 h101 fun x107 _ => newS 66066434 (.row [.fv (.int .i64 0), .fv (.int .i64 0), .nils] false) (.ptr (.own 66066434) 0) h101 fun x109 h110 _ _ => storeA 3 x109 x107 h110 fun h113 _ _ => loadA 3 x109 h113 fun x116 _ => S63_130 ih h113 x116 x104 h1 x102 x103 q99
noncomputable def S63_132 (l100 : List IV) (h101 : Hp) (ih : Handler) (h1 : Hp) (q99 : List IV → Hp → Option (IV × Hp)) : Option (IV × Hp) :=
  uncS l100 fun x102 l125 => uncS l125 fun x103 l126 => uncS l126 fun x104 _ => ltS EE 3 x104 x103 fun x105 => condS x105 (S63_131 x102 x104 h101 ih h1 x103 q99) (outS1 [.fv (.bool true)] h101)
noncomputable def S63_133 (x2 : IV) (h91 : Hp) (h1 : Hp) (n : Nat) (ih : Handler) : Option (IV × Hp) :=
  faddrS 2 x2 fun x95 => load1 x95 h91 fun x96 _ => lenS x96 fun x98 => dropS (h1.own.map (·.1)) [66066434] [x96, x98, .fv (.int .i64 0)] h91 fun h128 => loopS n (fun q99 l100 h101 => S63_132 l100 h101 ih h1 q99) [x96, x98, .fv (.int .i64 0)] h128
noncomputable def S63_134 (h72 : Hp) (x65 : IV) (x71 : IV) (x44 : IV) (x2 : IV) (h1 : Hp) (n : Nat) (ih : Handler) : Option (IV × Hp) :=
  guardS x65 true h72 (fun k75 => load1 x71 h72 fun x76 r77 => k75 x76 h72 r77 []) fun x78 h79 _ _ => guardS x65 true h79 (fun k82 => ltS EE 3 x78 (.fv (.int .i64 0)) fun x83 => k82 x83 h79 [] []) fun x84 h85 _ _ => guardS x44 false h85 (fun k88 => pickS x65 x84 (.fv (.bool false)) fun x89 => k88 x89 h85 [] []) fun x90 h91 _ _ => pickS x44 (.fv (.bool true)) x90 fun x94 => condS x94 (outS1 [.fv (.bool false)] h91) (S63_133 x2 h91 h1 n ih)
noncomputable def S63_135 (h41 : Hp) (x44 : IV) (x2 : IV) (h1 : Hp) (n : Nat) (ih : Handler) : Option (IV × Hp) :=
  guardS x44 false h41 (fun k45 => faddrS 0 x2 fun x46 => k45 x46 h41 [] []) fun x47 h48 _ _ => guardS x44 false h48 (fun k51 => load1 x47 h48 fun x52 r53 => k51 x52 h48 r53 []) fun x54 h55 _ _ => guardS x44 false h55 (fun k58 => eqS EE 3 x54 (.fv (.int .i64 1)) fun x59 => k58 x59 h55 [] []) fun x60 h61 _ _ => guardS x44 false h61 (fun k64 => k64 x60 h61 [] []) fun x65 h66 _ _ => guardS x65 true h66 (fun k69 => faddrS 1 x2 fun x70 => k69 x70 h66 [] []) fun x71 h72 _ _ => S63_134 h72 x65 x71 x44 x2 h1 n ih
noncomputable def S63_136 (h16 : Hp) (x13 : IV) (x2 : IV) (x15 : IV) (h1 : Hp) (n : Nat) (ih : Handler) : Option (IV × Hp) :=
  guardS x13 true h16 (fun k19 => faddrS 2 x2 fun x20 => k19 x20 h16 [] []) fun x21 h22 _ _ => guardS x13 true h22 (fun k25 => load1 x21 h22 fun x26 r27 => k25 x26 h22 r27 []) fun x28 h29 _ _ => guardS x13 true h29 (fun k32 => lenS x28 fun x33 => k32 x33 h29 [] []) fun x34 h35 _ _ => guardS x13 true h35 (fun k38 => neS EE 3 x15 x34 fun x39 => k38 x39 h35 [] []) fun x40 h41 _ _ => pickS x13 x40 (.fv (.bool false)) fun x44 => S63_135 h41 x44 x2 h1 n ih
noncomputable def S63 (ih : Handler) (n : Nat) (x0 : IV) (h1 : Hp) : Option (IV × Hp) :=
  boxS 66060288 x0 h1 fun x2 h3 _ _ => faddrS 0 x2 fun x6 => load1 x6 h3 fun x7 _ => isoS [] false false ih 71 [x7] h3 fun x9 h10 _ _ => geS EE 3 x9 (.fv (.int .i64 0)) fun x13 => guardS x13 true h10 (fun k14 => k14 x9 h10 [] []) fun x15 h16 _ _ => S63_136 h16 x13 x2 x15 h1 n ih
theorem S63_ok (ih : Handler) (n : Nat) (x0 : IV) (h1 : Hp) : funS EE ih ft.get n 63 [x0] h1 = S63 ih n x0 h1 := by kernel_rfl
noncomputable def S64_69 (x2 : IV) (h61 : Hp) (x6 : IV) : Option (IV × Hp) :=
  nilS x2 fun x64 => faddrS 4 x64 fun x65 => store1 x65 x6 h61 fun h66 _ _ => outS1 [x2] h66
noncomputable def S64_70 (x46 : IV) (h47 : Hp) (x6 : IV) (x2 : IV) : Option (IV × Hp) :=
  bldS [.fv (.nilf)] [(0, 1, x46)] fun x50 => genS (pcInsert EE 100 x6 (.fv (.int .i64 30)) x50) 67110933 h47 fun _ h52 _ _ => genS (val (mkFunc (.func 76) [x2] [])) 67110935 h52 fun x55 h56 _ _ => bldS [.fv (.nilf)] [(0, 1, x55)] fun x59 => genS (pcInsert EE 100 x6 (.fv (.int .i64 19)) x59) 67110937 h56 fun _ h61 _ _ => S64_69 x2 h61 x6
noncomputable def S64_71 (h29 : Hp) (x6 : IV) (x32 : IV) (x2 : IV) : Option (IV × Hp) :=
  genS (pcInsert EE 100 x6 (.fv (.int .i64 9)) x32) 67110925 h29 fun _ h34 _ _ => genS (val (mkFunc (.func 74) [x2] [])) 67110927 h34 fun x37 h38 _ _ => bldS [.fv (.nilf)] [(0, 1, x37)] fun x41 => genS (pcInsert EE 100 x6 (.fv (.int .i64 13)) x41) 67110929 h38 fun _ h43 _ _ => genS (val (mkFunc (.func 75) [x2] [])) 67110931 h43 fun x46 h47 _ _ => S64_70 x46 h47 x6 x2
noncomputable def S64_72 (h16 : Hp) (x2 : IV) (x6 : IV) : Option (IV × Hp) :=
  genS (val (mkFunc (.func 73) [x2] [])) 67110919 h16 fun x19 h20 _ _ => bldS [.fv (.nilf)] [(0, 1, x19)] fun x23 => genS (pcInsert EE 100 x6 (.fv (.int .i64 8)) x23) 67110921 h20 fun _ h25 _ _ => genS (val (mkFunc (.func 73) [x2] [])) 67110923 h25 fun x28 h29 _ _ => bldS [.fv (.nilf)] [(0, 1, x28)] fun x32 => S64_71 h29 x6 x32 x2
noncomputable def S64 (ih : Handler) (n : Nat) (h0 : Hp) : Option (IV × Hp) :=
  bldS [.fv (.int .i64 0), .fv (.int .i64 0), .fv (.int .i64 0), .fv (.int .i64 0), .dead] [(0, 1, .fv (.int .i64 100000)), (1, 1, .fv (.int .i64 5000000))] fun x1 => boxS 67109889 x1 h0 fun x2 h3 _ _ => genS (pcMakeMap 67110913) 67110913 h3 fun x6 h7 _ _ => genS (val (mkFunc (.func 72) [x2] [])) 67110915 h7 fun x10 h11 _ _ => bldS [.fv (.nilf)] [(0, 1, x10)] fun x14 => genS (pcInsert EE 100 x6 (.fv (.int .i64 5)) x14) 67110917 h11 fun _ h16 _ _ => S64_72 h16 x2 x6
theorem S64_ok (ih : Handler) (n : Nat) (h0 : Hp) : funS EE ih ft.get n 64 [] h0 = S64 ih n h0 := by kernel_rfl
noncomputable def S65_117 (x4 : IV) (h9 : Hp) (ih : Handler) (x1 : IV) : Option (IV × Hp) :=
  faddrS 1 x4 fun x16 => load1 x16 h9 fun x17 _ => isoS [] false false ih 78 [x1, x17] h9 fun x19 h20 _ _ => outS1 [x19] h20
noncomputable def S65_118 (x62 : IV) (h3 : Hp) (h65 : Hp) (x56 : IV) (x57 : IV) (x58 : IV) (x59 : IV) (x60 : IV) (x61 : IV) (q53 : List IV → Hp → Option (IV × Hp)) : Option (IV × Hp) :=
  addS EE 3 x62 (.fv (.int .i64 1)) fun x66 => dropS (h3.own.map (·.1)) [68166659] [x56, x57, x58, x59, x60, x61, x66] h65 fun h67 => q53 [x56, x57, x58, x59, x60, x61, x66] h67
noncomputable def S65_119 (ih : Handler) (h82 : Hp) (x56 : IV) (x57 : IV) (x90 : IV) (r89 : List Ref) (x88 : IV) (x62 : IV) (j0_64 : Hp → Option (IV × Hp)) : Option (IV × Hp) :=
  isoS [true, false, false] false false ih 65 [x56, x57, x90] h82 fun x92 h93 r94 w95 => chkS [(r89, [])] r94 w95 (ixS 1 x88 x62 fun x96 => store1 x96 x92 h93 fun h97 r98 w99 => chkS [] r98 w99 (j0_64 h97))
noncomputable def S65_120 (x86 : IV) (h82 : Hp) (x71 : IV) (ih : Handler) (x56 : IV) (x57 : IV) (x62 : IV) (j0_64 : Hp → Option (IV × Hp)) : Option (IV × Hp) :=
  faddrS 2 x86 fun x87 => load1 x87 h82 fun x88 r89 => chkS [] r89 [] (loadA 3 x71 h82 fun x90 r91 => chkS [(r89, [])] r91 [] (S65_119 ih h82 x56 x57 x90 r89 x88 x62 j0_64))
noncomputable def S65_121 (h75 : Hp) (x78 : IV) (ih : Handler) (x62 : IV) (x59 : IV) (x71 : IV) (x56 : IV) (x57 : IV) (j0_64 : Hp → Option (IV × Hp)) : Option (IV × Hp) :=
  load1 x78 h75 fun x79 _ => isoS [] false false ih 79 [x79, x62] h75 fun x81 h82 _ _ => eqS EE 3 x81 (.fv (.int .i64 0)) fun x85 => condS x85 (nilS x59 fun x86 => S65_120 x86 h82 x71 ih x56 x57 x62 j0_64) (j0_64 h82)
noncomputable def S65_122 (x60 : IV) (x62 : IV) (h55 : Hp) (x58 : IV) (ih : Handler) (x59 : IV) (x56 : IV) (x57 : IV) (j0_64 : Hp → Option (IV × Hp)) : Option (IV × Hp) :=
  ixS 3 x60 x62 fun x68 => loadA 3 x68 h55 fun x69 _ => newS 68166659 (.row [.fv (.int .i64 0), .fv (.int .i64 0), .nils] false) (.ptr (.own 68166659) 0) h55 fun x71 h72 _ _ => storeA 3 x71 x69 h72 fun h75 _ _ => faddrS 0 x58 fun x78 => S65_121 h75 x78 ih x62 x59 x71 x56 x57 j0_64
noncomputable def S65_123 (x100 : IV) (h55 : Hp) (x59 : IV) (ih : Handler) (x56 : IV) : Option (IV × Hp) :=
  faddrS 3 x100 fun x101 => load1 x101 h55 fun x102 _ => neS EE 37 x102 (.fv (.int .i64 0)) fun x104 => condS x104 (outS1 [x59] h55) (isoS [true, false] false false ih 80 [x56, x59] h55 fun x105 h106 _ _ => outS1 [x105] h106)
noncomputable def S65_124 (l113 : List IV) (h3 : Hp) (x56 : IV) (x57 : IV) (x58 : IV) (x59 : IV) (x60 : IV) (q53 : List IV → Hp → Option (IV × Hp)) (h55 : Hp) (ih : Handler) : Option (IV × Hp) :=
  uncS l113 fun x61 l114 => uncS l114 fun x62 _ => ltS EE 3 x62 x61 fun x63 => condS x63 ((fun (j0_64 : Hp → Option (IV × Hp)) => S65_122 x60 x62 h55 x58 ih x59 x56 x57 j0_64) fun h65 => S65_118 x62 h3 h65 x56 x57 x58 x59 x60 x61 q53) (nilS x56 fun x100 => S65_123 x100 h55 x59 ih x56)
noncomputable def S65_125 (l54 : List IV) (h3 : Hp) (q53 : List IV → Hp → Option (IV × Hp)) (h55 : Hp) (ih : Handler) : Option (IV × Hp) :=
  uncS l54 fun x56 l109 => uncS l109 fun x57 l110 => uncS l110 fun x58 l111 => uncS l111 fun x59 l112 => uncS l112 fun x60 l113 => S65_124 l113 h3 x56 x57 x58 x59 x60 q53 h55 ih
noncomputable def S65_126 (x50 : IV) (h3 : Hp) (h41 : Hp) (x0 : IV) (x1 : IV) (x4 : IV) (x40 : IV) (n : Nat) (ih : Handler) : Option (IV × Hp) :=
  lenS x50 fun x52 => dropS (h3.own.map (·.1)) [68166659] [x0, x1, x4, x40, x50, x52, .fv (.int .i64 0)] h41 fun h116 => loopS n (fun q53 l54 h55 => S65_125 l54 h3 q53 h55 ih) [x0, x1, x4, x40, x50, x52, .fv (.int .i64 0)] h116
noncomputable def S65_127 (x46 : IV) (h41 : Hp) (x40 : IV) (x4 : IV) (h3 : Hp) (x0 : IV) (x1 : IV) (n : Nat) (ih : Handler) : Option (IV × Hp) :=
  neS EE 37 x46 (.fv (.int .i64 0)) fun x48 => condS x48 (outS1 [x40] h41) (faddrS 2 x4 fun x49 => load1 x49 h41 fun x50 _ => S65_126 x50 h3 h41 x0 x1 x4 x40 n ih)
noncomputable def S65_128 (h34 : Hp) (x39 : IV) (x0 : IV) (x4 : IV) (h3 : Hp) (x1 : IV) (n : Nat) (ih : Handler) : Option (IV × Hp) :=
  boxS 68161547 x39 h34 fun x40 h41 r42 w43 => chkS [] r42 w43 (nilS x0 fun x44 => faddrS 3 x44 fun x45 => load1 x45 h41 fun x46 _ => S65_127 x46 h41 x40 x4 h3 x0 x1 n ih)
noncomputable def S65_129 (h9 : Hp) (x32 : IV) (r28 : List Ref) (r25 : List Ref) (x4 : IV) (r31 : List Ref) (x24 : IV) (x27 : IV) (x1 : IV) (x0 : IV) (h3 : Hp) (n : Nat) (ih : Handler) : Option (IV × Hp) :=
  genS (pcMakeSlice EE 68161543 110 x32 x32) 68161543 h9 fun x33 h34 r35 w36 => chkS [(r28, []), (r25, [])] r35 w36 (loadA 3 x4 h34 fun x37 r38 => chkS [(r35, w36), (r31, []), (r28, []), (r25, [])] r38 [] (bldS [.fv (.int .i64 0), .fv (.int .i64 0), .nils, .fv (.int .i64 0), .fv (.int .i64 0), .nils, .fv (.nilp)] [(0, 1, x24), (1, 1, x27), (2, 1, x33), (3, 3, x37), (6, 1, x1)] fun x39 => S65_128 h34 x39 x0 x4 h3 x1 n ih))
noncomputable def S65_130 (r28 : List Ref) (r25 : List Ref) (x4 : IV) (h9 : Hp) (x24 : IV) (x27 : IV) (x1 : IV) (x0 : IV) (h3 : Hp) (n : Nat) (ih : Handler) : Option (IV × Hp) :=
  chkS [(r25, [])] r28 [] (faddrS 2 x4 fun x29 => load1 x29 h9 fun x30 r31 => chkS [(r28, []), (r25, [])] r31 [] (lenS x30 fun x32 => S65_129 h9 x32 r28 r25 x4 r31 x24 x27 x1 x0 h3 n ih))
noncomputable def S65_131 (x4 : IV) (h9 : Hp) (x1 : IV) (x0 : IV) (h3 : Hp) (n : Nat) (ih : Handler) : Option (IV × Hp) :=
  faddrS 0 x4 fun x23 => load1 x23 h9 fun x24 r25 => chkS [] r25 [] (faddrS 1 x4 fun x26 => load1 x26 h9 fun x27 r28 => S65_130 r28 r25 x4 h9 x24 x27 x1 x0 h3 n ih)
noncomputable def S65 (ih : Handler) (n : Nat) (x0 : IV) (x1 : IV) (x2 : IV) (h3 : Hp) : Option (IV × Hp) :=
  boxS 68157440 x2 h3 fun x4 h5 _ _ => isoS [true] false false ih 77 [x0] h5 fun _ h9 _ _ => faddrS 0 x4 fun x12 => load1 x12 h9 fun x13 _ => eqS EE 3 x13 (.fv (.int .i64 1)) fun x15 => condS x15 (S65_117 x4 h9 ih x1) (S65_131 x4 h9 x1 x0 h3 n ih)
theorem S65_ok (ih : Handler) (n : Nat) (x0 : IV) (x1 : IV) (x2 : IV) (h3 : Hp) : funS EE ih ft.get n 65 [x0, x1, x2] h3 = S65 ih n x0 x1 x2 h3 := by kernel_rfl
noncomputable def S66_261 (h21 : Hp) (x5 : IV) : Option (IV × Hp) :=
  cellS true 3 x5 h21 fun x24 => outS1 [x24] h21
noncomputable def S66_262 (h12 : Hp) (x5 : IV) (x36 : IV) : Option (IV × Hp) :=
  storeA 3 x5 x36 h12 fun h37 _ _ => cellS true 3 x5 h37 fun x40 => outS1 [x40] h37
noncomputable def S66_263 (x1 : IV) (h12 : Hp) (x30 : IV) (x5 : IV) : Option (IV × Hp) :=
  nilS x1 fun x31 => faddrS 1 x31 fun x32 => load1 x32 h12 fun x33 _ => subS EE 3 x30 x33 fun x35 => bldS [.fv (.int .i64 0), .fv (.int .i64 0), .nils] [(0, 1, .fv (.int .i64 1)), (1, 1, x35)] fun x36 => S66_262 h12 x5 x36
noncomputable def S66_264 (h90 : Hp) (x83 : IV) : Option (IV × Hp) :=
  bldS [.fv (.int .i64 0), .fv (.int .i64 0), .nils] [] fun x96 => storeA 3 x83 x96 h90 fun h97 _ _ => cellS true 3 x83 h97 fun x100 => outS1 [x100] h97
noncomputable def S66_265 (x89 : IV) (h4 : Hp) (h108 : Hp) (x79 : IV) (x80 : IV) (x81 : IV) (x82 : IV) (x83 : IV) (x84 : IV) (x88 : IV) (q51 : List IV → Hp → Option (IV × Hp)) : Option (IV × Hp) :=
  addS EE 3 x89 (.fv (.int .i64 1)) fun x111 => dropS (h4.own.map (·.1)) [69221377, 69225478] [x79, x80, x81, x82, x83, x84, x88, x111] h108 fun h112 => q51 [x79, x80, x81, x82, x83, x84, x88, x111] h112
noncomputable def S66_266 (x81 : IV) (x87 : IV) (x82 : IV) (ih : Handler) (h90 : Hp) (x79 : IV) (x86 : IV) (x84 : IV) (x85 : IV) (x89 : IV) (h4 : Hp) (x80 : IV) (x83 : IV) (x88 : IV) (q51 : List IV → Hp → Option (IV × Hp)) : Option (IV × Hp) :=
  addS EE 3 x81 x87 fun x101 => addS EE 3 x82 (.fv (.int .i64 1)) fun x102 => isoS [true, false, false, false] false false ih 66 [x79, x86, x101, x102] h90 fun x103 h104 _ _ => ixS 3 x84 x85 fun x107 => storeA 3 x107 x103 h104 fun h108 _ _ => S66_265 x89 h4 h108 x79 x80 x81 x82 x83 x84 x88 q51
noncomputable def S66_267 (x79 : IV) (h90 : Hp) (x83 : IV) (x81 : IV) (x87 : IV) (x82 : IV) (ih : Handler) (x86 : IV) (x84 : IV) (x85 : IV) (x89 : IV) (h4 : Hp) (x80 : IV) (x88 : IV) (q51 : List IV → Hp → Option (IV × Hp)) : Option (IV × Hp) :=
  nilS x79 fun x91 => faddrS 3 x91 fun x92 => load1 x92 h90 fun x93 _ => neS EE 37 x93 (.fv (.int .i64 0)) fun x95 => condS x95 (S66_264 h90 x83) (S66_266 x81 x87 x82 ih h90 x79 x86 x84 x85 x89 h4 x80 x83 x88 q51)
noncomputable def S66_268 (x134 : IV) (h4 : Hp) (h143 : Hp) (x122 : IV) (x123 : IV) (x124 : IV) (x125 : IV) (x126 : IV) (x127 : IV) (x128 : IV) (x129 : IV) (x130 : IV) (x131 : IV) (x132 : IV) (x133 : IV) (q119 : List IV → Hp → Option (IV × Hp)) : Option (IV × Hp) :=
  addS EE 3 x134 (.fv (.int .i64 1)) fun x146 => dropS (h4.own.map (·.1)) [69225478] [x122, x123, x124, x125, x126, x127, x128, x129, x130, x131, x132, x133, x146] h143 fun h147 => q119 [x122, x123, x124, x125, x126, x127, x128, x129, x130, x131, x132, x133, x146] h147
noncomputable def S66_269 (x124 : IV) (x134 : IV) (h121 : Hp) (x130 : IV) (h4 : Hp) (x122 : IV) (x123 : IV) (x125 : IV) (x126 : IV) (x127 : IV) (x128 : IV) (x129 : IV) (x131 : IV) (x132 : IV) (x133 : IV) (q119 : List IV → Hp → Option (IV × Hp)) : Option (IV × Hp) :=
  addS EE 3 x124 x134 fun x136 => bldS [.fv (.int .i64 0), .fv (.int .i64 0), .nils, .fv (.int .i64 0), .fv (.int .i64 0), .nils, .fv (.nilp)] [(0, 1, .fv (.int .i64 1)), (1, 1, x136)] fun x137 => fzS (pcBox true 69225478 x137) 69225478 x137 h121 fun x138 h139 _ _ => ixS 1 x130 x134 fun x142 => store1 x142 x138 h139 fun h143 _ _ => S66_268 x134 h4 h143 x122 x123 x124 x125 x126 x127 x128 x129 x130 x131 x132 x133 q119
noncomputable def S66_270 (ih : Handler) (h121 : Hp) (x122 : IV) (x123 : IV) (x128 : IV) (x130 : IV) (j11_78 : IV → IV → IV → IV → IV → IV → IV → IV → IV → IV → IV → Hp → Option (IV × Hp)) (x124 : IV) (x125 : IV) (x126 : IV) (x127 : IV) (x129 : IV) (x131 : IV) (x132 : IV) : Option (IV × Hp) :=
  isoS [true, false, false, false] false false ih 81 [x122, x123, x128, x130] h121 fun x148 h149 _ _ => j11_78 x122 x123 x124 x125 x126 x127 x128 x148 x129 x131 x132 h149
noncomputable def S66_271 (l161 : List IV) (x124 : IV) (h121 : Hp) (x130 : IV) (h4 : Hp) (x122 : IV) (x123 : IV) (x125 : IV) (x126 : IV) (x127 : IV) (x128 : IV) (x129 : IV) (x131 : IV) (q119 : List IV → Hp → Option (IV × Hp)) (ih : Handler) (j11_78 : IV → IV → IV → IV → IV → IV → IV → IV → IV → IV → IV → Hp → Option (IV × Hp)) : Option (IV × Hp) :=
  uncS l161 fun x132 l162 => uncS l162 fun x133 l163 => uncS l163 fun x134 _ => ltS EE 3 x134 x133 fun x135 => condS x135 (S66_269 x124 x134 h121 x130 h4 x122 x123 x125 x126 x127 x128 x129 x131 x132 x133 q119) (S66_270 ih h121 x122 x123 x128 x130 j11_78 x124 x125 x126 x127 x129 x131 x132)
noncomputable def S66_272 (l156 : List IV) (x124 : IV) (h121 : Hp) (h4 : Hp) (x122 : IV) (x123 : IV) (x125 : IV) (x126 : IV) (q119 : List IV → Hp → Option (IV × Hp)) (ih : Handler) (j11_78 : IV → IV → IV → IV → IV → IV → IV → IV → IV → IV → IV → Hp → Option (IV × Hp)) : Option (IV × Hp) :=
  uncS l156 fun x127 l157 => uncS l157 fun x128 l158 => uncS l158 fun x129 l159 => uncS l159 fun x130 l160 => uncS l160 fun x131 l161 => S66_271 l161 x124 h121 x130 h4 x122 x123 x125 x126 x127 x128 x129 x131 q119 ih j11_78
noncomputable def S66_273 (l120 : List IV) (h121 : Hp) (h4 : Hp) (q119 : List IV → Hp → Option (IV × Hp)) (ih : Handler) (j11_78 : IV → IV → IV → IV → IV → IV → IV → IV → IV → IV → IV → Hp → Option (IV × Hp)) : Option (IV × Hp) :=
  uncS l120 fun x122 l152 => uncS l152 fun x123 l153 => uncS l153 fun x124 l154 => uncS l154 fun x125 l155 => uncS l155 fun x126 l156 => S66_272 l156 x124 h121 h4 x122 x123 x125 x126 q119 ih j11_78
noncomputable def S66_274 (h4 : Hp) (h115 : Hp) (x54 : IV) (x55 : IV) (x56 : IV) (x57 : IV) (x58 : IV) (x59 : IV) (x61 : IV) (x74 : IV) (x114 : IV) (x60 : IV) (x118 : IV) (n : Nat) (ih : Handler) (j11_78 : IV → IV → IV → IV → IV → IV → IV → IV → IV → IV → IV → Hp → Option (IV × Hp)) : Option (IV × Hp) :=
  dropS (h4.own.map (·.1)) [69225478] [x54, x55, x56, x57, x58, x59, x61, x74, x114, x60, x61, x118, .fv (.int .i64 0)] h115 fun h165 => loopS n (fun q119 l120 h121 => S66_273 l120 h121 h4 q119 ih j11_78) [x54, x55, x56, x57, x58, x59, x61, x74, x114, x60, x61, x118, .fv (.int .i64 0)] h165
noncomputable def S66_275 (x113 : IV) (h75 : Hp) (x74 : IV) (h4 : Hp) (x54 : IV) (x55 : IV) (x56 : IV) (x57 : IV) (x58 : IV) (x59 : IV) (x61 : IV) (x60 : IV) (n : Nat) (ih : Handler) (j11_78 : IV → IV → IV → IV → IV → IV → IV → IV → IV → IV → IV → Hp → Option (IV × Hp)) (x68 : IV) : Option (IV × Hp) :=
  condS x113 (genS (pcMakeSlice EE 69221377 110 x74 x74) 69221377 h75 fun x114 h115 _ _ => lenS x114 fun x118 => S66_274 h4 h115 x54 x55 x56 x57 x58 x59 x61 x74 x114 x60 x118 n ih j11_78) (j11_78 x54 x55 x56 x57 x58 x59 x61 x68 x74 x60 x61 h75)
noncomputable def S66_276 (r73 : List Ref) (r69 : List Ref) (r66 : List Ref) (ih : Handler) (h53 : Hp) (x72 : IV) (x61 : IV) (h4 : Hp) (q51 : List IV → Hp → Option (IV × Hp)) (x54 : IV) (x55 : IV) (x56 : IV) (x57 : IV) (x58 : IV) (x59 : IV) (x60 : IV) (n : Nat) (x68 : IV) : Option (IV × Hp) :=
  chkS [(r69, []), (r66, [])] r73 [] (isoS [] false false ih 79 [x72, x61] h53 fun x74 h75 r76 w77 => chkS [(r69, []), (r66, [])] r76 w77 ((fun (j11_78 : IV → IV → IV → IV → IV → IV → IV → IV → IV → IV → IV → Hp → Option (IV × Hp)) => gtS EE 3 x74 (.fv (.int .i64 0)) fun x113 => S66_275 x113 h75 x74 h4 x54 x55 x56 x57 x58 x59 x61 x60 n ih j11_78 x68) fun x79 x80 x81 x82 x83 x84 x85 x86 x87 x88 x89 h90 => S66_267 x79 h90 x83 x81 x87 x82 ih x86 x84 x85 x89 h4 x80 x88 q51))
noncomputable def S66_277 (h53 : Hp) (x67 : IV) (x55 : IV) (r66 : List Ref) (ih : Handler) (x61 : IV) (h4 : Hp) (q51 : List IV → Hp → Option (IV × Hp)) (x54 : IV) (x56 : IV) (x57 : IV) (x58 : IV) (x59 : IV) (x60 : IV) (n : Nat) : Option (IV × Hp) :=
  load1 x67 h53 fun x68 r69 => chkS [] r69 [] (nilS x55 fun x70 => faddrS 0 x70 fun x71 => load1 x71 h53 fun x72 r73 => S66_276 r73 r69 r66 ih h53 x72 x61 h4 q51 x54 x55 x56 x57 x58 x59 x60 n x68)
noncomputable def S66_278 (x55 : IV) (h53 : Hp) (x61 : IV) (ih : Handler) (h4 : Hp) (q51 : List IV → Hp → Option (IV × Hp)) (x54 : IV) (x56 : IV) (x57 : IV) (x58 : IV) (x59 : IV) (x60 : IV) (n : Nat) : Option (IV × Hp) :=
  nilS x55 fun x63 => faddrS 2 x63 fun x64 => load1 x64 h53 fun x65 r66 => chkS [] r66 [] (ixS 1 x65 x61 fun x67 => S66_277 h53 x67 x55 r66 ih x61 h4 q51 x54 x56 x57 x58 x59 x60 n)
noncomputable def S66_279 (r176 : List Ref) (w177 : List Ref) (h175 : Hp) (x58 : IV) : Option (IV × Hp) :=
  chkS [] r176 w177 (cellS true 3 x58 h175 fun x178 => outS1 [x178] h175)
noncomputable def S66_280 (x170 : IV) (h53 : Hp) (r169 : List Ref) (x168 : IV) (x59 : IV) (x58 : IV) : Option (IV × Hp) :=
  faddrS 1 x170 fun x171 => load1 x171 h53 fun x172 r173 => chkS [(r169, [])] r173 [] (bldS [.fv (.int .i64 0), .fv (.int .i64 0), .nils] [(0, 1, x168), (1, 1, x172), (2, 1, x59)] fun x174 => storeA 3 x58 x174 h53 fun h175 r176 w177 => S66_279 r176 w177 h175 x58)
noncomputable def S66_281 (x55 : IV) (h53 : Hp) (x59 : IV) (x58 : IV) : Option (IV × Hp) :=
  nilS x55 fun x166 => faddrS 0 x166 fun x167 => load1 x167 h53 fun x168 r169 => chkS [] r169 [] (nilS x55 fun x170 => S66_280 x170 h53 r169 x168 x59 x58)
noncomputable def S66_282 (l183 : List IV) (x55 : IV) (h53 : Hp) (ih : Handler) (h4 : Hp) (q51 : List IV → Hp → Option (IV × Hp)) (x54 : IV) (x56 : IV) (x57 : IV) (x58 : IV) (n : Nat) : Option (IV × Hp) :=
  uncS l183 fun x59 l184 => uncS l184 fun x60 l185 => uncS l185 fun x61 _ => ltS EE 3 x61 x60 fun x62 => condS x62 (S66_278 x55 h53 x61 ih h4 q51 x54 x56 x57 x58 x59 x60 n) (S66_281 x55 h53 x59 x58)
noncomputable def S66_283 (l52 : List IV) (h53 : Hp) (ih : Handler) (h4 : Hp) (q51 : List IV → Hp → Option (IV × Hp)) (n : Nat) : Option (IV × Hp) :=
  uncS l52 fun x54 l179 => uncS l179 fun x55 l180 => uncS l180 fun x56 l181 => uncS l181 fun x57 l182 => uncS l182 fun x58 l183 => S66_282 l183 x55 h53 ih h4 q51 x54 x56 x57 x58 n
noncomputable def S66_284 (h4 : Hp) (h47 : Hp) (x0 : IV) (x1 : IV) (x2 : IV) (x3 : IV) (x5 : IV) (x46 : IV) (x50 : IV) (n : Nat) (ih : Handler) : Option (IV × Hp) :=
  dropS (h4.own.map (·.1)) [69221377, 69225478] [x0, x1, x2, x3, x5, x46, x50, .fv (.int .i64 0)] h47 fun h187 => loopS n (fun q51 l52 h53 => S66_283 l52 h53 ih h4 q51 n) [x0, x1, x2, x3, x5, x46, x50, .fv (.int .i64 0)] h187
noncomputable def S66_285 (x41 : IV) (h12 : Hp) (h4 : Hp) (x0 : IV) (x1 : IV) (x2 : IV) (x3 : IV) (x5 : IV) (n : Nat) (ih : Handler) : Option (IV × Hp) :=
  faddrS 2 x41 fun x42 => load1 x42 h12 fun x43 _ => lenS x43 fun x45 => genS (pcMakeSlice EE 69215237 29 x45 x45) 69215237 h12 fun x46 h47 _ _ => lenS x46 fun x50 => S66_284 h4 h47 x0 x1 x2 x3 x5 x46 x50 n ih
noncomputable def S66_286 (h12 : Hp) (x26 : IV) (x2 : IV) (x1 : IV) (x5 : IV) (h4 : Hp) (x0 : IV) (x3 : IV) (n : Nat) (ih : Handler) : Option (IV × Hp) :=
  load1 x26 h12 fun x27 _ => eqS EE 3 x27 (.fv (.int .i64 1)) fun x29 => condS x29 (subS EE 3 x2 (.fv (.int .i64 1)) fun x30 => S66_263 x1 h12 x30 x5) (nilS x1 fun x41 => S66_285 x41 h12 h4 x0 x1 x2 x3 x5 n ih)
noncomputable def S66_287 (x19 : IV) (h12 : Hp) (x5 : IV) (x1 : IV) (x2 : IV) (h4 : Hp) (x0 : IV) (x3 : IV) (n : Nat) (ih : Handler) : Option (IV × Hp) :=
  condS x19 (bldS [.fv (.int .i64 0), .fv (.int .i64 0), .nils] [] fun x20 => storeA 3 x5 x20 h12 fun h21 _ _ => S66_261 h21 x5) (nilS x1 fun x25 => faddrS 0 x25 fun x26 => S66_286 h12 x26 x2 x1 x5 h4 x0 x3 n ih)
noncomputable def S66_288 (ih : Handler) (h10 : Hp) (x0 : IV) (x5 : IV) (x1 : IV) (x2 : IV) (h4 : Hp) (x3 : IV) (n : Nat) : Option (IV × Hp) :=
  isoS [true] false false ih 77 [x0] h10 fun _ h12 _ _ => nilS x0 fun x15 => faddrS 3 x15 fun x16 => load1 x16 h12 fun x17 _ => neS EE 37 x17 (.fv (.int .i64 0)) fun x19 => S66_287 x19 h12 x5 x1 x2 h4 x0 x3 n ih
noncomputable def S66_289 (x256 : IV) (h252 : Hp) (j0_9 : Hp → Option (IV × Hp)) : Option (IV × Hp) :=
  faddrS 3 x256 fun x257 => store1 x257 (.fv (.int .i64 5)) h252 fun h258 _ _ => j0_9 h258
noncomputable def S66_290 (h246 : Hp) (x202 : IV) (x234 : IV) (x245 : IV) (x0 : IV) (j0_9 : Hp → Option (IV × Hp)) : Option (IV × Hp) :=
  guardS x202 true h246 (fun k249 => pickS x234 (.fv (.bool true)) x245 fun x250 => k249 x250 h246 [] []) fun x251 h252 _ _ => pickS x202 x251 (.fv (.bool false)) fun x255 => condS x255 (nilS x0 fun x256 => S66_289 x256 h252 j0_9) (j0_9 h252)
noncomputable def S66_291 (h217 : Hp) (x202 : IV) (x216 : IV) (x3 : IV) (x0 : IV) (j0_9 : Hp → Option (IV × Hp)) : Option (IV × Hp) :=
  guardS x202 true h217 (fun k220 => load1 x216 h217 fun x221 r222 => k220 x221 h217 r222 []) fun x223 h224 _ _ => guardS x202 true h224 (fun k227 => gtS EE 3 x223 (.fv (.int .i64 3000)) fun x228 => k227 x228 h224 [] []) fun x229 h230 _ _ => guardS x202 true h230 (fun k233 => k233 x229 h230 [] []) fun x234 h235 _ _ => guardS x234 false h235 (fun k238 => k238 x3 h235 [] []) fun x239 h240 _ _ => guardS x234 false h240 (fun k243 => gtS EE 3 x239 (.fv (.int .i64 120)) fun x244 => k243 x244 h240 [] []) fun x245 h246 _ _ => S66_290 h246 x202 x234 x245 x0 j0_9
noncomputable def S66_292 (h195 : Hp) (x199 : IV) (x0 : IV) (x3 : IV) (j0_9 : Hp → Option (IV × Hp)) : Option (IV × Hp) :=
  load1 x199 h195 fun x200 _ => eqS EE 37 x200 (.fv (.int .i64 0)) fun x202 => guardS x202 true h195 (fun k203 => k203 x0 h195 [] []) fun x204 h205 _ _ => guardS x202 true h205 (fun k208 => nilS x204 fun x209 => k208 x209 h205 [] []) fun x210 h211 _ _ => guardS x202 true h211 (fun k214 => faddrS 2 x210 fun x215 => k214 x215 h211 [] []) fun x216 h217 _ _ => S66_291 h217 x202 x216 x3 x0 j0_9
noncomputable def S66_293 (x0 : IV) (h6 : Hp) (x192 : IV) (x3 : IV) (j0_9 : Hp → Option (IV × Hp)) : Option (IV × Hp) :=
  nilS x0 fun x193 => faddrS 2 x193 fun x194 => store1 x194 x192 h6 fun h195 _ _ => nilS x0 fun x198 => faddrS 3 x198 fun x199 => S66_292 h195 x199 x0 x3 j0_9
noncomputable def S66 (ih : Handler) (n : Nat) (x0 : IV) (x1 : IV) (x2 : IV) (x3 : IV) (h4 : Hp) : Option (IV × Hp) :=
  newS 69206016 (.row [.fv (.int .i64 0), .fv (.int .i64 0), .nils] false) (.ptr (.own 69206016) 0) h4 fun x5 h6 _ _ => (fun (j0_9 : Hp → Option (IV × Hp)) => nilS x0 fun x188 => faddrS 2 x188 fun x189 => load1 x189 h6 fun x190 _ => addS EE 3 x190 (.fv (.int .i64 1)) fun x192 => S66_293 x0 h6 x192 x3 j0_9) fun h10 => S66_288 ih h10 x0 x5 x1 x2 h4 x3 n
theorem S66_ok (ih : Handler) (n : Nat) (x0 : IV) (x1 : IV) (x2 : IV) (x3 : IV) (h4 : Hp) : funS EE ih ft.get n 66 [x0, x1, x2, x3] h4 = S66 ih n x0 x1 x2 x3 h4 := by kernel_rfl
noncomputable def S67_72 (x27 : IV) (x30 : IV) (h45 : Hp) (x44 : IV) (h1 : Hp) (x25 : IV) (x26 : IV) (x28 : IV) (x29 : IV) (q22 : List IV → Hp → Option (IV × Hp)) : Option (IV × Hp) :=
  ixS 3 x27 x30 fun x48 => storeA 3 x48 x44 h45 fun h49 _ _ => addS EE 3 x30 (.fv (.int .i64 1)) fun x52 => dropS (h1.own.map (·.1)) [70258691] [x25, x26, x27, x28, x29, x52] h49 fun h53 => q22 [x25, x26, x27, x28, x29, x52] h53
noncomputable def S67_73 (h24 : Hp) (x32 : IV) (ih : Handler) (x27 : IV) (x30 : IV) (h1 : Hp) (x25 : IV) (x26 : IV) (x28 : IV) (x29 : IV) (q22 : List IV → Hp → Option (IV × Hp)) : Option (IV × Hp) :=
  loadA 3 x32 h24 fun x33 _ => newS 70258691 (.row [.fv (.int .i64 0), .fv (.int .i64 0), .nils] false) (.ptr (.own 70258691) 0) h24 fun x35 h36 _ _ => storeA 3 x35 x33 h36 fun h39 _ _ => loadA 3 x35 h39 fun x42 _ => isoS [] false false ih 67 [x42] h39 fun x44 h45 _ _ => S67_72 x27 x30 h45 x44 h1 x25 x26 x28 x29 q22
noncomputable def S67_74 (h61 : Hp) (x26 : IV) : Option (IV × Hp) :=
  cellS true 3 x26 h61 fun x64 => outS1 [x64] h61
noncomputable def S67_75 (h24 : Hp) (x54 : IV) (x25 : IV) (x27 : IV) (x26 : IV) : Option (IV × Hp) :=
  load1 x54 h24 fun x55 _ => faddrS 1 x25 fun x57 => load1 x57 h24 fun x58 _ => bldS [.fv (.int .i64 0), .fv (.int .i64 0), .nils] [(0, 1, x55), (1, 1, x58), (2, 1, x27)] fun x60 => storeA 3 x26 x60 h24 fun h61 _ _ => S67_74 h61 x26
noncomputable def S67_76 (l69 : List IV) (x29 : IV) (x28 : IV) (h24 : Hp) (ih : Handler) (x27 : IV) (h1 : Hp) (x25 : IV) (x26 : IV) (q22 : List IV → Hp → Option (IV × Hp)) : Option (IV × Hp) :=
  uncS l69 fun x30 _ => ltS EE 3 x30 x29 fun x31 => condS x31 (ixS 3 x28 x30 fun x32 => S67_73 h24 x32 ih x27 x30 h1 x25 x26 x28 x29 q22) (faddrS 0 x25 fun x54 => S67_75 h24 x54 x25 x27 x26)
noncomputable def S67_77 (l23 : List IV) (h24 : Hp) (ih : Handler) (h1 : Hp) (q22 : List IV → Hp → Option (IV × Hp)) : Option (IV × Hp) :=
  uncS l23 fun x25 l65 => uncS l65 fun x26 l66 => uncS l66 fun x27 l67 => uncS l67 fun x28 l68 => uncS l68 fun x29 l69 => S67_76 l69 x29 x28 h24 ih x27 h1 x25 x26 q22
noncomputable def S67_78 (x2 : IV) (h15 : Hp) (h1 : Hp) (x6 : IV) (x14 : IV) (n : Nat) (ih : Handler) : Option (IV × Hp) :=
  faddrS 2 x2 fun x18 => load1 x18 h15 fun x19 _ => lenS x19 fun x21 => dropS (h1.own.map (·.1)) [70258691] [x2, x6, x14, x19, x21, .fv (.int .i64 0)] h15 fun h71 => loopS n (fun q22 l23 h24 => S67_77 l23 h24 ih h1 q22) [x2, x6, x14, x19, x21, .fv (.int .i64 0)] h71
noncomputable def S67 (ih : Handler) (n : Nat) (x0 : IV) (h1 : Hp) : Option (IV × Hp) :=
  boxS 70254592 x0 h1 fun x2 h3 _ _ => newS 70254593 (.row [.fv (.int .i64 0), .fv (.int .i64 0), .nils] false) (.ptr (.own 70254593) 0) h3 fun x6 h7 _ _ => faddrS 2 x2 fun x10 => load1 x10 h7 fun x11 _ => lenS x11 fun x13 => genS (pcMakeSlice EE 70255619 29 x13 x13) 70255619 h7 fun x14 h15 _ _ => S67_78 x2 h15 h1 x6 x14 n ih
theorem S67_ok (ih : Handler) (n : Nat) (x0 : IV) (h1 : Hp) : funS EE ih ft.get n 67 [x0] h1 = S67 ih n x0 h1 := by kernel_rfl
noncomputable def S68_125 (x57 : IV) (x44 : IV) (h62 : Hp) (x61 : IV) (h1 : Hp) (x39 : IV) (x40 : IV) (x41 : IV) (x42 : IV) (x43 : IV) (q36 : List IV → Hp → Option (IV × Hp)) : Option (IV × Hp) :=
  ixS 3 x57 x44 fun x65 => storeA 3 x65 x61 h62 fun h66 r67 w68 => chkS [] r67 w68 (addS EE 3 x44 (.fv (.int .i64 1)) fun x69 => dropS (h1.own.map (·.1)) [71307267] [x39, x40, x41, x42, x43, x69] h66 fun h70 => q36 [x39, x40, x41, x42, x43, x69] h70)
noncomputable def S68_126 (r58 : List Ref) (h53 : Hp) (x49 : IV) (ih : Handler) (x57 : IV) (x44 : IV) (h1 : Hp) (x39 : IV) (x40 : IV) (x41 : IV) (x42 : IV) (x43 : IV) (q36 : List IV → Hp → Option (IV × Hp)) : Option (IV × Hp) :=
  chkS [] r58 [] (loadA 3 x49 h53 fun x59 r60 => chkS [(r58, [])] r60 [] (isoS [] false false ih 68 [x59] h53 fun x61 h62 r63 w64 => chkS [(r58, [])] r63 w64 (S68_125 x57 x44 h62 x61 h1 x39 x40 x41 x42 x43 q36)))
noncomputable def S68_127 (h38 : Hp) (x46 : IV) (x41 : IV) (ih : Handler) (x44 : IV) (h1 : Hp) (x39 : IV) (x40 : IV) (x42 : IV) (x43 : IV) (q36 : List IV → Hp → Option (IV × Hp)) : Option (IV × Hp) :=
  loadA 3 x46 h38 fun x47 _ => newS 71307267 (.row [.fv (.int .i64 0), .fv (.int .i64 0), .nils] false) (.ptr (.own 71307267) 0) h38 fun x49 h50 _ _ => storeA 3 x49 x47 h50 fun h53 _ _ => faddrS 2 x41 fun x56 => load1 x56 h53 fun x57 r58 => S68_126 r58 h53 x49 ih x57 x44 h1 x39 x40 x41 x42 x43 q36
noncomputable def S68_128 (ih : Handler) (h80 : Hp) (x83 : IV) (x40 : IV) : Option (IV × Hp) :=
  isoS [] false false ih 82 [x83] h80 fun x85 h86 _ _ => storeA 3 x40 x85 h86 fun h89 _ _ => cellS true 3 x40 h89 fun x92 => outS1 [x92] h89
noncomputable def S68_129 (h38 : Hp) (x75 : IV) (x41 : IV) (ih : Handler) (x40 : IV) : Option (IV × Hp) :=
  load1 x75 h38 fun x76 _ => bldS [.fv (.int .i64 0), .fv (.int .i64 0), .nils] [(0, 1, .fv (.int .i64 11))] fun x78 => ixS 3 x76 (.fv (.int .i64 0)) fun x79 => storeA 3 x79 x78 h38 fun h80 _ _ => loadA 3 x41 h80 fun x83 _ => S68_128 ih h80 x83 x40
noncomputable def S68_130 (h105 : Hp) (x40 : IV) (x104 : IV) : Option (IV × Hp) :=
  storeA 3 x40 x104 h105 fun h108 _ _ => cellS true 3 x40 h108 fun x111 => outS1 [x111] h108
noncomputable def S68_131 (x95 : IV) (h38 : Hp) (x41 : IV) (ih : Handler) (x40 : IV) : Option (IV × Hp) :=
  bldS [.fv (.int .i64 0), .fv (.int .i64 0), .nils] [(0, 1, .fv (.int .i64 11))] fun x97 => ixS 3 x95 (.fv (.int .i64 0)) fun x98 => storeA 3 x98 x97 h38 fun h99 _ _ => loadA 3 x41 h99 fun x102 _ => isoS [] false false ih 83 [x102] h99 fun x104 h105 _ _ => S68_130 h105 x40 x104
noncomputable def S68_132 (h114 : Hp) (x40 : IV) : Option (IV × Hp) :=
  cellS true 3 x40 h114 fun x117 => outS1 [x117] h114
noncomputable def S68_133 (x93 : IV) (x41 : IV) (h38 : Hp) (ih : Handler) (x40 : IV) : Option (IV × Hp) :=
  condS x93 (faddrS 2 x41 fun x94 => load1 x94 h38 fun x95 _ => S68_131 x95 h38 x41 ih x40) (loadA 3 x41 h38 fun x112 _ => storeA 3 x40 x112 h38 fun h114 _ _ => S68_132 h114 x40)
noncomputable def S68_134 (h38 : Hp) (x71 : IV) (x41 : IV) (ih : Handler) (x40 : IV) : Option (IV × Hp) :=
  load1 x71 h38 fun x72 _ => eqS EE 3 x72 (.fv (.int .i64 4)) fun x74 => condS x74 (faddrS 2 x41 fun x75 => S68_129 h38 x75 x41 ih x40) (eqS EE 3 x72 (.fv (.int .i64 7)) fun x93 => S68_133 x93 x41 h38 ih x40)
noncomputable def S68_135 (l122 : List IV) (x43 : IV) (x42 : IV) (h38 : Hp) (x41 : IV) (ih : Handler) (h1 : Hp) (x39 : IV) (x40 : IV) (q36 : List IV → Hp → Option (IV × Hp)) : Option (IV × Hp) :=
  uncS l122 fun x44 _ => ltS EE 3 x44 x43 fun x45 => condS x45 (ixS 3 x42 x44 fun x46 => S68_127 h38 x46 x41 ih x44 h1 x39 x40 x42 x43 q36) (faddrS 0 x39 fun x71 => S68_134 h38 x71 x41 ih x40)
noncomputable def S68_136 (l37 : List IV) (h38 : Hp) (ih : Handler) (h1 : Hp) (q36 : List IV → Hp → Option (IV × Hp)) : Option (IV × Hp) :=
  uncS l37 fun x39 l118 => uncS l118 fun x40 l119 => uncS l119 fun x41 l120 => uncS l120 fun x42 l121 => uncS l121 fun x43 l122 => S68_135 l122 x43 x42 h38 x41 ih h1 x39 x40 q36
noncomputable def S68_137 (x33 : IV) (h1 : Hp) (h29 : Hp) (x2 : IV) (x6 : IV) (x25 : IV) (n : Nat) (ih : Handler) : Option (IV × Hp) :=
  lenS x33 fun x35 => dropS (h1.own.map (·.1)) [71307267] [x2, x6, x25, x33, x35, .fv (.int .i64 0)] h29 fun h124 => loopS n (fun q36 l37 h38 => S68_136 l37 h38 ih h1 q36) [x2, x6, x25, x33, x35, .fv (.int .i64 0)] h124
noncomputable def S68_138 (r27 : List Ref) (w28 : List Ref) (r22 : List Ref) (w23 : List Ref) (r18 : List Ref) (r15 : List Ref) (r12 : List Ref) (h26 : Hp) (x25 : IV) (x24 : IV) (x2 : IV) (h1 : Hp) (x6 : IV) (n : Nat) (ih : Handler) : Option (IV × Hp) :=
  chkS [(r22, w23), (r18, []), (r15, []), (r12, [])] r27 w28 (storeA 3 x25 x24 h26 fun h29 r30 w31 => chkS [] r30 w31 (faddrS 2 x2 fun x32 => load1 x32 h29 fun x33 _ => S68_137 x33 h1 h29 x2 x6 x25 n ih))
noncomputable def S68_139 (x17 : IV) (h7 : Hp) (r15 : List Ref) (r12 : List Ref) (x11 : IV) (x14 : IV) (r18 : List Ref) (x2 : IV) (h1 : Hp) (x6 : IV) (n : Nat) (ih : Handler) : Option (IV × Hp) :=
  lenS x17 fun x19 => genS (pcMakeSlice EE 71304199 29 x19 x19) 71304199 h7 fun x20 h21 r22 w23 => chkS [(r15, []), (r12, [])] r22 w23 (bldS [.fv (.int .i64 0), .fv (.int .i64 0), .nils] [(0, 1, x11), (1, 1, x14), (2, 1, x20)] fun x24 => newS 71304201 (.row [.fv (.int .i64 0), .fv (.int .i64 0), .nils] false) (.ptr (.own 71304201) 0) h21 fun x25 h26 r27 w28 => S68_138 r27 w28 r22 w23 r18 r15 r12 h26 x25 x24 x2 h1 x6 n ih)
noncomputable def S68_140 (h7 : Hp) (x13 : IV) (r12 : List Ref) (x2 : IV) (x11 : IV) (h1 : Hp) (x6 : IV) (n : Nat) (ih : Handler) : Option (IV × Hp) :=
  load1 x13 h7 fun x14 r15 => chkS [(r12, [])] r15 [] (faddrS 2 x2 fun x16 => load1 x16 h7 fun x17 r18 => chkS [(r15, []), (r12, [])] r18 [] (S68_139 x17 h7 r15 r12 x11 x14 r18 x2 h1 x6 n ih))
noncomputable def S68 (ih : Handler) (n : Nat) (x0 : IV) (h1 : Hp) : Option (IV × Hp) :=
  boxS 71303168 x0 h1 fun x2 h3 _ _ => newS 71303169 (.row [.fv (.int .i64 0), .fv (.int .i64 0), .nils] false) (.ptr (.own 71303169) 0) h3 fun x6 h7 _ _ => faddrS 0 x2 fun x10 => load1 x10 h7 fun x11 r12 => chkS [] r12 [] (faddrS 1 x2 fun x13 => S68_140 h7 x13 r12 x2 x11 h1 x6 n ih)
theorem S68_ok (ih : Handler) (n : Nat) (x0 : IV) (h1 : Hp) : funS EE ih ft.get n 68 [x0] h1 = S68 ih n x0 h1 := by kernel_rfl
noncomputable def S69_54 (x45 : IV) (h42 : Hp) (x15 : IV) (h3 : Hp) (x11 : IV) (x12 : IV) (x13 : IV) (x14 : IV) (q8 : List IV → Hp → Option (IV × Hp)) : Option (IV × Hp) :=
  condS x45 (outS1 [.fv (.bool false)] h42) (addS EE 3 x15 (.fv (.int .i64 1)) fun x46 => dropS (h3.own.map (·.1)) [72356867, 72357892] [x11, x12, x13, x14, x46] h42 fun h47 => q8 [x11, x12, x13, x14, x46] h47)
noncomputable def S69_55 (h31 : Hp) (x30 : IV) (x28 : IV) (x20 : IV) (ih : Handler) (x12 : IV) (x15 : IV) (h3 : Hp) (x11 : IV) (x13 : IV) (x14 : IV) (q8 : List IV → Hp → Option (IV × Hp)) : Option (IV × Hp) :=
  storeA 3 x30 x28 h31 fun h34 _ _ => loadA 3 x20 h34 fun x37 _ => loadA 3 x30 h34 fun x39 _ => dynS EE ih x12 [x37, x39] h34 fun x41 h42 _ _ => optS (unR .not x41) fun x45 => S69_54 x45 h42 x15 h3 x11 x12 x13 x14 q8
noncomputable def S69_56 (h10 : Hp) (x18 : IV) (x11 : IV) (x15 : IV) (ih : Handler) (x12 : IV) (h3 : Hp) (x13 : IV) (x14 : IV) (q8 : List IV → Hp → Option (IV × Hp)) : Option (IV × Hp) :=
  newS 72356867 (.row [.fv (.int .i64 0), .fv (.int .i64 0), .nils] false) (.ptr (.own 72356867) 0) h10 fun x20 h21 _ _ => storeA 3 x20 x18 h21 fun h24 _ _ => ixS 3 x11 x15 fun x27 => loadA 3 x27 h24 fun x28 _ => newS 72357892 (.row [.fv (.int .i64 0), .fv (.int .i64 0), .nils] false) (.ptr (.own 72357892) 0) h24 fun x30 h31 _ _ => S69_55 h31 x30 x28 x20 ih x12 x15 h3 x11 x13 x14 q8
noncomputable def S69_57 (x15 : IV) (x14 : IV) (x13 : IV) (h10 : Hp) (x11 : IV) (ih : Handler) (x12 : IV) (h3 : Hp) (q8 : List IV → Hp → Option (IV × Hp)) : Option (IV × Hp) :=
  ltS EE 3 x15 x14 fun x16 => condS x16 (ixS 3 x13 x15 fun x17 => loadA 3 x17 h10 fun x18 _ => S69_56 h10 x18 x11 x15 ih x12 h3 x13 x14 q8) (outS1 [.fv (.bool true)] h10)
noncomputable def S69_58 (l9 : List IV) (h10 : Hp) (ih : Handler) (h3 : Hp) (q8 : List IV → Hp → Option (IV × Hp)) : Option (IV × Hp) :=
  uncS l9 fun x11 l48 => uncS l48 fun x12 l49 => uncS l49 fun x13 l50 => uncS l50 fun x14 l51 => uncS l51 fun x15 _ => S69_57 x15 x14 x13 h10 x11 ih x12 h3 q8
noncomputable def S69_59 (h3 : Hp) (x1 : IV) (x2 : IV) (x0 : IV) (x7 : IV) (n : Nat) (ih : Handler) : Option (IV × Hp) :=
  dropS (h3.own.map (·.1)) [72356867, 72357892] [x1, x2, x0, x7, .fv (.int .i64 0)] h3 fun h53 => loopS n (fun q8 l9 h10 => S69_58 l9 h10 ih h3 q8) [x1, x2, x0, x7, .fv (.int .i64 0)] h53
noncomputable def S69 (ih : Handler) (n : Nat) (x0 : IV) (x1 : IV) (x2 : IV) (h3 : Hp) : Option (IV × Hp) :=
  lenS x0 fun x4 => lenS x1 fun x5 => neS EE 3 x4 x5 fun x6 => condS x6 (outS1 [.fv (.bool false)] h3) (lenS x0 fun x7 => S69_59 h3 x1 x2 x0 x7 n ih)
theorem S69_ok (ih : Handler) (n : Nat) (x0 : IV) (x1 : IV) (x2 : IV) (h3 : Hp) : funS EE ih ft.get n 69 [x0, x1, x2] h3 = S69 ih n x0 x1 x2 h3 := by kernel_rfl
noncomputable def S71_17 (x0 : IV) (h7 : Hp) : Option (IV × Hp) :=
  eqS EE 3 x0 (.fv (.int .i64 13)) fun x9 => condS x9 (outS1 [.fv (.int .i64 4)] h7) (outS1 [.fv (.int .i64 (-1))] h7)
noncomputable def S71_18 (x6 : IV) (h7 : Hp) (x0 : IV) : Option (IV × Hp) :=
  condS x6 (outS1 [.fv (.int .i64 2)] h7) (eqS EE 3 x0 (.fv (.int .i64 7)) fun x8 => condS x8 (outS1 [.fv (.int .i64 3)] h7) (S71_17 x0 h7))
noncomputable def S71_19 (x10 : IV) (j1_5 : IV → Hp → Option (IV × Hp)) (h4 : Hp) (x0 : IV) : Option (IV × Hp) :=
  condS x10 (j1_5 x10 h4) (eqS EE 3 x0 (.fv (.int .i64 5)) fun x11 => j1_5 x11 h4)
noncomputable def S71_20 (x3 : IV) (h4 : Hp) (x0 : IV) : Option (IV × Hp) :=
  condS x3 (outS1 [.fv (.int .i64 1)] h4) ((fun (j1_5 : IV → Hp → Option (IV × Hp)) => eqS EE 3 x0 (.fv (.int .i64 4)) fun x10 => S71_19 x10 j1_5 h4 x0) fun x6 h7 => S71_18 x6 h7 x0)
noncomputable def S71_21 (x0 : IV) (j1_2 : IV → Hp → Option (IV × Hp)) (h1 : Hp) : Option (IV × Hp) :=
  eqS EE 3 x0 (.fv (.int .i64 30)) fun x16 => j1_2 x16 h1
noncomputable def S71_22 (x0 : IV) (j1_2 : IV → Hp → Option (IV × Hp)) (h1 : Hp) : Option (IV × Hp) :=
  eqS EE 3 x0 (.fv (.int .i64 12)) fun x14 => condS x14 (j1_2 x14 h1) (eqS EE 3 x0 (.fv (.int .i64 19)) fun x15 => condS x15 (j1_2 x15 h1) (S71_21 x0 j1_2 h1))
noncomputable def S71 (ih : Handler) (n : Nat) (x0 : IV) (h1 : Hp) : Option (IV × Hp) :=
  (fun (j1_2 : IV → Hp → Option (IV × Hp)) => eqS EE 3 x0 (.fv (.int .i64 8)) fun x12 => condS x12 (j1_2 x12 h1) (eqS EE 3 x0 (.fv (.int .i64 9)) fun x13 => condS x13 (j1_2 x13 h1) (S71_22 x0 j1_2 h1))) fun x3 h4 => S71_20 x3 h4 x0
theorem S71_ok (ih : Handler) (n : Nat) (x0 : IV) (h1 : Hp) : funS EE ih ft.get n 71 [x0] h1 = S71 ih n x0 h1 := by kernel_rfl
noncomputable def S72_30 (ih : Handler) (h23 : Hp) (x0 : IV) (x8 : IV) (x22 : IV) : Option (IV × Hp) :=
  isoS [true, false, false, false] false false ih 81 [x0, x8, .fv (.int .i64 1), x22] h23 fun x26 h27 _ _ => outS1 [x26] h27
noncomputable def S72_31 (x15 : IV) (h2 : Hp) (ih : Handler) (x0 : IV) (x8 : IV) : Option (IV × Hp) :=
  faddrS 2 x15 fun x16 => load1 x16 h2 fun x17 _ => ixS 1 x17 (.fv (.int .i64 1)) fun x19 => load1 x19 h2 fun x20 _ => genS (pcBuildSlice EE 110 1 [(0, x20)]) 75500552 h2 fun x22 h23 _ _ => S72_30 ih h23 x0 x8 x22
noncomputable def S72_32 (x10 : IV) (h2 : Hp) (x1 : IV) (ih : Handler) (x0 : IV) (x8 : IV) : Option (IV × Hp) :=
  faddrS 0 x10 fun x11 => load1 x11 h2 fun x12 _ => eqS EE 3 x12 (.fv (.int .i64 4)) fun x14 => condS x14 (nilS x1 fun x15 => S72_31 x15 h2 ih x0 x8) (outS1 [.fv .nilp] h2)
noncomputable def S72 (ih : Handler) (n : Nat) (x0 : IV) (x1 : IV) (h2 : Hp) : Option (IV × Hp) :=
  nilS x1 fun x3 => faddrS 2 x3 fun x4 => load1 x4 h2 fun x5 _ => ixS 1 x5 (.fv (.int .i64 0)) fun x7 => load1 x7 h2 fun x8 _ => nilS x8 fun x10 => S72_32 x10 h2 x1 ih x0 x8
theorem S72_ok (ih : Handler) (n : Nat) (x0 : IV) (x1 : IV) (h2 : Hp) : funS EE ih ft.get n 72 [x0, x1] h2 = S72 ih n x0 x1 h2 := by kernel_rfl
noncomputable def S73_34 (x20 : IV) (h2 : Hp) : Option (IV × Hp) :=
  faddrS 2 x20 fun x21 => load1 x21 h2 fun x22 _ => ixS 1 x22 (.fv (.int .i64 1)) fun x24 => load1 x24 h2 fun x25 _ => outS1 [x25] h2
noncomputable def S73_35 (x27 : IV) (h2 : Hp) : Option (IV × Hp) :=
  faddrS 2 x27 fun x28 => load1 x28 h2 fun x29 _ => ixS 1 x29 (.fv (.int .i64 2)) fun x31 => load1 x31 h2 fun x32 _ => outS1 [x32] h2
noncomputable def S73_36 (x15 : IV) (h2 : Hp) (x8 : IV) : Option (IV × Hp) :=
  faddrS 0 x15 fun x16 => load1 x16 h2 fun x17 _ => eqS EE 3 x17 (.fv (.int .i64 8)) fun x19 => condS x19 (nilS x8 fun x20 => S73_34 x20 h2) (nilS x8 fun x27 => S73_35 x27 h2)
noncomputable def S73_37 (x10 : IV) (h2 : Hp) (x1 : IV) (x8 : IV) : Option (IV × Hp) :=
  faddrS 0 x10 fun x11 => load1 x11 h2 fun x12 _ => neS EE 3 x12 (.fv (.int .i64 7)) fun x14 => condS x14 (outS1 [.fv .nilp] h2) (nilS x1 fun x15 => S73_36 x15 h2 x8)
noncomputable def S73 (ih : Handler) (n : Nat) (x0 : IV) (x1 : IV) (h2 : Hp) : Option (IV × Hp) :=
  nilS x1 fun x3 => faddrS 2 x3 fun x4 => load1 x4 h2 fun x5 _ => ixS 1 x5 (.fv (.int .i64 0)) fun x7 => load1 x7 h2 fun x8 _ => nilS x8 fun x10 => S73_37 x10 h2 x1 x8
theorem S73_ok (ih : Handler) (n : Nat) (x0 : IV) (x1 : IV) (h2 : Hp) : funS EE ih ft.get n 73 [x0, x1] h2 = S73 ih n x0 x1 h2 := by kernel_rfl
noncomputable def S74_74 (x15 : IV) (h2 : Hp) : Option (IV × Hp) :=
  faddrS 2 x15 fun x16 => load1 x16 h2 fun x17 _ => ixS 1 x17 (.fv (.int .i64 1)) fun x19 => load1 x19 h2 fun x20 _ => outS1 [x20] h2
noncomputable def S74_75 (h63 : Hp) (x60 : IV) (x62 : IV) (ih : Handler) (x0 : IV) (x1 : IV) : Option (IV × Hp) :=
  genS (pcBuildSlice EE 110 2 [(0, x60), (1, x62)]) 77602826 h63 fun x66 h67 r68 w69 => chkS [] r68 w69 (isoS [true, false, false, false] false false ih 81 [x0, x1, .fv (.int .i64 2), x66] h67 fun x70 h71 r72 w73 => chkS [] r72 w73 (outS1 [x70] h71))
noncomputable def S74_76 (x57 : IV) (h52 : Hp) (ih : Handler) (x0 : IV) (x26 : IV) (r58 : List Ref) (x1 : IV) : Option (IV × Hp) :=
  ixS 1 x57 (.fv (.int .i64 0)) fun x59 => load1 x59 h52 fun x60 r61 => chkS [] r61 [] (isoS [true, false] false false ih 80 [x0, x26] h52 fun x62 h63 r64 w65 => chkS [(r61, []), (r58, [])] r64 w65 (S74_75 h63 x60 x62 ih x0 x1))
noncomputable def S74_77 (r53 : List Ref) (w54 : List Ref) (x8 : IV) (h52 : Hp) (ih : Handler) (x0 : IV) (x26 : IV) (x1 : IV) : Option (IV × Hp) :=
  chkS [] r53 w54 (nilS x8 fun x55 => faddrS 2 x55 fun x56 => load1 x56 h52 fun x57 r58 => chkS [] r58 [] (S74_76 x57 h52 ih x0 x26 r58 x1))
noncomputable def S74_78 (r46 : List Ref) (r39 : List Ref) (r36 : List Ref) (h30 : Hp) (x38 : IV) (x45 : IV) (x26 : IV) (x8 : IV) (ih : Handler) (x0 : IV) (x1 : IV) : Option (IV × Hp) :=
  chkS [(r39, []), (r36, [])] r46 [] (genS (pcBuildSlice EE 110 4 [(0, .fv .nilp), (1, x38), (2, .fv .nilp), (3, x45)]) 77601804 h30 fun x47 h48 r49 w50 => chkS [] r49 w50 (faddrS 2 x26 fun x51 => store1 x51 x47 h48 fun h52 r53 w54 => S74_77 r53 w54 x8 h52 ih x0 x26 x1))
noncomputable def S74_79 (x40 : IV) (h30 : Hp) (r39 : List Ref) (r36 : List Ref) (x38 : IV) (x26 : IV) (x8 : IV) (ih : Handler) (x0 : IV) (x1 : IV) : Option (IV × Hp) :=
  faddrS 2 x40 fun x41 => load1 x41 h30 fun x42 r43 => chkS [(r39, []), (r36, [])] r43 [] (ixS 1 x42 (.fv (.int .i64 0)) fun x44 => load1 x44 h30 fun x45 r46 => S74_78 r46 r39 r36 h30 x38 x45 x26 x8 ih x0 x1)
noncomputable def S74_80 (r36 : List Ref) (x35 : IV) (h30 : Hp) (x8 : IV) (x26 : IV) (ih : Handler) (x0 : IV) (x1 : IV) : Option (IV × Hp) :=
  chkS [] r36 [] (ixS 1 x35 (.fv (.int .i64 1)) fun x37 => load1 x37 h30 fun x38 r39 => chkS [] r39 [] (nilS x8 fun x40 => S74_79 x40 h30 r39 r36 x38 x26 x8 ih x0 x1))
noncomputable def S74_81 (h2 : Hp) (x24 : IV) (x1 : IV) (x8 : IV) (ih : Handler) (x0 : IV) : Option (IV × Hp) :=
  newS 77600771 (.row [.fv (.int .i64 0), .fv (.int .i64 0), .nils, .fv (.int .i64 0), .fv (.int .i64 0), .nils, .fv (.nilp)] false) (.ptr (.own 77600771) 0) h2 fun x26 h27 _ _ => storeA 7 x26 x24 h27 fun h30 _ _ => nilS x1 fun x33 => faddrS 2 x33 fun x34 => load1 x34 h30 fun x35 r36 => S74_80 r36 x35 h30 x8 x26 ih x0 x1
noncomputable def S74_82 (x22 : IV) (x1 : IV) (h2 : Hp) (x8 : IV) (ih : Handler) (x0 : IV) : Option (IV × Hp) :=
  condS x22 (nilS x1 fun x23 => loadA 7 x23 h2 fun x24 _ => S74_81 h2 x24 x1 x8 ih x0) (outS1 [.fv .nilp] h2)
noncomputable def S74_83 (x10 : IV) (h2 : Hp) (x1 : IV) (x8 : IV) (ih : Handler) (x0 : IV) : Option (IV × Hp) :=
  faddrS 0 x10 fun x11 => load1 x11 h2 fun x12 _ => eqS EE 3 x12 (.fv (.int .i64 11)) fun x14 => condS x14 (nilS x1 fun x15 => S74_74 x15 h2) (eqS EE 3 x12 (.fv (.int .i64 12)) fun x22 => S74_82 x22 x1 h2 x8 ih x0)
noncomputable def S74 (ih : Handler) (n : Nat) (x0 : IV) (x1 : IV) (h2 : Hp) : Option (IV × Hp) :=
  nilS x1 fun x3 => faddrS 2 x3 fun x4 => load1 x4 h2 fun x5 _ => ixS 1 x5 (.fv (.int .i64 3)) fun x7 => load1 x7 h2 fun x8 _ => nilS x8 fun x10 => S74_83 x10 h2 x1 x8 ih x0
theorem S74_ok (ih : Handler) (n : Nat) (x0 : IV) (x1 : IV) (h2 : Hp) : funS EE ih ft.get n 74 [x0, x1] h2 = S74 ih n x0 x1 h2 := by kernel_rfl
noncomputable def S75 (ih : Handler) (n : Nat) (x0 : IV) (x1 : IV) (h2 : Hp) : Option (IV × Hp) :=
  isoS [] false false ih 84 [x1, .fv (.int .i64 19)] h2 fun x3 h4 _ _ => outS1 [x3] h4
theorem S75_ok (ih : Handler) (n : Nat) (x0 : IV) (x1 : IV) (h2 : Hp) : funS EE ih ft.get n 75 [x0, x1] h2 = S75 ih n x0 x1 h2 := by kernel_rfl
noncomputable def S76 (ih : Handler) (n : Nat) (x0 : IV) (x1 : IV) (h2 : Hp) : Option (IV × Hp) :=
  isoS [] false false ih 84 [x1, .fv (.int .i64 30)] h2 fun x3 h4 _ _ => outS1 [x3] h4
theorem S76_ok (ih : Handler) (n : Nat) (x0 : IV) (x1 : IV) (h2 : Hp) : funS EE ih ft.get n 76 [x0, x1] h2 = S76 ih n x0 x1 h2 := by kernel_rfl
noncomputable def S77_53 (h44 : Hp) (x49 : IV) : Option (IV × Hp) :=
  store1 x49 (.fv (.int .i64 17)) h44 fun h50 _ _ => outS1 [] h50
noncomputable def S77_54 (x16 : IV) (x43 : IV) (x0 : IV) (h44 : Hp) : Option (IV × Hp) :=
  pickS x16 x43 (.fv (.bool false)) fun x47 => condS x47 (nilS x0 fun x48 => faddrS 3 x48 fun x49 => S77_53 h44 x49) (outS1 [] h44)
noncomputable def S77_55 (h9 : Hp) (x16 : IV) (x0 : IV) : Option (IV × Hp) :=
  guardS x16 true h9 (fun k17 => k17 x0 h9 [] []) fun x18 h19 _ _ => guardS x16 true h19 (fun k22 => nilS x18 fun x23 => k22 x23 h19 [] []) fun x24 h25 _ _ => guardS x16 true h25 (fun k28 => faddrS 3 x24 fun x29 => k28 x29 h25 [] []) fun x30 h31 _ _ => guardS x16 true h31 (fun k34 => load1 x30 h31 fun x35 r36 => k34 x35 h31 r36 []) fun x37 h38 _ _ => guardS x16 true h38 (fun k41 => eqS EE 37 x37 (.fv (.int .i64 0)) fun x42 => k41 x42 h38 [] []) fun x43 h44 _ _ => S77_54 x16 x43 x0 h44
noncomputable def S77_56 (h1 : Hp) (x8 : IV) (x6 : IV) (x0 : IV) : Option (IV × Hp) :=
  store1 x8 x6 h1 fun h9 _ _ => nilS x0 fun x12 => faddrS 1 x12 fun x13 => load1 x13 h9 fun x14 _ => ltS EE 3 x14 (.fv (.int .i64 0)) fun x16 => S77_55 h9 x16 x0
noncomputable def S77 (ih : Handler) (n : Nat) (x0 : IV) (h1 : Hp) : Option (IV × Hp) :=
  nilS x0 fun x2 => faddrS 1 x2 fun x3 => load1 x3 h1 fun x4 _ => subS EE 3 x4 (.fv (.int .i64 1)) fun x6 => nilS x0 fun x7 => faddrS 1 x7 fun x8 => S77_56 h1 x8 x6 x0
theorem S77_ok (ih : Handler) (n : Nat) (x0 : IV) (h1 : Hp) : funS EE ih ft.get n 77 [x0] h1 = S77 ih n x0 h1 := by kernel_rfl
noncomputable def S78_27 (h5 : Hp) (x11 : IV) : Option (IV × Hp) :=
  load1 x11 h5 fun x12 _ => outS1 [x12] h5
noncomputable def S78_28 (x15 : IV) (h5 : Hp) (q3 : List IV → Hp → Option (IV × Hp)) (x14 : IV) : Option (IV × Hp) :=
  faddrS 1 x15 fun x16 => load1 x16 h5 fun x17 _ => q3 [x17, x14] h5
noncomputable def S78_29 (x9 : IV) (x6 : IV) (h5 : Hp) (x7 : IV) (q3 : List IV → Hp → Option (IV × Hp)) : Option (IV × Hp) :=
  condS x9 (nilS x6 fun x10 => faddrS 0 x10 fun x11 => S78_27 h5 x11) (subS EE 3 x7 (.fv (.int .i64 1)) fun x14 => nilS x6 fun x15 => S78_28 x15 h5 q3 x14)
noncomputable def S78_30 (x19 : IV) (h5 : Hp) : Option (IV × Hp) :=
  bldS [.fv (.int .i64 0), .fv (.int .i64 0), .nils, .fv (.int .i64 0), .fv (.int .i64 0), .nils, .fv (.nilp)] [(0, 1, .fv (.int .i64 1)), (1, 1, x19)] fun x20 => boxS 81795075 x20 h5 fun x21 h22 _ _ => outS1 [x21] h22
noncomputable def S78_31 (l4 : List IV) (h5 : Hp) (q3 : List IV → Hp → Option (IV × Hp)) : Option (IV × Hp) :=
  uncS l4 fun x6 l25 => uncS l25 fun x7 _ => neS EE 108 x6 (.fv .nilp) fun x8 => condS x8 (eqS EE 3 x7 (.fv (.int .i64 0)) fun x9 => S78_29 x9 x6 h5 x7 q3) (subS EE 3 (.fv (.int .i64 (-1))) x7 fun x19 => S78_30 x19 h5)
noncomputable def S78 (ih : Handler) (n : Nat) (x0 : IV) (x1 : IV) (h2 : Hp) : Option (IV × Hp) :=
  loopS n (fun q3 l4 h5 => S78_31 l4 h5 q3) [x0, x1] h2
theorem S78_ok (ih : Handler) (n : Nat) (x0 : IV) (x1 : IV) (h2 : Hp) : funS EE ih ft.get n 78 [x0, x1] h2 = S78 ih n x0 x1 h2 := by kernel_rfl
noncomputable def S79 (ih : Handler) (n : Nat) (x0 : IV) (x1 : IV) (h2 : Hp) : Option (IV × Hp) :=
  dynS EE ih (.fv (.func (.func 85) [] [])) [x0, x1] h2 fun x3 h4 _ _ => outS1 [x3] h4
theorem S79_ok (ih : Handler) (n : Nat) (x0 : IV) (x1 : IV) (h2 : Hp) : funS EE ih ft.get n 79 [x0, x1] h2 = S79 ih n x0 x1 h2 := by kernel_rfl
noncomputable def S80_126 (h113 : Hp) (x122 : IV) (j0_104 : Hp → Option (IV × Hp)) : Option (IV × Hp) :=
  store1 x122 (.fv (.int .i64 17)) h113 fun h123 _ _ => j0_104 h123
noncomputable def S80_127 (x120 : IV) (x0 : IV) (h113 : Hp) (j0_104 : Hp → Option (IV × Hp)) : Option (IV × Hp) :=
  condS x120 (nilS x0 fun x121 => faddrS 3 x121 fun x122 => S80_126 h113 x122 j0_104) (j0_104 h113)
noncomputable def S80_128 (h100 : Hp) (x112 : IV) (x110 : IV) (x0 : IV) (j0_104 : Hp → Option (IV × Hp)) : Option (IV × Hp) :=
  store1 x112 x110 h100 fun h113 _ _ => nilS x0 fun x116 => faddrS 0 x116 fun x117 => load1 x117 h113 fun x118 _ => ltS EE 3 x118 (.fv (.int .i64 0)) fun x120 => S80_127 x120 x0 h113 j0_104
noncomputable def S80_129 (x106 : IV) (h100 : Hp) (x0 : IV) (j0_104 : Hp → Option (IV × Hp)) : Option (IV × Hp) :=
  faddrS 0 x106 fun x107 => load1 x107 h100 fun x108 _ => subS EE 3 x108 (.fv (.int .i64 1)) fun x110 => nilS x0 fun x111 => faddrS 0 x111 fun x112 => S80_128 h100 x112 x110 x0 j0_104
noncomputable def S80_130 (x103 : IV) (h100 : Hp) (x1 : IV) (x68 : IV) (x0 : IV) : Option (IV × Hp) :=
  condS x103 (outS1 [x1] h100) ((fun (j0_104 : Hp → Option (IV × Hp)) => nilS x0 fun x106 => S80_129 x106 h100 x0 j0_104) fun h105 => outS1 [x68] h105)
noncomputable def S80_131 (h75 : Hp) (x72 : IV) (x74 : IV) (x1 : IV) (x68 : IV) (x0 : IV) : Option (IV × Hp) :=
  guardS x72 false h75 (fun k78 => nilS x74 fun x79 => k78 x79 h75 [] []) fun x80 h81 _ _ => guardS x72 false h81 (fun k84 => faddrS 3 x80 fun x85 => k84 x85 h81 [] []) fun x86 h87 _ _ => guardS x72 false h87 (fun k90 => load1 x86 h87 fun x91 r92 => k90 x91 h87 r92 []) fun x93 h94 _ _ => guardS x72 false h94 (fun k97 => neS EE 37 x93 (.fv (.int .i64 0)) fun x98 => k97 x98 h94 [] []) fun x99 h100 _ _ => pickS x72 (.fv (.bool true)) x99 fun x103 => S80_130 x103 h100 x1 x68 x0
noncomputable def S80_132 (x17 : IV) (h57 : Hp) (ih : Handler) (x1 : IV) (x0 : IV) : Option (IV × Hp) :=
  faddrS 0 x17 fun x65 => load1 x65 h57 fun x66 _ => dynS EE ih x66 [x1] h57 fun x68 h69 _ _ => eqS EE 98 x68 (.fv .nilp) fun x72 => guardS x72 false h69 (fun k73 => k73 x0 h69 [] []) fun x74 h75 _ _ => S80_131 h75 x72 x74 x1 x68 x0
noncomputable def S80_133 (x0 : IV) (h57 : Hp) (x1 : IV) (x17 : IV) (ih : Handler) : Option (IV × Hp) :=
  nilS x0 fun x60 => faddrS 3 x60 fun x61 => load1 x61 h57 fun x62 _ => neS EE 37 x62 (.fv (.int .i64 0)) fun x64 => condS x64 (outS1 [x1] h57) (S80_132 x17 h57 ih x1 x0)
noncomputable def S80_134 (h46 : Hp) (x24 : IV) (x45 : IV) (x1 : IV) (ih : Handler) (x0 : IV) (x17 : IV) : Option (IV × Hp) :=
  guardS x24 false h46 (fun k49 => neS EE 37 x45 (.fv (.int .i64 0)) fun x50 => k49 x50 h46 [] []) fun x51 h52 _ _ => pickS x24 (.fv (.bool true)) x51 fun x55 => condS x55 (outS1 [x1] h52) (isoS [true] false false ih 77 [x0] h52 fun _ h57 _ _ => S80_133 x0 h57 x1 x17 ih)
noncomputable def S80_135 (x16 : IV) (h21 : Hp) (x0 : IV) (x1 : IV) (ih : Handler) (x17 : IV) : Option (IV × Hp) :=
  optS (unR .not x16) fun x24 => guardS x24 false h21 (fun k25 => k25 x0 h21 [] []) fun x26 h27 _ _ => guardS x24 false h27 (fun k30 => nilS x26 fun x31 => k30 x31 h27 [] []) fun x32 h33 _ _ => guardS x24 false h33 (fun k36 => faddrS 3 x32 fun x37 => k36 x37 h33 [] []) fun x38 h39 _ _ => guardS x24 false h39 (fun k42 => load1 x38 h39 fun x43 r44 => k42 x43 h39 r44 []) fun x45 h46 _ _ => S80_134 h46 x24 x45 x1 ih x0 x17
noncomputable def S80_136 (x11 : IV) (h12 : Hp) (r13 : List Ref) (w14 : List Ref) (r10 : List Ref) (r6 : List Ref) (x15 : IV) (x0 : IV) (x1 : IV) (ih : Handler) : Option (IV × Hp) :=
  extS 1 x11 fun x16 => newS 83887116 (.row [.fv (.nilf)] false) (.ptr (.own 83887116) 0) h12 fun x17 h18 r19 w20 => chkS [(r13, w14), (r10, []), (r6, [])] r19 w20 (store1 x17 x15 h18 fun h21 r22 w23 => chkS [] r22 w23 (S80_135 x16 h21 x0 x1 ih x17))
noncomputable def S80_137 (h2 : Hp) (x8 : IV) (r6 : List Ref) (x5 : IV) (x0 : IV) (x1 : IV) (ih : Handler) : Option (IV × Hp) :=
  load1 x8 h2 fun x9 r10 => chkS [(r6, [])] r10 [] (genS (pcLookup EE 100 x5 x9 true) 83887112 h2 fun x11 h12 r13 w14 => chkS [] r13 w14 (extS 0 x11 fun x15 => S80_136 x11 h12 r13 w14 r10 r6 x15 x0 x1 ih))
noncomputable def S80 (ih : Handler) (n : Nat) (x0 : IV) (x1 : IV) (h2 : Hp) : Option (IV × Hp) :=
  nilS x0 fun x3 => faddrS 4 x3 fun x4 => load1 x4 h2 fun x5 r6 => chkS [] r6 [] (nilS x1 fun x7 => faddrS 0 x7 fun x8 => S80_137 h2 x8 r6 x5 x0 x1 ih)
theorem S80_ok (ih : Handler) (n : Nat) (x0 : IV) (x1 : IV) (h2 : Hp) : funS EE ih ft.get n 80 [x0, x1] h2 = S80 ih n x0 x1 h2 := by kernel_rfl
noncomputable def S81_25 (x16 : IV) (x2 : IV) (h10 : Hp) (r11 : List Ref) (w12 : List Ref) (r8 : List Ref) (ih : Handler) (x0 : IV) (x9 : IV) : Option (IV × Hp) :=
  ixS 3 x16 x2 fun x18 => loadA 3 x18 h10 fun x19 r20 => chkS [(r11, w12), (r8, [])] r20 [] (isoS [true, false, false] false false ih 65 [x0, x9, x19] h10 fun x21 h22 r23 w24 => chkS [] r23 w24 (outS1 [x21] h22))
noncomputable def S81_26 (x1 : IV) (h10 : Hp) (r11 : List Ref) (w12 : List Ref) (r8 : List Ref) (x2 : IV) (ih : Handler) (x0 : IV) (x9 : IV) : Option (IV × Hp) :=
  nilS x1 fun x13 => faddrS 3 x13 fun x14 => faddrS 2 x14 fun x15 => load1 x15 h10 fun x16 r17 => chkS [(r11, w12), (r8, [])] r17 [] (S81_25 x16 x2 h10 r11 w12 r8 ih x0 x9)
noncomputable def S81 (ih : Handler) (n : Nat) (x0 : IV) (x1 : IV) (x2 : IV) (x3 : IV) (h4 : Hp) : Option (IV × Hp) :=
  nilS x1 fun x5 => faddrS 6 x5 fun x6 => load1 x6 h4 fun x7 r8 => chkS [] r8 [] (isoS [] false false ih 86 [x7, x3] h4 fun x9 h10 r11 w12 => chkS [] r11 w12 (S81_26 x1 h10 r11 w12 r8 x2 ih x0 x9))
theorem S81_ok (ih : Handler) (n : Nat) (x0 : IV) (x1 : IV) (x2 : IV) (x3 : IV) (h4 : Hp) : funS EE ih ft.get n 81 [x0, x1, x2, x3] h4 = S81 ih n x0 x1 x2 x3 h4 := by kernel_rfl
noncomputable def S82_158 (h139 : Hp) (x6 : IV) : Option (IV × Hp) :=
  cellS true 3 x6 h139 fun x142 => outS1 [x142] h139
noncomputable def S82_159 (h154 : Hp) (x6 : IV) : Option (IV × Hp) :=
  cellS true 3 x6 h154 fun x157 => outS1 [x157] h154
noncomputable def S82_160 (x144 : IV) (h133 : Hp) (ih : Handler) (x6 : IV) : Option (IV × Hp) :=
  ixS 3 x144 (.fv (.int .i64 0)) fun x146 => loadA 3 x146 h133 fun x147 _ => bldS [.fv (.int .i64 0), .fv (.int .i64 0), .nils] [(0, 1, .fv (.int .i64 11))] fun x149 => isoS [] false false ih 88 [x147, .fv (.int .i64 0), x149] h133 fun x150 h151 _ _ => storeA 3 x6 x150 h151 fun h154 _ _ => S82_159 h154 x6
noncomputable def S82_161 (x136 : IV) (h133 : Hp) (x2 : IV) (x6 : IV) (x16 : IV) (ih : Handler) : Option (IV × Hp) :=
  condS x136 (loadA 3 x2 h133 fun x137 _ => storeA 3 x6 x137 h133 fun h139 _ _ => S82_158 h139 x6) (faddrS 2 x16 fun x143 => load1 x143 h133 fun x144 _ => S82_160 x144 h133 ih x6)
noncomputable def S82_162 (h108 : Hp) (x104 : IV) (x107 : IV) (ih : Handler) (x2 : IV) (x6 : IV) (x16 : IV) : Option (IV × Hp) :=
  guardS x104 false h108 (fun k111 => load1 x107 h108 fun x112 r113 => k111 x112 h108 r113 []) fun x114 h115 _ _ => guardS x104 false h115 (fun k118 => ixS 3 x114 (.fv (.int .i64 0)) fun x119 => k118 x119 h115 [] []) fun x120 h121 _ _ => guardS x104 false h121 (fun k124 => loadA 3 x120 h121 fun x125 r126 => k124 x125 h121 r126 []) fun x127 h128 _ _ => guardS x104 false h128 (fun k131 => isoS [] false false ih 87 [x127, .fv (.int .i64 0)] h128 k131) fun x132 h133 _ _ => pickS x104 (.fv (.bool true)) x132 fun x136 => S82_161 x136 h133 x2 x6 x16 ih
noncomputable def S82_163 (h82 : Hp) (x65 : IV) (x81 : IV) (x16 : IV) (ih : Handler) (x2 : IV) (x6 : IV) : Option (IV × Hp) :=
  guardS x65 false h82 (fun k85 => faddrS 1 x81 fun x86 => k85 x86 h82 [] []) fun x87 h88 _ _ => guardS x65 false h88 (fun k91 => load1 x87 h88 fun x92 r93 => k91 x92 h88 r93 []) fun x94 h95 _ _ => guardS x65 false h95 (fun k98 => neS EE 3 x94 (.fv (.int .i64 0)) fun x99 => k98 x99 h95 [] []) fun x100 h101 _ _ => pickS x65 (.fv (.bool true)) x100 fun x104 => guardS x104 false h101 (fun k105 => faddrS 2 x16 fun x106 => k105 x106 h101 [] []) fun x107 h108 _ _ => S82_162 h108 x104 x107 ih x2 x6 x16
noncomputable def S82_164 (h56 : Hp) (x26 : IV) (x55 : IV) (x16 : IV) (ih : Handler) (x2 : IV) (x6 : IV) : Option (IV × Hp) :=
  guardS x26 false h56 (fun k59 => neS EE 3 x55 (.fv (.int .i64 1)) fun x60 => k59 x60 h56 [] []) fun x61 h62 _ _ => pickS x26 (.fv (.bool true)) x61 fun x65 => guardS x65 false h62 (fun k66 => faddrS 2 x16 fun x67 => k66 x67 h62 [] []) fun x68 h69 _ _ => guardS x65 false h69 (fun k72 => load1 x68 h69 fun x73 r74 => k72 x73 h69 r74 []) fun x75 h76 _ _ => guardS x65 false h76 (fun k79 => ixS 3 x75 (.fv (.int .i64 1)) fun x80 => k79 x80 h76 [] []) fun x81 h82 _ _ => S82_163 h82 x65 x81 x16 ih x2 x6
noncomputable def S82_165 (h20 : Hp) (x26 : IV) (x16 : IV) (ih : Handler) (x2 : IV) (x6 : IV) : Option (IV × Hp) :=
  guardS x26 false h20 (fun k27 => faddrS 2 x16 fun x28 => k27 x28 h20 [] []) fun x29 h30 _ _ => guardS x26 false h30 (fun k33 => load1 x29 h30 fun x34 r35 => k33 x34 h30 r35 []) fun x36 h37 _ _ => guardS x26 false h37 (fun k40 => ixS 3 x36 (.fv (.int .i64 1)) fun x41 => k40 x41 h37 [] []) fun x42 h43 _ _ => guardS x26 false h43 (fun k46 => faddrS 0 x42 fun x47 => k46 x47 h43 [] []) fun x48 h49 _ _ => guardS x26 false h49 (fun k52 => load1 x48 h49 fun x53 r54 => k52 x53 h49 r54 []) fun x55 h56 _ _ => S82_164 h56 x26 x55 x16 ih x2 x6
noncomputable def S82_166 (h7 : Hp) (x14 : IV) (ih : Handler) (x2 : IV) (x6 : IV) : Option (IV × Hp) :=
  newS 85984260 (.row [.fv (.int .i64 0), .fv (.int .i64 0), .nils] false) (.ptr (.own 85984260) 0) h7 fun x16 h17 _ _ => storeA 3 x16 x14 h17 fun h20 _ _ => faddrS 0 x16 fun x23 => load1 x23 h20 fun x24 _ => neS EE 3 x24 (.fv (.int .i64 5)) fun x26 => S82_165 h20 x26 x16 ih x2 x6
noncomputable def S82 (ih : Handler) (n : Nat) (x0 : IV) (h1 : Hp) : Option (IV × Hp) :=
  boxS 85983232 x0 h1 fun x2 h3 _ _ => newS 85983233 (.row [.fv (.int .i64 0), .fv (.int .i64 0), .nils] false) (.ptr (.own 85983233) 0) h3 fun x6 h7 _ _ => faddrS 2 x2 fun x10 => load1 x10 h7 fun x11 _ => ixS 3 x11 (.fv (.int .i64 1)) fun x13 => loadA 3 x13 h7 fun x14 _ => S82_166 h7 x14 ih x2 x6
theorem S82_ok (ih : Handler) (n : Nat) (x0 : IV) (h1 : Hp) : funS EE ih ft.get n 82 [x0] h1 = S82 ih n x0 h1 := by kernel_rfl
noncomputable def S83_140 (h126 : Hp) (x6 : IV) : Option (IV × Hp) :=
  cellS true 3 x6 h126 fun x129 => outS1 [x129] h126
noncomputable def S83_141 (x131 : IV) (h120 : Hp) (x6 : IV) : Option (IV × Hp) :=
  ixS 3 x131 (.fv (.int .i64 0)) fun x133 => loadA 3 x133 h120 fun x134 _ => storeA 3 x6 x134 h120 fun h136 _ _ => cellS true 3 x6 h136 fun x139 => outS1 [x139] h136
noncomputable def S83_142 (x59 : IV) (x119 : IV) (h120 : Hp) (x2 : IV) (x6 : IV) (x22 : IV) : Option (IV × Hp) :=
  pickS x59 (.fv (.bool true)) x119 fun x123 => condS x123 (loadA 3 x2 h120 fun x124 _ => storeA 3 x6 x124 h120 fun h126 _ _ => S83_140 h126 x6) (faddrS 2 x22 fun x130 => load1 x130 h120 fun x131 _ => S83_141 x131 h120 x6)
noncomputable def S83_143 (h102 : Hp) (x59 : IV) (x101 : IV) (r84 : List Ref) (w85 : List Ref) (r71 : List Ref) (w72 : List Ref) (ih : Handler) (x82 : IV) (x2 : IV) (x6 : IV) (x22 : IV) : Option (IV × Hp) :=
  guardS x59 false h102 (fun k105 => loadA 3 x101 h102 fun x106 r107 => k105 x106 h102 r107 []) fun x108 h109 r110 w111 => chkS [(r84, w85), (r71, w72)] r110 w111 (guardS x59 false h109 (fun k112 => isoS [] false false ih 57 [x82, x108] h109 k112) fun x113 h114 r115 w116 => chkS [] r115 w116 (guardS x59 false h114 (fun k117 => optS (unR .not x113) fun x118 => k117 x118 h114 [] []) fun x119 h120 _ _ => S83_142 x59 x119 h120 x2 x6 x22))
noncomputable def S83_144 (r84 : List Ref) (w85 : List Ref) (h83 : Hp) (x59 : IV) (x26 : IV) (r71 : List Ref) (w72 : List Ref) (ih : Handler) (x82 : IV) (x2 : IV) (x6 : IV) (x22 : IV) : Option (IV × Hp) :=
  chkS [] r84 w85 (guardS x59 false h83 (fun k86 => faddrS 2 x26 fun x87 => k86 x87 h83 [] []) fun x88 h89 _ _ => guardS x59 false h89 (fun k92 => load1 x88 h89 fun x93 r94 => k92 x93 h89 r94 []) fun x95 h96 r97 w98 => chkS [(r84, w85), (r71, w72)] r97 w98 (guardS x59 false h96 (fun k99 => ixS 3 x95 (.fv (.int .i64 0)) fun x100 => k99 x100 h96 [] []) fun x101 h102 _ _ => S83_143 h102 x59 x101 r84 w85 r71 w72 ih x82 x2 x6 x22))
noncomputable def S83_145 (h56 : Hp) (x59 : IV) (x22 : IV) (x26 : IV) (ih : Handler) (x2 : IV) (x6 : IV) : Option (IV × Hp) :=
  guardS x59 false h56 (fun k60 => faddrS 2 x22 fun x61 => k60 x61 h56 [] []) fun x62 h63 _ _ => guardS x59 false h63 (fun k66 => load1 x62 h63 fun x67 r68 => k66 x67 h63 r68 []) fun x69 h70 r71 w72 => chkS [] r71 w72 (guardS x59 false h70 (fun k73 => ixS 3 x69 (.fv (.int .i64 0)) fun x74 => k73 x74 h70 [] []) fun x75 h76 _ _ => guardS x59 false h76 (fun k79 => loadA 3 x75 h76 fun x80 r81 => k79 x80 h76 r81 []) fun x82 h83 r84 w85 => S83_144 r84 w85 h83 x59 x26 r71 w72 ih x82 x2 x6 x22)
noncomputable def S83_146 (h33 : Hp) (x39 : IV) (x26 : IV) (x22 : IV) (ih : Handler) (x2 : IV) (x6 : IV) : Option (IV × Hp) :=
  guardS x39 false h33 (fun k40 => faddrS 0 x26 fun x41 => k40 x41 h33 [] []) fun x42 h43 _ _ => guardS x39 false h43 (fun k46 => load1 x42 h43 fun x47 r48 => k46 x47 h43 r48 []) fun x49 h50 r51 w52 => chkS [] r51 w52 (guardS x39 false h50 (fun k53 => neS EE 3 x49 (.fv (.int .i64 9)) fun x54 => k53 x54 h50 [] []) fun x55 h56 _ _ => pickS x39 (.fv (.bool true)) x55 fun x59 => S83_145 h56 x59 x22 x26 ih x2 x6)
noncomputable def S83_147 (r34 : List Ref) (w35 : List Ref) (x22 : IV) (h33 : Hp) (x26 : IV) (ih : Handler) (x2 : IV) (x6 : IV) : Option (IV × Hp) :=
  chkS [] r34 w35 (faddrS 0 x22 fun x36 => load1 x36 h33 fun x37 r38 => chkS [] r38 [] (neS EE 3 x37 (.fv (.int .i64 8)) fun x39 => S83_146 h33 x39 x26 x22 ih x2 x6))
noncomputable def S83_148 (h23 : Hp) (r24 : List Ref) (w25 : List Ref) (r21 : List Ref) (r18 : List Ref) (r15 : List Ref) (r12 : List Ref) (x22 : IV) (x14 : IV) (x20 : IV) (ih : Handler) (x2 : IV) (x6 : IV) : Option (IV × Hp) :=
  newS 87032841 (.row [.fv (.int .i64 0), .fv (.int .i64 0), .nils] false) (.ptr (.own 87032841) 0) h23 fun x26 h27 r28 w29 => chkS [(r24, w25), (r21, []), (r18, []), (r15, []), (r12, [])] r28 w29 (storeA 3 x22 x14 h27 fun h30 r31 w32 => chkS [(r21, []), (r18, [])] r31 w32 (storeA 3 x26 x20 h30 fun h33 r34 w35 => S83_147 r34 w35 x22 h33 x26 ih x2 x6))
noncomputable def S83_149 (x17 : IV) (h7 : Hp) (r15 : List Ref) (r12 : List Ref) (r18 : List Ref) (x14 : IV) (ih : Handler) (x2 : IV) (x6 : IV) : Option (IV × Hp) :=
  ixS 3 x17 (.fv (.int .i64 2)) fun x19 => loadA 3 x19 h7 fun x20 r21 => chkS [(r15, []), (r12, [])] r21 [] (newS 87032840 (.row [.fv (.int .i64 0), .fv (.int .i64 0), .nils] false) (.ptr (.own 87032840) 0) h7 fun x22 h23 r24 w25 => chkS [(r21, []), (r18, []), (r15, []), (r12, [])] r24 w25 (S83_148 h23 r24 w25 r21 r18 r15 r12 x22 x14 x20 ih x2 x6))
noncomputable def S83_150 (h7 : Hp) (x13 : IV) (x2 : IV) (r12 : List Ref) (ih : Handler) (x6 : IV) : Option (IV × Hp) :=
  loadA 3 x13 h7 fun x14 r15 => chkS [] r15 [] (faddrS 2 x2 fun x16 => load1 x16 h7 fun x17 r18 => chkS [(r15, []), (r12, [])] r18 [] (S83_149 x17 h7 r15 r12 r18 x14 ih x2 x6))
noncomputable def S83 (ih : Handler) (n : Nat) (x0 : IV) (h1 : Hp) : Option (IV × Hp) :=
  boxS 87031808 x0 h1 fun x2 h3 _ _ => newS 87031809 (.row [.fv (.int .i64 0), .fv (.int .i64 0), .nils] false) (.ptr (.own 87031809) 0) h3 fun x6 h7 _ _ => faddrS 2 x2 fun x10 => load1 x10 h7 fun x11 r12 => chkS [] r12 [] (ixS 3 x11 (.fv (.int .i64 1)) fun x13 => S83_150 h7 x13 x2 r12 ih x6)
theorem S83_ok (ih : Handler) (n : Nat) (x0 : IV) (h1 : Hp) : funS EE ih ft.get n 83 [x0] h1 = S83 ih n x0 h1 := by kernel_rfl
noncomputable def S84_29 (x22 : IV) (h2 : Hp) : Option (IV × Hp) :=
  faddrS 2 x22 fun x23 => load1 x23 h2 fun x24 _ => ixS 1 x24 (.fv (.int .i64 0)) fun x26 => load1 x26 h2 fun x27 _ => outS1 [x27] h2
noncomputable def S84_30 (x15 : IV) (h2 : Hp) : Option (IV × Hp) :=
  faddrS 2 x15 fun x16 => load1 x16 h2 fun x17 _ => ixS 1 x17 (.fv (.int .i64 0)) fun x19 => load1 x19 h2 fun x20 _ => nilS x20 fun x22 => S84_29 x22 h2
noncomputable def S84_31 (x10 : IV) (h2 : Hp) (x1 : IV) (x0 : IV) : Option (IV × Hp) :=
  faddrS 0 x10 fun x11 => load1 x11 h2 fun x12 _ => neS EE 3 x12 x1 fun x14 => condS x14 (outS1 [.fv .nilp] h2) (nilS x0 fun x15 => S84_30 x15 h2)
noncomputable def S84 (ih : Handler) (n : Nat) (x0 : IV) (x1 : IV) (h2 : Hp) : Option (IV × Hp) :=
  nilS x0 fun x3 => faddrS 2 x3 fun x4 => load1 x4 h2 fun x5 _ => ixS 1 x5 (.fv (.int .i64 0)) fun x7 => load1 x7 h2 fun x8 _ => nilS x8 fun x10 => S84_31 x10 h2 x1 x0
theorem S84_ok (ih : Handler) (n : Nat) (x0 : IV) (x1 : IV) (h2 : Hp) : funS EE ih ft.get n 84 [x0, x1] h2 = S84 ih n x0 x1 h2 := by kernel_rfl
noncomputable def S85_18 (x1 : IV) (h7 : Hp) (j0_3 : Hp → Option (IV × Hp)) : Option (IV × Hp) :=
  eqS EE 3 x1 (.fv (.int .i64 0)) fun x10 => condS x10 (outS1 [.fv (.int .i64 1)] h7) (eqS EE 3 x1 (.fv (.int .i64 2)) fun x11 => condS x11 (outS1 [.fv (.int .i64 2)] h7) (j0_3 h7))
noncomputable def S85_19 (x6 : IV) (x1 : IV) (h7 : Hp) (j0_3 : Hp → Option (IV × Hp)) (x0 : IV) : Option (IV × Hp) :=
  condS x6 (eqS EE 3 x1 (.fv (.int .i64 1)) fun x8 => condS x8 (outS1 [.fv (.int .i64 1)] h7) (j0_3 h7)) (eqS EE 3 x0 (.fv (.int .i64 13)) fun x9 => condS x9 (S85_18 x1 h7 j0_3) (j0_3 h7))
noncomputable def S85_20 (x0 : IV) (j1_5 : IV → Hp → Option (IV × Hp)) (h2 : Hp) : Option (IV × Hp) :=
  eqS EE 3 x0 (.fv (.int .i64 29)) fun x17 => j1_5 x17 h2
noncomputable def S85_21 (x0 : IV) (j1_5 : IV → Hp → Option (IV × Hp)) (h2 : Hp) : Option (IV × Hp) :=
  eqS EE 3 x0 (.fv (.int .i64 20)) fun x15 => condS x15 (j1_5 x15 h2) (eqS EE 3 x0 (.fv (.int .i64 28)) fun x16 => condS x16 (j1_5 x16 h2) (S85_20 x0 j1_5 h2))
noncomputable def S85_22 (x13 : IV) (j1_5 : IV → Hp → Option (IV × Hp)) (h2 : Hp) (x0 : IV) : Option (IV × Hp) :=
  condS x13 (j1_5 x13 h2) (eqS EE 3 x0 (.fv (.int .i64 6)) fun x14 => condS x14 (j1_5 x14 h2) (S85_21 x0 j1_5 h2))
noncomputable def S85 (ih : Handler) (n : Nat) (x0 : IV) (x1 : IV) (h2 : Hp) : Option (IV × Hp) :=
  (fun (j0_3 : Hp → Option (IV × Hp)) => (fun (j1_5 : IV → Hp → Option (IV × Hp)) => eqS EE 3 x0 (.fv (.int .i64 3)) fun x12 => condS x12 (j1_5 x12 h2) (eqS EE 3 x0 (.fv (.int .i64 4)) fun x13 => S85_22 x13 j1_5 h2 x0)) fun x6 h7 => S85_19 x6 x1 h7 j0_3 x0) fun h4 => outS1 [.fv (.int .i64 0)] h4
theorem S85_ok (ih : Handler) (n : Nat) (x0 : IV) (x1 : IV) (h2 : Hp) : funS EE ih ft.get n 85 [x0, x1] h2 = S85 ih n x0 x1 h2 := by kernel_rfl
noncomputable def S86_27 (x13 : IV) (x7 : IV) (h6 : Hp) (x10 : IV) (h2 : Hp) (x8 : IV) (x9 : IV) (q4 : List IV → Hp → Option (IV × Hp)) : Option (IV × Hp) :=
  bldS [.fv (.nilp), .fv (.nilp)] [(0, 1, x13), (1, 1, x7)] fun x15 => fzS (pcBox true 90181635 x15) 90181635 x15 h6 fun x16 h17 _ _ => addS EE 3 x10 (.fv (.int .i64 1)) fun x20 => dropS (h2.own.map (·.1)) [90181635] [x16, x8, x9, x20] h17 fun h21 => q4 [x16, x8, x9, x20] h21
noncomputable def S86_28 (x11 : IV) (x8 : IV) (x10 : IV) (h6 : Hp) (x7 : IV) (h2 : Hp) (x9 : IV) (q4 : List IV → Hp → Option (IV × Hp)) : Option (IV × Hp) :=
  condS x11 (ixS 1 x8 x10 fun x12 => load1 x12 h6 fun x13 _ => S86_27 x13 x7 h6 x10 h2 x8 x9 q4) (outS1 [x7] h6)
noncomputable def S86_29 (l5 : List IV) (h6 : Hp) (h2 : Hp) (q4 : List IV → Hp → Option (IV × Hp)) : Option (IV × Hp) :=
  uncS l5 fun x7 l22 => uncS l22 fun x8 l23 => uncS l23 fun x9 l24 => uncS l24 fun x10 _ => ltS EE 3 x10 x9 fun x11 => S86_28 x11 x8 x10 h6 x7 h2 x9 q4
noncomputable def S86 (ih : Handler) (n : Nat) (x0 : IV) (x1 : IV) (h2 : Hp) : Option (IV × Hp) :=
  lenS x1 fun x3 => dropS (h2.own.map (·.1)) [90181635] [x0, x1, x3, .fv (.int .i64 0)] h2 fun h26 => loopS n (fun q4 l5 h6 => S86_29 l5 h6 h2 q4) [x0, x1, x3, .fv (.int .i64 0)] h26
theorem S86_ok (ih : Handler) (n : Nat) (x0 : IV) (x1 : IV) (h2 : Hp) : funS EE ih ft.get n 86 [x0, x1] h2 = S86 ih n x0 x1 h2 := by kernel_rfl
noncomputable def S87 (ih : Handler) (n : Nat) (x0 : IV) (x1 : IV) (h2 : Hp) : Option (IV × Hp) :=
  boxS 91226112 x0 h2 fun x3 h4 _ _ => boxS 91226113 x1 h4 fun x7 h8 _ _ => loadA 3 x3 h8 fun x11 _ => genS (val (mkFunc (.func 90) [] [x7])) 91227137 h8 fun x13 h14 _ _ => isoS [] false false ih 89 [x11, .fv (.int .i64 0), x13] h14 fun x17 h18 _ _ => outS1 [x17] h18
theorem S87_ok (ih : Handler) (n : Nat) (x0 : IV) (x1 : IV) (h2 : Hp) : funS EE ih ft.get n 87 [x0, x1] h2 = S87 ih n x0 x1 h2 := by kernel_rfl
noncomputable def S88_34 (ih : Handler) (h23 : Hp) (x20 : IV) (x22 : IV) (x16 : IV) : Option (IV × Hp) :=
  isoS [] false false ih 91 [x20, .fv (.int .i64 0), x22] h23 fun x26 h27 _ _ => storeA 3 x16 x26 h27 fun h30 _ _ => cellS true 3 x16 h30 fun x33 => outS1 [x33] h30
noncomputable def S88 (ih : Handler) (n : Nat) (x0 : IV) (x1 : IV) (x2 : IV) (h3 : Hp) : Option (IV × Hp) :=
  boxS 92274688 x0 h3 fun x4 h5 _ _ => boxS 92274689 x1 h5 fun x8 h9 _ _ => boxS 92274690 x2 h9 fun x12 h13 _ _ => newS 92274691 (.row [.fv (.int .i64 0), .fv (.int .i64 0), .nils] false) (.ptr (.own 92274691) 0) h13 fun x16 h17 _ _ => loadA 3 x4 h17 fun x20 _ => genS (val (mkFunc (.func 92) [] [x8, x12])) 92275713 h17 fun x22 h23 _ _ => S88_34 ih h23 x20 x22 x16
theorem S88_ok (ih : Handler) (n : Nat) (x0 : IV) (x1 : IV) (x2 : IV) (h3 : Hp) : funS EE ih ft.get n 88 [x0, x1, x2] h3 = S88 ih n x0 x1 x2 h3 := by kernel_rfl
noncomputable def S89_66 (h5 : Hp) (x12 : IV) (ih : Handler) (x2 : IV) (x1 : IV) : Option (IV × Hp) :=
  load1 x12 h5 fun x13 _ => dynS EE ih x2 [x13, x1] h5 fun x15 h16 _ _ => outS1 [x15] h16
noncomputable def S89_67 (h3 : Hp) (h54 : Hp) (x26 : IV) (x27 : IV) (x28 : IV) (x29 : IV) (x30 : IV) (x57 : IV) (q23 : List IV → Hp → Option (IV × Hp)) : Option (IV × Hp) :=
  dropS (h3.own.map (·.1)) [93328387] [x26, x27, x28, x29, x30, x57] h54 fun h58 => q23 [x26, x27, x28, x29, x30, x57] h58
noncomputable def S89_68 (x26 : IV) (x48 : IV) (ih : Handler) (h49 : Hp) (x43 : IV) (x27 : IV) (x31 : IV) (h3 : Hp) (x28 : IV) (x29 : IV) (x30 : IV) (q23 : List IV → Hp → Option (IV × Hp)) : Option (IV × Hp) :=
  addS EE 3 x26 x48 fun x52 => isoS [] false false ih 89 [x43, x52, x27] h49 fun x53 h54 r55 w56 => chkS [] r55 w56 (condS x53 (outS1 [.fv (.bool true)] h54) (addS EE 3 x31 (.fv (.int .i64 1)) fun x57 => S89_67 h3 h54 x26 x27 x28 x29 x30 x57 q23))
noncomputable def S89_69 (x28 : IV) (h40 : Hp) (r44 : List Ref) (ih : Handler) (x31 : IV) (x26 : IV) (x43 : IV) (x27 : IV) (h3 : Hp) (x29 : IV) (x30 : IV) (q23 : List IV → Hp → Option (IV × Hp)) : Option (IV × Hp) :=
  faddrS 0 x28 fun x45 => load1 x45 h40 fun x46 r47 => chkS [(r44, [])] r47 [] (isoS [] false false ih 79 [x46, x31] h40 fun x48 h49 r50 w51 => chkS [(r44, [])] r50 w51 (S89_68 x26 x48 ih h49 x43 x27 x31 h3 x28 x29 x30 q23))
noncomputable def S89_70 (h25 : Hp) (x33 : IV) (x28 : IV) (ih : Handler) (x31 : IV) (x26 : IV) (x27 : IV) (h3 : Hp) (x29 : IV) (x30 : IV) (q23 : List IV → Hp → Option (IV × Hp)) : Option (IV × Hp) :=
  loadA 3 x33 h25 fun x34 _ => newS 93328387 (.row [.fv (.int .i64 0), .fv (.int .i64 0), .nils] false) (.ptr (.own 93328387) 0) h25 fun x36 h37 _ _ => storeA 3 x36 x34 h37 fun h40 _ _ => loadA 3 x36 h40 fun x43 r44 => chkS [] r44 [] (S89_69 x28 h40 r44 ih x31 x26 x43 x27 h3 x29 x30 q23)
noncomputable def S89_71 (l63 : List IV) (x30 : IV) (x29 : IV) (h25 : Hp) (x28 : IV) (ih : Handler) (x26 : IV) (x27 : IV) (h3 : Hp) (q23 : List IV → Hp → Option (IV × Hp)) : Option (IV × Hp) :=
  uncS l63 fun x31 _ => ltS EE 3 x31 x30 fun x32 => condS x32 (ixS 3 x29 x31 fun x33 => S89_70 h25 x33 x28 ih x31 x26 x27 h3 x29 x30 q23) (outS1 [.fv (.bool false)] h25)
noncomputable def S89_72 (l24 : List IV) (h25 : Hp) (ih : Handler) (h3 : Hp) (q23 : List IV → Hp → Option (IV × Hp)) : Option (IV × Hp) :=
  uncS l24 fun x26 l59 => uncS l59 fun x27 l60 => uncS l60 fun x28 l61 => uncS l61 fun x29 l62 => uncS l62 fun x30 l63 => S89_71 l63 x30 x29 h25 x28 ih x26 x27 h3 q23
noncomputable def S89_73 (h5 : Hp) (x19 : IV) (h3 : Hp) (x1 : IV) (x2 : IV) (x4 : IV) (n : Nat) (ih : Handler) : Option (IV × Hp) :=
  load1 x19 h5 fun x20 _ => lenS x20 fun x22 => dropS (h3.own.map (·.1)) [93328387] [x1, x2, x4, x20, x22, .fv (.int .i64 0)] h5 fun h65 => loopS n (fun q23 l24 h25 => S89_72 l24 h25 ih h3 q23) [x1, x2, x4, x20, x22, .fv (.int .i64 0)] h65
noncomputable def S89 (ih : Handler) (n : Nat) (x0 : IV) (x1 : IV) (x2 : IV) (h3 : Hp) : Option (IV × Hp) :=
  boxS 93323264 x0 h3 fun x4 h5 _ _ => faddrS 0 x4 fun x8 => load1 x8 h5 fun x9 _ => eqS EE 3 x9 (.fv (.int .i64 1)) fun x11 => condS x11 (faddrS 1 x4 fun x12 => S89_66 h5 x12 ih x2 x1) (faddrS 2 x4 fun x19 => S89_73 h5 x19 h3 x1 x2 x4 n ih)
theorem S89_ok (ih : Handler) (n : Nat) (x0 : IV) (x1 : IV) (x2 : IV) (h3 : Hp) : funS EE ih ft.get n 89 [x0, x1, x2] h3 = S89 ih n x0 x1 x2 h3 := by kernel_rfl
noncomputable def S90_25 (x7 : IV) (x20 : IV) (h21 : Hp) : Option (IV × Hp) :=
  pickS x7 x20 (.fv (.bool false)) fun x24 => outS1 [x24] h21
noncomputable def S90 (ih : Handler) (n : Nat) (x0 : IV) (x1 : IV) (x2 : IV) (h3 : Hp) : Option (IV × Hp) :=
  subS EE 3 x0 x1 fun x4 => load1 x2 h3 fun x5 _ => eqS EE 3 x4 x5 fun x7 => guardS x7 true h3 (fun k8 => k8 x0 h3 [] []) fun x9 h10 _ _ => guardS x7 true h10 (fun k13 => k13 x1 h10 [] []) fun x14 h15 _ _ => guardS x7 true h15 (fun k18 => geS EE 3 x9 x14 fun x19 => k18 x19 h15 [] []) fun x20 h21 _ _ => S90_25 x7 x20 h21
theorem S90_ok (ih : Handler) (n : Nat) (x0 : IV) (x1 : IV) (x2 : IV) (h3 : Hp) : funS EE ih ft.get n 90 [x0, x1, x2] h3 = S90 ih n x0 x1 x2 h3 := by kernel_rfl
noncomputable def S91_100 (h9 : Hp) (x4 : IV) (ih : Handler) (x2 : IV) (x1 : IV) (x8 : IV) : Option (IV × Hp) :=
  loadA 3 x4 h9 fun x16 _ => dynS EE ih x2 [x16, x1] h9 fun x18 h19 _ _ => storeA 3 x8 x18 h19 fun h22 _ _ => cellS true 3 x8 h22 fun x25 => outS1 [x25] h22
noncomputable def S91_101 (h71 : Hp) (x74 : IV) (x70 : IV) (x48 : IV) (h3 : Hp) (x41 : IV) (x42 : IV) (x43 : IV) (x44 : IV) (x45 : IV) (x46 : IV) (x47 : IV) (q38 : List IV → Hp → Option (IV × Hp)) : Option (IV × Hp) :=
  storeA 3 x74 x70 h71 fun h75 r76 w77 => chkS [] r76 w77 (addS EE 3 x48 (.fv (.int .i64 1)) fun x78 => dropS (h3.own.map (·.1)) [95426563] [x41, x42, x43, x44, x45, x46, x47, x78] h75 fun h79 => q38 [x41, x42, x43, x44, x45, x46, x47, x78] h79)
noncomputable def S91_102 (r67 : List Ref) (w68 : List Ref) (r61 : List Ref) (x41 : IV) (x65 : IV) (ih : Handler) (h66 : Hp) (x60 : IV) (x42 : IV) (x45 : IV) (x48 : IV) (h3 : Hp) (x43 : IV) (x44 : IV) (x46 : IV) (x47 : IV) (q38 : List IV → Hp → Option (IV × Hp)) : Option (IV × Hp) :=
  chkS [(r61, [])] r67 w68 (addS EE 3 x41 x65 fun x69 => isoS [] false false ih 91 [x60, x69, x42] h66 fun x70 h71 r72 w73 => chkS [] r72 w73 (ixS 3 x45 x48 fun x74 => S91_101 h71 x74 x70 x48 h3 x41 x42 x43 x44 x45 x46 x47 q38))
noncomputable def S91_103 (r61 : List Ref) (x43 : IV) (h57 : Hp) (ih : Handler) (x48 : IV) (x41 : IV) (x60 : IV) (x42 : IV) (x45 : IV) (h3 : Hp) (x44 : IV) (x46 : IV) (x47 : IV) (q38 : List IV → Hp → Option (IV × Hp)) : Option (IV × Hp) :=
  chkS [] r61 [] (faddrS 0 x43 fun x62 => load1 x62 h57 fun x63 r64 => chkS [(r61, [])] r64 [] (isoS [] false false ih 79 [x63, x48] h57 fun x65 h66 r67 w68 => S91_102 r67 w68 r61 x41 x65 ih h66 x60 x42 x45 x48 h3 x43 x44 x46 x47 q38))
noncomputable def S91_104 (x46 : IV) (x48 : IV) (h40 : Hp) (x43 : IV) (ih : Handler) (x41 : IV) (x42 : IV) (x45 : IV) (h3 : Hp) (x44 : IV) (x47 : IV) (q38 : List IV → Hp → Option (IV × Hp)) : Option (IV × Hp) :=
  ixS 3 x46 x48 fun x50 => loadA 3 x50 h40 fun x51 _ => newS 95426563 (.row [.fv (.int .i64 0), .fv (.int .i64 0), .nils] false) (.ptr (.own 95426563) 0) h40 fun x53 h54 _ _ => storeA 3 x53 x51 h54 fun h57 _ _ => loadA 3 x53 h57 fun x60 r61 => S91_103 r61 x43 h57 ih x48 x41 x60 x42 x45 h3 x44 x46 x47 q38
noncomputable def S91_105 (h40 : Hp) (x44 : IV) (x86 : IV) : Option (IV × Hp) :=
  storeA 3 x44 x86 h40 fun h87 _ _ => cellS true 3 x44 h87 fun x90 => outS1 [x90] h87
noncomputable def S91_106 (x43 : IV) (h40 : Hp) (x45 : IV) (x44 : IV) : Option (IV × Hp) :=
  faddrS 0 x43 fun x80 => load1 x80 h40 fun x81 _ => faddrS 1 x43 fun x83 => load1 x83 h40 fun x84 _ => bldS [.fv (.int .i64 0), .fv (.int .i64 0), .nils] [(0, 1, x81), (1, 1, x84), (2, 1, x45)] fun x86 => S91_105 h40 x44 x86
noncomputable def S91_107 (l95 : List IV) (h40 : Hp) (x43 : IV) (ih : Handler) (x41 : IV) (x42 : IV) (x45 : IV) (h3 : Hp) (x44 : IV) (q38 : List IV → Hp → Option (IV × Hp)) : Option (IV × Hp) :=
  uncS l95 fun x46 l96 => uncS l96 fun x47 l97 => uncS l97 fun x48 _ => ltS EE 3 x48 x47 fun x49 => condS x49 (S91_104 x46 x48 h40 x43 ih x41 x42 x45 h3 x44 x47 q38) (S91_106 x43 h40 x45 x44)
noncomputable def S91_108 (l39 : List IV) (h40 : Hp) (ih : Handler) (h3 : Hp) (q38 : List IV → Hp → Option (IV × Hp)) : Option (IV × Hp) :=
  uncS l39 fun x41 l91 => uncS l91 fun x42 l92 => uncS l92 fun x43 l93 => uncS l93 fun x44 l94 => uncS l94 fun x45 l95 => S91_107 l95 h40 x43 ih x41 x42 x45 h3 x44 q38
noncomputable def S91_109 (h31 : Hp) (x34 : IV) (h3 : Hp) (x1 : IV) (x2 : IV) (x4 : IV) (x8 : IV) (x30 : IV) (n : Nat) (ih : Handler) : Option (IV × Hp) :=
  load1 x34 h31 fun x35 _ => lenS x35 fun x37 => dropS (h3.own.map (·.1)) [95426563] [x1, x2, x4, x8, x30, x35, x37, .fv (.int .i64 0)] h31 fun h99 => loopS n (fun q38 l39 h40 => S91_108 l39 h40 ih h3 q38) [x1, x2, x4, x8, x30, x35, x37, .fv (.int .i64 0)] h99
noncomputable def S91_110 (x4 : IV) (h9 : Hp) (h3 : Hp) (x1 : IV) (x2 : IV) (x8 : IV) (n : Nat) (ih : Handler) : Option (IV × Hp) :=
  faddrS 2 x4 fun x26 => load1 x26 h9 fun x27 _ => lenS x27 fun x29 => genS (pcMakeSlice EE 95423491 29 x29 x29) 95423491 h9 fun x30 h31 _ _ => faddrS 2 x4 fun x34 => S91_109 h31 x34 h3 x1 x2 x4 x8 x30 n ih
noncomputable def S91 (ih : Handler) (n : Nat) (x0 : IV) (x1 : IV) (x2 : IV) (h3 : Hp) : Option (IV × Hp) :=
  boxS 95420416 x0 h3 fun x4 h5 _ _ => newS 95420417 (.row [.fv (.int .i64 0), .fv (.int .i64 0), .nils] false) (.ptr (.own 95420417) 0) h5 fun x8 h9 _ _ => faddrS 0 x4 fun x12 => load1 x12 h9 fun x13 _ => eqS EE 3 x13 (.fv (.int .i64 1)) fun x15 => condS x15 (S91_100 h9 x4 ih x2 x1 x8) (S91_110 x4 h9 h3 x1 x2 x8 n ih)
theorem S91_ok (ih : Handler) (n : Nat) (x0 : IV) (x1 : IV) (x2 : IV) (h3 : Hp) : funS EE ih ft.get n 91 [x0, x1, x2] h3 = S91 ih n x0 x1 x2 h3 := by kernel_rfl
noncomputable def S92_53 (h23 : Hp) (x9 : IV) (x22 : IV) : Option (IV × Hp) :=
  storeA 3 x9 x22 h23 fun h26 _ _ => cellS true 3 x9 h26 fun x29 => outS1 [x29] h26
noncomputable def S92_54 (h36 : Hp) (x9 : IV) (x35 : IV) : Option (IV × Hp) :=
  storeA 3 x9 x35 h36 fun h39 _ _ => cellS true 3 x9 h39 fun x42 => outS1 [x42] h39
noncomputable def S92_55 (h46 : Hp) (x9 : IV) (x45 : IV) : Option (IV × Hp) :=
  storeA 3 x9 x45 h46 fun h49 _ _ => cellS true 3 x9 h49 fun x52 => outS1 [x52] h49
noncomputable def S92_56 (x32 : IV) (h10 : Hp) (x3 : IV) (ih : Handler) (x1 : IV) (x9 : IV) (x5 : IV) : Option (IV × Hp) :=
  condS x32 (loadA 3 x3 h10 fun x33 _ => isoS [] false false ih 94 [x33, x1, .fv (.int .i64 0)] h10 fun x35 h36 _ _ => S92_54 h36 x9 x35) (loadA 3 x5 h10 fun x43 _ => isoS [] false false ih 93 [x43, .fv (.int .i64 0)] h10 fun x45 h46 _ _ => S92_55 h46 x9 x45)
noncomputable def S92_57 (x16 : IV) (x17 : IV) (h10 : Hp) (x5 : IV) (ih : Handler) (x9 : IV) (x2 : IV) (x3 : IV) (x1 : IV) : Option (IV × Hp) :=
  gtS EE 3 x16 x17 fun x19 => condS x19 (loadA 3 x5 h10 fun x20 _ => isoS [] false false ih 93 [x20, .fv (.int .i64 (-1))] h10 fun x22 h23 _ _ => S92_53 h23 x9 x22) (load1 x2 h10 fun x30 _ => eqS EE 3 x16 x30 fun x32 => S92_56 x32 h10 x3 ih x1 x9 x5)
noncomputable def S92 (ih : Handler) (n : Nat) (x0 : IV) (x1 : IV) (x2 : IV) (x3 : IV) (h4 : Hp) : Option (IV × Hp) :=
  boxS 96468992 x0 h4 fun x5 h6 _ _ => newS 96468993 (.row [.fv (.int .i64 0), .fv (.int .i64 0), .nils] false) (.ptr (.own 96468993) 0) h6 fun x9 h10 _ _ => faddrS 1 x5 fun x13 => load1 x13 h10 fun x14 _ => subS EE 3 x14 x1 fun x16 => load1 x2 h10 fun x17 _ => S92_57 x16 x17 h10 x5 ih x9 x2 x3 x1
theorem S92_ok (ih : Handler) (n : Nat) (x0 : IV) (x1 : IV) (x2 : IV) (x3 : IV) (h4 : Hp) : funS EE ih ft.get n 92 [x0, x1, x2, x3] h4 = S92 ih n x0 x1 x2 x3 h4 := by kernel_rfl
noncomputable def S93_20 (h8 : Hp) (x7 : IV) (x15 : IV) : Option (IV × Hp) :=
  storeA 3 x7 x15 h8 fun h16 _ _ => cellS true 3 x7 h16 fun x19 => outS1 [x19] h16
noncomputable def S93 (ih : Handler) (n : Nat) (x0 : IV) (x1 : IV) (h2 : Hp) : Option (IV × Hp) :=
  boxS 97517568 x0 h2 fun x3 h4 _ _ => newS 97517569 (.row [.fv (.int .i64 0), .fv (.int .i64 0), .nils] false) (.ptr (.own 97517569) 0) h4 fun x7 h8 _ _ => faddrS 1 x3 fun x11 => load1 x11 h8 fun x12 _ => addS EE 3 x12 x1 fun x14 => bldS [.fv (.int .i64 0), .fv (.int .i64 0), .nils] [(0, 1, .fv (.int .i64 1)), (1, 1, x14)] fun x15 => S93_20 h8 x7 x15
theorem S93_ok (ih : Handler) (n : Nat) (x0 : IV) (x1 : IV) (h2 : Hp) : funS EE ih ft.get n 93 [x0, x1] h2 = S93 ih n x0 x1 h2 := by kernel_rfl
noncomputable def S94_34 (ih : Handler) (h23 : Hp) (x20 : IV) (x22 : IV) (x16 : IV) : Option (IV × Hp) :=
  isoS [] false false ih 91 [x20, .fv (.int .i64 0), x22] h23 fun x26 h27 _ _ => storeA 3 x16 x26 h27 fun h30 _ _ => cellS true 3 x16 h30 fun x33 => outS1 [x33] h30
noncomputable def S94 (ih : Handler) (n : Nat) (x0 : IV) (x1 : IV) (x2 : IV) (h3 : Hp) : Option (IV × Hp) :=
  boxS 98566144 x0 h3 fun x4 h5 _ _ => boxS 98566145 x1 h5 fun x8 h9 _ _ => boxS 98566146 x2 h9 fun x12 h13 _ _ => newS 98566147 (.row [.fv (.int .i64 0), .fv (.int .i64 0), .nils] false) (.ptr (.own 98566147) 0) h13 fun x16 h17 _ _ => loadA 3 x4 h17 fun x20 _ => genS (val (mkFunc (.func 95) [] [x12, x8])) 98567169 h17 fun x22 h23 _ _ => S94_34 ih h23 x20 x22 x16
theorem S94_ok (ih : Handler) (n : Nat) (x0 : IV) (x1 : IV) (x2 : IV) (h3 : Hp) : funS EE ih ft.get n 94 [x0, x1, x2] h3 = S94 ih n x0 x1 x2 h3 := by kernel_rfl
noncomputable def S95_42 (ih : Handler) (h10 : Hp) (x20 : IV) (x22 : IV) (x9 : IV) : Option (IV × Hp) :=
  isoS [] false false ih 93 [x20, x22] h10 fun x24 h25 _ _ => storeA 3 x9 x24 h25 fun h28 _ _ => cellS true 3 x9 h28 fun x31 => outS1 [x31] h28
noncomputable def S95_43 (h35 : Hp) (x9 : IV) (x34 : IV) : Option (IV × Hp) :=
  storeA 3 x9 x34 h35 fun h38 _ _ => cellS true 3 x9 h38 fun x41 => outS1 [x41] h38
noncomputable def S95_44 (x16 : IV) (x17 : IV) (h10 : Hp) (x5 : IV) (x3 : IV) (ih : Handler) (x9 : IV) : Option (IV × Hp) :=
  geS EE 3 x16 x17 fun x19 => condS x19 (loadA 3 x5 h10 fun x20 _ => load1 x3 h10 fun x22 _ => S95_42 ih h10 x20 x22 x9) (loadA 3 x5 h10 fun x32 _ => isoS [] false false ih 93 [x32, .fv (.int .i64 0)] h10 fun x34 h35 _ _ => S95_43 h35 x9 x34)
noncomputable def S95 (ih : Handler) (n : Nat) (x0 : IV) (x1 : IV) (x2 : IV) (x3 : IV) (h4 : Hp) : Option (IV × Hp) :=
  boxS 99614720 x0 h4 fun x5 h6 _ _ => newS 99614721 (.row [.fv (.int .i64 0), .fv (.int .i64 0), .nils] false) (.ptr (.own 99614721) 0) h6 fun x9 h10 _ _ => faddrS 1 x5 fun x13 => load1 x13 h10 fun x14 _ => subS EE 3 x14 x1 fun x16 => load1 x2 h10 fun x17 _ => S95_44 x16 x17 h10 x5 x3 ih x9
theorem S95_ok (ih : Handler) (n : Nat) (x0 : IV) (x1 : IV) (x2 : IV) (x3 : IV) (h4 : Hp) : funS EE ih ft.get n 95 [x0, x1, x2, x3] h4 = S95 ih n x0 x1 x2 x3 h4 := by kernel_rfl
end Idl
end Go.Proofs.Ytaifgaidaglblaa
namespace Go.Proofs.Ytaifgaidaglblaa
namespace Idl
noncomputable def dt : DT :=
 .node 72 (.node 40 (.node 28 (.node 16 (.node 6 (.leaf 2 (fun ih n => ar0 (S2 ih n)))
 (.node 10 (.leaf 6 (fun ih n => ar3 (S6 ih n)))
 (.leaf 10 (fun ih n => ar0 (S10 ih n)))))
 (.node 24 (.leaf 16 (fun ih n => ar2 (S16 ih n)))
 (.node 26 (.leaf 24 (fun ih n => ar2 (S24 ih n)))
 (.leaf 26 (fun ih n => ar1 (S26 ih n))))))
 (.node 31 (.node 29 (.leaf 28 (fun ih n => ar2 (S28 ih n)))
 (.node 30 (.leaf 29 (fun ih n => ar1 (S29 ih n)))
 (.leaf 30 (fun ih n => ar2 (S30 ih n)))))
 (.node 32 (.leaf 31 (fun ih n => ar2 (S31 ih n)))
 (.node 39 (.leaf 32 (fun ih n => ar0 (S32 ih n)))
 (.leaf 39 (fun ih n => ar1 (S39 ih n)))))))
 (.node 65 (.node 57 (.node 55 (.leaf 40 (fun ih n => ar2 (S40 ih n)))
 (.node 56 (.leaf 55 (fun ih n => ar1 (S55 ih n)))
 (.leaf 56 (fun ih n => ar1 (S56 ih n)))))
 (.node 63 (.leaf 57 (fun ih n => ar2 (S57 ih n)))
 (.node 64 (.leaf 63 (fun ih n => ar1 (S63 ih n)))
 (.leaf 64 (fun ih n => ar0 (S64 ih n))))))
 (.node 68 (.node 66 (.leaf 65 (fun ih n => ar3 (S65 ih n)))
 (.node 67 (.leaf 66 (fun ih n => ar4 (S66 ih n)))
 (.leaf 67 (fun ih n => ar1 (S67 ih n)))))
 (.node 69 (.leaf 68 (fun ih n => ar1 (S68 ih n)))
 (.node 71 (.leaf 69 (fun ih n => ar3 (S69 ih n)))
 (.leaf 71 (fun ih n => ar1 (S71 ih n))))))))
 (.node 84 (.node 78 (.node 75 (.node 73 (.leaf 72 (fun ih n => ar2 (S72 ih n)))
 (.node 74 (.leaf 73 (fun ih n => ar2 (S73 ih n)))
 (.leaf 74 (fun ih n => ar2 (S74 ih n)))))
 (.node 76 (.leaf 75 (fun ih n => ar2 (S75 ih n)))
 (.node 77 (.leaf 76 (fun ih n => ar2 (S76 ih n)))
 (.leaf 77 (fun ih n => ar1 (S77 ih n))))))
 (.node 81 (.node 79 (.leaf 78 (fun ih n => ar2 (S78 ih n)))
 (.node 80 (.leaf 79 (fun ih n => ar2 (S79 ih n)))
 (.leaf 80 (fun ih n => ar2 (S80 ih n)))))
 (.node 82 (.leaf 81 (fun ih n => ar4 (S81 ih n)))
 (.node 83 (.leaf 82 (fun ih n => ar1 (S82 ih n)))
 (.leaf 83 (fun ih n => ar1 (S83 ih n)))))))
 (.node 90 (.node 87 (.node 85 (.leaf 84 (fun ih n => ar2 (S84 ih n)))
 (.node 86 (.leaf 85 (fun ih n => ar2 (S85 ih n)))
 (.leaf 86 (fun ih n => ar2 (S86 ih n)))))
 (.node 88 (.leaf 87 (fun ih n => ar2 (S87 ih n)))
 (.node 89 (.leaf 88 (fun ih n => ar3 (S88 ih n)))
 (.leaf 89 (fun ih n => ar3 (S89 ih n))))))
 (.node 93 (.node 91 (.leaf 90 (fun ih n => ar3 (S90 ih n)))
 (.node 92 (.leaf 91 (fun ih n => ar3 (S91 ih n)))
 (.leaf 92 (fun ih n => ar4 (S92 ih n)))))
 (.node 94 (.leaf 93 (fun ih n => ar2 (S93 ih n)))
 (.node 95 (.leaf 94 (fun ih n => ar3 (S94 ih n)))
 (.leaf 95 (fun ih n => ar4 (S95 ih n))))))))
theorem dt_ok : dt.Ok EE ft.get :=
 ⟨⟨⟨⟨⟨(fun ih n _ _ _ e => ar0_ok (F := funS EE ih ft.get n 2) (S2_ok ih n) e),
 ⟨(fun ih n _ _ _ e => ar3_ok (F := funS EE ih ft.get n 6) (S6_ok ih n) e),
 (fun ih n _ _ _ e => ar0_ok (F := funS EE ih ft.get n 10) (S10_ok ih n) e)⟩⟩,
 ⟨(fun ih n _ _ _ e => ar2_ok (F := funS EE ih ft.get n 16) (S16_ok ih n) e),
 ⟨(fun ih n _ _ _ e => ar2_ok (F := funS EE ih ft.get n 24) (S24_ok ih n) e),
 (fun ih n _ _ _ e => ar1_ok (F := funS EE ih ft.get n 26) (S26_ok ih n) e)⟩⟩⟩,
 ⟨⟨(fun ih n _ _ _ e => ar2_ok (F := funS EE ih ft.get n 28) (S28_ok ih n) e),
 ⟨(fun ih n _ _ _ e => ar1_ok (F := funS EE ih ft.get n 29) (S29_ok ih n) e),
 (fun ih n _ _ _ e => ar2_ok (F := funS EE ih ft.get n 30) (S30_ok ih n) e)⟩⟩,
 ⟨(fun ih n _ _ _ e => ar2_ok (F := funS EE ih ft.get n 31) (S31_ok ih n) e),
 ⟨(fun ih n _ _ _ e => ar0_ok (F := funS EE ih ft.get n 32) (S32_ok ih n) e),
 (fun ih n _ _ _ e => ar1_ok (F := funS EE ih ft.get n 39) (S39_ok ih n) e)⟩⟩⟩⟩,
 ⟨⟨⟨(fun ih n _ _ _ e => ar2_ok (F := funS EE ih ft.get n 40) (S40_ok ih n) e),
 ⟨(fun ih n _ _ _ e => ar1_ok (F := funS EE ih ft.get n 55) (S55_ok ih n) e),
 (fun ih n _ _ _ e => ar1_ok (F := funS EE ih ft.get n 56) (S56_ok ih n) e)⟩⟩,
 ⟨(fun ih n _ _ _ e => ar2_ok (F := funS EE ih ft.get n 57) (S57_ok ih n) e),
 ⟨(fun ih n _ _ _ e => ar1_ok (F := funS EE ih ft.get n 63) (S63_ok ih n) e),
 (fun ih n _ _ _ e => ar0_ok (F := funS EE ih ft.get n 64) (S64_ok ih n) e)⟩⟩⟩,
 ⟨⟨(fun ih n _ _ _ e => ar3_ok (F := funS EE ih ft.get n 65) (S65_ok ih n) e),
 ⟨(fun ih n _ _ _ e => ar4_ok (F := funS EE ih ft.get n 66) (S66_ok ih n) e),
 (fun ih n _ _ _ e => ar1_ok (F := funS EE ih ft.get n 67) (S67_ok ih n) e)⟩⟩,
 ⟨(fun ih n _ _ _ e => ar1_ok (F := funS EE ih ft.get n 68) (S68_ok ih n) e),
 ⟨(fun ih n _ _ _ e => ar3_ok (F := funS EE ih ft.get n 69) (S69_ok ih n) e),
 (fun ih n _ _ _ e => ar1_ok (F := funS EE ih ft.get n 71) (S71_ok ih n) e)⟩⟩⟩⟩⟩,
 ⟨⟨⟨⟨(fun ih n _ _ _ e => ar2_ok (F := funS EE ih ft.get n 72) (S72_ok ih n) e),
 ⟨(fun ih n _ _ _ e => ar2_ok (F := funS EE ih ft.get n 73) (S73_ok ih n) e),
 (fun ih n _ _ _ e => ar2_ok (F := funS EE ih ft.get n 74) (S74_ok ih n) e)⟩⟩,
 ⟨(fun ih n _ _ _ e => ar2_ok (F := funS EE ih ft.get n 75) (S75_ok ih n) e),
 ⟨(fun ih n _ _ _ e => ar2_ok (F := funS EE ih ft.get n 76) (S76_ok ih n) e),
 (fun ih n _ _ _ e => ar1_ok (F := funS EE ih ft.get n 77) (S77_ok ih n) e)⟩⟩⟩,
 ⟨⟨(fun ih n _ _ _ e => ar2_ok (F := funS EE ih ft.get n 78) (S78_ok ih n) e),
 ⟨(fun ih n _ _ _ e => ar2_ok (F := funS EE ih ft.get n 79) (S79_ok ih n) e),
 (fun ih n _ _ _ e => ar2_ok (F := funS EE ih ft.get n 80) (S80_ok ih n) e)⟩⟩,
 ⟨(fun ih n _ _ _ e => ar4_ok (F := funS EE ih ft.get n 81) (S81_ok ih n) e),
 ⟨(fun ih n _ _ _ e => ar1_ok (F := funS EE ih ft.get n 82) (S82_ok ih n) e),
 (fun ih n _ _ _ e => ar1_ok (F := funS EE ih ft.get n 83) (S83_ok ih n) e)⟩⟩⟩⟩,
 ⟨⟨⟨(fun ih n _ _ _ e => ar2_ok (F := funS EE ih ft.get n 84) (S84_ok ih n) e),
 ⟨(fun ih n _ _ _ e => ar2_ok (F := funS EE ih ft.get n 85) (S85_ok ih n) e),
 (fun ih n _ _ _ e => ar2_ok (F := funS EE ih ft.get n 86) (S86_ok ih n) e)⟩⟩,
 ⟨(fun ih n _ _ _ e => ar2_ok (F := funS EE ih ft.get n 87) (S87_ok ih n) e),
 ⟨(fun ih n _ _ _ e => ar3_ok (F := funS EE ih ft.get n 88) (S88_ok ih n) e),
 (fun ih n _ _ _ e => ar3_ok (F := funS EE ih ft.get n 89) (S89_ok ih n) e)⟩⟩⟩,
 ⟨⟨(fun ih n _ _ _ e => ar3_ok (F := funS EE ih ft.get n 90) (S90_ok ih n) e),
 ⟨(fun ih n _ _ _ e => ar3_ok (F := funS EE ih ft.get n 91) (S91_ok ih n) e),
 (fun ih n _ _ _ e => ar4_ok (F := funS EE ih ft.get n 92) (S92_ok ih n) e)⟩⟩,
 ⟨(fun ih n _ _ _ e => ar2_ok (F := funS EE ih ft.get n 93) (S93_ok ih n) e),
 ⟨(fun ih n _ _ _ e => ar3_ok (F := funS EE ih ft.get n 94) (S94_ok ih n) e),
 (fun ih n _ _ _ e => ar4_ok (F := funS EE ih ft.get n 95) (S95_ok ih n) e)⟩⟩⟩⟩⟩⟩
theorem sh_run : ∀ n f args h x, SS dt n f args h = some x → run EE n f args h = some x := SS_ok ft_ok dt_ok
end Idl
end Go.Proofs.Ytaifgaidaglblaa

/-
  Texts of a proof, part 8: an ideal semantics of the program, its functions in shallow form, contracts of them. No statement of the seat is proved here.
-/
import Derived.Test.YtdibmackcbpniaaObjTypesK7
set_option linter.all false
set_option maxRecDepth 100000
set_option linter.unusedVariables false
namespace Go.Proofs.Ytdibmackcbpniaa
namespace Idl
noncomputable def S2 (ih : Handler) (n : Nat) (h0 : Hp) : Option (IV × Hp) :=
  isoS [] false false ih 1 [] h0 fun _ h2 _ _ => outS1 [] h2
theorem S2_ok (ih : Handler) (n : Nat) (h0 : Hp) : funS EE ih ft.get n 2 [] h0 = S2 ih n h0 := by kernel_rfl
noncomputable def S3_348 (h4 : Hp) (h107 : Hp) (x87 : IV) (x88 : IV) (x89 : IV) (x90 : IV) (x106 : IV) (x110 : IV) (q84 : List IV → Hp → Option (IV × Hp)) : Option (IV × Hp) :=
  dropS (h4.own.map (·.1)) [3154951] [x87, x88, x89, x90, x106, x110] h107 fun h111 => q84 [x87, x88, x89, x90, x106, x110] h111
noncomputable def S3_349 (h86 : Hp) (x95 : IV) (ih : Handler) (x91 : IV) (x92 : IV) (h4 : Hp) (x87 : IV) (x88 : IV) (x89 : IV) (x90 : IV) (q84 : List IV → Hp → Option (IV × Hp)) : Option (IV × Hp) :=
  loadA 3 x95 h86 fun x96 _ => isoS [] false false ih 14 [x96, .fv (.int .i64 2)] h86 fun x98 h99 _ _ => genS (pcBuildSlice EE 28 1 [(0, x98)]) 3154950 h99 fun x102 h103 _ _ => genS (builtinR EE 3154951 false .append [28, 28] [x91, x102]) 3154951 h103 fun x106 h107 _ _ => addS EE 3 x92 (.fv (.int .i64 1)) fun x110 => S3_348 h4 h107 x87 x88 x89 x90 x106 x110 q84
noncomputable def S3_350 (h4 : Hp) (h277 : Hp) (x154 : IV) (x155 : IV) (x281 : IV) (q151 : List IV → Hp → Option (IV × Hp)) : Option (IV × Hp) :=
  dropS (h4.own.map (·.1)) [3166217, 3167241] [x154, x155, x281] h277 fun h282 => q151 [x154, x155, x281] h282
noncomputable def S3_351 (h271 : Hp) (x217 : IV) (x242 : IV) (x270 : IV) (x156 : IV) (h4 : Hp) (x154 : IV) (x155 : IV) (q151 : List IV → Hp → Option (IV × Hp)) : Option (IV × Hp) :=
  guardS x217 false h271 (fun k274 => neS EE 4 x242 x270 fun x275 => k274 x275 h271 [] []) fun x276 h277 _ _ => pickS x217 (.fv (.bool true)) x276 fun x280 => condS x280 (outS1 [.fv (.bool false)] h277) (addS EE 3 x156 (.fv (.int .i64 1)) fun x281 => S3_350 h4 h277 x154 x155 x281 q151)
noncomputable def S3_352 (h253 : Hp) (x217 : IV) (x247 : IV) (x252 : IV) (r244 : List Ref) (w245 : List Ref) (r239 : List Ref) (w240 : List Ref) (ih : Handler) (x242 : IV) (x156 : IV) (h4 : Hp) (x154 : IV) (x155 : IV) (q151 : List IV → Hp → Option (IV × Hp)) : Option (IV × Hp) :=
  guardS x217 false h253 (fun k256 => ixS 3 x247 x252 fun x257 => k256 x257 h253 [] []) fun x258 h259 _ _ => guardS x217 false h259 (fun k262 => loadA 3 x258 h259 fun x263 r264 => k262 x263 h259 r264 []) fun x265 h266 r267 w268 => chkS [(r244, w245), (r239, w240)] r267 w268 (guardS x217 false h266 (fun k269 => isoS [] false false ih 21 [x265] h266 k269) fun x270 h271 r272 w273 => chkS [] r272 w273 (S3_351 h271 x217 x242 x270 x156 h4 x154 x155 q151))
noncomputable def S3_353 (r239 : List Ref) (w240 : List Ref) (h238 : Hp) (x217 : IV) (ih : Handler) (x237 : IV) (x155 : IV) (x156 : IV) (h4 : Hp) (x154 : IV) (q151 : List IV → Hp → Option (IV × Hp)) : Option (IV × Hp) :=
  chkS [] r239 w240 (guardS x217 false h238 (fun k241 => isoS [] false false ih 20 [x237] h238 k241) fun x242 h243 r244 w245 => chkS [] r244 w245 (guardS x217 false h243 (fun k246 => k246 x155 h243 [] []) fun x247 h248 _ _ => guardS x217 false h248 (fun k251 => k251 x156 h248 [] []) fun x252 h253 _ _ => S3_352 h253 x217 x247 x252 r244 w245 r239 w240 ih x242 x156 h4 x154 x155 q151))
noncomputable def S3_354 (x191 : IV) (x213 : IV) (h214 : Hp) (x155 : IV) (x156 : IV) (ih : Handler) (h4 : Hp) (x154 : IV) (q151 : List IV → Hp → Option (IV × Hp)) : Option (IV × Hp) :=
  pickS x191 (.fv (.bool true)) x213 fun x217 => guardS x217 false h214 (fun k218 => k218 x155 h214 [] []) fun x219 h220 _ _ => guardS x217 false h220 (fun k223 => k223 x156 h220 [] []) fun x224 h225 _ _ => guardS x217 false h225 (fun k228 => ixS 3 x219 x224 fun x229 => k228 x229 h225 [] []) fun x230 h231 _ _ => guardS x217 false h231 (fun k234 => loadA 3 x230 h231 fun x235 r236 => k234 x235 h231 r236 []) fun x237 h238 r239 w240 => S3_353 r239 w240 h238 x217 ih x237 x155 x156 h4 x154 q151
noncomputable def S3_355 (h196 : Hp) (x191 : IV) (x184 : IV) (r197 : List Ref) (w198 : List Ref) (ih : Handler) (x195 : IV) (x155 : IV) (x156 : IV) (h4 : Hp) (x154 : IV) (q151 : List IV → Hp → Option (IV × Hp)) : Option (IV × Hp) :=
  guardS x191 false h196 (fun k199 => loadA 3 x184 h196 fun x200 r201 => k199 x200 h196 r201 []) fun x202 h203 r204 w205 => chkS [(r197, w198)] r204 w205 (guardS x191 false h203 (fun k206 => isoS [] false false ih 18 [x195, x202] h203 k206) fun x207 h208 r209 w210 => chkS [] r209 w210 (guardS x191 false h208 (fun k211 => optS (unR .not x207) fun x212 => k211 x212 h208 [] []) fun x213 h214 _ _ => S3_354 x191 x213 h214 x155 x156 ih h4 x154 q151))
noncomputable def S3_356 (h179 : Hp) (x182 : IV) (x167 : IV) (x183 : IV) (x168 : IV) (ih : Handler) (x155 : IV) (x156 : IV) (h4 : Hp) (x154 : IV) (q151 : List IV → Hp → Option (IV × Hp)) : Option (IV × Hp) :=
  newS 3167241 (.row [.fv (.int .i64 0), .fv (.int .i64 0), .nils] false) (.ptr (.own 3167241) 0) h179 fun x184 h185 _ _ => storeA 3 x184 x182 h185 fun h188 _ _ => neS EE 3 x167 x183 fun x191 => guardS x191 false h188 (fun k192 => loadA 3 x168 h188 fun x193 r194 => k192 x193 h188 r194 []) fun x195 h196 r197 w198 => chkS [] r197 w198 (S3_355 h196 x191 x184 r197 w198 ih x195 x155 x156 h4 x154 q151)
noncomputable def S3_357 (x155 : IV) (x156 : IV) (h172 : Hp) (ih : Handler) (x154 : IV) (x167 : IV) (x168 : IV) (h4 : Hp) (q151 : List IV → Hp → Option (IV × Hp)) : Option (IV × Hp) :=
  ixS 3 x155 x156 fun x175 => loadA 3 x175 h172 fun x176 _ => isoS [] false false ih 19 [x154, x176] h172 fun x178 h179 _ _ => extS 0 x178 fun x182 => extS 1 x178 fun x183 => S3_356 h179 x182 x167 x183 x168 ih x155 x156 h4 x154 q151
noncomputable def S3_358 (ih : Handler) (h153 : Hp) (x154 : IV) (x160 : IV) (x155 : IV) (x156 : IV) (h4 : Hp) (q151 : List IV → Hp → Option (IV × Hp)) : Option (IV × Hp) :=
  isoS [] false false ih 17 [x154, x160] h153 fun x162 h163 _ _ => extS 0 x162 fun x166 => extS 1 x162 fun x167 => newS 3166217 (.row [.fv (.int .i64 0), .fv (.int .i64 0), .nils] false) (.ptr (.own 3166217) 0) h163 fun x168 h169 _ _ => storeA 3 x168 x166 h169 fun h172 _ _ => S3_357 x155 x156 h172 ih x154 x167 x168 h4 q151
noncomputable def S3_359 (x158 : IV) (x155 : IV) (x156 : IV) (h153 : Hp) (ih : Handler) (x154 : IV) (h4 : Hp) (q151 : List IV → Hp → Option (IV × Hp)) : Option (IV × Hp) :=
  condS x158 (ixS 3 x155 x156 fun x159 => loadA 3 x159 h153 fun x160 _ => S3_358 ih h153 x154 x160 x155 x156 h4 q151) (outS1 [.fv (.bool true)] h153)
noncomputable def S3_360 (l152 : List IV) (h153 : Hp) (ih : Handler) (h4 : Hp) (q151 : List IV → Hp → Option (IV × Hp)) : Option (IV × Hp) :=
  uncS l152 fun x154 l283 => uncS l283 fun x155 l284 => uncS l284 fun x156 _ => lenS x155 fun x157 => ltS EE 3 x156 x157 fun x158 => S3_359 x158 x155 x156 h153 ih x154 h4 q151
noncomputable def S3_361 (h4 : Hp) (h150 : Hp) (x91 : IV) (x149 : IV) (n : Nat) (ih : Handler) : Option (IV × Hp) :=
  dropS (h4.own.map (·.1)) [3166217, 3167241] [x91, x149, .fv (.int .i64 0)] h150 fun h286 => loopS n (fun q151 l152 h153 => S3_360 l152 h153 ih h4 q151) [x91, x149, .fv (.int .i64 0)] h286
noncomputable def S3_362 (x314 : IV) (x336 : IV) (h337 : Hp) (j1_148 : IV → Hp → Option (IV × Hp)) (x295 : IV) : Option (IV × Hp) :=
  pickS x314 (.fv (.bool true)) x336 fun x340 => condS x340 (outS1 [.fv (.bool false)] h337) (j1_148 x295 h337)
noncomputable def S3_363 (x306 : IV) (h311 : Hp) (x127 : IV) (x307 : IV) (ih : Handler) (j1_148 : IV → Hp → Option (IV × Hp)) (x295 : IV) : Option (IV × Hp) :=
  neS EE 35 x306 (.fv (.int .i64 0)) fun x314 => guardS x314 false h311 (fun k315 => loadA 3 x127 h311 fun x316 r317 => k315 x316 h311 r317 []) fun x318 h319 _ _ => guardS x314 false h319 (fun k322 => loadA 3 x307 h319 fun x323 r324 => k322 x323 h319 r324 []) fun x325 h326 _ _ => guardS x314 false h326 (fun k329 => isoS [] false false ih 18 [x318, x325] h326 k329) fun x330 h331 _ _ => guardS x314 false h331 (fun k334 => optS (unR .not x330) fun x335 => k334 x335 h331 [] []) fun x336 h337 _ _ => S3_362 x314 x336 h337 j1_148 x295
noncomputable def S3_364 (ih : Handler) (h296 : Hp) (x299 : IV) (x127 : IV) (j1_148 : IV → Hp → Option (IV × Hp)) (x295 : IV) : Option (IV × Hp) :=
  isoS [] false false ih 17 [.nils, x299] h296 fun x301 h302 _ _ => extS 0 x301 fun x305 => extS 1 x301 fun x306 => newS 3160069 (.row [.fv (.int .i64 0), .fv (.int .i64 0), .nils] false) (.ptr (.own 3160069) 0) h302 fun x307 h308 _ _ => storeA 3 x307 x305 h308 fun h311 _ _ => S3_363 x306 h311 x127 x307 ih j1_148 x295
noncomputable def S3_365 (h145 : Hp) (x123 : IV) (x127 : IV) (x144 : IV) (ih : Handler) (j1_148 : IV → Hp → Option (IV × Hp)) : Option (IV × Hp) :=
  loadA 3 x123 h145 fun x287 _ => loadA 3 x127 h145 fun x289 _ => genS (pcBuildSlice EE 28 2 [(0, x287), (1, x289)]) 3159043 h145 fun x291 h292 _ _ => genS (builtinR EE 3159044 false .append [28, 28] [x144, x291]) 3159044 h292 fun x295 h296 _ _ => loadA 3 x123 h296 fun x299 _ => S3_364 ih h296 x299 x127 j1_148 x295
noncomputable def S3_366 (x91 : IV) (ih : Handler) (h134 : Hp) (x137 : IV) (h4 : Hp) (n : Nat) (x122 : IV) (x123 : IV) (x127 : IV) : Option (IV × Hp) :=
  lenS x91 fun x139 => isoS [] false false ih 16 [x137, .fv (.int .i64 5), x139] h134 fun x140 h141 _ _ => genS (pcBuildSlice EE 28 1 [(0, x140)]) 3156996 h141 fun x144 h145 _ _ => (fun (j1_148 : IV → Hp → Option (IV × Hp)) => condS x122 (S3_365 h145 x123 x127 x144 ih j1_148) (j1_148 x144 h145)) fun x149 h150 => S3_361 h4 h150 x91 x149 n ih
noncomputable def S3_367 (h117 : Hp) (x120 : IV) (x121 : IV) (x90 : IV) (x91 : IV) (ih : Handler) (h4 : Hp) (n : Nat) (x122 : IV) : Option (IV × Hp) :=
  newS 3155975 (.row [.fv (.int .i64 0), .fv (.int .i64 0), .nils] false) (.ptr (.own 3155975) 0) h117 fun x123 h124 _ _ => newS 3155976 (.row [.fv (.int .i64 0), .fv (.int .i64 0), .nils] false) (.ptr (.own 3155976) 0) h124 fun x127 h128 _ _ => storeA 3 x123 x120 h128 fun h131 _ _ => storeA 3 x127 x121 h131 fun h134 _ _ => loadA 3 x90 h134 fun x137 _ => S3_366 x91 ih h134 x137 h4 n x122 x123 x127
noncomputable def S3_368 (h86 : Hp) (x89 : IV) (ih : Handler) (x112 : IV) (x90 : IV) (x91 : IV) (h4 : Hp) (n : Nat) : Option (IV × Hp) :=
  loadA 3 x89 h86 fun x114 _ => isoS [] false false ih 15 [x112, x114] h86 fun x116 h117 _ _ => extS 0 x116 fun x120 => extS 1 x116 fun x121 => extS 2 x116 fun x122 => S3_367 h117 x120 x121 x90 x91 ih h4 n x122
noncomputable def S3_369 (l345 : List IV) (x87 : IV) (h86 : Hp) (ih : Handler) (x91 : IV) (h4 : Hp) (x88 : IV) (x89 : IV) (x90 : IV) (q84 : List IV → Hp → Option (IV × Hp)) (n : Nat) : Option (IV × Hp) :=
  uncS l345 fun x92 _ => lenS x87 fun x93 => ltS EE 3 x92 x93 fun x94 => condS x94 (ixS 3 x87 x92 fun x95 => S3_349 h86 x95 ih x91 x92 h4 x87 x88 x89 x90 q84) (loadA 3 x88 h86 fun x112 _ => S3_368 h86 x89 ih x112 x90 x91 h4 n)
noncomputable def S3_370 (l85 : List IV) (h86 : Hp) (ih : Handler) (h4 : Hp) (q84 : List IV → Hp → Option (IV × Hp)) (n : Nat) : Option (IV × Hp) :=
  uncS l85 fun x87 l341 => uncS l341 fun x88 l342 => uncS l342 fun x89 l343 => uncS l343 fun x90 l344 => uncS l344 fun x91 l345 => S3_369 l345 x87 h86 ih x91 h4 x88 x89 x90 q84 n
noncomputable def S3_371 (x83 : IV) (h80 : Hp) (h4 : Hp) (x3 : IV) (x5 : IV) (x9 : IV) (x13 : IV) (n : Nat) (ih : Handler) : Option (IV × Hp) :=
  condS x83 (outS1 [.fv (.bool true)] h80) (dropS (h4.own.map (·.1)) [3154951] [x3, x5, x9, x13, .nils, .fv (.int .i64 0)] h80 fun h347 => loopS n (fun q84 l85 h86 => S3_370 l85 h86 ih h4 q84 n) [x3, x5, x9, x13, .nils, .fv (.int .i64 0)] h347)
noncomputable def S3_372 (x47 : IV) (x62 : IV) (h63 : Hp) (x3 : IV) (ih : Handler) (h4 : Hp) (x5 : IV) (x9 : IV) (x13 : IV) (n : Nat) : Option (IV × Hp) :=
  pickS x47 (.fv (.bool true)) x62 fun x66 => guardS x66 false h63 (fun k67 => k67 x3 h63 [] []) fun x68 h69 _ _ => guardS x66 false h69 (fun k72 => isoS [] false false ih 13 [x68] h69 k72) fun x73 h74 _ _ => guardS x66 false h74 (fun k77 => optS (unR .not x73) fun x78 => k77 x78 h74 [] []) fun x79 h80 _ _ => pickS x66 (.fv (.bool true)) x79 fun x83 => S3_371 x83 h80 h4 x3 x5 x9 x13 n ih
noncomputable def S3_373 (h38 : Hp) (x28 : IV) (x37 : IV) (x13 : IV) (ih : Handler) (x3 : IV) (h4 : Hp) (x5 : IV) (x9 : IV) (n : Nat) : Option (IV × Hp) :=
  guardS x28 false h38 (fun k41 => optS (unR .not x37) fun x42 => k41 x42 h38 [] []) fun x43 h44 _ _ => pickS x28 (.fv (.bool true)) x43 fun x47 => guardS x47 false h44 (fun k48 => loadA 3 x13 h44 fun x49 r50 => k48 x49 h44 r50 []) fun x51 h52 _ _ => guardS x47 false h52 (fun k55 => isoS [] false false ih 12 [x51] h52 k55) fun x56 h57 _ _ => guardS x47 false h57 (fun k60 => optS (unR .not x56) fun x61 => k60 x61 h57 [] []) fun x62 h63 _ _ => S3_372 x47 x62 h63 x3 ih h4 x5 x9 x13 n
noncomputable def S3_374 (h18 : Hp) (x5 : IV) (ih : Handler) (x9 : IV) (x13 : IV) (x3 : IV) (h4 : Hp) (n : Nat) : Option (IV × Hp) :=
  loadA 3 x5 h18 fun x22 _ => isoS [] false false ih 12 [x22] h18 fun x24 h25 _ _ => optS (unR .not x24) fun x28 => guardS x28 false h25 (fun k29 => loadA 3 x9 h25 fun x30 r31 => k29 x30 h25 r31 []) fun x32 h33 _ _ => guardS x28 false h33 (fun k36 => isoS [] false false ih 12 [x32] h33 k36) fun x37 h38 _ _ => S3_373 h38 x28 x37 x13 ih x3 h4 x5 x9 n
noncomputable def S3 (ih : Handler) (n : Nat) (x0 : IV) (x1 : IV) (x2 : IV) (x3 : IV) (h4 : Hp) : Option (IV × Hp) :=
  boxS 3145728 x0 h4 fun x5 h6 _ _ => boxS 3145729 x1 h6 fun x9 h10 _ _ => boxS 3145730 x2 h10 fun x13 h14 _ _ => isoS [] false false ih 11 [] h14 fun x17 h18 _ _ => optS (unR .not x17) fun x21 => condS x21 (outS1 [.fv (.bool false)] h18) (S3_374 h18 x5 ih x9 x13 x3 h4 n)
theorem S3_ok (ih : Handler) (n : Nat) (x0 : IV) (x1 : IV) (x2 : IV) (x3 : IV) (h4 : Hp) : funS EE ih ft.get n 3 [x0, x1, x2, x3] h4 = S3 ih n x0 x1 x2 x3 h4 := by kernel_rfl
noncomputable def S6_159 (h144 : Hp) (x139 : IV) (ih : Handler) (x143 : IV) : Option (IV × Hp) :=
  guardS x139 true h144 (fun k147 => isoS [] false false ih 21 [x143] h144 k147) fun x148 h149 _ _ => guardS x139 true h149 (fun k152 => optS (unR .not x148) fun x153 => k152 x153 h149 [] []) fun x154 h155 _ _ => pickS x139 x154 (.fv (.bool false)) fun x158 => outS1 [x158] h155
noncomputable def S6_160 (h117 : Hp) (x120 : IV) (x76 : IV) (ih : Handler) : Option (IV × Hp) :=
  guardS x120 true h117 (fun k121 => loadA 3 x76 h117 fun x122 r123 => k121 x122 h117 r123 []) fun x124 h125 _ _ => guardS x120 true h125 (fun k128 => isoS [] false false ih 20 [x124] h125 k128) fun x129 h130 _ _ => guardS x120 true h130 (fun k133 => optS (unR .not x129) fun x134 => k133 x134 h130 [] []) fun x135 h136 _ _ => pickS x120 x135 (.fv (.bool false)) fun x139 => guardS x139 true h136 (fun k140 => loadA 3 x76 h136 fun x141 r142 => k140 x141 h136 r142 []) fun x143 h144 _ _ => S6_159 h144 x139 ih x143
noncomputable def S6_161 (x85 : IV) (x96 : IV) (h97 : Hp) (x41 : IV) (x76 : IV) (ih : Handler) : Option (IV × Hp) :=
  pickS x85 x96 (.fv (.bool false)) fun x100 => guardS x100 true h97 (fun k101 => faddrS 0 x41 fun x102 => k101 x102 h97 [] []) fun x103 h104 _ _ => guardS x100 true h104 (fun k107 => load1 x103 h104 fun x108 r109 => k107 x108 h104 r109 []) fun x110 h111 _ _ => guardS x100 true h111 (fun k114 => eqS EE 3 x110 (.fv (.int .i64 14)) fun x115 => k114 x115 h111 [] []) fun x116 h117 _ _ => pickS x100 x116 (.fv (.bool false)) fun x120 => S6_160 h117 x120 x76 ih
noncomputable def S6_162 (r81 : List Ref) (w82 : List Ref) (h80 : Hp) (x26 : IV) (ih : Handler) (x40 : IV) (x41 : IV) (x76 : IV) : Option (IV × Hp) :=
  chkS [] r81 w82 (loadA 3 x26 h80 fun x83 _ => isoS [] false false ih 20 [x83] h80 fun x85 h86 _ _ => guardS x85 true h86 (fun k89 => k89 x40 h86 [] []) fun x90 h91 _ _ => guardS x85 true h91 (fun k94 => eqS EE 3 x90 (.fv (.int .i64 0)) fun x95 => k94 x95 h91 [] []) fun x96 h97 _ _ => S6_161 x85 x96 h97 x41 x76 ih)
noncomputable def S6_163 (ih : Handler) (h65 : Hp) (x48 : IV) (x56 : IV) (x71 : IV) (r70 : List Ref) (r66 : List Ref) (w67 : List Ref) (r62 : List Ref) (w63 : List Ref) (r58 : List Ref) (w59 : List Ref) (r54 : List Ref) (w55 : List Ref) (r51 : List Ref) (r49 : List Ref) (x26 : IV) (x40 : IV) (x41 : IV) : Option (IV × Hp) :=
  isoS [] false false ih 22 [x48, x56, x71] h65 fun x72 h73 r74 w75 => chkS [] r74 w75 (newS 6298636 (.row [.fv (.int .i64 0), .fv (.int .i64 0), .nils] false) (.ptr (.own 6298636) 0) h73 fun x76 h77 r78 w79 => chkS [(r74, w75), (r70, []), (r66, w67), (r62, w63), (r58, w59), (r54, w55), (r51, []), (r49, [])] r78 w79 (storeA 3 x76 x72 h77 fun h80 r81 w82 => S6_162 r81 w82 h80 x26 ih x40 x41 x76))
noncomputable def S6_164 (r66 : List Ref) (w67 : List Ref) (r62 : List Ref) (w63 : List Ref) (r49 : List Ref) (x60 : IV) (x64 : IV) (h65 : Hp) (ih : Handler) (x48 : IV) (x56 : IV) (r58 : List Ref) (w59 : List Ref) (r54 : List Ref) (w55 : List Ref) (r51 : List Ref) (x26 : IV) (x40 : IV) (x41 : IV) : Option (IV × Hp) :=
  chkS [(r62, w63), (r49, [])] r66 w67 (ixS 1 x60 x64 fun x68 => load1 x68 h65 fun x69 r70 => chkS [(r49, [])] r70 [] (bldS [.fv (.int .i64 0), .fv (.int .i64 0), .nils] [(0, 1, x69)] fun x71 => S6_163 ih h65 x48 x56 x71 r70 r66 w67 r62 w63 r58 w59 r54 w55 r51 r49 x26 x40 x41))
noncomputable def S6_165 (ih : Handler) (h53 : Hp) (x1 : IV) (x52 : IV) (r49 : List Ref) (r54 : List Ref) (w55 : List Ref) (r51 : List Ref) (x2 : IV) (x48 : IV) (x26 : IV) (x40 : IV) (x41 : IV) : Option (IV × Hp) :=
  isoS [] false false ih 23 [x1, x52] h53 fun x56 h57 r58 w59 => chkS [(r49, [])] r58 w59 (genS (pcBuildSlice EE 51 5 [(0, .fv (.int .i64 10)), (1, .fv (.int .i64 1)), (2, .fv (.int .i64 25)), (3, .fv (.int .i64 14)), (4, .fv (.int .i64 11))]) 6298629 h57 fun x60 h61 r62 w63 => chkS [(r58, w59), (r54, w55), (r51, []), (r49, [])] r62 w63 (isoS [] false false ih 23 [x2, .fv (.int .i64 5)] h61 fun x64 h65 r66 w67 => S6_164 r66 w67 r62 w63 r49 x60 x64 h65 ih x48 x56 r58 w59 r54 w55 r51 x26 x40 x41))
noncomputable def S6_166 (r49 : List Ref) (h45 : Hp) (x26 : IV) (ih : Handler) (x1 : IV) (x2 : IV) (x48 : IV) (x40 : IV) (x41 : IV) : Option (IV × Hp) :=
  chkS [] r49 [] (loadA 3 x26 h45 fun x50 r51 => chkS [(r49, [])] r51 [] (isoS [] false false ih 24 [x50] h45 fun x52 h53 r54 w55 => chkS [(r49, [])] r54 w55 (S6_165 ih h53 x1 x52 r49 r54 w55 r51 x2 x48 x26 x40 x41)))
noncomputable def S6_167 (x35 : IV) (h36 : Hp) (x26 : IV) (ih : Handler) (x1 : IV) (x2 : IV) : Option (IV × Hp) :=
  extS 0 x35 fun x39 => extS 1 x35 fun x40 => newS 6297605 (.row [.fv (.int .i64 0), .fv (.int .i64 0), .nils] false) (.ptr (.own 6297605) 0) h36 fun x41 h42 _ _ => storeA 3 x41 x39 h42 fun h45 _ _ => loadA 3 x26 h45 fun x48 r49 => S6_166 r49 h45 x26 ih x1 x2 x48 x40 x41
noncomputable def S6_168 (ih : Handler) (h16 : Hp) (x20 : IV) (x1 : IV) (x2 : IV) : Option (IV × Hp) :=
  isoS [] false false ih 14 [x20, .fv (.int .i64 5)] h16 fun x22 h23 _ _ => newS 6296578 (.row [.fv (.int .i64 0), .fv (.int .i64 0), .nils] false) (.ptr (.own 6296578) 0) h23 fun x26 h27 _ _ => storeA 3 x26 x22 h27 fun h30 _ _ => loadA 3 x26 h30 fun x33 _ => isoS [] false false ih 26 [.nils, .fv (.int .i64 1), x33] h30 fun x35 h36 _ _ => S6_167 x35 h36 x26 ih x1 x2
noncomputable def S6_169 (ih : Handler) (h9 : Hp) (x13 : IV) (x4 : IV) (x1 : IV) (x2 : IV) : Option (IV × Hp) :=
  isoS [] false false ih 12 [x13] h9 fun x15 h16 _ _ => optS (unR .not x15) fun x19 => condS x19 (outS1 [.fv (.bool true)] h16) (loadA 3 x4 h16 fun x20 _ => S6_168 ih h16 x20 x1 x2)
noncomputable def S6 (ih : Handler) (n : Nat) (x0 : IV) (x1 : IV) (x2 : IV) (h3 : Hp) : Option (IV × Hp) :=
  boxS 6291456 x0 h3 fun x4 h5 _ _ => isoS [] false false ih 11 [] h5 fun x8 h9 _ _ => optS (unR .not x8) fun x12 => condS x12 (outS1 [.fv (.bool false)] h9) (loadA 3 x4 h9 fun x13 _ => S6_169 ih h9 x13 x4 x1 x2)
theorem S6_ok (ih : Handler) (n : Nat) (x0 : IV) (x1 : IV) (x2 : IV) (h3 : Hp) : funS EE ih ft.get n 6 [x0, x1, x2] h3 = S6 ih n x0 x1 x2 h3 := by kernel_rfl
noncomputable def S11_52 (h35 : Hp) (x38 : IV) (x11 : IV) (ih : Handler) : Option (IV × Hp) :=
  guardS x38 true h35 (fun k39 => loadA 3 x11 h35 fun x40 r41 => k39 x40 h35 r41 []) fun x42 h43 _ _ => guardS x38 true h43 (fun k46 => isoS [] false false ih 20 [x42] h43 k46) fun x47 h48 _ _ => pickS x38 x47 (.fv (.bool false)) fun x51 => outS1 [x51] h48
noncomputable def S11_53 (x10 : IV) (h15 : Hp) (x11 : IV) (ih : Handler) : Option (IV × Hp) :=
  eqS EE 35 x10 (.fv (.int .i64 0)) fun x18 => guardS x18 true h15 (fun k19 => faddrS 0 x11 fun x20 => k19 x20 h15 [] []) fun x21 h22 _ _ => guardS x18 true h22 (fun k25 => load1 x21 h22 fun x26 r27 => k25 x26 h22 r27 []) fun x28 h29 _ _ => guardS x18 true h29 (fun k32 => eqS EE 3 x28 (.fv (.int .i64 15)) fun x33 => k32 x33 h29 [] []) fun x34 h35 _ _ => pickS x18 x34 (.fv (.bool false)) fun x38 => S11_52 h35 x38 x11 ih
noncomputable def S11 (ih : Handler) (n : Nat) (h0 : Hp) : Option (IV × Hp) :=
  isoS [] false false ih 31 [.fv (.int .i64 5)] h0 fun x1 h2 _ _ => isoS [] false false ih 17 [.nils, x1] h2 fun x5 h6 _ _ => extS 0 x5 fun x9 => extS 1 x5 fun x10 => newS 11535365 (.row [.fv (.int .i64 0), .fv (.int .i64 0), .nils] false) (.ptr (.own 11535365) 0) h6 fun x11 h12 _ _ => storeA 3 x11 x9 h12 fun h15 _ _ => S11_53 x10 h15 x11 ih
theorem S11_ok (ih : Handler) (n : Nat) (h0 : Hp) : funS EE ih ft.get n 11 [] h0 = S11 ih n h0 := by kernel_rfl
noncomputable def S12 (ih : Handler) (n : Nat) (x0 : IV) (h1 : Hp) : Option (IV × Hp) :=
  boxS 12582912 x0 h1 fun x2 h3 _ _ => loadA 3 x2 h3 fun x6 _ => isoS [] false false ih 40 [x6, .fv (.int .i64 300)] h3 fun x8 h9 _ _ => ltS EE 3 x8 (.fv (.int .i64 300)) fun x12 => outS1 [x12] h9
theorem S12_ok (ih : Handler) (n : Nat) (x0 : IV) (h1 : Hp) : funS EE ih ft.get n 12 [x0] h1 = S12 ih n x0 h1 := by kernel_rfl
noncomputable def S13_22 (x6 : IV) (q2 : List IV → Hp → Option (IV × Hp)) (h13 : Hp) (x5 : IV) : Option (IV × Hp) :=
  addS EE 3 x6 (.fv (.int .i64 1)) fun x17 => q2 [x5, x17] h13
noncomputable def S13_23 (x5 : IV) (x6 : IV) (h4 : Hp) (ih : Handler) (q2 : List IV → Hp → Option (IV × Hp)) : Option (IV × Hp) :=
  ixS 3 x5 x6 fun x9 => loadA 3 x9 h4 fun x10 _ => isoS [] false false ih 12 [x10] h4 fun x12 h13 _ _ => optS (unR .not x12) fun x16 => condS x16 (outS1 [.fv (.bool false)] h13) (S13_22 x6 q2 h13 x5)
noncomputable def S13_24 (x5 : IV) (h4 : Hp) : Option (IV × Hp) :=
  lenS x5 fun x18 => leS EE 3 x18 (.fv (.int .i64 6)) fun x19 => outS1 [x19] h4
noncomputable def S13_25 (l3 : List IV) (h4 : Hp) (ih : Handler) (q2 : List IV → Hp → Option (IV × Hp)) : Option (IV × Hp) :=
  uncS l3 fun x5 l20 => uncS l20 fun x6 _ => lenS x5 fun x7 => ltS EE 3 x6 x7 fun x8 => condS x8 (S13_23 x5 x6 h4 ih q2) (S13_24 x5 h4)
noncomputable def S13 (ih : Handler) (n : Nat) (x0 : IV) (h1 : Hp) : Option (IV × Hp) :=
  loopS n (fun q2 l3 h4 => S13_25 l3 h4 ih q2) [x0, .fv (.int .i64 0)] h1
theorem S13_ok (ih : Handler) (n : Nat) (x0 : IV) (h1 : Hp) : funS EE ih ft.get n 13 [x0] h1 = S13 ih n x0 h1 := by kernel_rfl
noncomputable def S14_75 (h32 : Hp) (x7 : IV) (x31 : IV) : Option (IV × Hp) :=
  storeA 3 x7 x31 h32 fun h35 _ _ => cellS true 3 x7 h35 fun x38 => outS1 [x38] h35
noncomputable def S14_76 (r72 : List Ref) (w73 : List Ref) (h71 : Hp) (x7 : IV) : Option (IV × Hp) :=
  chkS [] r72 w73 (cellS true 3 x7 h71 fun x74 => outS1 [x74] h71)
noncomputable def S14_77 (h60 : Hp) (x48 : IV) (x59 : IV) (ih : Handler) (x40 : IV) (x7 : IV) : Option (IV × Hp) :=
  genS (pcBuildSlice EE 28 2 [(0, x48), (1, x59)]) 14684173 h60 fun x63 h64 r65 w66 => chkS [] r65 w66 (isoS [] false false ih 30 [x40, x63] h64 fun x67 h68 r69 w70 => chkS [] r69 w70 (storeA 3 x7 x67 h68 fun h71 r72 w73 => S14_76 r72 w73 h71 x7))
noncomputable def S14_78 (ih : Handler) (h49 : Hp) (x52 : IV) (x1 : IV) (x48 : IV) (x40 : IV) (x7 : IV) : Option (IV × Hp) :=
  isoS [] false false ih 42 [x52, .fv (.int .i64 1)] h49 fun x54 h55 r56 w57 => chkS [] r56 w57 (subS EE 3 x1 (.fv (.int .i64 1)) fun x58 => isoS [] false false ih 14 [x54, x58] h55 fun x59 h60 r61 w62 => chkS [] r61 w62 (S14_77 h60 x48 x59 ih x40 x7))
noncomputable def S14_79 (x1 : IV) (ih : Handler) (h44 : Hp) (x43 : IV) (x3 : IV) (r45 : List Ref) (w46 : List Ref) (r42 : List Ref) (x40 : IV) (x7 : IV) : Option (IV × Hp) :=
  subS EE 3 x1 (.fv (.int .i64 1)) fun x47 => isoS [] false false ih 14 [x43, x47] h44 fun x48 h49 r50 w51 => chkS [] r50 w51 (loadA 3 x3 h49 fun x52 r53 => chkS [(r50, w51), (r45, w46), (r42, [])] r53 [] (S14_78 ih h49 x52 x1 x48 x40 x7))
noncomputable def S14_80 (x39 : IV) (h27 : Hp) (x3 : IV) (ih : Handler) (x1 : IV) (x7 : IV) : Option (IV × Hp) :=
  subS EE 3 x39 (.fv (.int .i64 2)) fun x40 => loadA 3 x3 h27 fun x41 r42 => chkS [] r42 [] (isoS [] false false ih 42 [x41, .fv (.int .i64 0)] h27 fun x43 h44 r45 w46 => chkS [] r45 w46 (S14_79 x1 ih h44 x43 x3 r45 w46 r42 x40 x7))
noncomputable def S14_81 (h15 : Hp) (x18 : IV) (x14 : IV) (ih : Handler) (x7 : IV) (x3 : IV) (x1 : IV) : Option (IV × Hp) :=
  guardS x18 false h15 (fun k19 => k19 x14 h15 [] []) fun x20 h21 _ _ => guardS x18 false h21 (fun k24 => ltS EE 3 x20 (.fv (.int .i64 2)) fun x25 => k24 x25 h21 [] []) fun x26 h27 _ _ => pickS x18 (.fv (.bool true)) x26 fun x30 => condS x30 (isoS [] false false ih 30 [.fv (.int .i64 15), .nils] h27 fun x31 h32 _ _ => S14_75 h32 x7 x31) (addS EE 3 (.fv (.int .i64 16)) x14 fun x39 => S14_80 x39 h27 x3 ih x1 x7)
noncomputable def S14 (ih : Handler) (n : Nat) (x0 : IV) (x1 : IV) (h2 : Hp) : Option (IV × Hp) :=
  boxS 14680064 x0 h2 fun x3 h4 _ _ => newS 14680065 (.row [.fv (.int .i64 0), .fv (.int .i64 0), .nils] false) (.ptr (.own 14680065) 0) h4 fun x7 h8 _ _ => faddrS 1 x3 fun x11 => load1 x11 h8 fun x12 _ => isoS [] false false ih 41 [x12, .fv (.int .i64 4)] h8 fun x14 h15 _ _ => leS EE 3 x1 (.fv (.int .i64 0)) fun x18 => S14_81 h15 x18 x14 ih x7 x3 x1
theorem S14_ok (ih : Handler) (n : Nat) (x0 : IV) (x1 : IV) (h2 : Hp) : funS EE ih ft.get n 14 [x0, x1] h2 = S14 ih n x0 x1 h2 := by kernel_rfl
noncomputable def S15_86 (r54 : List Ref) (w55 : List Ref) (h53 : Hp) (x11 : IV) (x15 : IV) : Option (IV × Hp) :=
  chkS [] r54 w55 (cellS true 3 x11 h53 fun x56 => cellS true 3 x15 h53 fun x57 => outS1 [x56, x57, .fv (.bool false)] h53)
noncomputable def S15_87 (h42 : Hp) (x31 : IV) (r47 : List Ref) (x11 : IV) (x46 : IV) (x15 : IV) : Option (IV × Hp) :=
  loadA 3 x31 h42 fun x48 r49 => chkS [(r47, [])] r49 [] (storeA 3 x11 x46 h42 fun h50 r51 w52 => chkS [(r49, [])] r51 w52 (storeA 3 x15 x48 h50 fun h53 r54 w55 => S15_86 r54 w55 h53 x11 x15))
noncomputable def S15_88 (r79 : List Ref) (w80 : List Ref) (r76 : List Ref) (h78 : Hp) (x15 : IV) (x75 : IV) (x11 : IV) (x77 : IV) : Option (IV × Hp) :=
  chkS [(r76, [])] r79 w80 (storeA 3 x15 x75 h78 fun h81 r82 w83 => chkS [] r82 w83 (cellS true 3 x11 h81 fun x84 => cellS true 3 x15 h81 fun x85 => outS1 [x84, x85, x77] h81))
noncomputable def S15_89 (r74 : List Ref) (h70 : Hp) (x31 : IV) (x65 : IV) (x11 : IV) (x73 : IV) (x15 : IV) : Option (IV × Hp) :=
  chkS [] r74 [] (loadA 3 x31 h70 fun x75 r76 => chkS [(r74, [])] r76 [] (eqS EE 3 x65 (.fv (.int .i64 0)) fun x77 => storeA 3 x11 x73 h70 fun h78 r79 w80 => S15_88 r79 w80 r76 h78 x15 x75 x11 x77))
noncomputable def S15_90 (x60 : IV) (h61 : Hp) (x31 : IV) (x11 : IV) (x15 : IV) : Option (IV × Hp) :=
  extS 0 x60 fun x64 => extS 1 x60 fun x65 => newS 15732741 (.row [.fv (.int .i64 0), .fv (.int .i64 0), .nils] false) (.ptr (.own 15732741) 0) h61 fun x66 h67 _ _ => storeA 3 x66 x64 h67 fun h70 _ _ => loadA 3 x66 h70 fun x73 r74 => S15_89 r74 h70 x31 x65 x11 x73 x15
noncomputable def S15_91 (x45 : IV) (h42 : Hp) (x35 : IV) (x31 : IV) (x11 : IV) (x15 : IV) (ih : Handler) : Option (IV × Hp) :=
  condS x45 (loadA 3 x35 h42 fun x46 r47 => chkS [] r47 [] (S15_87 h42 x31 r47 x11 x46 x15)) (loadA 3 x35 h42 fun x58 _ => isoS [] false false ih 44 [x58] h42 fun x60 h61 _ _ => S15_90 x60 h61 x31 x11 x15)
noncomputable def S15_92 (h24 : Hp) (x28 : IV) (x29 : IV) (x30 : IV) (x11 : IV) (x15 : IV) (ih : Handler) : Option (IV × Hp) :=
  newS 15729672 (.row [.fv (.int .i64 0), .fv (.int .i64 0), .nils] false) (.ptr (.own 15729672) 0) h24 fun x31 h32 _ _ => newS 15729673 (.row [.fv (.int .i64 0), .fv (.int .i64 0), .nils] false) (.ptr (.own 15729673) 0) h32 fun x35 h36 _ _ => storeA 3 x31 x28 h36 fun h39 _ _ => storeA 3 x35 x29 h39 fun h42 _ _ => optS (unR .not x30) fun x45 => S15_91 x45 h42 x35 x31 x11 x15 ih
noncomputable def S15_93 (ih : Handler) (h16 : Hp) (x19 : IV) (x21 : IV) (x11 : IV) (x15 : IV) : Option (IV × Hp) :=
  isoS [] false false ih 43 [.nils, x19, x21, .fv (.bool true)] h16 fun x23 h24 _ _ => extS 0 x23 fun _ => extS 1 x23 fun x28 => extS 2 x23 fun x29 => extS 3 x23 fun x30 => S15_92 h24 x28 x29 x30 x11 x15 ih
noncomputable def S15 (ih : Handler) (n : Nat) (x0 : IV) (x1 : IV) (h2 : Hp) : Option (IV × Hp) :=
  boxS 15728640 x0 h2 fun x3 h4 _ _ => boxS 15728641 x1 h4 fun x7 h8 _ _ => newS 15728642 (.row [.fv (.int .i64 0), .fv (.int .i64 0), .nils] false) (.ptr (.own 15728642) 0) h8 fun x11 h12 _ _ => newS 15728643 (.row [.fv (.int .i64 0), .fv (.int .i64 0), .nils] false) (.ptr (.own 15728643) 0) h12 fun x15 h16 _ _ => loadA 3 x3 h16 fun x19 _ => loadA 3 x7 h16 fun x21 _ => S15_93 ih h16 x19 x21 x11 x15
theorem S15_ok (ih : Handler) (n : Nat) (x0 : IV) (x1 : IV) (h2 : Hp) : funS EE ih ft.get n 15 [x0, x1] h2 = S15 ih n x0 x1 h2 := by kernel_rfl
noncomputable def S16_172 (x42 : IV) (h3 : Hp) (h76 : Hp) (x36 : IV) (x37 : IV) (x38 : IV) (x39 : IV) (x40 : IV) (x41 : IV) (q33 : List IV → Hp → Option (IV × Hp)) : Option (IV × Hp) :=
  addS EE 3 x42 (.fv (.int .i64 1)) fun x79 => dropS (h3.own.map (·.1)) [16794638] [x36, x37, x38, x39, x40, x41, x79] h76 fun h80 => q33 [x36, x37, x38, x39, x40, x41, x79] h80
noncomputable def S16_173 (h68 : Hp) (x49 : IV) (x67 : IV) (x41 : IV) (x42 : IV) (h3 : Hp) (x36 : IV) (x37 : IV) (x38 : IV) (x39 : IV) (x40 : IV) (q33 : List IV → Hp → Option (IV × Hp)) : Option (IV × Hp) :=
  genS (builtinR EE 16794638 false .append [28, 28] [x49, x67]) 16794638 h68 fun x71 h72 r73 w74 => chkS [] r73 w74 (faddrS 2 x41 fun x75 => store1 x75 x71 h72 fun h76 r77 w78 => chkS [] r77 w78 (S16_172 x42 h3 h76 x36 x37 x38 x39 x40 x41 q33))
noncomputable def S16_174 (x37 : IV) (x58 : IV) (ih : Handler) (h59 : Hp) (x53 : IV) (x57 : IV) (r50 : List Ref) (x49 : IV) (x41 : IV) (x42 : IV) (h3 : Hp) (x36 : IV) (x38 : IV) (x39 : IV) (x40 : IV) (q33 : List IV → Hp → Option (IV × Hp)) : Option (IV × Hp) :=
  addS EE 3 x37 x58 fun x62 => isoS [] false false ih 16 [x53, x57, x62] h59 fun x63 h64 r65 w66 => chkS [(r50, [])] r65 w66 (genS (pcBuildSlice EE 28 1 [(0, x63)]) 16794637 h64 fun x67 h68 r69 w70 => chkS [(r50, [])] r69 w70 (S16_173 h68 x49 x67 x41 x42 h3 x36 x37 x38 x39 x40 q33))
noncomputable def S16_175 (ih : Handler) (h44 : Hp) (x51 : IV) (x42 : IV) (r50 : List Ref) (x36 : IV) (x40 : IV) (x37 : IV) (x49 : IV) (x41 : IV) (h3 : Hp) (x38 : IV) (x39 : IV) (q33 : List IV → Hp → Option (IV × Hp)) : Option (IV × Hp) :=
  isoS [] false false ih 47 [x51, x42] h44 fun x53 h54 r55 w56 => chkS [(r50, [])] r55 w56 (subS EE 3 x36 (.fv (.int .i64 1)) fun x57 => isoS [] false false ih 48 [x40, x42] h54 fun x58 h59 r60 w61 => chkS [(r50, [])] r60 w61 (S16_174 x37 x58 ih h59 x53 x57 r50 x49 x41 x42 h3 x36 x38 x39 x40 q33))
noncomputable def S16_176 (x41 : IV) (h44 : Hp) (x38 : IV) (ih : Handler) (x42 : IV) (x36 : IV) (x40 : IV) (x37 : IV) (h3 : Hp) (x39 : IV) (q33 : List IV → Hp → Option (IV × Hp)) : Option (IV × Hp) :=
  faddrS 2 x41 fun x48 => load1 x48 h44 fun x49 r50 => chkS [] r50 [] (loadA 3 x38 h44 fun x51 r52 => chkS [(r50, [])] r52 [] (S16_175 ih h44 x51 x42 r50 x36 x40 x37 x49 x41 h3 x38 x39 q33))
noncomputable def S16_177 (h44 : Hp) (x41 : IV) (x39 : IV) : Option (IV × Hp) :=
  loadA 3 x41 h44 fun x81 _ => storeA 3 x39 x81 h44 fun h83 _ _ => cellS true 3 x39 h83 fun x86 => outS1 [x86] h83
noncomputable def S16_178 (l91 : List IV) (ih : Handler) (h35 : Hp) (x40 : IV) (x38 : IV) (x36 : IV) (x37 : IV) (h3 : Hp) (x39 : IV) (q33 : List IV → Hp → Option (IV × Hp)) : Option (IV × Hp) :=
  uncS l91 fun x41 l92 => uncS l92 fun x42 _ => isoS [] false false ih 46 [x40] h35 fun x43 h44 _ _ => ltS EE 3 x42 x43 fun x47 => condS x47 (S16_176 x41 h44 x38 ih x42 x36 x40 x37 h3 x39 q33) (S16_177 h44 x41 x39)
noncomputable def S16_179 (l34 : List IV) (ih : Handler) (h35 : Hp) (h3 : Hp) (q33 : List IV → Hp → Option (IV × Hp)) : Option (IV × Hp) :=
  uncS l34 fun x36 l87 => uncS l87 fun x37 l88 => uncS l88 fun x38 l89 => uncS l89 fun x39 l90 => uncS l90 fun x40 l91 => S16_178 l91 ih h35 x40 x38 x36 x37 h3 x39 q33
noncomputable def S16_180 (h3 : Hp) (h32 : Hp) (x1 : IV) (x2 : IV) (x4 : IV) (x8 : IV) (x21 : IV) (x24 : IV) (n : Nat) (ih : Handler) : Option (IV × Hp) :=
  dropS (h3.own.map (·.1)) [16794638] [x1, x2, x4, x8, x21, x24, .fv (.int .i64 0)] h32 fun h94 => loopS n (fun q33 l34 h35 => S16_179 l34 ih h35 h3 q33) [x1, x2, x4, x8, x21, x24, .fv (.int .i64 0)] h94
noncomputable def S16_181 (x2 : IV) (ih : Handler) (h28 : Hp) (x97 : IV) (x24 : IV) (j0_31 : Hp → Option (IV × Hp)) : Option (IV × Hp) :=
  addS EE 3 x2 (.fv (.int .i64 1)) fun x99 => isoS [] false false ih 45 [x97, x99] h28 fun x100 h101 _ _ => faddrS 1 x24 fun x104 => store1 x104 x100 h101 fun h105 _ _ => j0_31 h105
noncomputable def S16_182 (x4 : IV) (h28 : Hp) (ih : Handler) (x24 : IV) (j0_31 : Hp → Option (IV × Hp)) : Option (IV × Hp) :=
  faddrS 1 x4 fun x109 => load1 x109 h28 fun x110 _ => isoS [] false false ih 45 [x110, .fv (.int .i64 3)] h28 fun x112 h113 _ _ => faddrS 1 x24 fun x116 => store1 x116 x112 h113 fun h117 _ _ => j0_31 h117
noncomputable def S16_183 (ih : Handler) (h28 : Hp) (x122 : IV) (x24 : IV) (j0_31 : Hp → Option (IV × Hp)) : Option (IV × Hp) :=
  isoS [] false false ih 45 [x122, .fv (.int .i64 5)] h28 fun x124 h125 _ _ => faddrS 1 x24 fun x128 => store1 x128 x124 h125 fun h129 _ _ => j0_31 h129
noncomputable def S16_184 (x4 : IV) (h28 : Hp) (x24 : IV) (j0_31 : Hp → Option (IV × Hp)) : Option (IV × Hp) :=
  faddrS 1 x4 fun x133 => load1 x133 h28 fun x134 _ => faddrS 1 x24 fun x136 => store1 x136 x134 h28 fun h137 _ _ => j0_31 h137
noncomputable def S16_185 (x21 : IV) (x4 : IV) (h28 : Hp) (ih : Handler) (x24 : IV) (j0_31 : Hp → Option (IV × Hp)) : Option (IV × Hp) :=
  eqS EE 3 x21 (.fv (.int .i64 26)) fun x120 => condS x120 (faddrS 1 x4 fun x121 => load1 x121 h28 fun x122 _ => S16_183 ih h28 x122 x24 j0_31) (eqS EE 3 x21 (.fv (.int .i64 25)) fun x132 => condS x132 (S16_184 x4 h28 x24 j0_31) (j0_31 h28))
noncomputable def S16_186 (x95 : IV) (x4 : IV) (h28 : Hp) (x2 : IV) (ih : Handler) (x24 : IV) (j0_31 : Hp → Option (IV × Hp)) (x21 : IV) : Option (IV × Hp) :=
  condS x95 (faddrS 1 x4 fun x96 => load1 x96 h28 fun x97 _ => S16_181 x2 ih h28 x97 x24 j0_31) (eqS EE 3 x21 (.fv (.int .i64 2)) fun x108 => condS x108 (S16_182 x4 h28 ih x24 j0_31) (S16_185 x21 x4 h28 ih x24 j0_31))
noncomputable def S16_187 (x21 : IV) (h22 : Hp) (h3 : Hp) (x1 : IV) (x2 : IV) (x4 : IV) (x8 : IV) (n : Nat) (ih : Handler) : Option (IV × Hp) :=
  bldS [.fv (.int .i64 0), .fv (.int .i64 0), .nils] [(0, 1, x21)] fun x23 => newS 16781314 (.row [.fv (.int .i64 0), .fv (.int .i64 0), .nils] false) (.ptr (.own 16781314) 0) h22 fun x24 h25 _ _ => storeA 3 x24 x23 h25 fun h28 _ _ => (fun (j0_31 : Hp → Option (IV × Hp)) => eqS EE 3 x21 (.fv (.int .i64 1)) fun x95 => S16_186 x95 x4 h28 x2 ih x24 j0_31 x21) fun h32 => S16_180 h3 h32 x1 x2 x4 x8 x21 x24 n ih
noncomputable def S16_188 (h159 : Hp) (x162 : IV) (ih : Handler) (x158 : IV) (j1_20 : IV → Hp → Option (IV × Hp)) : Option (IV × Hp) :=
  load1 x162 h159 fun x163 _ => isoS [] false false ih 45 [x163, .fv (.int .i64 5)] h159 fun x165 h166 _ _ => ixS 1 x158 x165 fun x169 => load1 x169 h166 fun x170 _ => j1_20 x170 h166
noncomputable def S16_189 (x140 : IV) (x153 : IV) (h154 : Hp) (x4 : IV) (ih : Handler) (j1_20 : IV → Hp → Option (IV × Hp)) (x19 : IV) : Option (IV × Hp) :=
  pickS x140 x153 (.fv (.bool false)) fun x157 => condS x157 (genS (pcBuildSlice EE 51 5 [(0, .fv (.int .i64 1)), (1, .fv (.int .i64 11)), (2, .fv (.int .i64 25)), (3, .fv (.int .i64 15)), (4, .fv (.int .i64 10))]) 16780288 h154 fun x158 h159 _ _ => faddrS 0 x4 fun x162 => S16_188 h159 x162 ih x158 j1_20) (j1_20 x19 h154)
noncomputable def S16_190 (h3 : Hp) (x1 : IV) (x2 : IV) (x4 : IV) (x8 : IV) (n : Nat) (ih : Handler) (h16 : Hp) (x19 : IV) : Option (IV × Hp) :=
  (fun (j1_20 : IV → Hp → Option (IV × Hp)) => leS EE 3 x1 (.fv (.int .i64 0)) fun x140 => guardS x140 true h16 (fun k141 => k141 x19 h16 [] []) fun x142 h143 _ _ => guardS x140 true h143 (fun k146 => isoS [] false false ih 46 [x142] h143 k146) fun x147 h148 _ _ => guardS x140 true h148 (fun k151 => gtS EE 3 x147 (.fv (.int .i64 0)) fun x152 => k151 x152 h148 [] []) fun x153 h154 _ _ => S16_189 x140 x153 h154 x4 ih j1_20 x19) fun x21 h22 => S16_187 x21 h22 h3 x1 x2 x4 x8 n ih
noncomputable def S16 (ih : Handler) (n : Nat) (x0 : IV) (x1 : IV) (x2 : IV) (h3 : Hp) : Option (IV × Hp) :=
  boxS 16777216 x0 h3 fun x4 h5 _ _ => newS 16777217 (.row [.fv (.int .i64 0), .fv (.int .i64 0), .nils] false) (.ptr (.own 16777217) 0) h5 fun x8 h9 _ _ => faddrS 0 x4 fun x12 => load1 x12 h9 fun x13 _ => isoS [] false false ih 45 [x13, .fv (.int .i64 30)] h9 fun x15 h16 _ _ => addS EE 3 (.fv (.int .i64 1)) x15 fun x19 => S16_190 h3 x1 x2 x4 x8 n ih h16 x19
theorem S16_ok (ih : Handler) (n : Nat) (x0 : IV) (x1 : IV) (x2 : IV) (h3 : Hp) : funS EE ih ft.get n 16 [x0, x1, x2] h3 = S16 ih n x0 x1 x2 h3 := by kernel_rfl
noncomputable def S17_65 (h25 : Hp) (x7 : IV) (x29 : IV) : Option (IV × Hp) :=
  storeA 3 x7 x29 h25 fun h30 _ _ => cellS true 3 x7 h30 fun x33 => outS1 [x33, .fv (.int .i64 1)] h30
noncomputable def S17_66 (h51 : Hp) (x7 : IV) (x41 : IV) : Option (IV × Hp) :=
  cellS true 3 x7 h51 fun x54 => outS1 [x54, x41] h51
noncomputable def S17_67 (h58 : Hp) (x7 : IV) (x57 : IV) : Option (IV × Hp) :=
  storeA 3 x7 x57 h58 fun h61 _ _ => cellS true 3 x7 h61 fun x64 => outS1 [x64, .fv (.int .i64 0)] h61
noncomputable def S17_68 (x41 : IV) (h46 : Hp) (x7 : IV) (x42 : IV) (ih : Handler) : Option (IV × Hp) :=
  neS EE 35 x41 (.fv (.int .i64 0)) fun x49 => condS x49 (bldS [.fv (.int .i64 0), .fv (.int .i64 0), .nils] [] fun x50 => storeA 3 x7 x50 h46 fun h51 _ _ => S17_66 h51 x7 x41) (loadA 3 x42 h46 fun x55 _ => isoS [] false false ih 54 [x55] h46 fun x57 h58 _ _ => S17_67 h58 x7 x57)
noncomputable def S17_69 (ih : Handler) (h25 : Hp) (x0 : IV) (x34 : IV) (x7 : IV) : Option (IV × Hp) :=
  isoS [] false false ih 53 [x0, x34] h25 fun x36 h37 _ _ => extS 0 x36 fun x40 => extS 1 x36 fun x41 => newS 17828870 (.row [.fv (.int .i64 0), .fv (.int .i64 0), .nils] false) (.ptr (.own 17828870) 0) h37 fun x42 h43 _ _ => storeA 3 x42 x40 h43 fun h46 _ _ => S17_68 x41 h46 x7 x42 ih
noncomputable def S17_70 (h20 : Hp) (x17 : IV) (ih : Handler) (x19 : IV) (x7 : IV) (x3 : IV) (x0 : IV) : Option (IV × Hp) :=
  guardS x17 false h20 (fun k23 => isoS [] false false ih 50 [x19, .fv (.func (.func 51) [] [])] h20 k23) fun x24 h25 _ _ => pickS x17 (.fv (.bool true)) x24 fun x28 => condS x28 (bldS [.fv (.int .i64 0), .fv (.int .i64 0), .nils] [] fun x29 => S17_65 h25 x7 x29) (loadA 3 x3 h25 fun x34 _ => S17_69 ih h25 x0 x34 x7)
noncomputable def S17 (ih : Handler) (n : Nat) (x0 : IV) (x1 : IV) (h2 : Hp) : Option (IV × Hp) :=
  boxS 17825792 x1 h2 fun x3 h4 _ _ => newS 17825793 (.row [.fv (.int .i64 0), .fv (.int .i64 0), .nils] false) (.ptr (.own 17825793) 0) h4 fun x7 h8 _ _ => loadA 3 x3 h8 fun x11 _ => isoS [] false false ih 49 [x11] h8 fun x13 h14 _ _ => neS EE 35 x13 (.fv (.int .i64 0)) fun x17 => guardS x17 false h14 (fun k18 => k18 x0 h14 [] []) fun x19 h20 _ _ => S17_70 h20 x17 ih x19 x7 x3 x0
theorem S17_ok (ih : Handler) (n : Nat) (x0 : IV) (x1 : IV) (h2 : Hp) : funS EE ih ft.get n 17 [x0, x1] h2 = S17 ih n x0 x1 h2 := by kernel_rfl
noncomputable def S18_128 (x101 : IV) (q96 : List IV → Hp → Option (IV × Hp)) (h120 : Hp) (x99 : IV) (x100 : IV) : Option (IV × Hp) :=
  addS EE 3 x101 (.fv (.int .i64 1)) fun x124 => q96 [x99, x100, x124] h120
noncomputable def S18_129 (r118 : List Ref) (r112 : List Ref) (r109 : List Ref) (ih : Handler) (h98 : Hp) (x111 : IV) (x117 : IV) (x101 : IV) (q96 : List IV → Hp → Option (IV × Hp)) (x99 : IV) (x100 : IV) : Option (IV × Hp) :=
  chkS [(r112, []), (r109, [])] r118 [] (isoS [] false false ih 18 [x111, x117] h98 fun x119 h120 r121 w122 => chkS [] r121 w122 (optS (unR .not x119) fun x123 => condS x123 (outS1 [.fv (.bool false)] h120) (S18_128 x101 q96 h120 x99 x100)))
noncomputable def S18_130 (x100 : IV) (h98 : Hp) (r112 : List Ref) (r109 : List Ref) (x101 : IV) (ih : Handler) (x111 : IV) (q96 : List IV → Hp → Option (IV × Hp)) (x99 : IV) : Option (IV × Hp) :=
  faddrS 2 x100 fun x113 => load1 x113 h98 fun x114 r115 => chkS [(r112, []), (r109, [])] r115 [] (ixS 3 x114 x101 fun x116 => loadA 3 x116 h98 fun x117 r118 => S18_129 r118 r112 r109 ih h98 x111 x117 x101 q96 x99 x100)
noncomputable def S18_131 (h98 : Hp) (x107 : IV) (x101 : IV) (x100 : IV) (ih : Handler) (q96 : List IV → Hp → Option (IV × Hp)) (x99 : IV) : Option (IV × Hp) :=
  load1 x107 h98 fun x108 r109 => chkS [] r109 [] (ixS 3 x108 x101 fun x110 => loadA 3 x110 h98 fun x111 r112 => chkS [] r112 [] (S18_130 x100 h98 r112 r109 x101 ih x111 q96 x99))
noncomputable def S18_132 (x103 : IV) (x101 : IV) (x99 : IV) (h98 : Hp) (x100 : IV) (ih : Handler) (q96 : List IV → Hp → Option (IV × Hp)) : Option (IV × Hp) :=
  lenS x103 fun x105 => ltS EE 3 x101 x105 fun x106 => condS x106 (faddrS 2 x99 fun x107 => S18_131 h98 x107 x101 x100 ih q96 x99) (outS1 [.fv (.bool true)] h98)
noncomputable def S18_133 (l97 : List IV) (h98 : Hp) (ih : Handler) (q96 : List IV → Hp → Option (IV × Hp)) : Option (IV × Hp) :=
  uncS l97 fun x99 l125 => uncS l125 fun x100 l126 => uncS l126 fun x101 _ => faddrS 2 x99 fun x102 => load1 x102 h98 fun x103 _ => S18_132 x103 x101 x99 h98 x100 ih q96
noncomputable def S18_134 (x95 : IV) (h92 : Hp) (n : Nat) (x3 : IV) (x7 : IV) (ih : Handler) : Option (IV × Hp) :=
  condS x95 (outS1 [.fv (.bool false)] h92) (loopS n (fun q96 l97 h98 => S18_133 l97 h98 ih q96) [x3, x7, .fv (.int .i64 0)] h92)
noncomputable def S18_135 (h67 : Hp) (x50 : IV) (x7 : IV) (x66 : IV) (n : Nat) (x3 : IV) (ih : Handler) : Option (IV × Hp) :=
  guardS x50 false h67 (fun k70 => faddrS 2 x7 fun x71 => k70 x71 h67 [] []) fun x72 h73 _ _ => guardS x50 false h73 (fun k76 => load1 x72 h73 fun x77 r78 => k76 x77 h73 r78 []) fun x79 h80 _ _ => guardS x50 false h80 (fun k83 => lenS x79 fun x84 => k83 x84 h80 [] []) fun x85 h86 _ _ => guardS x50 false h86 (fun k89 => neS EE 3 x66 x85 fun x90 => k89 x90 h86 [] []) fun x91 h92 _ _ => pickS x50 (.fv (.bool true)) x91 fun x95 => S18_134 x95 h92 n x3 x7 ih
noncomputable def S18_136 (h41 : Hp) (x17 : IV) (x27 : IV) (x40 : IV) (x3 : IV) (x7 : IV) (n : Nat) (ih : Handler) : Option (IV × Hp) :=
  guardS x17 false h41 (fun k44 => neS EE 3 x27 x40 fun x45 => k44 x45 h41 [] []) fun x46 h47 _ _ => pickS x17 (.fv (.bool true)) x46 fun x50 => guardS x50 false h47 (fun k51 => faddrS 2 x3 fun x52 => k51 x52 h47 [] []) fun x53 h54 _ _ => guardS x50 false h54 (fun k57 => load1 x53 h54 fun x58 r59 => k57 x58 h54 r59 []) fun x60 h61 _ _ => guardS x50 false h61 (fun k64 => lenS x60 fun x65 => k64 x65 h61 [] []) fun x66 h67 _ _ => S18_135 h67 x50 x7 x66 n x3 ih
noncomputable def S18_137 (x12 : IV) (x15 : IV) (h8 : Hp) (x3 : IV) (x7 : IV) (n : Nat) (ih : Handler) : Option (IV × Hp) :=
  neS EE 3 x12 x15 fun x17 => guardS x17 false h8 (fun k18 => faddrS 1 x3 fun x19 => k18 x19 h8 [] []) fun x20 h21 _ _ => guardS x17 false h21 (fun k24 => load1 x20 h21 fun x25 r26 => k24 x25 h21 r26 []) fun x27 h28 _ _ => guardS x17 false h28 (fun k31 => faddrS 1 x7 fun x32 => k31 x32 h28 [] []) fun x33 h34 _ _ => guardS x17 false h34 (fun k37 => load1 x33 h34 fun x38 r39 => k37 x38 h34 r39 []) fun x40 h41 _ _ => S18_136 h41 x17 x27 x40 x3 x7 n ih
noncomputable def S18 (ih : Handler) (n : Nat) (x0 : IV) (x1 : IV) (h2 : Hp) : Option (IV × Hp) :=
  boxS 18874368 x0 h2 fun x3 h4 _ _ => boxS 18874369 x1 h4 fun x7 h8 _ _ => faddrS 0 x3 fun x11 => load1 x11 h8 fun x12 _ => faddrS 0 x7 fun x14 => load1 x14 h8 fun x15 _ => S18_137 x12 x15 h8 x3 x7 n ih
theorem S18_ok (ih : Handler) (n : Nat) (x0 : IV) (x1 : IV) (h2 : Hp) : funS EE ih ft.get n 18 [x0, x1] h2 = S18 ih n x0 x1 h2 := by kernel_rfl
noncomputable def S19_38 (h23 : Hp) (x7 : IV) (x27 : IV) (x18 : IV) : Option (IV × Hp) :=
  storeA 3 x7 x27 h23 fun h28 _ _ => cellS true 3 x7 h28 fun x31 => outS1 [x31, x18] h28
noncomputable def S19_39 (h23 : Hp) (x7 : IV) (x32 : IV) : Option (IV × Hp) :=
  storeA 3 x7 x32 h23 fun h34 _ _ => cellS true 3 x7 h34 fun x37 => outS1 [x37, .fv (.int .i64 0)] h34
noncomputable def S19_40 (h14 : Hp) (x17 : IV) (x18 : IV) (x7 : IV) : Option (IV × Hp) :=
  newS 19923974 (.row [.fv (.int .i64 0), .fv (.int .i64 0), .nils] false) (.ptr (.own 19923974) 0) h14 fun x19 h20 _ _ => storeA 3 x19 x17 h20 fun h23 _ _ => neS EE 3 x18 (.fv (.int .i64 0)) fun x26 => condS x26 (bldS [.fv (.int .i64 0), .fv (.int .i64 0), .nils] [] fun x27 => S19_38 h23 x7 x27 x18) (loadA 3 x19 h23 fun x32 _ => S19_39 h23 x7 x32)
noncomputable def S19 (ih : Handler) (n : Nat) (x0 : IV) (x1 : IV) (h2 : Hp) : Option (IV × Hp) :=
  boxS 19922944 x1 h2 fun x3 h4 _ _ => newS 19922945 (.row [.fv (.int .i64 0), .fv (.int .i64 0), .nils] false) (.ptr (.own 19922945) 0) h4 fun x7 h8 _ _ => loadA 3 x3 h8 fun x11 _ => isoS [] false false ih 55 [x0, x11] h8 fun x13 h14 _ _ => extS 0 x13 fun x17 => extS 1 x13 fun x18 => S19_40 h14 x17 x18 x7
theorem S19_ok (ih : Handler) (n : Nat) (x0 : IV) (x1 : IV) (h2 : Hp) : funS EE ih ft.get n 19 [x0, x1] h2 = S19 ih n x0 x1 h2 := by kernel_rfl
noncomputable def S20 (ih : Handler) (n : Nat) (x0 : IV) (h1 : Hp) : Option (IV × Hp) :=
  boxS 20971520 x0 h1 fun x2 h3 _ _ => loadA 3 x2 h3 fun x6 _ => isoS [] false false ih 52 [x6] h3 fun x8 h9 _ _ => outS1 [x8] h9
theorem S20_ok (ih : Handler) (n : Nat) (x0 : IV) (h1 : Hp) : funS EE ih ft.get n 20 [x0] h1 = S20 ih n x0 h1 := by kernel_rfl
noncomputable def S21_74 (x54 : IV) (q50 : List IV → Hp → Option (IV × Hp)) (h67 : Hp) (x53 : IV) : Option (IV × Hp) :=
  addS EE 3 x54 (.fv (.int .i64 1)) fun x71 => q50 [x53, x71] h67
noncomputable def S21_75 (x61 : IV) (x54 : IV) (h52 : Hp) (ih : Handler) (q50 : List IV → Hp → Option (IV × Hp)) (x53 : IV) : Option (IV × Hp) :=
  ixS 3 x61 x54 fun x63 => loadA 3 x63 h52 fun x64 _ => isoS [] false false ih 21 [x64] h52 fun x66 h67 _ _ => optS (unR .not x66) fun x70 => condS x70 (outS1 [.fv (.bool false)] h67) (S21_74 x54 q50 h67 x53)
noncomputable def S21_76 (x54 : IV) (x58 : IV) (x53 : IV) (h52 : Hp) (ih : Handler) (q50 : List IV → Hp → Option (IV × Hp)) : Option (IV × Hp) :=
  ltS EE 3 x54 x58 fun x59 => condS x59 (faddrS 2 x53 fun x60 => load1 x60 h52 fun x61 _ => S21_75 x61 x54 h52 ih q50 x53) (outS1 [.fv (.bool true)] h52)
noncomputable def S21_77 (l51 : List IV) (h52 : Hp) (ih : Handler) (q50 : List IV → Hp → Option (IV × Hp)) : Option (IV × Hp) :=
  uncS l51 fun x53 l72 => uncS l72 fun x54 _ => faddrS 2 x53 fun x55 => load1 x55 h52 fun x56 _ => lenS x56 fun x58 => S21_76 x54 x58 x53 h52 ih q50
noncomputable def S21_78 (x29 : IV) (x45 : IV) (h46 : Hp) (n : Nat) (x2 : IV) (ih : Handler) : Option (IV × Hp) :=
  pickS x29 x45 (.fv (.bool false)) fun x49 => condS x49 (outS1 [.fv (.bool false)] h46) (loopS n (fun q50 l51 h52 => S21_77 l51 h52 ih q50) [x2, .fv (.int .i64 0)] h46)
noncomputable def S21_79 (h20 : Hp) (x9 : IV) (x19 : IV) (x2 : IV) (n : Nat) (ih : Handler) : Option (IV × Hp) :=
  guardS x9 true h20 (fun k23 => neS EE 3 x19 (.fv (.int .i64 16)) fun x24 => k23 x24 h20 [] []) fun x25 h26 _ _ => pickS x9 x25 (.fv (.bool false)) fun x29 => guardS x29 true h26 (fun k30 => faddrS 0 x2 fun x31 => k30 x31 h26 [] []) fun x32 h33 _ _ => guardS x29 true h33 (fun k36 => load1 x32 h33 fun x37 r38 => k36 x37 h33 r38 []) fun x39 h40 _ _ => guardS x29 true h40 (fun k43 => neS EE 3 x39 (.fv (.int .i64 17)) fun x44 => k43 x44 h40 [] []) fun x45 h46 _ _ => S21_78 x29 x45 h46 n x2 ih
noncomputable def S21 (ih : Handler) (n : Nat) (x0 : IV) (h1 : Hp) : Option (IV × Hp) :=
  boxS 22020096 x0 h1 fun x2 h3 _ _ => faddrS 0 x2 fun x6 => load1 x6 h3 fun x7 _ => neS EE 3 x7 (.fv (.int .i64 15)) fun x9 => guardS x9 true h3 (fun k10 => faddrS 0 x2 fun x11 => k10 x11 h3 [] []) fun x12 h13 _ _ => guardS x9 true h13 (fun k16 => load1 x12 h13 fun x17 r18 => k16 x17 h13 r18 []) fun x19 h20 _ _ => S21_79 h20 x9 x19 x2 n ih
theorem S21_ok (ih : Handler) (n : Nat) (x0 : IV) (h1 : Hp) : funS EE ih ft.get n 21 [x0] h1 = S21 ih n x0 h1 := by kernel_rfl
noncomputable def S22_124 (h13 : Hp) (x12 : IV) (x17 : IV) : Option (IV × Hp) :=
  storeA 3 x12 x17 h13 fun h19 _ _ => cellS true 3 x12 h19 fun x22 => outS1 [x22] h19
noncomputable def S22_125 (x52 : IV) (x68 : IV) (x56 : IV) (q49 : List IV → Hp → Option (IV × Hp)) (h73 : Hp) (x53 : IV) (x54 : IV) (x55 : IV) : Option (IV × Hp) :=
  subS EE 3 x52 x68 fun x74 => addS EE 3 x56 (.fv (.int .i64 1)) fun x75 => q49 [x74, x53, x54, x55, x75] h73
noncomputable def S22_126 (r107 : List Ref) (w108 : List Ref) (r96 : List Ref) (x95 : IV) (x56 : IV) (h106 : Hp) (x105 : IV) (j0_72 : Hp → Option (IV × Hp)) : Option (IV × Hp) :=
  chkS [(r96, [])] r107 w108 (ixS 3 x95 x56 fun x109 => storeA 3 x109 x105 h106 fun h110 r111 w112 => chkS [] r111 w112 (j0_72 h110))
noncomputable def S22_127 (h90 : Hp) (x100 : IV) (r96 : List Ref) (x53 : IV) (r99 : List Ref) (ih : Handler) (x52 : IV) (x95 : IV) (x56 : IV) (j0_72 : Hp → Option (IV × Hp)) : Option (IV × Hp) :=
  loadA 3 x100 h90 fun x101 r102 => chkS [(r96, [])] r102 [] (loadA 3 x53 h90 fun x103 r104 => chkS [(r102, []), (r99, []), (r96, [])] r104 [] (isoS [] false false ih 22 [x101, x52, x103] h90 fun x105 h106 r107 w108 => S22_126 r107 w108 r96 x95 x56 h106 x105 j0_72))
noncomputable def S22_128 (r96 : List Ref) (x55 : IV) (h90 : Hp) (x56 : IV) (x53 : IV) (ih : Handler) (x52 : IV) (x95 : IV) (j0_72 : Hp → Option (IV × Hp)) : Option (IV × Hp) :=
  chkS [] r96 [] (faddrS 2 x55 fun x97 => load1 x97 h90 fun x98 r99 => chkS [(r96, [])] r99 [] (ixS 3 x98 x56 fun x100 => S22_127 h90 x100 r96 x53 r99 ih x52 x95 x56 j0_72))
noncomputable def S22_129 (x76 : IV) (x89 : IV) (x55 : IV) (h90 : Hp) (x56 : IV) (x53 : IV) (ih : Handler) (x52 : IV) (j0_72 : Hp → Option (IV × Hp)) : Option (IV × Hp) :=
  pickS x76 x89 (.fv (.bool false)) fun x93 => condS x93 (faddrS 2 x55 fun x94 => load1 x94 h90 fun x95 r96 => S22_128 r96 x55 h90 x56 x53 ih x52 x95 j0_72) (j0_72 h90)
noncomputable def S22_130 (x52 : IV) (x68 : IV) (x56 : IV) (q49 : List IV → Hp → Option (IV × Hp)) (x53 : IV) (x54 : IV) (x55 : IV) (h69 : Hp) (ih : Handler) : Option (IV × Hp) :=
  (fun (j0_72 : Hp → Option (IV × Hp)) => geS EE 3 x52 (.fv (.int .i64 0)) fun x76 => guardS x76 true h69 (fun k77 => k77 x52 h69 [] []) fun x78 h79 _ _ => guardS x76 true h79 (fun k82 => k82 x68 h79 [] []) fun x83 h84 _ _ => guardS x76 true h84 (fun k87 => ltS EE 3 x78 x83 fun x88 => k87 x88 h84 [] []) fun x89 h90 _ _ => S22_129 x76 x89 x55 h90 x56 x53 ih x52 j0_72) fun h73 => S22_125 x52 x68 x56 q49 h73 x53 x54 x55
noncomputable def S22_131 (x55 : IV) (h51 : Hp) (x56 : IV) (ih : Handler) (x52 : IV) (q49 : List IV → Hp → Option (IV × Hp)) (x53 : IV) (x54 : IV) : Option (IV × Hp) :=
  faddrS 2 x55 fun x62 => load1 x62 h51 fun x63 _ => ixS 3 x63 x56 fun x65 => loadA 3 x65 h51 fun x66 _ => isoS [] false false ih 24 [x66] h51 fun x68 h69 _ _ => S22_130 x52 x68 x56 q49 x53 x54 x55 h69 ih
noncomputable def S22_132 (h51 : Hp) (x55 : IV) (x54 : IV) : Option (IV × Hp) :=
  loadA 3 x55 h51 fun x113 _ => storeA 3 x54 x113 h51 fun h115 _ _ => cellS true 3 x54 h115 fun x118 => outS1 [x118] h115
noncomputable def S22_133 (x55 : IV) (h51 : Hp) (x56 : IV) (ih : Handler) (x52 : IV) (q49 : List IV → Hp → Option (IV × Hp)) (x53 : IV) (x54 : IV) : Option (IV × Hp) :=
  faddrS 2 x55 fun x57 => load1 x57 h51 fun x58 _ => lenS x58 fun x60 => ltS EE 3 x56 x60 fun x61 => condS x61 (S22_131 x55 h51 x56 ih x52 q49 x53 x54) (S22_132 h51 x55 x54)
noncomputable def S22_134 (l50 : List IV) (h51 : Hp) (ih : Handler) (q49 : List IV → Hp → Option (IV × Hp)) : Option (IV × Hp) :=
  uncS l50 fun x52 l119 => uncS l119 fun x53 l120 => uncS l120 fun x54 l121 => uncS l121 fun x55 l122 => uncS l122 fun x56 _ => S22_133 x55 h51 x56 ih x52 q49 x53 x54
noncomputable def S22_135 (r44 : List Ref) (w45 : List Ref) (r39 : List Ref) (w40 : List Ref) (r36 : List Ref) (r32 : List Ref) (w33 : List Ref) (r29 : List Ref) (r26 : List Ref) (h43 : Hp) (x42 : IV) (x41 : IV) (n : Nat) (x23 : IV) (x8 : IV) (x12 : IV) (ih : Handler) : Option (IV × Hp) :=
  chkS [(r39, w40), (r36, []), (r32, w33), (r29, []), (r26, [])] r44 w45 (storeA 3 x42 x41 h43 fun h46 r47 w48 => chkS [] r47 w48 (loopS n (fun q49 l50 h51 => S22_134 l50 h51 ih q49) [x23, x8, x12, x42, .fv (.int .i64 0)] h46))
noncomputable def S22_136 (r36 : List Ref) (r32 : List Ref) (w33 : List Ref) (r29 : List Ref) (r26 : List Ref) (h31 : Hp) (x30 : IV) (x35 : IV) (x25 : IV) (x28 : IV) (n : Nat) (x23 : IV) (x8 : IV) (x12 : IV) (ih : Handler) : Option (IV × Hp) :=
  chkS [(r32, w33), (r29, []), (r26, [])] r36 [] (genS (builtinR EE 23072775 true .append [28, 28] [x30, x35]) 23072775 h31 fun x37 h38 r39 w40 => chkS [(r29, []), (r26, [])] r39 w40 (bldS [.fv (.int .i64 0), .fv (.int .i64 0), .nils] [(0, 1, x25), (1, 1, x28), (2, 1, x37)] fun x41 => newS 23072777 (.row [.fv (.int .i64 0), .fv (.int .i64 0), .nils] false) (.ptr (.own 23072777) 0) h38 fun x42 h43 r44 w45 => S22_135 r44 w45 r39 w40 r36 r32 w33 r29 r26 h43 x42 x41 n x23 x8 x12 ih))
noncomputable def S22_137 (r29 : List Ref) (r26 : List Ref) (h13 : Hp) (x4 : IV) (x25 : IV) (x28 : IV) (n : Nat) (x23 : IV) (x8 : IV) (x12 : IV) (ih : Handler) : Option (IV × Hp) :=
  chkS [(r26, [])] r29 [] (genS (pcBuildSlice EE 28 0 []) 23072772 h13 fun x30 h31 r32 w33 => chkS [(r29, []), (r26, [])] r32 w33 (faddrS 2 x4 fun x34 => load1 x34 h31 fun x35 r36 => S22_136 r36 r32 w33 r29 r26 h31 x30 x35 x25 x28 n x23 x8 x12 ih))
noncomputable def S22_138 (x4 : IV) (h13 : Hp) (n : Nat) (x23 : IV) (x8 : IV) (x12 : IV) (ih : Handler) : Option (IV × Hp) :=
  faddrS 0 x4 fun x24 => load1 x24 h13 fun x25 r26 => chkS [] r26 [] (faddrS 1 x4 fun x27 => load1 x27 h13 fun x28 r29 => S22_137 r29 r26 h13 x4 x25 x28 n x23 x8 x12 ih)
noncomputable def S22 (ih : Handler) (n : Nat) (x0 : IV) (x1 : IV) (x2 : IV) (h3 : Hp) : Option (IV × Hp) :=
  boxS 23068672 x0 h3 fun x4 h5 _ _ => boxS 23068673 x2 h5 fun x8 h9 _ _ => newS 23068674 (.row [.fv (.int .i64 0), .fv (.int .i64 0), .nils] false) (.ptr (.own 23068674) 0) h9 fun x12 h13 _ _ => eqS EE 3 x1 (.fv (.int .i64 0)) fun x16 => condS x16 (loadA 3 x8 h13 fun x17 _ => S22_124 h13 x12 x17) (subS EE 3 x1 (.fv (.int .i64 1)) fun x23 => S22_138 x4 h13 n x23 x8 x12 ih)
theorem S22_ok (ih : Handler) (n : Nat) (x0 : IV) (x1 : IV) (x2 : IV) (h3 : Hp) : funS EE ih ft.get n 22 [x0, x1, x2] h3 = S22 ih n x0 x1 x2 h3 := by kernel_rfl
noncomputable def S23 (ih : Handler) (n : Nat) (x0 : IV) (x1 : IV) (h2 : Hp) : Option (IV × Hp) :=
  binS EE 3 .rem x0 x1 fun x3 => (fun (j1_4 : IV → Hp → Option (IV × Hp)) => ltS EE 3 x3 (.fv (.int .i64 0)) fun x7 => condS x7 (addS EE 3 x3 x1 fun x8 => j1_4 x8 h2) (j1_4 x3 h2)) fun x5 h6 => outS1 [x5] h6
theorem S23_ok (ih : Handler) (n : Nat) (x0 : IV) (x1 : IV) (h2 : Hp) : funS EE ih ft.get n 23 [x0, x1] h2 = S23 ih n x0 x1 h2 := by kernel_rfl
noncomputable def S24_32 (x11 : IV) (q6 : List IV → Hp → Option (IV × Hp)) (h24 : Hp) (x9 : IV) (x27 : IV) : Option (IV × Hp) :=
  addS EE 3 x11 (.fv (.int .i64 1)) fun x28 => q6 [x9, x27, x28] h24
noncomputable def S24_33 (h8 : Hp) (x17 : IV) (x11 : IV) (ih : Handler) (x10 : IV) (q6 : List IV → Hp → Option (IV × Hp)) (x9 : IV) : Option (IV × Hp) :=
  load1 x17 h8 fun x18 _ => ixS 3 x18 x11 fun x20 => loadA 3 x20 h8 fun x21 _ => isoS [] false false ih 24 [x21] h8 fun x23 h24 _ _ => addS EE 3 x10 x23 fun x27 => S24_32 x11 q6 h24 x9 x27
noncomputable def S24_34 (x13 : IV) (x11 : IV) (x9 : IV) (h8 : Hp) (ih : Handler) (x10 : IV) (q6 : List IV → Hp → Option (IV × Hp)) : Option (IV × Hp) :=
  lenS x13 fun x15 => ltS EE 3 x11 x15 fun x16 => condS x16 (faddrS 2 x9 fun x17 => S24_33 h8 x17 x11 ih x10 q6 x9) (outS1 [x10] h8)
noncomputable def S24_35 (l7 : List IV) (h8 : Hp) (ih : Handler) (q6 : List IV → Hp → Option (IV × Hp)) : Option (IV × Hp) :=
  uncS l7 fun x9 l29 => uncS l29 fun x10 l30 => uncS l30 fun x11 _ => faddrS 2 x9 fun x12 => load1 x12 h8 fun x13 _ => S24_34 x13 x11 x9 h8 ih x10 q6
noncomputable def S24 (ih : Handler) (n : Nat) (x0 : IV) (h1 : Hp) : Option (IV × Hp) :=
  boxS 25165824 x0 h1 fun x2 h3 _ _ => loopS n (fun q6 l7 h8 => S24_35 l7 h8 ih q6) [x2, .fv (.int .i64 1), .fv (.int .i64 0)] h3
theorem S24_ok (ih : Handler) (n : Nat) (x0 : IV) (h1 : Hp) : funS EE ih ft.get n 24 [x0] h1 = S24 ih n x0 h1 := by kernel_rfl
noncomputable def S25_21 (x17 : IV) (h14 : Hp) : Option (IV × Hp) :=
  faddrS 1 x17 fun x18 => load1 x18 h14 fun x19 _ => outS1 [x19] h14
noncomputable def S25 (ih : Handler) (n : Nat) (x0 : IV) (h1 : Hp) : Option (IV × Hp) :=
  boxS 26214400 x0 h1 fun x2 h3 _ _ => bldS [.fv (.int .i64 0), .fv (.int .i64 0)] [] fun x6 => boxS 26215425 x6 h3 fun x7 h8 _ _ => loadA 3 x2 h8 fun x11 _ => isoS [true, false, false] false false ih 56 [x7, x11, .fv (.int .i64 1)] h8 fun _ h14 _ _ => nilS x7 fun x17 => S25_21 x17 h14
theorem S25_ok (ih : Handler) (n : Nat) (x0 : IV) (h1 : Hp) : funS EE ih ft.get n 25 [x0] h1 = S25 ih n x0 h1 := by kernel_rfl
noncomputable def S26_324 (ih : Handler) (h9 : Hp) (x8 : IV) : Option (IV × Hp) :=
  isoS [] false false ih 57 [.fv (.int .i64 8)] h9 fun x21 h22 _ _ => extS 0 x21 fun x25 => extS 1 x21 fun x26 => storeA 3 x8 x25 h22 fun h27 _ _ => cellS true 3 x8 h27 fun x30 => outS1 [x30, x26] h27
noncomputable def S26_325 (x51 : IV) (h52 : Hp) (x8 : IV) : Option (IV × Hp) :=
  extS 0 x51 fun x55 => extS 1 x51 fun x56 => storeA 3 x8 x55 h52 fun h57 _ _ => cellS true 3 x8 h57 fun x60 => outS1 [x60, x56] h57
noncomputable def S26_326 (ih : Handler) (h69 : Hp) (x68 : IV) (x8 : IV) : Option (IV × Hp) :=
  isoS [] false false ih 58 [x68] h69 fun x72 h73 _ _ => extS 0 x72 fun x76 => extS 1 x72 fun x77 => storeA 3 x8 x76 h73 fun h78 _ _ => cellS true 3 x8 h78 fun x81 => outS1 [x81, x77] h78
noncomputable def S26_327 (h44 : Hp) (x61 : IV) (x4 : IV) (ih : Handler) (x8 : IV) : Option (IV × Hp) :=
  loadA 3 x61 h44 fun x62 _ => faddrS 1 x4 fun x64 => load1 x64 h44 fun x65 _ => addS EE 3 x65 (.fv (.int .i64 1)) fun x67 => isoS [] false false ih 28 [x62, x67, .fv (.int .i64 0)] h44 fun x68 h69 _ _ => S26_326 ih h69 x68 x8
noncomputable def S26_328 (h44 : Hp) (x47 : IV) (x1 : IV) (ih : Handler) (x8 : IV) (x40 : IV) (x4 : IV) : Option (IV × Hp) :=
  load1 x47 h44 fun x48 _ => neS EE 3 x48 x1 fun x50 => condS x50 (isoS [] false false ih 57 [.fv (.int .i64 10)] h44 fun x51 h52 _ _ => S26_325 x51 h52 x8) (faddrS 1 x40 fun x61 => S26_327 h44 x61 x4 ih x8)
noncomputable def S26_329 (x0 : IV) (x36 : IV) (h9 : Hp) (x1 : IV) (ih : Handler) (x8 : IV) (x4 : IV) : Option (IV × Hp) :=
  ixS 4 x0 x36 fun x37 => loadA 4 x37 h9 fun x38 _ => newS 27267081 (.row [.fv (.int .i64 0), .fv (.int .i64 0), .fv (.int .i64 0), .nils] false) (.ptr (.own 27267081) 0) h9 fun x40 h41 _ _ => storeA 4 x40 x38 h41 fun h44 _ _ => faddrS 0 x40 fun x47 => S26_328 h44 x47 x1 ih x8 x40 x4
noncomputable def S26_330 (x0 : IV) (x4 : IV) (h9 : Hp) (x1 : IV) (ih : Handler) (x8 : IV) : Option (IV × Hp) :=
  lenS x0 fun x31 => subS EE 3 x31 (.fv (.int .i64 1)) fun x32 => faddrS 1 x4 fun x33 => load1 x33 h9 fun x34 _ => subS EE 3 x32 x34 fun x36 => S26_329 x0 x36 h9 x1 ih x8 x4
noncomputable def S26_331 (x4 : IV) (h9 : Hp) (x0 : IV) (ih : Handler) (x8 : IV) (x1 : IV) : Option (IV × Hp) :=
  faddrS 1 x4 fun x16 => load1 x16 h9 fun x17 _ => lenS x0 fun x19 => geS EE 3 x17 x19 fun x20 => condS x20 (S26_324 ih h9 x8) (S26_330 x0 x4 h9 x1 ih x8)
noncomputable def S26_332 (x88 : IV) (h89 : Hp) (x8 : IV) (x92 : IV) : Option (IV × Hp) :=
  extS 1 x88 fun x93 => storeA 3 x8 x92 h89 fun h94 _ _ => cellS true 3 x8 h94 fun x97 => outS1 [x97, x93] h94
noncomputable def S26_333 (h107 : Hp) (x8 : IV) (x106 : IV) : Option (IV × Hp) :=
  cellS true 3 x8 h107 fun x110 => outS1 [x110, x106] h107
noncomputable def S26_334 (h9 : Hp) (x4 : IV) (ih : Handler) (x0 : IV) (x8 : IV) : Option (IV × Hp) :=
  loadA 3 x4 h9 fun x99 _ => isoS [] false false ih 59 [x0, x99] h9 fun x101 h102 _ _ => extS 0 x101 fun x105 => extS 1 x101 fun x106 => storeA 3 x8 x105 h102 fun h107 _ _ => S26_333 h107 x8 x106
noncomputable def S26_335 (x119 : IV) (h120 : Hp) (x8 : IV) : Option (IV × Hp) :=
  extS 0 x119 fun x123 => extS 1 x119 fun x124 => storeA 3 x8 x123 h120 fun h125 _ _ => cellS true 3 x8 h125 fun x128 => outS1 [x128, x124] h125
noncomputable def S26_336 (h9 : Hp) (x129 : IV) (ih : Handler) (x8 : IV) : Option (IV × Hp) :=
  load1 x129 h9 fun x130 _ => addS EE 3 x130 (.fv (.int .i64 1)) fun x132 => isoS [] false false ih 60 [x132] h9 fun x133 h134 _ _ => storeA 3 x8 x133 h134 fun h137 _ _ => cellS true 3 x8 h137 fun x140 => outS1 [x140, .fv (.int .i64 0)] h137
noncomputable def S26_337 (h9 : Hp) (x115 : IV) (ih : Handler) (x8 : IV) (x4 : IV) : Option (IV × Hp) :=
  load1 x115 h9 fun x116 _ => eqS EE 3 x116 (.fv (.int .i64 2)) fun x118 => condS x118 (isoS [] false false ih 57 [.fv (.int .i64 13)] h9 fun x119 h120 _ _ => S26_335 x119 h120 x8) (faddrS 1 x4 fun x129 => S26_336 h9 x129 ih x8)
noncomputable def S26_338 (h148 : Hp) (x8 : IV) : Option (IV × Hp) :=
  cellS true 3 x8 h148 fun x151 => outS1 [x151, .fv (.int .i64 0)] h148
noncomputable def S26_339 (ih : Handler) (h143 : Hp) (x8 : IV) : Option (IV × Hp) :=
  isoS [] false false ih 30 [.fv (.int .i64 10), .nils] h143 fun x153 h154 _ _ => storeA 3 x8 x153 h154 fun h157 _ _ => cellS true 3 x8 h157 fun x160 => outS1 [x160, .fv (.int .i64 0)] h157
noncomputable def S26_340 (ih : Handler) (h173 : Hp) (x172 : IV) (x8 : IV) : Option (IV × Hp) :=
  isoS [] false false ih 57 [x172] h173 fun x177 h178 _ _ => extS 0 x177 fun x181 => extS 1 x177 fun x182 => storeA 3 x8 x181 h178 fun h183 _ _ => cellS true 3 x8 h183 fun x186 => outS1 [x186, x182] h183
noncomputable def S26_341 (ih : Handler) (h173 : Hp) (x8 : IV) : Option (IV × Hp) :=
  isoS [] false false ih 30 [.fv (.int .i64 10), .nils] h173 fun x187 h188 _ _ => storeA 3 x8 x187 h188 fun h191 _ _ => cellS true 3 x8 h191 fun x194 => outS1 [x194, .fv (.int .i64 0)] h191
noncomputable def S26_342 (r170 : List Ref) (w171 : List Ref) (r167 : List Ref) (r164 : List Ref) (ih : Handler) (h169 : Hp) (x0 : IV) (x166 : IV) (x168 : IV) (x8 : IV) : Option (IV × Hp) :=
  chkS [(r167, []), (r164, [])] r170 w171 (isoS [] false false ih 61 [x0, .fv (.int .i64 1), x166, x168] h169 fun x172 h173 r174 w175 => chkS [] r174 w175 (neS EE 3 x172 (.fv (.int .i64 0)) fun x176 => condS x176 (S26_340 ih h173 x172 x8) (S26_341 ih h173 x8)))
noncomputable def S26_343 (r164 : List Ref) (x163 : IV) (h143 : Hp) (ih : Handler) (x0 : IV) (x8 : IV) : Option (IV × Hp) :=
  chkS [] r164 [] (ixS 3 x163 (.fv (.int .i64 0)) fun x165 => loadA 3 x165 h143 fun x166 r167 => chkS [] r167 [] (isoS [] false false ih 30 [.fv (.int .i64 10), .nils] h143 fun x168 h169 r170 w171 => S26_342 r170 w171 r167 r164 ih h169 x0 x166 x168 x8))
noncomputable def S26_344 (x210 : IV) (h211 : Hp) (x8 : IV) (x214 : IV) : Option (IV × Hp) :=
  extS 1 x210 fun x215 => storeA 3 x8 x214 h211 fun h216 _ _ => cellS true 3 x8 h216 fun x219 => outS1 [x219, x215] h216
noncomputable def S26_345 (h224 : Hp) (x8 : IV) : Option (IV × Hp) :=
  cellS true 3 x8 h224 fun x227 => outS1 [x227, .fv (.int .i64 0)] h224
noncomputable def S26_346 (x205 : IV) (ih : Handler) (h206 : Hp) (x8 : IV) : Option (IV × Hp) :=
  neS EE 3 x205 (.fv (.int .i64 0)) fun x209 => condS x209 (isoS [] false false ih 57 [x205] h206 fun x210 h211 _ _ => extS 0 x210 fun x214 => S26_344 x210 h211 x8 x214) (isoS [] false false ih 30 [.fv (.int .i64 14), .nils] h206 fun x220 h221 _ _ => storeA 3 x8 x220 h221 fun h224 _ _ => S26_345 h224 x8)
noncomputable def S26_347 (r200 : List Ref) (ih : Handler) (h197 : Hp) (x0 : IV) (x199 : IV) (x8 : IV) : Option (IV × Hp) :=
  chkS [] r200 [] (isoS [] false false ih 30 [.fv (.int .i64 14), .nils] h197 fun x201 h202 r203 w204 => chkS [(r200, [])] r203 w204 (isoS [] false false ih 62 [x0, .fv (.int .i64 1), x199, x201] h202 fun x205 h206 r207 w208 => chkS [] r207 w208 (S26_346 x205 ih h206 x8)))
noncomputable def S26_348 (x244 : IV) (h245 : Hp) (x8 : IV) (x248 : IV) : Option (IV × Hp) :=
  extS 1 x244 fun x249 => storeA 3 x8 x248 h245 fun h250 _ _ => cellS true 3 x8 h250 fun x253 => outS1 [x253, x249] h250
noncomputable def S26_349 (h258 : Hp) (x8 : IV) : Option (IV × Hp) :=
  cellS true 3 x8 h258 fun x261 => outS1 [x261, .fv (.int .i64 0)] h258
noncomputable def S26_350 (x239 : IV) (ih : Handler) (h240 : Hp) (x8 : IV) : Option (IV × Hp) :=
  neS EE 3 x239 (.fv (.int .i64 0)) fun x243 => condS x243 (isoS [] false false ih 57 [x239] h240 fun x244 h245 _ _ => extS 0 x244 fun x248 => S26_348 x244 h245 x8 x248) (isoS [] false false ih 60 [.fv (.int .i64 0)] h240 fun x254 h255 _ _ => storeA 3 x8 x254 h255 fun h258 _ _ => S26_349 h258 x8)
noncomputable def S26_351 (r234 : List Ref) (ih : Handler) (h197 : Hp) (r231 : List Ref) (x0 : IV) (x233 : IV) (x8 : IV) : Option (IV × Hp) :=
  chkS [] r234 [] (isoS [] false false ih 30 [.fv (.int .i64 14), .nils] h197 fun x235 h236 r237 w238 => chkS [(r234, []), (r231, [])] r237 w238 (isoS [] false false ih 61 [x0, .fv (.int .i64 1), x233, x235] h236 fun x239 h240 r241 w242 => chkS [] r241 w242 (S26_350 x239 ih h240 x8)))
noncomputable def S26_352 (x4 : IV) (h197 : Hp) (ih : Handler) (x0 : IV) (x8 : IV) : Option (IV × Hp) :=
  faddrS 2 x4 fun x229 => load1 x229 h197 fun x230 r231 => chkS [] r231 [] (ixS 3 x230 (.fv (.int .i64 0)) fun x232 => loadA 3 x232 h197 fun x233 r234 => S26_351 r234 ih h197 r231 x0 x233 x8)
noncomputable def S26_353 (x283 : IV) (h284 : Hp) (x8 : IV) : Option (IV × Hp) :=
  extS 0 x283 fun x287 => extS 1 x283 fun x288 => storeA 3 x8 x287 h284 fun h289 _ _ => cellS true 3 x8 h289 fun x292 => outS1 [x292, x288] h289
noncomputable def S26_354 (h279 : Hp) (x293 : IV) (ih : Handler) (x8 : IV) : Option (IV × Hp) :=
  genS (pcBuildSlice EE 28 1 [(0, x293)]) 27307009 h279 fun x295 h296 _ _ => isoS [] false false ih 30 [.fv (.int .i64 18), x295] h296 fun x299 h300 _ _ => storeA 3 x8 x299 h300 fun h303 _ _ => cellS true 3 x8 h303 fun x306 => outS1 [x306, .fv (.int .i64 0)] h303
noncomputable def S26_355 (h270 : Hp) (x273 : IV) (x274 : IV) (ih : Handler) (x8 : IV) : Option (IV × Hp) :=
  newS 27303945 (.row [.fv (.int .i64 0), .fv (.int .i64 0), .nils] false) (.ptr (.own 27303945) 0) h270 fun x275 h276 _ _ => storeA 3 x275 x273 h276 fun h279 _ _ => neS EE 3 x274 (.fv (.int .i64 0)) fun x282 => condS x282 (isoS [] false false ih 57 [x274] h279 fun x283 h284 _ _ => S26_353 x283 h284 x8) (loadA 3 x275 h279 fun x293 _ => S26_354 h279 x293 ih x8)
noncomputable def S26_356 (x264 : IV) (h197 : Hp) (ih : Handler) (x0 : IV) (x8 : IV) : Option (IV × Hp) :=
  ixS 3 x264 (.fv (.int .i64 0)) fun x266 => loadA 3 x266 h197 fun x267 _ => isoS [] false false ih 26 [x0, .fv (.int .i64 0), x267] h197 fun x269 h270 _ _ => extS 0 x269 fun x273 => extS 1 x269 fun x274 => S26_355 h270 x273 x274 ih x8
noncomputable def S26_357 (x309 : IV) (h310 : Hp) (x8 : IV) : Option (IV × Hp) :=
  extS 0 x309 fun x313 => extS 1 x309 fun x314 => storeA 3 x8 x313 h310 fun h315 _ _ => cellS true 3 x8 h315 fun x318 => outS1 [x318, x314] h315
noncomputable def S26_358 (x112 : IV) (x4 : IV) (h197 : Hp) (ih : Handler) (x0 : IV) (x8 : IV) : Option (IV × Hp) :=
  eqS EE 3 x112 (.fv (.int .i64 19)) fun x262 => condS x262 (faddrS 2 x4 fun x263 => load1 x263 h197 fun x264 _ => S26_356 x264 h197 ih x0 x8) (loadA 3 x4 h197 fun x307 _ => isoS [] false false ih 63 [x0, x307] h197 fun x309 h310 _ _ => S26_357 x309 h310 x8)
noncomputable def S26_359 (x196 : IV) (x4 : IV) (h197 : Hp) (ih : Handler) (x0 : IV) (x8 : IV) (x112 : IV) : Option (IV × Hp) :=
  condS x196 (faddrS 2 x4 fun x198 => load1 x198 h197 fun x199 r200 => S26_347 r200 ih h197 x0 x199 x8) (eqS EE 3 x112 (.fv (.int .i64 18)) fun x228 => condS x228 (S26_352 x4 h197 ih x0 x8) (S26_358 x112 x4 h197 ih x0 x8))
noncomputable def S26_360 (x112 : IV) (j1_195 : IV → Hp → Option (IV × Hp)) (h143 : Hp) : Option (IV × Hp) :=
  eqS EE 3 x112 (.fv (.int .i64 17)) fun x321 => j1_195 x321 h143
noncomputable def S26_361 (x319 : IV) (j1_195 : IV → Hp → Option (IV × Hp)) (h143 : Hp) (x112 : IV) : Option (IV × Hp) :=
  condS x319 (j1_195 x319 h143) (eqS EE 3 x112 (.fv (.int .i64 16)) fun x320 => condS x320 (j1_195 x320 h143) (S26_360 x112 j1_195 h143))
noncomputable def S26_362 (x112 : IV) (x4 : IV) (h143 : Hp) (ih : Handler) (x0 : IV) (x8 : IV) : Option (IV × Hp) :=
  eqS EE 3 x112 (.fv (.int .i64 12)) fun x161 => condS x161 (faddrS 2 x4 fun x162 => load1 x162 h143 fun x163 r164 => S26_343 r164 x163 h143 ih x0 x8) ((fun (j1_195 : IV → Hp → Option (IV × Hp)) => eqS EE 3 x112 (.fv (.int .i64 15)) fun x319 => S26_361 x319 j1_195 h143 x112) fun x196 h197 => S26_359 x196 x4 h197 ih x0 x8 x112)
noncomputable def S26_363 (x142 : IV) (ih : Handler) (h143 : Hp) (x8 : IV) (x112 : IV) (x4 : IV) (x0 : IV) : Option (IV × Hp) :=
  condS x142 (isoS [] false false ih 60 [.fv (.int .i64 0)] h143 fun x144 h145 _ _ => storeA 3 x8 x144 h145 fun h148 _ _ => S26_338 h148 x8) (eqS EE 3 x112 (.fv (.int .i64 11)) fun x152 => condS x152 (S26_339 ih h143 x8) (S26_362 x112 x4 h143 ih x0 x8))
noncomputable def S26_364 (x112 : IV) (j1_141 : IV → Hp → Option (IV × Hp)) (h9 : Hp) : Option (IV × Hp) :=
  eqS EE 3 x112 (.fv (.int .i64 10)) fun x322 => condS x322 (j1_141 x322 h9) (eqS EE 3 x112 (.fv (.int .i64 14)) fun x323 => j1_141 x323 h9)
noncomputable def S26_365 (x4 : IV) (h9 : Hp) (ih : Handler) (x8 : IV) (x0 : IV) : Option (IV × Hp) :=
  faddrS 0 x4 fun x111 => load1 x111 h9 fun x112 _ => eqS EE 3 x112 (.fv (.int .i64 2)) fun x114 => condS x114 (faddrS 1 x4 fun x115 => S26_337 h9 x115 ih x8 x4) ((fun (j1_141 : IV → Hp → Option (IV × Hp)) => S26_364 x112 j1_141 h9) fun x142 h143 => S26_363 x142 ih h143 x8 x112 x4 x0)
noncomputable def S26_366 (x87 : IV) (ih : Handler) (h9 : Hp) (x8 : IV) (x1 : IV) (x4 : IV) (x0 : IV) : Option (IV × Hp) :=
  condS x87 (isoS [] false false ih 57 [.fv (.int .i64 10)] h9 fun x88 h89 _ _ => extS 0 x88 fun x92 => S26_332 x88 h89 x8 x92) (eqS EE 3 x1 (.fv (.int .i64 0)) fun x98 => condS x98 (S26_334 h9 x4 ih x0 x8) (S26_365 x4 h9 ih x8 x0))
noncomputable def S26_367 (x4 : IV) (h9 : Hp) (x1 : IV) (ih : Handler) (x8 : IV) (x0 : IV) : Option (IV × Hp) :=
  faddrS 0 x4 fun x82 => load1 x82 h9 fun x83 _ => geS EE 3 x83 (.fv (.int .i64 20)) fun x85 => eqS EE 3 x1 (.fv (.int .i64 0)) fun x86 => neS EE 4 x85 x86 fun x87 => S26_366 x87 ih h9 x8 x1 x4 x0
noncomputable def S26 (ih : Handler) (n : Nat) (x0 : IV) (x1 : IV) (x2 : IV) (h3 : Hp) : Option (IV × Hp) :=
  boxS 27262976 x2 h3 fun x4 h5 _ _ => newS 27262977 (.row [.fv (.int .i64 0), .fv (.int .i64 0), .nils] false) (.ptr (.own 27262977) 0) h5 fun x8 h9 _ _ => faddrS 0 x4 fun x12 => load1 x12 h9 fun x13 _ => eqS EE 3 x13 (.fv (.int .i64 1)) fun x15 => condS x15 (S26_331 x4 h9 x0 ih x8 x1) (S26_367 x4 h9 x1 ih x8 x0)
theorem S26_ok (ih : Handler) (n : Nat) (x0 : IV) (x1 : IV) (x2 : IV) (h3 : Hp) : funS EE ih ft.get n 26 [x0, x1, x2] h3 = S26 ih n x0 x1 x2 h3 := by kernel_rfl
noncomputable def S28_127 (h68 : Hp) (x71 : IV) (x67 : IV) (x36 : IV) (h3 : Hp) (x31 : IV) (x32 : IV) (x33 : IV) (x34 : IV) (x35 : IV) (q28 : List IV → Hp → Option (IV × Hp)) : Option (IV × Hp) :=
  store1 x71 x67 h68 fun h72 r73 w74 => chkS [] r73 w74 (addS EE 3 x36 (.fv (.int .i64 1)) fun x75 => dropS (h3.own.map (·.1)) [29367312] [x31, x32, x33, x34, x35, x75] h72 fun h76 => q28 [x31, x32, x33, x34, x35, x75] h76)
noncomputable def S28_128 (h60 : Hp) (x59 : IV) (r44 : List Ref) (x43 : IV) (x35 : IV) (x36 : IV) (h3 : Hp) (x31 : IV) (x32 : IV) (x33 : IV) (x34 : IV) (q28 : List IV → Hp → Option (IV × Hp)) : Option (IV × Hp) :=
  genS (pcBuildSlice EE 28 1 [(0, x59)]) 29367311 h60 fun x63 h64 r65 w66 => chkS [(r44, [])] r65 w66 (genS (builtinR EE 29367312 false .append [28, 28] [x43, x63]) 29367312 h64 fun x67 h68 r69 w70 => chkS [] r69 w70 (faddrS 2 x35 fun x71 => S28_127 h68 x71 x67 x36 h3 x31 x32 x33 x34 x35 q28))
noncomputable def S28_129 (ih : Handler) (h30 : Hp) (x52 : IV) (x36 : IV) (r50 : List Ref) (r47 : List Ref) (r44 : List Ref) (x32 : IV) (x49 : IV) (x31 : IV) (x43 : IV) (x35 : IV) (h3 : Hp) (x33 : IV) (x34 : IV) (q28 : List IV → Hp → Option (IV × Hp)) : Option (IV × Hp) :=
  isoS [] false false ih 48 [x52, x36] h30 fun x54 h55 r56 w57 => chkS [(r50, []), (r47, []), (r44, [])] r56 w57 (addS EE 3 x32 x54 fun x58 => isoS [] false false ih 28 [x49, x31, x58] h55 fun x59 h60 r61 w62 => chkS [(r44, [])] r61 w62 (S28_128 h60 x59 r44 x43 x35 x36 h3 x31 x32 x33 x34 q28))
noncomputable def S28_130 (h30 : Hp) (x48 : IV) (r44 : List Ref) (x33 : IV) (r47 : List Ref) (ih : Handler) (x36 : IV) (x32 : IV) (x31 : IV) (x43 : IV) (x35 : IV) (h3 : Hp) (x34 : IV) (q28 : List IV → Hp → Option (IV × Hp)) : Option (IV × Hp) :=
  loadA 3 x48 h30 fun x49 r50 => chkS [(r44, [])] r50 [] (faddrS 0 x33 fun x51 => load1 x51 h30 fun x52 r53 => chkS [(r50, []), (r47, []), (r44, [])] r53 [] (S28_129 ih h30 x52 x36 r50 r47 r44 x32 x49 x31 x43 x35 h3 x33 x34 q28))
noncomputable def S28_131 (r44 : List Ref) (x33 : IV) (h30 : Hp) (x36 : IV) (ih : Handler) (x32 : IV) (x31 : IV) (x43 : IV) (x35 : IV) (h3 : Hp) (x34 : IV) (q28 : List IV → Hp → Option (IV × Hp)) : Option (IV × Hp) :=
  chkS [] r44 [] (faddrS 2 x33 fun x45 => load1 x45 h30 fun x46 r47 => chkS [(r44, [])] r47 [] (ixS 3 x46 x36 fun x48 => S28_130 h30 x48 r44 x33 r47 ih x36 x32 x31 x43 x35 h3 x34 q28))
noncomputable def S28_132 (h79 : Hp) (x34 : IV) : Option (IV × Hp) :=
  cellS true 3 x34 h79 fun x82 => outS1 [x82] h79
noncomputable def S28_133 (x41 : IV) (x35 : IV) (h30 : Hp) (x33 : IV) (x36 : IV) (ih : Handler) (x32 : IV) (x31 : IV) (h3 : Hp) (x34 : IV) (q28 : List IV → Hp → Option (IV × Hp)) : Option (IV × Hp) :=
  condS x41 (faddrS 2 x35 fun x42 => load1 x42 h30 fun x43 r44 => S28_131 r44 x33 h30 x36 ih x32 x31 x43 x35 h3 x34 q28) (loadA 3 x35 h30 fun x77 _ => storeA 3 x34 x77 h30 fun h79 _ _ => S28_132 h79 x34)
noncomputable def S28_134 (l87 : List IV) (x33 : IV) (h30 : Hp) (x35 : IV) (ih : Handler) (x32 : IV) (x31 : IV) (h3 : Hp) (x34 : IV) (q28 : List IV → Hp → Option (IV × Hp)) : Option (IV × Hp) :=
  uncS l87 fun x36 _ => faddrS 2 x33 fun x37 => load1 x37 h30 fun x38 _ => lenS x38 fun x40 => ltS EE 3 x36 x40 fun x41 => S28_133 x41 x35 h30 x33 x36 ih x32 x31 h3 x34 q28
noncomputable def S28_135 (l29 : List IV) (h30 : Hp) (ih : Handler) (h3 : Hp) (q28 : List IV → Hp → Option (IV × Hp)) : Option (IV × Hp) :=
  uncS l29 fun x31 l83 => uncS l83 fun x32 l84 => uncS l84 fun x33 l85 => uncS l85 fun x34 l86 => uncS l86 fun x35 l87 => S28_134 l87 x33 h30 x35 ih x32 x31 h3 x34 q28
noncomputable def S28_136 (h3 : Hp) (h27 : Hp) (x1 : IV) (x2 : IV) (x4 : IV) (x8 : IV) (x19 : IV) (n : Nat) (ih : Handler) : Option (IV × Hp) :=
  dropS (h3.own.map (·.1)) [29367312] [x1, x2, x4, x8, x19, .fv (.int .i64 0)] h27 fun h89 => loopS n (fun q28 l29 h30 => S28_135 l29 h30 ih h3 q28) [x1, x2, x4, x8, x19, .fv (.int .i64 0)] h89
noncomputable def S28_137 (h115 : Hp) (x119 : IV) (x1 : IV) (x19 : IV) (j0_26 : Hp → Option (IV × Hp)) : Option (IV × Hp) :=
  load1 x119 h115 fun x120 _ => addS EE 3 x120 x1 fun x122 => faddrS 1 x19 fun x123 => store1 x123 x122 h115 fun h124 _ _ => j0_26 h124
noncomputable def S28_138 (h109 : Hp) (x93 : IV) (x103 : IV) (x108 : IV) (x4 : IV) (x1 : IV) (x19 : IV) (j0_26 : Hp → Option (IV × Hp)) : Option (IV × Hp) :=
  guardS x93 true h109 (fun k112 => geS EE 3 x103 x108 fun x113 => k112 x113 h109 [] []) fun x114 h115 _ _ => pickS x93 x114 (.fv (.bool false)) fun x118 => condS x118 (faddrS 1 x4 fun x119 => S28_137 h115 x119 x1 x19 j0_26) (j0_26 h115)
noncomputable def S28_139 (h23 : Hp) (x90 : IV) (x4 : IV) (x2 : IV) (x1 : IV) (x19 : IV) (j0_26 : Hp → Option (IV × Hp)) : Option (IV × Hp) :=
  load1 x90 h23 fun x91 _ => eqS EE 3 x91 (.fv (.int .i64 1)) fun x93 => guardS x93 true h23 (fun k94 => faddrS 1 x4 fun x95 => k94 x95 h23 [] []) fun x96 h97 _ _ => guardS x93 true h97 (fun k100 => load1 x96 h97 fun x101 r102 => k100 x101 h97 r102 []) fun x103 h104 _ _ => guardS x93 true h104 (fun k107 => k107 x2 h104 [] []) fun x108 h109 _ _ => S28_138 h109 x93 x103 x108 x4 x1 x19 j0_26
noncomputable def S28_140 (x13 : IV) (x16 : IV) (h9 : Hp) (h3 : Hp) (x1 : IV) (x2 : IV) (x4 : IV) (x8 : IV) (n : Nat) (ih : Handler) : Option (IV × Hp) :=
  bldS [.fv (.int .i64 0), .fv (.int .i64 0), .nils] [(0, 1, x13), (1, 1, x16)] fun x18 => newS 29361157 (.row [.fv (.int .i64 0), .fv (.int .i64 0), .nils] false) (.ptr (.own 29361157) 0) h9 fun x19 h20 _ _ => storeA 3 x19 x18 h20 fun h23 _ _ => (fun (j0_26 : Hp → Option (IV × Hp)) => faddrS 0 x4 fun x90 => S28_139 h23 x90 x4 x2 x1 x19 j0_26) fun h27 => S28_136 h3 h27 x1 x2 x4 x8 x19 n ih
noncomputable def S28 (ih : Handler) (n : Nat) (x0 : IV) (x1 : IV) (x2 : IV) (h3 : Hp) : Option (IV × Hp) :=
  boxS 29360128 x0 h3 fun x4 h5 _ _ => newS 29360129 (.row [.fv (.int .i64 0), .fv (.int .i64 0), .nils] false) (.ptr (.own 29360129) 0) h5 fun x8 h9 _ _ => faddrS 0 x4 fun x12 => load1 x12 h9 fun x13 _ => faddrS 1 x4 fun x15 => load1 x15 h9 fun x16 _ => S28_140 x13 x16 h9 h3 x1 x2 x4 x8 n ih
theorem S28_ok (ih : Handler) (n : Nat) (x0 : IV) (x1 : IV) (x2 : IV) (h3 : Hp) : funS EE ih ft.get n 28 [x0, x1, x2] h3 = S28 ih n x0 x1 x2 h3 := by kernel_rfl
noncomputable def S29 (ih : Handler) (n : Nat) (x0 : IV) (h1 : Hp) : Option (IV × Hp) :=
  newS 30408704 (.row [.fv (.int .i64 0), .fv (.int .i64 0), .nils] false) (.ptr (.own 30408704) 0) h1 fun x2 h3 _ _ => bldS [.fv (.int .i64 0), .fv (.int .i64 0), .nils] [(0, 1, .fv (.int .i64 1)), (1, 1, x0)] fun x6 => storeA 3 x2 x6 h3 fun h7 _ _ => cellS true 3 x2 h7 fun x10 => outS1 [x10] h7
theorem S29_ok (ih : Handler) (n : Nat) (x0 : IV) (h1 : Hp) : funS EE ih ft.get n 29 [x0] h1 = S29 ih n x0 h1 := by kernel_rfl
noncomputable def S30 (ih : Handler) (n : Nat) (x0 : IV) (x1 : IV) (h2 : Hp) : Option (IV × Hp) :=
  newS 31457280 (.row [.fv (.int .i64 0), .fv (.int .i64 0), .nils] false) (.ptr (.own 31457280) 0) h2 fun x3 h4 _ _ => bldS [.fv (.int .i64 0), .fv (.int .i64 0), .nils] [(0, 1, x0), (2, 1, x1)] fun x7 => storeA 3 x3 x7 h4 fun h8 _ _ => cellS true 3 x3 h8 fun x11 => outS1 [x11] h8
theorem S30_ok (ih : Handler) (n : Nat) (x0 : IV) (x1 : IV) (h2 : Hp) : funS EE ih ft.get n 30 [x0, x1] h2 = S30 ih n x0 x1 h2 := by kernel_rfl
noncomputable def S31 (ih : Handler) (n : Nat) (x0 : IV) (h1 : Hp) : Option (IV × Hp) :=
  newS 32505856 (.row [.fv (.int .i64 0), .fv (.int .i64 0), .nils] false) (.ptr (.own 32505856) 0) h1 fun x2 h3 _ _ => bldS [.fv (.int .i64 0), .fv (.int .i64 0), .nils] [(0, 1, .fv (.int .i64 25)), (1, 1, x0)] fun x6 => storeA 3 x2 x6 h3 fun h7 _ _ => cellS true 3 x2 h7 fun x10 => outS1 [x10] h7
theorem S31_ok (ih : Handler) (n : Nat) (x0 : IV) (h1 : Hp) : funS EE ih ft.get n 31 [x0] h1 = S31 ih n x0 h1 := by kernel_rfl
noncomputable def S40_53 (x12 : IV) (x43 : IV) (x13 : IV) (q7 : List IV → Hp → Option (IV × Hp)) (h44 : Hp) (x10 : IV) (x11 : IV) : Option (IV × Hp) :=
  addS EE 3 x12 x43 fun x47 => addS EE 3 x13 (.fv (.int .i64 1)) fun x48 => q7 [x10, x11, x47, x48] h44
noncomputable def S40_54 (h32 : Hp) (x36 : IV) (x13 : IV) (x10 : IV) (x12 : IV) (ih : Handler) (q7 : List IV → Hp → Option (IV × Hp)) (x11 : IV) : Option (IV × Hp) :=
  load1 x36 h32 fun x37 _ => ixS 3 x37 x13 fun x39 => loadA 3 x39 h32 fun x40 _ => subS EE 3 x10 x12 fun x42 => isoS [] false false ih 40 [x40, x42] h32 fun x43 h44 _ _ => S40_53 x12 x43 x13 q7 h44 x10 x11
noncomputable def S40_55 (h26 : Hp) (x18 : IV) (x20 : IV) (x25 : IV) (x11 : IV) (x13 : IV) (x10 : IV) (x12 : IV) (ih : Handler) (q7 : List IV → Hp → Option (IV × Hp)) : Option (IV × Hp) :=
  guardS x18 true h26 (fun k29 => ltS EE 3 x20 x25 fun x30 => k29 x30 h26 [] []) fun x31 h32 _ _ => pickS x18 x31 (.fv (.bool false)) fun x35 => condS x35 (faddrS 2 x11 fun x36 => S40_54 h32 x36 x13 x10 x12 ih q7 x11) (outS1 [x12] h32)
noncomputable def S40_56 (h9 : Hp) (x14 : IV) (x13 : IV) (x12 : IV) (x10 : IV) (x11 : IV) (ih : Handler) (q7 : List IV → Hp → Option (IV × Hp)) : Option (IV × Hp) :=
  load1 x14 h9 fun x15 _ => lenS x15 fun x17 => ltS EE 3 x13 x17 fun x18 => guardS x18 true h9 (fun k19 => k19 x12 h9 [] []) fun x20 h21 _ _ => guardS x18 true h21 (fun k24 => k24 x10 h21 [] []) fun x25 h26 _ _ => S40_55 h26 x18 x20 x25 x11 x13 x10 x12 ih q7
noncomputable def S40_57 (l8 : List IV) (h9 : Hp) (ih : Handler) (q7 : List IV → Hp → Option (IV × Hp)) : Option (IV × Hp) :=
  uncS l8 fun x10 l49 => uncS l49 fun x11 l50 => uncS l50 fun x12 l51 => uncS l51 fun x13 _ => faddrS 2 x11 fun x14 => S40_56 h9 x14 x13 x12 x10 x11 ih q7
noncomputable def S40 (ih : Handler) (n : Nat) (x0 : IV) (x1 : IV) (h2 : Hp) : Option (IV × Hp) :=
  boxS 41943040 x0 h2 fun x3 h4 _ _ => loopS n (fun q7 l8 h9 => S40_57 l8 h9 ih q7) [x1, x3, .fv (.int .i64 1), .fv (.int .i64 0)] h4
theorem S40_ok (ih : Handler) (n : Nat) (x0 : IV) (x1 : IV) (h2 : Hp) : funS EE ih ft.get n 40 [x0, x1] h2 = S40 ih n x0 x1 h2 := by kernel_rfl
noncomputable def S41 (ih : Handler) (n : Nat) (x0 : IV) (x1 : IV) (h2 : Hp) : Option (IV × Hp) :=
  binS EE 3 .rem x0 x1 fun x3 => (fun (j1_4 : IV → Hp → Option (IV × Hp)) => ltS EE 3 x3 (.fv (.int .i64 0)) fun x7 => condS x7 (addS EE 3 x3 x1 fun x8 => j1_4 x8 h2) (j1_4 x3 h2)) fun x5 h6 => outS1 [x5] h6
theorem S41_ok (ih : Handler) (n : Nat) (x0 : IV) (x1 : IV) (h2 : Hp) : funS EE ih ft.get n 41 [x0, x1] h2 = S41 ih n x0 x1 h2 := by kernel_rfl
noncomputable def S42_42 (x17 : IV) (x1 : IV) (h8 : Hp) (x7 : IV) : Option (IV × Hp) :=
  ixS 3 x17 x1 fun x19 => loadA 3 x19 h8 fun x20 _ => storeA 3 x7 x20 h8 fun h22 _ _ => cellS true 3 x7 h22 fun x25 => outS1 [x25] h22
noncomputable def S42_43 (x1 : IV) (x34 : IV) (x30 : IV) (h8 : Hp) (x7 : IV) : Option (IV × Hp) :=
  binS EE 3 .mul (.fv (.int .i64 7)) x1 fun x35 => addS EE 3 x34 x35 fun x36 => bldS [.fv (.int .i64 0), .fv (.int .i64 0), .nils] [(0, 1, x30), (1, 1, x36)] fun x37 => storeA 3 x7 x37 h8 fun h38 _ _ => cellS true 3 x7 h38 fun x41 => outS1 [x41] h38
noncomputable def S42_44 (x27 : IV) (x1 : IV) (x3 : IV) (h8 : Hp) (x7 : IV) : Option (IV × Hp) :=
  binS EE 3 .quo x27 (.fv (.int .i64 3)) fun x29 => addS EE 3 x29 x1 fun x30 => faddrS 1 x3 fun x31 => load1 x31 h8 fun x32 _ => binS EE 3 .quo x32 (.fv (.int .i64 5)) fun x34 => S42_43 x1 x34 x30 h8 x7
noncomputable def S42_45 (x15 : IV) (x3 : IV) (h8 : Hp) (x1 : IV) (x7 : IV) : Option (IV × Hp) :=
  condS x15 (faddrS 2 x3 fun x16 => load1 x16 h8 fun x17 _ => S42_42 x17 x1 h8 x7) (faddrS 0 x3 fun x26 => load1 x26 h8 fun x27 _ => S42_44 x27 x1 x3 h8 x7)
noncomputable def S42 (ih : Handler) (n : Nat) (x0 : IV) (x1 : IV) (h2 : Hp) : Option (IV × Hp) :=
  boxS 44040192 x0 h2 fun x3 h4 _ _ => newS 44040193 (.row [.fv (.int .i64 0), .fv (.int .i64 0), .nils] false) (.ptr (.own 44040193) 0) h4 fun x7 h8 _ _ => faddrS 2 x3 fun x11 => load1 x11 h8 fun x12 _ => lenS x12 fun x14 => ltS EE 3 x1 x14 fun x15 => S42_45 x15 x3 h8 x1 x7
theorem S42_ok (ih : Handler) (n : Nat) (x0 : IV) (x1 : IV) (h2 : Hp) : funS EE ih ft.get n 42 [x0, x1] h2 = S42 ih n x0 x1 h2 := by kernel_rfl
noncomputable def S43_177 (r85 : List Ref) (w86 : List Ref) (h84 : Hp) (x13 : IV) (x17 : IV) (x21 : IV) : Option (IV × Hp) :=
  chkS [] r85 w86 (cellS true 3 x13 h84 fun x87 => cellS true 3 x17 h84 fun x88 => outS1 [x21, x87, x88, .fv (.bool false)] h84)
noncomputable def S43_178 (ih : Handler) (h71 : Hp) (r76 : List Ref) (x13 : IV) (x75 : IV) (x17 : IV) (x21 : IV) : Option (IV × Hp) :=
  isoS [] false false ih 31 [.fv (.int .i64 0)] h71 fun x77 h78 r79 w80 => chkS [(r76, [])] r79 w80 (storeA 3 x13 x75 h78 fun h81 r82 w83 => chkS [] r82 w83 (storeA 3 x17 x77 h81 fun h84 r85 w86 => S43_177 r85 w86 h84 x13 x17 x21))
noncomputable def S43_179 (r97 : List Ref) (w98 : List Ref) (h96 : Hp) (x13 : IV) (x17 : IV) (x21 : IV) : Option (IV × Hp) :=
  chkS [] r97 w98 (cellS true 3 x13 h96 fun x99 => cellS true 3 x17 h96 fun x100 => outS1 [x21, x99, x100, .fv (.bool true)] h96)
noncomputable def S43_180 (h71 : Hp) (x48 : IV) (r90 : List Ref) (x13 : IV) (x89 : IV) (x17 : IV) (x21 : IV) : Option (IV × Hp) :=
  loadA 3 x48 h71 fun x91 r92 => chkS [(r90, [])] r92 [] (storeA 3 x13 x89 h71 fun h93 r94 w95 => chkS [(r92, [])] r94 w95 (storeA 3 x17 x91 h93 fun h96 r97 w98 => S43_179 r97 w98 h96 x13 x17 x21))
noncomputable def S43_181 (x55 : IV) (x70 : IV) (h71 : Hp) (x31 : IV) (ih : Handler) (x13 : IV) (x17 : IV) (x21 : IV) (x48 : IV) : Option (IV × Hp) :=
  pickS x55 (.fv (.bool true)) x70 fun x74 => condS x74 (loadA 3 x31 h71 fun x75 r76 => chkS [] r76 [] (S43_178 ih h71 r76 x13 x75 x17 x21)) (loadA 3 x31 h71 fun x89 r90 => chkS [] r90 [] (S43_180 h71 x48 r90 x13 x89 x17 x21))
noncomputable def S43_182 (h49 : Hp) (x48 : IV) (x46 : IV) (x47 : IV) (ih : Handler) (x31 : IV) (x13 : IV) (x17 : IV) (x21 : IV) : Option (IV × Hp) :=
  storeA 3 x48 x46 h49 fun h52 _ _ => optS (unR .not x47) fun x55 => guardS x55 false h52 (fun k56 => loadA 3 x48 h52 fun x57 r58 => k56 x57 h52 r58 []) fun x59 h60 _ _ => guardS x55 false h60 (fun k63 => isoS [] false false ih 25 [x59] h60 k63) fun x64 h65 _ _ => guardS x55 false h65 (fun k68 => neS EE 3 x64 (.fv (.int .i64 0)) fun x69 => k68 x69 h65 [] []) fun x70 h71 _ _ => S43_181 x55 x70 h71 x31 ih x13 x17 x21 x48
noncomputable def S43_183 (h35 : Hp) (x5 : IV) (ih : Handler) (x21 : IV) (x38 : IV) (x31 : IV) (x13 : IV) (x17 : IV) : Option (IV × Hp) :=
  loadA 3 x5 h35 fun x40 _ => isoS [] false false ih 68 [x21, x38, x40, .fv (.int .i64 5)] h35 fun x42 h43 _ _ => extS 0 x42 fun x46 => extS 1 x42 fun x47 => newS 45092871 (.row [.fv (.int .i64 0), .fv (.int .i64 0), .nils] false) (.ptr (.own 45092871) 0) h43 fun x48 h49 _ _ => S43_182 h49 x48 x46 x47 ih x31 x13 x17 x21
noncomputable def S43_184 (h22 : Hp) (x9 : IV) (ih : Handler) (x5 : IV) (x21 : IV) (x13 : IV) (x17 : IV) : Option (IV × Hp) :=
  loadA 3 x9 h22 fun x25 _ => isoS [] false false ih 14 [x25, .fv (.int .i64 2)] h22 fun x27 h28 _ _ => newS 45091842 (.row [.fv (.int .i64 0), .fv (.int .i64 0), .nils] false) (.ptr (.own 45091842) 0) h28 fun x31 h32 _ _ => storeA 3 x31 x27 h32 fun h35 _ _ => loadA 3 x31 h35 fun x38 _ => S43_183 h35 x5 ih x21 x38 x31 x13 x17
noncomputable def S43_185 (r161 : List Ref) (w162 : List Ref) (h160 : Hp) (x13 : IV) (x17 : IV) (x21 : IV) : Option (IV × Hp) :=
  chkS [] r161 w162 (cellS true 3 x13 h160 fun x163 => cellS true 3 x17 h160 fun x164 => outS1 [x21, x163, x164, .fv (.bool false)] h160)
noncomputable def S43_186 (ih : Handler) (h147 : Hp) (r152 : List Ref) (x13 : IV) (x151 : IV) (x17 : IV) (x21 : IV) : Option (IV × Hp) :=
  isoS [] false false ih 30 [.fv (.int .i64 11), .nils] h147 fun x153 h154 r155 w156 => chkS [(r152, [])] r155 w156 (storeA 3 x13 x151 h154 fun h157 r158 w159 => chkS [] r158 w159 (storeA 3 x17 x153 h157 fun h160 r161 w162 => S43_185 r161 w162 h160 x13 x17 x21))
noncomputable def S43_187 (r173 : List Ref) (w174 : List Ref) (h172 : Hp) (x13 : IV) (x17 : IV) (x21 : IV) : Option (IV × Hp) :=
  chkS [] r173 w174 (cellS true 3 x13 h172 fun x175 => cellS true 3 x17 h172 fun x176 => outS1 [x21, x175, x176, .fv (.bool true)] h172)
noncomputable def S43_188 (h147 : Hp) (x124 : IV) (r166 : List Ref) (x13 : IV) (x165 : IV) (x17 : IV) (x21 : IV) : Option (IV × Hp) :=
  loadA 3 x124 h147 fun x167 r168 => chkS [(r166, [])] r168 [] (storeA 3 x13 x165 h147 fun h169 r170 w171 => chkS [(r168, [])] r170 w171 (storeA 3 x17 x167 h169 fun h172 r173 w174 => S43_187 r173 w174 h172 x13 x17 x21))
noncomputable def S43_189 (x131 : IV) (x146 : IV) (h147 : Hp) (x107 : IV) (ih : Handler) (x13 : IV) (x17 : IV) (x21 : IV) (x124 : IV) : Option (IV × Hp) :=
  pickS x131 (.fv (.bool true)) x146 fun x150 => condS x150 (loadA 3 x107 h147 fun x151 r152 => chkS [] r152 [] (S43_186 ih h147 r152 x13 x151 x17 x21)) (loadA 3 x107 h147 fun x165 r166 => chkS [] r166 [] (S43_188 h147 x124 r166 x13 x165 x17 x21))
noncomputable def S43_190 (h125 : Hp) (x124 : IV) (x122 : IV) (x123 : IV) (ih : Handler) (x107 : IV) (x13 : IV) (x17 : IV) (x21 : IV) : Option (IV × Hp) :=
  storeA 3 x124 x122 h125 fun h128 _ _ => optS (unR .not x123) fun x131 => guardS x131 false h128 (fun k132 => loadA 3 x124 h128 fun x133 r134 => k132 x133 h128 r134 []) fun x135 h136 _ _ => guardS x131 false h136 (fun k139 => isoS [] false false ih 25 [x135] h136 k139) fun x140 h141 _ _ => guardS x131 false h141 (fun k144 => neS EE 3 x140 (.fv (.int .i64 0)) fun x145 => k144 x145 h141 [] []) fun x146 h147 _ _ => S43_189 x131 x146 h147 x107 ih x13 x17 x21 x124
noncomputable def S43_191 (h111 : Hp) (x5 : IV) (ih : Handler) (x21 : IV) (x114 : IV) (x107 : IV) (x13 : IV) (x17 : IV) : Option (IV × Hp) :=
  loadA 3 x5 h111 fun x116 _ => isoS [] false false ih 70 [x21, x114, x116, .fv (.int .i64 5)] h111 fun x118 h119 _ _ => extS 0 x118 fun x122 => extS 1 x118 fun x123 => newS 45097991 (.row [.fv (.int .i64 0), .fv (.int .i64 0), .nils] false) (.ptr (.own 45097991) 0) h119 fun x124 h125 _ _ => S43_190 h125 x124 x122 x123 ih x107 x13 x17 x21
noncomputable def S43_192 (h22 : Hp) (x9 : IV) (ih : Handler) (x21 : IV) (x5 : IV) (x13 : IV) (x17 : IV) : Option (IV × Hp) :=
  loadA 3 x9 h22 fun x101 _ => isoS [] false false ih 69 [x21, x101, .fv (.int .i64 2)] h22 fun x103 h104 _ _ => newS 45096963 (.row [.fv (.int .i64 0), .fv (.int .i64 0), .nils] false) (.ptr (.own 45096963) 0) h104 fun x107 h108 _ _ => storeA 3 x107 x103 h108 fun h111 _ _ => loadA 3 x107 h111 fun x114 _ => S43_191 h111 x5 ih x21 x114 x107 x13 x17
noncomputable def S43 (ih : Handler) (n : Nat) (x0 : IV) (x1 : IV) (x2 : IV) (x3 : IV) (h4 : Hp) : Option (IV × Hp) :=
  boxS 45088768 x1 h4 fun x5 h6 _ _ => boxS 45088769 x2 h6 fun x9 h10 _ _ => newS 45088771 (.row [.fv (.int .i64 0), .fv (.int .i64 0), .nils] false) (.ptr (.own 45088771) 0) h10 fun x13 h14 _ _ => newS 45088772 (.row [.fv (.int .i64 0), .fv (.int .i64 0), .nils] false) (.ptr (.own 45088772) 0) h14 fun x17 h18 _ _ => isoS [] false false ih 67 [x0] h18 fun x21 h22 _ _ => condS x3 (S43_184 h22 x9 ih x5 x21 x13 x17) (S43_192 h22 x9 ih x21 x5 x13 x17)
theorem S43_ok (ih : Handler) (n : Nat) (x0 : IV) (x1 : IV) (x2 : IV) (x3 : IV) (h4 : Hp) : funS EE ih ft.get n 43 [x0, x1, x2, x3] h4 = S43 ih n x0 x1 x2 x3 h4 := by kernel_rfl
noncomputable def S44_37 (h22 : Hp) (x6 : IV) (x26 : IV) (x17 : IV) : Option (IV × Hp) :=
  storeA 3 x6 x26 h22 fun h27 _ _ => cellS true 3 x6 h27 fun x30 => outS1 [x30, x17] h27
noncomputable def S44_38 (h22 : Hp) (x6 : IV) (x31 : IV) : Option (IV × Hp) :=
  storeA 3 x6 x31 h22 fun h33 _ _ => cellS true 3 x6 h33 fun x36 => outS1 [x36, .fv (.int .i64 0)] h33
noncomputable def S44_39 (h13 : Hp) (x16 : IV) (x17 : IV) (x6 : IV) : Option (IV × Hp) :=
  newS 46138373 (.row [.fv (.int .i64 0), .fv (.int .i64 0), .nils] false) (.ptr (.own 46138373) 0) h13 fun x18 h19 _ _ => storeA 3 x18 x16 h19 fun h22 _ _ => neS EE 3 x17 (.fv (.int .i64 0)) fun x25 => condS x25 (bldS [.fv (.int .i64 0), .fv (.int .i64 0), .nils] [] fun x26 => S44_37 h22 x6 x26 x17) (loadA 3 x18 h22 fun x31 _ => S44_38 h22 x6 x31)
noncomputable def S44 (ih : Handler) (n : Nat) (x0 : IV) (h1 : Hp) : Option (IV × Hp) :=
  boxS 46137344 x0 h1 fun x2 h3 _ _ => newS 46137345 (.row [.fv (.int .i64 0), .fv (.int .i64 0), .nils] false) (.ptr (.own 46137345) 0) h3 fun x6 h7 _ _ => loadA 3 x2 h7 fun x10 _ => isoS [] false false ih 58 [x10] h7 fun x12 h13 _ _ => extS 0 x12 fun x16 => extS 1 x12 fun x17 => S44_39 h13 x16 x17 x6
theorem S44_ok (ih : Handler) (n : Nat) (x0 : IV) (h1 : Hp) : funS EE ih ft.get n 44 [x0] h1 = S44 ih n x0 h1 := by kernel_rfl
noncomputable def S45 (ih : Handler) (n : Nat) (x0 : IV) (x1 : IV) (h2 : Hp) : Option (IV × Hp) :=
  binS EE 3 .rem x0 x1 fun x3 => (fun (j1_4 : IV → Hp → Option (IV × Hp)) => ltS EE 3 x3 (.fv (.int .i64 0)) fun x7 => condS x7 (addS EE 3 x3 x1 fun x8 => j1_4 x8 h2) (j1_4 x3 h2)) fun x5 h6 => outS1 [x5] h6
theorem S45_ok (ih : Handler) (n : Nat) (x0 : IV) (x1 : IV) (h2 : Hp) : funS EE ih ft.get n 45 [x0, x1] h2 = S45 ih n x0 x1 h2 := by kernel_rfl
noncomputable def S46_44 (x12 : IV) (h13 : Hp) (x0 : IV) : Option (IV × Hp) :=
  condS x12 (outS1 [.fv (.int .i64 3)] h13) (eqS EE 3 x0 (.fv (.int .i64 13)) fun x14 => condS x14 (outS1 [.fv (.int .i64 4)] h13) (outS1 [.fv (.int .i64 (-1))] h13))
noncomputable def S46_45 (x15 : IV) (j1_11 : IV → Hp → Option (IV × Hp)) (h10 : Hp) (x0 : IV) : Option (IV × Hp) :=
  condS x15 (j1_11 x15 h10) (eqS EE 3 x0 (.fv (.int .i64 27)) fun x16 => j1_11 x16 h10)
noncomputable def S46_46 (x9 : IV) (h10 : Hp) (x0 : IV) : Option (IV × Hp) :=
  condS x9 (outS1 [.fv (.int .i64 2)] h10) ((fun (j1_11 : IV → Hp → Option (IV × Hp)) => eqS EE 3 x0 (.fv (.int .i64 7)) fun x15 => S46_45 x15 j1_11 h10 x0) fun x12 h13 => S46_44 x12 h13 x0)
noncomputable def S46_47 (x0 : IV) (j1_8 : IV → Hp → Option (IV × Hp)) (h7 : Hp) : Option (IV × Hp) :=
  eqS EE 3 x0 (.fv (.int .i64 28)) fun x27 => condS x27 (j1_8 x27 h7) (eqS EE 3 x0 (.fv (.int .i64 29)) fun x28 => j1_8 x28 h7)
noncomputable def S46_48 (x0 : IV) (j1_8 : IV → Hp → Option (IV × Hp)) (h7 : Hp) : Option (IV × Hp) :=
  eqS EE 3 x0 (.fv (.int .i64 22)) fun x25 => condS x25 (j1_8 x25 h7) (eqS EE 3 x0 (.fv (.int .i64 26)) fun x26 => condS x26 (j1_8 x26 h7) (S46_47 x0 j1_8 h7))
noncomputable def S46_49 (x0 : IV) (j1_8 : IV → Hp → Option (IV × Hp)) (h7 : Hp) : Option (IV × Hp) :=
  eqS EE 3 x0 (.fv (.int .i64 20)) fun x23 => condS x23 (j1_8 x23 h7) (eqS EE 3 x0 (.fv (.int .i64 21)) fun x24 => condS x24 (j1_8 x24 h7) (S46_48 x0 j1_8 h7))
noncomputable def S46_50 (x0 : IV) (j1_8 : IV → Hp → Option (IV × Hp)) (h7 : Hp) : Option (IV × Hp) :=
  eqS EE 3 x0 (.fv (.int .i64 16)) fun x21 => condS x21 (j1_8 x21 h7) (eqS EE 3 x0 (.fv (.int .i64 17)) fun x22 => condS x22 (j1_8 x22 h7) (S46_49 x0 j1_8 h7))
noncomputable def S46_51 (x0 : IV) (j1_8 : IV → Hp → Option (IV × Hp)) (h7 : Hp) : Option (IV × Hp) :=
  eqS EE 3 x0 (.fv (.int .i64 5)) fun x19 => condS x19 (j1_8 x19 h7) (eqS EE 3 x0 (.fv (.int .i64 6)) fun x20 => condS x20 (j1_8 x20 h7) (S46_50 x0 j1_8 h7))
noncomputable def S46_52 (x17 : IV) (j1_8 : IV → Hp → Option (IV × Hp)) (h7 : Hp) (x0 : IV) : Option (IV × Hp) :=
  condS x17 (j1_8 x17 h7) (eqS EE 3 x0 (.fv (.int .i64 4)) fun x18 => condS x18 (j1_8 x18 h7) (S46_51 x0 j1_8 h7))
noncomputable def S46_53 (x6 : IV) (h7 : Hp) (x0 : IV) : Option (IV × Hp) :=
  condS x6 (outS1 [.fv (.int .i64 1)] h7) ((fun (j1_8 : IV → Hp → Option (IV × Hp)) => eqS EE 3 x0 (.fv (.int .i64 3)) fun x17 => S46_52 x17 j1_8 h7 x0) fun x9 h10 => S46_46 x9 h10 x0)
noncomputable def S46_54 (x0 : IV) (j1_5 : IV → Hp → Option (IV × Hp)) (h4 : Hp) : Option (IV × Hp) :=
  eqS EE 3 x0 (.fv (.int .i64 24)) fun x35 => condS x35 (j1_5 x35 h4) (eqS EE 3 x0 (.fv (.int .i64 30)) fun x36 => j1_5 x36 h4)
noncomputable def S46_55 (x0 : IV) (j1_5 : IV → Hp → Option (IV × Hp)) (h4 : Hp) : Option (IV × Hp) :=
  eqS EE 3 x0 (.fv (.int .i64 19)) fun x33 => condS x33 (j1_5 x33 h4) (eqS EE 3 x0 (.fv (.int .i64 23)) fun x34 => condS x34 (j1_5 x34 h4) (S46_54 x0 j1_5 h4))
noncomputable def S46_56 (x0 : IV) (j1_5 : IV → Hp → Option (IV × Hp)) (h4 : Hp) : Option (IV × Hp) :=
  eqS EE 3 x0 (.fv (.int .i64 12)) fun x31 => condS x31 (j1_5 x31 h4) (eqS EE 3 x0 (.fv (.int .i64 18)) fun x32 => condS x32 (j1_5 x32 h4) (S46_55 x0 j1_5 h4))
noncomputable def S46_57 (x29 : IV) (j1_5 : IV → Hp → Option (IV × Hp)) (h4 : Hp) (x0 : IV) : Option (IV × Hp) :=
  condS x29 (j1_5 x29 h4) (eqS EE 3 x0 (.fv (.int .i64 9)) fun x30 => condS x30 (j1_5 x30 h4) (S46_56 x0 j1_5 h4))
noncomputable def S46_58 (x3 : IV) (h4 : Hp) (x0 : IV) : Option (IV × Hp) :=
  condS x3 (outS1 [.fv (.int .i64 0)] h4) ((fun (j1_5 : IV → Hp → Option (IV × Hp)) => eqS EE 3 x0 (.fv (.int .i64 8)) fun x29 => S46_57 x29 j1_5 h4 x0) fun x6 h7 => S46_53 x6 h7 x0)
noncomputable def S46_59 (x0 : IV) (j1_2 : IV → Hp → Option (IV × Hp)) (h1 : Hp) : Option (IV × Hp) :=
  eqS EE 3 x0 (.fv (.int .i64 25)) fun x43 => j1_2 x43 h1
noncomputable def S46_60 (x0 : IV) (j1_2 : IV → Hp → Option (IV × Hp)) (h1 : Hp) : Option (IV × Hp) :=
  eqS EE 3 x0 (.fv (.int .i64 14)) fun x41 => condS x41 (j1_2 x41 h1) (eqS EE 3 x0 (.fv (.int .i64 15)) fun x42 => condS x42 (j1_2 x42 h1) (S46_59 x0 j1_2 h1))
noncomputable def S46_61 (x0 : IV) (j1_2 : IV → Hp → Option (IV × Hp)) (h1 : Hp) : Option (IV × Hp) :=
  eqS EE 3 x0 (.fv (.int .i64 10)) fun x39 => condS x39 (j1_2 x39 h1) (eqS EE 3 x0 (.fv (.int .i64 11)) fun x40 => condS x40 (j1_2 x40 h1) (S46_60 x0 j1_2 h1))
noncomputable def S46 (ih : Handler) (n : Nat) (x0 : IV) (h1 : Hp) : Option (IV × Hp) :=
  (fun (j1_2 : IV → Hp → Option (IV × Hp)) => eqS EE 3 x0 (.fv (.int .i64 1)) fun x37 => condS x37 (j1_2 x37 h1) (eqS EE 3 x0 (.fv (.int .i64 2)) fun x38 => condS x38 (j1_2 x38 h1) (S46_61 x0 j1_2 h1))) fun x3 h4 => S46_58 x3 h4 x0
theorem S46_ok (ih : Handler) (n : Nat) (x0 : IV) (h1 : Hp) : funS EE ih ft.get n 46 [x0] h1 = S46 ih n x0 h1 := by kernel_rfl
noncomputable def S47_35 (x17 : IV) (x1 : IV) (h8 : Hp) (x7 : IV) : Option (IV × Hp) :=
  ixS 3 x17 x1 fun x19 => loadA 3 x19 h8 fun x20 _ => storeA 3 x7 x20 h8 fun h22 _ _ => cellS true 3 x7 h22 fun x25 => outS1 [x25] h22
noncomputable def S47_36 (x27 : IV) (x1 : IV) (h8 : Hp) (x7 : IV) : Option (IV × Hp) :=
  addS EE 3 x27 x1 fun x29 => bldS [.fv (.int .i64 0), .fv (.int .i64 0), .nils] [(1, 1, x29)] fun x30 => storeA 3 x7 x30 h8 fun h31 _ _ => cellS true 3 x7 h31 fun x34 => outS1 [x34] h31
noncomputable def S47_37 (x15 : IV) (x3 : IV) (h8 : Hp) (x1 : IV) (x7 : IV) : Option (IV × Hp) :=
  condS x15 (faddrS 2 x3 fun x16 => load1 x16 h8 fun x17 _ => S47_35 x17 x1 h8 x7) (faddrS 1 x3 fun x26 => load1 x26 h8 fun x27 _ => S47_36 x27 x1 h8 x7)
noncomputable def S47 (ih : Handler) (n : Nat) (x0 : IV) (x1 : IV) (h2 : Hp) : Option (IV × Hp) :=
  boxS 49283072 x0 h2 fun x3 h4 _ _ => newS 49283073 (.row [.fv (.int .i64 0), .fv (.int .i64 0), .nils] false) (.ptr (.own 49283073) 0) h4 fun x7 h8 _ _ => faddrS 2 x3 fun x11 => load1 x11 h8 fun x12 _ => lenS x12 fun x14 => ltS EE 3 x1 x14 fun x15 => S47_37 x15 x3 h8 x1 x7
theorem S47_ok (ih : Handler) (n : Nat) (x0 : IV) (x1 : IV) (h2 : Hp) : funS EE ih ft.get n 47 [x0, x1] h2 = S47 ih n x0 x1 h2 := by kernel_rfl
noncomputable def S48_18 (x1 : IV) (h7 : Hp) (j0_3 : Hp → Option (IV × Hp)) : Option (IV × Hp) :=
  eqS EE 3 x1 (.fv (.int .i64 0)) fun x10 => condS x10 (outS1 [.fv (.int .i64 1)] h7) (eqS EE 3 x1 (.fv (.int .i64 2)) fun x11 => condS x11 (outS1 [.fv (.int .i64 2)] h7) (j0_3 h7))
noncomputable def S48_19 (x6 : IV) (x1 : IV) (h7 : Hp) (j0_3 : Hp → Option (IV × Hp)) (x0 : IV) : Option (IV × Hp) :=
  condS x6 (eqS EE 3 x1 (.fv (.int .i64 1)) fun x8 => condS x8 (outS1 [.fv (.int .i64 1)] h7) (j0_3 h7)) (eqS EE 3 x0 (.fv (.int .i64 13)) fun x9 => condS x9 (S48_18 x1 h7 j0_3) (j0_3 h7))
noncomputable def S48_20 (x0 : IV) (j1_5 : IV → Hp → Option (IV × Hp)) (h2 : Hp) : Option (IV × Hp) :=
  eqS EE 3 x0 (.fv (.int .i64 29)) fun x17 => j1_5 x17 h2
noncomputable def S48_21 (x0 : IV) (j1_5 : IV → Hp → Option (IV × Hp)) (h2 : Hp) : Option (IV × Hp) :=
  eqS EE 3 x0 (.fv (.int .i64 20)) fun x15 => condS x15 (j1_5 x15 h2) (eqS EE 3 x0 (.fv (.int .i64 28)) fun x16 => condS x16 (j1_5 x16 h2) (S48_20 x0 j1_5 h2))
noncomputable def S48_22 (x13 : IV) (j1_5 : IV → Hp → Option (IV × Hp)) (h2 : Hp) (x0 : IV) : Option (IV × Hp) :=
  condS x13 (j1_5 x13 h2) (eqS EE 3 x0 (.fv (.int .i64 6)) fun x14 => condS x14 (j1_5 x14 h2) (S48_21 x0 j1_5 h2))
noncomputable def S48 (ih : Handler) (n : Nat) (x0 : IV) (x1 : IV) (h2 : Hp) : Option (IV × Hp) :=
  (fun (j0_3 : Hp → Option (IV × Hp)) => (fun (j1_5 : IV → Hp → Option (IV × Hp)) => eqS EE 3 x0 (.fv (.int .i64 3)) fun x12 => condS x12 (j1_5 x12 h2) (eqS EE 3 x0 (.fv (.int .i64 4)) fun x13 => S48_22 x13 j1_5 h2 x0)) fun x6 h7 => S48_19 x6 x1 h7 j0_3 x0) fun h4 => outS1 [.fv (.int .i64 0)] h4
theorem S48_ok (ih : Handler) (n : Nat) (x0 : IV) (x1 : IV) (h2 : Hp) : funS EE ih ft.get n 48 [x0, x1] h2 = S48 ih n x0 x1 h2 := by kernel_rfl
noncomputable def S49 (ih : Handler) (n : Nat) (x0 : IV) (h1 : Hp) : Option (IV × Hp) :=
  boxS 51380224 x0 h1 fun x2 h3 _ _ => loadA 3 x2 h3 fun x6 _ => newS 51381249 (.row [.fv (.int .i64 0)] false) (.ptr (.own 51381249) 0) h3 fun x8 h9 _ _ => isoS [false, true, false] false false ih 71 [x6, x8, .fv (.int .i64 1)] h9 fun x12 h13 _ _ => outS1 [x12] h13
theorem S49_ok (ih : Handler) (n : Nat) (x0 : IV) (h1 : Hp) : funS EE ih ft.get n 49 [x0] h1 = S49 ih n x0 h1 := by kernel_rfl
noncomputable def S50 (ih : Handler) (n : Nat) (x0 : IV) (x1 : IV) (h2 : Hp) : Option (IV × Hp) :=
  isoS [] false false ih 72 [x0, x1] h2 fun x3 h4 _ _ => geS EE 3 x3 (.fv (.int .i64 0)) fun x7 => outS1 [x7] h4
theorem S50_ok (ih : Handler) (n : Nat) (x0 : IV) (x1 : IV) (h2 : Hp) : funS EE ih ft.get n 50 [x0, x1] h2 = S50 ih n x0 x1 h2 := by kernel_rfl
noncomputable def S51 (ih : Handler) (n : Nat) (x0 : IV) (h1 : Hp) : Option (IV × Hp) :=
  boxS 53477376 x0 h1 fun x2 h3 _ _ => loadA 3 x2 h3 fun x6 _ => isoS [] false false ih 52 [x6] h3 fun x8 h9 _ _ => optS (unR .not x8) fun x12 => outS1 [x12] h9
theorem S51_ok (ih : Handler) (n : Nat) (x0 : IV) (h1 : Hp) : funS EE ih ft.get n 51 [x0] h1 = S51 ih n x0 h1 := by kernel_rfl
noncomputable def S52_89 (h3 : Hp) (x10 : IV) : Option (IV × Hp) :=
  load1 x10 h3 fun x11 _ => lenS x11 fun x13 => eqS EE 3 x13 (.fv (.int .i64 0)) fun x14 => outS1 [x14] h3
noncomputable def S52_90 (h65 : Hp) (x54 : IV) (x64 : IV) (ih : Handler) : Option (IV × Hp) :=
  guardS x54 true h65 (fun k68 => ixS 3 x64 (.fv (.int .i64 1)) fun x69 => k68 x69 h65 [] []) fun x70 h71 _ _ => guardS x54 true h71 (fun k74 => loadA 3 x70 h71 fun x75 r76 => k74 x75 h71 r76 []) fun x77 h78 _ _ => guardS x54 true h78 (fun k81 => isoS [] false false ih 52 [x77] h78 k81) fun x82 h83 _ _ => pickS x54 x82 (.fv (.bool false)) fun x86 => outS1 [x86] h83
noncomputable def S52_91 (h39 : Hp) (x22 : IV) (x38 : IV) (ih : Handler) (x2 : IV) : Option (IV × Hp) :=
  guardS x22 true h39 (fun k42 => loadA 3 x38 h39 fun x43 r44 => k42 x43 h39 r44 []) fun x45 h46 _ _ => guardS x22 true h46 (fun k49 => isoS [] false false ih 52 [x45] h46 k49) fun x50 h51 _ _ => pickS x22 x50 (.fv (.bool false)) fun x54 => guardS x54 true h51 (fun k55 => faddrS 2 x2 fun x56 => k55 x56 h51 [] []) fun x57 h58 _ _ => guardS x54 true h58 (fun k61 => load1 x57 h58 fun x62 r63 => k61 x62 h58 r63 []) fun x64 h65 _ _ => S52_90 h65 x54 x64 ih
noncomputable def S52_92 (x19 : IV) (h17 : Hp) (x2 : IV) (ih : Handler) : Option (IV × Hp) :=
  lenS x19 fun x21 => eqS EE 3 x21 (.fv (.int .i64 2)) fun x22 => guardS x22 true h17 (fun k23 => faddrS 2 x2 fun x24 => k23 x24 h17 [] []) fun x25 h26 _ _ => guardS x22 true h26 (fun k29 => load1 x25 h26 fun x30 r31 => k29 x30 h26 r31 []) fun x32 h33 _ _ => guardS x22 true h33 (fun k36 => ixS 3 x32 (.fv (.int .i64 0)) fun x37 => k36 x37 h33 [] []) fun x38 h39 _ _ => S52_91 h39 x22 x38 ih x2
noncomputable def S52_93 (x16 : IV) (x2 : IV) (h17 : Hp) (ih : Handler) : Option (IV × Hp) :=
  condS x16 (faddrS 2 x2 fun x18 => load1 x18 h17 fun x19 _ => S52_92 x19 h17 x2 ih) (outS1 [.fv (.bool false)] h17)
noncomputable def S52_94 (x7 : IV) (j1_15 : IV → Hp → Option (IV × Hp)) (h3 : Hp) : Option (IV × Hp) :=
  eqS EE 3 x7 (.fv (.int .i64 16)) fun x87 => condS x87 (j1_15 x87 h3) (eqS EE 3 x7 (.fv (.int .i64 17)) fun x88 => j1_15 x88 h3)
noncomputable def S52 (ih : Handler) (n : Nat) (x0 : IV) (h1 : Hp) : Option (IV × Hp) :=
  boxS 54525952 x0 h1 fun x2 h3 _ _ => faddrS 0 x2 fun x6 => load1 x6 h3 fun x7 _ => eqS EE 3 x7 (.fv (.int .i64 15)) fun x9 => condS x9 (faddrS 2 x2 fun x10 => S52_89 h3 x10) ((fun (j1_15 : IV → Hp → Option (IV × Hp)) => S52_94 x7 j1_15 h3) fun x16 h17 => S52_93 x16 x2 h17 ih)
theorem S52_ok (ih : Handler) (n : Nat) (x0 : IV) (h1 : Hp) : funS EE ih ft.get n 52 [x0] h1 = S52 ih n x0 h1 := by kernel_rfl
noncomputable def S53_213 (h8 : Hp) (x7 : IV) (x23 : IV) : Option (IV × Hp) :=
  storeA 3 x7 x23 h8 fun h24 _ _ => cellS true 3 x7 h24 fun x27 => outS1 [x27, .fv (.int .i64 8)] h24
noncomputable def S53_214 (h8 : Hp) (x34 : IV) (x7 : IV) : Option (IV × Hp) :=
  loadA 3 x34 h8 fun x35 _ => storeA 3 x7 x35 h8 fun h37 _ _ => cellS true 3 x7 h37 fun x40 => outS1 [x40, .fv (.int .i64 0)] h37
noncomputable def S53_215 (x28 : IV) (x3 : IV) (h8 : Hp) (x0 : IV) (x7 : IV) : Option (IV × Hp) :=
  subS EE 3 x28 (.fv (.int .i64 1)) fun x29 => faddrS 1 x3 fun x30 => load1 x30 h8 fun x31 _ => subS EE 3 x29 x31 fun x33 => ixS 3 x0 x33 fun x34 => S53_214 h8 x34 x7
noncomputable def S53_216 (x0 : IV) (x19 : IV) (h8 : Hp) (x7 : IV) (x3 : IV) : Option (IV × Hp) :=
  lenS x0 fun x21 => geS EE 3 x19 x21 fun x22 => condS x22 (bldS [.fv (.int .i64 0), .fv (.int .i64 0), .nils] [] fun x23 => S53_213 h8 x7 x23) (lenS x0 fun x28 => S53_215 x28 x3 h8 x0 x7)
noncomputable def S53_217 (ih : Handler) (h8 : Hp) (x7 : IV) : Option (IV × Hp) :=
  isoS [] false false ih 64 [.fv (.int .i64 15), .nils] h8 fun x42 h43 _ _ => storeA 3 x7 x42 h43 fun h46 _ _ => cellS true 3 x7 h46 fun x49 => outS1 [x49, .fv (.int .i64 0)] h46
noncomputable def S53_218 (h64 : Hp) (x7 : IV) (x58 : IV) : Option (IV × Hp) :=
  cellS true 3 x7 h64 fun x67 => outS1 [x67, x58] h64
noncomputable def S53_219 (ih : Handler) (h76 : Hp) (x0 : IV) (x73 : IV) (x75 : IV) (x7 : IV) (x68 : IV) : Option (IV × Hp) :=
  isoS [] false false ih 73 [x0, x73, x75] h76 fun x79 h80 r81 w82 => chkS [] r81 w82 (storeA 3 x7 x68 h80 fun h83 r84 w85 => chkS [] r84 w85 (cellS true 3 x7 h83 fun x86 => outS1 [x86, x79] h83))
noncomputable def S53_220 (x12 : IV) (h69 : Hp) (r70 : List Ref) (w71 : List Ref) (ih : Handler) (x0 : IV) (x7 : IV) (x68 : IV) : Option (IV × Hp) :=
  ixS 3 x12 (.fv (.int .i64 1)) fun x72 => loadA 3 x72 h69 fun x73 r74 => chkS [(r70, w71)] r74 [] (isoS [] false false ih 64 [.fv (.int .i64 15), .nils] h69 fun x75 h76 r77 w78 => chkS [(r74, [])] r77 w78 (S53_219 ih h76 x0 x73 x75 x7 x68))
noncomputable def S53_221 (x58 : IV) (h59 : Hp) (x7 : IV) (ih : Handler) (x12 : IV) (x0 : IV) : Option (IV × Hp) :=
  neS EE 35 x58 (.fv (.int .i64 0)) fun x62 => condS x62 (bldS [.fv (.int .i64 0), .fv (.int .i64 0), .nils] [] fun x63 => storeA 3 x7 x63 h59 fun h64 _ _ => S53_218 h64 x7 x58) (isoS [] false false ih 64 [.fv (.int .i64 15), .nils] h59 fun x68 h69 r70 w71 => chkS [] r70 w71 (S53_220 x12 h69 r70 w71 ih x0 x7 x68))
noncomputable def S53_222 (r53 : List Ref) (ih : Handler) (h8 : Hp) (x0 : IV) (x52 : IV) (x7 : IV) (x12 : IV) : Option (IV × Hp) :=
  chkS [] r53 [] (isoS [] false false ih 64 [.fv (.int .i64 15), .nils] h8 fun x54 h55 r56 w57 => chkS [(r53, [])] r56 w57 (isoS [] false false ih 73 [x0, x52, x54] h55 fun x58 h59 r60 w61 => chkS [] r60 w61 (S53_221 x58 h59 x7 ih x12 x0)))
noncomputable def S53_223 (x92 : IV) (h93 : Hp) (x7 : IV) : Option (IV × Hp) :=
  extS 0 x92 fun x96 => extS 1 x92 fun x97 => storeA 3 x7 x96 h93 fun h98 _ _ => cellS true 3 x7 h98 fun x101 => outS1 [x101, x97] h98
noncomputable def S53_224 (h116 : Hp) (x7 : IV) (x120 : IV) (x111 : IV) : Option (IV × Hp) :=
  storeA 3 x7 x120 h116 fun h121 _ _ => cellS true 3 x7 h121 fun x124 => outS1 [x124, x111] h121
noncomputable def S53_225 (h135 : Hp) (x7 : IV) (x138 : IV) (x139 : IV) : Option (IV × Hp) :=
  storeA 3 x7 x138 h135 fun h140 r141 w142 => chkS [] r141 w142 (cellS true 3 x7 h140 fun x143 => outS1 [x143, x139] h140)
noncomputable def S53_226 (r133 : List Ref) (r129 : List Ref) (w130 : List Ref) (r126 : List Ref) (ih : Handler) (h128 : Hp) (x127 : IV) (x132 : IV) (x7 : IV) : Option (IV × Hp) :=
  chkS [(r129, w130), (r126, [])] r133 [] (isoS [] false false ih 53 [x127, x132] h128 fun x134 h135 r136 w137 => chkS [] r136 w137 (extS 0 x134 fun x138 => extS 1 x134 fun x139 => S53_225 h135 x7 x138 x139))
noncomputable def S53_227 (r126 : List Ref) (ih : Handler) (h116 : Hp) (x0 : IV) (x125 : IV) (x12 : IV) (x7 : IV) : Option (IV × Hp) :=
  chkS [] r126 [] (isoS [] false false ih 75 [x0, x125] h116 fun x127 h128 r129 w130 => chkS [] r129 w130 (ixS 3 x12 (.fv (.int .i64 1)) fun x131 => loadA 3 x131 h128 fun x132 r133 => S53_226 r133 r129 w130 r126 ih h128 x127 x132 x7))
noncomputable def S53_228 (h107 : Hp) (x110 : IV) (x111 : IV) (x7 : IV) (ih : Handler) (x0 : IV) (x12 : IV) : Option (IV × Hp) :=
  newS 55592968 (.row [.fv (.int .i64 0), .fv (.int .i64 0), .nils] false) (.ptr (.own 55592968) 0) h107 fun x112 h113 _ _ => storeA 3 x112 x110 h113 fun h116 _ _ => neS EE 35 x111 (.fv (.int .i64 0)) fun x119 => condS x119 (bldS [.fv (.int .i64 0), .fv (.int .i64 0), .nils] [] fun x120 => S53_224 h116 x7 x120 x111) (loadA 3 x112 h116 fun x125 r126 => S53_227 r126 ih h116 x0 x125 x12 x7)
noncomputable def S53_229 (x12 : IV) (h89 : Hp) (ih : Handler) (x0 : IV) (x7 : IV) : Option (IV × Hp) :=
  ixS 3 x12 (.fv (.int .i64 0)) fun x103 => loadA 3 x103 h89 fun x104 _ => isoS [] false false ih 53 [x0, x104] h89 fun x106 h107 _ _ => extS 0 x106 fun x110 => extS 1 x106 fun x111 => S53_228 h107 x110 x111 x7 ih x0 x12
noncomputable def S53_230 (h158 : Hp) (x7 : IV) (x152 : IV) : Option (IV × Hp) :=
  cellS true 3 x7 h158 fun x161 => outS1 [x161, x152] h158
noncomputable def S53_231 (h180 : Hp) (x7 : IV) (x170 : IV) : Option (IV × Hp) :=
  cellS true 3 x7 h180 fun x183 => outS1 [x183, x170] h180
noncomputable def S53_232 (ih : Handler) (h175 : Hp) (x0 : IV) (x187 : IV) (x189 : IV) (r185 : List Ref) (x7 : IV) (x184 : IV) : Option (IV × Hp) :=
  isoS [] false false ih 73 [x0, x187, x189] h175 fun x191 h192 r193 w194 => chkS [(r185, [])] r193 w194 (storeA 3 x7 x184 h192 fun h195 r196 w197 => chkS [] r196 w197 (cellS true 3 x7 h195 fun x198 => outS1 [x198, x191] h195))
noncomputable def S53_233 (x12 : IV) (h175 : Hp) (r185 : List Ref) (x171 : IV) (ih : Handler) (x0 : IV) (x7 : IV) (x184 : IV) : Option (IV × Hp) :=
  ixS 3 x12 (.fv (.int .i64 2)) fun x186 => loadA 3 x186 h175 fun x187 r188 => chkS [(r185, [])] r188 [] (loadA 3 x171 h175 fun x189 r190 => chkS [(r188, []), (r185, [])] r190 [] (S53_232 ih h175 x0 x187 x189 r185 x7 x184))
noncomputable def S53_234 (x170 : IV) (h175 : Hp) (x7 : IV) (x171 : IV) (x12 : IV) (ih : Handler) (x0 : IV) : Option (IV × Hp) :=
  neS EE 35 x170 (.fv (.int .i64 0)) fun x178 => condS x178 (bldS [.fv (.int .i64 0), .fv (.int .i64 0), .nils] [] fun x179 => storeA 3 x7 x179 h175 fun h180 _ _ => S53_231 h180 x7 x170) (loadA 3 x171 h175 fun x184 r185 => chkS [] r185 [] (S53_233 x12 h175 r185 x171 ih x0 x7 x184))
noncomputable def S53_235 (ih : Handler) (h153 : Hp) (x0 : IV) (x163 : IV) (x7 : IV) (x12 : IV) : Option (IV × Hp) :=
  isoS [] false false ih 53 [x0, x163] h153 fun x165 h166 _ _ => extS 0 x165 fun x169 => extS 1 x165 fun x170 => newS 55601160 (.row [.fv (.int .i64 0), .fv (.int .i64 0), .nils] false) (.ptr (.own 55601160) 0) h166 fun x171 h172 _ _ => storeA 3 x171 x169 h172 fun h175 _ _ => S53_234 x170 h175 x7 x171 x12 ih x0
noncomputable def S53_236 (x152 : IV) (h153 : Hp) (x7 : IV) (x12 : IV) (ih : Handler) (x0 : IV) : Option (IV × Hp) :=
  neS EE 35 x152 (.fv (.int .i64 0)) fun x156 => condS x156 (bldS [.fv (.int .i64 0), .fv (.int .i64 0), .nils] [] fun x157 => storeA 3 x7 x157 h153 fun h158 _ _ => S53_230 h158 x7 x152) (ixS 3 x12 (.fv (.int .i64 1)) fun x162 => loadA 3 x162 h153 fun x163 _ => S53_235 ih h153 x0 x163 x7 x12)
noncomputable def S53_237 (r147 : List Ref) (ih : Handler) (h89 : Hp) (x0 : IV) (x146 : IV) (x7 : IV) (x12 : IV) : Option (IV × Hp) :=
  chkS [] r147 [] (isoS [] false false ih 64 [.fv (.int .i64 15), .nils] h89 fun x148 h149 r150 w151 => chkS [(r147, [])] r150 w151 (isoS [] false false ih 73 [x0, x146, x148] h149 fun x152 h153 r154 w155 => chkS [] r154 w155 (S53_236 x152 h153 x7 x12 ih x0)))
noncomputable def S53_238 (x201 : IV) (h202 : Hp) (x7 : IV) : Option (IV × Hp) :=
  extS 0 x201 fun x205 => extS 1 x201 fun x206 => storeA 3 x7 x205 h202 fun h207 _ _ => cellS true 3 x7 h207 fun x210 => outS1 [x210, x206] h207
noncomputable def S53_239 (x15 : IV) (x12 : IV) (h89 : Hp) (ih : Handler) (x0 : IV) (x7 : IV) (x3 : IV) : Option (IV × Hp) :=
  eqS EE 3 x15 (.fv (.int .i64 27)) fun x144 => condS x144 (ixS 3 x12 (.fv (.int .i64 0)) fun x145 => loadA 3 x145 h89 fun x146 r147 => S53_237 r147 ih h89 x0 x146 x7 x12) (loadA 3 x3 h89 fun x199 _ => dynS EE ih (.fv (.func (.func 76) [] [])) [x0, x199] h89 fun x201 h202 _ _ => S53_238 x201 h202 x7)
noncomputable def S53_240 (x88 : IV) (h89 : Hp) (x3 : IV) (ih : Handler) (x0 : IV) (x7 : IV) (x15 : IV) (x12 : IV) : Option (IV × Hp) :=
  condS x88 (loadA 3 x3 h89 fun x90 _ => isoS [] false false ih 74 [x0, x90] h89 fun x92 h93 _ _ => S53_223 x92 h93 x7) (eqS EE 3 x15 (.fv (.int .i64 28)) fun x102 => condS x102 (S53_229 x12 h89 ih x0 x7) (S53_239 x15 x12 h89 ih x0 x7 x3))
noncomputable def S53_241 (x211 : IV) (j1_87 : IV → Hp → Option (IV × Hp)) (h8 : Hp) (x15 : IV) : Option (IV × Hp) :=
  condS x211 (j1_87 x211 h8) (eqS EE 3 x15 (.fv (.int .i64 29)) fun x212 => j1_87 x212 h8)
noncomputable def S53_242 (x15 : IV) (x12 : IV) (h8 : Hp) (ih : Handler) (x0 : IV) (x7 : IV) (x3 : IV) : Option (IV × Hp) :=
  eqS EE 3 x15 (.fv (.int .i64 26)) fun x50 => condS x50 (ixS 3 x12 (.fv (.int .i64 0)) fun x51 => loadA 3 x51 h8 fun x52 r53 => S53_222 r53 ih h8 x0 x52 x7 x12) ((fun (j1_87 : IV → Hp → Option (IV × Hp)) => eqS EE 3 x15 (.fv (.int .i64 20)) fun x211 => S53_241 x211 j1_87 h8 x15) fun x88 h89 => S53_240 x88 h89 x3 ih x0 x7 x15 x12)
noncomputable def S53_243 (x15 : IV) (x3 : IV) (h8 : Hp) (x0 : IV) (x7 : IV) (ih : Handler) (x12 : IV) : Option (IV × Hp) :=
  eqS EE 3 x15 (.fv (.int .i64 1)) fun x17 => condS x17 (faddrS 1 x3 fun x18 => load1 x18 h8 fun x19 _ => S53_216 x0 x19 h8 x7 x3) (eqS EE 3 x15 (.fv (.int .i64 25)) fun x41 => condS x41 (S53_217 ih h8 x7) (S53_242 x15 x12 h8 ih x0 x7 x3))
noncomputable def S53 (ih : Handler) (n : Nat) (x0 : IV) (x1 : IV) (h2 : Hp) : Option (IV × Hp) :=
  boxS 55574528 x1 h2 fun x3 h4 _ _ => newS 55574529 (.row [.fv (.int .i64 0), .fv (.int .i64 0), .nils] false) (.ptr (.own 55574529) 0) h4 fun x7 h8 _ _ => faddrS 2 x3 fun x11 => load1 x11 h8 fun x12 _ => faddrS 0 x3 fun x14 => load1 x14 h8 fun x15 _ => S53_243 x15 x3 h8 x0 x7 ih x12
theorem S53_ok (ih : Handler) (n : Nat) (x0 : IV) (x1 : IV) (h2 : Hp) : funS EE ih ft.get n 53 [x0, x1] h2 = S53 ih n x0 x1 h2 := by kernel_rfl
noncomputable def S54_72 (x27 : IV) (x30 : IV) (h45 : Hp) (x44 : IV) (h1 : Hp) (x25 : IV) (x26 : IV) (x28 : IV) (x29 : IV) (q22 : List IV → Hp → Option (IV × Hp)) : Option (IV × Hp) :=
  ixS 3 x27 x30 fun x48 => storeA 3 x48 x44 h45 fun h49 _ _ => addS EE 3 x30 (.fv (.int .i64 1)) fun x52 => dropS (h1.own.map (·.1)) [56627203] [x25, x26, x27, x28, x29, x52] h49 fun h53 => q22 [x25, x26, x27, x28, x29, x52] h53
noncomputable def S54_73 (h24 : Hp) (x32 : IV) (ih : Handler) (x27 : IV) (x30 : IV) (h1 : Hp) (x25 : IV) (x26 : IV) (x28 : IV) (x29 : IV) (q22 : List IV → Hp → Option (IV × Hp)) : Option (IV × Hp) :=
  loadA 3 x32 h24 fun x33 _ => newS 56627203 (.row [.fv (.int .i64 0), .fv (.int .i64 0), .nils] false) (.ptr (.own 56627203) 0) h24 fun x35 h36 _ _ => storeA 3 x35 x33 h36 fun h39 _ _ => loadA 3 x35 h39 fun x42 _ => isoS [] false false ih 54 [x42] h39 fun x44 h45 _ _ => S54_72 x27 x30 h45 x44 h1 x25 x26 x28 x29 q22
noncomputable def S54_74 (h61 : Hp) (x26 : IV) : Option (IV × Hp) :=
  cellS true 3 x26 h61 fun x64 => outS1 [x64] h61
noncomputable def S54_75 (h24 : Hp) (x54 : IV) (x25 : IV) (x27 : IV) (x26 : IV) : Option (IV × Hp) :=
  load1 x54 h24 fun x55 _ => faddrS 1 x25 fun x57 => load1 x57 h24 fun x58 _ => bldS [.fv (.int .i64 0), .fv (.int .i64 0), .nils] [(0, 1, x55), (1, 1, x58), (2, 1, x27)] fun x60 => storeA 3 x26 x60 h24 fun h61 _ _ => S54_74 h61 x26
noncomputable def S54_76 (l69 : List IV) (x29 : IV) (x28 : IV) (h24 : Hp) (ih : Handler) (x27 : IV) (h1 : Hp) (x25 : IV) (x26 : IV) (q22 : List IV → Hp → Option (IV × Hp)) : Option (IV × Hp) :=
  uncS l69 fun x30 _ => ltS EE 3 x30 x29 fun x31 => condS x31 (ixS 3 x28 x30 fun x32 => S54_73 h24 x32 ih x27 x30 h1 x25 x26 x28 x29 q22) (faddrS 0 x25 fun x54 => S54_75 h24 x54 x25 x27 x26)
noncomputable def S54_77 (l23 : List IV) (h24 : Hp) (ih : Handler) (h1 : Hp) (q22 : List IV → Hp → Option (IV × Hp)) : Option (IV × Hp) :=
  uncS l23 fun x25 l65 => uncS l65 fun x26 l66 => uncS l66 fun x27 l67 => uncS l67 fun x28 l68 => uncS l68 fun x29 l69 => S54_76 l69 x29 x28 h24 ih x27 h1 x25 x26 q22
noncomputable def S54_78 (x2 : IV) (h15 : Hp) (h1 : Hp) (x6 : IV) (x14 : IV) (n : Nat) (ih : Handler) : Option (IV × Hp) :=
  faddrS 2 x2 fun x18 => load1 x18 h15 fun x19 _ => lenS x19 fun x21 => dropS (h1.own.map (·.1)) [56627203] [x2, x6, x14, x19, x21, .fv (.int .i64 0)] h15 fun h71 => loopS n (fun q22 l23 h24 => S54_77 l23 h24 ih h1 q22) [x2, x6, x14, x19, x21, .fv (.int .i64 0)] h71
noncomputable def S54 (ih : Handler) (n : Nat) (x0 : IV) (h1 : Hp) : Option (IV × Hp) :=
  boxS 56623104 x0 h1 fun x2 h3 _ _ => newS 56623105 (.row [.fv (.int .i64 0), .fv (.int .i64 0), .nils] false) (.ptr (.own 56623105) 0) h3 fun x6 h7 _ _ => faddrS 2 x2 fun x10 => load1 x10 h7 fun x11 _ => lenS x11 fun x13 => genS (pcMakeSlice EE 56624131 28 x13 x13) 56624131 h7 fun x14 h15 _ _ => S54_78 x2 h15 h1 x6 x14 n ih
theorem S54_ok (ih : Handler) (n : Nat) (x0 : IV) (h1 : Hp) : funS EE ih ft.get n 54 [x0] h1 = S54 ih n x0 h1 := by kernel_rfl
noncomputable def S55_486 (h22 : Hp) (x18 : IV) (x7 : IV) : Option (IV × Hp) :=
  loadA 3 x18 h22 fun x34 _ => storeA 3 x7 x34 h22 fun h36 _ _ => cellS true 3 x7 h36 fun x39 => outS1 [x39, .fv (.int .i64 8)] h36
noncomputable def S55_487 (x0 : IV) (x45 : IV) (h22 : Hp) (x7 : IV) : Option (IV × Hp) :=
  ixS 3 x0 x45 fun x46 => loadA 3 x46 h22 fun x47 _ => storeA 3 x7 x47 h22 fun h49 _ _ => cellS true 3 x7 h49 fun x52 => outS1 [x52, .fv (.int .i64 0)] h49
noncomputable def S55_488 (x0 : IV) (x3 : IV) (h22 : Hp) (x7 : IV) : Option (IV × Hp) :=
  lenS x0 fun x40 => subS EE 3 x40 (.fv (.int .i64 1)) fun x41 => faddrS 1 x3 fun x42 => load1 x42 h22 fun x43 _ => subS EE 3 x41 x43 fun x45 => S55_487 x0 x45 h22 x7
noncomputable def S55_489 (x3 : IV) (h22 : Hp) (x0 : IV) (x18 : IV) (x7 : IV) : Option (IV × Hp) :=
  faddrS 1 x3 fun x29 => load1 x29 h22 fun x30 _ => lenS x0 fun x32 => geS EE 3 x30 x32 fun x33 => condS x33 (S55_486 h22 x18 x7) (S55_488 x0 x3 h22 x7)
noncomputable def S55_490 (h56 : Hp) (x7 : IV) : Option (IV × Hp) :=
  cellS true 3 x7 h56 fun x59 => outS1 [x59, .fv (.int .i64 0)] h56
noncomputable def S55_491 (h72 : Hp) (x18 : IV) (x7 : IV) (x71 : IV) : Option (IV × Hp) :=
  loadA 3 x18 h72 fun x73 _ => storeA 3 x7 x73 h72 fun h75 _ _ => cellS true 3 x7 h75 fun x78 => outS1 [x78, x71] h75
noncomputable def S55_492 (ih : Handler) (h67 : Hp) (x0 : IV) (x81 : IV) (x83 : IV) (j1_70 : IV → Hp → Option (IV × Hp)) : Option (IV × Hp) :=
  isoS [] false false ih 77 [x0, x81, x83] h67 fun x85 h86 r87 w88 => chkS [] r87 w88 (j1_70 x85 h86)
noncomputable def S55_493 (x12 : IV) (h67 : Hp) (x18 : IV) (ih : Handler) (x0 : IV) (j1_70 : IV → Hp → Option (IV × Hp)) : Option (IV × Hp) :=
  ixS 3 x12 (.fv (.int .i64 1)) fun x80 => loadA 3 x80 h67 fun x81 r82 => chkS [] r82 [] (loadA 3 x18 h67 fun x83 r84 => chkS [(r82, [])] r84 [] (S55_492 ih h67 x0 x81 x83 j1_70))
noncomputable def S55_494 (ih : Handler) (h22 : Hp) (x0 : IV) (x62 : IV) (x64 : IV) (x18 : IV) (x7 : IV) (x12 : IV) : Option (IV × Hp) :=
  isoS [] false false ih 77 [x0, x62, x64] h22 fun x66 h67 r68 w69 => chkS [] r68 w69 ((fun (j1_70 : IV → Hp → Option (IV × Hp)) => eqS EE 3 x66 (.fv (.int .i64 0)) fun x79 => condS x79 (S55_493 x12 h67 x18 ih x0 j1_70) (j1_70 x66 h67)) fun x71 h72 => S55_491 h72 x18 x7 x71)
noncomputable def S55_495 (x12 : IV) (h22 : Hp) (x18 : IV) (ih : Handler) (x0 : IV) (x7 : IV) : Option (IV × Hp) :=
  ixS 3 x12 (.fv (.int .i64 0)) fun x61 => loadA 3 x61 h22 fun x62 r63 => chkS [] r63 [] (loadA 3 x18 h22 fun x64 r65 => chkS [(r63, [])] r65 [] (S55_494 ih h22 x0 x62 x64 x18 x7 x12))
noncomputable def S55_496 (h96 : Hp) (x7 : IV) (x100 : IV) : Option (IV × Hp) :=
  storeA 3 x7 x100 h96 fun h102 _ _ => cellS true 3 x7 h102 fun x105 => outS1 [x105, .fv (.int .i64 10)] h102
noncomputable def S55_497 (h127 : Hp) (x7 : IV) (x111 : IV) (x126 : IV) : Option (IV × Hp) :=
  storeA 3 x7 x111 h127 fun h130 r131 w132 => chkS [] r131 w132 (cellS true 3 x7 h130 fun x133 => outS1 [x133, x126] h130)
noncomputable def S55_498 (x12 : IV) (h117 : Hp) (r122 : List Ref) (r118 : List Ref) (w119 : List Ref) (r115 : List Ref) (r112 : List Ref) (ih : Handler) (x116 : IV) (x121 : IV) (x7 : IV) (x111 : IV) : Option (IV × Hp) :=
  ixS 3 x12 (.fv (.int .i64 0)) fun x123 => loadA 3 x123 h117 fun x124 r125 => chkS [(r122, []), (r118, w119), (r115, []), (r112, [])] r125 [] (isoS [] false false ih 77 [x116, x121, x124] h117 fun x126 h127 r128 w129 => chkS [(r112, [])] r128 w129 (S55_497 h127 x7 x111 x126))
noncomputable def S55_499 (ih : Handler) (h96 : Hp) (x0 : IV) (x114 : IV) (r112 : List Ref) (x12 : IV) (r115 : List Ref) (x7 : IV) (x111 : IV) : Option (IV × Hp) :=
  isoS [] false false ih 78 [x0, x114] h96 fun x116 h117 r118 w119 => chkS [(r112, [])] r118 w119 (ixS 3 x12 (.fv (.int .i64 1)) fun x120 => loadA 3 x120 h117 fun x121 r122 => chkS [(r118, w119), (r115, []), (r112, [])] r122 [] (S55_498 x12 h117 r122 r118 w119 r115 r112 ih x116 x121 x7 x111))
noncomputable def S55_500 (h96 : Hp) (x110 : IV) (x12 : IV) (ih : Handler) (x0 : IV) (x7 : IV) : Option (IV × Hp) :=
  loadA 3 x110 h96 fun x111 r112 => chkS [] r112 [] (ixS 3 x12 (.fv (.int .i64 0)) fun x113 => loadA 3 x113 h96 fun x114 r115 => chkS [(r112, [])] r115 [] (S55_499 ih h96 x0 x114 r112 x12 r115 x7 x111))
noncomputable def S55_501 (h176 : Hp) (x7 : IV) (x175 : IV) : Option (IV × Hp) :=
  cellS true 3 x7 h176 fun x179 => outS1 [x179, x175] h176
noncomputable def S55_502 (r172 : List Ref) (w173 : List Ref) (x170 : IV) (h171 : Hp) (x7 : IV) : Option (IV × Hp) :=
  chkS [] r172 w173 (extS 0 x170 fun x174 => extS 1 x170 fun x175 => storeA 3 x7 x174 h171 fun h176 r177 w178 => chkS [] r177 w178 (S55_501 h176 x7 x175))
noncomputable def S55_503 (h154 : Hp) (x158 : IV) (x160 : IV) (ih : Handler) (x149 : IV) (x7 : IV) : Option (IV × Hp) :=
  genS (pcBuildSlice EE 28 2 [(0, x158), (1, x160)]) 57694212 h154 fun x162 h163 r164 w165 => chkS [] r164 w165 (isoS [] false false ih 30 [.fv (.int .i64 16), x162] h163 fun x166 h167 r168 w169 => chkS [] r168 w169 (isoS [] false false ih 79 [x166, x149] h167 fun x170 h171 r172 w173 => S55_502 r172 w173 x170 h171 x7))
noncomputable def S55_504 (x12 : IV) (h154 : Hp) (x150 : IV) (ih : Handler) (x149 : IV) (x7 : IV) : Option (IV × Hp) :=
  ixS 3 x12 (.fv (.int .i64 0)) fun x157 => loadA 3 x157 h154 fun x158 r159 => chkS [] r159 [] (loadA 3 x150 h154 fun x160 r161 => chkS [(r159, [])] r161 [] (S55_503 h154 x158 x160 ih x149 x7))
noncomputable def S55_505 (x144 : IV) (h145 : Hp) (r146 : List Ref) (w147 : List Ref) (r143 : List Ref) (r139 : List Ref) (w140 : List Ref) (r136 : List Ref) (x148 : IV) (x12 : IV) (ih : Handler) (x7 : IV) : Option (IV × Hp) :=
  extS 1 x144 fun x149 => newS 57693196 (.row [.fv (.int .i64 0), .fv (.int .i64 0), .nils] false) (.ptr (.own 57693196) 0) h145 fun x150 h151 r152 w153 => chkS [(r146, w147), (r143, []), (r139, w140), (r136, [])] r152 w153 (storeA 3 x150 x148 h151 fun h154 r155 w156 => chkS [] r155 w156 (S55_504 x12 h154 x150 ih x149 x7))
noncomputable def S55_506 (h138 : Hp) (x141 : IV) (r139 : List Ref) (w140 : List Ref) (r136 : List Ref) (ih : Handler) (x137 : IV) (x12 : IV) (x7 : IV) : Option (IV × Hp) :=
  loadA 3 x141 h138 fun x142 r143 => chkS [(r139, w140), (r136, [])] r143 [] (isoS [] false false ih 19 [x137, x142] h138 fun x144 h145 r146 w147 => chkS [] r146 w147 (extS 0 x144 fun x148 => S55_505 x144 h145 r146 w147 r143 r139 w140 r136 x148 x12 ih x7))
noncomputable def S55_507 (h96 : Hp) (x134 : IV) (ih : Handler) (x0 : IV) (x12 : IV) (x7 : IV) : Option (IV × Hp) :=
  loadA 3 x134 h96 fun x135 r136 => chkS [] r136 [] (isoS [] false false ih 78 [x0, x135] h96 fun x137 h138 r139 w140 => chkS [] r139 w140 (ixS 3 x12 (.fv (.int .i64 1)) fun x141 => S55_506 h138 x141 r139 w140 r136 ih x137 x12 x7))
noncomputable def S55_508 (h96 : Hp) (x106 : IV) (x12 : IV) (ih : Handler) (x0 : IV) (x7 : IV) : Option (IV × Hp) :=
  load1 x106 h96 fun x107 _ => eqS EE 3 x107 (.fv (.int .i64 29)) fun x109 => condS x109 (ixS 3 x12 (.fv (.int .i64 0)) fun x110 => S55_500 h96 x110 x12 ih x0 x7) (ixS 3 x12 (.fv (.int .i64 0)) fun x134 => S55_507 h96 x134 ih x0 x12 x7)
noncomputable def S55_509 (ih : Handler) (h91 : Hp) (x93 : IV) (x18 : IV) (x7 : IV) (x3 : IV) (x12 : IV) (x0 : IV) : Option (IV × Hp) :=
  isoS [] false false ih 21 [x93] h91 fun x95 h96 _ _ => optS (unR .not x95) fun x99 => condS x99 (loadA 3 x18 h96 fun x100 _ => S55_496 h96 x7 x100) (faddrS 0 x3 fun x106 => S55_508 h96 x106 x12 ih x0 x7)
noncomputable def S55_510 (h194 : Hp) (x7 : IV) (x198 : IV) (x189 : IV) : Option (IV × Hp) :=
  storeA 3 x7 x198 h194 fun h200 _ _ => cellS true 3 x7 h200 fun x203 => outS1 [x203, x189] h200
noncomputable def S55_511 (h214 : Hp) (x7 : IV) (x217 : IV) (x218 : IV) : Option (IV × Hp) :=
  storeA 3 x7 x217 h214 fun h219 r220 w221 => chkS [] r220 w221 (cellS true 3 x7 h219 fun x222 => outS1 [x222, x218] h219)
noncomputable def S55_512 (r212 : List Ref) (r208 : List Ref) (w209 : List Ref) (r205 : List Ref) (ih : Handler) (h207 : Hp) (x206 : IV) (x211 : IV) (x7 : IV) : Option (IV × Hp) :=
  chkS [(r208, w209), (r205, [])] r212 [] (isoS [] false false ih 19 [x206, x211] h207 fun x213 h214 r215 w216 => chkS [] r215 w216 (extS 0 x213 fun x217 => extS 1 x213 fun x218 => S55_511 h214 x7 x217 x218))
noncomputable def S55_513 (r205 : List Ref) (ih : Handler) (h194 : Hp) (x0 : IV) (x204 : IV) (x12 : IV) (x7 : IV) : Option (IV × Hp) :=
  chkS [] r205 [] (isoS [] false false ih 78 [x0, x204] h194 fun x206 h207 r208 w209 => chkS [] r208 w209 (ixS 3 x12 (.fv (.int .i64 1)) fun x210 => loadA 3 x210 h207 fun x211 r212 => S55_512 r212 r208 w209 r205 ih h207 x206 x211 x7))
noncomputable def S55_514 (h185 : Hp) (x188 : IV) (x189 : IV) (x7 : IV) (ih : Handler) (x0 : IV) (x12 : IV) : Option (IV × Hp) :=
  newS 57696264 (.row [.fv (.int .i64 0), .fv (.int .i64 0), .nils] false) (.ptr (.own 57696264) 0) h185 fun x190 h191 _ _ => storeA 3 x190 x188 h191 fun h194 _ _ => neS EE 3 x189 (.fv (.int .i64 0)) fun x197 => condS x197 (loadA 3 x190 h194 fun x198 _ => S55_510 h194 x7 x198 x189) (loadA 3 x190 h194 fun x204 r205 => S55_513 r205 ih h194 x0 x204 x12 x7)
noncomputable def S55_515 (x12 : IV) (h91 : Hp) (ih : Handler) (x0 : IV) (x7 : IV) : Option (IV × Hp) :=
  ixS 3 x12 (.fv (.int .i64 0)) fun x181 => loadA 3 x181 h91 fun x182 _ => isoS [] false false ih 19 [x0, x182] h91 fun x184 h185 _ _ => extS 0 x184 fun x188 => extS 1 x184 fun x189 => S55_514 h185 x188 x189 x7 ih x0 x12
noncomputable def S55_516 (h236 : Hp) (x7 : IV) (x229 : IV) : Option (IV × Hp) :=
  cellS true 3 x7 h236 fun x239 => outS1 [x239, x229] h236
noncomputable def S55_517 (h258 : Hp) (x249 : IV) (x7 : IV) (x257 : IV) : Option (IV × Hp) :=
  loadA 3 x249 h258 fun x259 _ => storeA 3 x7 x259 h258 fun h261 _ _ => cellS true 3 x7 h261 fun x264 => outS1 [x264, x257] h261
noncomputable def S55_518 (r273 : List Ref) (w274 : List Ref) (j1_256 : IV → Hp → Option (IV × Hp)) (h272 : Hp) (x271 : IV) : Option (IV × Hp) :=
  chkS [] r273 w274 (j1_256 x271 h272)
noncomputable def S55_519 (h253 : Hp) (x266 : IV) (x249 : IV) (ih : Handler) (x0 : IV) (j1_256 : IV → Hp → Option (IV × Hp)) : Option (IV × Hp) :=
  loadA 3 x266 h253 fun x267 r268 => chkS [] r268 [] (loadA 3 x249 h253 fun x269 r270 => chkS [(r268, [])] r270 [] (isoS [] false false ih 77 [x0, x267, x269] h253 fun x271 h272 r273 w274 => S55_518 r273 w274 j1_256 h272 x271))
noncomputable def S55_520 (x249 : IV) (x7 : IV) (x248 : IV) (x12 : IV) (h253 : Hp) (ih : Handler) (x0 : IV) : Option (IV × Hp) :=
  (fun (j1_256 : IV → Hp → Option (IV × Hp)) => eqS EE 3 x248 (.fv (.int .i64 0)) fun x265 => condS x265 (ixS 3 x12 (.fv (.int .i64 2)) fun x266 => S55_519 h253 x266 x249 ih x0 j1_256) (j1_256 x248 h253)) fun x257 h258 => S55_517 h258 x249 x7 x257
noncomputable def S55_521 (ih : Handler) (h230 : Hp) (x0 : IV) (x241 : IV) (x7 : IV) (x12 : IV) : Option (IV × Hp) :=
  isoS [] false false ih 19 [x0, x241] h230 fun x243 h244 _ _ => extS 0 x243 fun x247 => extS 1 x243 fun x248 => newS 57704456 (.row [.fv (.int .i64 0), .fv (.int .i64 0), .nils] false) (.ptr (.own 57704456) 0) h244 fun x249 h250 _ _ => storeA 3 x249 x247 h250 fun h253 _ _ => S55_520 x249 x7 x248 x12 h253 ih x0
noncomputable def S55_522 (x229 : IV) (h230 : Hp) (x18 : IV) (x7 : IV) (x12 : IV) (ih : Handler) (x0 : IV) : Option (IV × Hp) :=
  neS EE 3 x229 (.fv (.int .i64 0)) fun x233 => condS x233 (loadA 3 x18 h230 fun x234 _ => storeA 3 x7 x234 h230 fun h236 _ _ => S55_516 h236 x7 x229) (ixS 3 x12 (.fv (.int .i64 1)) fun x240 => loadA 3 x240 h230 fun x241 _ => S55_521 ih h230 x0 x241 x7 x12)
noncomputable def S55_523 (r226 : List Ref) (h91 : Hp) (x18 : IV) (ih : Handler) (x0 : IV) (x225 : IV) (x7 : IV) (x12 : IV) : Option (IV × Hp) :=
  chkS [] r226 [] (loadA 3 x18 h91 fun x227 r228 => chkS [(r226, [])] r228 [] (isoS [] false false ih 77 [x0, x225, x227] h91 fun x229 h230 r231 w232 => chkS [] r231 w232 (S55_522 x229 h230 x18 x7 x12 ih x0)))
noncomputable def S55_524 (h289 : Hp) (x7 : IV) (x293 : IV) (x284 : IV) : Option (IV × Hp) :=
  storeA 3 x7 x293 h289 fun h295 _ _ => cellS true 3 x7 h295 fun x298 => outS1 [x298, x284] h295
noncomputable def S55_525 (ih : Handler) (h324 : Hp) (x323 : IV) (x307 : IV) (x7 : IV) : Option (IV × Hp) :=
  isoS [] false false ih 79 [x323, x307] h324 fun x327 h328 _ _ => extS 0 x327 fun x331 => extS 1 x327 fun x332 => storeA 3 x7 x331 h328 fun h333 _ _ => cellS true 3 x7 h333 fun x336 => outS1 [x336, x332] h333
noncomputable def S55_526 (h309 : Hp) (x308 : IV) (x306 : IV) (x285 : IV) (ih : Handler) (x307 : IV) (x7 : IV) : Option (IV × Hp) :=
  storeA 3 x308 x306 h309 fun h312 _ _ => loadA 3 x285 h312 fun x315 _ => loadA 3 x308 h312 fun x317 _ => genS (pcBuildSlice EE 28 2 [(0, x315), (1, x317)]) 57713666 h312 fun x319 h320 _ _ => isoS [] false false ih 30 [.fv (.int .i64 17), x319] h320 fun x323 h324 _ _ => S55_525 ih h324 x323 x307 x7
noncomputable def S55_527 (h289 : Hp) (x299 : IV) (ih : Handler) (x0 : IV) (x285 : IV) (x7 : IV) : Option (IV × Hp) :=
  loadA 3 x299 h289 fun x300 _ => isoS [] false false ih 19 [x0, x300] h289 fun x302 h303 _ _ => extS 0 x302 fun x306 => extS 1 x302 fun x307 => newS 57712648 (.row [.fv (.int .i64 0), .fv (.int .i64 0), .nils] false) (.ptr (.own 57712648) 0) h303 fun x308 h309 _ _ => S55_526 h309 x308 x306 x285 ih x307 x7
noncomputable def S55_528 (h280 : Hp) (x283 : IV) (x284 : IV) (x7 : IV) (x12 : IV) (ih : Handler) (x0 : IV) : Option (IV × Hp) :=
  newS 57709576 (.row [.fv (.int .i64 0), .fv (.int .i64 0), .nils] false) (.ptr (.own 57709576) 0) h280 fun x285 h286 _ _ => storeA 3 x285 x283 h286 fun h289 _ _ => neS EE 3 x284 (.fv (.int .i64 0)) fun x292 => condS x292 (loadA 3 x285 h289 fun x293 _ => S55_524 h289 x7 x293 x284) (ixS 3 x12 (.fv (.int .i64 1)) fun x299 => S55_527 h289 x299 ih x0 x285 x7)
noncomputable def S55_529 (x12 : IV) (h91 : Hp) (ih : Handler) (x0 : IV) (x7 : IV) : Option (IV × Hp) :=
  ixS 3 x12 (.fv (.int .i64 0)) fun x276 => loadA 3 x276 h91 fun x277 _ => isoS [] false false ih 19 [x0, x277] h91 fun x279 h280 _ _ => extS 0 x279 fun x283 => extS 1 x279 fun x284 => S55_528 h280 x283 x284 x7 x12 ih x0
noncomputable def S55_530 (h363 : Hp) (x7 : IV) (x358 : IV) : Option (IV × Hp) :=
  cellS true 3 x7 h363 fun x366 => outS1 [x366, x358] h363
noncomputable def S55_531 (x368 : IV) (h359 : Hp) (x7 : IV) : Option (IV × Hp) :=
  ixS 3 x368 (.fv (.int .i64 1)) fun x370 => loadA 3 x370 h359 fun x371 _ => storeA 3 x7 x371 h359 fun h373 _ _ => cellS true 3 x7 h373 fun x376 => outS1 [x376, .fv (.int .i64 0)] h373
noncomputable def S55_532 (x358 : IV) (h359 : Hp) (x18 : IV) (x7 : IV) (x347 : IV) : Option (IV × Hp) :=
  neS EE 3 x358 (.fv (.int .i64 0)) fun x360 => condS x360 (loadA 3 x18 h359 fun x361 _ => storeA 3 x7 x361 h359 fun h363 _ _ => S55_530 h363 x7 x358) (faddrS 2 x347 fun x367 => load1 x367 h359 fun x368 _ => S55_531 x368 h359 x7)
noncomputable def S55_533 (x382 : IV) (h356 : Hp) (r380 : List Ref) (ih : Handler) (x0 : IV) (x379 : IV) (j1_357 : IV → Hp → Option (IV × Hp)) : Option (IV × Hp) :=
  ixS 3 x382 (.fv (.int .i64 0)) fun x384 => loadA 3 x384 h356 fun x385 r386 => chkS [(r380, [])] r386 [] (isoS [] false false ih 77 [x0, x379, x385] h356 fun x387 h388 r389 w390 => chkS [] r389 w390 (j1_357 x387 h388))
noncomputable def S55_534 (h356 : Hp) (x378 : IV) (x347 : IV) (ih : Handler) (x0 : IV) (j1_357 : IV → Hp → Option (IV × Hp)) : Option (IV × Hp) :=
  loadA 3 x378 h356 fun x379 r380 => chkS [] r380 [] (faddrS 2 x347 fun x381 => load1 x381 h356 fun x382 r383 => chkS [(r380, [])] r383 [] (S55_533 x382 h356 r380 ih x0 x379 j1_357))
noncomputable def S55_535 (x18 : IV) (x7 : IV) (x347 : IV) (x355 : IV) (x12 : IV) (h356 : Hp) (ih : Handler) (x0 : IV) : Option (IV × Hp) :=
  (fun (j1_357 : IV → Hp → Option (IV × Hp)) => eqS EE 3 x355 (.fv (.int .i64 0)) fun x377 => condS x377 (ixS 3 x12 (.fv (.int .i64 1)) fun x378 => S55_534 h356 x378 x347 ih x0 j1_357) (j1_357 x355 h356)) fun x358 h359 => S55_532 x358 h359 x18 x7 x347
noncomputable def S55_536 (x391 : IV) (x407 : IV) (j1_354 : IV → Hp → Option (IV × Hp)) (h408 : Hp) (x346 : IV) : Option (IV × Hp) :=
  pickS x391 x407 (.fv (.bool false)) fun x411 => condS x411 (j1_354 (.fv (.int .i64 12)) h408) (j1_354 x346 h408)
noncomputable def S55_537 (x18 : IV) (x7 : IV) (x347 : IV) (x12 : IV) (ih : Handler) (x0 : IV) (x346 : IV) (h351 : Hp) : Option (IV × Hp) :=
  (fun (j1_354 : IV → Hp → Option (IV × Hp)) => eqS EE 3 x346 (.fv (.int .i64 0)) fun x391 => guardS x391 true h351 (fun k392 => faddrS 0 x347 fun x393 => k392 x393 h351 [] []) fun x394 h395 _ _ => guardS x391 true h395 (fun k398 => load1 x394 h395 fun x399 r400 => k398 x399 h395 r400 []) fun x401 h402 _ _ => guardS x391 true h402 (fun k405 => neS EE 3 x401 (.fv (.int .i64 16)) fun x406 => k405 x406 h402 [] []) fun x407 h408 _ _ => S55_536 x391 x407 j1_354 h408 x346) fun x355 h356 => S55_535 x18 x7 x347 x355 x12 h356 ih x0
noncomputable def S55_538 (ih : Handler) (h91 : Hp) (x0 : IV) (x339 : IV) (x18 : IV) (x7 : IV) (x12 : IV) : Option (IV × Hp) :=
  isoS [] false false ih 19 [x0, x339] h91 fun x341 h342 _ _ => extS 0 x341 fun x345 => extS 1 x341 fun x346 => newS 57715720 (.row [.fv (.int .i64 0), .fv (.int .i64 0), .nils] false) (.ptr (.own 57715720) 0) h342 fun x347 h348 _ _ => storeA 3 x347 x345 h348 fun h351 _ _ => S55_537 x18 x7 x347 x12 ih x0 x346 h351
noncomputable def S55_539 (h437 : Hp) (x7 : IV) (x432 : IV) : Option (IV × Hp) :=
  cellS true 3 x7 h437 fun x440 => outS1 [x440, x432] h437
noncomputable def S55_540 (h433 : Hp) (x7 : IV) (x449 : IV) : Option (IV × Hp) :=
  storeA 3 x7 x449 h433 fun h451 _ _ => cellS true 3 x7 h451 fun x454 => outS1 [x454, .fv (.int .i64 0)] h451
noncomputable def S55_541 (x3 : IV) (h433 : Hp) (x442 : IV) (x7 : IV) : Option (IV × Hp) :=
  faddrS 0 x3 fun x444 => load1 x444 h433 fun x445 _ => subS EE 3 x445 (.fv (.int .i64 23)) fun x447 => ixS 3 x442 x447 fun x448 => loadA 3 x448 h433 fun x449 _ => S55_540 h433 x7 x449
noncomputable def S55_542 (x432 : IV) (h433 : Hp) (x18 : IV) (x7 : IV) (x424 : IV) (x3 : IV) : Option (IV × Hp) :=
  neS EE 3 x432 (.fv (.int .i64 0)) fun x434 => condS x434 (loadA 3 x18 h433 fun x435 _ => storeA 3 x7 x435 h433 fun h437 _ _ => S55_539 h437 x7 x432) (faddrS 2 x424 fun x441 => load1 x441 h433 fun x442 _ => S55_541 x3 h433 x442 x7)
noncomputable def S55_543 (x455 : IV) (x471 : IV) (j1_431 : IV → Hp → Option (IV × Hp)) (h472 : Hp) (x423 : IV) : Option (IV × Hp) :=
  pickS x455 x471 (.fv (.bool false)) fun x475 => condS x475 (j1_431 (.fv (.int .i64 12)) h472) (j1_431 x423 h472)
noncomputable def S55_544 (x18 : IV) (x7 : IV) (x424 : IV) (x3 : IV) (x423 : IV) (h428 : Hp) : Option (IV × Hp) :=
  (fun (j1_431 : IV → Hp → Option (IV × Hp)) => eqS EE 3 x423 (.fv (.int .i64 0)) fun x455 => guardS x455 true h428 (fun k456 => faddrS 0 x424 fun x457 => k456 x457 h428 [] []) fun x458 h459 _ _ => guardS x455 true h459 (fun k462 => load1 x458 h459 fun x463 r464 => k462 x463 h459 r464 []) fun x465 h466 _ _ => guardS x455 true h466 (fun k469 => neS EE 3 x465 (.fv (.int .i64 17)) fun x470 => k469 x470 h466 [] []) fun x471 h472 _ _ => S55_543 x455 x471 j1_431 h472 x423) fun x432 h433 => S55_542 x432 h433 x18 x7 x424 x3
noncomputable def S55_545 (ih : Handler) (h414 : Hp) (x0 : IV) (x416 : IV) (x18 : IV) (x7 : IV) (x3 : IV) : Option (IV × Hp) :=
  isoS [] false false ih 19 [x0, x416] h414 fun x418 h419 _ _ => extS 0 x418 fun x422 => extS 1 x418 fun x423 => newS 57725960 (.row [.fv (.int .i64 0), .fv (.int .i64 0), .nils] false) (.ptr (.own 57725960) 0) h419 fun x424 h425 _ _ => storeA 3 x424 x422 h425 fun h428 _ _ => S55_544 x18 x7 x424 x3 x423 h428
noncomputable def S55_546 (h478 : Hp) (x7 : IV) : Option (IV × Hp) :=
  cellS true 3 x7 h478 fun x481 => outS1 [x481, .fv (.int .i64 10)] h478
noncomputable def S55_547 (x413 : IV) (x12 : IV) (h414 : Hp) (ih : Handler) (x0 : IV) (x18 : IV) (x7 : IV) (x3 : IV) : Option (IV × Hp) :=
  condS x413 (ixS 3 x12 (.fv (.int .i64 0)) fun x415 => loadA 3 x415 h414 fun x416 _ => S55_545 ih h414 x0 x416 x18 x7 x3) (loadA 3 x18 h414 fun x476 _ => storeA 3 x7 x476 h414 fun h478 _ _ => S55_546 h478 x7)
noncomputable def S55_548 (x482 : IV) (j1_412 : IV → Hp → Option (IV × Hp)) (h91 : Hp) (x26 : IV) : Option (IV × Hp) :=
  condS x482 (j1_412 x482 h91) (eqS EE 3 x26 (.fv (.int .i64 24)) fun x483 => j1_412 x483 h91)
noncomputable def S55_549 (x26 : IV) (x12 : IV) (h91 : Hp) (ih : Handler) (x0 : IV) (x18 : IV) (x7 : IV) (x3 : IV) : Option (IV × Hp) :=
  eqS EE 3 x26 (.fv (.int .i64 21)) fun x337 => condS x337 (ixS 3 x12 (.fv (.int .i64 0)) fun x338 => loadA 3 x338 h91 fun x339 _ => S55_538 ih h91 x0 x339 x18 x7 x12) ((fun (j1_412 : IV → Hp → Option (IV × Hp)) => eqS EE 3 x26 (.fv (.int .i64 23)) fun x482 => S55_548 x482 j1_412 h91 x26) fun x413 h414 => S55_547 x413 x12 h414 ih x0 x18 x7 x3)
noncomputable def S55_550 (x26 : IV) (x12 : IV) (h91 : Hp) (x18 : IV) (ih : Handler) (x0 : IV) (x7 : IV) (x3 : IV) : Option (IV × Hp) :=
  eqS EE 3 x26 (.fv (.int .i64 27)) fun x223 => condS x223 (ixS 3 x12 (.fv (.int .i64 0)) fun x224 => loadA 3 x224 h91 fun x225 r226 => S55_523 r226 h91 x18 ih x0 x225 x7 x12) (eqS EE 3 x26 (.fv (.int .i64 22)) fun x275 => condS x275 (S55_529 x12 h91 ih x0 x7) (S55_549 x26 x12 h91 ih x0 x18 x7 x3))
noncomputable def S55_551 (x90 : IV) (x12 : IV) (h91 : Hp) (ih : Handler) (x18 : IV) (x7 : IV) (x3 : IV) (x0 : IV) (x26 : IV) : Option (IV × Hp) :=
  condS x90 (ixS 3 x12 (.fv (.int .i64 0)) fun x92 => loadA 3 x92 h91 fun x93 _ => S55_509 ih h91 x93 x18 x7 x3 x12 x0) (eqS EE 3 x26 (.fv (.int .i64 28)) fun x180 => condS x180 (S55_515 x12 h91 ih x0 x7) (S55_550 x26 x12 h91 x18 ih x0 x7 x3))
noncomputable def S55_552 (x12 : IV) (ih : Handler) (x18 : IV) (x7 : IV) (x3 : IV) (x0 : IV) (x26 : IV) (h22 : Hp) : Option (IV × Hp) :=
  (fun (j1_89 : IV → Hp → Option (IV × Hp)) => eqS EE 3 x26 (.fv (.int .i64 20)) fun x484 => condS x484 (j1_89 x484 h22) (eqS EE 3 x26 (.fv (.int .i64 29)) fun x485 => j1_89 x485 h22)) fun x90 h91 => S55_551 x90 x12 h91 ih x18 x7 x3 x0 x26
noncomputable def S55_553 (x26 : IV) (h22 : Hp) (x18 : IV) (x7 : IV) (x12 : IV) (ih : Handler) (x0 : IV) (x3 : IV) : Option (IV × Hp) :=
  eqS EE 3 x26 (.fv (.int .i64 25)) fun x53 => condS x53 (loadA 3 x18 h22 fun x54 _ => storeA 3 x7 x54 h22 fun h56 _ _ => S55_490 h56 x7) (eqS EE 3 x26 (.fv (.int .i64 26)) fun x60 => condS x60 (S55_495 x12 h22 x18 ih x0 x7) (S55_552 x12 ih x18 x7 x3 x0 x26 h22))
noncomputable def S55_554 (h19 : Hp) (x18 : IV) (x14 : IV) (x3 : IV) (x0 : IV) (x7 : IV) (x12 : IV) (ih : Handler) : Option (IV × Hp) :=
  storeA 3 x18 x14 h19 fun h22 _ _ => faddrS 0 x3 fun x25 => load1 x25 h22 fun x26 _ => eqS EE 3 x26 (.fv (.int .i64 1)) fun x28 => condS x28 (S55_489 x3 h22 x0 x18 x7) (S55_553 x26 h22 x18 x7 x12 ih x0 x3)
noncomputable def S55 (ih : Handler) (n : Nat) (x0 : IV) (x1 : IV) (h2 : Hp) : Option (IV × Hp) :=
  boxS 57671680 x1 h2 fun x3 h4 _ _ => newS 57671681 (.row [.fv (.int .i64 0), .fv (.int .i64 0), .nils] false) (.ptr (.own 57671681) 0) h4 fun x7 h8 _ _ => faddrS 2 x3 fun x11 => load1 x11 h8 fun x12 _ => isoS [] false false ih 30 [.fv (.int .i64 15), .nils] h8 fun x14 h15 _ _ => newS 57673729 (.row [.fv (.int .i64 0), .fv (.int .i64 0), .nils] false) (.ptr (.own 57673729) 0) h15 fun x18 h19 _ _ => S55_554 h19 x18 x14 x3 x0 x7 x12 ih
theorem S55_ok (ih : Handler) (n : Nat) (x0 : IV) (x1 : IV) (h2 : Hp) : funS EE ih ft.get n 55 [x0, x1] h2 = S55 ih n x0 x1 h2 := by kernel_rfl
noncomputable def S56_156 (ih : Handler) (h59 : Hp) (x23 : IV) (x67 : IV) (x69 : IV) (x26 : IV) (q20 : List IV → Hp → Option (IV × Hp)) (x24 : IV) (x25 : IV) : Option (IV × Hp) :=
  isoS [true, false, false] false false ih 56 [x23, x67, x69] h59 fun _ h71 _ _ => addS EE 3 x26 (.fv (.int .i64 1)) fun x74 => q20 [x23, x24, x25, x74] h71
noncomputable def S56_157 (x25 : IV) (h59 : Hp) (x26 : IV) (x24 : IV) (ih : Handler) (x23 : IV) (q20 : List IV → Hp → Option (IV × Hp)) : Option (IV × Hp) :=
  faddrS 2 x25 fun x63 => load1 x63 h59 fun x64 _ => ixS 3 x64 x26 fun x66 => loadA 3 x66 h59 fun x67 _ => addS EE 3 x24 (.fv (.int .i64 1)) fun x69 => S56_156 ih h59 x23 x67 x69 x26 q20 x24 x25
noncomputable def S56_158 (h40 : Hp) (x31 : IV) (x39 : IV) (x25 : IV) (x26 : IV) (x24 : IV) (ih : Handler) (x23 : IV) (q20 : List IV → Hp → Option (IV × Hp)) : Option (IV × Hp) :=
  guardS x31 true h40 (fun k43 => faddrS 1 x39 fun x44 => k43 x44 h40 [] []) fun x45 h46 _ _ => guardS x31 true h46 (fun k49 => load1 x45 h46 fun x50 r51 => k49 x50 h46 r51 []) fun x52 h53 _ _ => guardS x31 true h53 (fun k56 => eqS EE 3 x52 (.fv (.int .i64 0)) fun x57 => k56 x57 h53 [] []) fun x58 h59 _ _ => pickS x31 x58 (.fv (.bool false)) fun x62 => condS x62 (S56_157 x25 h59 x26 x24 ih x23 q20) (outS1 [] h59)
noncomputable def S56_159 (h22 : Hp) (x27 : IV) (x26 : IV) (x23 : IV) (x25 : IV) (x24 : IV) (ih : Handler) (q20 : List IV → Hp → Option (IV × Hp)) : Option (IV × Hp) :=
  load1 x27 h22 fun x28 _ => lenS x28 fun x30 => ltS EE 3 x26 x30 fun x31 => guardS x31 true h22 (fun k32 => k32 x23 h22 [] []) fun x33 h34 _ _ => guardS x31 true h34 (fun k37 => nilS x33 fun x38 => k37 x38 h34 [] []) fun x39 h40 _ _ => S56_158 h40 x31 x39 x25 x26 x24 ih x23 q20
noncomputable def S56_160 (l21 : List IV) (h22 : Hp) (ih : Handler) (q20 : List IV → Hp → Option (IV × Hp)) : Option (IV × Hp) :=
  uncS l21 fun x23 l75 => uncS l75 fun x24 l76 => uncS l76 fun x25 l77 => uncS l77 fun x26 _ => faddrS 2 x25 fun x27 => S56_159 h22 x27 x26 x23 x25 x24 ih q20
noncomputable def S56_161 (n : Nat) (h19 : Hp) (x0 : IV) (x2 : IV) (x4 : IV) (ih : Handler) : Option (IV × Hp) :=
  loopS n (fun q20 l21 h22 => S56_160 l21 h22 ih q20) [x0, x2, x4, .fv (.int .i64 0)] h19
noncomputable def S56_162 (h92 : Hp) (x97 : IV) (j0_18 : Hp → Option (IV × Hp)) : Option (IV × Hp) :=
  store1 x97 (.fv (.int .i64 5)) h92 fun h98 _ _ => j0_18 h98
noncomputable def S56_163 (x151 : IV) (h147 : Hp) (j0_18 : Hp → Option (IV × Hp)) : Option (IV × Hp) :=
  faddrS 1 x151 fun x152 => store1 x152 (.fv (.int .i64 1)) h147 fun h153 _ _ => j0_18 h153
noncomputable def S56_164 (r142 : List Ref) (w143 : List Ref) (h141 : Hp) (x112 : IV) (x140 : IV) (x0 : IV) (j0_18 : Hp → Option (IV × Hp)) : Option (IV × Hp) :=
  chkS [] r142 w143 (guardS x112 false h141 (fun k144 => optS (unR .not x140) fun x145 => k144 x145 h141 [] []) fun x146 h147 _ _ => pickS x112 (.fv (.bool true)) x146 fun x150 => condS x150 (nilS x0 fun x151 => S56_163 x151 h147 j0_18) (j0_18 h147))
noncomputable def S56_165 (r124 : List Ref) (w125 : List Ref) (h123 : Hp) (x112 : IV) (x4 : IV) (ih : Handler) (x122 : IV) (x0 : IV) (j0_18 : Hp → Option (IV × Hp)) : Option (IV × Hp) :=
  chkS [] r124 w125 (guardS x112 false h123 (fun k126 => faddrS 1 x4 fun x127 => k126 x127 h123 [] []) fun x128 h129 _ _ => guardS x112 false h129 (fun k132 => load1 x128 h129 fun x133 r134 => k132 x133 h129 r134 []) fun x135 h136 r137 w138 => chkS [(r124, w125)] r137 w138 (guardS x112 false h136 (fun k139 => isoS [] false false ih 80 [x122, x135] h136 k139) fun x140 h141 r142 w143 => S56_164 r142 w143 h141 x112 x140 x0 j0_18))
noncomputable def S56_166 (r110 : List Ref) (r106 : List Ref) (w107 : List Ref) (r103 : List Ref) (x109 : IV) (x104 : IV) (h105 : Hp) (x4 : IV) (ih : Handler) (x0 : IV) (j0_18 : Hp → Option (IV × Hp)) : Option (IV × Hp) :=
  chkS [(r106, w107), (r103, [])] r110 [] (lenS x109 fun x111 => neS EE 3 x104 x111 fun x112 => guardS x112 false h105 (fun k113 => faddrS 0 x4 fun x114 => k113 x114 h105 [] []) fun x115 h116 _ _ => guardS x112 false h116 (fun k119 => load1 x115 h116 fun x120 r121 => k119 x120 h116 r121 []) fun x122 h123 r124 w125 => S56_165 r124 w125 h123 x112 x4 ih x122 x0 j0_18)
noncomputable def S56_167 (r103 : List Ref) (ih : Handler) (h92 : Hp) (x102 : IV) (x4 : IV) (x0 : IV) (j0_18 : Hp → Option (IV × Hp)) : Option (IV × Hp) :=
  chkS [] r103 [] (isoS [] false false ih 46 [x102] h92 fun x104 h105 r106 w107 => chkS [] r106 w107 (faddrS 2 x4 fun x108 => load1 x108 h105 fun x109 r110 => S56_166 r110 r106 w107 r103 x109 x104 h105 x4 ih x0 j0_18))
noncomputable def S56_168 (x95 : IV) (x0 : IV) (h92 : Hp) (j0_18 : Hp → Option (IV × Hp)) (x4 : IV) (ih : Handler) : Option (IV × Hp) :=
  condS x95 (nilS x0 fun x96 => faddrS 1 x96 fun x97 => S56_162 h92 x97 j0_18) (faddrS 0 x4 fun x101 => load1 x101 h92 fun x102 r103 => S56_167 r103 ih h92 x102 x4 x0 j0_18)
noncomputable def S56_169 (h15 : Hp) (x80 : IV) (x2 : IV) (x0 : IV) (j0_18 : Hp → Option (IV × Hp)) (x4 : IV) (ih : Handler) : Option (IV × Hp) :=
  load1 x80 h15 fun x81 _ => gtS EE 3 x81 (.fv (.int .i64 3000)) fun x83 => guardS x83 false h15 (fun k84 => k84 x2 h15 [] []) fun x85 h86 _ _ => guardS x83 false h86 (fun k89 => gtS EE 3 x85 (.fv (.int .i64 120)) fun x90 => k89 x90 h86 [] []) fun x91 h92 _ _ => pickS x83 (.fv (.bool true)) x91 fun x95 => S56_168 x95 x0 h92 j0_18 x4 ih
noncomputable def S56_170 (x13 : IV) (h5 : Hp) (x12 : IV) (n : Nat) (x0 : IV) (x2 : IV) (x4 : IV) (ih : Handler) : Option (IV × Hp) :=
  faddrS 0 x13 fun x14 => store1 x14 x12 h5 fun h15 _ _ => (fun (j0_18 : Hp → Option (IV × Hp)) => nilS x0 fun x79 => faddrS 0 x79 fun x80 => S56_169 h15 x80 x2 x0 j0_18 x4 ih) fun h19 => S56_161 n h19 x0 x2 x4 ih
noncomputable def S56 (ih : Handler) (n : Nat) (x0 : IV) (x1 : IV) (x2 : IV) (h3 : Hp) : Option (IV × Hp) :=
  boxS 58720256 x1 h3 fun x4 h5 _ _ => nilS x0 fun x8 => faddrS 0 x8 fun x9 => load1 x9 h5 fun x10 _ => addS EE 3 x10 (.fv (.int .i64 1)) fun x12 => nilS x0 fun x13 => S56_170 x13 h5 x12 n x0 x2 x4 ih
theorem S56_ok (ih : Handler) (n : Nat) (x0 : IV) (x1 : IV) (x2 : IV) (h3 : Hp) : funS EE ih ft.get n 56 [x0, x1, x2] h3 = S56 ih n x0 x1 x2 h3 := by kernel_rfl
noncomputable def S57 (ih : Handler) (n : Nat) (x0 : IV) (h1 : Hp) : Option (IV × Hp) :=
  newS 59768832 (.row [.fv (.int .i64 0), .fv (.int .i64 0), .nils] false) (.ptr (.own 59768832) 0) h1 fun x2 h3 _ _ => bldS [.fv (.int .i64 0), .fv (.int .i64 0), .nils] [] fun x6 => storeA 3 x2 x6 h3 fun h7 _ _ => cellS true 3 x2 h7 fun x10 => outS1 [x10, x0] h7
theorem S57_ok (ih : Handler) (n : Nat) (x0 : IV) (h1 : Hp) : funS EE ih ft.get n 57 [x0] h1 = S57 ih n x0 h1 := by kernel_rfl
noncomputable def S58_52 (r43 : List Ref) (w44 : List Ref) (r41 : List Ref) (h42 : Hp) (x6 : IV) (x40 : IV) : Option (IV × Hp) :=
  chkS [(r41, [])] r43 w44 (cellS true 3 x6 h42 fun x45 => outS1 [x45, x40] h42)
noncomputable def S58_53 (x11 : IV) (h29 : Hp) (x6 : IV) (x37 : IV) : Option (IV × Hp) :=
  nilS x11 fun x38 => faddrS 2 x38 fun x39 => load1 x39 h29 fun x40 r41 => chkS [] r41 [] (storeA 3 x6 x37 h29 fun h42 r43 w44 => S58_52 r43 w44 r41 h42 x6 x40)
noncomputable def S58_54 (h29 : Hp) (x6 : IV) (x46 : IV) : Option (IV × Hp) :=
  storeA 3 x6 x46 h29 fun h48 _ _ => cellS true 3 x6 h48 fun x51 => outS1 [x51, .fv (.int .i64 0)] h48
noncomputable def S58_55 (h29 : Hp) (x33 : IV) (x11 : IV) (x6 : IV) (x25 : IV) : Option (IV × Hp) :=
  load1 x33 h29 fun x34 _ => neS EE 3 x34 (.fv (.int .i64 0)) fun x36 => condS x36 (bldS [.fv (.int .i64 0), .fv (.int .i64 0), .nils] [] fun x37 => S58_53 x11 h29 x6 x37) (loadA 3 x25 h29 fun x46 _ => S58_54 h29 x6 x46)
noncomputable def S58_56 (ih : Handler) (h18 : Hp) (x11 : IV) (x17 : IV) (x6 : IV) : Option (IV × Hp) :=
  isoS [true, false, false, false] false false ih 81 [x11, x17, .fv (.int .i64 0), .fv (.int .i64 1)] h18 fun x21 h22 _ _ => newS 60819461 (.row [.fv (.int .i64 0), .fv (.int .i64 0), .nils] false) (.ptr (.own 60819461) 0) h22 fun x25 h26 _ _ => storeA 3 x25 x21 h26 fun h29 _ _ => nilS x11 fun x32 => faddrS 2 x32 fun x33 => S58_55 h29 x33 x11 x6 x25
noncomputable def S58 (ih : Handler) (n : Nat) (x0 : IV) (h1 : Hp) : Option (IV × Hp) :=
  boxS 60817408 x0 h1 fun x2 h3 _ _ => newS 60817409 (.row [.fv (.int .i64 0), .fv (.int .i64 0), .nils] false) (.ptr (.own 60817409) 0) h3 fun x6 h7 _ _ => bldS [.fv (.int .i64 0), .fv (.int .i64 0), .fv (.int .i64 0)] [] fun x10 => boxS 60818433 x10 h7 fun x11 h12 _ _ => loadA 3 x2 h12 fun x15 _ => isoS [true, false, false] false false ih 82 [x11, x15, .nils] h12 fun x17 h18 _ _ => S58_56 ih h18 x11 x17 x6
theorem S58_ok (ih : Handler) (n : Nat) (x0 : IV) (h1 : Hp) : funS EE ih ft.get n 58 [x0] h1 = S58 ih n x0 h1 := by kernel_rfl
noncomputable def S59_296 (h33 : Hp) (x7 : IV) (x40 : IV) : Option (IV × Hp) :=
  storeA 3 x7 x40 h33 fun h42 _ _ => cellS true 3 x7 h42 fun x45 => outS1 [x45, .fv (.int .i64 0)] h42
noncomputable def S59_297 (x54 : IV) (h55 : Hp) (x7 : IV) (x58 : IV) : Option (IV × Hp) :=
  extS 1 x54 fun x59 => storeA 3 x7 x58 h55 fun h60 _ _ => cellS true 3 x7 h60 fun x63 => outS1 [x63, x59] h60
noncomputable def S59_298 (h66 : Hp) (x7 : IV) : Option (IV × Hp) :=
  cellS true 3 x7 h66 fun x69 => outS1 [x69, .fv (.int .i64 0)] h66
noncomputable def S59_299 (x49 : IV) (ih : Handler) (h50 : Hp) (x7 : IV) (x29 : IV) : Option (IV × Hp) :=
  neS EE 3 x49 (.fv (.int .i64 0)) fun x53 => condS x53 (isoS [] false false ih 57 [x49] h50 fun x54 h55 _ _ => extS 0 x54 fun x58 => S59_297 x54 h55 x7 x58) (loadA 3 x29 h50 fun x64 _ => storeA 3 x7 x64 h50 fun h66 _ _ => S59_298 h66 x7)
noncomputable def S59_300 (x81 : IV) (h82 : Hp) (x7 : IV) : Option (IV × Hp) :=
  extS 0 x81 fun x85 => extS 1 x81 fun x86 => storeA 3 x7 x85 h82 fun h87 _ _ => cellS true 3 x7 h87 fun x90 => outS1 [x90, x86] h87
noncomputable def S59_301 (ih : Handler) (h107 : Hp) (x102 : IV) (x7 : IV) : Option (IV × Hp) :=
  isoS [] false false ih 57 [x102] h107 fun x111 h112 _ _ => extS 0 x111 fun x115 => extS 1 x111 fun x116 => storeA 3 x7 x115 h112 fun h117 _ _ => cellS true 3 x7 h117 fun x120 => outS1 [x120, x116] h117
noncomputable def S59_302 (h140 : Hp) (x7 : IV) (x139 : IV) : Option (IV × Hp) :=
  cellS true 3 x7 h140 fun x143 => outS1 [x143, x139] h140
noncomputable def S59_303 (r136 : List Ref) (w137 : List Ref) (x134 : IV) (h135 : Hp) (x7 : IV) : Option (IV × Hp) :=
  chkS [] r136 w137 (extS 0 x134 fun x138 => extS 1 x134 fun x139 => storeA 3 x7 x138 h135 fun h140 r141 w142 => chkS [] r141 w142 (S59_302 h140 x7 x139))
noncomputable def S59_304 (h107 : Hp) (x122 : IV) (x124 : IV) (ih : Handler) (x7 : IV) : Option (IV × Hp) :=
  genS (pcBuildSlice EE 28 2 [(0, x122), (1, x124)]) 61885444 h107 fun x126 h127 r128 w129 => chkS [] r128 w129 (isoS [] false false ih 30 [.fv (.int .i64 16), x126] h127 fun x130 h131 r132 w133 => chkS [] r132 w133 (isoS [] false false ih 58 [x130] h131 fun x134 h135 r136 w137 => S59_303 r136 w137 x134 h135 x7))
noncomputable def S59_305 (x12 : IV) (h107 : Hp) (x103 : IV) (ih : Handler) (x7 : IV) : Option (IV × Hp) :=
  ixS 3 x12 (.fv (.int .i64 0)) fun x121 => loadA 3 x121 h107 fun x122 r123 => chkS [] r123 [] (loadA 3 x103 h107 fun x124 r125 => chkS [(r123, [])] r125 [] (S59_304 h107 x122 x124 ih x7))
noncomputable def S59_306 (r105 : List Ref) (w106 : List Ref) (r99 : List Ref) (w100 : List Ref) (r96 : List Ref) (r93 : List Ref) (h104 : Hp) (x103 : IV) (x101 : IV) (x102 : IV) (ih : Handler) (x7 : IV) (x12 : IV) : Option (IV × Hp) :=
  chkS [(r99, w100), (r96, []), (r93, [])] r105 w106 (storeA 3 x103 x101 h104 fun h107 r108 w109 => chkS [] r108 w109 (neS EE 3 x102 (.fv (.int .i64 0)) fun x110 => condS x110 (S59_301 ih h107 x102 x7) (S59_305 x12 h107 x103 ih x7)))
noncomputable def S59_307 (ih : Handler) (h77 : Hp) (x0 : IV) (x92 : IV) (x95 : IV) (r96 : List Ref) (r93 : List Ref) (x7 : IV) (x12 : IV) : Option (IV × Hp) :=
  isoS [] false false ih 83 [x0, x92, x95] h77 fun x97 h98 r99 w100 => chkS [] r99 w100 (extS 0 x97 fun x101 => extS 1 x97 fun x102 => newS 61882379 (.row [.fv (.int .i64 0), .fv (.int .i64 0), .nils] false) (.ptr (.own 61882379) 0) h98 fun x103 h104 r105 w106 => S59_306 r105 w106 r99 w100 r96 r93 h104 x103 x101 x102 ih x7 x12)
noncomputable def S59_308 (h77 : Hp) (x91 : IV) (x12 : IV) (ih : Handler) (x0 : IV) (x7 : IV) : Option (IV × Hp) :=
  loadA 3 x91 h77 fun x92 r93 => chkS [] r93 [] (ixS 3 x12 (.fv (.int .i64 1)) fun x94 => loadA 3 x94 h77 fun x95 r96 => chkS [(r93, [])] r96 [] (S59_307 ih h77 x0 x92 x95 r96 r93 x7 x12))
noncomputable def S59_309 (ih : Handler) (h33 : Hp) (x0 : IV) (x72 : IV) (x74 : IV) (x7 : IV) (x12 : IV) : Option (IV × Hp) :=
  isoS [] false false ih 61 [x0, .fv (.int .i64 1), x72, x74] h33 fun x76 h77 r78 w79 => chkS [] r78 w79 (neS EE 3 x76 (.fv (.int .i64 0)) fun x80 => condS x80 (isoS [] false false ih 57 [x76] h77 fun x81 h82 _ _ => S59_300 x81 h82 x7) (ixS 3 x12 (.fv (.int .i64 0)) fun x91 => S59_308 h77 x91 x12 ih x0 x7))
noncomputable def S59_310 (x12 : IV) (h33 : Hp) (x18 : IV) (ih : Handler) (x0 : IV) (x7 : IV) : Option (IV × Hp) :=
  ixS 3 x12 (.fv (.int .i64 0)) fun x71 => loadA 3 x71 h33 fun x72 r73 => chkS [] r73 [] (loadA 3 x18 h33 fun x74 r75 => chkS [(r73, [])] r75 [] (S59_309 ih h33 x0 x72 x74 x7 x12))
noncomputable def S59_311 (x158 : IV) (h159 : Hp) (x7 : IV) (x162 : IV) : Option (IV × Hp) :=
  extS 1 x158 fun x163 => storeA 3 x7 x162 h159 fun h164 _ _ => cellS true 3 x7 h164 fun x167 => outS1 [x167, x163] h164
noncomputable def S59_312 (ih : Handler) (h156 : Hp) (x169 : IV) (x7 : IV) : Option (IV × Hp) :=
  isoS [] false false ih 58 [x169] h156 fun x171 h172 _ _ => extS 0 x171 fun x175 => extS 1 x171 fun x176 => storeA 3 x7 x175 h172 fun h177 _ _ => cellS true 3 x7 h177 fun x180 => outS1 [x180, x176] h177
noncomputable def S59_313 (x155 : IV) (ih : Handler) (h156 : Hp) (x7 : IV) (x12 : IV) : Option (IV × Hp) :=
  neS EE 3 x155 (.fv (.int .i64 0)) fun x157 => condS x157 (isoS [] false false ih 57 [x155] h156 fun x158 h159 _ _ => extS 0 x158 fun x162 => S59_311 x158 h159 x7 x162) (ixS 3 x12 (.fv (.int .i64 0)) fun x168 => loadA 3 x168 h156 fun x169 _ => S59_312 ih h156 x169 x7)
noncomputable def S59_314 (ih : Handler) (h186 : Hp) (x193 : IV) (r191 : List Ref) (x185 : IV) (x190 : IV) (j1_154 : IV → Hp → Option (IV × Hp)) : Option (IV × Hp) :=
  isoS [] false false ih 28 [x193, .fv (.int .i64 1), .fv (.int .i64 0)] h186 fun x195 h196 r197 w198 => chkS [(r191, [])] r197 w198 (isoS [] false false ih 61 [x185, .fv (.int .i64 0), x190, x195] h196 fun x199 h200 r201 w202 => chkS [] r201 w202 (j1_154 x199 h200))
noncomputable def S59_315 (h186 : Hp) (x189 : IV) (r187 : List Ref) (w188 : List Ref) (r184 : List Ref) (x12 : IV) (ih : Handler) (x185 : IV) (j1_154 : IV → Hp → Option (IV × Hp)) : Option (IV × Hp) :=
  loadA 3 x189 h186 fun x190 r191 => chkS [(r187, w188), (r184, [])] r191 [] (ixS 3 x12 (.fv (.int .i64 0)) fun x192 => loadA 3 x192 h186 fun x193 r194 => chkS [(r191, []), (r187, w188), (r184, [])] r194 [] (S59_314 ih h186 x193 r191 x185 x190 j1_154))
noncomputable def S59_316 (h151 : Hp) (x182 : IV) (ih : Handler) (x0 : IV) (x12 : IV) (j1_154 : IV → Hp → Option (IV × Hp)) : Option (IV × Hp) :=
  loadA 3 x182 h151 fun x183 r184 => chkS [] r184 [] (isoS [] false false ih 84 [x0, .fv (.int .i64 0), x183] h151 fun x185 h186 r187 w188 => chkS [] r187 w188 (ixS 3 x12 (.fv (.int .i64 1)) fun x189 => S59_315 h186 x189 r187 w188 r184 x12 ih x185 j1_154))
noncomputable def S59_317 (ih : Handler) (x7 : IV) (x12 : IV) (x150 : IV) (h151 : Hp) (x0 : IV) : Option (IV × Hp) :=
  (fun (j1_154 : IV → Hp → Option (IV × Hp)) => eqS EE 3 x150 (.fv (.int .i64 0)) fun x181 => condS x181 (ixS 3 x12 (.fv (.int .i64 0)) fun x182 => S59_316 h151 x182 ih x0 x12 j1_154) (j1_154 x150 h151)) fun x155 h156 => S59_313 x155 ih h156 x7 x12
noncomputable def S59_318 (r147 : List Ref) (h33 : Hp) (x18 : IV) (ih : Handler) (x0 : IV) (x146 : IV) (x7 : IV) (x12 : IV) : Option (IV × Hp) :=
  chkS [] r147 [] (loadA 3 x18 h33 fun x148 r149 => chkS [(r147, [])] r149 [] (isoS [] false false ih 61 [x0, .fv (.int .i64 1), x146, x148] h33 fun x150 h151 r152 w153 => chkS [] r152 w153 (S59_317 ih x7 x12 x150 h151 x0)))
noncomputable def S59_319 (x221 : IV) (h222 : Hp) (x7 : IV) : Option (IV × Hp) :=
  extS 0 x221 fun x225 => extS 1 x221 fun x226 => storeA 3 x7 x225 h222 fun h227 _ _ => cellS true 3 x7 h227 fun x230 => outS1 [x230, x226] h227
noncomputable def S59_320 (h242 : Hp) (x7 : IV) (x241 : IV) : Option (IV × Hp) :=
  cellS true 3 x7 h242 fun x245 => outS1 [x245, x241] h242
noncomputable def S59_321 (r238 : List Ref) (w239 : List Ref) (x236 : IV) (h237 : Hp) (x7 : IV) : Option (IV × Hp) :=
  chkS [] r238 w239 (extS 0 x236 fun x240 => extS 1 x236 fun x241 => storeA 3 x7 x240 h237 fun h242 r243 w244 => chkS [] r243 w244 (S59_320 h242 x7 x241))
noncomputable def S59_322 (r232 : List Ref) (x12 : IV) (h217 : Hp) (ih : Handler) (x0 : IV) (x231 : IV) (x7 : IV) : Option (IV × Hp) :=
  chkS [] r232 [] (ixS 3 x12 (.fv (.int .i64 1)) fun x233 => loadA 3 x233 h217 fun x234 r235 => chkS [(r232, [])] r235 [] (isoS [] false false ih 83 [x0, x231, x234] h217 fun x236 h237 r238 w239 => S59_321 r238 w239 x236 h237 x7))
noncomputable def S59_323 (h208 : Hp) (x211 : IV) (x212 : IV) (ih : Handler) (x7 : IV) (x12 : IV) (x0 : IV) : Option (IV × Hp) :=
  newS 61894664 (.row [.fv (.int .i64 0), .fv (.int .i64 0), .nils] false) (.ptr (.own 61894664) 0) h208 fun x213 h214 _ _ => storeA 3 x213 x211 h214 fun h217 _ _ => neS EE 3 x212 (.fv (.int .i64 0)) fun x220 => condS x220 (isoS [] false false ih 57 [x212] h217 fun x221 h222 _ _ => S59_319 x221 h222 x7) (loadA 3 x213 h217 fun x231 r232 => S59_322 r232 x12 h217 ih x0 x231 x7)
noncomputable def S59_324 (x12 : IV) (h33 : Hp) (ih : Handler) (x0 : IV) (x7 : IV) : Option (IV × Hp) :=
  ixS 3 x12 (.fv (.int .i64 0)) fun x204 => loadA 3 x204 h33 fun x205 _ => isoS [] false false ih 26 [x0, .fv (.int .i64 0), x205] h33 fun x207 h208 _ _ => extS 0 x207 fun x211 => extS 1 x207 fun x212 => S59_323 h208 x211 x212 ih x7 x12 x0
noncomputable def S59_325 (x264 : IV) (h265 : Hp) (x7 : IV) (x268 : IV) : Option (IV × Hp) :=
  extS 1 x264 fun x269 => storeA 3 x7 x268 h265 fun h270 _ _ => cellS true 3 x7 h270 fun x273 => outS1 [x273, x269] h270
noncomputable def S59_326 (x275 : IV) (h260 : Hp) (x7 : IV) : Option (IV × Hp) :=
  ixS 3 x275 (.fv (.int .i64 0)) fun x277 => loadA 3 x277 h260 fun x278 _ => storeA 3 x7 x278 h260 fun h280 _ _ => cellS true 3 x7 h280 fun x283 => outS1 [x283, .fv (.int .i64 0)] h280
noncomputable def S59_327 (x255 : IV) (ih : Handler) (h260 : Hp) (x7 : IV) (x256 : IV) : Option (IV × Hp) :=
  neS EE 3 x255 (.fv (.int .i64 0)) fun x263 => condS x263 (isoS [] false false ih 57 [x255] h260 fun x264 h265 _ _ => extS 0 x264 fun x268 => S59_325 x264 h265 x7 x268) (faddrS 2 x256 fun x274 => load1 x274 h260 fun x275 _ => S59_326 x275 h260 x7)
noncomputable def S59_328 (ih : Handler) (h33 : Hp) (x0 : IV) (x248 : IV) (x7 : IV) : Option (IV × Hp) :=
  isoS [] false false ih 85 [x0, .fv (.int .i64 1), x248, .fv (.int .i64 18)] h33 fun x250 h251 _ _ => extS 0 x250 fun x254 => extS 1 x250 fun x255 => newS 61899784 (.row [.fv (.int .i64 0), .fv (.int .i64 0), .nils] false) (.ptr (.own 61899784) 0) h251 fun x256 h257 _ _ => storeA 3 x256 x254 h257 fun h260 _ _ => S59_327 x255 ih h260 x7 x256
noncomputable def S59_329 (x286 : IV) (h287 : Hp) (x7 : IV) : Option (IV × Hp) :=
  extS 0 x286 fun x290 => extS 1 x286 fun x291 => storeA 3 x7 x290 h287 fun h292 _ _ => cellS true 3 x7 h292 fun x295 => outS1 [x295, x291] h292
noncomputable def S59_330 (x37 : IV) (x12 : IV) (h33 : Hp) (ih : Handler) (x0 : IV) (x7 : IV) (x3 : IV) : Option (IV × Hp) :=
  eqS EE 3 x37 (.fv (.int .i64 30)) fun x246 => condS x246 (ixS 3 x12 (.fv (.int .i64 0)) fun x247 => loadA 3 x247 h33 fun x248 _ => S59_328 ih h33 x0 x248 x7) (loadA 3 x3 h33 fun x284 _ => isoS [] false false ih 86 [x0, x284] h33 fun x286 h287 _ _ => S59_329 x286 h287 x7)
noncomputable def S59_331 (x37 : IV) (x12 : IV) (h33 : Hp) (x18 : IV) (ih : Handler) (x0 : IV) (x7 : IV) (x3 : IV) : Option (IV × Hp) :=
  eqS EE 3 x37 (.fv (.int .i64 29)) fun x144 => condS x144 (ixS 3 x12 (.fv (.int .i64 0)) fun x145 => loadA 3 x145 h33 fun x146 r147 => S59_318 r147 h33 x18 ih x0 x146 x7 x12) (eqS EE 3 x37 (.fv (.int .i64 28)) fun x203 => condS x203 (S59_324 x12 h33 ih x0 x7) (S59_330 x37 x12 h33 ih x0 x7 x3))
noncomputable def S59_332 (x46 : IV) (h33 : Hp) (x29 : IV) (ih : Handler) (x0 : IV) (x12 : IV) (x7 : IV) (x37 : IV) (x18 : IV) (x3 : IV) : Option (IV × Hp) :=
  condS x46 (loadA 3 x29 h33 fun x47 _ => isoS [] false false ih 62 [x0, .fv (.int .i64 0), x12, x47] h33 fun x49 h50 _ _ => S59_299 x49 ih h50 x7 x29) (eqS EE 3 x37 (.fv (.int .i64 20)) fun x70 => condS x70 (S59_310 x12 h33 x18 ih x0 x7) (S59_331 x37 x12 h33 x18 ih x0 x7 x3))
noncomputable def S59_333 (h33 : Hp) (x36 : IV) (x29 : IV) (x7 : IV) (ih : Handler) (x0 : IV) (x12 : IV) (x18 : IV) (x3 : IV) : Option (IV × Hp) :=
  load1 x36 h33 fun x37 _ => eqS EE 3 x37 (.fv (.int .i64 25)) fun x39 => condS x39 (loadA 3 x29 h33 fun x40 _ => S59_296 h33 x7 x40) (eqS EE 3 x37 (.fv (.int .i64 26)) fun x46 => S59_332 x46 h33 x29 ih x0 x12 x7 x37 x18 x3)
noncomputable def S59_334 (h19 : Hp) (x18 : IV) (x14 : IV) (ih : Handler) (x3 : IV) (x7 : IV) (x0 : IV) (x12 : IV) : Option (IV × Hp) :=
  storeA 3 x18 x14 h19 fun h22 _ _ => isoS [] false false ih 30 [.fv (.int .i64 15), .nils] h22 fun x25 h26 _ _ => newS 61869057 (.row [.fv (.int .i64 0), .fv (.int .i64 0), .nils] false) (.ptr (.own 61869057) 0) h26 fun x29 h30 _ _ => storeA 3 x29 x25 h30 fun h33 _ _ => faddrS 0 x3 fun x36 => S59_333 h33 x36 x29 x7 ih x0 x12 x18 x3
noncomputable def S59 (ih : Handler) (n : Nat) (x0 : IV) (x1 : IV) (h2 : Hp) : Option (IV × Hp) :=
  boxS 61865984 x1 h2 fun x3 h4 _ _ => newS 61865985 (.row [.fv (.int .i64 0), .fv (.int .i64 0), .nils] false) (.ptr (.own 61865985) 0) h4 fun x7 h8 _ _ => faddrS 2 x3 fun x11 => load1 x11 h8 fun x12 _ => isoS [] false false ih 30 [.fv (.int .i64 14), .nils] h8 fun x14 h15 _ _ => newS 61868033 (.row [.fv (.int .i64 0), .fv (.int .i64 0), .nils] false) (.ptr (.own 61868033) 0) h15 fun x18 h19 _ _ => S59_334 h19 x18 x14 ih x3 x7 x0 x12
theorem S59_ok (ih : Handler) (n : Nat) (x0 : IV) (x1 : IV) (h2 : Hp) : funS EE ih ft.get n 59 [x0, x1] h2 = S59 ih n x0 x1 h2 := by kernel_rfl
noncomputable def S60 (ih : Handler) (n : Nat) (x0 : IV) (h1 : Hp) : Option (IV × Hp) :=
  newS 62914560 (.row [.fv (.int .i64 0), .fv (.int .i64 0), .nils] false) (.ptr (.own 62914560) 0) h1 fun x2 h3 _ _ => bldS [.fv (.int .i64 0), .fv (.int .i64 0), .nils] [(0, 1, .fv (.int .i64 2)), (1, 1, x0)] fun x6 => storeA 3 x2 x6 h3 fun h7 _ _ => cellS true 3 x2 h7 fun x10 => outS1 [x10] h7
theorem S60_ok (ih : Handler) (n : Nat) (x0 : IV) (h1 : Hp) : funS EE ih ft.get n 60 [x0] h1 = S60 ih n x0 h1 := by kernel_rfl
noncomputable def S61_55 (x38 : IV) (h34 : Hp) (x37 : IV) (j1_39 : IV → Hp → Option (IV × Hp)) : Option (IV × Hp) :=
  eqS EE 3 x38 (.fv (.int .i64 0)) fun x42 => guardS x42 true h34 (fun k43 => k43 x37 h34 [] []) fun x44 h45 _ _ => guardS x42 true h45 (fun k48 => optS (unR .not x44) fun x49 => k48 x49 h45 [] []) fun x50 h51 _ _ => pickS x42 x50 (.fv (.bool false)) fun x54 => condS x54 (j1_39 (.fv (.int .i64 11)) h51) (j1_39 x38 h51)
noncomputable def S61_56 (h25 : Hp) (x9 : IV) (ih : Handler) (x29 : IV) : Option (IV × Hp) :=
  loadA 3 x9 h25 fun x31 _ => isoS [] false false ih 87 [x29, x31] h25 fun x33 h34 _ _ => extS 0 x33 fun x37 => extS 1 x33 fun x38 => (fun (j1_39 : IV → Hp → Option (IV × Hp)) => S61_55 x38 h34 x37 j1_39) fun x40 h41 => outS1 [x40] h41
noncomputable def S61_57 (h16 : Hp) (x19 : IV) (x20 : IV) (x9 : IV) (ih : Handler) : Option (IV × Hp) :=
  newS 63964167 (.row [.fv (.int .i64 0), .fv (.int .i64 0), .nils] false) (.ptr (.own 63964167) 0) h16 fun x21 h22 _ _ => storeA 3 x21 x19 h22 fun h25 _ _ => neS EE 3 x20 (.fv (.int .i64 0)) fun x28 => condS x28 (outS1 [x20] h25) (loadA 3 x21 h25 fun x29 _ => S61_56 h25 x9 ih x29)
noncomputable def S61 (ih : Handler) (n : Nat) (x0 : IV) (x1 : IV) (x2 : IV) (x3 : IV) (h4 : Hp) : Option (IV × Hp) :=
  boxS 63963136 x2 h4 fun x5 h6 _ _ => boxS 63963137 x3 h6 fun x9 h10 _ _ => loadA 3 x5 h10 fun x13 _ => isoS [] false false ih 26 [x0, x1, x13] h10 fun x15 h16 _ _ => extS 0 x15 fun x19 => extS 1 x15 fun x20 => S61_57 h16 x19 x20 x9 ih
theorem S61_ok (ih : Handler) (n : Nat) (x0 : IV) (x1 : IV) (x2 : IV) (x3 : IV) (h4 : Hp) : funS EE ih ft.get n 61 [x0, x1, x2, x3] h4 = S61 ih n x0 x1 x2 x3 h4 := by kernel_rfl
noncomputable def S62_35 (r26 : List Ref) (w27 : List Ref) (x24 : IV) (h25 : Hp) (x16 : IV) (q9 : List IV → Hp → Option (IV × Hp)) (x12 : IV) (x13 : IV) (x14 : IV) (x15 : IV) : Option (IV × Hp) :=
  chkS [] r26 w27 (neS EE 3 x24 (.fv (.int .i64 0)) fun x28 => condS x28 (outS1 [x24] h25) (addS EE 3 x16 (.fv (.int .i64 1)) fun x29 => q9 [x12, x13, x14, x15, x29] h25))
noncomputable def S62_36 (h11 : Hp) (x19 : IV) (x15 : IV) (ih : Handler) (x12 : IV) (x13 : IV) (x16 : IV) (q9 : List IV → Hp → Option (IV × Hp)) (x14 : IV) : Option (IV × Hp) :=
  loadA 3 x19 h11 fun x20 r21 => chkS [] r21 [] (loadA 3 x15 h11 fun x22 r23 => chkS [(r21, [])] r23 [] (isoS [] false false ih 61 [x12, x13, x20, x22] h11 fun x24 h25 r26 w27 => S62_35 r26 w27 x24 h25 x16 q9 x12 x13 x14 x15))
noncomputable def S62_37 (x14 : IV) (x16 : IV) (h11 : Hp) (x15 : IV) (ih : Handler) (x12 : IV) (x13 : IV) (q9 : List IV → Hp → Option (IV × Hp)) : Option (IV × Hp) :=
  lenS x14 fun x17 => ltS EE 3 x16 x17 fun x18 => condS x18 (ixS 3 x14 x16 fun x19 => S62_36 h11 x19 x15 ih x12 x13 x16 q9 x14) (outS1 [.fv (.int .i64 0)] h11)
noncomputable def S62_38 (l10 : List IV) (h11 : Hp) (ih : Handler) (q9 : List IV → Hp → Option (IV × Hp)) : Option (IV × Hp) :=
  uncS l10 fun x12 l30 => uncS l30 fun x13 l31 => uncS l31 fun x14 l32 => uncS l32 fun x15 l33 => uncS l33 fun x16 _ => S62_37 x14 x16 h11 x15 ih x12 x13 q9
noncomputable def S62 (ih : Handler) (n : Nat) (x0 : IV) (x1 : IV) (x2 : IV) (x3 : IV) (h4 : Hp) : Option (IV × Hp) :=
  boxS 65011712 x3 h4 fun x5 h6 _ _ => loopS n (fun q9 l10 h11 => S62_38 l10 h11 ih q9) [x0, x1, x2, x5, .fv (.int .i64 0)] h6
theorem S62_ok (ih : Handler) (n : Nat) (x0 : IV) (x1 : IV) (x2 : IV) (x3 : IV) (h4 : Hp) : funS EE ih ft.get n 62 [x0, x1, x2, x3] h4 = S62 ih n x0 x1 x2 x3 h4 := by kernel_rfl
noncomputable def S63_340 (ih : Handler) (h24 : Hp) (x28 : IV) (x7 : IV) : Option (IV × Hp) :=
  isoS [] false false ih 57 [x28] h24 fun x30 h31 _ _ => extS 0 x30 fun x34 => extS 1 x30 fun x35 => storeA 3 x7 x34 h31 fun h36 _ _ => cellS true 3 x7 h36 fun x39 => outS1 [x39, x35] h36
noncomputable def S63_341 (x57 : IV) (h58 : Hp) (x7 : IV) : Option (IV × Hp) :=
  extS 0 x57 fun x61 => extS 1 x57 fun x62 => storeA 3 x7 x61 h58 fun h63 _ _ => cellS true 3 x7 h63 fun x66 => outS1 [x66, x62] h63
noncomputable def S63_342 (ih : Handler) (h68 : Hp) (x67 : IV) (x7 : IV) : Option (IV × Hp) :=
  isoS [] false false ih 60 [x67] h68 fun x71 h72 _ _ => storeA 3 x7 x71 h72 fun h75 _ _ => cellS true 3 x7 h75 fun x78 => outS1 [x78, .fv (.int .i64 0)] h75
noncomputable def S63_343 (x50 : IV) (ih : Handler) (h51 : Hp) (x7 : IV) (x27 : IV) : Option (IV × Hp) :=
  extS 0 x50 fun x54 => extS 1 x50 fun x55 => neS EE 3 x55 (.fv (.int .i64 0)) fun x56 => condS x56 (isoS [] false false ih 57 [x55] h51 fun x57 h58 _ _ => S63_341 x57 h58 x7) (genS (builtinR EE 66071554 false .max [3, 3] [x27, x54]) 66071554 h51 fun x67 h68 _ _ => S63_342 ih h68 x67 x7)
noncomputable def S63_344 (x12 : IV) (h44 : Hp) (r45 : List Ref) (w46 : List Ref) (r42 : List Ref) (ih : Handler) (x43 : IV) (x7 : IV) (x27 : IV) : Option (IV × Hp) :=
  ixS 3 x12 (.fv (.int .i64 1)) fun x47 => loadA 3 x47 h44 fun x48 r49 => chkS [(r45, w46), (r42, [])] r49 [] (isoS [] false false ih 88 [x43, x48] h44 fun x50 h51 r52 w53 => chkS [] r52 w53 (S63_343 x50 ih h51 x7 x27))
noncomputable def S63_345 (x12 : IV) (h24 : Hp) (ih : Handler) (x0 : IV) (x7 : IV) (x27 : IV) : Option (IV × Hp) :=
  ixS 3 x12 (.fv (.int .i64 0)) fun x40 => loadA 3 x40 h24 fun x41 r42 => chkS [] r42 [] (isoS [] false false ih 84 [x0, .fv (.int .i64 1), x41] h24 fun x43 h44 r45 w46 => chkS [] r45 w46 (S63_344 x12 h44 r45 w46 r42 ih x43 x7 x27))
noncomputable def S63_346 (ih : Handler) (h19 : Hp) (x0 : IV) (x21 : IV) (x7 : IV) (x12 : IV) : Option (IV × Hp) :=
  isoS [] false false ih 88 [x0, x21] h19 fun x23 h24 _ _ => extS 0 x23 fun x27 => extS 1 x23 fun x28 => neS EE 3 x28 (.fv (.int .i64 0)) fun x29 => condS x29 (S63_340 ih h24 x28 x7) (S63_345 x12 h24 ih x0 x7 x27)
noncomputable def S63_347 (x90 : IV) (h91 : Hp) (x7 : IV) (x94 : IV) : Option (IV × Hp) :=
  extS 1 x90 fun x95 => storeA 3 x7 x94 h91 fun h96 _ _ => cellS true 3 x7 h96 fun x99 => outS1 [x99, x95] h96
noncomputable def S63_348 (x124 : IV) (h125 : Hp) (x7 : IV) (x128 : IV) : Option (IV × Hp) :=
  extS 1 x124 fun x129 => storeA 3 x7 x128 h125 fun h130 _ _ => cellS true 3 x7 h130 fun x133 => outS1 [x133, x129] h130
noncomputable def S63_349 (x147 : IV) (h148 : Hp) (x7 : IV) (x151 : IV) : Option (IV × Hp) :=
  extS 1 x147 fun x152 => storeA 3 x7 x151 h148 fun h153 r154 w155 => chkS [] r154 w155 (cellS true 3 x7 h153 fun x156 => outS1 [x156, x152] h153)
noncomputable def S63_350 (ih : Handler) (h140 : Hp) (x139 : IV) (x7 : IV) : Option (IV × Hp) :=
  isoS [] false false ih 30 [.fv (.int .i64 3), x139] h140 fun x143 h144 r145 w146 => chkS [] r145 w146 (isoS [] false false ih 58 [x143] h144 fun x147 h148 r149 w150 => chkS [] r149 w150 (extS 0 x147 fun x151 => S63_349 x147 h148 x7 x151))
noncomputable def S63_351 (r136 : List Ref) (h120 : Hp) (x116 : IV) (x135 : IV) (ih : Handler) (x7 : IV) : Option (IV × Hp) :=
  chkS [] r136 [] (loadA 3 x116 h120 fun x137 r138 => chkS [(r136, [])] r138 [] (genS (pcBuildSlice EE 28 2 [(0, x135), (1, x137)]) 66079748 h120 fun x139 h140 r141 w142 => chkS [] r141 w142 (S63_350 ih h140 x139 x7)))
noncomputable def S63_352 (x123 : IV) (ih : Handler) (h120 : Hp) (x115 : IV) (x7 : IV) (x12 : IV) (x116 : IV) : Option (IV × Hp) :=
  condS x123 (isoS [] false false ih 57 [x115] h120 fun x124 h125 _ _ => extS 0 x124 fun x128 => S63_348 x124 h125 x7 x128) (ixS 3 x12 (.fv (.int .i64 0)) fun x134 => loadA 3 x134 h120 fun x135 r136 => S63_351 r136 h120 x116 x135 ih x7)
noncomputable def S63_353 (h111 : Hp) (r112 : List Ref) (w113 : List Ref) (r109 : List Ref) (r105 : List Ref) (w106 : List Ref) (r102 : List Ref) (x114 : IV) (x115 : IV) (ih : Handler) (x7 : IV) (x12 : IV) : Option (IV × Hp) :=
  newS 66076684 (.row [.fv (.int .i64 0), .fv (.int .i64 0), .nils] false) (.ptr (.own 66076684) 0) h111 fun x116 h117 r118 w119 => chkS [(r112, w113), (r109, []), (r105, w106), (r102, [])] r118 w119 (storeA 3 x116 x114 h117 fun h120 r121 w122 => chkS [] r121 w122 (neS EE 3 x115 (.fv (.int .i64 0)) fun x123 => S63_352 x123 ih h120 x115 x7 x12 x116))
noncomputable def S63_354 (r109 : List Ref) (r105 : List Ref) (w106 : List Ref) (r102 : List Ref) (ih : Handler) (h104 : Hp) (x103 : IV) (x108 : IV) (x7 : IV) (x12 : IV) : Option (IV × Hp) :=
  chkS [(r105, w106), (r102, [])] r109 [] (isoS [] false false ih 26 [x103, .fv (.int .i64 1), x108] h104 fun x110 h111 r112 w113 => chkS [] r112 w113 (extS 0 x110 fun x114 => extS 1 x110 fun x115 => S63_353 h111 r112 w113 r109 r105 w106 r102 x114 x115 ih x7 x12))
noncomputable def S63_355 (r102 : List Ref) (ih : Handler) (h84 : Hp) (x0 : IV) (x101 : IV) (x12 : IV) (x7 : IV) : Option (IV × Hp) :=
  chkS [] r102 [] (isoS [] false false ih 84 [x0, .fv (.int .i64 1), x101] h84 fun x103 h104 r105 w106 => chkS [] r105 w106 (ixS 3 x12 (.fv (.int .i64 1)) fun x107 => loadA 3 x107 h104 fun x108 r109 => S63_354 r109 r105 w106 r102 ih h104 x103 x108 x7 x12))
noncomputable def S63_356 (x88 : IV) (ih : Handler) (h84 : Hp) (x7 : IV) (x12 : IV) (x0 : IV) : Option (IV × Hp) :=
  neS EE 3 x88 (.fv (.int .i64 0)) fun x89 => condS x89 (isoS [] false false ih 57 [x88] h84 fun x90 h91 _ _ => extS 0 x90 fun x94 => S63_347 x90 h91 x7 x94) (ixS 3 x12 (.fv (.int .i64 0)) fun x100 => loadA 3 x100 h84 fun x101 r102 => S63_355 r102 ih h84 x0 x101 x12 x7)
noncomputable def S63_357 (x12 : IV) (h19 : Hp) (ih : Handler) (x0 : IV) (x7 : IV) : Option (IV × Hp) :=
  ixS 3 x12 (.fv (.int .i64 0)) fun x80 => loadA 3 x80 h19 fun x81 _ => isoS [] false false ih 88 [x0, x81] h19 fun x83 h84 _ _ => extS 0 x83 fun _ => extS 1 x83 fun x88 => S63_356 x88 ih h84 x7 x12 x0
noncomputable def S63_358 (x178 : IV) (h179 : Hp) (x7 : IV) (x182 : IV) : Option (IV × Hp) :=
  extS 1 x178 fun x183 => storeA 3 x7 x182 h179 fun h184 _ _ => cellS true 3 x7 h184 fun x187 => outS1 [x187, x183] h184
noncomputable def S63_359 (h207 : Hp) (x7 : IV) (x206 : IV) : Option (IV × Hp) :=
  cellS true 3 x7 h207 fun x210 => outS1 [x210, x206] h207
noncomputable def S63_360 (r203 : List Ref) (w204 : List Ref) (x201 : IV) (h202 : Hp) (x7 : IV) : Option (IV × Hp) :=
  chkS [] r203 w204 (extS 0 x201 fun x205 => extS 1 x201 fun x206 => storeA 3 x7 x205 h202 fun h207 r208 w209 => chkS [] r208 w209 (S63_359 h207 x7 x206))
noncomputable def S63_361 (h176 : Hp) (x194 : IV) (r193 : List Ref) (r190 : List Ref) (ih : Handler) (x192 : IV) (x7 : IV) : Option (IV × Hp) :=
  loadA 3 x194 h176 fun x195 r196 => chkS [(r193, []), (r190, [])] r196 [] (isoS [] false false ih 89 [x192, .fv (.int .i64 0), x195] h176 fun x197 h198 r199 w200 => chkS [] r199 w200 (isoS [] false false ih 58 [x197] h198 fun x201 h202 r203 w204 => S63_360 r203 w204 x201 h202 x7))
noncomputable def S63_362 (r190 : List Ref) (x189 : IV) (h176 : Hp) (x12 : IV) (ih : Handler) (x7 : IV) : Option (IV × Hp) :=
  chkS [] r190 [] (ixS 3 x189 (.fv (.int .i64 1)) fun x191 => loadA 3 x191 h176 fun x192 r193 => chkS [] r193 [] (ixS 3 x12 (.fv (.int .i64 1)) fun x194 => S63_361 h176 x194 r193 r190 ih x192 x7))
noncomputable def S63_363 (x175 : IV) (ih : Handler) (h176 : Hp) (x7 : IV) (x167 : IV) (x12 : IV) : Option (IV × Hp) :=
  neS EE 3 x175 (.fv (.int .i64 0)) fun x177 => condS x177 (isoS [] false false ih 57 [x175] h176 fun x178 h179 _ _ => extS 0 x178 fun x182 => S63_358 x178 h179 x7 x182) (faddrS 2 x167 fun x188 => load1 x188 h176 fun x189 r190 => S63_362 r190 x189 h176 x12 ih x7)
noncomputable def S63_364 (x216 : IV) (h171 : Hp) (r214 : List Ref) (ih : Handler) (x0 : IV) (x213 : IV) (j1_174 : IV → Hp → Option (IV × Hp)) : Option (IV × Hp) :=
  ixS 3 x216 (.fv (.int .i64 0)) fun x218 => loadA 3 x218 h171 fun x219 r220 => chkS [(r214, [])] r220 [] (isoS [] false false ih 61 [x0, .fv (.int .i64 1), x213, x219] h171 fun x221 h222 r223 w224 => chkS [] r223 w224 (j1_174 x221 h222))
noncomputable def S63_365 (h171 : Hp) (x212 : IV) (x167 : IV) (ih : Handler) (x0 : IV) (j1_174 : IV → Hp → Option (IV × Hp)) : Option (IV × Hp) :=
  loadA 3 x212 h171 fun x213 r214 => chkS [] r214 [] (faddrS 2 x167 fun x215 => load1 x215 h171 fun x216 r217 => chkS [(r214, [])] r217 [] (S63_364 x216 h171 r214 ih x0 x213 j1_174))
noncomputable def S63_366 (ih : Handler) (x7 : IV) (x167 : IV) (x12 : IV) (x166 : IV) (h171 : Hp) (x0 : IV) : Option (IV × Hp) :=
  (fun (j1_174 : IV → Hp → Option (IV × Hp)) => eqS EE 3 x166 (.fv (.int .i64 0)) fun x211 => condS x211 (ixS 3 x12 (.fv (.int .i64 1)) fun x212 => S63_365 h171 x212 x167 ih x0 j1_174) (j1_174 x166 h171)) fun x175 h176 => S63_363 x175 ih h176 x7 x167 x12
noncomputable def S63_367 (ih : Handler) (h19 : Hp) (x0 : IV) (x159 : IV) (x7 : IV) (x12 : IV) : Option (IV × Hp) :=
  isoS [] false false ih 85 [x0, .fv (.int .i64 1), x159, .fv (.int .i64 3)] h19 fun x161 h162 _ _ => extS 0 x161 fun x165 => extS 1 x161 fun x166 => newS 66081800 (.row [.fv (.int .i64 0), .fv (.int .i64 0), .nils] false) (.ptr (.own 66081800) 0) h162 fun x167 h168 _ _ => storeA 3 x167 x165 h168 fun h171 _ _ => S63_366 ih x7 x167 x12 x166 h171 x0
noncomputable def S63_368 (x245 : IV) (h246 : Hp) (x7 : IV) (x249 : IV) : Option (IV × Hp) :=
  extS 1 x245 fun x250 => storeA 3 x7 x249 h246 fun h251 _ _ => cellS true 3 x7 h251 fun x254 => outS1 [x254, x250] h251
noncomputable def S63_369 (x260 : IV) (h241 : Hp) (x7 : IV) : Option (IV × Hp) :=
  ixS 3 x260 (.fv (.int .i64 0)) fun x262 => loadA 3 x262 h241 fun x263 _ => storeA 3 x7 x263 h241 fun h265 _ _ => cellS true 3 x7 h265 fun x268 => outS1 [x268, .fv (.int .i64 0)] h265
noncomputable def S63_370 (x290 : IV) (h291 : Hp) (x7 : IV) : Option (IV × Hp) :=
  extS 0 x290 fun x294 => extS 1 x290 fun x295 => storeA 3 x7 x294 h291 fun h296 r297 w298 => chkS [] r297 w298 (cellS true 3 x7 h296 fun x299 => outS1 [x299, x295] h296)
noncomputable def S63_371 (r284 : List Ref) (w285 : List Ref) (r274 : List Ref) (r271 : List Ref) (ih : Handler) (h283 : Hp) (x273 : IV) (x282 : IV) (x7 : IV) : Option (IV × Hp) :=
  chkS [(r274, []), (r271, [])] r284 w285 (isoS [] false false ih 89 [x273, .fv (.int .i64 0), x282] h283 fun x286 h287 r288 w289 => chkS [] r288 w289 (isoS [] false false ih 58 [x286] h287 fun x290 h291 r292 w293 => chkS [] r292 w293 (S63_370 x290 h291 x7)))
noncomputable def S63_372 (h241 : Hp) (x275 : IV) (r274 : List Ref) (r271 : List Ref) (ih : Handler) (x273 : IV) (x7 : IV) : Option (IV × Hp) :=
  loadA 3 x275 h241 fun x276 r277 => chkS [(r274, []), (r271, [])] r277 [] (genS (pcBuildSlice EE 28 1 [(0, x276)]) 66095111 h241 fun x278 h279 r280 w281 => chkS [(r274, []), (r271, [])] r280 w281 (isoS [] false false ih 30 [.fv (.int .i64 8), x278] h279 fun x282 h283 r284 w285 => S63_371 r284 w285 r274 r271 ih h283 x273 x282 x7))
noncomputable def S63_373 (r271 : List Ref) (x270 : IV) (h241 : Hp) (x12 : IV) (ih : Handler) (x7 : IV) : Option (IV × Hp) :=
  chkS [] r271 [] (ixS 3 x270 (.fv (.int .i64 1)) fun x272 => loadA 3 x272 h241 fun x273 r274 => chkS [] r274 [] (ixS 3 x12 (.fv (.int .i64 0)) fun x275 => S63_372 h241 x275 r274 r271 ih x273 x7))
noncomputable def S63_374 (x256 : IV) (x237 : IV) (h241 : Hp) (x7 : IV) (x12 : IV) (ih : Handler) : Option (IV × Hp) :=
  eqS EE 3 x256 (.fv (.int .i64 8)) fun x258 => condS x258 (faddrS 2 x237 fun x259 => load1 x259 h241 fun x260 _ => S63_369 x260 h241 x7) (faddrS 2 x237 fun x269 => load1 x269 h241 fun x270 r271 => S63_373 r271 x270 h241 x12 ih x7)
noncomputable def S63_375 (x236 : IV) (ih : Handler) (h241 : Hp) (x7 : IV) (x3 : IV) (x237 : IV) (x12 : IV) : Option (IV × Hp) :=
  neS EE 3 x236 (.fv (.int .i64 0)) fun x244 => condS x244 (isoS [] false false ih 57 [x236] h241 fun x245 h246 _ _ => extS 0 x245 fun x249 => S63_368 x245 h246 x7 x249) (faddrS 0 x3 fun x255 => load1 x255 h241 fun x256 _ => S63_374 x256 x237 h241 x7 x12 ih)
noncomputable def S63_376 (ih : Handler) (h227 : Hp) (x0 : IV) (x229 : IV) (x7 : IV) (x3 : IV) (x12 : IV) : Option (IV × Hp) :=
  isoS [] false false ih 85 [x0, .fv (.int .i64 1), x229, .fv (.int .i64 6)] h227 fun x231 h232 _ _ => extS 0 x231 fun x235 => extS 1 x231 fun x236 => newS 66089992 (.row [.fv (.int .i64 0), .fv (.int .i64 0), .nils] false) (.ptr (.own 66089992) 0) h232 fun x237 h238 _ _ => storeA 3 x237 x235 h238 fun h241 _ _ => S63_375 x236 ih h241 x7 x3 x237 x12
noncomputable def S63_377 (h309 : Hp) (x7 : IV) (x308 : IV) : Option (IV × Hp) :=
  cellS true 3 x7 h309 fun x312 => outS1 [x312, x308] h309
noncomputable def S63_378 (h227 : Hp) (x3 : IV) (ih : Handler) (x0 : IV) (x7 : IV) : Option (IV × Hp) :=
  loadA 3 x3 h227 fun x301 _ => isoS [] false false ih 90 [x0, x301] h227 fun x303 h304 _ _ => extS 0 x303 fun x307 => extS 1 x303 fun x308 => storeA 3 x7 x307 h304 fun h309 _ _ => S63_377 h309 x7 x308
noncomputable def S63_379 (x316 : IV) (h317 : Hp) (x7 : IV) : Option (IV × Hp) :=
  extS 0 x316 fun x320 => extS 1 x316 fun x321 => storeA 3 x7 x320 h317 fun h322 _ _ => cellS true 3 x7 h322 fun x325 => outS1 [x325, x321] h322
noncomputable def S63_380 (x326 : IV) (h327 : Hp) (x7 : IV) (x330 : IV) : Option (IV × Hp) :=
  extS 1 x326 fun x331 => storeA 3 x7 x330 h327 fun h332 _ _ => cellS true 3 x7 h332 fun x335 => outS1 [x335, x331] h332
noncomputable def S63_381 (x15 : IV) (h227 : Hp) (x3 : IV) (ih : Handler) (x0 : IV) (x7 : IV) : Option (IV × Hp) :=
  eqS EE 3 x15 (.fv (.int .i64 13)) fun x313 => condS x313 (loadA 3 x3 h227 fun x314 _ => isoS [] false false ih 91 [x0, x314] h227 fun x316 h317 _ _ => S63_379 x316 h317 x7) (isoS [] false false ih 57 [.fv (.int .i64 10)] h227 fun x326 h327 _ _ => extS 0 x326 fun x330 => S63_380 x326 h327 x7 x330)
noncomputable def S63_382 (x226 : IV) (x12 : IV) (h227 : Hp) (ih : Handler) (x0 : IV) (x7 : IV) (x3 : IV) (x15 : IV) : Option (IV × Hp) :=
  condS x226 (ixS 3 x12 (.fv (.int .i64 0)) fun x228 => loadA 3 x228 h227 fun x229 _ => S63_376 ih h227 x0 x229 x7 x3 x12) (eqS EE 3 x15 (.fv (.int .i64 7)) fun x300 => condS x300 (S63_378 h227 x3 ih x0 x7) (S63_381 x15 h227 x3 ih x0 x7))
noncomputable def S63_383 (x336 : IV) (j1_225 : IV → Hp → Option (IV × Hp)) (h19 : Hp) (x15 : IV) : Option (IV × Hp) :=
  condS x336 (j1_225 x336 h19) (eqS EE 3 x15 (.fv (.int .i64 9)) fun x337 => j1_225 x337 h19)
noncomputable def S63_384 (x15 : IV) (x12 : IV) (h19 : Hp) (ih : Handler) (x0 : IV) (x7 : IV) (x3 : IV) : Option (IV × Hp) :=
  eqS EE 3 x15 (.fv (.int .i64 5)) fun x157 => condS x157 (ixS 3 x12 (.fv (.int .i64 0)) fun x158 => loadA 3 x158 h19 fun x159 _ => S63_367 ih h19 x0 x159 x7 x12) ((fun (j1_225 : IV → Hp → Option (IV × Hp)) => eqS EE 3 x15 (.fv (.int .i64 8)) fun x336 => S63_383 x336 j1_225 h19 x15) fun x226 h227 => S63_382 x226 x12 h227 ih x0 x7 x3 x15)
noncomputable def S63_385 (x18 : IV) (x12 : IV) (h19 : Hp) (ih : Handler) (x0 : IV) (x7 : IV) (x15 : IV) (x3 : IV) : Option (IV × Hp) :=
  condS x18 (ixS 3 x12 (.fv (.int .i64 0)) fun x20 => loadA 3 x20 h19 fun x21 _ => S63_346 ih h19 x0 x21 x7 x12) (eqS EE 3 x15 (.fv (.int .i64 4)) fun x79 => condS x79 (S63_357 x12 h19 ih x0 x7) (S63_384 x15 x12 h19 ih x0 x7 x3))
noncomputable def S63_386 (x12 : IV) (ih : Handler) (x0 : IV) (x7 : IV) (x15 : IV) (x3 : IV) (h8 : Hp) : Option (IV × Hp) :=
  (fun (j1_17 : IV → Hp → Option (IV × Hp)) => eqS EE 3 x15 (.fv (.int .i64 3)) fun x338 => condS x338 (j1_17 x338 h8) (eqS EE 3 x15 (.fv (.int .i64 6)) fun x339 => j1_17 x339 h8)) fun x18 h19 => S63_385 x18 x12 h19 ih x0 x7 x15 x3
noncomputable def S63 (ih : Handler) (n : Nat) (x0 : IV) (x1 : IV) (h2 : Hp) : Option (IV × Hp) :=
  boxS 66060288 x1 h2 fun x3 h4 _ _ => newS 66060289 (.row [.fv (.int .i64 0), .fv (.int .i64 0), .nils] false) (.ptr (.own 66060289) 0) h4 fun x7 h8 _ _ => faddrS 2 x3 fun x11 => load1 x11 h8 fun x12 _ => faddrS 0 x3 fun x14 => load1 x14 h8 fun x15 _ => S63_386 x12 ih x0 x7 x15 x3 h8
theorem S63_ok (ih : Handler) (n : Nat) (x0 : IV) (x1 : IV) (h2 : Hp) : funS EE ih ft.get n 63 [x0, x1] h2 = S63 ih n x0 x1 h2 := by kernel_rfl
end Idl
end Go.Proofs.Ytdibmackcbpniaa

/-
  THE SHALLOW FORM OF THE SEAT'S FUNCTIONS, a part; each is what its code's shallow run is. Printed by a program of mine (gen-sh). No statement is proved here.
-/
import Derived.Test.YtbkdidonegggdaaTab
import Derived.Test.YtbkdidonegggdaaIdl31
set_option maxRecDepth 100000
set_option linter.unusedVariables false
namespace Go.Proofs.Ytbkdidonegggdaa
namespace Idl
/-! Function 10. -/
noncomputable def S10_233 (x133 : IV) (h173 : Hp) (x172 : IV) (x134 : IV) (h4 : Hp) (x131 : IV) (x132 : IV) (q128 : List IV → Hp → Option (IV × Hp)) : Option (IV × Hp) :=
  faddrS 2 x133 fun x176 => store1 x176 x172 h173 fun h177 _ _ => addS EE 3 x134 (.fv (.int .i64 1)) fun x180 => dropS (h4.own.map (·.1)) [10499081, 10502148] [x131, x132, x133, x180] h177 fun h181 => q128 [x131, x132, x133, x180] h181
noncomputable def S10_234 (x133 : IV) (h160 : Hp) (x152 : IV) (x134 : IV) (h4 : Hp) (x131 : IV) (x132 : IV) (q128 : List IV → Hp → Option (IV × Hp)) : Option (IV × Hp) :=
  faddrS 2 x133 fun x163 => load1 x163 h160 fun x164 _ => loadA 3 x152 h160 fun x166 _ => genS (pcBuildSlice EE 29 1 [(0, x166)]) 10502147 h160 fun x168 h169 _ _ => genS (builtinR EE 10502148 false .append [29, 29] [x164, x168]) 10502148 h169 fun x172 h173 _ _ => S10_233 x133 h173 x172 x134 h4 x131 x132 q128
noncomputable def S10_235 (x146 : IV) (h147 : Hp) (x150 : IV) (ih : Handler) (x133 : IV) (x134 : IV) (h4 : Hp) (x131 : IV) (x132 : IV) (q128 : List IV → Hp → Option (IV × Hp)) : Option (IV × Hp) :=
  extS 1 x146 fun x151 => newS 10499081 (.row [.fv (.int .i64 0), .fv (.int .i64 0), .nils] false) (.ptr (.own 10499081) 0) h147 fun x152 h153 _ _ => storeA 3 x152 x150 h153 fun h156 _ _ => isoS [] false false ih 19 [x151] h156 fun x159 h160 _ _ => condS x159 (outS1 [.fv (.bool true)] h160) (S10_234 x133 h160 x152 x134 h4 x131 x132 q128)
noncomputable def S10_236 (h130 : Hp) (x140 : IV) (x134 : IV) (ih : Handler) (x133 : IV) (h4 : Hp) (x131 : IV) (x132 : IV) (q128 : List IV → Hp → Option (IV × Hp)) : Option (IV × Hp) :=
  load1 x140 h130 fun x141 _ => ixS 3 x141 x134 fun x143 => loadA 3 x143 h130 fun x144 _ => isoS [] false false ih 18 [x144] h130 fun x146 h147 _ _ => extS 0 x146 fun x150 => S10_235 x146 h147 x150 ih x133 x134 h4 x131 x132 q128
noncomputable def S10_237 (ih : Handler) (h216 : Hp) (x220 : IV) (x222 : IV) : Option (IV × Hp) :=
  isoS [] false false ih 37 [x220, x222] h216 fun x224 h225 _ _ => outS1 [x224] h225
noncomputable def S10_238 (x219 : IV) (h216 : Hp) (x133 : IV) (x132 : IV) (ih : Handler) : Option (IV × Hp) :=
  condS x219 (outS1 [.fv (.bool true)] h216) (loadA 3 x133 h216 fun x220 _ => loadA 3 x132 h216 fun x222 _ => S10_237 ih h216 x220 x222)
noncomputable def S10_239 (ih : Handler) (h194 : Hp) (x189 : IV) (x133 : IV) (x132 : IV) : Option (IV × Hp) :=
  isoS [] false false ih 19 [x189] h194 fun x197 h198 _ _ => guardS x197 false h198 (fun k201 => loadA 3 x133 h198 fun x202 r203 => k201 x202 h198 r203 []) fun x204 h205 _ _ => guardS x197 false h205 (fun k208 => isoS [] false false ih 22 [x204] h205 k208) fun x209 h210 _ _ => guardS x197 false h210 (fun k213 => neS EE 3 x209 (.fv (.int .i64 0)) fun x214 => k213 x214 h210 [] []) fun x215 h216 _ _ => pickS x197 (.fv (.bool true)) x215 fun x219 => S10_238 x219 h216 x133 x132 ih
noncomputable def S10_240 (ih : Handler) (h130 : Hp) (x182 : IV) (x133 : IV) (x132 : IV) : Option (IV × Hp) :=
  isoS [] false false ih 18 [x182] h130 fun x184 h185 _ _ => extS 0 x184 fun x188 => extS 1 x184 fun x189 => newS 10503173 (.row [.fv (.int .i64 0), .fv (.int .i64 0), .nils] false) (.ptr (.own 10503173) 0) h185 fun x190 h191 _ _ => storeA 3 x190 x188 h191 fun h194 _ _ => S10_239 ih h194 x189 x133 x132
noncomputable def S10_241 (h130 : Hp) (x135 : IV) (x134 : IV) (x131 : IV) (ih : Handler) (x133 : IV) (h4 : Hp) (x132 : IV) (q128 : List IV → Hp → Option (IV × Hp)) : Option (IV × Hp) :=
  load1 x135 h130 fun x136 _ => lenS x136 fun x138 => ltS EE 3 x134 x138 fun x139 => condS x139 (faddrS 2 x131 fun x140 => S10_236 h130 x140 x134 ih x133 h4 x131 x132 q128) (loadA 3 x133 h130 fun x182 _ => S10_240 ih h130 x182 x133 x132)
noncomputable def S10_242 (l129 : List IV) (h130 : Hp) (ih : Handler) (h4 : Hp) (q128 : List IV → Hp → Option (IV × Hp)) : Option (IV × Hp) :=
  uncS l129 fun x131 l228 => uncS l228 fun x132 l229 => uncS l229 fun x133 l230 => uncS l230 fun x134 _ => faddrS 2 x131 fun x135 => S10_241 h130 x135 x134 x131 ih x133 h4 x132 q128
noncomputable def S10_243 (h4 : Hp) (h125 : Hp) (x77 : IV) (x95 : IV) (x121 : IV) (n : Nat) (ih : Handler) : Option (IV × Hp) :=
  dropS (h4.own.map (·.1)) [10499081, 10502148] [x77, x95, x121, .fv (.int .i64 0)] h125 fun h232 => loopS n (fun q128 l129 h130 => S10_242 l129 h130 ih h4 q128) [x77, x95, x121, .fv (.int .i64 0)] h232
noncomputable def S10_244 (x77 : IV) (h110 : Hp) (x115 : IV) (h4 : Hp) (x95 : IV) (n : Nat) (ih : Handler) : Option (IV × Hp) :=
  faddrS 1 x77 fun x117 => load1 x117 h110 fun x118 _ => bldS [.fv (.int .i64 0), .fv (.int .i64 0), .nils] [(0, 1, x115), (1, 1, x118)] fun x120 => newS 10494981 (.row [.fv (.int .i64 0), .fv (.int .i64 0), .nils] false) (.ptr (.own 10494981) 0) h110 fun x121 h122 _ _ => storeA 3 x121 x120 h122 fun h125 _ _ => S10_243 h4 h125 x77 x95 x121 n ih
noncomputable def S10_245 (x102 : IV) (x109 : IV) (h110 : Hp) (x77 : IV) (h4 : Hp) (x95 : IV) (n : Nat) (ih : Handler) : Option (IV × Hp) :=
  pickS x102 (.fv (.bool true)) x109 fun x113 => condS x113 (outS1 [.fv (.bool true)] h110) (faddrS 0 x77 fun x114 => load1 x114 h110 fun x115 _ => S10_244 x77 h110 x115 h4 x95 n ih)
noncomputable def S10_246 (h90 : Hp) (x93 : IV) (x72 : IV) (x94 : IV) (ih : Handler) (x77 : IV) (h4 : Hp) (n : Nat) : Option (IV × Hp) :=
  newS 10491909 (.row [.fv (.int .i64 0), .fv (.int .i64 0), .nils] false) (.ptr (.own 10491909) 0) h90 fun x95 h96 _ _ => storeA 3 x95 x93 h96 fun h99 _ _ => optS (unR .not x72) fun x102 => guardS x102 false h99 (fun k103 => k103 x94 h99 [] []) fun x104 h105 _ _ => guardS x102 false h105 (fun k108 => isoS [] false false ih 19 [x104] h105 k108) fun x109 h110 _ _ => S10_245 x102 x109 h110 x77 h4 x95 n ih
noncomputable def S10_247 (h81 : Hp) (x77 : IV) (x71 : IV) (ih : Handler) (x72 : IV) (h4 : Hp) (n : Nat) : Option (IV × Hp) :=
  storeA 3 x77 x71 h81 fun h84 _ _ => loadA 3 x77 h84 fun x87 _ => isoS [] false false ih 18 [x87] h84 fun x89 h90 _ _ => extS 0 x89 fun x93 => extS 1 x89 fun x94 => S10_246 h90 x93 x72 x94 ih x77 h4 n
noncomputable def S10_248 (x65 : IV) (h66 : Hp) (x70 : IV) (ih : Handler) (h4 : Hp) (n : Nat) : Option (IV × Hp) :=
  extS 2 x65 fun x71 => extS 3 x65 fun x72 => newS 10490890 (.row [.fv (.int .i64 0), .fv (.int .i64 0), .nils] false) (.ptr (.own 10490890) 0) h66 fun x73 h74 _ _ => newS 10490891 (.row [.fv (.int .i64 0), .fv (.int .i64 0), .nils] false) (.ptr (.own 10490891) 0) h74 fun x77 h78 _ _ => storeA 3 x73 x70 h78 fun h81 _ _ => S10_247 h81 x77 x71 ih x72 h4 n
noncomputable def S10_249 (h57 : Hp) (x5 : IV) (x9 : IV) (ih : Handler) (x0 : IV) (x3 : IV) (h4 : Hp) (n : Nat) : Option (IV × Hp) :=
  loadA 3 x5 h57 fun x61 _ => loadA 3 x9 h57 fun x63 _ => isoS [] false false ih 17 [x0, x61, x63, x3] h57 fun x65 h66 _ _ => extS 0 x65 fun _ => extS 1 x65 fun x70 => S10_248 x65 h66 x70 ih h4 n
noncomputable def S10_250 (h38 : Hp) (x41 : IV) (x9 : IV) (ih : Handler) (x5 : IV) (x0 : IV) (x3 : IV) (h4 : Hp) (n : Nat) : Option (IV × Hp) :=
  guardS x41 false h38 (fun k42 => loadA 3 x9 h38 fun x43 r44 => k42 x43 h38 r44 []) fun x45 h46 _ _ => guardS x41 false h46 (fun k49 => isoS [] false false ih 16 [x45] h46 k49) fun x50 h51 _ _ => guardS x41 false h51 (fun k54 => optS (unR .not x50) fun x55 => k54 x55 h51 [] []) fun x56 h57 _ _ => pickS x41 (.fv (.bool true)) x56 fun x60 => condS x60 (outS1 [.fv (.bool true)] h57) (S10_249 h57 x5 x9 ih x0 x3 h4 n)
noncomputable def S10_251 (x18 : IV) (h19 : Hp) (x5 : IV) (ih : Handler) (x9 : IV) (x0 : IV) (x3 : IV) (h4 : Hp) (n : Nat) : Option (IV × Hp) :=
  optS (unR .not x18) fun x22 => guardS x22 false h19 (fun k23 => loadA 3 x5 h19 fun x24 r25 => k23 x24 h19 r25 []) fun x26 h27 _ _ => guardS x22 false h27 (fun k30 => isoS [] false false ih 16 [x26] h27 k30) fun x31 h32 _ _ => guardS x22 false h32 (fun k35 => optS (unR .not x31) fun x36 => k35 x36 h32 [] []) fun x37 h38 _ _ => pickS x22 (.fv (.bool true)) x37 fun x41 => S10_250 h38 x41 x9 ih x5 x0 x3 h4 n
noncomputable def S10 (ih : Handler) (n : Nat) (x0 : IV) (x1 : IV) (x2 : IV) (x3 : IV) (h4 : Hp) : Option (IV × Hp) :=
  boxS 10485760 x1 h4 fun x5 h6 _ _ => boxS 10485761 x2 h6 fun x9 h10 _ _ => isoS [] false false ih 14 [] h10 fun x13 h14 _ _ => optS (unR .not x13) fun x17 => condS x17 (outS1 [.fv (.bool false)] h14) (isoS [] false false ih 15 [x0] h14 fun x18 h19 _ _ => S10_251 x18 h19 x5 ih x9 x0 x3 h4 n)
theorem S10_ok (ih : Handler) (n : Nat) (x0 : IV) (x1 : IV) (x2 : IV) (x3 : IV) (h4 : Hp) : funS EE ih ft.get n 10 [x0, x1, x2, x3] h4 = S10 ih n x0 x1 x2 x3 h4 := by kernel_rfl
/-! Function 11. -/
noncomputable def S11_135 (ih : Handler) (h122 : Hp) (x125 : IV) (x115 : IV) (x121 : IV) : Option (IV × Hp) :=
  isoS [] false false ih 31 [x125, x115, .fv (.int .i64 0)] h122 fun x127 h128 r129 w130 => chkS [] r129 w130 (isoS [] false false ih 37 [x121, x127] h128 fun x131 h132 r133 w134 => chkS [] r133 w134 (outS1 [x131] h132))
noncomputable def S11_136 (r120 : List Ref) (ih : Handler) (h116 : Hp) (x119 : IV) (x115 : IV) (x96 : IV) : Option (IV × Hp) :=
  chkS [] r120 [] (isoS [] false false ih 31 [x119, x115, .fv (.int .i64 0)] h116 fun x121 h122 r123 w124 => chkS [] r123 w124 (loadA 3 x96 h122 fun x125 r126 => chkS [(r123, w124), (r120, [])] r126 [] (S11_135 ih h122 x125 x115 x121)))
noncomputable def S11_137 (x103 : IV) (x110 : IV) (h111 : Hp) (ih : Handler) (x3 : IV) (x78 : IV) (x96 : IV) : Option (IV × Hp) :=
  pickS x103 (.fv (.bool true)) x110 fun x114 => condS x114 (outS1 [.fv (.bool true)] h111) (isoS [] false false ih 28 [x3, .fv (.int .i64 50)] h111 fun x115 h116 _ _ => loadA 3 x78 h116 fun x119 r120 => S11_136 r120 ih h116 x119 x115 x96)
noncomputable def S11_138 (h91 : Hp) (x94 : IV) (x73 : IV) (x95 : IV) (ih : Handler) (x3 : IV) (x78 : IV) : Option (IV × Hp) :=
  newS 11540485 (.row [.fv (.int .i64 0), .fv (.int .i64 0), .nils] false) (.ptr (.own 11540485) 0) h91 fun x96 h97 _ _ => storeA 3 x96 x94 h97 fun h100 _ _ => optS (unR .not x73) fun x103 => guardS x103 false h100 (fun k104 => k104 x95 h100 [] []) fun x105 h106 _ _ => guardS x103 false h106 (fun k109 => isoS [] false false ih 19 [x105] h106 k109) fun x110 h111 _ _ => S11_137 x103 x110 h111 ih x3 x78 x96
noncomputable def S11_139 (h82 : Hp) (x78 : IV) (x72 : IV) (ih : Handler) (x73 : IV) (x3 : IV) : Option (IV × Hp) :=
  storeA 3 x78 x72 h82 fun h85 _ _ => loadA 3 x78 h85 fun x88 _ => isoS [] false false ih 18 [x88] h85 fun x90 h91 _ _ => extS 0 x90 fun x94 => extS 1 x90 fun x95 => S11_138 h91 x94 x73 x95 ih x3 x78
noncomputable def S11_140 (x66 : IV) (h67 : Hp) (x71 : IV) (ih : Handler) (x3 : IV) : Option (IV × Hp) :=
  extS 2 x66 fun x72 => extS 3 x66 fun x73 => newS 11539466 (.row [.fv (.int .i64 0), .fv (.int .i64 0), .nils] false) (.ptr (.own 11539466) 0) h67 fun x74 h75 _ _ => newS 11539467 (.row [.fv (.int .i64 0), .fv (.int .i64 0), .nils] false) (.ptr (.own 11539467) 0) h75 fun x78 h79 _ _ => storeA 3 x74 x71 h79 fun h82 _ _ => S11_139 h82 x78 x72 ih x73 x3
noncomputable def S11_141 (h58 : Hp) (x6 : IV) (x10 : IV) (ih : Handler) (x0 : IV) (x4 : IV) (x3 : IV) : Option (IV × Hp) :=
  loadA 3 x6 h58 fun x62 _ => loadA 3 x10 h58 fun x64 _ => isoS [] false false ih 17 [x0, x62, x64, x4] h58 fun x66 h67 _ _ => extS 0 x66 fun _ => extS 1 x66 fun x71 => S11_140 x66 h67 x71 ih x3
noncomputable def S11_142 (h39 : Hp) (x42 : IV) (x10 : IV) (ih : Handler) (x6 : IV) (x0 : IV) (x4 : IV) (x3 : IV) : Option (IV × Hp) :=
  guardS x42 false h39 (fun k43 => loadA 3 x10 h39 fun x44 r45 => k43 x44 h39 r45 []) fun x46 h47 _ _ => guardS x42 false h47 (fun k50 => isoS [] false false ih 16 [x46] h47 k50) fun x51 h52 _ _ => guardS x42 false h52 (fun k55 => optS (unR .not x51) fun x56 => k55 x56 h52 [] []) fun x57 h58 _ _ => pickS x42 (.fv (.bool true)) x57 fun x61 => condS x61 (outS1 [.fv (.bool true)] h58) (S11_141 h58 x6 x10 ih x0 x4 x3)
noncomputable def S11_143 (x19 : IV) (h20 : Hp) (x6 : IV) (ih : Handler) (x10 : IV) (x0 : IV) (x4 : IV) (x3 : IV) : Option (IV × Hp) :=
  optS (unR .not x19) fun x23 => guardS x23 false h20 (fun k24 => loadA 3 x6 h20 fun x25 r26 => k24 x25 h20 r26 []) fun x27 h28 _ _ => guardS x23 false h28 (fun k31 => isoS [] false false ih 16 [x27] h28 k31) fun x32 h33 _ _ => guardS x23 false h33 (fun k36 => optS (unR .not x32) fun x37 => k36 x37 h33 [] []) fun x38 h39 _ _ => pickS x23 (.fv (.bool true)) x38 fun x42 => S11_142 h39 x42 x10 ih x6 x0 x4 x3
noncomputable def S11 (ih : Handler) (n : Nat) (x0 : IV) (x1 : IV) (x2 : IV) (x3 : IV) (x4 : IV) (h5 : Hp) : Option (IV × Hp) :=
  boxS 11534336 x1 h5 fun x6 h7 _ _ => boxS 11534337 x2 h7 fun x10 h11 _ _ => isoS [] false false ih 14 [] h11 fun x14 h15 _ _ => optS (unR .not x14) fun x18 => condS x18 (outS1 [.fv (.bool false)] h15) (isoS [] false false ih 15 [x0] h15 fun x19 h20 _ _ => S11_143 x19 h20 x6 ih x10 x0 x4 x3)
theorem S11_ok (ih : Handler) (n : Nat) (x0 : IV) (x1 : IV) (x2 : IV) (x3 : IV) (x4 : IV) (h5 : Hp) : funS EE ih ft.get n 11 [x0, x1, x2, x3, x4] h5 = S11 ih n x0 x1 x2 x3 x4 h5 := by kernel_rfl
/-! Function 12. -/
noncomputable def S12_386 (x362 : IV) (x381 : IV) (h382 : Hp) : Option (IV × Hp) :=
  pickS x362 x381 (.fv (.bool false)) fun x385 => outS1 [x385] h382
noncomputable def S12_387 (h354 : Hp) (x283 : IV) (ih : Handler) (x358 : IV) (x265 : IV) : Option (IV × Hp) :=
  loadA 3 x283 h354 fun x360 _ => isoS [] false false ih 37 [x358, x360] h354 fun x362 h363 _ _ => guardS x362 true h363 (fun k366 => loadA 3 x265 h363 fun x367 r368 => k366 x367 h363 r368 []) fun x369 h370 _ _ => guardS x362 true h370 (fun k373 => loadA 3 x283 h370 fun x374 r375 => k373 x374 h370 r375 []) fun x376 h377 _ _ => guardS x362 true h377 (fun k380 => isoS [] false false ih 37 [x369, x376] h377 k380) fun x381 h382 _ _ => S12_386 x362 x381 h382
noncomputable def S12_388 (h343 : Hp) (x338 : IV) (ih : Handler) (x342 : IV) (x261 : IV) (x283 : IV) (x265 : IV) : Option (IV × Hp) :=
  guardS x338 false h343 (fun k346 => isoS [] false false ih 22 [x342] h343 k346) fun x347 h348 _ _ => guardS x338 false h348 (fun k351 => neS EE 3 x347 (.fv (.int .i64 0)) fun x352 => k351 x352 h348 [] []) fun x353 h354 _ _ => pickS x338 (.fv (.bool true)) x353 fun x357 => condS x357 (outS1 [.fv (.bool true)] h354) (loadA 3 x261 h354 fun x358 _ => S12_387 h354 x283 ih x358 x265)
noncomputable def S12_389 (h316 : Hp) (x319 : IV) (x261 : IV) (ih : Handler) (x265 : IV) (x283 : IV) : Option (IV × Hp) :=
  guardS x319 false h316 (fun k320 => loadA 3 x261 h316 fun x321 r322 => k320 x321 h316 r322 []) fun x323 h324 _ _ => guardS x319 false h324 (fun k327 => isoS [] false false ih 22 [x323] h324 k327) fun x328 h329 _ _ => guardS x319 false h329 (fun k332 => neS EE 3 x328 (.fv (.int .i64 0)) fun x333 => k332 x333 h329 [] []) fun x334 h335 _ _ => pickS x319 (.fv (.bool true)) x334 fun x338 => guardS x338 false h335 (fun k339 => loadA 3 x265 h335 fun x340 r341 => k339 x340 h335 r341 []) fun x342 h343 _ _ => S12_388 h343 x338 ih x342 x261 x283 x265
noncomputable def S12_390 (h299 : Hp) (x298 : IV) (x296 : IV) (ih : Handler) (x282 : IV) (x297 : IV) (x261 : IV) (x265 : IV) (x283 : IV) : Option (IV × Hp) :=
  storeA 3 x298 x296 h299 fun h302 _ _ => isoS [] false false ih 19 [x282] h302 fun x305 h306 _ _ => guardS x305 false h306 (fun k309 => k309 x297 h306 [] []) fun x310 h311 _ _ => guardS x305 false h311 (fun k314 => isoS [] false false ih 19 [x310] h311 k314) fun x315 h316 _ _ => pickS x305 (.fv (.bool true)) x315 fun x319 => S12_389 h316 x319 x261 ih x265 x283
noncomputable def S12_391 (h287 : Hp) (x265 : IV) (ih : Handler) (x282 : IV) (x261 : IV) (x283 : IV) : Option (IV × Hp) :=
  loadA 3 x265 h287 fun x290 _ => isoS [] false false ih 18 [x290] h287 fun x292 h293 _ _ => extS 0 x292 fun x296 => extS 1 x292 fun x297 => newS 12597253 (.row [.fv (.int .i64 0), .fv (.int .i64 0), .nils] false) (.ptr (.own 12597253) 0) h293 fun x298 h299 _ _ => S12_390 h299 x298 x296 ih x282 x297 x261 x265 x283
noncomputable def S12_392 (ih : Handler) (h272 : Hp) (x275 : IV) (x265 : IV) (x261 : IV) : Option (IV × Hp) :=
  isoS [] false false ih 18 [x275] h272 fun x277 h278 _ _ => extS 0 x277 fun x281 => extS 1 x277 fun x282 => newS 12596229 (.row [.fv (.int .i64 0), .fv (.int .i64 0), .nils] false) (.ptr (.own 12596229) 0) h278 fun x283 h284 _ _ => storeA 3 x283 x281 h284 fun h287 _ _ => S12_391 h287 x265 ih x282 x261 x283
noncomputable def S12_393 (h266 : Hp) (x261 : IV) (x249 : IV) (x265 : IV) (x257 : IV) (ih : Handler) : Option (IV × Hp) :=
  storeA 3 x261 x249 h266 fun h269 r270 w271 => chkS [] r270 w271 (storeA 3 x265 x257 h269 fun h272 r273 w274 => chkS [] r273 w274 (loadA 3 x261 h272 fun x275 _ => S12_392 ih h272 x275 x265 x261))
noncomputable def S12_394 (r259 : List Ref) (w260 : List Ref) (h258 : Hp) (r256 : List Ref) (r254 : List Ref) (r251 : List Ref) (w252 : List Ref) (r248 : List Ref) (r246 : List Ref) (x249 : IV) (x257 : IV) (ih : Handler) : Option (IV × Hp) :=
  chkS [] r259 w260 (newS 12595206 (.row [.fv (.int .i64 0), .fv (.int .i64 0), .nils] false) (.ptr (.own 12595206) 0) h258 fun x261 h262 r263 w264 => chkS [(r259, w260), (r256, []), (r254, []), (r251, w252), (r248, []), (r246, [])] r263 w264 (newS 12595207 (.row [.fv (.int .i64 0), .fv (.int .i64 0), .nils] false) (.ptr (.own 12595207) 0) h262 fun x265 h266 r267 w268 => chkS [(r263, w264), (r259, w260), (r256, []), (r254, []), (r251, w252), (r248, []), (r246, [])] r267 w268 (S12_393 h266 x261 x249 x265 x257 ih)))
noncomputable def S12_395 (h250 : Hp) (x157 : IV) (r251 : List Ref) (w252 : List Ref) (r248 : List Ref) (r246 : List Ref) (x142 : IV) (ih : Handler) (x249 : IV) : Option (IV × Hp) :=
  loadA 3 x157 h250 fun x253 r254 => chkS [(r251, w252), (r248, []), (r246, [])] r254 [] (loadA 3 x142 h250 fun x255 r256 => chkS [(r254, []), (r251, w252), (r248, []), (r246, [])] r256 [] (isoS [] false false ih 30 [x253, .fv (.int .i64 0), x255] h250 fun x257 h258 r259 w260 => S12_394 r259 w260 h258 r256 r254 r251 w252 r248 r246 x249 x257 ih))
noncomputable def S12_396 (r246 : List Ref) (h241 : Hp) (x142 : IV) (ih : Handler) (x245 : IV) (x157 : IV) : Option (IV × Hp) :=
  chkS [] r246 [] (loadA 3 x142 h241 fun x247 r248 => chkS [(r246, [])] r248 [] (isoS [] false false ih 30 [x245, .fv (.int .i64 0), x247] h241 fun x249 h250 r251 w252 => chkS [] r251 w252 (S12_395 h250 x157 r251 w252 r248 r246 x142 ih x249)))
noncomputable def S12_397 (h230 : Hp) (x225 : IV) (ih : Handler) (x229 : IV) (x119 : IV) (x142 : IV) (x157 : IV) : Option (IV × Hp) :=
  guardS x225 false h230 (fun k233 => isoS [] false false ih 36 [x229] h230 k233) fun x234 h235 _ _ => guardS x225 false h235 (fun k238 => gtS EE 3 x234 (.fv (.int .i64 20)) fun x239 => k238 x239 h235 [] []) fun x240 h241 _ _ => pickS x225 (.fv (.bool true)) x240 fun x244 => condS x244 (outS1 [.fv (.bool true)] h241) (loadA 3 x119 h241 fun x245 r246 => S12_396 r246 h241 x142 ih x245 x157)
noncomputable def S12_398 (h203 : Hp) (x206 : IV) (x157 : IV) (ih : Handler) (x142 : IV) (x119 : IV) : Option (IV × Hp) :=
  guardS x206 false h203 (fun k207 => loadA 3 x157 h203 fun x208 r209 => k207 x208 h203 r209 []) fun x210 h211 _ _ => guardS x206 false h211 (fun k214 => isoS [] false false ih 36 [x210] h211 k214) fun x215 h216 _ _ => guardS x206 false h216 (fun k219 => gtS EE 3 x215 (.fv (.int .i64 400)) fun x220 => k219 x220 h216 [] []) fun x221 h222 _ _ => pickS x206 (.fv (.bool true)) x221 fun x225 => guardS x225 false h222 (fun k226 => loadA 3 x142 h222 fun x227 r228 => k226 x227 h222 r228 []) fun x229 h230 _ _ => S12_397 h230 x225 ih x229 x119 x142 x157
noncomputable def S12_399 (x176 : IV) (x183 : IV) (h184 : Hp) (x119 : IV) (ih : Handler) (x157 : IV) (x142 : IV) : Option (IV × Hp) :=
  pickS x176 (.fv (.bool true)) x183 fun x187 => guardS x187 false h184 (fun k188 => loadA 3 x119 h184 fun x189 r190 => k188 x189 h184 r190 []) fun x191 h192 _ _ => guardS x187 false h192 (fun k195 => isoS [] false false ih 36 [x191] h192 k195) fun x196 h197 _ _ => guardS x187 false h197 (fun k200 => gtS EE 3 x196 (.fv (.int .i64 400)) fun x201 => k200 x201 h197 [] []) fun x202 h203 _ _ => pickS x187 (.fv (.bool true)) x202 fun x206 => S12_398 h203 x206 x157 ih x142 x119
noncomputable def S12_400 (h161 : Hp) (x164 : IV) (x141 : IV) (x156 : IV) (ih : Handler) (x119 : IV) (x157 : IV) (x142 : IV) : Option (IV × Hp) :=
  guardS x164 false h161 (fun k165 => k165 x141 h161 [] []) fun x166 h167 _ _ => guardS x164 false h167 (fun k170 => optS (unR .not x166) fun x171 => k170 x171 h167 [] []) fun x172 h173 _ _ => pickS x164 (.fv (.bool true)) x172 fun x176 => guardS x176 false h173 (fun k177 => k177 x156 h173 [] []) fun x178 h179 _ _ => guardS x176 false h179 (fun k182 => isoS [] false false ih 19 [x178] h179 k182) fun x183 h184 _ _ => S12_399 x176 x183 h184 x119 ih x157 x142
noncomputable def S12_401 (x151 : IV) (h152 : Hp) (x118 : IV) (x141 : IV) (ih : Handler) (x119 : IV) (x142 : IV) : Option (IV × Hp) :=
  extS 0 x151 fun x155 => extS 1 x151 fun x156 => newS 12592133 (.row [.fv (.int .i64 0), .fv (.int .i64 0), .nils] false) (.ptr (.own 12592133) 0) h152 fun x157 h158 _ _ => storeA 3 x157 x155 h158 fun h161 _ _ => optS (unR .not x118) fun x164 => S12_400 h161 x164 x141 x156 ih x119 x157 x142
noncomputable def S12_402 (r144 : List Ref) (w145 : List Ref) (r138 : List Ref) (w139 : List Ref) (r135 : List Ref) (r132 : List Ref) (w133 : List Ref) (r128 : List Ref) (w129 : List Ref) (h143 : Hp) (x142 : IV) (x140 : IV) (x119 : IV) (ih : Handler) (x118 : IV) (x141 : IV) : Option (IV × Hp) :=
  chkS [(r138, w139), (r135, []), (r132, w133), (r128, w129)] r144 w145 (storeA 3 x142 x140 h143 fun h146 r147 w148 => chkS [] r147 w148 (loadA 3 x119 h146 fun x149 _ => isoS [] false false ih 18 [x149] h146 fun x151 h152 _ _ => S12_401 x151 h152 x118 x141 ih x119 x142))
noncomputable def S12_403 (ih : Handler) (h131 : Hp) (x126 : IV) (x130 : IV) (x134 : IV) (r135 : List Ref) (r132 : List Ref) (w133 : List Ref) (r128 : List Ref) (w129 : List Ref) (x119 : IV) (x118 : IV) : Option (IV × Hp) :=
  isoS [] false false ih 26 [x126, x130, x134, .fv (.int .i64 2)] h131 fun x136 h137 r138 w139 => chkS [] r138 w139 (extS 0 x136 fun x140 => extS 1 x136 fun x141 => newS 12591112 (.row [.fv (.int .i64 0), .fv (.int .i64 0), .nils] false) (.ptr (.own 12591112) 0) h137 fun x142 h143 r144 w145 => S12_402 r144 w145 r138 w139 r135 r132 w133 r128 w129 h143 x142 x140 x119 ih x118 x141)
noncomputable def S12_404 (r128 : List Ref) (w129 : List Ref) (ih : Handler) (h127 : Hp) (x13 : IV) (x126 : IV) (x119 : IV) (x118 : IV) : Option (IV × Hp) :=
  chkS [] r128 w129 (isoS [] false false ih 42 [] h127 fun x130 h131 r132 w133 => chkS [] r132 w133 (loadA 3 x13 h131 fun x134 r135 => chkS [(r132, w133), (r128, w129)] r135 [] (S12_403 ih h131 x126 x130 x134 r135 r132 w133 r128 w129 x119 x118)))
noncomputable def S12_405 (x113 : IV) (h114 : Hp) (ih : Handler) (x0 : IV) (x13 : IV) : Option (IV × Hp) :=
  extS 0 x113 fun x117 => extS 1 x113 fun x118 => newS 12590087 (.row [.fv (.int .i64 0), .fv (.int .i64 0), .nils] false) (.ptr (.own 12590087) 0) h114 fun x119 h120 _ _ => storeA 3 x119 x117 h120 fun h123 _ _ => isoS [] false false ih 24 [x0] h123 fun x126 h127 r128 w129 => S12_404 r128 w129 ih h127 x13 x126 x119 x118
noncomputable def S12_406 (h99 : Hp) (x98 : IV) (x5 : IV) (ih : Handler) (x92 : IV) (x0 : IV) (x13 : IV) : Option (IV × Hp) :=
  newS 12589059 (.row [.fv (.int .i64 0), .fv (.int .i64 0), .nils] false) (.ptr (.own 12589059) 0) h99 fun x102 h103 _ _ => storeA 3 x102 x98 h103 fun h106 _ _ => loadA 3 x102 h106 fun x109 _ => loadA 3 x5 h106 fun x111 _ => isoS [] false false ih 26 [x92, x109, x111, .fv (.int .i64 4)] h106 fun x113 h114 _ _ => S12_405 x113 h114 ih x0 x13
noncomputable def S12_407 (ih : Handler) (h80 : Hp) (x0 : IV) (x9 : IV) (x5 : IV) (x13 : IV) : Option (IV × Hp) :=
  isoS [] false false ih 24 [x0] h80 fun x84 h85 _ _ => isoS [] false false ih 42 [] h85 fun x88 h89 _ _ => isoS [] false false ih 29 [x84, .fv (.int .i64 1), x88] h89 fun x92 h93 _ _ => loadA 3 x9 h93 fun x96 _ => isoS [] false false ih 25 [x92, x96, .fv (.int .i64 1)] h93 fun x98 h99 _ _ => S12_406 h99 x98 x5 ih x92 x0 x13
noncomputable def S12_408 (h61 : Hp) (x64 : IV) (x13 : IV) (ih : Handler) (x0 : IV) (x9 : IV) (x5 : IV) : Option (IV × Hp) :=
  guardS x64 false h61 (fun k65 => loadA 3 x13 h61 fun x66 r67 => k65 x66 h61 r67 []) fun x68 h69 _ _ => guardS x64 false h69 (fun k72 => isoS [] false false ih 16 [x68] h69 k72) fun x73 h74 _ _ => guardS x64 false h74 (fun k77 => optS (unR .not x73) fun x78 => k77 x78 h74 [] []) fun x79 h80 _ _ => pickS x64 (.fv (.bool true)) x79 fun x83 => condS x83 (outS1 [.fv (.bool true)] h80) (S12_407 ih h80 x0 x9 x5 x13)
noncomputable def S12_409 (x26 : IV) (x41 : IV) (h42 : Hp) (x9 : IV) (ih : Handler) (x13 : IV) (x0 : IV) (x5 : IV) : Option (IV × Hp) :=
  pickS x26 (.fv (.bool true)) x41 fun x45 => guardS x45 false h42 (fun k46 => loadA 3 x9 h42 fun x47 r48 => k46 x47 h42 r48 []) fun x49 h50 _ _ => guardS x45 false h50 (fun k53 => isoS [] false false ih 16 [x49] h50 k53) fun x54 h55 _ _ => guardS x45 false h55 (fun k58 => optS (unR .not x54) fun x59 => k58 x59 h55 [] []) fun x60 h61 _ _ => pickS x45 (.fv (.bool true)) x60 fun x64 => S12_408 h61 x64 x13 ih x0 x9 x5
noncomputable def S12_410 (ih : Handler) (h18 : Hp) (x0 : IV) (x5 : IV) (x9 : IV) (x13 : IV) : Option (IV × Hp) :=
  isoS [] false false ih 15 [x0] h18 fun x22 h23 _ _ => optS (unR .not x22) fun x26 => guardS x26 false h23 (fun k27 => loadA 3 x5 h23 fun x28 r29 => k27 x28 h23 r29 []) fun x30 h31 _ _ => guardS x26 false h31 (fun k34 => isoS [] false false ih 16 [x30] h31 k34) fun x35 h36 _ _ => guardS x26 false h36 (fun k39 => optS (unR .not x35) fun x40 => k39 x40 h36 [] []) fun x41 h42 _ _ => S12_409 x26 x41 h42 x9 ih x13 x0 x5
noncomputable def S12 (ih : Handler) (n : Nat) (x0 : IV) (x1 : IV) (x2 : IV) (x3 : IV) (h4 : Hp) : Option (IV × Hp) :=
  boxS 12582912 x1 h4 fun x5 h6 _ _ => boxS 12582913 x2 h6 fun x9 h10 _ _ => boxS 12582914 x3 h10 fun x13 h14 _ _ => isoS [] false false ih 14 [] h14 fun x17 h18 _ _ => optS (unR .not x17) fun x21 => condS x21 (outS1 [.fv (.bool false)] h18) (S12_410 ih h18 x0 x5 x9 x13)
theorem S12_ok (ih : Handler) (n : Nat) (x0 : IV) (x1 : IV) (x2 : IV) (x3 : IV) (h4 : Hp) : funS EE ih ft.get n 12 [x0, x1, x2, x3] h4 = S12 ih n x0 x1 x2 x3 h4 := by kernel_rfl
/-! Function 13. -/
noncomputable def S13_300 (h227 : Hp) (x119 : IV) (r228 : List Ref) (w229 : List Ref) (r224 : List Ref) (w225 : List Ref) (r220 : List Ref) (w221 : List Ref) (r216 : List Ref) (w217 : List Ref) (r212 : List Ref) (w213 : List Ref) (r208 : List Ref) (w209 : List Ref) (r204 : List Ref) (w205 : List Ref) (r201 : List Ref) (r199 : List Ref) (r196 : List Ref) (ih : Handler) (x226 : IV) : Option (IV × Hp) :=
  loadA 3 x119 h227 fun x230 r231 => chkS [(r228, w229), (r224, w225), (r220, w221), (r216, w217), (r212, w213), (r208, w209), (r204, w205), (r201, []), (r199, []), (r196, [])] r231 [] (isoS [] false false ih 21 [x226, x230] h227 fun x232 h233 r234 w235 => chkS [] r234 w235 (outS1 [x232] h233))
noncomputable def S13_301 (r220 : List Ref) (w221 : List Ref) (ih : Handler) (h219 : Hp) (x218 : IV) (x119 : IV) (r216 : List Ref) (w217 : List Ref) (r212 : List Ref) (w213 : List Ref) (r208 : List Ref) (w209 : List Ref) (r204 : List Ref) (w205 : List Ref) (r201 : List Ref) (r199 : List Ref) (r196 : List Ref) : Option (IV × Hp) :=
  chkS [] r220 w221 (isoS [] false false ih 27 [.fv (.int .i64 4), x218] h219 fun x222 h223 r224 w225 => chkS [] r224 w225 (isoS [] false false ih 45 [x222] h223 fun x226 h227 r228 w229 => chkS [] r228 w229 (S13_300 h227 x119 r228 w229 r224 w225 r220 w221 r216 w217 r212 w213 r208 w209 r204 w205 r201 r199 r196 ih x226)))
noncomputable def S13_302 (h207 : Hp) (x202 : IV) (x206 : IV) (r199 : List Ref) (r196 : List Ref) (ih : Handler) (x198 : IV) (x119 : IV) (r208 : List Ref) (w209 : List Ref) (r204 : List Ref) (w205 : List Ref) (r201 : List Ref) : Option (IV × Hp) :=
  genS (pcBuildSlice EE 29 2 [(0, x202), (1, x206)]) 13644807 h207 fun x210 h211 r212 w213 => chkS [(r199, []), (r196, [])] r212 w213 (isoS [] false false ih 27 [.fv (.int .i64 5), x210] h211 fun x214 h215 r216 w217 => chkS [(r199, []), (r196, [])] r216 w217 (genS (pcBuildSlice EE 29 2 [(0, x198), (1, x214)]) 13644809 h215 fun x218 h219 r220 w221 => S13_301 r220 w221 ih h219 x218 x119 r216 w217 r212 w213 r208 w209 r204 w205 r201 r199 r196))
noncomputable def S13_303 (r201 : List Ref) (r199 : List Ref) (r196 : List Ref) (ih : Handler) (h190 : Hp) (x200 : IV) (x198 : IV) (x119 : IV) : Option (IV × Hp) :=
  chkS [(r199, []), (r196, [])] r201 [] (isoS [] false false ih 31 [x200, .fv (.int .i64 1), .fv (.int .i64 0)] h190 fun x202 h203 r204 w205 => chkS [(r199, []), (r196, [])] r204 w205 (isoS [] false false ih 34 [.fv (.int .i64 0)] h203 fun x206 h207 r208 w209 => chkS [(r199, []), (r196, [])] r208 w209 (S13_302 h207 x202 x206 r199 r196 ih x198 x119 r208 w209 r204 w205 r201)))
noncomputable def S13_304 (r196 : List Ref) (x195 : IV) (h190 : Hp) (x94 : IV) (ih : Handler) (x119 : IV) : Option (IV × Hp) :=
  chkS [] r196 [] (ixS 3 x195 (.fv (.int .i64 0)) fun x197 => loadA 3 x197 h190 fun x198 r199 => chkS [] r199 [] (loadA 3 x94 h190 fun x200 r201 => S13_303 r201 r199 r196 ih h190 x200 x198 x119))
noncomputable def S13_305 (ih : Handler) (h291 : Hp) (x290 : IV) (x294 : IV) : Option (IV × Hp) :=
  isoS [] false false ih 21 [x290, x294] h291 fun x296 h297 r298 w299 => chkS [] r298 w299 (outS1 [x296] h297)
noncomputable def S13_306 (r288 : List Ref) (w289 : List Ref) (ih : Handler) (h287 : Hp) (x286 : IV) (x119 : IV) (r284 : List Ref) (w285 : List Ref) (r280 : List Ref) (w281 : List Ref) (r276 : List Ref) (w277 : List Ref) (r273 : List Ref) (r270 : List Ref) (w271 : List Ref) (r266 : List Ref) (w267 : List Ref) (r263 : List Ref) (r261 : List Ref) : Option (IV × Hp) :=
  chkS [] r288 w289 (isoS [] false false ih 45 [x286] h287 fun x290 h291 r292 w293 => chkS [] r292 w293 (loadA 3 x119 h291 fun x294 r295 => chkS [(r292, w293), (r288, w289), (r284, w285), (r280, w281), (r276, w277), (r273, []), (r270, w271), (r266, w267), (r263, []), (r261, [])] r295 [] (S13_305 ih h291 x290 x294)))
noncomputable def S13_307 (ih : Handler) (h275 : Hp) (x274 : IV) (r261 : List Ref) (x260 : IV) (x268 : IV) (x119 : IV) (r276 : List Ref) (w277 : List Ref) (r273 : List Ref) (r270 : List Ref) (w271 : List Ref) (r266 : List Ref) (w267 : List Ref) (r263 : List Ref) : Option (IV × Hp) :=
  isoS [] false false ih 27 [.fv (.int .i64 9), x274] h275 fun x278 h279 r280 w281 => chkS [(r261, [])] r280 w281 (genS (pcBuildSlice EE 29 3 [(0, x260), (1, x268), (2, x278)]) 13646855 h279 fun x282 h283 r284 w285 => chkS [] r284 w285 (isoS [] false false ih 27 [.fv (.int .i64 7), x282] h283 fun x286 h287 r288 w289 => S13_306 r288 w289 ih h287 x286 x119 r284 w285 r280 w281 r276 w277 r273 r270 w271 r266 w267 r263 r261))
noncomputable def S13_308 (r270 : List Ref) (w271 : List Ref) (r261 : List Ref) (h269 : Hp) (x94 : IV) (r266 : List Ref) (w267 : List Ref) (r263 : List Ref) (ih : Handler) (x260 : IV) (x268 : IV) (x119 : IV) : Option (IV × Hp) :=
  chkS [(r261, [])] r270 w271 (loadA 3 x94 h269 fun x272 r273 => chkS [(r270, w271), (r266, w267), (r263, []), (r261, [])] r273 [] (genS (pcBuildSlice EE 29 1 [(0, x272)]) 13646853 h269 fun x274 h275 r276 w277 => chkS [(r270, w271), (r266, w267), (r263, []), (r261, [])] r276 w277 (S13_307 ih h275 x274 r261 x260 x268 x119 r276 w277 r273 r270 w271 r266 w267 r263)))
noncomputable def S13_309 (h256 : Hp) (x94 : IV) (r261 : List Ref) (ih : Handler) (x260 : IV) (x119 : IV) : Option (IV × Hp) :=
  loadA 3 x94 h256 fun x262 r263 => chkS [(r261, [])] r263 [] (genS (pcBuildSlice EE 29 1 [(0, x262)]) 13646850 h256 fun x264 h265 r266 w267 => chkS [(r261, [])] r266 w267 (isoS [] false false ih 27 [.fv (.int .i64 8), x264] h265 fun x268 h269 r270 w271 => S13_308 r270 w271 r261 h269 x94 r266 w267 r263 ih x260 x268 x119))
noncomputable def S13_310 (x259 : IV) (h256 : Hp) (x72 : IV) (x94 : IV) (ih : Handler) (x119 : IV) : Option (IV × Hp) :=
  condS x259 (loadA 3 x72 h256 fun x260 r261 => chkS [] r261 [] (S13_309 h256 x94 r261 ih x260 x119)) (outS1 [.fv (.bool true)] h256)
noncomputable def S13_311 (x237 : IV) (h190 : Hp) (x94 : IV) (x72 : IV) (ih : Handler) (x119 : IV) : Option (IV × Hp) :=
  eqS EE 3 x237 (.fv (.int .i64 6)) fun x239 => guardS x239 true h190 (fun k240 => faddrS 0 x94 fun x241 => k240 x241 h190 [] []) fun x242 h243 _ _ => guardS x239 true h243 (fun k246 => load1 x242 h243 fun x247 r248 => k246 x247 h243 r248 []) fun x249 h250 _ _ => guardS x239 true h250 (fun k253 => neS EE 3 x249 (.fv (.int .i64 7)) fun x254 => k253 x254 h250 [] []) fun x255 h256 _ _ => pickS x239 x255 (.fv (.bool false)) fun x259 => S13_310 x259 h256 x72 x94 ih x119
noncomputable def S13_312 (x193 : IV) (x72 : IV) (h190 : Hp) (x94 : IV) (ih : Handler) (x119 : IV) : Option (IV × Hp) :=
  condS x193 (faddrS 2 x72 fun x194 => load1 x194 h190 fun x195 r196 => S13_304 r196 x195 h190 x94 ih x119) (faddrS 0 x72 fun x236 => load1 x236 h190 fun x237 _ => S13_311 x237 h190 x94 x72 ih x119)
noncomputable def S13_313 (x171 : IV) (h166 : Hp) (x94 : IV) (x72 : IV) (ih : Handler) (x119 : IV) : Option (IV × Hp) :=
  eqS EE 3 x171 (.fv (.int .i64 3)) fun x173 => guardS x173 true h166 (fun k174 => faddrS 0 x94 fun x175 => k174 x175 h166 [] []) fun x176 h177 _ _ => guardS x173 true h177 (fun k180 => load1 x176 h177 fun x181 r182 => k180 x181 h177 r182 []) fun x183 h184 _ _ => guardS x173 true h184 (fun k187 => neS EE 3 x183 (.fv (.int .i64 4)) fun x188 => k187 x188 h184 [] []) fun x189 h190 _ _ => pickS x173 x189 (.fv (.bool false)) fun x193 => S13_312 x193 x72 h190 x94 ih x119
noncomputable def S13_314 (x138 : IV) (x165 : IV) (h166 : Hp) (x72 : IV) (x94 : IV) (ih : Handler) (x119 : IV) : Option (IV × Hp) :=
  pickS x138 (.fv (.bool true)) x165 fun x169 => condS x169 (outS1 [.fv (.bool false)] h166) (faddrS 0 x72 fun x170 => load1 x170 h166 fun x171 _ => S13_313 x171 h166 x94 x72 ih x119)
noncomputable def S13_315 (h148 : Hp) (x138 : IV) (x119 : IV) (r149 : List Ref) (w150 : List Ref) (r144 : List Ref) (w145 : List Ref) (ih : Handler) (x147 : IV) (x72 : IV) (x94 : IV) : Option (IV × Hp) :=
  guardS x138 false h148 (fun k151 => loadA 3 x119 h148 fun x152 r153 => k151 x152 h148 r153 []) fun x154 h155 r156 w157 => chkS [(r149, w150), (r144, w145)] r156 w157 (guardS x138 false h155 (fun k158 => isoS [] false false ih 21 [x147, x154] h155 k158) fun x159 h160 r161 w162 => chkS [] r161 w162 (guardS x138 false h160 (fun k163 => optS (unR .not x159) fun x164 => k163 x164 h160 [] []) fun x165 h166 _ _ => S13_314 x138 x165 h166 x72 x94 ih x119))
noncomputable def S13_316 (x134 : IV) (h135 : Hp) (x119 : IV) (ih : Handler) (x72 : IV) (x94 : IV) : Option (IV × Hp) :=
  optS (unR .not x134) fun x138 => guardS x138 false h135 (fun k139 => loadA 3 x119 h135 fun x140 r141 => k139 x140 h135 r141 []) fun x142 h143 r144 w145 => chkS [] r144 w145 (guardS x138 false h143 (fun k146 => isoS [] false false ih 45 [x142] h143 k146) fun x147 h148 r149 w150 => chkS [] r149 w150 (S13_315 h148 x138 x119 r149 w150 r144 w145 ih x147 x72 x94))
noncomputable def S13_317 (r129 : List Ref) (r127 : List Ref) (ih : Handler) (h123 : Hp) (x128 : IV) (x126 : IV) (x119 : IV) (x72 : IV) (x94 : IV) : Option (IV × Hp) :=
  chkS [(r127, [])] r129 [] (isoS [] false false ih 46 [x128] h123 fun x130 h131 r132 w133 => chkS [(r127, [])] r132 w133 (isoS [] false false ih 21 [x126, x130] h131 fun x134 h135 r136 w137 => chkS [] r136 w137 (S13_316 x134 h135 x119 ih x72 x94)))
noncomputable def S13_318 (h116 : Hp) (x115 : IV) (x94 : IV) (ih : Handler) (x72 : IV) : Option (IV × Hp) :=
  newS 13640706 (.row [.fv (.int .i64 0), .fv (.int .i64 0), .nils] false) (.ptr (.own 13640706) 0) h116 fun x119 h120 _ _ => storeA 3 x119 x115 h120 fun h123 _ _ => loadA 3 x119 h123 fun x126 r127 => chkS [] r127 [] (loadA 3 x94 h123 fun x128 r129 => S13_317 r129 r127 ih h123 x128 x126 x119 x72 x94)
noncomputable def S13_319 (x101 : IV) (x108 : IV) (h109 : Hp) (x94 : IV) (ih : Handler) (x72 : IV) : Option (IV × Hp) :=
  pickS x101 (.fv (.bool true)) x108 fun x112 => condS x112 (outS1 [.fv (.bool true)] h109) (loadA 3 x94 h109 fun x113 _ => isoS [] false false ih 45 [x113] h109 fun x115 h116 _ _ => S13_318 h116 x115 x94 ih x72)
noncomputable def S13_320 (h89 : Hp) (x92 : IV) (x71 : IV) (x93 : IV) (ih : Handler) (x72 : IV) : Option (IV × Hp) :=
  newS 13637637 (.row [.fv (.int .i64 0), .fv (.int .i64 0), .nils] false) (.ptr (.own 13637637) 0) h89 fun x94 h95 _ _ => storeA 3 x94 x92 h95 fun h98 _ _ => optS (unR .not x71) fun x101 => guardS x101 false h98 (fun k102 => k102 x93 h98 [] []) fun x103 h104 _ _ => guardS x101 false h104 (fun k107 => isoS [] false false ih 19 [x103] h104 k107) fun x108 h109 _ _ => S13_319 x101 x108 h109 x94 ih x72
noncomputable def S13_321 (h80 : Hp) (x76 : IV) (x70 : IV) (ih : Handler) (x71 : IV) (x72 : IV) : Option (IV × Hp) :=
  storeA 3 x76 x70 h80 fun h83 _ _ => loadA 3 x76 h83 fun x86 _ => isoS [] false false ih 18 [x86] h83 fun x88 h89 _ _ => extS 0 x88 fun x92 => extS 1 x88 fun x93 => S13_320 h89 x92 x71 x93 ih x72
noncomputable def S13_322 (x64 : IV) (h65 : Hp) (x69 : IV) (ih : Handler) : Option (IV × Hp) :=
  extS 2 x64 fun x70 => extS 3 x64 fun x71 => newS 13636617 (.row [.fv (.int .i64 0), .fv (.int .i64 0), .nils] false) (.ptr (.own 13636617) 0) h65 fun x72 h73 _ _ => newS 13636618 (.row [.fv (.int .i64 0), .fv (.int .i64 0), .nils] false) (.ptr (.own 13636618) 0) h73 fun x76 h77 _ _ => storeA 3 x72 x69 h77 fun h80 _ _ => S13_321 h80 x76 x70 ih x71 x72
noncomputable def S13_323 (h56 : Hp) (x4 : IV) (x8 : IV) (ih : Handler) (x0 : IV) : Option (IV × Hp) :=
  loadA 3 x4 h56 fun x60 _ => loadA 3 x8 h56 fun x62 _ => isoS [] false false ih 17 [x0, x60, x62, .fv (.bool false)] h56 fun x64 h65 _ _ => extS 0 x64 fun _ => extS 1 x64 fun x69 => S13_322 x64 h65 x69 ih
noncomputable def S13_324 (h37 : Hp) (x40 : IV) (x8 : IV) (ih : Handler) (x4 : IV) (x0 : IV) : Option (IV × Hp) :=
  guardS x40 false h37 (fun k41 => loadA 3 x8 h37 fun x42 r43 => k41 x42 h37 r43 []) fun x44 h45 _ _ => guardS x40 false h45 (fun k48 => isoS [] false false ih 16 [x44] h45 k48) fun x49 h50 _ _ => guardS x40 false h50 (fun k53 => optS (unR .not x49) fun x54 => k53 x54 h50 [] []) fun x55 h56 _ _ => pickS x40 (.fv (.bool true)) x55 fun x59 => condS x59 (outS1 [.fv (.bool true)] h56) (S13_323 h56 x4 x8 ih x0)
noncomputable def S13_325 (x17 : IV) (h18 : Hp) (x4 : IV) (ih : Handler) (x8 : IV) (x0 : IV) : Option (IV × Hp) :=
  optS (unR .not x17) fun x21 => guardS x21 false h18 (fun k22 => loadA 3 x4 h18 fun x23 r24 => k22 x23 h18 r24 []) fun x25 h26 _ _ => guardS x21 false h26 (fun k29 => isoS [] false false ih 16 [x25] h26 k29) fun x30 h31 _ _ => guardS x21 false h31 (fun k34 => optS (unR .not x30) fun x35 => k34 x35 h31 [] []) fun x36 h37 _ _ => pickS x21 (.fv (.bool true)) x36 fun x40 => S13_324 h37 x40 x8 ih x4 x0
noncomputable def S13 (ih : Handler) (n : Nat) (x0 : IV) (x1 : IV) (x2 : IV) (h3 : Hp) : Option (IV × Hp) :=
  boxS 13631488 x1 h3 fun x4 h5 _ _ => boxS 13631489 x2 h5 fun x8 h9 _ _ => isoS [] false false ih 14 [] h9 fun x12 h13 _ _ => optS (unR .not x12) fun x16 => condS x16 (outS1 [.fv (.bool false)] h13) (isoS [] false false ih 15 [x0] h13 fun x17 h18 _ _ => S13_325 x17 h18 x4 ih x8 x0)
theorem S13_ok (ih : Handler) (n : Nat) (x0 : IV) (x1 : IV) (x2 : IV) (h3 : Hp) : funS EE ih ft.get n 13 [x0, x1, x2] h3 = S13 ih n x0 x1 x2 h3 := by kernel_rfl
/-! Function 14. -/
noncomputable def S14_79 (h70 : Hp) (x60 : IV) (ih : Handler) (x64 : IV) (x69 : IV) : Option (IV × Hp) :=
  guardS x60 true h70 (fun k73 => isoS [] false false ih 21 [x64, x69] h70 k73) fun x74 h75 r76 w77 => chkS [] r76 w77 (pickS x60 x74 (.fv (.bool false)) fun x78 => outS1 [x78] h75)
noncomputable def S14_80 (x52 : IV) (h57 : Hp) (x53 : IV) (ih : Handler) : Option (IV × Hp) :=
  eqS EE 37 x52 (.fv (.int .i64 0)) fun x60 => guardS x60 true h57 (fun k61 => loadA 3 x53 h57 fun x62 r63 => k61 x62 h57 r63 []) fun x64 h65 r66 w67 => chkS [] r66 w67 (guardS x60 true h65 (fun k68 => isoS [] false false ih 35 [.fv (.int .i64 2)] h65 k68) fun x69 h70 r71 w72 => chkS [(r66, w67)] r71 w72 (S14_79 h70 x60 ih x64 x69))
noncomputable def S14_81 (x47 : IV) (h48 : Hp) (r49 : List Ref) (w50 : List Ref) (r45 : List Ref) (w46 : List Ref) (r41 : List Ref) (w42 : List Ref) (r37 : List Ref) (w38 : List Ref) (r33 : List Ref) (w34 : List Ref) (r30 : List Ref) (r27 : List Ref) (w28 : List Ref) (r24 : List Ref) (x51 : IV) (ih : Handler) : Option (IV × Hp) :=
  extS 1 x47 fun x52 => newS 14682123 (.row [.fv (.int .i64 0), .fv (.int .i64 0), .nils] false) (.ptr (.own 14682123) 0) h48 fun x53 h54 r55 w56 => chkS [(r49, w50), (r45, w46), (r41, w42), (r37, w38), (r33, w34), (r30, []), (r27, w28), (r24, [])] r55 w56 (storeA 3 x53 x51 h54 fun h57 r58 w59 => chkS [] r58 w59 (S14_80 x52 h57 x53 ih))
noncomputable def S14_82 (ih : Handler) (h40 : Hp) (x39 : IV) (r41 : List Ref) (w42 : List Ref) (r37 : List Ref) (w38 : List Ref) (r33 : List Ref) (w34 : List Ref) (r30 : List Ref) (r27 : List Ref) (w28 : List Ref) (r24 : List Ref) : Option (IV × Hp) :=
  isoS [] false false ih 27 [.fv (.int .i64 8), x39] h40 fun x43 h44 r45 w46 => chkS [] r45 w46 (isoS [] false false ih 20 [x43] h44 fun x47 h48 r49 w50 => chkS [] r49 w50 (extS 0 x47 fun x51 => S14_81 x47 h48 r49 w50 r45 w46 r41 w42 r37 w38 r33 w34 r30 r27 w28 r24 x51 ih))
noncomputable def S14_83 (r33 : List Ref) (w34 : List Ref) (ih : Handler) (h32 : Hp) (x31 : IV) (r30 : List Ref) (r27 : List Ref) (w28 : List Ref) (r24 : List Ref) : Option (IV × Hp) :=
  chkS [] r33 w34 (isoS [] false false ih 27 [.fv (.int .i64 7), x31] h32 fun x35 h36 r37 w38 => chkS [] r37 w38 (genS (pcBuildSlice EE 29 1 [(0, x35)]) 14682117 h36 fun x39 h40 r41 w42 => chkS [] r41 w42 (S14_82 ih h40 x39 r41 w42 r37 w38 r33 w34 r30 r27 w28 r24)))
noncomputable def S14_84 (ih : Handler) (h20 : Hp) (r24 : List Ref) (x9 : IV) (x23 : IV) : Option (IV × Hp) :=
  isoS [] false false ih 35 [.fv (.int .i64 2)] h20 fun x25 h26 r27 w28 => chkS [(r24, [])] r27 w28 (loadA 3 x9 h26 fun x29 r30 => chkS [(r27, w28), (r24, [])] r30 [] (genS (pcBuildSlice EE 29 3 [(0, x23), (1, x25), (2, x29)]) 14682115 h26 fun x31 h32 r33 w34 => S14_83 r33 w34 ih h32 x31 r30 r27 w28 r24))
noncomputable def S14_85 (h10 : Hp) (x9 : IV) (x1 : IV) (x8 : IV) (ih : Handler) : Option (IV × Hp) :=
  newS 14681094 (.row [.fv (.int .i64 0), .fv (.int .i64 0), .nils] false) (.ptr (.own 14681094) 0) h10 fun x13 h14 _ _ => storeA 3 x9 x1 h14 fun h17 _ _ => storeA 3 x13 x8 h17 fun h20 _ _ => loadA 3 x13 h20 fun x23 r24 => chkS [] r24 [] (S14_84 ih h20 r24 x9 x23)
noncomputable def S14 (ih : Handler) (n : Nat) (h0 : Hp) : Option (IV × Hp) :=
  bldS [.fv (.int .i64 0), .fv (.int .i64 0), .nils] [(0, 1, .fv (.int .i64 11))] fun x1 => bldS [.fv (.int .i64 0), .fv (.int .i64 0), .nils] [(0, 1, .fv (.int .i64 10))] fun x2 => bldS [.fv (.int .i64 0), .fv (.int .i64 0), .nils] [(0, 1, .fv (.int .i64 10))] fun x3 => genS (pcBuildSlice EE 29 2 [(0, x2), (1, x3)]) 14681091 h0 fun x4 h5 _ _ => bldS [.fv (.int .i64 0), .fv (.int .i64 0), .nils] [(0, 1, .fv (.int .i64 6)), (2, 1, x4)] fun x8 => newS 14681093 (.row [.fv (.int .i64 0), .fv (.int .i64 0), .nils] false) (.ptr (.own 14681093) 0) h5 fun x9 h10 _ _ => S14_85 h10 x9 x1 x8 ih
theorem S14_ok (ih : Handler) (n : Nat) (h0 : Hp) : funS EE ih ft.get n 14 [] h0 = S14 ih n h0 := by kernel_rfl
/-! Function 15. -/
noncomputable def S15_22 (x6 : IV) (q2 : List IV → Hp → Option (IV × Hp)) (h13 : Hp) (x5 : IV) : Option (IV × Hp) :=
  addS EE 3 x6 (.fv (.int .i64 1)) fun x17 => q2 [x5, x17] h13
noncomputable def S15_23 (x5 : IV) (x6 : IV) (h4 : Hp) (ih : Handler) (q2 : List IV → Hp → Option (IV × Hp)) : Option (IV × Hp) :=
  ixS 3 x5 x6 fun x9 => loadA 3 x9 h4 fun x10 _ => isoS [] false false ih 16 [x10] h4 fun x12 h13 _ _ => optS (unR .not x12) fun x16 => condS x16 (outS1 [.fv (.bool false)] h13) (S15_22 x6 q2 h13 x5)
noncomputable def S15_24 (x5 : IV) (h4 : Hp) : Option (IV × Hp) :=
  lenS x5 fun x18 => leS EE 3 x18 (.fv (.int .i64 6)) fun x19 => outS1 [x19] h4
noncomputable def S15_25 (l3 : List IV) (h4 : Hp) (ih : Handler) (q2 : List IV → Hp → Option (IV × Hp)) : Option (IV × Hp) :=
  uncS l3 fun x5 l20 => uncS l20 fun x6 _ => lenS x5 fun x7 => ltS EE 3 x6 x7 fun x8 => condS x8 (S15_23 x5 x6 h4 ih q2) (S15_24 x5 h4)
noncomputable def S15 (ih : Handler) (n : Nat) (x0 : IV) (h1 : Hp) : Option (IV × Hp) :=
  loopS n (fun q2 l3 h4 => S15_25 l3 h4 ih q2) [x0, .fv (.int .i64 0)] h1
theorem S15_ok (ih : Handler) (n : Nat) (x0 : IV) (h1 : Hp) : funS EE ih ft.get n 15 [x0] h1 = S15 ih n x0 h1 := by kernel_rfl
/-! Function 16. -/
noncomputable def S16 (ih : Handler) (n : Nat) (x0 : IV) (h1 : Hp) : Option (IV × Hp) :=
  boxS 16777216 x0 h1 fun x2 h3 _ _ => loadA 3 x2 h3 fun x6 _ => isoS [] false false ih 47 [x6, .fv (.int .i64 300)] h3 fun x8 h9 _ _ => ltS EE 3 x8 (.fv (.int .i64 300)) fun x12 => outS1 [x12] h9
theorem S16_ok (ih : Handler) (n : Nat) (x0 : IV) (h1 : Hp) : funS EE ih ft.get n 16 [x0] h1 = S16 ih n x0 h1 := by kernel_rfl
/-! Function 17. -/
noncomputable def S17_177 (r85 : List Ref) (w86 : List Ref) (h84 : Hp) (x13 : IV) (x17 : IV) (x21 : IV) : Option (IV × Hp) :=
  chkS [] r85 w86 (cellS true 3 x13 h84 fun x87 => cellS true 3 x17 h84 fun x88 => outS1 [x21, x87, x88, .fv (.bool false)] h84)
noncomputable def S17_178 (ih : Handler) (h71 : Hp) (r76 : List Ref) (x13 : IV) (x75 : IV) (x17 : IV) (x21 : IV) : Option (IV × Hp) :=
  isoS [] false false ih 43 [.fv (.int .i64 0)] h71 fun x77 h78 r79 w80 => chkS [(r76, [])] r79 w80 (storeA 3 x13 x75 h78 fun h81 r82 w83 => chkS [] r82 w83 (storeA 3 x17 x77 h81 fun h84 r85 w86 => S17_177 r85 w86 h84 x13 x17 x21))
noncomputable def S17_179 (r97 : List Ref) (w98 : List Ref) (h96 : Hp) (x13 : IV) (x17 : IV) (x21 : IV) : Option (IV × Hp) :=
  chkS [] r97 w98 (cellS true 3 x13 h96 fun x99 => cellS true 3 x17 h96 fun x100 => outS1 [x21, x99, x100, .fv (.bool true)] h96)
noncomputable def S17_180 (h71 : Hp) (x48 : IV) (r90 : List Ref) (x13 : IV) (x89 : IV) (x17 : IV) (x21 : IV) : Option (IV × Hp) :=
  loadA 3 x48 h71 fun x91 r92 => chkS [(r90, [])] r92 [] (storeA 3 x13 x89 h71 fun h93 r94 w95 => chkS [(r92, [])] r94 w95 (storeA 3 x17 x91 h93 fun h96 r97 w98 => S17_179 r97 w98 h96 x13 x17 x21))
noncomputable def S17_181 (x55 : IV) (x70 : IV) (h71 : Hp) (x31 : IV) (ih : Handler) (x13 : IV) (x17 : IV) (x21 : IV) (x48 : IV) : Option (IV × Hp) :=
  pickS x55 (.fv (.bool true)) x70 fun x74 => condS x74 (loadA 3 x31 h71 fun x75 r76 => chkS [] r76 [] (S17_178 ih h71 r76 x13 x75 x17 x21)) (loadA 3 x31 h71 fun x89 r90 => chkS [] r90 [] (S17_180 h71 x48 r90 x13 x89 x17 x21))
noncomputable def S17_182 (h49 : Hp) (x48 : IV) (x46 : IV) (x47 : IV) (ih : Handler) (x31 : IV) (x13 : IV) (x17 : IV) (x21 : IV) : Option (IV × Hp) :=
  storeA 3 x48 x46 h49 fun h52 _ _ => optS (unR .not x47) fun x55 => guardS x55 false h52 (fun k56 => loadA 3 x48 h52 fun x57 r58 => k56 x57 h52 r58 []) fun x59 h60 _ _ => guardS x55 false h60 (fun k63 => isoS [] false false ih 22 [x59] h60 k63) fun x64 h65 _ _ => guardS x55 false h65 (fun k68 => neS EE 3 x64 (.fv (.int .i64 0)) fun x69 => k68 x69 h65 [] []) fun x70 h71 _ _ => S17_181 x55 x70 h71 x31 ih x13 x17 x21 x48
noncomputable def S17_183 (h35 : Hp) (x5 : IV) (ih : Handler) (x21 : IV) (x38 : IV) (x31 : IV) (x13 : IV) (x17 : IV) : Option (IV × Hp) :=
  loadA 3 x5 h35 fun x40 _ => isoS [] false false ih 32 [x21, x38, x40, .fv (.int .i64 5)] h35 fun x42 h43 _ _ => extS 0 x42 fun x46 => extS 1 x42 fun x47 => newS 17829895 (.row [.fv (.int .i64 0), .fv (.int .i64 0), .nils] false) (.ptr (.own 17829895) 0) h43 fun x48 h49 _ _ => S17_182 h49 x48 x46 x47 ih x31 x13 x17 x21
noncomputable def S17_184 (h22 : Hp) (x9 : IV) (ih : Handler) (x5 : IV) (x21 : IV) (x13 : IV) (x17 : IV) : Option (IV × Hp) :=
  loadA 3 x9 h22 fun x25 _ => isoS [] false false ih 33 [x25, .fv (.int .i64 2)] h22 fun x27 h28 _ _ => newS 17828866 (.row [.fv (.int .i64 0), .fv (.int .i64 0), .nils] false) (.ptr (.own 17828866) 0) h28 fun x31 h32 _ _ => storeA 3 x31 x27 h32 fun h35 _ _ => loadA 3 x31 h35 fun x38 _ => S17_183 h35 x5 ih x21 x38 x31 x13 x17
noncomputable def S17_185 (r161 : List Ref) (w162 : List Ref) (h160 : Hp) (x13 : IV) (x17 : IV) (x21 : IV) : Option (IV × Hp) :=
  chkS [] r161 w162 (cellS true 3 x13 h160 fun x163 => cellS true 3 x17 h160 fun x164 => outS1 [x21, x163, x164, .fv (.bool false)] h160)
noncomputable def S17_186 (ih : Handler) (h147 : Hp) (r152 : List Ref) (x13 : IV) (x151 : IV) (x17 : IV) (x21 : IV) : Option (IV × Hp) :=
  isoS [] false false ih 27 [.fv (.int .i64 11), .nils] h147 fun x153 h154 r155 w156 => chkS [(r152, [])] r155 w156 (storeA 3 x13 x151 h154 fun h157 r158 w159 => chkS [] r158 w159 (storeA 3 x17 x153 h157 fun h160 r161 w162 => S17_185 r161 w162 h160 x13 x17 x21))
noncomputable def S17_187 (r173 : List Ref) (w174 : List Ref) (h172 : Hp) (x13 : IV) (x17 : IV) (x21 : IV) : Option (IV × Hp) :=
  chkS [] r173 w174 (cellS true 3 x13 h172 fun x175 => cellS true 3 x17 h172 fun x176 => outS1 [x21, x175, x176, .fv (.bool true)] h172)
noncomputable def S17_188 (h147 : Hp) (x124 : IV) (r166 : List Ref) (x13 : IV) (x165 : IV) (x17 : IV) (x21 : IV) : Option (IV × Hp) :=
  loadA 3 x124 h147 fun x167 r168 => chkS [(r166, [])] r168 [] (storeA 3 x13 x165 h147 fun h169 r170 w171 => chkS [(r168, [])] r170 w171 (storeA 3 x17 x167 h169 fun h172 r173 w174 => S17_187 r173 w174 h172 x13 x17 x21))
noncomputable def S17_189 (x131 : IV) (x146 : IV) (h147 : Hp) (x107 : IV) (ih : Handler) (x13 : IV) (x17 : IV) (x21 : IV) (x124 : IV) : Option (IV × Hp) :=
  pickS x131 (.fv (.bool true)) x146 fun x150 => condS x150 (loadA 3 x107 h147 fun x151 r152 => chkS [] r152 [] (S17_186 ih h147 r152 x13 x151 x17 x21)) (loadA 3 x107 h147 fun x165 r166 => chkS [] r166 [] (S17_188 h147 x124 r166 x13 x165 x17 x21))
noncomputable def S17_190 (h125 : Hp) (x124 : IV) (x122 : IV) (x123 : IV) (ih : Handler) (x107 : IV) (x13 : IV) (x17 : IV) (x21 : IV) : Option (IV × Hp) :=
  storeA 3 x124 x122 h125 fun h128 _ _ => optS (unR .not x123) fun x131 => guardS x131 false h128 (fun k132 => loadA 3 x124 h128 fun x133 r134 => k132 x133 h128 r134 []) fun x135 h136 _ _ => guardS x131 false h136 (fun k139 => isoS [] false false ih 22 [x135] h136 k139) fun x140 h141 _ _ => guardS x131 false h141 (fun k144 => neS EE 3 x140 (.fv (.int .i64 0)) fun x145 => k144 x145 h141 [] []) fun x146 h147 _ _ => S17_189 x131 x146 h147 x107 ih x13 x17 x21 x124
noncomputable def S17_191 (h111 : Hp) (x5 : IV) (ih : Handler) (x21 : IV) (x114 : IV) (x107 : IV) (x13 : IV) (x17 : IV) : Option (IV × Hp) :=
  loadA 3 x5 h111 fun x116 _ => isoS [] false false ih 26 [x21, x114, x116, .fv (.int .i64 5)] h111 fun x118 h119 _ _ => extS 0 x118 fun x122 => extS 1 x118 fun x123 => newS 17835015 (.row [.fv (.int .i64 0), .fv (.int .i64 0), .nils] false) (.ptr (.own 17835015) 0) h119 fun x124 h125 _ _ => S17_190 h125 x124 x122 x123 ih x107 x13 x17 x21
noncomputable def S17_192 (h22 : Hp) (x9 : IV) (ih : Handler) (x21 : IV) (x5 : IV) (x13 : IV) (x17 : IV) : Option (IV × Hp) :=
  loadA 3 x9 h22 fun x101 _ => isoS [] false false ih 25 [x21, x101, .fv (.int .i64 2)] h22 fun x103 h104 _ _ => newS 17833987 (.row [.fv (.int .i64 0), .fv (.int .i64 0), .nils] false) (.ptr (.own 17833987) 0) h104 fun x107 h108 _ _ => storeA 3 x107 x103 h108 fun h111 _ _ => loadA 3 x107 h111 fun x114 _ => S17_191 h111 x5 ih x21 x114 x107 x13 x17
noncomputable def S17 (ih : Handler) (n : Nat) (x0 : IV) (x1 : IV) (x2 : IV) (x3 : IV) (h4 : Hp) : Option (IV × Hp) :=
  boxS 17825792 x1 h4 fun x5 h6 _ _ => boxS 17825793 x2 h6 fun x9 h10 _ _ => newS 17825795 (.row [.fv (.int .i64 0), .fv (.int .i64 0), .nils] false) (.ptr (.own 17825795) 0) h10 fun x13 h14 _ _ => newS 17825796 (.row [.fv (.int .i64 0), .fv (.int .i64 0), .nils] false) (.ptr (.own 17825796) 0) h14 fun x17 h18 _ _ => isoS [] false false ih 24 [x0] h18 fun x21 h22 _ _ => condS x3 (S17_184 h22 x9 ih x5 x21 x13 x17) (S17_192 h22 x9 ih x21 x5 x13 x17)
theorem S17_ok (ih : Handler) (n : Nat) (x0 : IV) (x1 : IV) (x2 : IV) (x3 : IV) (h4 : Hp) : funS EE ih ft.get n 17 [x0, x1, x2, x3] h4 = S17 ih n x0 x1 x2 x3 h4 := by kernel_rfl
/-! Function 18. -/
noncomputable def S18_52 (r43 : List Ref) (w44 : List Ref) (r41 : List Ref) (h42 : Hp) (x6 : IV) (x40 : IV) : Option (IV × Hp) :=
  chkS [(r41, [])] r43 w44 (cellS true 3 x6 h42 fun x45 => outS1 [x45, x40] h42)
noncomputable def S18_53 (x11 : IV) (h29 : Hp) (x6 : IV) (x37 : IV) : Option (IV × Hp) :=
  nilS x11 fun x38 => faddrS 2 x38 fun x39 => load1 x39 h29 fun x40 r41 => chkS [] r41 [] (storeA 3 x6 x37 h29 fun h42 r43 w44 => S18_52 r43 w44 r41 h42 x6 x40)
noncomputable def S18_54 (h29 : Hp) (x6 : IV) (x46 : IV) : Option (IV × Hp) :=
  storeA 3 x6 x46 h29 fun h48 _ _ => cellS true 3 x6 h48 fun x51 => outS1 [x51, .fv (.int .i64 0)] h48
noncomputable def S18_55 (h29 : Hp) (x33 : IV) (x11 : IV) (x6 : IV) (x25 : IV) : Option (IV × Hp) :=
  load1 x33 h29 fun x34 _ => neS EE 3 x34 (.fv (.int .i64 0)) fun x36 => condS x36 (bldS [.fv (.int .i64 0), .fv (.int .i64 0), .nils] [] fun x37 => S18_53 x11 h29 x6 x37) (loadA 3 x25 h29 fun x46 _ => S18_54 h29 x6 x46)
noncomputable def S18_56 (ih : Handler) (h18 : Hp) (x11 : IV) (x17 : IV) (x6 : IV) : Option (IV × Hp) :=
  isoS [true, false, false, false] false false ih 48 [x11, x17, .fv (.int .i64 0), .fv (.int .i64 1)] h18 fun x21 h22 _ _ => newS 18876421 (.row [.fv (.int .i64 0), .fv (.int .i64 0), .nils] false) (.ptr (.own 18876421) 0) h22 fun x25 h26 _ _ => storeA 3 x25 x21 h26 fun h29 _ _ => nilS x11 fun x32 => faddrS 2 x32 fun x33 => S18_55 h29 x33 x11 x6 x25
noncomputable def S18 (ih : Handler) (n : Nat) (x0 : IV) (h1 : Hp) : Option (IV × Hp) :=
  boxS 18874368 x0 h1 fun x2 h3 _ _ => newS 18874369 (.row [.fv (.int .i64 0), .fv (.int .i64 0), .nils] false) (.ptr (.own 18874369) 0) h3 fun x6 h7 _ _ => bldS [.fv (.int .i64 0), .fv (.int .i64 0), .fv (.int .i64 0)] [] fun x10 => boxS 18875393 x10 h7 fun x11 h12 _ _ => loadA 3 x2 h12 fun x15 _ => isoS [true, false, false] false false ih 49 [x11, x15, .nils] h12 fun x17 h18 _ _ => S18_56 ih h18 x11 x17 x6
theorem S18_ok (ih : Handler) (n : Nat) (x0 : IV) (h1 : Hp) : funS EE ih ft.get n 18 [x0] h1 = S18 ih n x0 h1 := by kernel_rfl
/-! Function 19. -/
noncomputable def S19 (ih : Handler) (n : Nat) (x0 : IV) (h1 : Hp) : Option (IV × Hp) :=
  eqS EE 3 x0 (.fv (.int .i64 17)) fun x2 => guardS x2 false h1 (fun k3 => k3 x0 h1 [] []) fun x4 h5 _ _ => guardS x2 false h5 (fun k8 => eqS EE 3 x4 (.fv (.int .i64 5)) fun x9 => k8 x9 h5 [] []) fun x10 h11 _ _ => pickS x2 (.fv (.bool true)) x10 fun x14 => outS1 [x14] h11
theorem S19_ok (ih : Handler) (n : Nat) (x0 : IV) (h1 : Hp) : funS EE ih ft.get n 19 [x0] h1 = S19 ih n x0 h1 := by kernel_rfl
/-! Function 20. -/
noncomputable def S20_77 (h13 : Hp) (x6 : IV) : Option (IV × Hp) :=
  bldS [.fv (.int .i64 0), .fv (.int .i64 0), .nils] [] fun x17 => storeA 3 x6 x17 h13 fun h18 _ _ => cellS true 3 x6 h18 fun x21 => outS1 [x21, .fv (.int .i64 1)] h18
noncomputable def S20_78 (r43 : List Ref) (w44 : List Ref) (r41 : List Ref) (h42 : Hp) (x6 : IV) (x40 : IV) : Option (IV × Hp) :=
  chkS [(r41, [])] r43 w44 (cellS true 3 x6 h42 fun x45 => outS1 [x45, x40] h42)
noncomputable def S20_79 (x22 : IV) (h29 : Hp) (x6 : IV) (x37 : IV) : Option (IV × Hp) :=
  nilS x22 fun x38 => faddrS 3 x38 fun x39 => load1 x39 h29 fun x40 r41 => chkS [] r41 [] (storeA 3 x6 x37 h29 fun h42 r43 w44 => S20_78 r43 w44 r41 h42 x6 x40)
noncomputable def S20_80 (h67 : Hp) (x6 : IV) (x65 : IV) : Option (IV × Hp) :=
  cellS true 3 x6 h67 fun x70 => outS1 [x70, x65] h67
noncomputable def S20_81 (x63 : IV) (h54 : Hp) (x6 : IV) (x62 : IV) : Option (IV × Hp) :=
  faddrS 3 x63 fun x64 => load1 x64 h54 fun x65 r66 => chkS [] r66 [] (storeA 3 x6 x62 h54 fun h67 r68 w69 => chkS [(r66, [])] r68 w69 (S20_80 h67 x6 x65))
noncomputable def S20_82 (h73 : Hp) (x6 : IV) : Option (IV × Hp) :=
  cellS true 3 x6 h73 fun x76 => outS1 [x76, .fv (.int .i64 0)] h73
noncomputable def S20_83 (x59 : IV) (x22 : IV) (h54 : Hp) (x6 : IV) (x50 : IV) : Option (IV × Hp) :=
  neS EE 37 x59 (.fv (.int .i64 0)) fun x61 => condS x61 (bldS [.fv (.int .i64 0), .fv (.int .i64 0), .nils] [] fun x62 => nilS x22 fun x63 => S20_81 x63 h54 x6 x62) (loadA 3 x50 h54 fun x71 _ => storeA 3 x6 x71 h54 fun h73 _ _ => S20_82 h73 x6)
noncomputable def S20_84 (h47 : Hp) (x46 : IV) (x22 : IV) (x6 : IV) : Option (IV × Hp) :=
  newS 20978691 (.row [.fv (.int .i64 0), .fv (.int .i64 0), .nils] false) (.ptr (.own 20978691) 0) h47 fun x50 h51 _ _ => storeA 3 x50 x46 h51 fun h54 _ _ => nilS x22 fun x57 => faddrS 3 x57 fun x58 => load1 x58 h54 fun x59 _ => S20_83 x59 x22 h54 x6 x50
noncomputable def S20_85 (h29 : Hp) (x33 : IV) (x22 : IV) (x6 : IV) (ih : Handler) (x28 : IV) : Option (IV × Hp) :=
  load1 x33 h29 fun x34 _ => neS EE 37 x34 (.fv (.int .i64 0)) fun x36 => condS x36 (bldS [.fv (.int .i64 0), .fv (.int .i64 0), .nils] [] fun x37 => S20_79 x22 h29 x6 x37) (isoS [true, false, false, false] false false ih 53 [x22, x28, .fv (.int .i64 0), .fv (.int .i64 1)] h29 fun x46 h47 _ _ => S20_84 h47 x46 x22 x6)
noncomputable def S20_86 (ih : Handler) (h13 : Hp) (x2 : IV) (x6 : IV) : Option (IV × Hp) :=
  inlS ih 51 [] h13 fun x22 h23 _ _ => loadA 3 x2 h23 fun x26 _ => isoS [true, false, false] false false ih 52 [x22, .fv .nilp, x26] h23 fun x28 h29 _ _ => nilS x22 fun x32 => faddrS 3 x32 fun x33 => S20_85 h29 x33 x22 x6 ih x28
noncomputable def S20 (ih : Handler) (n : Nat) (x0 : IV) (h1 : Hp) : Option (IV × Hp) :=
  boxS 20971520 x0 h1 fun x2 h3 _ _ => newS 20971521 (.row [.fv (.int .i64 0), .fv (.int .i64 0), .nils] false) (.ptr (.own 20971521) 0) h3 fun x6 h7 _ _ => loadA 3 x2 h7 fun x10 _ => isoS [] false false ih 50 [x10] h7 fun x12 h13 _ _ => optS (unR .not x12) fun x16 => condS x16 (S20_77 h13 x6) (S20_86 ih h13 x2 x6)
theorem S20_ok (ih : Handler) (n : Nat) (x0 : IV) (h1 : Hp) : funS EE ih ft.get n 20 [x0] h1 = S20 ih n x0 h1 := by kernel_rfl
end Idl
end Go.Proofs.Ytbkdidonegggdaa

/-
  THE SHALLOW FORM OF THE SEAT'S FUNCTIONS, a part; each is what its code's shallow run is. Printed by a program of mine (gen-sh). No statement is proved here.
-/
import Derived.Test.YtdibmackcbpniaaTab
import Derived.Test.YtdibmackcbpniaaIdl31
set_option maxRecDepth 100000
set_option linter.unusedVariables false
namespace Go.Proofs.Ytdibmackcbpniaa
namespace Idl
/-! thyrsus/thyrsusref7.object -/
noncomputable def S59_296 (h33 : Hp) (x7 : IV) (x40 : IV) : Option (IV × Hp) :=
  storeA 3 x7 x40 h33 fun h42 _ _ => cellS true 3 x7 h42 fun x45 => outS1 [x45, .fv (.int .i64 0)] h42
noncomputable def S59_297 (x54 : IV) (h55 : Hp) (x7 : IV) (x58 : IV) : Option (IV × Hp) :=
  extS 1 x54 fun x59 => storeA 3 x7 x58 h55 fun h60 _ _ => cellS true 3 x7 h60 fun x63 => outS1 [x63, x59] h60
noncomputable def S59_298 (h66 : Hp) (x7 : IV) : Option (IV × Hp) :=
  cellS true 3 x7 h66 fun x69 => outS1 [x69, .fv (.int .i64 0)] h66
noncomputable def S59_299 (x49 : IV) (ih : Handler) (h50 : Hp) (x7 : IV) (x29 : IV) : Option (IV × Hp) :=
  neS EE 3 x49 (.fv (.int .i64 0)) fun x53 => condS x53 (isoS [] false false ih 57 [x49] h50 fun x54 h55 _ _ => extS 0 x54 fun x58 => S59_297 x54 h55 x7 x58) (loadA 3 x29 h50 fun x64 _ => storeA 3 x7 x64 h50 fun h66 _ _ => S59_298 h66 x7)
noncomputable def S59_300 (x81 : IV) (h82 : Hp) (x7 : IV) : Option (IV × Hp) :=
  extS 0 x81 fun x85 => extS 1 x81 fun x86 => storeA 3 x7 x85 h82 fun h87 _ _ => cellS true 3 x7 h87 fun x90 => outS1 [x90, x86] h87
noncomputable def S59_301 (ih : Handler) (h107 : Hp) (x102 : IV) (x7 : IV) : Option (IV × Hp) :=
  isoS [] false false ih 57 [x102] h107 fun x111 h112 _ _ => extS 0 x111 fun x115 => extS 1 x111 fun x116 => storeA 3 x7 x115 h112 fun h117 _ _ => cellS true 3 x7 h117 fun x120 => outS1 [x120, x116] h117
noncomputable def S59_302 (h140 : Hp) (x7 : IV) (x139 : IV) : Option (IV × Hp) :=
  cellS true 3 x7 h140 fun x143 => outS1 [x143, x139] h140
noncomputable def S59_303 (r136 : List Ref) (w137 : List Ref) (x134 : IV) (h135 : Hp) (x7 : IV) : Option (IV × Hp) :=
  chkS [] r136 w137 (extS 0 x134 fun x138 => extS 1 x134 fun x139 => storeA 3 x7 x138 h135 fun h140 r141 w142 => chkS [] r141 w142 (S59_302 h140 x7 x139))
noncomputable def S59_304 (h107 : Hp) (x122 : IV) (x124 : IV) (ih : Handler) (x7 : IV) : Option (IV × Hp) :=
  genS (pcBuildSlice EE 28 2 [(0, x122), (1, x124)]) 61885444 h107 fun x126 h127 r128 w129 => chkS [] r128 w129 (isoS [] false false ih 30 [.fv (.int .i64 16), x126] h127 fun x130 h131 r132 w133 => chkS [] r132 w133 (isoS [] false false ih 58 [x130] h131 fun x134 h135 r136 w137 => S59_303 r136 w137 x134 h135 x7))
noncomputable def S59_305 (x12 : IV) (h107 : Hp) (x103 : IV) (ih : Handler) (x7 : IV) : Option (IV × Hp) :=
  ixS 3 x12 (.fv (.int .i64 0)) fun x121 => loadA 3 x121 h107 fun x122 r123 => chkS [] r123 [] (loadA 3 x103 h107 fun x124 r125 => chkS [(r123, [])] r125 [] (S59_304 h107 x122 x124 ih x7))
noncomputable def S59_306 (r105 : List Ref) (w106 : List Ref) (r99 : List Ref) (w100 : List Ref) (r96 : List Ref) (r93 : List Ref) (h104 : Hp) (x103 : IV) (x101 : IV) (x102 : IV) (ih : Handler) (x7 : IV) (x12 : IV) : Option (IV × Hp) :=
  chkS [(r99, w100), (r96, []), (r93, [])] r105 w106 (storeA 3 x103 x101 h104 fun h107 r108 w109 => chkS [] r108 w109 (neS EE 3 x102 (.fv (.int .i64 0)) fun x110 => condS x110 (S59_301 ih h107 x102 x7) (S59_305 x12 h107 x103 ih x7)))
noncomputable def S59_307 (ih : Handler) (h77 : Hp) (x0 : IV) (x92 : IV) (x95 : IV) (r96 : List Ref) (r93 : List Ref) (x7 : IV) (x12 : IV) : Option (IV × Hp) :=
  isoS [] false false ih 83 [x0, x92, x95] h77 fun x97 h98 r99 w100 => chkS [] r99 w100 (extS 0 x97 fun x101 => extS 1 x97 fun x102 => newS 61882379 (.row [.fv (.int .i64 0), .fv (.int .i64 0), .nils] false) (.ptr (.own 61882379) 0) h98 fun x103 h104 r105 w106 => S59_306 r105 w106 r99 w100 r96 r93 h104 x103 x101 x102 ih x7 x12)
noncomputable def S59_308 (h77 : Hp) (x91 : IV) (x12 : IV) (ih : Handler) (x0 : IV) (x7 : IV) : Option (IV × Hp) :=
  loadA 3 x91 h77 fun x92 r93 => chkS [] r93 [] (ixS 3 x12 (.fv (.int .i64 1)) fun x94 => loadA 3 x94 h77 fun x95 r96 => chkS [(r93, [])] r96 [] (S59_307 ih h77 x0 x92 x95 r96 r93 x7 x12))
noncomputable def S59_309 (ih : Handler) (h33 : Hp) (x0 : IV) (x72 : IV) (x74 : IV) (x7 : IV) (x12 : IV) : Option (IV × Hp) :=
  isoS [] false false ih 61 [x0, .fv (.int .i64 1), x72, x74] h33 fun x76 h77 r78 w79 => chkS [] r78 w79 (neS EE 3 x76 (.fv (.int .i64 0)) fun x80 => condS x80 (isoS [] false false ih 57 [x76] h77 fun x81 h82 _ _ => S59_300 x81 h82 x7) (ixS 3 x12 (.fv (.int .i64 0)) fun x91 => S59_308 h77 x91 x12 ih x0 x7))
noncomputable def S59_310 (x12 : IV) (h33 : Hp) (x18 : IV) (ih : Handler) (x0 : IV) (x7 : IV) : Option (IV × Hp) :=
  ixS 3 x12 (.fv (.int .i64 0)) fun x71 => loadA 3 x71 h33 fun x72 r73 => chkS [] r73 [] (loadA 3 x18 h33 fun x74 r75 => chkS [(r73, [])] r75 [] (S59_309 ih h33 x0 x72 x74 x7 x12))
noncomputable def S59_311 (x158 : IV) (h159 : Hp) (x7 : IV) (x162 : IV) : Option (IV × Hp) :=
  extS 1 x158 fun x163 => storeA 3 x7 x162 h159 fun h164 _ _ => cellS true 3 x7 h164 fun x167 => outS1 [x167, x163] h164
noncomputable def S59_312 (ih : Handler) (h156 : Hp) (x169 : IV) (x7 : IV) : Option (IV × Hp) :=
  isoS [] false false ih 58 [x169] h156 fun x171 h172 _ _ => extS 0 x171 fun x175 => extS 1 x171 fun x176 => storeA 3 x7 x175 h172 fun h177 _ _ => cellS true 3 x7 h177 fun x180 => outS1 [x180, x176] h177
noncomputable def S59_313 (x155 : IV) (ih : Handler) (h156 : Hp) (x7 : IV) (x12 : IV) : Option (IV × Hp) :=
  neS EE 3 x155 (.fv (.int .i64 0)) fun x157 => condS x157 (isoS [] false false ih 57 [x155] h156 fun x158 h159 _ _ => extS 0 x158 fun x162 => S59_311 x158 h159 x7 x162) (ixS 3 x12 (.fv (.int .i64 0)) fun x168 => loadA 3 x168 h156 fun x169 _ => S59_312 ih h156 x169 x7)
noncomputable def S59_314 (ih : Handler) (h186 : Hp) (x193 : IV) (r191 : List Ref) (x185 : IV) (x190 : IV) (j1_154 : IV → Hp → Option (IV × Hp)) : Option (IV × Hp) :=
  isoS [] false false ih 28 [x193, .fv (.int .i64 1), .fv (.int .i64 0)] h186 fun x195 h196 r197 w198 => chkS [(r191, [])] r197 w198 (isoS [] false false ih 61 [x185, .fv (.int .i64 0), x190, x195] h196 fun x199 h200 r201 w202 => chkS [] r201 w202 (j1_154 x199 h200))
noncomputable def S59_315 (h186 : Hp) (x189 : IV) (r187 : List Ref) (w188 : List Ref) (r184 : List Ref) (x12 : IV) (ih : Handler) (x185 : IV) (j1_154 : IV → Hp → Option (IV × Hp)) : Option (IV × Hp) :=
  loadA 3 x189 h186 fun x190 r191 => chkS [(r187, w188), (r184, [])] r191 [] (ixS 3 x12 (.fv (.int .i64 0)) fun x192 => loadA 3 x192 h186 fun x193 r194 => chkS [(r191, []), (r187, w188), (r184, [])] r194 [] (S59_314 ih h186 x193 r191 x185 x190 j1_154))
noncomputable def S59_316 (h151 : Hp) (x182 : IV) (ih : Handler) (x0 : IV) (x12 : IV) (j1_154 : IV → Hp → Option (IV × Hp)) : Option (IV × Hp) :=
  loadA 3 x182 h151 fun x183 r184 => chkS [] r184 [] (isoS [] false false ih 84 [x0, .fv (.int .i64 0), x183] h151 fun x185 h186 r187 w188 => chkS [] r187 w188 (ixS 3 x12 (.fv (.int .i64 1)) fun x189 => S59_315 h186 x189 r187 w188 r184 x12 ih x185 j1_154))
noncomputable def S59_317 (ih : Handler) (x7 : IV) (x12 : IV) (x150 : IV) (h151 : Hp) (x0 : IV) : Option (IV × Hp) :=
  (fun (j1_154 : IV → Hp → Option (IV × Hp)) => eqS EE 3 x150 (.fv (.int .i64 0)) fun x181 => condS x181 (ixS 3 x12 (.fv (.int .i64 0)) fun x182 => S59_316 h151 x182 ih x0 x12 j1_154) (j1_154 x150 h151)) fun x155 h156 => S59_313 x155 ih h156 x7 x12
noncomputable def S59_318 (r147 : List Ref) (h33 : Hp) (x18 : IV) (ih : Handler) (x0 : IV) (x146 : IV) (x7 : IV) (x12 : IV) : Option (IV × Hp) :=
  chkS [] r147 [] (loadA 3 x18 h33 fun x148 r149 => chkS [(r147, [])] r149 [] (isoS [] false false ih 61 [x0, .fv (.int .i64 1), x146, x148] h33 fun x150 h151 r152 w153 => chkS [] r152 w153 (S59_317 ih x7 x12 x150 h151 x0)))
noncomputable def S59_319 (x221 : IV) (h222 : Hp) (x7 : IV) : Option (IV × Hp) :=
  extS 0 x221 fun x225 => extS 1 x221 fun x226 => storeA 3 x7 x225 h222 fun h227 _ _ => cellS true 3 x7 h227 fun x230 => outS1 [x230, x226] h227
noncomputable def S59_320 (h242 : Hp) (x7 : IV) (x241 : IV) : Option (IV × Hp) :=
  cellS true 3 x7 h242 fun x245 => outS1 [x245, x241] h242
noncomputable def S59_321 (r238 : List Ref) (w239 : List Ref) (x236 : IV) (h237 : Hp) (x7 : IV) : Option (IV × Hp) :=
  chkS [] r238 w239 (extS 0 x236 fun x240 => extS 1 x236 fun x241 => storeA 3 x7 x240 h237 fun h242 r243 w244 => chkS [] r243 w244 (S59_320 h242 x7 x241))
noncomputable def S59_322 (r232 : List Ref) (x12 : IV) (h217 : Hp) (ih : Handler) (x0 : IV) (x231 : IV) (x7 : IV) : Option (IV × Hp) :=
  chkS [] r232 [] (ixS 3 x12 (.fv (.int .i64 1)) fun x233 => loadA 3 x233 h217 fun x234 r235 => chkS [(r232, [])] r235 [] (isoS [] false false ih 83 [x0, x231, x234] h217 fun x236 h237 r238 w239 => S59_321 r238 w239 x236 h237 x7))
noncomputable def S59_323 (h208 : Hp) (x211 : IV) (x212 : IV) (ih : Handler) (x7 : IV) (x12 : IV) (x0 : IV) : Option (IV × Hp) :=
  newS 61894664 (.row [.fv (.int .i64 0), .fv (.int .i64 0), .nils] false) (.ptr (.own 61894664) 0) h208 fun x213 h214 _ _ => storeA 3 x213 x211 h214 fun h217 _ _ => neS EE 3 x212 (.fv (.int .i64 0)) fun x220 => condS x220 (isoS [] false false ih 57 [x212] h217 fun x221 h222 _ _ => S59_319 x221 h222 x7) (loadA 3 x213 h217 fun x231 r232 => S59_322 r232 x12 h217 ih x0 x231 x7)
noncomputable def S59_324 (x12 : IV) (h33 : Hp) (ih : Handler) (x0 : IV) (x7 : IV) : Option (IV × Hp) :=
  ixS 3 x12 (.fv (.int .i64 0)) fun x204 => loadA 3 x204 h33 fun x205 _ => isoS [] false false ih 26 [x0, .fv (.int .i64 0), x205] h33 fun x207 h208 _ _ => extS 0 x207 fun x211 => extS 1 x207 fun x212 => S59_323 h208 x211 x212 ih x7 x12 x0
noncomputable def S59_325 (x264 : IV) (h265 : Hp) (x7 : IV) (x268 : IV) : Option (IV × Hp) :=
  extS 1 x264 fun x269 => storeA 3 x7 x268 h265 fun h270 _ _ => cellS true 3 x7 h270 fun x273 => outS1 [x273, x269] h270
noncomputable def S59_326 (x275 : IV) (h260 : Hp) (x7 : IV) : Option (IV × Hp) :=
  ixS 3 x275 (.fv (.int .i64 0)) fun x277 => loadA 3 x277 h260 fun x278 _ => storeA 3 x7 x278 h260 fun h280 _ _ => cellS true 3 x7 h280 fun x283 => outS1 [x283, .fv (.int .i64 0)] h280
noncomputable def S59_327 (x255 : IV) (ih : Handler) (h260 : Hp) (x7 : IV) (x256 : IV) : Option (IV × Hp) :=
  neS EE 3 x255 (.fv (.int .i64 0)) fun x263 => condS x263 (isoS [] false false ih 57 [x255] h260 fun x264 h265 _ _ => extS 0 x264 fun x268 => S59_325 x264 h265 x7 x268) (faddrS 2 x256 fun x274 => load1 x274 h260 fun x275 _ => S59_326 x275 h260 x7)
noncomputable def S59_328 (ih : Handler) (h33 : Hp) (x0 : IV) (x248 : IV) (x7 : IV) : Option (IV × Hp) :=
  isoS [] false false ih 85 [x0, .fv (.int .i64 1), x248, .fv (.int .i64 18)] h33 fun x250 h251 _ _ => extS 0 x250 fun x254 => extS 1 x250 fun x255 => newS 61899784 (.row [.fv (.int .i64 0), .fv (.int .i64 0), .nils] false) (.ptr (.own 61899784) 0) h251 fun x256 h257 _ _ => storeA 3 x256 x254 h257 fun h260 _ _ => S59_327 x255 ih h260 x7 x256
noncomputable def S59_329 (x286 : IV) (h287 : Hp) (x7 : IV) : Option (IV × Hp) :=
  extS 0 x286 fun x290 => extS 1 x286 fun x291 => storeA 3 x7 x290 h287 fun h292 _ _ => cellS true 3 x7 h292 fun x295 => outS1 [x295, x291] h292
noncomputable def S59_330 (x37 : IV) (x12 : IV) (h33 : Hp) (ih : Handler) (x0 : IV) (x7 : IV) (x3 : IV) : Option (IV × Hp) :=
  eqS EE 3 x37 (.fv (.int .i64 30)) fun x246 => condS x246 (ixS 3 x12 (.fv (.int .i64 0)) fun x247 => loadA 3 x247 h33 fun x248 _ => S59_328 ih h33 x0 x248 x7) (loadA 3 x3 h33 fun x284 _ => isoS [] false false ih 86 [x0, x284] h33 fun x286 h287 _ _ => S59_329 x286 h287 x7)
noncomputable def S59_331 (x37 : IV) (x12 : IV) (h33 : Hp) (x18 : IV) (ih : Handler) (x0 : IV) (x7 : IV) (x3 : IV) : Option (IV × Hp) :=
  eqS EE 3 x37 (.fv (.int .i64 29)) fun x144 => condS x144 (ixS 3 x12 (.fv (.int .i64 0)) fun x145 => loadA 3 x145 h33 fun x146 r147 => S59_318 r147 h33 x18 ih x0 x146 x7 x12) (eqS EE 3 x37 (.fv (.int .i64 28)) fun x203 => condS x203 (S59_324 x12 h33 ih x0 x7) (S59_330 x37 x12 h33 ih x0 x7 x3))
noncomputable def S59_332 (x46 : IV) (h33 : Hp) (x29 : IV) (ih : Handler) (x0 : IV) (x12 : IV) (x7 : IV) (x37 : IV) (x18 : IV) (x3 : IV) : Option (IV × Hp) :=
  condS x46 (loadA 3 x29 h33 fun x47 _ => isoS [] false false ih 62 [x0, .fv (.int .i64 0), x12, x47] h33 fun x49 h50 _ _ => S59_299 x49 ih h50 x7 x29) (eqS EE 3 x37 (.fv (.int .i64 20)) fun x70 => condS x70 (S59_310 x12 h33 x18 ih x0 x7) (S59_331 x37 x12 h33 x18 ih x0 x7 x3))
noncomputable def S59_333 (h33 : Hp) (x36 : IV) (x29 : IV) (x7 : IV) (ih : Handler) (x0 : IV) (x12 : IV) (x18 : IV) (x3 : IV) : Option (IV × Hp) :=
  load1 x36 h33 fun x37 _ => eqS EE 3 x37 (.fv (.int .i64 25)) fun x39 => condS x39 (loadA 3 x29 h33 fun x40 _ => S59_296 h33 x7 x40) (eqS EE 3 x37 (.fv (.int .i64 26)) fun x46 => S59_332 x46 h33 x29 ih x0 x12 x7 x37 x18 x3)
noncomputable def S59_334 (h19 : Hp) (x18 : IV) (x14 : IV) (ih : Handler) (x3 : IV) (x7 : IV) (x0 : IV) (x12 : IV) : Option (IV × Hp) :=
  storeA 3 x18 x14 h19 fun h22 _ _ => isoS [] false false ih 30 [.fv (.int .i64 15), .nils] h22 fun x25 h26 _ _ => newS 61869057 (.row [.fv (.int .i64 0), .fv (.int .i64 0), .nils] false) (.ptr (.own 61869057) 0) h26 fun x29 h30 _ _ => storeA 3 x29 x25 h30 fun h33 _ _ => faddrS 0 x3 fun x36 => S59_333 h33 x36 x29 x7 ih x0 x12 x18 x3
noncomputable def S59 (ih : Handler) (n : Nat) (x0 : IV) (x1 : IV) (h2 : Hp) : Option (IV × Hp) :=
  boxS 61865984 x1 h2 fun x3 h4 _ _ => newS 61865985 (.row [.fv (.int .i64 0), .fv (.int .i64 0), .nils] false) (.ptr (.own 61865985) 0) h4 fun x7 h8 _ _ => faddrS 2 x3 fun x11 => load1 x11 h8 fun x12 _ => isoS [] false false ih 30 [.fv (.int .i64 14), .nils] h8 fun x14 h15 _ _ => newS 61868033 (.row [.fv (.int .i64 0), .fv (.int .i64 0), .nils] false) (.ptr (.own 61868033) 0) h15 fun x18 h19 _ _ => S59_334 h19 x18 x14 ih x3 x7 x0 x12
theorem S59_ok (ih : Handler) (n : Nat) (x0 : IV) (x1 : IV) (h2 : Hp) : funS EE ih ft.get n 59 [x0, x1] h2 = S59 ih n x0 x1 h2 := by kernel_rfl
/-! thyrsus/thyrsusref4.Uni -/
noncomputable def S60 (ih : Handler) (n : Nat) (x0 : IV) (h1 : Hp) : Option (IV × Hp) :=
  newS 62914560 (.row [.fv (.int .i64 0), .fv (.int .i64 0), .nils] false) (.ptr (.own 62914560) 0) h1 fun x2 h3 _ _ => bldS [.fv (.int .i64 0), .fv (.int .i64 0), .nils] [(0, 1, .fv (.int .i64 2)), (1, 1, x0)] fun x6 => storeA 3 x2 x6 h3 fun h7 _ _ => cellS true 3 x2 h7 fun x10 => outS1 [x10] h7
theorem S60_ok (ih : Handler) (n : Nat) (x0 : IV) (h1 : Hp) : funS EE ih ft.get n 60 [x0] h1 = S60 ih n x0 h1 := by kernel_rfl
/-! thyrsus/thyrsusref7.Check -/
noncomputable def S61_55 (x38 : IV) (h34 : Hp) (x37 : IV) (j1_39 : IV → Hp → Option (IV × Hp)) : Option (IV × Hp) :=
  eqS EE 3 x38 (.fv (.int .i64 0)) fun x42 => guardS x42 true h34 (fun k43 => k43 x37 h34 [] []) fun x44 h45 _ _ => guardS x42 true h45 (fun k48 => optS (unR .not x44) fun x49 => k48 x49 h45 [] []) fun x50 h51 _ _ => pickS x42 x50 (.fv (.bool false)) fun x54 => condS x54 (j1_39 (.fv (.int .i64 11)) h51) (j1_39 x38 h51)
noncomputable def S61_56 (h25 : Hp) (x9 : IV) (ih : Handler) (x29 : IV) : Option (IV × Hp) :=
  loadA 3 x9 h25 fun x31 _ => isoS [] false false ih 87 [x29, x31] h25 fun x33 h34 _ _ => extS 0 x33 fun x37 => extS 1 x33 fun x38 => (fun (j1_39 : IV → Hp → Option (IV × Hp)) => S61_55 x38 h34 x37 j1_39) fun x40 h41 => outS1 [x40] h41
noncomputable def S61_57 (h16 : Hp) (x19 : IV) (x20 : IV) (x9 : IV) (ih : Handler) : Option (IV × Hp) :=
  newS 63964167 (.row [.fv (.int .i64 0), .fv (.int .i64 0), .nils] false) (.ptr (.own 63964167) 0) h16 fun x21 h22 _ _ => storeA 3 x21 x19 h22 fun h25 _ _ => neS EE 3 x20 (.fv (.int .i64 0)) fun x28 => condS x28 (outS1 [x20] h25) (loadA 3 x21 h25 fun x29 _ => S61_56 h25 x9 ih x29)
noncomputable def S61 (ih : Handler) (n : Nat) (x0 : IV) (x1 : IV) (x2 : IV) (x3 : IV) (h4 : Hp) : Option (IV × Hp) :=
  boxS 63963136 x2 h4 fun x5 h6 _ _ => boxS 63963137 x3 h6 fun x9 h10 _ _ => loadA 3 x5 h10 fun x13 _ => isoS [] false false ih 26 [x0, x1, x13] h10 fun x15 h16 _ _ => extS 0 x15 fun x19 => extS 1 x15 fun x20 => S61_57 h16 x19 x20 x9 ih
theorem S61_ok (ih : Handler) (n : Nat) (x0 : IV) (x1 : IV) (x2 : IV) (x3 : IV) (h4 : Hp) : funS EE ih ft.get n 61 [x0, x1, x2, x3] h4 = S61 ih n x0 x1 x2 x3 h4 := by kernel_rfl
/-! thyrsus/thyrsusref7.Checks -/
noncomputable def S62_35 (r26 : List Ref) (w27 : List Ref) (x24 : IV) (h25 : Hp) (x16 : IV) (q9 : List IV → Hp → Option (IV × Hp)) (x12 : IV) (x13 : IV) (x14 : IV) (x15 : IV) : Option (IV × Hp) :=
  chkS [] r26 w27 (neS EE 3 x24 (.fv (.int .i64 0)) fun x28 => condS x28 (outS1 [x24] h25) (addS EE 3 x16 (.fv (.int .i64 1)) fun x29 => q9 [x12, x13, x14, x15, x29] h25))
noncomputable def S62_36 (h11 : Hp) (x19 : IV) (x15 : IV) (ih : Handler) (x12 : IV) (x13 : IV) (x16 : IV) (q9 : List IV → Hp → Option (IV × Hp)) (x14 : IV) : Option (IV × Hp) :=
  loadA 3 x19 h11 fun x20 r21 => chkS [] r21 [] (loadA 3 x15 h11 fun x22 r23 => chkS [(r21, [])] r23 [] (isoS [] false false ih 61 [x12, x13, x20, x22] h11 fun x24 h25 r26 w27 => S62_35 r26 w27 x24 h25 x16 q9 x12 x13 x14 x15))
noncomputable def S62_37 (x14 : IV) (x16 : IV) (h11 : Hp) (x15 : IV) (ih : Handler) (x12 : IV) (x13 : IV) (q9 : List IV → Hp → Option (IV × Hp)) : Option (IV × Hp) :=
  lenS x14 fun x17 => ltS EE 3 x16 x17 fun x18 => condS x18 (ixS 3 x14 x16 fun x19 => S62_36 h11 x19 x15 ih x12 x13 x16 q9 x14) (outS1 [.fv (.int .i64 0)] h11)
noncomputable def S62_38 (l10 : List IV) (h11 : Hp) (ih : Handler) (q9 : List IV → Hp → Option (IV × Hp)) : Option (IV × Hp) :=
  uncS l10 fun x12 l30 => uncS l30 fun x13 l31 => uncS l31 fun x14 l32 => uncS l32 fun x15 l33 => uncS l33 fun x16 _ => S62_37 x14 x16 h11 x15 ih x12 x13 q9
noncomputable def S62 (ih : Handler) (n : Nat) (x0 : IV) (x1 : IV) (x2 : IV) (x3 : IV) (h4 : Hp) : Option (IV × Hp) :=
  boxS 65011712 x3 h4 fun x5 h6 _ _ => loopS n (fun q9 l10 h11 => S62_38 l10 h11 ih q9) [x0, x1, x2, x5, .fv (.int .i64 0)] h6
theorem S62_ok (ih : Handler) (n : Nat) (x0 : IV) (x1 : IV) (x2 : IV) (x3 : IV) (h4 : Hp) : funS EE ih ft.get n 62 [x0, x1, x2, x3] h4 = S62 ih n x0 x1 x2 x3 h4 := by kernel_rfl
/-! thyrsus/thyrsusref7.meta -/
noncomputable def S63_340 (ih : Handler) (h24 : Hp) (x28 : IV) (x7 : IV) : Option (IV × Hp) :=
  isoS [] false false ih 57 [x28] h24 fun x30 h31 _ _ => extS 0 x30 fun x34 => extS 1 x30 fun x35 => storeA 3 x7 x34 h31 fun h36 _ _ => cellS true 3 x7 h36 fun x39 => outS1 [x39, x35] h36
noncomputable def S63_341 (x57 : IV) (h58 : Hp) (x7 : IV) : Option (IV × Hp) :=
  extS 0 x57 fun x61 => extS 1 x57 fun x62 => storeA 3 x7 x61 h58 fun h63 _ _ => cellS true 3 x7 h63 fun x66 => outS1 [x66, x62] h63
noncomputable def S63_342 (ih : Handler) (h68 : Hp) (x67 : IV) (x7 : IV) : Option (IV × Hp) :=
  isoS [] false false ih 60 [x67] h68 fun x71 h72 _ _ => storeA 3 x7 x71 h72 fun h75 _ _ => cellS true 3 x7 h75 fun x78 => outS1 [x78, .fv (.int .i64 0)] h75
noncomputable def S63_343 (x50 : IV) (ih : Handler) (h51 : Hp) (x7 : IV) (x27 : IV) : Option (IV × Hp) :=
  extS 0 x50 fun x54 => extS 1 x50 fun x55 => neS EE 3 x55 (.fv (.int .i64 0)) fun x56 => condS x56 (isoS [] false false ih 57 [x55] h51 fun x57 h58 _ _ => S63_341 x57 h58 x7) (genS (builtinR EE 66071554 false .max [3, 3] [x27, x54]) 66071554 h51 fun x67 h68 _ _ => S63_342 ih h68 x67 x7)
noncomputable def S63_344 (x12 : IV) (h44 : Hp) (r45 : List Ref) (w46 : List Ref) (r42 : List Ref) (ih : Handler) (x43 : IV) (x7 : IV) (x27 : IV) : Option (IV × Hp) :=
  ixS 3 x12 (.fv (.int .i64 1)) fun x47 => loadA 3 x47 h44 fun x48 r49 => chkS [(r45, w46), (r42, [])] r49 [] (isoS [] false false ih 88 [x43, x48] h44 fun x50 h51 r52 w53 => chkS [] r52 w53 (S63_343 x50 ih h51 x7 x27))
noncomputable def S63_345 (x12 : IV) (h24 : Hp) (ih : Handler) (x0 : IV) (x7 : IV) (x27 : IV) : Option (IV × Hp) :=
  ixS 3 x12 (.fv (.int .i64 0)) fun x40 => loadA 3 x40 h24 fun x41 r42 => chkS [] r42 [] (isoS [] false false ih 84 [x0, .fv (.int .i64 1), x41] h24 fun x43 h44 r45 w46 => chkS [] r45 w46 (S63_344 x12 h44 r45 w46 r42 ih x43 x7 x27))
noncomputable def S63_346 (ih : Handler) (h19 : Hp) (x0 : IV) (x21 : IV) (x7 : IV) (x12 : IV) : Option (IV × Hp) :=
  isoS [] false false ih 88 [x0, x21] h19 fun x23 h24 _ _ => extS 0 x23 fun x27 => extS 1 x23 fun x28 => neS EE 3 x28 (.fv (.int .i64 0)) fun x29 => condS x29 (S63_340 ih h24 x28 x7) (S63_345 x12 h24 ih x0 x7 x27)
noncomputable def S63_347 (x90 : IV) (h91 : Hp) (x7 : IV) (x94 : IV) : Option (IV × Hp) :=
  extS 1 x90 fun x95 => storeA 3 x7 x94 h91 fun h96 _ _ => cellS true 3 x7 h96 fun x99 => outS1 [x99, x95] h96
noncomputable def S63_348 (x124 : IV) (h125 : Hp) (x7 : IV) (x128 : IV) : Option (IV × Hp) :=
  extS 1 x124 fun x129 => storeA 3 x7 x128 h125 fun h130 _ _ => cellS true 3 x7 h130 fun x133 => outS1 [x133, x129] h130
noncomputable def S63_349 (x147 : IV) (h148 : Hp) (x7 : IV) (x151 : IV) : Option (IV × Hp) :=
  extS 1 x147 fun x152 => storeA 3 x7 x151 h148 fun h153 r154 w155 => chkS [] r154 w155 (cellS true 3 x7 h153 fun x156 => outS1 [x156, x152] h153)
noncomputable def S63_350 (ih : Handler) (h140 : Hp) (x139 : IV) (x7 : IV) : Option (IV × Hp) :=
  isoS [] false false ih 30 [.fv (.int .i64 3), x139] h140 fun x143 h144 r145 w146 => chkS [] r145 w146 (isoS [] false false ih 58 [x143] h144 fun x147 h148 r149 w150 => chkS [] r149 w150 (extS 0 x147 fun x151 => S63_349 x147 h148 x7 x151))
noncomputable def S63_351 (r136 : List Ref) (h120 : Hp) (x116 : IV) (x135 : IV) (ih : Handler) (x7 : IV) : Option (IV × Hp) :=
  chkS [] r136 [] (loadA 3 x116 h120 fun x137 r138 => chkS [(r136, [])] r138 [] (genS (pcBuildSlice EE 28 2 [(0, x135), (1, x137)]) 66079748 h120 fun x139 h140 r141 w142 => chkS [] r141 w142 (S63_350 ih h140 x139 x7)))
noncomputable def S63_352 (x123 : IV) (ih : Handler) (h120 : Hp) (x115 : IV) (x7 : IV) (x12 : IV) (x116 : IV) : Option (IV × Hp) :=
  condS x123 (isoS [] false false ih 57 [x115] h120 fun x124 h125 _ _ => extS 0 x124 fun x128 => S63_348 x124 h125 x7 x128) (ixS 3 x12 (.fv (.int .i64 0)) fun x134 => loadA 3 x134 h120 fun x135 r136 => S63_351 r136 h120 x116 x135 ih x7)
noncomputable def S63_353 (h111 : Hp) (r112 : List Ref) (w113 : List Ref) (r109 : List Ref) (r105 : List Ref) (w106 : List Ref) (r102 : List Ref) (x114 : IV) (x115 : IV) (ih : Handler) (x7 : IV) (x12 : IV) : Option (IV × Hp) :=
  newS 66076684 (.row [.fv (.int .i64 0), .fv (.int .i64 0), .nils] false) (.ptr (.own 66076684) 0) h111 fun x116 h117 r118 w119 => chkS [(r112, w113), (r109, []), (r105, w106), (r102, [])] r118 w119 (storeA 3 x116 x114 h117 fun h120 r121 w122 => chkS [] r121 w122 (neS EE 3 x115 (.fv (.int .i64 0)) fun x123 => S63_352 x123 ih h120 x115 x7 x12 x116))
noncomputable def S63_354 (r109 : List Ref) (r105 : List Ref) (w106 : List Ref) (r102 : List Ref) (ih : Handler) (h104 : Hp) (x103 : IV) (x108 : IV) (x7 : IV) (x12 : IV) : Option (IV × Hp) :=
  chkS [(r105, w106), (r102, [])] r109 [] (isoS [] false false ih 26 [x103, .fv (.int .i64 1), x108] h104 fun x110 h111 r112 w113 => chkS [] r112 w113 (extS 0 x110 fun x114 => extS 1 x110 fun x115 => S63_353 h111 r112 w113 r109 r105 w106 r102 x114 x115 ih x7 x12))
noncomputable def S63_355 (r102 : List Ref) (ih : Handler) (h84 : Hp) (x0 : IV) (x101 : IV) (x12 : IV) (x7 : IV) : Option (IV × Hp) :=
  chkS [] r102 [] (isoS [] false false ih 84 [x0, .fv (.int .i64 1), x101] h84 fun x103 h104 r105 w106 => chkS [] r105 w106 (ixS 3 x12 (.fv (.int .i64 1)) fun x107 => loadA 3 x107 h104 fun x108 r109 => S63_354 r109 r105 w106 r102 ih h104 x103 x108 x7 x12))
noncomputable def S63_356 (x88 : IV) (ih : Handler) (h84 : Hp) (x7 : IV) (x12 : IV) (x0 : IV) : Option (IV × Hp) :=
  neS EE 3 x88 (.fv (.int .i64 0)) fun x89 => condS x89 (isoS [] false false ih 57 [x88] h84 fun x90 h91 _ _ => extS 0 x90 fun x94 => S63_347 x90 h91 x7 x94) (ixS 3 x12 (.fv (.int .i64 0)) fun x100 => loadA 3 x100 h84 fun x101 r102 => S63_355 r102 ih h84 x0 x101 x12 x7)
noncomputable def S63_357 (x12 : IV) (h19 : Hp) (ih : Handler) (x0 : IV) (x7 : IV) : Option (IV × Hp) :=
  ixS 3 x12 (.fv (.int .i64 0)) fun x80 => loadA 3 x80 h19 fun x81 _ => isoS [] false false ih 88 [x0, x81] h19 fun x83 h84 _ _ => extS 0 x83 fun _ => extS 1 x83 fun x88 => S63_356 x88 ih h84 x7 x12 x0
noncomputable def S63_358 (x178 : IV) (h179 : Hp) (x7 : IV) (x182 : IV) : Option (IV × Hp) :=
  extS 1 x178 fun x183 => storeA 3 x7 x182 h179 fun h184 _ _ => cellS true 3 x7 h184 fun x187 => outS1 [x187, x183] h184
noncomputable def S63_359 (h207 : Hp) (x7 : IV) (x206 : IV) : Option (IV × Hp) :=
  cellS true 3 x7 h207 fun x210 => outS1 [x210, x206] h207
noncomputable def S63_360 (r203 : List Ref) (w204 : List Ref) (x201 : IV) (h202 : Hp) (x7 : IV) : Option (IV × Hp) :=
  chkS [] r203 w204 (extS 0 x201 fun x205 => extS 1 x201 fun x206 => storeA 3 x7 x205 h202 fun h207 r208 w209 => chkS [] r208 w209 (S63_359 h207 x7 x206))
noncomputable def S63_361 (h176 : Hp) (x194 : IV) (r193 : List Ref) (r190 : List Ref) (ih : Handler) (x192 : IV) (x7 : IV) : Option (IV × Hp) :=
  loadA 3 x194 h176 fun x195 r196 => chkS [(r193, []), (r190, [])] r196 [] (isoS [] false false ih 89 [x192, .fv (.int .i64 0), x195] h176 fun x197 h198 r199 w200 => chkS [] r199 w200 (isoS [] false false ih 58 [x197] h198 fun x201 h202 r203 w204 => S63_360 r203 w204 x201 h202 x7))
noncomputable def S63_362 (r190 : List Ref) (x189 : IV) (h176 : Hp) (x12 : IV) (ih : Handler) (x7 : IV) : Option (IV × Hp) :=
  chkS [] r190 [] (ixS 3 x189 (.fv (.int .i64 1)) fun x191 => loadA 3 x191 h176 fun x192 r193 => chkS [] r193 [] (ixS 3 x12 (.fv (.int .i64 1)) fun x194 => S63_361 h176 x194 r193 r190 ih x192 x7))
noncomputable def S63_363 (x175 : IV) (ih : Handler) (h176 : Hp) (x7 : IV) (x167 : IV) (x12 : IV) : Option (IV × Hp) :=
  neS EE 3 x175 (.fv (.int .i64 0)) fun x177 => condS x177 (isoS [] false false ih 57 [x175] h176 fun x178 h179 _ _ => extS 0 x178 fun x182 => S63_358 x178 h179 x7 x182) (faddrS 2 x167 fun x188 => load1 x188 h176 fun x189 r190 => S63_362 r190 x189 h176 x12 ih x7)
noncomputable def S63_364 (x216 : IV) (h171 : Hp) (r214 : List Ref) (ih : Handler) (x0 : IV) (x213 : IV) (j1_174 : IV → Hp → Option (IV × Hp)) : Option (IV × Hp) :=
  ixS 3 x216 (.fv (.int .i64 0)) fun x218 => loadA 3 x218 h171 fun x219 r220 => chkS [(r214, [])] r220 [] (isoS [] false false ih 61 [x0, .fv (.int .i64 1), x213, x219] h171 fun x221 h222 r223 w224 => chkS [] r223 w224 (j1_174 x221 h222))
noncomputable def S63_365 (h171 : Hp) (x212 : IV) (x167 : IV) (ih : Handler) (x0 : IV) (j1_174 : IV → Hp → Option (IV × Hp)) : Option (IV × Hp) :=
  loadA 3 x212 h171 fun x213 r214 => chkS [] r214 [] (faddrS 2 x167 fun x215 => load1 x215 h171 fun x216 r217 => chkS [(r214, [])] r217 [] (S63_364 x216 h171 r214 ih x0 x213 j1_174))
noncomputable def S63_366 (ih : Handler) (x7 : IV) (x167 : IV) (x12 : IV) (x166 : IV) (h171 : Hp) (x0 : IV) : Option (IV × Hp) :=
  (fun (j1_174 : IV → Hp → Option (IV × Hp)) => eqS EE 3 x166 (.fv (.int .i64 0)) fun x211 => condS x211 (ixS 3 x12 (.fv (.int .i64 1)) fun x212 => S63_365 h171 x212 x167 ih x0 j1_174) (j1_174 x166 h171)) fun x175 h176 => S63_363 x175 ih h176 x7 x167 x12
noncomputable def S63_367 (ih : Handler) (h19 : Hp) (x0 : IV) (x159 : IV) (x7 : IV) (x12 : IV) : Option (IV × Hp) :=
  isoS [] false false ih 85 [x0, .fv (.int .i64 1), x159, .fv (.int .i64 3)] h19 fun x161 h162 _ _ => extS 0 x161 fun x165 => extS 1 x161 fun x166 => newS 66081800 (.row [.fv (.int .i64 0), .fv (.int .i64 0), .nils] false) (.ptr (.own 66081800) 0) h162 fun x167 h168 _ _ => storeA 3 x167 x165 h168 fun h171 _ _ => S63_366 ih x7 x167 x12 x166 h171 x0
noncomputable def S63_368 (x245 : IV) (h246 : Hp) (x7 : IV) (x249 : IV) : Option (IV × Hp) :=
  extS 1 x245 fun x250 => storeA 3 x7 x249 h246 fun h251 _ _ => cellS true 3 x7 h251 fun x254 => outS1 [x254, x250] h251
noncomputable def S63_369 (x260 : IV) (h241 : Hp) (x7 : IV) : Option (IV × Hp) :=
  ixS 3 x260 (.fv (.int .i64 0)) fun x262 => loadA 3 x262 h241 fun x263 _ => storeA 3 x7 x263 h241 fun h265 _ _ => cellS true 3 x7 h265 fun x268 => outS1 [x268, .fv (.int .i64 0)] h265
noncomputable def S63_370 (x290 : IV) (h291 : Hp) (x7 : IV) : Option (IV × Hp) :=
  extS 0 x290 fun x294 => extS 1 x290 fun x295 => storeA 3 x7 x294 h291 fun h296 r297 w298 => chkS [] r297 w298 (cellS true 3 x7 h296 fun x299 => outS1 [x299, x295] h296)
noncomputable def S63_371 (r284 : List Ref) (w285 : List Ref) (r274 : List Ref) (r271 : List Ref) (ih : Handler) (h283 : Hp) (x273 : IV) (x282 : IV) (x7 : IV) : Option (IV × Hp) :=
  chkS [(r274, []), (r271, [])] r284 w285 (isoS [] false false ih 89 [x273, .fv (.int .i64 0), x282] h283 fun x286 h287 r288 w289 => chkS [] r288 w289 (isoS [] false false ih 58 [x286] h287 fun x290 h291 r292 w293 => chkS [] r292 w293 (S63_370 x290 h291 x7)))
noncomputable def S63_372 (h241 : Hp) (x275 : IV) (r274 : List Ref) (r271 : List Ref) (ih : Handler) (x273 : IV) (x7 : IV) : Option (IV × Hp) :=
  loadA 3 x275 h241 fun x276 r277 => chkS [(r274, []), (r271, [])] r277 [] (genS (pcBuildSlice EE 28 1 [(0, x276)]) 66095111 h241 fun x278 h279 r280 w281 => chkS [(r274, []), (r271, [])] r280 w281 (isoS [] false false ih 30 [.fv (.int .i64 8), x278] h279 fun x282 h283 r284 w285 => S63_371 r284 w285 r274 r271 ih h283 x273 x282 x7))
noncomputable def S63_373 (r271 : List Ref) (x270 : IV) (h241 : Hp) (x12 : IV) (ih : Handler) (x7 : IV) : Option (IV × Hp) :=
  chkS [] r271 [] (ixS 3 x270 (.fv (.int .i64 1)) fun x272 => loadA 3 x272 h241 fun x273 r274 => chkS [] r274 [] (ixS 3 x12 (.fv (.int .i64 0)) fun x275 => S63_372 h241 x275 r274 r271 ih x273 x7))
noncomputable def S63_374 (x256 : IV) (x237 : IV) (h241 : Hp) (x7 : IV) (x12 : IV) (ih : Handler) : Option (IV × Hp) :=
  eqS EE 3 x256 (.fv (.int .i64 8)) fun x258 => condS x258 (faddrS 2 x237 fun x259 => load1 x259 h241 fun x260 _ => S63_369 x260 h241 x7) (faddrS 2 x237 fun x269 => load1 x269 h241 fun x270 r271 => S63_373 r271 x270 h241 x12 ih x7)
noncomputable def S63_375 (x236 : IV) (ih : Handler) (h241 : Hp) (x7 : IV) (x3 : IV) (x237 : IV) (x12 : IV) : Option (IV × Hp) :=
  neS EE 3 x236 (.fv (.int .i64 0)) fun x244 => condS x244 (isoS [] false false ih 57 [x236] h241 fun x245 h246 _ _ => extS 0 x245 fun x249 => S63_368 x245 h246 x7 x249) (faddrS 0 x3 fun x255 => load1 x255 h241 fun x256 _ => S63_374 x256 x237 h241 x7 x12 ih)
noncomputable def S63_376 (ih : Handler) (h227 : Hp) (x0 : IV) (x229 : IV) (x7 : IV) (x3 : IV) (x12 : IV) : Option (IV × Hp) :=
  isoS [] false false ih 85 [x0, .fv (.int .i64 1), x229, .fv (.int .i64 6)] h227 fun x231 h232 _ _ => extS 0 x231 fun x235 => extS 1 x231 fun x236 => newS 66089992 (.row [.fv (.int .i64 0), .fv (.int .i64 0), .nils] false) (.ptr (.own 66089992) 0) h232 fun x237 h238 _ _ => storeA 3 x237 x235 h238 fun h241 _ _ => S63_375 x236 ih h241 x7 x3 x237 x12
noncomputable def S63_377 (h309 : Hp) (x7 : IV) (x308 : IV) : Option (IV × Hp) :=
  cellS true 3 x7 h309 fun x312 => outS1 [x312, x308] h309
noncomputable def S63_378 (h227 : Hp) (x3 : IV) (ih : Handler) (x0 : IV) (x7 : IV) : Option (IV × Hp) :=
  loadA 3 x3 h227 fun x301 _ => isoS [] false false ih 90 [x0, x301] h227 fun x303 h304 _ _ => extS 0 x303 fun x307 => extS 1 x303 fun x308 => storeA 3 x7 x307 h304 fun h309 _ _ => S63_377 h309 x7 x308
noncomputable def S63_379 (x316 : IV) (h317 : Hp) (x7 : IV) : Option (IV × Hp) :=
  extS 0 x316 fun x320 => extS 1 x316 fun x321 => storeA 3 x7 x320 h317 fun h322 _ _ => cellS true 3 x7 h322 fun x325 => outS1 [x325, x321] h322
noncomputable def S63_380 (x326 : IV) (h327 : Hp) (x7 : IV) (x330 : IV) : Option (IV × Hp) :=
  extS 1 x326 fun x331 => storeA 3 x7 x330 h327 fun h332 _ _ => cellS true 3 x7 h332 fun x335 => outS1 [x335, x331] h332
noncomputable def S63_381 (x15 : IV) (h227 : Hp) (x3 : IV) (ih : Handler) (x0 : IV) (x7 : IV) : Option (IV × Hp) :=
  eqS EE 3 x15 (.fv (.int .i64 13)) fun x313 => condS x313 (loadA 3 x3 h227 fun x314 _ => isoS [] false false ih 91 [x0, x314] h227 fun x316 h317 _ _ => S63_379 x316 h317 x7) (isoS [] false false ih 57 [.fv (.int .i64 10)] h227 fun x326 h327 _ _ => extS 0 x326 fun x330 => S63_380 x326 h327 x7 x330)
noncomputable def S63_382 (x226 : IV) (x12 : IV) (h227 : Hp) (ih : Handler) (x0 : IV) (x7 : IV) (x3 : IV) (x15 : IV) : Option (IV × Hp) :=
  condS x226 (ixS 3 x12 (.fv (.int .i64 0)) fun x228 => loadA 3 x228 h227 fun x229 _ => S63_376 ih h227 x0 x229 x7 x3 x12) (eqS EE 3 x15 (.fv (.int .i64 7)) fun x300 => condS x300 (S63_378 h227 x3 ih x0 x7) (S63_381 x15 h227 x3 ih x0 x7))
noncomputable def S63_383 (x336 : IV) (j1_225 : IV → Hp → Option (IV × Hp)) (h19 : Hp) (x15 : IV) : Option (IV × Hp) :=
  condS x336 (j1_225 x336 h19) (eqS EE 3 x15 (.fv (.int .i64 9)) fun x337 => j1_225 x337 h19)
noncomputable def S63_384 (x15 : IV) (x12 : IV) (h19 : Hp) (ih : Handler) (x0 : IV) (x7 : IV) (x3 : IV) : Option (IV × Hp) :=
  eqS EE 3 x15 (.fv (.int .i64 5)) fun x157 => condS x157 (ixS 3 x12 (.fv (.int .i64 0)) fun x158 => loadA 3 x158 h19 fun x159 _ => S63_367 ih h19 x0 x159 x7 x12) ((fun (j1_225 : IV → Hp → Option (IV × Hp)) => eqS EE 3 x15 (.fv (.int .i64 8)) fun x336 => S63_383 x336 j1_225 h19 x15) fun x226 h227 => S63_382 x226 x12 h227 ih x0 x7 x3 x15)
noncomputable def S63_385 (x18 : IV) (x12 : IV) (h19 : Hp) (ih : Handler) (x0 : IV) (x7 : IV) (x15 : IV) (x3 : IV) : Option (IV × Hp) :=
  condS x18 (ixS 3 x12 (.fv (.int .i64 0)) fun x20 => loadA 3 x20 h19 fun x21 _ => S63_346 ih h19 x0 x21 x7 x12) (eqS EE 3 x15 (.fv (.int .i64 4)) fun x79 => condS x79 (S63_357 x12 h19 ih x0 x7) (S63_384 x15 x12 h19 ih x0 x7 x3))
noncomputable def S63_386 (x12 : IV) (ih : Handler) (x0 : IV) (x7 : IV) (x15 : IV) (x3 : IV) (h8 : Hp) : Option (IV × Hp) :=
  (fun (j1_17 : IV → Hp → Option (IV × Hp)) => eqS EE 3 x15 (.fv (.int .i64 3)) fun x338 => condS x338 (j1_17 x338 h8) (eqS EE 3 x15 (.fv (.int .i64 6)) fun x339 => j1_17 x339 h8)) fun x18 h19 => S63_385 x18 x12 h19 ih x0 x7 x15 x3
noncomputable def S63 (ih : Handler) (n : Nat) (x0 : IV) (x1 : IV) (h2 : Hp) : Option (IV × Hp) :=
  boxS 66060288 x1 h2 fun x3 h4 _ _ => newS 66060289 (.row [.fv (.int .i64 0), .fv (.int .i64 0), .nils] false) (.ptr (.own 66060289) 0) h4 fun x7 h8 _ _ => faddrS 2 x3 fun x11 => load1 x11 h8 fun x12 _ => faddrS 0 x3 fun x14 => load1 x14 h8 fun x15 _ => S63_386 x12 ih x0 x7 x15 x3 h8
theorem S63_ok (ih : Handler) (n : Nat) (x0 : IV) (x1 : IV) (h2 : Hp) : funS EE ih ft.get n 63 [x0, x1] h2 = S63 ih n x0 x1 h2 := by kernel_rfl
/-! thyrsus/obj.of -/
noncomputable def S64 (ih : Handler) (n : Nat) (x0 : IV) (x1 : IV) (h2 : Hp) : Option (IV × Hp) :=
  newS 67108864 (.row [.fv (.int .i64 0), .fv (.int .i64 0), .nils] false) (.ptr (.own 67108864) 0) h2 fun x3 h4 _ _ => bldS [.fv (.int .i64 0), .fv (.int .i64 0), .nils] [(0, 1, x0), (2, 1, x1)] fun x7 => storeA 3 x3 x7 h4 fun h8 _ _ => cellS true 3 x3 h8 fun x11 => outS1 [x11] h8
theorem S64_ok (ih : Handler) (n : Nat) (x0 : IV) (x1 : IV) (h2 : Hp) : funS EE ih ft.get n 64 [x0, x1] h2 = S64 ih n x0 x1 h2 := by kernel_rfl
/-! (thyrsus/api.Errno).Error -/
noncomputable def S65_16 (ih : Handler) (h1 : Hp) (x0 : IV) : Option (IV × Hp) :=
  isoS [] false false ih 93 [x0] h1 fun x8 h9 _ _ => outS1 [x8] h9
noncomputable def S65_17 (ih : Handler) (h1 : Hp) (x0 : IV) : Option (IV × Hp) :=
  isoS [] false false ih 94 [x0] h1 fun x12 h13 _ _ => outS1 [x12] h13
noncomputable def S65 (ih : Handler) (n : Nat) (x0 : IV) (h1 : Hp) : Option (IV × Hp) :=
  leS EE 35 x0 (.fv (.int .i64 5)) fun x2 => condS x2 (isoS [] false false ih 92 [x0] h1 fun x3 h4 _ _ => outS1 [x3] h4) (leS EE 35 x0 (.fv (.int .i64 13)) fun x7 => condS x7 (S65_16 ih h1 x0) (S65_17 ih h1 x0))
theorem S65_ok (ih : Handler) (n : Nat) (x0 : IV) (h1 : Hp) : funS EE ih ft.get n 65 [x0] h1 = S65 ih n x0 h1 := by kernel_rfl
/-! thyrsus/thyrsusref4.Text -/
noncomputable def S66_90 (x33 : IV) (x40 : IV) (x27 : IV) (q22 : List IV → Hp → Option (IV × Hp)) (h41 : Hp) (x25 : IV) : Option (IV × Hp) :=
  addS EE 9 x33 x40 fun x44 => addS EE 3 x27 (.fv (.int .i64 1)) fun x45 => q22 [x25, x44, x45] h41
noncomputable def S66_91 (x25 : IV) (h24 : Hp) (x27 : IV) (ih : Handler) (x33 : IV) (q22 : List IV → Hp → Option (IV × Hp)) : Option (IV × Hp) :=
  faddrS 2 x25 fun x34 => load1 x34 h24 fun x35 _ => ixS 3 x35 x27 fun x37 => loadA 3 x37 h24 fun x38 _ => isoS [] false false ih 66 [x38] h24 fun x40 h41 _ _ => S66_90 x33 x40 x27 q22 h41 x25
noncomputable def S66_92 (x29 : IV) (x27 : IV) (x26 : IV) (x25 : IV) (h24 : Hp) (ih : Handler) (q22 : List IV → Hp → Option (IV × Hp)) : Option (IV × Hp) :=
  lenS x29 fun x31 => ltS EE 3 x27 x31 fun x32 => condS x32 (addS EE 9 x26 (.fv (.str ⟨#[32]⟩)) fun x33 => S66_91 x25 h24 x27 ih x33 q22) (addS EE 9 x26 (.fv (.str ⟨#[41]⟩)) fun x46 => outS1 [x46] h24)
noncomputable def S66_93 (l23 : List IV) (h24 : Hp) (ih : Handler) (q22 : List IV → Hp → Option (IV × Hp)) : Option (IV × Hp) :=
  uncS l23 fun x25 l47 => uncS l47 fun x26 l48 => uncS l48 fun x27 _ => faddrS 2 x25 fun x28 => load1 x28 h24 fun x29 _ => S66_92 x29 x27 x26 x25 h24 ih q22
noncomputable def S66_94 (x14 : IV) (n : Nat) (h15 : Hp) (x2 : IV) (ih : Handler) : Option (IV × Hp) :=
  addS EE 9 (.fv (.str ⟨#[40]⟩)) x14 fun x21 => loopS n (fun q22 l23 h24 => S66_93 l23 h24 ih q22) [x2, x21, .fv (.int .i64 0)] h15
noncomputable def S66_95 (x2 : IV) (h15 : Hp) (x14 : IV) (n : Nat) (ih : Handler) : Option (IV × Hp) :=
  faddrS 2 x2 fun x16 => load1 x16 h15 fun x17 _ => lenS x17 fun x19 => eqS EE 3 x19 (.fv (.int .i64 0)) fun x20 => condS x20 (outS1 [x14] h15) (S66_94 x14 n h15 x2 ih)
noncomputable def S66_96 (h10 : Hp) (x54 : IV) (ih : Handler) (j1_13 : IV → Hp → Option (IV × Hp)) : Option (IV × Hp) :=
  load1 x54 h10 fun x55 _ => isoS [] false false ih 95 [x55] h10 fun x57 h58 _ _ => addS EE 9 (.fv (.str ⟨#[118]⟩)) x57 fun x61 => j1_13 x61 h58
noncomputable def S66_97 (ih : Handler) (h10 : Hp) (x64 : IV) (j1_13 : IV → Hp → Option (IV × Hp)) : Option (IV × Hp) :=
  isoS [] false false ih 95 [x64] h10 fun x66 h67 _ _ => addS EE 9 (.fv (.str ⟨#[85]⟩)) x66 fun x70 => j1_13 x70 h67
noncomputable def S66_98 (x2 : IV) (h10 : Hp) (ih : Handler) (j1_13 : IV → Hp → Option (IV × Hp)) : Option (IV × Hp) :=
  faddrS 1 x2 fun x72 => load1 x72 h10 fun x73 _ => isoS [] false false ih 95 [x73] h10 fun x75 h76 _ _ => addS EE 9 (.fv (.str ⟨#[105]⟩)) x75 fun x79 => j1_13 x79 h76
noncomputable def S66_99 (h10 : Hp) (x82 : IV) (ih : Handler) (x81 : IV) (j1_13 : IV → Hp → Option (IV × Hp)) : Option (IV × Hp) :=
  load1 x82 h10 fun x83 _ => isoS [] false false ih 95 [x83] h10 fun x85 h86 _ _ => addS EE 9 x81 x85 fun x89 => j1_13 x89 h86
noncomputable def S66_100 (x51 : IV) (x9 : IV) (x2 : IV) (h10 : Hp) (ih : Handler) (j1_13 : IV → Hp → Option (IV × Hp)) : Option (IV × Hp) :=
  eqS EE 3 x51 (.fv (.int .i64 26)) fun x80 => condS x80 (addS EE 9 x9 (.fv (.str ⟨#[47]⟩)) fun x81 => faddrS 1 x2 fun x82 => S66_99 h10 x82 ih x81 j1_13) (j1_13 x9 h10)
noncomputable def S66_101 (x62 : IV) (x2 : IV) (h10 : Hp) (ih : Handler) (j1_13 : IV → Hp → Option (IV × Hp)) (x51 : IV) (x9 : IV) : Option (IV × Hp) :=
  condS x62 (faddrS 1 x2 fun x63 => load1 x63 h10 fun x64 _ => S66_97 ih h10 x64 j1_13) (eqS EE 3 x51 (.fv (.int .i64 25)) fun x71 => condS x71 (S66_98 x2 h10 ih j1_13) (S66_100 x51 x9 x2 h10 ih j1_13))
noncomputable def S66_102 (h10 : Hp) (x50 : IV) (x2 : IV) (ih : Handler) (j1_13 : IV → Hp → Option (IV × Hp)) (x9 : IV) : Option (IV × Hp) :=
  load1 x50 h10 fun x51 _ => eqS EE 3 x51 (.fv (.int .i64 1)) fun x53 => condS x53 (faddrS 1 x2 fun x54 => S66_96 h10 x54 ih j1_13) (eqS EE 3 x51 (.fv (.int .i64 2)) fun x62 => S66_101 x62 x2 h10 ih j1_13 x51 x9)
noncomputable def S66 (ih : Handler) (n : Nat) (x0 : IV) (h1 : Hp) : Option (IV × Hp) :=
  boxS 69206016 x0 h1 fun x2 h3 _ _ => faddrS 0 x2 fun x6 => load1 x6 h3 fun x7 _ => isoS [] false false ih 95 [x7] h3 fun x9 h10 _ _ => (fun (j1_13 : IV → Hp → Option (IV × Hp)) => faddrS 0 x2 fun x50 => S66_102 h10 x50 x2 ih j1_13 x9) fun x14 h15 => S66_95 x2 h15 x14 n ih
theorem S66_ok (ih : Handler) (n : Nat) (x0 : IV) (h1 : Hp) : funS EE ih ft.get n 66 [x0] h1 = S66 ih n x0 h1 := by kernel_rfl
/-! thyrsus/thyrsuslaw4.Context -/
noncomputable def S67_80 (x7 : IV) (h1 : Hp) (h24 : Hp) (x5 : IV) (x23 : IV) (q2 : List IV → Hp → Option (IV × Hp)) : Option (IV × Hp) :=
  addS EE 3 x7 (.fv (.int .i64 1)) fun x25 => dropS (h1.own.map (·.1)) [70260746] [x5, x23, x25] h24 fun h26 => q2 [x5, x23, x25] h26
noncomputable def S67_81 (ih : Handler) (h53 : Hp) (x6 : IV) (x59 : IV) (j1_56 : IV → Hp → Option (IV × Hp)) : Option (IV × Hp) :=
  isoS [] false false ih 96 [x6, .fv (.int .i64 0), x59] h53 fun x61 h62 _ _ => j1_56 x61 h62
noncomputable def S67_82 (r54 : List Ref) (w55 : List Ref) (j1_22 : IV → Hp → Option (IV × Hp)) (x48 : IV) (h53 : Hp) (x49 : IV) (ih : Handler) (x6 : IV) : Option (IV × Hp) :=
  chkS [] r54 w55 ((fun (j1_56 : IV → Hp → Option (IV × Hp)) => condS x48 (loadA 3 x49 h53 fun x59 _ => S67_81 ih h53 x6 x59 j1_56) (j1_56 x6 h53)) fun x57 h58 => j1_22 x57 h58)
noncomputable def S67_83 (x43 : IV) (h44 : Hp) (r45 : List Ref) (w46 : List Ref) (r42 : List Ref) (r38 : List Ref) (w39 : List Ref) (j1_22 : IV → Hp → Option (IV × Hp)) (ih : Handler) (x6 : IV) : Option (IV × Hp) :=
  extS 0 x43 fun x47 => extS 1 x43 fun x48 => newS 70260746 (.row [.fv (.int .i64 0), .fv (.int .i64 0), .nils] false) (.ptr (.own 70260746) 0) h44 fun x49 h50 r51 w52 => chkS [(r45, w46), (r42, []), (r38, w39)] r51 w52 (storeA 3 x49 x47 h50 fun h53 r54 w55 => S67_82 r54 w55 j1_22 x48 h53 x49 ih x6)
noncomputable def S67_84 (x5 : IV) (x7 : IV) (h37 : Hp) (r38 : List Ref) (w39 : List Ref) (ih : Handler) (x6 : IV) (x36 : IV) (j1_22 : IV → Hp → Option (IV × Hp)) : Option (IV × Hp) :=
  ixS 3 x5 x7 fun x40 => loadA 3 x40 h37 fun x41 r42 => chkS [(r38, w39)] r42 [] (isoS [] false false ih 70 [x6, x36, x41, .fv (.int .i64 2)] h37 fun x43 h44 r45 w46 => chkS [] r45 w46 (S67_83 x43 h44 r45 w46 r42 r38 w39 j1_22 ih x6))
noncomputable def S67_85 (ih : Handler) (h32 : Hp) (x6 : IV) (x66 : IV) (j1_22 : IV → Hp → Option (IV × Hp)) : Option (IV × Hp) :=
  isoS [] false false ih 69 [x6, x66, .fv (.int .i64 2)] h32 fun x68 h69 _ _ => isoS [] false false ih 96 [x6, .fv (.int .i64 1), x68] h69 fun x72 h73 _ _ => j1_22 x72 h73
noncomputable def S67_86 (x35 : IV) (ih : Handler) (h32 : Hp) (x5 : IV) (x7 : IV) (x6 : IV) (j1_22 : IV → Hp → Option (IV × Hp)) : Option (IV × Hp) :=
  condS x35 (isoS [] false false ih 30 [.fv (.int .i64 14), .nils] h32 fun x36 h37 r38 w39 => chkS [] r38 w39 (S67_84 x5 x7 h37 r38 w39 ih x6 x36 j1_22)) (ixS 3 x5 x7 fun x65 => loadA 3 x65 h32 fun x66 _ => S67_85 ih h32 x6 x66 j1_22)
noncomputable def S67_87 (x5 : IV) (x7 : IV) (h18 : Hp) (ih : Handler) (x6 : IV) (j1_22 : IV → Hp → Option (IV × Hp)) : Option (IV × Hp) :=
  ixS 3 x5 x7 fun x27 => faddrS 1 x27 fun x28 => load1 x28 h18 fun x29 _ => isoS [] false false ih 41 [x29, .fv (.int .i64 3)] h18 fun x31 h32 _ _ => eqS EE 3 x31 (.fv (.int .i64 0)) fun x35 => S67_86 x35 ih h32 x5 x7 x6 j1_22
noncomputable def S67_88 (h4 : Hp) (x9 : IV) (x7 : IV) (h1 : Hp) (x5 : IV) (q2 : List IV → Hp → Option (IV × Hp)) (ih : Handler) (x6 : IV) : Option (IV × Hp) :=
  guardS x9 true h4 (fun k10 => k10 x7 h4 [] []) fun x11 h12 _ _ => guardS x9 true h12 (fun k15 => ltS EE 3 x11 (.fv (.int .i64 4)) fun x16 => k15 x16 h12 [] []) fun x17 h18 _ _ => pickS x9 x17 (.fv (.bool false)) fun x21 => condS x21 ((fun (j1_22 : IV → Hp → Option (IV × Hp)) => S67_87 x5 x7 h18 ih x6 j1_22) fun x23 h24 => S67_80 x7 h1 h24 x5 x23 q2) (outS1 [x6] h18)
noncomputable def S67_89 (l3 : List IV) (h4 : Hp) (h1 : Hp) (q2 : List IV → Hp → Option (IV × Hp)) (ih : Handler) : Option (IV × Hp) :=
  uncS l3 fun x5 l76 => uncS l76 fun x6 l77 => uncS l77 fun x7 _ => lenS x5 fun x8 => ltS EE 3 x7 x8 fun x9 => S67_88 h4 x9 x7 h1 x5 q2 ih x6
noncomputable def S67 (ih : Handler) (n : Nat) (x0 : IV) (h1 : Hp) : Option (IV × Hp) :=
  dropS (h1.own.map (·.1)) [70260746] [x0, .nils, .fv (.int .i64 0)] h1 fun h79 => loopS n (fun q2 l3 h4 => S67_89 l3 h4 h1 q2 ih) [x0, .nils, .fv (.int .i64 0)] h79
theorem S67_ok (ih : Handler) (n : Nat) (x0 : IV) (h1 : Hp) : funS EE ih ft.get n 67 [x0] h1 = S67 ih n x0 h1 := by kernel_rfl
end Idl
end Go.Proofs.Ytdibmackcbpniaa

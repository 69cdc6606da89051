/-
  THE SHALLOW FORM OF THE SEAT'S FUNCTIONS, a part; each is what its code's shallow run is. Printed by a program of mine (gen-sh). No statement is proved here.
-/
import Derived.Test.YtnenpcghegcnhaaTab
import Derived.Test.YtnenpcghegcnhaaIdl31
set_option maxRecDepth 100000
set_option linter.unusedVariables false
namespace Go.Proofs.Ytnenpcghegcnhaa
namespace Idl
/-! Function 5. -/
noncomputable def S5_298 (h56 : Hp) (x62 : IV) (x65 : IV) (ih : Handler) (x63 : IV) (q54 : List IV → Hp → Option (IV × Hp)) (x57 : IV) (x58 : IV) (x59 : IV) (x60 : IV) (x61 : IV) : Option (IV × Hp) :=
  loadA 3 x62 h56 fun x67 _ => genS (pcBuildSlice EE 23 2 [(0, x65), (1, x67)]) 5252098 h56 fun x69 h70 _ _ => isoS [] false false ih 8 [.fv (.int .i64 3), x69] h70 fun x73 h74 _ _ => storeA 3 x62 x73 h74 fun h77 _ _ => addS EE 3 x63 (.fv (.int .i64 1)) fun x80 => q54 [x57, x58, x59, x60, x61, x62, x80] h77
noncomputable def S5_299 (r160 : List Ref) (r157 : List Ref) (w158 : List Ref) (r154 : List Ref) (ih : Handler) (h156 : Hp) (x159 : IV) (x155 : IV) : Option (IV × Hp) :=
  chkS [(r157, w158), (r154, [])] r160 [] (isoS [] false false ih 16 [x159] h156 fun x161 h162 r163 w164 => chkS [] r163 w164 (eqS EE 9 x155 x161 fun x165 => outS1 [x165] h162))
noncomputable def S5_300 (h149 : Hp) (x141 : IV) (ih : Handler) (x62 : IV) : Option (IV × Hp) :=
  loadA 3 x141 h149 fun x153 r154 => chkS [] r154 [] (isoS [] false false ih 13 [.nils, .fv (.int .i64 1), x153] h149 fun x155 h156 r157 w158 => chkS [] r157 w158 (loadA 3 x62 h156 fun x159 r160 => S5_299 r160 r157 w158 r154 ih h156 x159 x155))
noncomputable def S5_301 (r199 : List Ref) (w200 : List Ref) (ih : Handler) (h198 : Hp) (x197 : IV) : Option (IV × Hp) :=
  chkS [] r199 w200 (isoS [] false false ih 13 [.nils, .fv (.int .i64 1), x197] h198 fun x201 h202 r203 w204 => chkS [] r203 w204 (eqS EE 9 x201 (.fv (.str ⟨#[49, 52]⟩)) fun x205 => outS1 [x205] h202))
noncomputable def S5_302 (ih : Handler) (h186 : Hp) (x57 : IV) (r168 : List Ref) (x167 : IV) (x169 : IV) (x185 : IV) : Option (IV × Hp) :=
  isoS [] false false ih 15 [x57] h186 fun x189 h190 r191 w192 => chkS [(r168, [])] r191 w192 (genS (pcBuildSlice EE 23 4 [(0, x167), (1, x169), (2, x185), (3, x189)]) 5258248 h190 fun x193 h194 r195 w196 => chkS [] r195 w196 (isoS [] false false ih 8 [.fv (.int .i64 13), x193] h194 fun x197 h198 r199 w200 => S5_301 r199 w200 ih h198 x197))
noncomputable def S5_303 (r179 : List Ref) (w180 : List Ref) (r168 : List Ref) (h178 : Hp) (x173 : IV) (x177 : IV) (ih : Handler) (x57 : IV) (x167 : IV) (x169 : IV) : Option (IV × Hp) :=
  chkS [(r168, [])] r179 w180 (genS (pcBuildSlice EE 23 2 [(0, x173), (1, x177)]) 5258244 h178 fun x181 h182 r183 w184 => chkS [(r168, [])] r183 w184 (isoS [] false false ih 8 [.fv (.int .i64 16), x181] h182 fun x185 h186 r187 w188 => chkS [(r168, [])] r187 w188 (S5_302 ih h186 x57 r168 x167 x169 x185)))
noncomputable def S5_304 (ih : Handler) (h149 : Hp) (r168 : List Ref) (x57 : IV) (x167 : IV) : Option (IV × Hp) :=
  isoS [] false false ih 8 [.fv (.int .i64 15), .nils] h149 fun x169 h170 r171 w172 => chkS [(r168, [])] r171 w172 (isoS [] false false ih 9 [.fv (.int .i64 0)] h170 fun x173 h174 r175 w176 => chkS [(r168, [])] r175 w176 (isoS [] false false ih 9 [.fv (.int .i64 0)] h174 fun x177 h178 r179 w180 => S5_303 r179 w180 r168 h178 x173 x177 ih x57 x167 x169))
noncomputable def S5_305 (ih : Handler) (h222 : Hp) (x221 : IV) : Option (IV × Hp) :=
  isoS [] false false ih 8 [.fv (.int .i64 13), x221] h222 fun x225 h226 r227 w228 => chkS [] r227 w228 (isoS [] false false ih 13 [.nils, .fv (.int .i64 1), x225] h226 fun x229 h230 r231 w232 => chkS [] r231 w232 (eqS EE 9 x229 (.fv (.str ⟨#[116, 121, 112, 101]⟩)) fun x233 => outS1 [x233] h230))
noncomputable def S5_306 (r215 : List Ref) (w216 : List Ref) (r208 : List Ref) (ih : Handler) (h214 : Hp) (x57 : IV) (x207 : IV) (x209 : IV) (x213 : IV) : Option (IV × Hp) :=
  chkS [(r208, [])] r215 w216 (isoS [] false false ih 15 [x57] h214 fun x217 h218 r219 w220 => chkS [(r208, [])] r219 w220 (genS (pcBuildSlice EE 23 4 [(0, x207), (1, x209), (2, x213), (3, x217)]) 5260293 h218 fun x221 h222 r223 w224 => chkS [] r223 w224 (S5_305 ih h222 x221)))
noncomputable def S5_307 (h149 : Hp) (x59 : IV) (ih : Handler) (x57 : IV) : Option (IV × Hp) :=
  loadA 3 x59 h149 fun x207 r208 => chkS [] r208 [] (isoS [] false false ih 8 [.fv (.int .i64 15), .nils] h149 fun x209 h210 r211 w212 => chkS [(r208, [])] r211 w212 (isoS [] false false ih 9 [.fv (.int .i64 0)] h210 fun x213 h214 r215 w216 => S5_306 r215 w216 r208 ih h214 x57 x207 x209 x213))
noncomputable def S5_308 (ih : Handler) (h254 : Hp) (x253 : IV) : Option (IV × Hp) :=
  isoS [] false false ih 13 [.nils, .fv (.int .i64 1), x253] h254 fun x257 h258 r259 w260 => chkS [] r259 w260 (eqS EE 9 x257 (.fv (.str ⟨#[116, 121, 112, 101]⟩)) fun x261 => outS1 [x261] h258)
noncomputable def S5_309 (r247 : List Ref) (w248 : List Ref) (r236 : List Ref) (h246 : Hp) (x235 : IV) (x237 : IV) (x241 : IV) (x245 : IV) (ih : Handler) : Option (IV × Hp) :=
  chkS [(r236, [])] r247 w248 (genS (pcBuildSlice EE 23 4 [(0, x235), (1, x237), (2, x241), (3, x245)]) 5262342 h246 fun x249 h250 r251 w252 => chkS [] r251 w252 (isoS [] false false ih 8 [.fv (.int .i64 13), x249] h250 fun x253 h254 r255 w256 => chkS [] r255 w256 (S5_308 ih h254 x253)))
noncomputable def S5_310 (ih : Handler) (h149 : Hp) (x57 : IV) (r236 : List Ref) (x235 : IV) : Option (IV × Hp) :=
  isoS [] false false ih 15 [x57] h149 fun x237 h238 r239 w240 => chkS [(r236, [])] r239 w240 (isoS [] false false ih 8 [.fv (.int .i64 14), .nils] h238 fun x241 h242 r243 w244 => chkS [(r236, [])] r243 w244 (isoS [] false false ih 15 [x57] h242 fun x245 h246 r247 w248 => S5_309 r247 w248 r236 h246 x235 x237 x241 x245 ih))
noncomputable def S5_311 (x286 : IV) (h287 : Hp) : Option (IV × Hp) :=
  eqS EE 9 x286 (.fv (.str ⟨#[115, 104, 97, 112, 101]⟩)) fun x290 => outS1 [x290] h287
noncomputable def S5_312 (ih : Handler) (h267 : Hp) (x57 : IV) (x262 : IV) (x266 : IV) : Option (IV × Hp) :=
  isoS [] false false ih 9 [.fv (.int .i64 0)] h267 fun x270 h271 _ _ => isoS [] false false ih 15 [x57] h271 fun x274 h275 _ _ => genS (pcBuildSlice EE 23 4 [(0, x262), (1, x266), (2, x270), (3, x274)]) 5263367 h275 fun x278 h279 _ _ => isoS [] false false ih 8 [.fv (.int .i64 13), x278] h279 fun x282 h283 _ _ => isoS [] false false ih 13 [.nils, .fv (.int .i64 1), x282] h283 fun x286 h287 _ _ => S5_311 x286 h287
noncomputable def S5_313 (x148 : IV) (h149 : Hp) (x59 : IV) (ih : Handler) (x57 : IV) : Option (IV × Hp) :=
  eqS EE 3 x148 (.fv (.int .i64 3)) fun x234 => condS x234 (loadA 3 x59 h149 fun x235 r236 => chkS [] r236 [] (S5_310 ih h149 x57 r236 x235)) (isoS [] false false ih 15 [x57] h149 fun x262 h263 _ _ => isoS [] false false ih 15 [x57] h263 fun x266 h267 _ _ => S5_312 ih h267 x57 x262 x266)
noncomputable def S5_314 (x148 : IV) (h149 : Hp) (x60 : IV) (ih : Handler) (x57 : IV) (x59 : IV) : Option (IV × Hp) :=
  eqS EE 3 x148 (.fv (.int .i64 1)) fun x166 => condS x166 (loadA 3 x60 h149 fun x167 r168 => chkS [] r168 [] (S5_304 ih h149 r168 x57 x167)) (eqS EE 3 x148 (.fv (.int .i64 2)) fun x206 => condS x206 (S5_307 h149 x59 ih x57) (S5_313 x148 h149 x59 ih x57))
noncomputable def S5_315 (h142 : Hp) (x141 : IV) (x137 : IV) (ih : Handler) (x58 : IV) (x62 : IV) (x60 : IV) (x57 : IV) (x59 : IV) : Option (IV × Hp) :=
  storeA 3 x141 x137 h142 fun h145 r146 w147 => chkS [] r146 w147 (isoS [] false false ih 12 [x58, .fv (.int .i64 5)] h145 fun x148 h149 _ _ => eqS EE 3 x148 (.fv (.int .i64 0)) fun x152 => condS x152 (S5_300 h149 x141 ih x62) (S5_314 x148 h149 x60 ih x57 x59))
noncomputable def S5_316 (r135 : List Ref) (w136 : List Ref) (ih : Handler) (h134 : Hp) (x133 : IV) (r131 : List Ref) (w132 : List Ref) (r127 : List Ref) (w128 : List Ref) (r123 : List Ref) (w124 : List Ref) (r119 : List Ref) (w120 : List Ref) (r116 : List Ref) (r113 : List Ref) (w114 : List Ref) (r109 : List Ref) (w110 : List Ref) (r105 : List Ref) (w106 : List Ref) (r101 : List Ref) (w102 : List Ref) (r97 : List Ref) (w98 : List Ref) (r93 : List Ref) (w94 : List Ref) (r89 : List Ref) (w90 : List Ref) (r86 : List Ref) (r84 : List Ref) (r82 : List Ref) (x58 : IV) (x62 : IV) (x60 : IV) (x57 : IV) (x59 : IV) : Option (IV × Hp) :=
  chkS [] r135 w136 (isoS [] false false ih 8 [.fv (.int .i64 13), x133] h134 fun x137 h138 r139 w140 => chkS [] r139 w140 (newS 5253138 (.row [.fv (.int .i64 0), .fv (.int .i64 0), .nils] false) (.ptr (.own 5253138) 0) h138 fun x141 h142 r143 w144 => chkS [(r139, w140), (r135, w136), (r131, w132), (r127, w128), (r123, w124), (r119, w120), (r116, []), (r113, w114), (r109, w110), (r105, w106), (r101, w102), (r97, w98), (r93, w94), (r89, w90), (r86, []), (r84, []), (r82, [])] r143 w144 (S5_315 h142 x141 x137 ih x58 x62 x60 x57 x59)))
noncomputable def S5_317 (ih : Handler) (h122 : Hp) (x121 : IV) (x57 : IV) (x107 : IV) (x111 : IV) (r123 : List Ref) (w124 : List Ref) (r119 : List Ref) (w120 : List Ref) (r116 : List Ref) (r113 : List Ref) (w114 : List Ref) (r109 : List Ref) (w110 : List Ref) (r105 : List Ref) (w106 : List Ref) (r101 : List Ref) (w102 : List Ref) (r97 : List Ref) (w98 : List Ref) (r93 : List Ref) (w94 : List Ref) (r89 : List Ref) (w90 : List Ref) (r86 : List Ref) (r84 : List Ref) (r82 : List Ref) (x58 : IV) (x62 : IV) (x60 : IV) (x59 : IV) : Option (IV × Hp) :=
  isoS [] false false ih 8 [.fv (.int .i64 4), x121] h122 fun x125 h126 r127 w128 => chkS [] r127 w128 (isoS [] false false ih 15 [x57] h126 fun x129 h130 r131 w132 => chkS [] r131 w132 (genS (pcBuildSlice EE 23 4 [(0, x107), (1, x111), (2, x125), (3, x129)]) 5253136 h130 fun x133 h134 r135 w136 => S5_316 r135 w136 ih h134 x133 r131 w132 r127 w128 r123 w124 r119 w120 r116 r113 w114 r109 w110 r105 w106 r101 w102 r97 w98 r93 w94 r89 w90 r86 r84 r82 x58 x62 x60 x57 x59))
noncomputable def S5_318 (r116 : List Ref) (r113 : List Ref) (w114 : List Ref) (r109 : List Ref) (w110 : List Ref) (r105 : List Ref) (w106 : List Ref) (r101 : List Ref) (w102 : List Ref) (r97 : List Ref) (w98 : List Ref) (r93 : List Ref) (w94 : List Ref) (r89 : List Ref) (w90 : List Ref) (r86 : List Ref) (r84 : List Ref) (r82 : List Ref) (ih : Handler) (h112 : Hp) (x115 : IV) (x57 : IV) (x107 : IV) (x111 : IV) (x58 : IV) (x62 : IV) (x60 : IV) (x59 : IV) : Option (IV × Hp) :=
  chkS [(r113, w114), (r109, w110), (r105, w106), (r101, w102), (r97, w98), (r93, w94), (r89, w90), (r86, []), (r84, []), (r82, [])] r116 [] (isoS [] false false ih 9 [.fv (.int .i64 1)] h112 fun x117 h118 r119 w120 => chkS [(r116, [])] r119 w120 (genS (pcBuildSlice EE 23 2 [(0, x115), (1, x117)]) 5253132 h118 fun x121 h122 r123 w124 => chkS [] r123 w124 (S5_317 ih h122 x121 x57 x107 x111 r123 w124 r119 w120 r116 r113 w114 r109 w110 r105 w106 r101 w102 r97 w98 r93 w94 r89 w90 r86 r84 r82 x58 x62 x60 x59)))
noncomputable def S5_319 (ih : Handler) (h104 : Hp) (x103 : IV) (x59 : IV) (r105 : List Ref) (w106 : List Ref) (r101 : List Ref) (w102 : List Ref) (r97 : List Ref) (w98 : List Ref) (r93 : List Ref) (w94 : List Ref) (r89 : List Ref) (w90 : List Ref) (r86 : List Ref) (r84 : List Ref) (r82 : List Ref) (x57 : IV) (x58 : IV) (x62 : IV) (x60 : IV) : Option (IV × Hp) :=
  isoS [] false false ih 8 [.fv (.int .i64 13), x103] h104 fun x107 h108 r109 w110 => chkS [] r109 w110 (isoS [] false false ih 8 [.fv (.int .i64 11), .nils] h108 fun x111 h112 r113 w114 => chkS [] r113 w114 (loadA 3 x59 h112 fun x115 r116 => S5_318 r116 r113 w114 r109 w110 r105 w106 r101 w102 r97 w98 r93 w94 r89 w90 r86 r84 r82 ih h112 x115 x57 x107 x111 x58 x62 x60 x59))
noncomputable def S5_320 (r97 : List Ref) (w98 : List Ref) (r84 : List Ref) (r82 : List Ref) (ih : Handler) (h96 : Hp) (x81 : IV) (x83 : IV) (x95 : IV) (x59 : IV) (r93 : List Ref) (w94 : List Ref) (r89 : List Ref) (w90 : List Ref) (r86 : List Ref) (x57 : IV) (x58 : IV) (x62 : IV) (x60 : IV) : Option (IV × Hp) :=
  chkS [(r84, []), (r82, [])] r97 w98 (isoS [] false false ih 9 [.fv (.int .i64 0)] h96 fun x99 h100 r101 w102 => chkS [(r84, []), (r82, [])] r101 w102 (genS (pcBuildSlice EE 23 4 [(0, x81), (1, x83), (2, x95), (3, x99)]) 5253127 h100 fun x103 h104 r105 w106 => chkS [] r105 w106 (S5_319 ih h104 x103 x59 r105 w106 r101 w102 r97 w98 r93 w94 r89 w90 r86 r84 r82 x57 x58 x62 x60)))
noncomputable def S5_321 (ih : Handler) (h56 : Hp) (r86 : List Ref) (r84 : List Ref) (r82 : List Ref) (x85 : IV) (x81 : IV) (x83 : IV) (x59 : IV) (x57 : IV) (x58 : IV) (x62 : IV) (x60 : IV) : Option (IV × Hp) :=
  isoS [] false false ih 9 [.fv (.int .i64 1)] h56 fun x87 h88 r89 w90 => chkS [(r86, []), (r84, []), (r82, [])] r89 w90 (genS (pcBuildSlice EE 23 2 [(0, x85), (1, x87)]) 5253124 h88 fun x91 h92 r93 w94 => chkS [(r84, []), (r82, [])] r93 w94 (isoS [] false false ih 8 [.fv (.int .i64 3), x91] h92 fun x95 h96 r97 w98 => S5_320 r97 w98 r84 r82 ih h96 x81 x83 x95 x59 r93 w94 r89 w90 r86 x57 x58 x62 x60))
noncomputable def S5_322 (r82 : List Ref) (h56 : Hp) (x59 : IV) (ih : Handler) (x81 : IV) (x57 : IV) (x58 : IV) (x62 : IV) (x60 : IV) : Option (IV × Hp) :=
  chkS [] r82 [] (loadA 3 x59 h56 fun x83 r84 => chkS [(r82, [])] r84 [] (loadA 3 x59 h56 fun x85 r86 => chkS [(r84, []), (r82, [])] r86 [] (S5_321 ih h56 r86 r84 r82 x85 x81 x83 x59 x57 x58 x62 x60)))
noncomputable def S5_323 (l295 : List IV) (x57 : IV) (h56 : Hp) (x59 : IV) (ih : Handler) (q54 : List IV → Hp → Option (IV × Hp)) (x58 : IV) (x60 : IV) (x61 : IV) : Option (IV × Hp) :=
  uncS l295 fun x62 l296 => uncS l296 fun x63 _ => ltS EE 3 x63 x57 fun x64 => condS x64 (loadA 3 x59 h56 fun x65 _ => S5_298 h56 x62 x65 ih x63 q54 x57 x58 x59 x60 x61) (loadA 3 x61 h56 fun x81 r82 => S5_322 r82 h56 x59 ih x81 x57 x58 x62 x60)
noncomputable def S5_324 (l55 : List IV) (h56 : Hp) (ih : Handler) (q54 : List IV → Hp → Option (IV × Hp)) : Option (IV × Hp) :=
  uncS l55 fun x57 l291 => uncS l291 fun x58 l292 => uncS l292 fun x59 l293 => uncS l293 fun x60 l294 => uncS l294 fun x61 l295 => S5_323 l295 x57 h56 x59 ih q54 x58 x60 x61
noncomputable def S5_325 (h48 : Hp) (x47 : IV) (x45 : IV) (n : Nat) (x8 : IV) (x1 : IV) (x24 : IV) (x28 : IV) (x32 : IV) (ih : Handler) : Option (IV × Hp) :=
  storeA 3 x47 x45 h48 fun h51 _ _ => loopS n (fun q54 l55 h56 => S5_324 l55 h56 ih q54) [x8, x1, x24, x28, x32, x47, .fv (.int .i64 0)] h51
noncomputable def S5_326 (h33 : Hp) (x24 : IV) (x12 : IV) (x28 : IV) (x16 : IV) (x32 : IV) (x20 : IV) (n : Nat) (x8 : IV) (x1 : IV) (ih : Handler) : Option (IV × Hp) :=
  storeA 3 x24 x12 h33 fun h36 _ _ => storeA 3 x28 x16 h36 fun h39 _ _ => storeA 3 x32 x20 h39 fun h42 _ _ => loadA 3 x24 h42 fun x45 _ => newS 5248001 (.row [.fv (.int .i64 0), .fv (.int .i64 0), .nils] false) (.ptr (.own 5248001) 0) h42 fun x47 h48 _ _ => S5_325 h48 x47 x45 n x8 x1 x24 x28 x32 ih
noncomputable def S5_327 (ih : Handler) (h13 : Hp) (x12 : IV) (n : Nat) (x8 : IV) (x1 : IV) : Option (IV × Hp) :=
  isoS [] false false ih 8 [.fv (.int .i64 14), .nils] h13 fun x16 h17 _ _ => isoS [] false false ih 10 [.fv (.int .i64 0)] h17 fun x20 h21 _ _ => newS 5246979 (.row [.fv (.int .i64 0), .fv (.int .i64 0), .nils] false) (.ptr (.own 5246979) 0) h21 fun x24 h25 _ _ => newS 5246980 (.row [.fv (.int .i64 0), .fv (.int .i64 0), .nils] false) (.ptr (.own 5246980) 0) h25 fun x28 h29 _ _ => newS 5246981 (.row [.fv (.int .i64 0), .fv (.int .i64 0), .nils] false) (.ptr (.own 5246981) 0) h29 fun x32 h33 _ _ => S5_326 h33 x24 x12 x28 x16 x32 x20 n x8 x1 ih
noncomputable def S5 (ih : Handler) (n : Nat) (x0 : IV) (x1 : IV) (h2 : Hp) : Option (IV × Hp) :=
  isoS [] false false ih 7 [] h2 fun x3 h4 _ _ => optS (unR .not x3) fun x7 => condS x7 (outS1 [.fv (.bool false)] h4) (isoS [] false false ih 12 [x0, .fv (.int .i64 12)] h4 fun x8 h9 _ _ => isoS [] false false ih 8 [.fv (.int .i64 10), .nils] h9 fun x12 h13 _ _ => S5_327 ih h13 x12 n x8 x1)
theorem S5_ok (ih : Handler) (n : Nat) (x0 : IV) (x1 : IV) (h2 : Hp) : funS EE ih ft.get n 5 [x0, x1] h2 = S5 ih n x0 x1 h2 := by kernel_rfl
/-! Function 6. -/
noncomputable def S6_218 (x116 : IV) (h117 : Hp) : Option (IV × Hp) :=
  eqS EE 9 x116 (.fv (.str ⟨#[115, 99, 111, 112, 101]⟩)) fun x120 => outS1 [x120] h117
noncomputable def S6_219 (h100 : Hp) (x11 : IV) (x92 : IV) (ih : Handler) (x84 : IV) : Option (IV × Hp) :=
  loadA 3 x11 h100 fun x104 _ => loadA 3 x92 h100 fun x106 _ => genS (pcBuildSlice EE 23 2 [(0, x104), (1, x106)]) 6299651 h100 fun x108 h109 _ _ => isoS [] false false ih 8 [.fv (.int .i64 20), x108] h109 fun x112 h113 _ _ => isoS [] false false ih 13 [x84, .fv (.int .i64 0), x112] h113 fun x116 h117 _ _ => S6_218 x116 h117
noncomputable def S6_220 (r134 : List Ref) (w135 : List Ref) (ih : Handler) (h133 : Hp) (x84 : IV) (x132 : IV) : Option (IV × Hp) :=
  chkS [] r134 w135 (isoS [] false false ih 13 [x84, .fv (.int .i64 0), x132] h133 fun x136 h137 r138 w139 => chkS [] r138 w139 (eqS EE 9 x136 (.fv (.str ⟨#[115, 99, 111, 112, 101]⟩)) fun x140 => outS1 [x140] h137))
noncomputable def S6_221 (h123 : Hp) (x92 : IV) (r124 : List Ref) (w125 : List Ref) (x122 : IV) (ih : Handler) (x84 : IV) : Option (IV × Hp) :=
  loadA 3 x92 h123 fun x126 r127 => chkS [(r124, w125)] r127 [] (genS (pcBuildSlice EE 23 2 [(0, x122), (1, x126)]) 6301699 h123 fun x128 h129 r130 w131 => chkS [] r130 w131 (isoS [] false false ih 8 [.fv (.int .i64 28), x128] h129 fun x132 h133 r134 w135 => S6_220 r134 w135 ih h133 x84 x132))
noncomputable def S6_222 (x176 : IV) (h177 : Hp) : Option (IV × Hp) :=
  eqS EE 9 x176 (.fv (.str ⟨#[40, 51, 32, 40, 49, 56, 32, 49, 53, 41, 32, 40, 49, 56, 32, 40, 53, 32, 118, 50, 32, 118, 48, 41, 41, 41]⟩)) fun x180 => outS1 [x180] h177
noncomputable def S6_223 (h157 : Hp) (x152 : IV) (x156 : IV) (ih : Handler) (x148 : IV) (x84 : IV) : Option (IV × Hp) :=
  genS (pcBuildSlice EE 23 2 [(0, x152), (1, x156)]) 6303750 h157 fun x160 h161 _ _ => isoS [] false false ih 8 [.fv (.int .i64 5), x160] h161 fun x164 h165 _ _ => genS (pcBuildSlice EE 23 2 [(0, x148), (1, x164)]) 6303752 h165 fun x168 h169 _ _ => isoS [] false false ih 8 [.fv (.int .i64 4), x168] h169 fun x172 h173 _ _ => isoS [] false false ih 13 [x84, .fv (.int .i64 1), x172] h173 fun x176 h177 _ _ => S6_222 x176 h177
noncomputable def S6_224 (h100 : Hp) (x11 : IV) (ih : Handler) (x84 : IV) : Option (IV × Hp) :=
  loadA 3 x11 h100 fun x142 _ => genS (pcBuildSlice EE 23 1 [(0, x142)]) 6303746 h100 fun x144 h145 _ _ => isoS [] false false ih 8 [.fv (.int .i64 18), x144] h145 fun x148 h149 _ _ => isoS [] false false ih 9 [.fv (.int .i64 1)] h149 fun x152 h153 _ _ => isoS [] false false ih 9 [.fv (.int .i64 0)] h153 fun x156 h157 _ _ => S6_223 h157 x152 x156 ih x148 x84
noncomputable def S6_225 (ih : Handler) (h198 : Hp) (x197 : IV) (x84 : IV) : Option (IV × Hp) :=
  isoS [] false false ih 8 [.fv (.int .i64 5), x197] h198 fun x201 h202 _ _ => genS (pcBuildSlice EE 23 1 [(0, x201)]) 6304775 h202 fun x205 h206 _ _ => isoS [] false false ih 8 [.fv (.int .i64 30), x205] h206 fun x209 h210 _ _ => isoS [] false false ih 13 [x84, .fv (.int .i64 0), x209] h210 fun x213 h214 _ _ => eqS EE 9 x213 (.fv (.str ⟨#[40, 53, 32, 118, 49, 32, 40, 49, 57, 32, 105, 51, 41, 41]⟩)) fun x217 => outS1 [x217] h214
noncomputable def S6_226 (ih : Handler) (h100 : Hp) (x84 : IV) : Option (IV × Hp) :=
  isoS [] false false ih 9 [.fv (.int .i64 0)] h100 fun x181 h182 _ _ => isoS [] false false ih 11 [.fv (.int .i64 3)] h182 fun x185 h186 _ _ => genS (pcBuildSlice EE 23 1 [(0, x185)]) 6304771 h186 fun x189 h190 _ _ => isoS [] false false ih 8 [.fv (.int .i64 19), x189] h190 fun x193 h194 _ _ => genS (pcBuildSlice EE 23 2 [(0, x181), (1, x193)]) 6304773 h194 fun x197 h198 _ _ => S6_225 ih h198 x197 x84
noncomputable def S6_227 (x99 : IV) (ih : Handler) (h100 : Hp) (x92 : IV) (x84 : IV) (x11 : IV) : Option (IV × Hp) :=
  eqS EE 3 x99 (.fv (.int .i64 1)) fun x121 => condS x121 (isoS [] false false ih 11 [.fv (.int .i64 3)] h100 fun x122 h123 r124 w125 => chkS [] r124 w125 (S6_221 h123 x92 r124 w125 x122 ih x84)) (eqS EE 3 x99 (.fv (.int .i64 2)) fun x141 => condS x141 (S6_224 h100 x11 ih x84) (S6_226 ih h100 x84))
noncomputable def S6_228 (h89 : Hp) (x88 : IV) (ih : Handler) (x0 : IV) (x11 : IV) (x84 : IV) : Option (IV × Hp) :=
  newS 6296577 (.row [.fv (.int .i64 0), .fv (.int .i64 0), .nils] false) (.ptr (.own 6296577) 0) h89 fun x92 h93 _ _ => storeA 3 x92 x88 h93 fun h96 _ _ => isoS [] false false ih 12 [x0, .fv (.int .i64 4)] h96 fun x99 h100 _ _ => eqS EE 3 x99 (.fv (.int .i64 0)) fun x103 => condS x103 (S6_219 h100 x11 x92 ih x84) (S6_227 x99 ih h100 x92 x84 x11)
noncomputable def S6_229 (r81 : List Ref) (w82 : List Ref) (x79 : IV) (h80 : Hp) (x40 : IV) (ih : Handler) (x0 : IV) (x11 : IV) : Option (IV × Hp) :=
  chkS [] r81 w82 (bldS [.fv (.int .i64 0), .fv (.int .i64 0), .fv (.int .i64 0), .nils] [(0, 1, .fv (.int .i64 1)), (1, 3, x79)] fun x83 => genS (pcBuildSlice EE 31 2 [(0, x40), (1, x83)]) 6295571 h80 fun x84 h85 r86 w87 => chkS [] r86 w87 (isoS [] false false ih 17 [.fv (.int .i64 2), .fv (.int .i64 1)] h85 fun x88 h89 _ _ => S6_228 h89 x88 ih x0 x11 x84))
noncomputable def S6_230 (ih : Handler) (h68 : Hp) (x67 : IV) (x47 : IV) (x40 : IV) (x0 : IV) (x11 : IV) : Option (IV × Hp) :=
  isoS [] false false ih 8 [.fv (.int .i64 18), x67] h68 fun x71 h72 r73 w74 => chkS [] r73 w74 (genS (pcBuildSlice EE 23 2 [(0, x47), (1, x71)]) 6295568 h72 fun x75 h76 r77 w78 => chkS [] r77 w78 (isoS [] false false ih 8 [.fv (.int .i64 3), x75] h76 fun x79 h80 r81 w82 => S6_229 r81 w82 x79 h80 x40 ih x0 x11))
noncomputable def S6_231 (r61 : List Ref) (w62 : List Ref) (ih : Handler) (h60 : Hp) (x59 : IV) (x47 : IV) (x40 : IV) (x0 : IV) (x11 : IV) : Option (IV × Hp) :=
  chkS [] r61 w62 (isoS [] false false ih 8 [.fv (.int .i64 5), x59] h60 fun x63 h64 r65 w66 => chkS [] r65 w66 (genS (pcBuildSlice EE 23 1 [(0, x63)]) 6295566 h64 fun x67 h68 r69 w70 => chkS [] r69 w70 (S6_230 ih h68 x67 x47 x40 x0 x11)))
noncomputable def S6_232 (ih : Handler) (h48 : Hp) (x47 : IV) (x40 : IV) (x0 : IV) (x11 : IV) : Option (IV × Hp) :=
  isoS [] false false ih 9 [.fv (.int .i64 1)] h48 fun x51 h52 r53 w54 => chkS [] r53 w54 (isoS [] false false ih 9 [.fv (.int .i64 0)] h52 fun x55 h56 r57 w58 => chkS [] r57 w58 (genS (pcBuildSlice EE 23 2 [(0, x51), (1, x55)]) 6295564 h56 fun x59 h60 r61 w62 => S6_231 r61 w62 ih h60 x59 x47 x40 x0 x11))
noncomputable def S6_233 (r42 : List Ref) (r38 : List Ref) (w39 : List Ref) (r34 : List Ref) (w35 : List Ref) (r30 : List Ref) (w31 : List Ref) (r26 : List Ref) (w27 : List Ref) (r22 : List Ref) (w23 : List Ref) (r19 : List Ref) (h37 : Hp) (x41 : IV) (ih : Handler) (x40 : IV) (x0 : IV) (x11 : IV) : Option (IV × Hp) :=
  chkS [(r38, w39), (r34, w35), (r30, w31), (r26, w27), (r22, w23), (r19, [])] r42 [] (genS (pcBuildSlice EE 23 1 [(0, x41)]) 6295560 h37 fun x43 h44 r45 w46 => chkS [(r38, w39), (r34, w35), (r30, w31), (r26, w27), (r22, w23), (r19, [])] r45 w46 (isoS [] false false ih 8 [.fv (.int .i64 18), x43] h44 fun x47 h48 r49 w50 => chkS [] r49 w50 (S6_232 ih h48 x47 x40 x0 x11)))
noncomputable def S6_234 (r34 : List Ref) (w35 : List Ref) (ih : Handler) (h33 : Hp) (x32 : IV) (x11 : IV) (r30 : List Ref) (w31 : List Ref) (r26 : List Ref) (w27 : List Ref) (r22 : List Ref) (w23 : List Ref) (r19 : List Ref) (x0 : IV) : Option (IV × Hp) :=
  chkS [] r34 w35 (isoS [] false false ih 8 [.fv (.int .i64 3), x32] h33 fun x36 h37 r38 w39 => chkS [] r38 w39 (bldS [.fv (.int .i64 0), .fv (.int .i64 0), .fv (.int .i64 0), .nils] [(0, 1, .fv (.int .i64 1)), (1, 3, x36)] fun x40 => loadA 3 x11 h37 fun x41 r42 => S6_233 r42 r38 w39 r34 w35 r30 w31 r26 w27 r22 w23 r19 h37 x41 ih x40 x0 x11))
noncomputable def S6_235 (ih : Handler) (h21 : Hp) (x20 : IV) (x11 : IV) (r22 : List Ref) (w23 : List Ref) (r19 : List Ref) (x0 : IV) : Option (IV × Hp) :=
  isoS [] false false ih 8 [.fv (.int .i64 18), x20] h21 fun x24 h25 r26 w27 => chkS [] r26 w27 (isoS [] false false ih 8 [.fv (.int .i64 14), .nils] h25 fun x28 h29 r30 w31 => chkS [] r30 w31 (genS (pcBuildSlice EE 23 2 [(0, x24), (1, x28)]) 6295556 h29 fun x32 h33 r34 w35 => S6_234 r34 w35 ih h33 x32 x11 r30 w31 r26 w27 r22 w23 r19 x0))
noncomputable def S6_236 (h12 : Hp) (x11 : IV) (x7 : IV) (ih : Handler) (x0 : IV) : Option (IV × Hp) :=
  storeA 3 x11 x7 h12 fun h15 _ _ => loadA 3 x11 h15 fun x18 r19 => chkS [] r19 [] (genS (pcBuildSlice EE 23 1 [(0, x18)]) 6295553 h15 fun x20 h21 r22 w23 => chkS [] r22 w23 (S6_235 ih h21 x20 x11 r22 w23 r19 x0))
noncomputable def S6 (ih : Handler) (n : Nat) (x0 : IV) (h1 : Hp) : Option (IV × Hp) :=
  isoS [] false false ih 7 [] h1 fun x2 h3 _ _ => optS (unR .not x2) fun x6 => condS x6 (outS1 [.fv (.bool false)] h3) (isoS [] false false ih 8 [.fv (.int .i64 15), .nils] h3 fun x7 h8 _ _ => newS 6294529 (.row [.fv (.int .i64 0), .fv (.int .i64 0), .nils] false) (.ptr (.own 6294529) 0) h8 fun x11 h12 _ _ => S6_236 h12 x11 x7 ih x0)
theorem S6_ok (ih : Handler) (n : Nat) (x0 : IV) (h1 : Hp) : funS EE ih ft.get n 6 [x0] h1 = S6 ih n x0 h1 := by kernel_rfl
/-! Function 7. -/
noncomputable def S7_99 (r85 : List Ref) (w86 : List Ref) (h84 : Hp) (x76 : IV) (ih : Handler) (x78 : IV) (x83 : IV) : Option (IV × Hp) :=
  chkS [] r85 w86 (guardS x76 true h84 (fun k87 => isoS [] false false ih 22 [.nils, .fv (.int .i64 1), x78, x83] h84 k87) fun x88 h89 r90 w91 => chkS [] r90 w91 (guardS x76 true h89 (fun k92 => eqS EE 39 x88 (.fv (.int .i64 11)) fun x93 => k92 x93 h89 [] []) fun x94 h95 _ _ => pickS x76 x94 (.fv (.bool false)) fun x98 => outS1 [x98] h95))
noncomputable def S7_100 (r74 : List Ref) (w75 : List Ref) (x39 : IV) (x72 : IV) (h73 : Hp) (ih : Handler) : Option (IV × Hp) :=
  chkS [] r74 w75 (pickS x39 x72 (.fv (.bool false)) fun x76 => guardS x76 true h73 (fun k77 => isoS [] false false ih 18 [.fv (.int .i64 11), .nils] h73 k77) fun x78 h79 r80 w81 => chkS [] r80 w81 (guardS x76 true h79 (fun k82 => isoS [] false false ih 18 [.fv (.int .i64 14), .nils] h79 k82) fun x83 h84 r85 w86 => S7_99 r85 w86 h84 x76 ih x78 x83))
noncomputable def S7_101 (h58 : Hp) (x39 : IV) (x50 : IV) (x57 : IV) (r45 : List Ref) (w46 : List Ref) (ih : Handler) (x43 : IV) : Option (IV × Hp) :=
  guardS x39 true h58 (fun k61 => genS (pcBuildSlice EE 23 2 [(0, x50), (1, x57)]) 7343110 h58 k61) fun x62 h63 r64 w65 => chkS [(r45, w46)] r64 w65 (guardS x39 true h63 (fun k66 => isoS [] false false ih 18 [.fv (.int .i64 3), x62] h63 k66) fun x67 h68 r69 w70 => chkS [(r45, w46)] r69 w70 (guardS x39 true h68 (fun k71 => isoS [] false false ih 21 [x43, x67] h68 k71) fun x72 h73 r74 w75 => S7_100 r74 w75 x39 x72 h73 ih))
noncomputable def S7_102 (r45 : List Ref) (w46 : List Ref) (h44 : Hp) (x39 : IV) (x5 : IV) (ih : Handler) (x43 : IV) : Option (IV × Hp) :=
  chkS [] r45 w46 (guardS x39 true h44 (fun k47 => loadA 3 x5 h44 fun x48 r49 => k47 x48 h44 r49 []) fun x50 h51 r52 w53 => chkS [(r45, w46)] r52 w53 (guardS x39 true h51 (fun k54 => loadA 3 x5 h51 fun x55 r56 => k54 x55 h51 r56 []) fun x57 h58 r59 w60 => chkS [(r52, w53), (r45, w46)] r59 w60 (S7_101 h58 x39 x50 x57 r45 w46 ih x43)))
noncomputable def S7_103 (r34 : List Ref) (w35 : List Ref) (r28 : List Ref) (w29 : List Ref) (r24 : List Ref) (w25 : List Ref) (r20 : List Ref) (w21 : List Ref) (r16 : List Ref) (w17 : List Ref) (r13 : List Ref) (h33 : Hp) (x32 : IV) (x30 : IV) (x31 : IV) (x5 : IV) (ih : Handler) : Option (IV × Hp) :=
  chkS [(r28, w29), (r24, w25), (r20, w21), (r16, w17), (r13, [])] r34 w35 (storeA 3 x32 x30 h33 fun h36 r37 w38 => chkS [] r37 w38 (eqS EE 39 x31 (.fv (.int .i64 0)) fun x39 => guardS x39 true h36 (fun k40 => loadA 3 x32 h36 fun x41 r42 => k40 x41 h36 r42 []) fun x43 h44 r45 w46 => S7_102 r45 w46 h44 x39 x5 ih x43))
noncomputable def S7_104 (ih : Handler) (h23 : Hp) (x22 : IV) (r24 : List Ref) (w25 : List Ref) (r20 : List Ref) (w21 : List Ref) (r16 : List Ref) (w17 : List Ref) (r13 : List Ref) (x5 : IV) : Option (IV × Hp) :=
  isoS [] false false ih 19 [.nils, .fv (.int .i64 1), x22] h23 fun x26 h27 r28 w29 => chkS [] r28 w29 (extS 0 x26 fun x30 => extS 1 x26 fun x31 => newS 7342088 (.row [.fv (.int .i64 0), .fv (.int .i64 0), .nils] false) (.ptr (.own 7342088) 0) h27 fun x32 h33 r34 w35 => S7_103 r34 w35 r28 w29 r24 w25 r20 w21 r16 w17 r13 h33 x32 x30 x31 x5 ih)
noncomputable def S7_105 (r16 : List Ref) (w17 : List Ref) (r13 : List Ref) (h15 : Hp) (x12 : IV) (x14 : IV) (ih : Handler) (x5 : IV) : Option (IV × Hp) :=
  chkS [(r13, [])] r16 w17 (genS (pcBuildSlice EE 23 2 [(0, x12), (1, x14)]) 7342082 h15 fun x18 h19 r20 w21 => chkS [] r20 w21 (isoS [] false false ih 18 [.fv (.int .i64 4), x18] h19 fun x22 h23 r24 w25 => chkS [] r24 w25 (S7_104 ih h23 x22 r24 w25 r20 w21 r16 w17 r13 x5)))
noncomputable def S7 (ih : Handler) (n : Nat) (h0 : Hp) : Option (IV × Hp) :=
  isoS [] false false ih 18 [.fv (.int .i64 10), .nils] h0 fun x1 h2 _ _ => newS 7341057 (.row [.fv (.int .i64 0), .fv (.int .i64 0), .nils] false) (.ptr (.own 7341057) 0) h2 fun x5 h6 _ _ => storeA 3 x5 x1 h6 fun h9 _ _ => loadA 3 x5 h9 fun x12 r13 => chkS [] r13 [] (isoS [] false false ih 20 [.fv (.int .i64 0)] h9 fun x14 h15 r16 w17 => S7_105 r16 w17 r13 h15 x12 x14 ih x5)
theorem S7_ok (ih : Handler) (n : Nat) (h0 : Hp) : funS EE ih ft.get n 7 [] h0 = S7 ih n h0 := by kernel_rfl
/-! Function 8. -/
noncomputable def S8 (ih : Handler) (n : Nat) (x0 : IV) (x1 : IV) (h2 : Hp) : Option (IV × Hp) :=
  newS 8388608 (.row [.fv (.int .i64 0), .fv (.int .i64 0), .nils] false) (.ptr (.own 8388608) 0) h2 fun x3 h4 _ _ => isoS [] false false ih 18 [x0, x1] h4 fun x7 h8 _ _ => storeA 3 x3 x7 h8 fun h11 _ _ => cellS true 3 x3 h11 fun x14 => outS1 [x14] h11
theorem S8_ok (ih : Handler) (n : Nat) (x0 : IV) (x1 : IV) (h2 : Hp) : funS EE ih ft.get n 8 [x0, x1] h2 = S8 ih n x0 x1 h2 := by kernel_rfl
/-! Function 9. -/
noncomputable def S9 (ih : Handler) (n : Nat) (x0 : IV) (h1 : Hp) : Option (IV × Hp) :=
  newS 9437184 (.row [.fv (.int .i64 0), .fv (.int .i64 0), .nils] false) (.ptr (.own 9437184) 0) h1 fun x2 h3 _ _ => isoS [] false false ih 20 [x0] h3 fun x6 h7 _ _ => storeA 3 x2 x6 h7 fun h10 _ _ => cellS true 3 x2 h10 fun x13 => outS1 [x13] h10
theorem S9_ok (ih : Handler) (n : Nat) (x0 : IV) (h1 : Hp) : funS EE ih ft.get n 9 [x0] h1 = S9 ih n x0 h1 := by kernel_rfl
/-! Function 10. -/
noncomputable def S10 (ih : Handler) (n : Nat) (x0 : IV) (h1 : Hp) : Option (IV × Hp) :=
  newS 10485760 (.row [.fv (.int .i64 0), .fv (.int .i64 0), .nils] false) (.ptr (.own 10485760) 0) h1 fun x2 h3 _ _ => bldS [.fv (.int .i64 0), .fv (.int .i64 0), .nils] [(0, 1, .fv (.int .i64 2)), (1, 1, x0)] fun x6 => storeA 3 x2 x6 h3 fun h7 _ _ => cellS true 3 x2 h7 fun x10 => outS1 [x10] h7
theorem S10_ok (ih : Handler) (n : Nat) (x0 : IV) (h1 : Hp) : funS EE ih ft.get n 10 [x0] h1 = S10 ih n x0 h1 := by kernel_rfl
/-! Function 11. -/
noncomputable def S11 (ih : Handler) (n : Nat) (x0 : IV) (h1 : Hp) : Option (IV × Hp) :=
  newS 11534336 (.row [.fv (.int .i64 0), .fv (.int .i64 0), .nils] false) (.ptr (.own 11534336) 0) h1 fun x2 h3 _ _ => bldS [.fv (.int .i64 0), .fv (.int .i64 0), .nils] [(0, 1, .fv (.int .i64 25)), (1, 1, x0)] fun x6 => storeA 3 x2 x6 h3 fun h7 _ _ => cellS true 3 x2 h7 fun x10 => outS1 [x10] h7
theorem S11_ok (ih : Handler) (n : Nat) (x0 : IV) (h1 : Hp) : funS EE ih ft.get n 11 [x0] h1 = S11 ih n x0 h1 := by kernel_rfl
/-! Function 12. -/
noncomputable def S12 (ih : Handler) (n : Nat) (x0 : IV) (x1 : IV) (h2 : Hp) : Option (IV × Hp) :=
  binS EE 3 .rem x0 x1 fun x3 => (fun (j1_4 : IV → Hp → Option (IV × Hp)) => ltS EE 3 x3 (.fv (.int .i64 0)) fun x7 => condS x7 (addS EE 3 x3 x1 fun x8 => j1_4 x8 h2) (j1_4 x3 h2)) fun x5 h6 => outS1 [x5] h6
theorem S12_ok (ih : Handler) (n : Nat) (x0 : IV) (x1 : IV) (h2 : Hp) : funS EE ih ft.get n 12 [x0, x1] h2 = S12 ih n x0 x1 h2 := by kernel_rfl
/-! Function 13. -/
noncomputable def S13_34 (ih : Handler) (h20 : Hp) (x28 : IV) : Option (IV × Hp) :=
  isoS [] false false ih 16 [x28] h20 fun x30 h31 _ _ => outS1 [x30] h31
noncomputable def S13_35 (h17 : Hp) (x16 : IV) (x14 : IV) (x15 : IV) (ih : Handler) : Option (IV × Hp) :=
  storeA 3 x16 x14 h17 fun h20 _ _ => neS EE 39 x15 (.fv (.int .i64 0)) fun x23 => condS x23 (isoS [] false false ih 23 [x15] h20 fun x24 h25 _ _ => outS1 [x24] h25) (loadA 3 x16 h20 fun x28 _ => S13_34 ih h20 x28)
noncomputable def S13 (ih : Handler) (n : Nat) (x0 : IV) (x1 : IV) (x2 : IV) (h3 : Hp) : Option (IV × Hp) :=
  boxS 13631488 x2 h3 fun x4 h5 _ _ => loadA 3 x4 h5 fun x8 _ => isoS [] false false ih 19 [x0, x1, x8] h5 fun x10 h11 _ _ => extS 0 x10 fun x14 => extS 1 x10 fun x15 => newS 13632519 (.row [.fv (.int .i64 0), .fv (.int .i64 0), .nils] false) (.ptr (.own 13632519) 0) h11 fun x16 h17 _ _ => S13_35 h17 x16 x14 x15 ih
theorem S13_ok (ih : Handler) (n : Nat) (x0 : IV) (x1 : IV) (x2 : IV) (h3 : Hp) : funS EE ih ft.get n 13 [x0, x1, x2] h3 = S13 ih n x0 x1 x2 h3 := by kernel_rfl
/-! Function 14. -/
noncomputable def S14_75 (r73 : List Ref) (w74 : List Ref) (h72 : Hp) (x71 : IV) : Option (IV × Hp) :=
  chkS [] r73 w74 (outS1 [x71] h72)
noncomputable def S14_76 (r64 : List Ref) (w65 : List Ref) (r56 : List Ref) (r52 : List Ref) (w53 : List Ref) (r48 : List Ref) (w49 : List Ref) (r45 : List Ref) (r41 : List Ref) (w42 : List Ref) (r37 : List Ref) (w38 : List Ref) (r34 : List Ref) (r32 : List Ref) (r29 : List Ref) (r25 : List Ref) (w26 : List Ref) (ih : Handler) (h63 : Hp) (x62 : IV) (x27 : IV) (x30 : IV) (x43 : IV) (x54 : IV) (x57 : IV) : Option (IV × Hp) :=
  chkS [(r56, []), (r52, w53), (r48, w49), (r45, []), (r41, w42), (r37, w38), (r34, []), (r32, []), (r29, []), (r25, w26)] r64 w65 (isoS [] false false ih 8 [.fv (.int .i64 16), x62] h63 fun x66 h67 r68 w69 => chkS [(r56, []), (r29, [])] r68 w69 (bldS [.fv (.int .i64 0), .fv (.int .i64 0), .fv (.int .i64 0), .nils] [(0, 1, .fv (.int .i64 0)), (1, 3, x66)] fun x70 => genS (pcBuildSlice EE 31 6 [(0, x27), (1, x30), (2, x43), (3, x54), (4, x57), (5, x70)]) 14682132 h67 fun x71 h72 r73 w74 => S14_75 r73 w74 h72 x71))
noncomputable def S14_77 (h51 : Hp) (x13 : IV) (r56 : List Ref) (r52 : List Ref) (w53 : List Ref) (r48 : List Ref) (w49 : List Ref) (r45 : List Ref) (r41 : List Ref) (w42 : List Ref) (r37 : List Ref) (w38 : List Ref) (r34 : List Ref) (r32 : List Ref) (r29 : List Ref) (r25 : List Ref) (w26 : List Ref) (ih : Handler) (x27 : IV) (x30 : IV) (x43 : IV) (x54 : IV) (x57 : IV) : Option (IV × Hp) :=
  loadA 3 x13 h51 fun x58 r59 => chkS [(r56, []), (r52, w53), (r48, w49), (r45, []), (r41, w42), (r37, w38), (r34, []), (r32, []), (r29, []), (r25, w26)] r59 [] (loadA 3 x13 h51 fun x60 r61 => chkS [(r59, []), (r56, []), (r52, w53), (r48, w49), (r45, []), (r41, w42), (r37, w38), (r34, []), (r32, []), (r29, []), (r25, w26)] r61 [] (genS (pcBuildSlice EE 23 2 [(0, x58), (1, x60)]) 14682129 h51 fun x62 h63 r64 w65 => S14_76 r64 w65 r56 r52 w53 r48 w49 r45 r41 w42 r37 w38 r34 r32 r29 r25 w26 ih h63 x62 x27 x30 x43 x54 x57))
noncomputable def S14_78 (r52 : List Ref) (w53 : List Ref) (r29 : List Ref) (x50 : IV) (h51 : Hp) (x13 : IV) (r48 : List Ref) (w49 : List Ref) (r45 : List Ref) (r41 : List Ref) (w42 : List Ref) (r37 : List Ref) (w38 : List Ref) (r34 : List Ref) (r32 : List Ref) (r25 : List Ref) (w26 : List Ref) (ih : Handler) (x27 : IV) (x30 : IV) (x43 : IV) : Option (IV × Hp) :=
  chkS [(r29, [])] r52 w53 (bldS [.fv (.int .i64 0), .fv (.int .i64 0), .fv (.int .i64 0), .nils] [(0, 1, .fv (.int .i64 1)), (1, 3, x50)] fun x54 => loadA 3 x13 h51 fun x55 r56 => chkS [(r52, w53), (r48, w49), (r45, []), (r41, w42), (r37, w38), (r34, []), (r32, []), (r29, []), (r25, w26)] r56 [] (bldS [.fv (.int .i64 0), .fv (.int .i64 0), .fv (.int .i64 0), .nils] [(0, 1, .fv (.int .i64 0)), (1, 3, x55)] fun x57 => S14_77 h51 x13 r56 r52 w53 r48 w49 r45 r41 w42 r37 w38 r34 r32 r29 r25 w26 ih x27 x30 x43 x54 x57))
noncomputable def S14_79 (h40 : Hp) (x13 : IV) (r41 : List Ref) (w42 : List Ref) (r37 : List Ref) (w38 : List Ref) (r34 : List Ref) (r32 : List Ref) (r29 : List Ref) (r25 : List Ref) (w26 : List Ref) (ih : Handler) (x27 : IV) (x30 : IV) (x43 : IV) : Option (IV × Hp) :=
  loadA 3 x13 h40 fun x44 r45 => chkS [(r41, w42), (r37, w38), (r34, []), (r32, []), (r29, []), (r25, w26)] r45 [] (genS (pcBuildSlice EE 23 1 [(0, x44)]) 14682122 h40 fun x46 h47 r48 w49 => chkS [(r41, w42), (r37, w38), (r34, []), (r32, []), (r29, []), (r25, w26)] r48 w49 (isoS [] false false ih 8 [.fv (.int .i64 18), x46] h47 fun x50 h51 r52 w53 => S14_78 r52 w53 r29 x50 h51 x13 r48 w49 r45 r41 w42 r37 w38 r34 r32 r25 w26 ih x27 x30 x43))
noncomputable def S14_80 (h24 : Hp) (x31 : IV) (x33 : IV) (r29 : List Ref) (r25 : List Ref) (w26 : List Ref) (ih : Handler) (x13 : IV) (r34 : List Ref) (r32 : List Ref) (x27 : IV) (x30 : IV) : Option (IV × Hp) :=
  genS (pcBuildSlice EE 23 2 [(0, x31), (1, x33)]) 14682118 h24 fun x35 h36 r37 w38 => chkS [(r29, []), (r25, w26)] r37 w38 (isoS [] false false ih 8 [.fv (.int .i64 3), x35] h36 fun x39 h40 r41 w42 => chkS [(r29, [])] r41 w42 (bldS [.fv (.int .i64 0), .fv (.int .i64 0), .fv (.int .i64 0), .nils] [(0, 1, .fv (.int .i64 1)), (1, 3, x39)] fun x43 => S14_79 h40 x13 r41 w42 r37 w38 r34 r32 r29 r25 w26 ih x27 x30 x43))
noncomputable def S14_81 (x28 : IV) (h24 : Hp) (x9 : IV) (r29 : List Ref) (r25 : List Ref) (w26 : List Ref) (ih : Handler) (x13 : IV) (x27 : IV) : Option (IV × Hp) :=
  bldS [.fv (.int .i64 0), .fv (.int .i64 0), .fv (.int .i64 0), .nils] [(0, 1, .fv (.int .i64 1)), (1, 3, x28)] fun x30 => loadA 3 x9 h24 fun x31 r32 => chkS [(r29, []), (r25, w26)] r32 [] (loadA 3 x9 h24 fun x33 r34 => chkS [(r32, []), (r29, []), (r25, w26)] r34 [] (S14_80 h24 x31 x33 r29 r25 w26 ih x13 r34 r32 x27 x30))
noncomputable def S14_82 (ih : Handler) (h20 : Hp) (x9 : IV) (x13 : IV) : Option (IV × Hp) :=
  isoS [] false false ih 10 [.fv (.int .i64 0)] h20 fun x23 h24 r25 w26 => chkS [] r25 w26 (bldS [.fv (.int .i64 0), .fv (.int .i64 0), .fv (.int .i64 0), .nils] [(0, 1, .fv (.int .i64 1)), (1, 3, x23)] fun x27 => loadA 3 x9 h24 fun x28 r29 => chkS [(r25, w26)] r29 [] (S14_81 x28 h24 x9 r29 r25 w26 ih x13 x27))
noncomputable def S14 (ih : Handler) (n : Nat) (h0 : Hp) : Option (IV × Hp) :=
  isoS [] false false ih 8 [.fv (.int .i64 10), .nils] h0 fun x1 h2 _ _ => isoS [] false false ih 8 [.fv (.int .i64 15), .nils] h2 fun x5 h6 _ _ => newS 14681090 (.row [.fv (.int .i64 0), .fv (.int .i64 0), .nils] false) (.ptr (.own 14681090) 0) h6 fun x9 h10 _ _ => newS 14681091 (.row [.fv (.int .i64 0), .fv (.int .i64 0), .nils] false) (.ptr (.own 14681091) 0) h10 fun x13 h14 _ _ => storeA 3 x9 x1 h14 fun h17 _ _ => storeA 3 x13 x5 h17 fun h20 _ _ => S14_82 ih h20 x9 x13
theorem S14_ok (ih : Handler) (n : Nat) (h0 : Hp) : funS EE ih ft.get n 14 [] h0 = S14 ih n h0 := by kernel_rfl
/-! Function 15. -/
noncomputable def S15_49 (ih : Handler) (h28 : Hp) (x27 : IV) (x22 : IV) (x23 : IV) (q17 : List IV → Hp → Option (IV × Hp)) (x20 : IV) (x21 : IV) : Option (IV × Hp) :=
  isoS [] false false ih 18 [.fv (.int .i64 12), x27] h28 fun x31 h32 _ _ => storeA 3 x22 x31 h32 fun h35 _ _ => addS EE 3 x23 (.fv (.int .i64 1)) fun x38 => q17 [x20, x21, x22, x38] h35
noncomputable def S15_50 (h41 : Hp) (x21 : IV) : Option (IV × Hp) :=
  cellS true 3 x21 h41 fun x44 => outS1 [x44] h41
noncomputable def S15_51 (x24 : IV) (h19 : Hp) (x22 : IV) (ih : Handler) (x23 : IV) (q17 : List IV → Hp → Option (IV × Hp)) (x20 : IV) (x21 : IV) : Option (IV × Hp) :=
  condS x24 (loadA 3 x22 h19 fun x25 _ => genS (pcBuildSlice EE 23 1 [(0, x25)]) 15733761 h19 fun x27 h28 _ _ => S15_49 ih h28 x27 x22 x23 q17 x20 x21) (loadA 3 x22 h19 fun x39 _ => storeA 3 x21 x39 h19 fun h41 _ _ => S15_50 h41 x21)
noncomputable def S15_52 (l18 : List IV) (h19 : Hp) (ih : Handler) (q17 : List IV → Hp → Option (IV × Hp)) : Option (IV × Hp) :=
  uncS l18 fun x20 l45 => uncS l45 fun x21 l46 => uncS l46 fun x22 l47 => uncS l47 fun x23 _ => ltS EE 3 x23 x20 fun x24 => S15_51 x24 h19 x22 ih x23 q17 x20 x21
noncomputable def S15 (ih : Handler) (n : Nat) (x0 : IV) (h1 : Hp) : Option (IV × Hp) :=
  newS 15728640 (.row [.fv (.int .i64 0), .fv (.int .i64 0), .nils] false) (.ptr (.own 15728640) 0) h1 fun x2 h3 _ _ => isoS [] false false ih 18 [.fv (.int .i64 11), .nils] h3 fun x6 h7 _ _ => newS 15729665 (.row [.fv (.int .i64 0), .fv (.int .i64 0), .nils] false) (.ptr (.own 15729665) 0) h7 fun x10 h11 _ _ => storeA 3 x10 x6 h11 fun h14 _ _ => loopS n (fun q17 l18 h19 => S15_52 l18 h19 ih q17) [x0, x2, x10, .fv (.int .i64 0)] h14
theorem S15_ok (ih : Handler) (n : Nat) (x0 : IV) (h1 : Hp) : funS EE ih ft.get n 15 [x0] h1 = S15 ih n x0 h1 := by kernel_rfl
/-! Function 16. -/
noncomputable def S16_90 (x33 : IV) (x40 : IV) (x27 : IV) (q22 : List IV → Hp → Option (IV × Hp)) (h41 : Hp) (x25 : IV) : Option (IV × Hp) :=
  addS EE 9 x33 x40 fun x44 => addS EE 3 x27 (.fv (.int .i64 1)) fun x45 => q22 [x25, x44, x45] h41
noncomputable def S16_91 (x25 : IV) (h24 : Hp) (x27 : IV) (ih : Handler) (x33 : IV) (q22 : List IV → Hp → Option (IV × Hp)) : Option (IV × Hp) :=
  faddrS 2 x25 fun x34 => load1 x34 h24 fun x35 _ => ixS 3 x35 x27 fun x37 => loadA 3 x37 h24 fun x38 _ => isoS [] false false ih 16 [x38] h24 fun x40 h41 _ _ => S16_90 x33 x40 x27 q22 h41 x25
noncomputable def S16_92 (x29 : IV) (x27 : IV) (x26 : IV) (x25 : IV) (h24 : Hp) (ih : Handler) (q22 : List IV → Hp → Option (IV × Hp)) : Option (IV × Hp) :=
  lenS x29 fun x31 => ltS EE 3 x27 x31 fun x32 => condS x32 (addS EE 9 x26 (.fv (.str ⟨#[32]⟩)) fun x33 => S16_91 x25 h24 x27 ih x33 q22) (addS EE 9 x26 (.fv (.str ⟨#[41]⟩)) fun x46 => outS1 [x46] h24)
noncomputable def S16_93 (l23 : List IV) (h24 : Hp) (ih : Handler) (q22 : List IV → Hp → Option (IV × Hp)) : Option (IV × Hp) :=
  uncS l23 fun x25 l47 => uncS l47 fun x26 l48 => uncS l48 fun x27 _ => faddrS 2 x25 fun x28 => load1 x28 h24 fun x29 _ => S16_92 x29 x27 x26 x25 h24 ih q22
noncomputable def S16_94 (x14 : IV) (n : Nat) (h15 : Hp) (x2 : IV) (ih : Handler) : Option (IV × Hp) :=
  addS EE 9 (.fv (.str ⟨#[40]⟩)) x14 fun x21 => loopS n (fun q22 l23 h24 => S16_93 l23 h24 ih q22) [x2, x21, .fv (.int .i64 0)] h15
noncomputable def S16_95 (x2 : IV) (h15 : Hp) (x14 : IV) (n : Nat) (ih : Handler) : Option (IV × Hp) :=
  faddrS 2 x2 fun x16 => load1 x16 h15 fun x17 _ => lenS x17 fun x19 => eqS EE 3 x19 (.fv (.int .i64 0)) fun x20 => condS x20 (outS1 [x14] h15) (S16_94 x14 n h15 x2 ih)
noncomputable def S16_96 (h10 : Hp) (x54 : IV) (ih : Handler) (j1_13 : IV → Hp → Option (IV × Hp)) : Option (IV × Hp) :=
  load1 x54 h10 fun x55 _ => isoS [] false false ih 24 [x55] h10 fun x57 h58 _ _ => addS EE 9 (.fv (.str ⟨#[118]⟩)) x57 fun x61 => j1_13 x61 h58
noncomputable def S16_97 (ih : Handler) (h10 : Hp) (x64 : IV) (j1_13 : IV → Hp → Option (IV × Hp)) : Option (IV × Hp) :=
  isoS [] false false ih 24 [x64] h10 fun x66 h67 _ _ => addS EE 9 (.fv (.str ⟨#[85]⟩)) x66 fun x70 => j1_13 x70 h67
noncomputable def S16_98 (x2 : IV) (h10 : Hp) (ih : Handler) (j1_13 : IV → Hp → Option (IV × Hp)) : Option (IV × Hp) :=
  faddrS 1 x2 fun x72 => load1 x72 h10 fun x73 _ => isoS [] false false ih 24 [x73] h10 fun x75 h76 _ _ => addS EE 9 (.fv (.str ⟨#[105]⟩)) x75 fun x79 => j1_13 x79 h76
noncomputable def S16_99 (h10 : Hp) (x82 : IV) (ih : Handler) (x81 : IV) (j1_13 : IV → Hp → Option (IV × Hp)) : Option (IV × Hp) :=
  load1 x82 h10 fun x83 _ => isoS [] false false ih 24 [x83] h10 fun x85 h86 _ _ => addS EE 9 x81 x85 fun x89 => j1_13 x89 h86
noncomputable def S16_100 (x51 : IV) (x9 : IV) (x2 : IV) (h10 : Hp) (ih : Handler) (j1_13 : IV → Hp → Option (IV × Hp)) : Option (IV × Hp) :=
  eqS EE 3 x51 (.fv (.int .i64 26)) fun x80 => condS x80 (addS EE 9 x9 (.fv (.str ⟨#[47]⟩)) fun x81 => faddrS 1 x2 fun x82 => S16_99 h10 x82 ih x81 j1_13) (j1_13 x9 h10)
noncomputable def S16_101 (x62 : IV) (x2 : IV) (h10 : Hp) (ih : Handler) (j1_13 : IV → Hp → Option (IV × Hp)) (x51 : IV) (x9 : IV) : Option (IV × Hp) :=
  condS x62 (faddrS 1 x2 fun x63 => load1 x63 h10 fun x64 _ => S16_97 ih h10 x64 j1_13) (eqS EE 3 x51 (.fv (.int .i64 25)) fun x71 => condS x71 (S16_98 x2 h10 ih j1_13) (S16_100 x51 x9 x2 h10 ih j1_13))
noncomputable def S16_102 (h10 : Hp) (x50 : IV) (x2 : IV) (ih : Handler) (j1_13 : IV → Hp → Option (IV × Hp)) (x9 : IV) : Option (IV × Hp) :=
  load1 x50 h10 fun x51 _ => eqS EE 3 x51 (.fv (.int .i64 1)) fun x53 => condS x53 (faddrS 1 x2 fun x54 => S16_96 h10 x54 ih j1_13) (eqS EE 3 x51 (.fv (.int .i64 2)) fun x62 => S16_101 x62 x2 h10 ih j1_13 x51 x9)
noncomputable def S16 (ih : Handler) (n : Nat) (x0 : IV) (h1 : Hp) : Option (IV × Hp) :=
  boxS 16777216 x0 h1 fun x2 h3 _ _ => faddrS 0 x2 fun x6 => load1 x6 h3 fun x7 _ => isoS [] false false ih 24 [x7] h3 fun x9 h10 _ _ => (fun (j1_13 : IV → Hp → Option (IV × Hp)) => faddrS 0 x2 fun x50 => S16_102 h10 x50 x2 ih j1_13 x9) fun x14 h15 => S16_95 x2 h15 x14 n ih
theorem S16_ok (ih : Handler) (n : Nat) (x0 : IV) (h1 : Hp) : funS EE ih ft.get n 16 [x0] h1 = S16 ih n x0 h1 := by kernel_rfl
/-! Function 17. -/
noncomputable def S17_44 (h40 : Hp) (x3 : IV) : Option (IV × Hp) :=
  cellS true 3 x3 h40 fun x43 => outS1 [x43] h40
noncomputable def S17_45 (h21 : Hp) (x7 : IV) (x20 : IV) (ih : Handler) (x3 : IV) : Option (IV × Hp) :=
  genS (pcBuildSlice EE 23 2 [(0, x7), (1, x20)]) 17826823 h21 fun x24 h25 _ _ => isoS [] false false ih 8 [.fv (.int .i64 5), x24] h25 fun x28 h29 _ _ => genS (pcBuildSlice EE 23 1 [(0, x28)]) 17826825 h29 fun x32 h33 _ _ => isoS [] false false ih 8 [.fv (.int .i64 30), x32] h33 fun x36 h37 _ _ => storeA 3 x3 x36 h37 fun h40 _ _ => S17_44 h40 x3
noncomputable def S17 (ih : Handler) (n : Nat) (x0 : IV) (x1 : IV) (h2 : Hp) : Option (IV × Hp) :=
  newS 17825792 (.row [.fv (.int .i64 0), .fv (.int .i64 0), .nils] false) (.ptr (.own 17825792) 0) h2 fun x3 h4 _ _ => isoS [] false false ih 9 [x1] h4 fun x7 h8 _ _ => subS EE 3 x0 (.fv (.int .i64 2)) fun x11 => isoS [] false false ih 9 [x11] h8 fun x12 h13 _ _ => genS (pcBuildSlice EE 23 1 [(0, x12)]) 17826821 h13 fun x16 h17 _ _ => isoS [] false false ih 8 [.fv (.int .i64 19), x16] h17 fun x20 h21 _ _ => S17_45 h21 x7 x20 ih x3
theorem S17_ok (ih : Handler) (n : Nat) (x0 : IV) (x1 : IV) (h2 : Hp) : funS EE ih ft.get n 17 [x0, x1] h2 = S17 ih n x0 x1 h2 := by kernel_rfl
/-! Function 18. -/
noncomputable def S18 (ih : Handler) (n : Nat) (x0 : IV) (x1 : IV) (h2 : Hp) : Option (IV × Hp) :=
  newS 18874368 (.row [.fv (.int .i64 0), .fv (.int .i64 0), .nils] false) (.ptr (.own 18874368) 0) h2 fun x3 h4 _ _ => bldS [.fv (.int .i64 0), .fv (.int .i64 0), .nils] [(0, 1, x0), (2, 1, x1)] fun x7 => storeA 3 x3 x7 h4 fun h8 _ _ => cellS true 3 x3 h8 fun x11 => outS1 [x11] h8
theorem S18_ok (ih : Handler) (n : Nat) (x0 : IV) (x1 : IV) (h2 : Hp) : funS EE ih ft.get n 18 [x0, x1] h2 = S18 ih n x0 x1 h2 := by kernel_rfl
/-! Function 19. -/
noncomputable def S19_78 (h51 : Hp) (x8 : IV) (x55 : IV) : Option (IV × Hp) :=
  storeA 3 x8 x55 h51 fun h56 _ _ => cellS true 3 x8 h56 fun x59 => outS1 [x59, .fv (.int .i64 1)] h56
noncomputable def S19_79 (x68 : IV) (h69 : Hp) (x8 : IV) (x72 : IV) : Option (IV × Hp) :=
  extS 1 x68 fun x73 => storeA 3 x8 x72 h69 fun h74 _ _ => cellS true 3 x8 h74 fun x77 => outS1 [x77, x73] h74
noncomputable def S19_80 (ih : Handler) (h51 : Hp) (x0 : IV) (x1 : IV) (x60 : IV) (x8 : IV) : Option (IV × Hp) :=
  isoS [] false false ih 29 [x0, x1, x60] h51 fun x62 h63 _ _ => extS 0 x62 fun x66 => extS 1 x62 fun x67 => isoS [] false false ih 28 [x66, x67] h63 fun x68 h69 _ _ => extS 0 x68 fun x72 => S19_79 x68 h69 x8 x72
noncomputable def S19_81 (h46 : Hp) (x43 : IV) (ih : Handler) (x45 : IV) (x8 : IV) (x4 : IV) (x0 : IV) (x1 : IV) : Option (IV × Hp) :=
  guardS x43 false h46 (fun k49 => isoS [] false false ih 26 [x45, .fv (.func (.func 27) [] [])] h46 k49) fun x50 h51 _ _ => pickS x43 (.fv (.bool true)) x50 fun x54 => condS x54 (bldS [.fv (.int .i64 0), .fv (.int .i64 0), .nils] [] fun x55 => S19_78 h51 x8 x55) (loadA 3 x4 h51 fun x60 _ => S19_80 ih h51 x0 x1 x60 x8)
noncomputable def S19_82 (h21 : Hp) (x24 : IV) (x4 : IV) (ih : Handler) (x0 : IV) (x8 : IV) (x1 : IV) : Option (IV × Hp) :=
  guardS x24 false h21 (fun k25 => loadA 3 x4 h21 fun x26 r27 => k25 x26 h21 r27 []) fun x28 h29 _ _ => guardS x24 false h29 (fun k32 => isoS [] false false ih 25 [x28] h29 k32) fun x33 h34 _ _ => guardS x24 false h34 (fun k37 => neS EE 39 x33 (.fv (.int .i64 0)) fun x38 => k37 x38 h34 [] []) fun x39 h40 _ _ => pickS x24 (.fv (.bool true)) x39 fun x43 => guardS x43 false h40 (fun k44 => k44 x0 h40 [] []) fun x45 h46 _ _ => S19_81 h46 x43 ih x45 x8 x4 x0 x1
noncomputable def S19 (ih : Handler) (n : Nat) (x0 : IV) (x1 : IV) (x2 : IV) (h3 : Hp) : Option (IV × Hp) :=
  boxS 19922944 x2 h3 fun x4 h5 _ _ => newS 19922945 (.row [.fv (.int .i64 0), .fv (.int .i64 0), .nils] false) (.ptr (.own 19922945) 0) h5 fun x8 h9 _ _ => neS EE 3 x1 (.fv (.int .i64 0)) fun x12 => guardS x12 true h9 (fun k13 => k13 x1 h9 [] []) fun x14 h15 _ _ => guardS x12 true h15 (fun k18 => neS EE 3 x14 (.fv (.int .i64 1)) fun x19 => k18 x19 h15 [] []) fun x20 h21 _ _ => pickS x12 x20 (.fv (.bool false)) fun x24 => S19_82 h21 x24 x4 ih x0 x8 x1
theorem S19_ok (ih : Handler) (n : Nat) (x0 : IV) (x1 : IV) (x2 : IV) (h3 : Hp) : funS EE ih ft.get n 19 [x0, x1, x2] h3 = S19 ih n x0 x1 x2 h3 := by kernel_rfl
/-! Function 20. -/
noncomputable def S20 (ih : Handler) (n : Nat) (x0 : IV) (h1 : Hp) : Option (IV × Hp) :=
  newS 20971520 (.row [.fv (.int .i64 0), .fv (.int .i64 0), .nils] false) (.ptr (.own 20971520) 0) h1 fun x2 h3 _ _ => bldS [.fv (.int .i64 0), .fv (.int .i64 0), .nils] [(0, 1, .fv (.int .i64 1)), (1, 1, x0)] fun x6 => storeA 3 x2 x6 h3 fun h7 _ _ => cellS true 3 x2 h7 fun x10 => outS1 [x10] h7
theorem S20_ok (ih : Handler) (n : Nat) (x0 : IV) (h1 : Hp) : funS EE ih ft.get n 20 [x0] h1 = S20 ih n x0 h1 := by kernel_rfl
/-! Function 21. -/
noncomputable def S21_128 (x101 : IV) (q96 : List IV → Hp → Option (IV × Hp)) (h120 : Hp) (x99 : IV) (x100 : IV) : Option (IV × Hp) :=
  addS EE 3 x101 (.fv (.int .i64 1)) fun x124 => q96 [x99, x100, x124] h120
noncomputable def S21_129 (r118 : List Ref) (r112 : List Ref) (r109 : List Ref) (ih : Handler) (h98 : Hp) (x111 : IV) (x117 : IV) (x101 : IV) (q96 : List IV → Hp → Option (IV × Hp)) (x99 : IV) (x100 : IV) : Option (IV × Hp) :=
  chkS [(r112, []), (r109, [])] r118 [] (isoS [] false false ih 21 [x111, x117] h98 fun x119 h120 r121 w122 => chkS [] r121 w122 (optS (unR .not x119) fun x123 => condS x123 (outS1 [.fv (.bool false)] h120) (S21_128 x101 q96 h120 x99 x100)))
noncomputable def S21_130 (x100 : IV) (h98 : Hp) (r112 : List Ref) (r109 : List Ref) (x101 : IV) (ih : Handler) (x111 : IV) (q96 : List IV → Hp → Option (IV × Hp)) (x99 : IV) : Option (IV × Hp) :=
  faddrS 2 x100 fun x113 => load1 x113 h98 fun x114 r115 => chkS [(r112, []), (r109, [])] r115 [] (ixS 3 x114 x101 fun x116 => loadA 3 x116 h98 fun x117 r118 => S21_129 r118 r112 r109 ih h98 x111 x117 x101 q96 x99 x100)
noncomputable def S21_131 (h98 : Hp) (x107 : IV) (x101 : IV) (x100 : IV) (ih : Handler) (q96 : List IV → Hp → Option (IV × Hp)) (x99 : IV) : Option (IV × Hp) :=
  load1 x107 h98 fun x108 r109 => chkS [] r109 [] (ixS 3 x108 x101 fun x110 => loadA 3 x110 h98 fun x111 r112 => chkS [] r112 [] (S21_130 x100 h98 r112 r109 x101 ih x111 q96 x99))
noncomputable def S21_132 (x103 : IV) (x101 : IV) (x99 : IV) (h98 : Hp) (x100 : IV) (ih : Handler) (q96 : List IV → Hp → Option (IV × Hp)) : Option (IV × Hp) :=
  lenS x103 fun x105 => ltS EE 3 x101 x105 fun x106 => condS x106 (faddrS 2 x99 fun x107 => S21_131 h98 x107 x101 x100 ih q96 x99) (outS1 [.fv (.bool true)] h98)
noncomputable def S21_133 (l97 : List IV) (h98 : Hp) (ih : Handler) (q96 : List IV → Hp → Option (IV × Hp)) : Option (IV × Hp) :=
  uncS l97 fun x99 l125 => uncS l125 fun x100 l126 => uncS l126 fun x101 _ => faddrS 2 x99 fun x102 => load1 x102 h98 fun x103 _ => S21_132 x103 x101 x99 h98 x100 ih q96
noncomputable def S21_134 (x95 : IV) (h92 : Hp) (n : Nat) (x3 : IV) (x7 : IV) (ih : Handler) : Option (IV × Hp) :=
  condS x95 (outS1 [.fv (.bool false)] h92) (loopS n (fun q96 l97 h98 => S21_133 l97 h98 ih q96) [x3, x7, .fv (.int .i64 0)] h92)
noncomputable def S21_135 (h67 : Hp) (x50 : IV) (x7 : IV) (x66 : IV) (n : Nat) (x3 : IV) (ih : Handler) : Option (IV × Hp) :=
  guardS x50 false h67 (fun k70 => faddrS 2 x7 fun x71 => k70 x71 h67 [] []) fun x72 h73 _ _ => guardS x50 false h73 (fun k76 => load1 x72 h73 fun x77 r78 => k76 x77 h73 r78 []) fun x79 h80 _ _ => guardS x50 false h80 (fun k83 => lenS x79 fun x84 => k83 x84 h80 [] []) fun x85 h86 _ _ => guardS x50 false h86 (fun k89 => neS EE 3 x66 x85 fun x90 => k89 x90 h86 [] []) fun x91 h92 _ _ => pickS x50 (.fv (.bool true)) x91 fun x95 => S21_134 x95 h92 n x3 x7 ih
noncomputable def S21_136 (h41 : Hp) (x17 : IV) (x27 : IV) (x40 : IV) (x3 : IV) (x7 : IV) (n : Nat) (ih : Handler) : Option (IV × Hp) :=
  guardS x17 false h41 (fun k44 => neS EE 3 x27 x40 fun x45 => k44 x45 h41 [] []) fun x46 h47 _ _ => pickS x17 (.fv (.bool true)) x46 fun x50 => guardS x50 false h47 (fun k51 => faddrS 2 x3 fun x52 => k51 x52 h47 [] []) fun x53 h54 _ _ => guardS x50 false h54 (fun k57 => load1 x53 h54 fun x58 r59 => k57 x58 h54 r59 []) fun x60 h61 _ _ => guardS x50 false h61 (fun k64 => lenS x60 fun x65 => k64 x65 h61 [] []) fun x66 h67 _ _ => S21_135 h67 x50 x7 x66 n x3 ih
noncomputable def S21_137 (x12 : IV) (x15 : IV) (h8 : Hp) (x3 : IV) (x7 : IV) (n : Nat) (ih : Handler) : Option (IV × Hp) :=
  neS EE 3 x12 x15 fun x17 => guardS x17 false h8 (fun k18 => faddrS 1 x3 fun x19 => k18 x19 h8 [] []) fun x20 h21 _ _ => guardS x17 false h21 (fun k24 => load1 x20 h21 fun x25 r26 => k24 x25 h21 r26 []) fun x27 h28 _ _ => guardS x17 false h28 (fun k31 => faddrS 1 x7 fun x32 => k31 x32 h28 [] []) fun x33 h34 _ _ => guardS x17 false h34 (fun k37 => load1 x33 h34 fun x38 r39 => k37 x38 h34 r39 []) fun x40 h41 _ _ => S21_136 h41 x17 x27 x40 x3 x7 n ih
noncomputable def S21 (ih : Handler) (n : Nat) (x0 : IV) (x1 : IV) (h2 : Hp) : Option (IV × Hp) :=
  boxS 22020096 x0 h2 fun x3 h4 _ _ => boxS 22020097 x1 h4 fun x7 h8 _ _ => faddrS 0 x3 fun x11 => load1 x11 h8 fun x12 _ => faddrS 0 x7 fun x14 => load1 x14 h8 fun x15 _ => S21_137 x12 x15 h8 x3 x7 n ih
theorem S21_ok (ih : Handler) (n : Nat) (x0 : IV) (x1 : IV) (h2 : Hp) : funS EE ih ft.get n 21 [x0, x1] h2 = S21 ih n x0 x1 h2 := by kernel_rfl
/-! Function 22. -/
noncomputable def S22_37 (h25 : Hp) (x9 : IV) (ih : Handler) (x29 : IV) : Option (IV × Hp) :=
  loadA 3 x9 h25 fun x31 _ => isoS [] false false ih 30 [x29, x31] h25 fun x33 h34 _ _ => outS1 [x33] h34
noncomputable def S22_38 (h16 : Hp) (x19 : IV) (x20 : IV) (x9 : IV) (ih : Handler) : Option (IV × Hp) :=
  newS 23069703 (.row [.fv (.int .i64 0), .fv (.int .i64 0), .nils] false) (.ptr (.own 23069703) 0) h16 fun x21 h22 _ _ => storeA 3 x21 x19 h22 fun h25 _ _ => neS EE 39 x20 (.fv (.int .i64 0)) fun x28 => condS x28 (outS1 [x20] h25) (loadA 3 x21 h25 fun x29 _ => S22_37 h25 x9 ih x29)
noncomputable def S22 (ih : Handler) (n : Nat) (x0 : IV) (x1 : IV) (x2 : IV) (x3 : IV) (h4 : Hp) : Option (IV × Hp) :=
  boxS 23068672 x2 h4 fun x5 h6 _ _ => boxS 23068673 x3 h6 fun x9 h10 _ _ => loadA 3 x5 h10 fun x13 _ => isoS [] false false ih 19 [x0, x1, x13] h10 fun x15 h16 _ _ => extS 0 x15 fun x19 => extS 1 x15 fun x20 => S22_38 h16 x19 x20 x9 ih
theorem S22_ok (ih : Handler) (n : Nat) (x0 : IV) (x1 : IV) (x2 : IV) (x3 : IV) (h4 : Hp) : funS EE ih ft.get n 22 [x0, x1, x2, x3] h4 = S22 ih n x0 x1 x2 x3 h4 := by kernel_rfl
/-! Function 23. -/
noncomputable def S23_16 (ih : Handler) (h1 : Hp) (x0 : IV) : Option (IV × Hp) :=
  isoS [] false false ih 32 [x0] h1 fun x8 h9 _ _ => outS1 [x8] h9
noncomputable def S23_17 (ih : Handler) (h1 : Hp) (x0 : IV) : Option (IV × Hp) :=
  isoS [] false false ih 33 [x0] h1 fun x12 h13 _ _ => outS1 [x12] h13
noncomputable def S23 (ih : Handler) (n : Nat) (x0 : IV) (h1 : Hp) : Option (IV × Hp) :=
  leS EE 39 x0 (.fv (.int .i64 5)) fun x2 => condS x2 (isoS [] false false ih 31 [x0] h1 fun x3 h4 _ _ => outS1 [x3] h4) (leS EE 39 x0 (.fv (.int .i64 13)) fun x7 => condS x7 (S23_16 ih h1 x0) (S23_17 ih h1 x0))
theorem S23_ok (ih : Handler) (n : Nat) (x0 : IV) (h1 : Hp) : funS EE ih ft.get n 23 [x0] h1 = S23 ih n x0 h1 := by kernel_rfl
/-! Function 24. -/
noncomputable def S24_29 (x0 : IV) (ih : Handler) (h1 : Hp) : Option (IV × Hp) :=
  subS EE 3 (.fv (.int .i64 0)) x0 fun x4 => isoS [] false false ih 24 [x4] h1 fun x5 h6 _ _ => addS EE 9 (.fv (.str ⟨#[45]⟩)) x5 fun x9 => outS1 [x9] h6
noncomputable def S24_30 (x0 : IV) (ih : Handler) (h1 : Hp) : Option (IV × Hp) :=
  binS EE 3 .quo x0 (.fv (.int .i64 10)) fun x11 => isoS [] false false ih 24 [x11] h1 fun x12 h13 _ _ => binS EE 3 .rem x0 (.fv (.int .i64 10)) fun x16 => isoS [] false false ih 24 [x16] h13 fun x17 h18 _ _ => addS EE 9 x12 x17 fun x21 => outS1 [x21] h18
noncomputable def S24_31 (x0 : IV) (h1 : Hp) : Option (IV × Hp) :=
  addS EE 3 (.fv (.int .i64 48)) x0 fun x22 => optS (convR EE 3 5 x22) fun x23 => genS (pcBuildSlice EE 54 1 [(0, x23)]) 25172995 h1 fun x24 h25 _ _ => optS (convR EE 54 9 x24) fun x28 => outS1 [x28] h25
noncomputable def S24 (ih : Handler) (n : Nat) (x0 : IV) (h1 : Hp) : Option (IV × Hp) :=
  ltS EE 3 x0 (.fv (.int .i64 0)) fun x2 => condS x2 (eqS EE 3 x0 (.fv (.int .i64 (-9223372036854775808))) fun x3 => condS x3 (outS1 [.fv (.str ⟨#[45, 57, 50, 50, 51, 51, 55, 50, 48, 51, 54, 56, 53, 52, 55, 55, 53, 56, 48, 56]⟩)] h1) (S24_29 x0 ih h1)) (geS EE 3 x0 (.fv (.int .i64 10)) fun x10 => condS x10 (S24_30 x0 ih h1) (S24_31 x0 h1))
theorem S24_ok (ih : Handler) (n : Nat) (x0 : IV) (h1 : Hp) : funS EE ih ft.get n 24 [x0] h1 = S24 ih n x0 h1 := by kernel_rfl
/-! Function 25. -/
noncomputable def S25 (ih : Handler) (n : Nat) (x0 : IV) (h1 : Hp) : Option (IV × Hp) :=
  boxS 26214400 x0 h1 fun x2 h3 _ _ => loadA 3 x2 h3 fun x6 _ => newS 26215425 (.row [.fv (.int .i64 0)] false) (.ptr (.own 26215425) 0) h3 fun x8 h9 _ _ => isoS [false, true, false] false false ih 34 [x6, x8, .fv (.int .i64 1)] h9 fun x12 h13 _ _ => outS1 [x12] h13
theorem S25_ok (ih : Handler) (n : Nat) (x0 : IV) (h1 : Hp) : funS EE ih ft.get n 25 [x0] h1 = S25 ih n x0 h1 := by kernel_rfl
/-! Function 26. -/
noncomputable def S26 (ih : Handler) (n : Nat) (x0 : IV) (x1 : IV) (h2 : Hp) : Option (IV × Hp) :=
  isoS [] false false ih 35 [x0, x1] h2 fun x3 h4 _ _ => geS EE 3 x3 (.fv (.int .i64 0)) fun x7 => outS1 [x7] h4
theorem S26_ok (ih : Handler) (n : Nat) (x0 : IV) (x1 : IV) (h2 : Hp) : funS EE ih ft.get n 26 [x0, x1] h2 = S26 ih n x0 x1 h2 := by kernel_rfl
/-! Function 27. -/
noncomputable def S27 (ih : Handler) (n : Nat) (x0 : IV) (h1 : Hp) : Option (IV × Hp) :=
  boxS 28311552 x0 h1 fun x2 h3 _ _ => faddrS 1 x2 fun x6 => loadA 3 x6 h3 fun x7 _ => isoS [] false false ih 25 [x7] h3 fun x9 h10 _ _ => neS EE 39 x9 (.fv (.int .i64 0)) fun x13 => outS1 [x13] h10
theorem S27_ok (ih : Handler) (n : Nat) (x0 : IV) (h1 : Hp) : funS EE ih ft.get n 27 [x0] h1 = S27 ih n x0 h1 := by kernel_rfl
/-! Function 28. -/
noncomputable def S28_29 (h8 : Hp) (x7 : IV) (x12 : IV) (x1 : IV) : Option (IV × Hp) :=
  storeA 3 x7 x12 h8 fun h13 _ _ => cellS true 3 x7 h13 fun x16 => outS1 [x16, x1] h13
noncomputable def S28_30 (ih : Handler) (h8 : Hp) (x17 : IV) (x7 : IV) : Option (IV × Hp) :=
  isoS [] false false ih 36 [x17] h8 fun x19 h20 _ _ => extS 0 x19 fun x23 => extS 1 x19 fun x24 => storeA 3 x7 x23 h20 fun h25 _ _ => cellS true 3 x7 h25 fun x28 => outS1 [x28, x24] h25
noncomputable def S28 (ih : Handler) (n : Nat) (x0 : IV) (x1 : IV) (h2 : Hp) : Option (IV × Hp) :=
  boxS 29360128 x0 h2 fun x3 h4 _ _ => newS 29360129 (.row [.fv (.int .i64 0), .fv (.int .i64 0), .nils] false) (.ptr (.own 29360129) 0) h4 fun x7 h8 _ _ => neS EE 39 x1 (.fv (.int .i64 0)) fun x11 => condS x11 (bldS [.fv (.int .i64 0), .fv (.int .i64 0), .nils] [] fun x12 => S28_29 h8 x7 x12 x1) (loadA 3 x3 h8 fun x17 _ => S28_30 ih h8 x17 x7)
theorem S28_ok (ih : Handler) (n : Nat) (x0 : IV) (x1 : IV) (h2 : Hp) : funS EE ih ft.get n 28 [x0, x1] h2 = S28 ih n x0 x1 h2 := by kernel_rfl
end Idl
end Go.Proofs.Ytnenpcghegcnhaa

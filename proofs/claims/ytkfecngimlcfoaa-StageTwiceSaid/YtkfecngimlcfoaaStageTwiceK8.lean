/-
  Texts of a proof, part 8: an ideal semantics of the program, its functions in shallow form, contracts of them. No statement of the seat is proved here.
-/
import Derived.Test.YtkfecngimlcfoaaStageTwiceK7
set_option linter.all false
set_option maxRecDepth 100000
set_option linter.unusedVariables false
namespace Go.Proofs.Ytkfecngimlcfoaa
namespace Idl
noncomputable def S2 (ih : Handler) (n : Nat) (h0 : Hp) : Option (IV × Hp) :=
  isoS [] false false ih 1 [] h0 fun _ h2 _ _ => outS1 [] h2
theorem S2_ok (ih : Handler) (n : Nat) (h0 : Hp) : funS EE ih ft.get n 2 [] h0 = S2 ih n h0 := by kernel_rfl
noncomputable def S3_270 (h260 : Hp) (x206 : IV) (x218 : IV) (x259 : IV) : Option (IV × Hp) :=
  guardS x206 true h260 (fun k263 => pickS x218 (.fv (.bool true)) x259 fun x264 => k263 x264 h260 [] []) fun x265 h266 _ _ => pickS x206 x265 (.fv (.bool false)) fun x269 => outS1 [x269] h266
noncomputable def S3_271 (h230 : Hp) (x218 : IV) (x229 : IV) (x179 : IV) (x54 : IV) (ih : Handler) (x206 : IV) : Option (IV × Hp) :=
  guardS x218 false h230 (fun k233 => k233 x229 h230 [] []) fun x234 h235 _ _ => guardS x234 true h235 (fun k238 => loadA 3 x179 h235 fun x239 r240 => k238 x239 h235 r240 []) fun x241 h242 _ _ => guardS x234 true h242 (fun k245 => loadA 3 x54 h242 fun x246 r247 => k245 x246 h242 r247 []) fun x248 h249 _ _ => guardS x234 true h249 (fun k252 => isoS [] false false ih 17 [x241, x248] h249 k252) fun x253 h254 _ _ => guardS x218 false h254 (fun k257 => pickS x234 x253 (.fv (.bool false)) fun x258 => k257 x258 h254 [] []) fun x259 h260 _ _ => S3_270 h260 x206 x218 x259
noncomputable def S3_272 (h203 : Hp) (x206 : IV) (x178 : IV) (ih : Handler) (x179 : IV) (x54 : IV) : Option (IV × Hp) :=
  guardS x206 true h203 (fun k207 => k207 x178 h203 [] []) fun x208 h209 _ _ => guardS x206 true h209 (fun k212 => isoS [] false false ih 15 [x208] h209 k212) fun x213 h214 _ _ => guardS x206 true h214 (fun k217 => k217 x213 h214 [] []) fun x218 h219 _ _ => guardS x218 false h219 (fun k222 => k222 x178 h219 [] []) fun x223 h224 _ _ => guardS x218 false h224 (fun k227 => eqS EE 3 x223 (.fv (.int .i64 0)) fun x228 => k227 x228 h224 [] []) fun x229 h230 _ _ => S3_271 h230 x218 x229 x179 x54 ih x206
noncomputable def S3_273 (x163 : IV) (h183 : Hp) (x164 : IV) (x54 : IV) (ih : Handler) (x178 : IV) (x179 : IV) : Option (IV × Hp) :=
  eqS EE 3 x163 (.fv (.int .i64 0)) fun x186 => guardS x186 true h183 (fun k187 => loadA 3 x164 h183 fun x188 r189 => k187 x188 h183 r189 []) fun x190 h191 _ _ => guardS x186 true h191 (fun k194 => loadA 3 x54 h191 fun x195 r196 => k194 x195 h191 r196 []) fun x197 h198 _ _ => guardS x186 true h198 (fun k201 => isoS [] false false ih 17 [x190, x197] h198 k201) fun x202 h203 _ _ => pickS x186 x202 (.fv (.bool false)) fun x206 => S3_272 h203 x206 x178 ih x179 x54
noncomputable def S3_274 (ih : Handler) (h168 : Hp) (x171 : IV) (x163 : IV) (x164 : IV) (x54 : IV) : Option (IV × Hp) :=
  isoS [] false false ih 20 [.nils, .fv (.int .i64 0), x171] h168 fun x173 h174 _ _ => extS 0 x173 fun x177 => extS 1 x173 fun x178 => newS 3159045 (.row [.fv (.int .i64 0), .fv (.int .i64 0), .nils] false) (.ptr (.own 3159045) 0) h174 fun x179 h180 _ _ => storeA 3 x179 x177 h180 fun h183 _ _ => S3_273 x163 h183 x164 x54 ih x178 x179
noncomputable def S3_275 (x158 : IV) (h159 : Hp) (x103 : IV) (ih : Handler) (x54 : IV) : Option (IV × Hp) :=
  extS 0 x158 fun x162 => extS 1 x158 fun x163 => newS 3158021 (.row [.fv (.int .i64 0), .fv (.int .i64 0), .nils] false) (.ptr (.own 3158021) 0) h159 fun x164 h165 _ _ => storeA 3 x164 x162 h165 fun h168 _ _ => loadA 3 x103 h168 fun x171 _ => S3_274 ih h168 x171 x163 x164 x54
noncomputable def S3_276 (x136 : IV) (x151 : IV) (h152 : Hp) (x103 : IV) (ih : Handler) (x54 : IV) : Option (IV × Hp) :=
  pickS x136 (.fv (.bool true)) x151 fun x155 => condS x155 (outS1 [.fv (.bool false)] h152) (loadA 3 x103 h152 fun x156 _ => isoS [] false false ih 19 [.nils, x156] h152 fun x158 h159 _ _ => S3_275 x158 h159 x103 ih x54)
noncomputable def S3_277 (h127 : Hp) (x110 : IV) (x126 : IV) (x103 : IV) (ih : Handler) (x54 : IV) : Option (IV × Hp) :=
  guardS x110 false h127 (fun k130 => optS (unR .not x126) fun x131 => k130 x131 h127 [] []) fun x132 h133 _ _ => pickS x110 (.fv (.bool true)) x132 fun x136 => guardS x136 false h133 (fun k137 => loadA 3 x103 h133 fun x138 r139 => k137 x138 h133 r139 []) fun x140 h141 _ _ => guardS x136 false h141 (fun k144 => isoS [] false false ih 18 [x140] h141 k144) fun x145 h146 _ _ => guardS x136 false h146 (fun k149 => optS (unR .not x145) fun x150 => k149 x150 h146 [] []) fun x151 h152 _ _ => S3_276 x136 x151 h152 x103 ih x54
noncomputable def S3_278 (h104 : Hp) (x103 : IV) (x101 : IV) (x102 : IV) (x76 : IV) (ih : Handler) (x54 : IV) : Option (IV × Hp) :=
  storeA 3 x103 x101 h104 fun h107 _ _ => neS EE 36 x102 (.fv (.int .i64 0)) fun x110 => guardS x110 false h107 (fun k111 => loadA 3 x103 h107 fun x112 r113 => k111 x112 h107 r113 []) fun x114 h115 _ _ => guardS x110 false h115 (fun k118 => loadA 3 x76 h115 fun x119 r120 => k118 x119 h115 r120 []) fun x121 h122 _ _ => guardS x110 false h122 (fun k125 => isoS [] false false ih 17 [x114, x121] h122 k125) fun x126 h127 _ _ => S3_277 h127 x110 x126 x103 ih x54
noncomputable def S3_279 (h91 : Hp) (x58 : IV) (ih : Handler) (x76 : IV) (x54 : IV) : Option (IV × Hp) :=
  loadA 3 x58 h91 fun x95 _ => isoS [] false false ih 16 [x95] h91 fun x97 h98 _ _ => extS 0 x97 fun x101 => extS 1 x97 fun x102 => newS 3154949 (.row [.fv (.int .i64 0), .fv (.int .i64 0), .nils] false) (.ptr (.own 3154949) 0) h98 fun x103 h104 _ _ => S3_278 h104 x103 x101 x102 x76 ih x54
noncomputable def S3_280 (x53 : IV) (h80 : Hp) (x75 : IV) (ih : Handler) (x58 : IV) (x76 : IV) (x54 : IV) : Option (IV × Hp) :=
  optS (unR .not x53) fun x83 => guardS x83 false h80 (fun k84 => k84 x75 h80 [] []) fun x85 h86 _ _ => guardS x83 false h86 (fun k89 => isoS [] false false ih 15 [x85] h86 k89) fun x90 h91 _ _ => pickS x83 (.fv (.bool true)) x90 fun x94 => condS x94 (outS1 [.fv (.bool true)] h91) (S3_279 h91 x58 ih x76 x54)
noncomputable def S3_281 (ih : Handler) (h65 : Hp) (x68 : IV) (x53 : IV) (x58 : IV) (x54 : IV) : Option (IV × Hp) :=
  isoS [] false false ih 14 [x68] h65 fun x70 h71 _ _ => extS 0 x70 fun x74 => extS 1 x70 fun x75 => newS 3151877 (.row [.fv (.int .i64 0), .fv (.int .i64 0), .nils] false) (.ptr (.own 3151877) 0) h71 fun x76 h77 _ _ => storeA 3 x76 x74 h77 fun h80 _ _ => S3_280 x53 h80 x75 ih x58 x76 x54
noncomputable def S3_282 (h47 : Hp) (x51 : IV) (x52 : IV) (ih : Handler) (x53 : IV) : Option (IV × Hp) :=
  newS 3150856 (.row [.fv (.int .i64 0), .fv (.int .i64 0), .nils] false) (.ptr (.own 3150856) 0) h47 fun x54 h55 _ _ => newS 3150857 (.row [.fv (.int .i64 0), .fv (.int .i64 0), .nils] false) (.ptr (.own 3150857) 0) h55 fun x58 h59 _ _ => storeA 3 x54 x51 h59 fun h62 _ _ => storeA 3 x58 x52 h62 fun h65 _ _ => loadA 3 x58 h65 fun x68 _ => S3_281 ih h65 x68 x53 x58 x54
noncomputable def S3_283 (ih : Handler) (h38 : Hp) (x42 : IV) (x44 : IV) : Option (IV × Hp) :=
  isoS [] false false ih 13 [.nils, x42, x44, .fv (.bool true)] h38 fun x46 h47 _ _ => extS 0 x46 fun _ => extS 1 x46 fun x51 => extS 2 x46 fun x52 => extS 3 x46 fun x53 => S3_282 h47 x51 x52 ih x53
noncomputable def S3_284 (x22 : IV) (x37 : IV) (h38 : Hp) (x3 : IV) (x7 : IV) (ih : Handler) : Option (IV × Hp) :=
  pickS x22 (.fv (.bool true)) x37 fun x41 => condS x41 (outS1 [.fv (.bool true)] h38) (loadA 3 x3 h38 fun x42 _ => loadA 3 x7 h38 fun x44 _ => S3_283 ih h38 x42 x44)
noncomputable def S3_285 (ih : Handler) (h12 : Hp) (x16 : IV) (x7 : IV) (x3 : IV) : Option (IV × Hp) :=
  isoS [] false false ih 12 [x16] h12 fun x18 h19 _ _ => optS (unR .not x18) fun x22 => guardS x22 false h19 (fun k23 => loadA 3 x7 h19 fun x24 r25 => k23 x24 h19 r25 []) fun x26 h27 _ _ => guardS x22 false h27 (fun k30 => isoS [] false false ih 12 [x26] h27 k30) fun x31 h32 _ _ => guardS x22 false h32 (fun k35 => optS (unR .not x31) fun x36 => k35 x36 h32 [] []) fun x37 h38 _ _ => S3_284 x22 x37 h38 x3 x7 ih
noncomputable def S3 (ih : Handler) (n : Nat) (x0 : IV) (x1 : IV) (h2 : Hp) : Option (IV × Hp) :=
  boxS 3145728 x0 h2 fun x3 h4 _ _ => boxS 3145729 x1 h4 fun x7 h8 _ _ => isoS [] false false ih 11 [] h8 fun x11 h12 _ _ => optS (unR .not x11) fun x15 => condS x15 (outS1 [.fv (.bool false)] h12) (loadA 3 x3 h12 fun x16 _ => S3_285 ih h12 x16 x7 x3)
theorem S3_ok (ih : Handler) (n : Nat) (x0 : IV) (x1 : IV) (h2 : Hp) : funS EE ih ft.get n 3 [x0, x1] h2 = S3 ih n x0 x1 h2 := by kernel_rfl
noncomputable def S8_209 (h195 : Hp) (x190 : IV) (x1 : IV) (ih : Handler) (x194 : IV) : Option (IV × Hp) :=
  guardS x190 true h195 (fun k198 => k198 x1 h195 [] []) fun x199 h200 _ _ => guardS x190 true h200 (fun k203 => isoS [] false false ih 32 [x194, x199] h200 k203) fun x204 h205 _ _ => pickS x190 x204 (.fv (.bool false)) fun x208 => outS1 [x208] h205
noncomputable def S8_210 (h169 : Hp) (x142 : IV) (x168 : IV) (x151 : IV) (x135 : IV) (x1 : IV) (ih : Handler) : Option (IV × Hp) :=
  guardS x142 true h169 (fun k172 => binS EE 3 .shl (.fv (.int .i64 1)) x168 fun x173 => k172 x173 h169 [] []) fun x174 h175 _ _ => guardS x142 true h175 (fun k178 => subS EE 3 x174 (.fv (.int .i64 1)) fun x179 => k178 x179 h175 [] []) fun x180 h181 _ _ => guardS x142 true h181 (fun k184 => eqS EE 3 x151 x180 fun x185 => k184 x185 h181 [] []) fun x186 h187 _ _ => pickS x142 x186 (.fv (.bool false)) fun x190 => guardS x190 true h187 (fun k191 => loadA 3 x135 h187 fun x192 r193 => k191 x192 h187 r193 []) fun x194 h195 _ _ => S8_209 h195 x190 x1 ih x194
noncomputable def S8_211 (h139 : Hp) (x142 : IV) (x135 : IV) (ih : Handler) (x8 : IV) (x1 : IV) : Option (IV × Hp) :=
  guardS x142 true h139 (fun k143 => loadA 3 x135 h139 fun x144 r145 => k143 x144 h139 r145 []) fun x146 h147 _ _ => guardS x142 true h147 (fun k150 => isoS [] false false ih 31 [x146] h147 k150) fun x151 h152 _ _ => guardS x142 true h152 (fun k155 => k155 x8 h152 [] []) fun x156 h157 _ _ => guardS x142 true h157 (fun k160 => addS EE 3 x156 (.fv (.int .i64 1)) fun x161 => k160 x161 h157 [] []) fun x162 h163 _ _ => guardS x142 true h163 (fun k166 => optS (convR EE 3 55 x162) fun x167 => k166 x167 h163 [] []) fun x168 h169 _ _ => S8_210 h169 x142 x168 x151 x135 x1 ih
noncomputable def S8_212 (x129 : IV) (h130 : Hp) (ih : Handler) (x8 : IV) (x1 : IV) : Option (IV × Hp) :=
  extS 0 x129 fun x133 => extS 1 x129 fun x134 => newS 8396805 (.row [.fv (.int .i64 0), .fv (.int .i64 0), .nils] false) (.ptr (.own 8396805) 0) h130 fun x135 h136 _ _ => storeA 3 x135 x133 h136 fun h139 _ _ => eqS EE 36 x134 (.fv (.int .i64 0)) fun x142 => S8_211 h139 x142 x135 ih x8 x1
noncomputable def S8_213 (r122 : List Ref) (w123 : List Ref) (r118 : List Ref) (w119 : List Ref) (r114 : List Ref) (w115 : List Ref) (r110 : List Ref) (w111 : List Ref) (r106 : List Ref) (w107 : List Ref) (r102 : List Ref) (w103 : List Ref) (r99 : List Ref) (r96 : List Ref) (w97 : List Ref) (r92 : List Ref) (w93 : List Ref) (r88 : List Ref) (w89 : List Ref) (r85 : List Ref) (h121 : Hp) (x120 : IV) (x116 : IV) (ih : Handler) (x8 : IV) (x1 : IV) : Option (IV × Hp) :=
  chkS [(r118, w119), (r114, w115), (r110, w111), (r106, w107), (r102, w103), (r99, []), (r96, w97), (r92, w93), (r88, w89), (r85, [])] r122 w123 (storeA 3 x120 x116 h121 fun h124 r125 w126 => chkS [] r125 w126 (loadA 3 x120 h124 fun x127 _ => isoS [] false false ih 16 [x127] h124 fun x129 h130 _ _ => S8_212 x129 h130 ih x8 x1))
noncomputable def S8_214 (h109 : Hp) (x108 : IV) (ih : Handler) (r110 : List Ref) (w111 : List Ref) (r106 : List Ref) (w107 : List Ref) (r102 : List Ref) (w103 : List Ref) (r99 : List Ref) (r96 : List Ref) (w97 : List Ref) (r92 : List Ref) (w93 : List Ref) (r88 : List Ref) (w89 : List Ref) (r85 : List Ref) (x8 : IV) (x1 : IV) : Option (IV × Hp) :=
  genS (pcBuildSlice EE 28 1 [(0, x108)]) 8395786 h109 fun x112 h113 r114 w115 => chkS [] r114 w115 (isoS [] false false ih 24 [.fv (.int .i64 30), x112] h113 fun x116 h117 r118 w119 => chkS [] r118 w119 (newS 8395788 (.row [.fv (.int .i64 0), .fv (.int .i64 0), .nils] false) (.ptr (.own 8395788) 0) h117 fun x120 h121 r122 w123 => S8_213 r122 w123 r118 w119 r114 w115 r110 w111 r106 w107 r102 w103 r99 r96 w97 r92 w93 r88 w89 r85 h121 x120 x116 ih x8 x1))
noncomputable def S8_215 (r102 : List Ref) (w103 : List Ref) (r99 : List Ref) (r85 : List Ref) (h101 : Hp) (x84 : IV) (x94 : IV) (x98 : IV) (x100 : IV) (ih : Handler) (r96 : List Ref) (w97 : List Ref) (r92 : List Ref) (w93 : List Ref) (r88 : List Ref) (w89 : List Ref) (x8 : IV) (x1 : IV) : Option (IV × Hp) :=
  chkS [(r99, []), (r85, [])] r102 w103 (genS (pcBuildSlice EE 28 4 [(0, x84), (1, x94), (2, x98), (3, x100)]) 8395784 h101 fun x104 h105 r106 w107 => chkS [] r106 w107 (isoS [] false false ih 24 [.fv (.int .i64 13), x104] h105 fun x108 h109 r110 w111 => chkS [] r110 w111 (S8_214 h109 x108 ih r110 w111 r106 w107 r102 w103 r99 r96 w97 r92 w93 r88 w89 r85 x8 x1)))
noncomputable def S8_216 (ih : Handler) (h91 : Hp) (x90 : IV) (r85 : List Ref) (x77 : IV) (r92 : List Ref) (w93 : List Ref) (r88 : List Ref) (w89 : List Ref) (x8 : IV) (x84 : IV) (x1 : IV) : Option (IV × Hp) :=
  isoS [] false false ih 24 [.fv (.int .i64 19), x90] h91 fun x94 h95 r96 w97 => chkS [(r85, [])] r96 w97 (loadA 3 x77 h95 fun x98 r99 => chkS [(r96, w97), (r92, w93), (r88, w89), (r85, [])] r99 [] (isoS [] false false ih 27 [x8] h95 fun x100 h101 r102 w103 => S8_215 r102 w103 r99 r85 h101 x84 x94 x98 x100 ih r96 w97 r92 w93 r88 w89 x8 x1))
noncomputable def S8_217 (r85 : List Ref) (ih : Handler) (h81 : Hp) (x1 : IV) (x77 : IV) (x8 : IV) (x84 : IV) : Option (IV × Hp) :=
  chkS [] r85 [] (isoS [] false false ih 26 [x1] h81 fun x86 h87 r88 w89 => chkS [(r85, [])] r88 w89 (genS (pcBuildSlice EE 28 1 [(0, x86)]) 8395779 h87 fun x90 h91 r92 w93 => chkS [(r85, [])] r92 w93 (S8_216 ih h91 x90 r85 x77 r92 w93 r88 w89 x8 x84 x1)))
noncomputable def S8_218 (h65 : Hp) (x68 : IV) (ih : Handler) (x33 : IV) (x1 : IV) (x8 : IV) : Option (IV × Hp) :=
  genS (pcBuildSlice EE 28 1 [(0, x68)]) 8394760 h65 fun x69 h70 _ _ => isoS [] false false ih 24 [.fv (.int .i64 19), x69] h70 fun x73 h74 _ _ => newS 8394762 (.row [.fv (.int .i64 0), .fv (.int .i64 0), .nils] false) (.ptr (.own 8394762) 0) h74 fun x77 h78 _ _ => storeA 3 x77 x73 h78 fun h81 _ _ => loadA 3 x33 h81 fun x84 r85 => S8_217 r85 ih h81 x1 x77 x8 x84
noncomputable def S8_219 (ih : Handler) (h49 : Hp) (x48 : IV) (x33 : IV) (x1 : IV) (x8 : IV) : Option (IV × Hp) :=
  isoS [] false false ih 25 [.fv (.int .i64 0)] h49 fun x52 h53 _ _ => genS (pcBuildSlice EE 28 1 [(0, x52)]) 8394756 h53 fun x56 h57 _ _ => isoS [] false false ih 24 [.fv (.int .i64 30), x56] h57 fun x60 h61 _ _ => genS (pcBuildSlice EE 28 2 [(0, x48), (1, x60)]) 8394758 h61 fun x64 h65 _ _ => bldS [.fv (.int .i64 0), .fv (.int .i64 0), .nils] [(0, 1, .fv (.int .i64 26)), (2, 1, x64)] fun x68 => S8_218 h65 x68 ih x33 x1 x8
noncomputable def S8_220 (h30 : Hp) (x29 : IV) (ih : Handler) (x1 : IV) (x8 : IV) : Option (IV × Hp) :=
  newS 8393731 (.row [.fv (.int .i64 0), .fv (.int .i64 0), .nils] false) (.ptr (.own 8393731) 0) h30 fun x33 h34 _ _ => storeA 3 x33 x29 h34 fun h37 _ _ => isoS [] false false ih 25 [.fv (.int .i64 0)] h37 fun x40 h41 _ _ => genS (pcBuildSlice EE 28 1 [(0, x40)]) 8394753 h41 fun x44 h45 _ _ => isoS [] false false ih 24 [.fv (.int .i64 30), x44] h45 fun x48 h49 _ _ => S8_219 ih h49 x48 x33 x1 x8
noncomputable def S8_221 (h13 : Hp) (x12 : IV) (ih : Handler) (x1 : IV) (x8 : IV) : Option (IV × Hp) :=
  newS 8392705 (.row [.fv (.int .i64 0), .fv (.int .i64 0), .nils] false) (.ptr (.own 8392705) 0) h13 fun x16 h17 _ _ => storeA 3 x16 x12 h17 fun h20 _ _ => loadA 3 x16 h20 fun x23 _ => genS (pcBuildSlice EE 28 1 [(0, x23)]) 8393729 h20 fun x25 h26 _ _ => isoS [] false false ih 24 [.fv (.int .i64 18), x25] h26 fun x29 h30 _ _ => S8_220 h30 x29 ih x1 x8
noncomputable def S8 (ih : Handler) (n : Nat) (x0 : IV) (x1 : IV) (h2 : Hp) : Option (IV × Hp) :=
  isoS [] false false ih 11 [] h2 fun x3 h4 _ _ => optS (unR .not x3) fun x7 => condS x7 (outS1 [.fv (.bool false)] h4) (isoS [] false false ih 23 [x0, .fv (.int .i64 9)] h4 fun x8 h9 _ _ => isoS [] false false ih 24 [.fv (.int .i64 15), .nils] h9 fun x12 h13 _ _ => S8_221 h13 x12 ih x1 x8)
theorem S8_ok (ih : Handler) (n : Nat) (x0 : IV) (x1 : IV) (h2 : Hp) : funS EE ih ft.get n 8 [x0, x1] h2 = S8 ih n x0 x1 h2 := by kernel_rfl
noncomputable def S11_70 (r61 : List Ref) (w62 : List Ref) (h60 : Hp) (x52 : IV) (x59 : IV) : Option (IV × Hp) :=
  chkS [] r61 w62 (guardS x52 true h60 (fun k63 => optS (unR .not x59) fun x64 => k63 x64 h60 [] []) fun x65 h66 _ _ => pickS x52 x65 (.fv (.bool false)) fun x69 => outS1 [x69] h66)
noncomputable def S11_71 (r50 : List Ref) (w51 : List Ref) (x34 : IV) (x48 : IV) (h49 : Hp) (ih : Handler) : Option (IV × Hp) :=
  chkS [] r50 w51 (pickS x34 x48 (.fv (.bool false)) fun x52 => guardS x52 true h49 (fun k53 => isoS [] false false ih 24 [.fv (.int .i64 10), .nils] h49 k53) fun x54 h55 r56 w57 => chkS [] r56 w57 (guardS x52 true h55 (fun k58 => isoS [] false false ih 18 [x54] h55 k58) fun x59 h60 r61 w62 => S11_70 r61 w62 h60 x52 x59))
noncomputable def S11_72 (h31 : Hp) (x34 : IV) (x27 : IV) (ih : Handler) : Option (IV × Hp) :=
  guardS x34 true h31 (fun k35 => loadA 3 x27 h31 fun x36 r37 => k35 x36 h31 r37 []) fun x38 h39 r40 w41 => chkS [] r40 w41 (guardS x34 true h39 (fun k42 => isoS [] false false ih 26 [.fv (.int .i64 3)] h39 k42) fun x43 h44 r45 w46 => chkS [(r40, w41)] r45 w46 (guardS x34 true h44 (fun k47 => isoS [] false false ih 17 [x38, x43] h44 k47) fun x48 h49 r50 w51 => S11_71 r50 w51 x34 x48 h49 ih))
noncomputable def S11_73 (x21 : IV) (h22 : Hp) (ih : Handler) : Option (IV × Hp) :=
  extS 0 x21 fun x25 => extS 1 x21 fun x26 => newS 11535369 (.row [.fv (.int .i64 0), .fv (.int .i64 0), .nils] false) (.ptr (.own 11535369) 0) h22 fun x27 h28 _ _ => storeA 3 x27 x25 h28 fun h31 _ _ => eqS EE 36 x26 (.fv (.int .i64 0)) fun x34 => S11_72 h31 x34 x27 ih
noncomputable def S11 (ih : Handler) (n : Nat) (h0 : Hp) : Option (IV × Hp) :=
  isoS [] false false ih 26 [.fv (.int .i64 3)] h0 fun x1 h2 _ _ => genS (pcBuildSlice EE 28 1 [(0, x1)]) 11535361 h2 fun x5 h6 _ _ => isoS [] false false ih 24 [.fv (.int .i64 19), x5] h6 fun x9 h10 _ _ => genS (pcBuildSlice EE 28 1 [(0, x9)]) 11535363 h10 fun x13 h14 _ _ => isoS [] false false ih 24 [.fv (.int .i64 30), x13] h14 fun x17 h18 _ _ => isoS [] false false ih 16 [x17] h18 fun x21 h22 _ _ => S11_73 x21 h22 ih
theorem S11_ok (ih : Handler) (n : Nat) (h0 : Hp) : funS EE ih ft.get n 11 [] h0 = S11 ih n h0 := by kernel_rfl
noncomputable def S12 (ih : Handler) (n : Nat) (x0 : IV) (h1 : Hp) : Option (IV × Hp) :=
  boxS 12582912 x0 h1 fun x2 h3 _ _ => loadA 3 x2 h3 fun x6 _ => isoS [] false false ih 36 [x6, .fv (.int .i64 300)] h3 fun x8 h9 _ _ => ltS EE 3 x8 (.fv (.int .i64 300)) fun x12 => outS1 [x12] h9
theorem S12_ok (ih : Handler) (n : Nat) (x0 : IV) (h1 : Hp) : funS EE ih ft.get n 12 [x0] h1 = S12 ih n x0 h1 := by kernel_rfl
noncomputable def S13_177 (r85 : List Ref) (w86 : List Ref) (h84 : Hp) (x13 : IV) (x17 : IV) (x21 : IV) : Option (IV × Hp) :=
  chkS [] r85 w86 (cellS true 3 x13 h84 fun x87 => cellS true 3 x17 h84 fun x88 => outS1 [x21, x87, x88, .fv (.bool false)] h84)
noncomputable def S13_178 (ih : Handler) (h71 : Hp) (r76 : List Ref) (x13 : IV) (x75 : IV) (x17 : IV) (x21 : IV) : Option (IV × Hp) :=
  isoS [] false false ih 26 [.fv (.int .i64 0)] h71 fun x77 h78 r79 w80 => chkS [(r76, [])] r79 w80 (storeA 3 x13 x75 h78 fun h81 r82 w83 => chkS [] r82 w83 (storeA 3 x17 x77 h81 fun h84 r85 w86 => S13_177 r85 w86 h84 x13 x17 x21))
noncomputable def S13_179 (r97 : List Ref) (w98 : List Ref) (h96 : Hp) (x13 : IV) (x17 : IV) (x21 : IV) : Option (IV × Hp) :=
  chkS [] r97 w98 (cellS true 3 x13 h96 fun x99 => cellS true 3 x17 h96 fun x100 => outS1 [x21, x99, x100, .fv (.bool true)] h96)
noncomputable def S13_180 (h71 : Hp) (x48 : IV) (r90 : List Ref) (x13 : IV) (x89 : IV) (x17 : IV) (x21 : IV) : Option (IV × Hp) :=
  loadA 3 x48 h71 fun x91 r92 => chkS [(r90, [])] r92 [] (storeA 3 x13 x89 h71 fun h93 r94 w95 => chkS [(r92, [])] r94 w95 (storeA 3 x17 x91 h93 fun h96 r97 w98 => S13_179 r97 w98 h96 x13 x17 x21))
noncomputable def S13_181 (x55 : IV) (x70 : IV) (h71 : Hp) (x31 : IV) (ih : Handler) (x13 : IV) (x17 : IV) (x21 : IV) (x48 : IV) : Option (IV × Hp) :=
  pickS x55 (.fv (.bool true)) x70 fun x74 => condS x74 (loadA 3 x31 h71 fun x75 r76 => chkS [] r76 [] (S13_178 ih h71 r76 x13 x75 x17 x21)) (loadA 3 x31 h71 fun x89 r90 => chkS [] r90 [] (S13_180 h71 x48 r90 x13 x89 x17 x21))
noncomputable def S13_182 (h49 : Hp) (x48 : IV) (x46 : IV) (x47 : IV) (ih : Handler) (x31 : IV) (x13 : IV) (x17 : IV) (x21 : IV) : Option (IV × Hp) :=
  storeA 3 x48 x46 h49 fun h52 _ _ => optS (unR .not x47) fun x55 => guardS x55 false h52 (fun k56 => loadA 3 x48 h52 fun x57 r58 => k56 x57 h52 r58 []) fun x59 h60 _ _ => guardS x55 false h60 (fun k63 => isoS [] false false ih 35 [x59] h60 k63) fun x64 h65 _ _ => guardS x55 false h65 (fun k68 => neS EE 3 x64 (.fv (.int .i64 0)) fun x69 => k68 x69 h65 [] []) fun x70 h71 _ _ => S13_181 x55 x70 h71 x31 ih x13 x17 x21 x48
noncomputable def S13_183 (h35 : Hp) (x5 : IV) (ih : Handler) (x21 : IV) (x38 : IV) (x31 : IV) (x13 : IV) (x17 : IV) : Option (IV × Hp) :=
  loadA 3 x5 h35 fun x40 _ => isoS [] false false ih 33 [x21, x38, x40, .fv (.int .i64 5)] h35 fun x42 h43 _ _ => extS 0 x42 fun x46 => extS 1 x42 fun x47 => newS 13635591 (.row [.fv (.int .i64 0), .fv (.int .i64 0), .nils] false) (.ptr (.own 13635591) 0) h43 fun x48 h49 _ _ => S13_182 h49 x48 x46 x47 ih x31 x13 x17 x21
noncomputable def S13_184 (h22 : Hp) (x9 : IV) (ih : Handler) (x5 : IV) (x21 : IV) (x13 : IV) (x17 : IV) : Option (IV × Hp) :=
  loadA 3 x9 h22 fun x25 _ => isoS [] false false ih 28 [x25, .fv (.int .i64 2)] h22 fun x27 h28 _ _ => newS 13634562 (.row [.fv (.int .i64 0), .fv (.int .i64 0), .nils] false) (.ptr (.own 13634562) 0) h28 fun x31 h32 _ _ => storeA 3 x31 x27 h32 fun h35 _ _ => loadA 3 x31 h35 fun x38 _ => S13_183 h35 x5 ih x21 x38 x31 x13 x17
noncomputable def S13_185 (r161 : List Ref) (w162 : List Ref) (h160 : Hp) (x13 : IV) (x17 : IV) (x21 : IV) : Option (IV × Hp) :=
  chkS [] r161 w162 (cellS true 3 x13 h160 fun x163 => cellS true 3 x17 h160 fun x164 => outS1 [x21, x163, x164, .fv (.bool false)] h160)
noncomputable def S13_186 (ih : Handler) (h147 : Hp) (r152 : List Ref) (x13 : IV) (x151 : IV) (x17 : IV) (x21 : IV) : Option (IV × Hp) :=
  isoS [] false false ih 24 [.fv (.int .i64 11), .nils] h147 fun x153 h154 r155 w156 => chkS [(r152, [])] r155 w156 (storeA 3 x13 x151 h154 fun h157 r158 w159 => chkS [] r158 w159 (storeA 3 x17 x153 h157 fun h160 r161 w162 => S13_185 r161 w162 h160 x13 x17 x21))
noncomputable def S13_187 (r173 : List Ref) (w174 : List Ref) (h172 : Hp) (x13 : IV) (x17 : IV) (x21 : IV) : Option (IV × Hp) :=
  chkS [] r173 w174 (cellS true 3 x13 h172 fun x175 => cellS true 3 x17 h172 fun x176 => outS1 [x21, x175, x176, .fv (.bool true)] h172)
noncomputable def S13_188 (h147 : Hp) (x124 : IV) (r166 : List Ref) (x13 : IV) (x165 : IV) (x17 : IV) (x21 : IV) : Option (IV × Hp) :=
  loadA 3 x124 h147 fun x167 r168 => chkS [(r166, [])] r168 [] (storeA 3 x13 x165 h147 fun h169 r170 w171 => chkS [(r168, [])] r170 w171 (storeA 3 x17 x167 h169 fun h172 r173 w174 => S13_187 r173 w174 h172 x13 x17 x21))
noncomputable def S13_189 (x131 : IV) (x146 : IV) (h147 : Hp) (x107 : IV) (ih : Handler) (x13 : IV) (x17 : IV) (x21 : IV) (x124 : IV) : Option (IV × Hp) :=
  pickS x131 (.fv (.bool true)) x146 fun x150 => condS x150 (loadA 3 x107 h147 fun x151 r152 => chkS [] r152 [] (S13_186 ih h147 r152 x13 x151 x17 x21)) (loadA 3 x107 h147 fun x165 r166 => chkS [] r166 [] (S13_188 h147 x124 r166 x13 x165 x17 x21))
noncomputable def S13_190 (h125 : Hp) (x124 : IV) (x122 : IV) (x123 : IV) (ih : Handler) (x107 : IV) (x13 : IV) (x17 : IV) (x21 : IV) : Option (IV × Hp) :=
  storeA 3 x124 x122 h125 fun h128 _ _ => optS (unR .not x123) fun x131 => guardS x131 false h128 (fun k132 => loadA 3 x124 h128 fun x133 r134 => k132 x133 h128 r134 []) fun x135 h136 _ _ => guardS x131 false h136 (fun k139 => isoS [] false false ih 35 [x135] h136 k139) fun x140 h141 _ _ => guardS x131 false h141 (fun k144 => neS EE 3 x140 (.fv (.int .i64 0)) fun x145 => k144 x145 h141 [] []) fun x146 h147 _ _ => S13_189 x131 x146 h147 x107 ih x13 x17 x21 x124
noncomputable def S13_191 (h111 : Hp) (x5 : IV) (ih : Handler) (x21 : IV) (x114 : IV) (x107 : IV) (x13 : IV) (x17 : IV) : Option (IV × Hp) :=
  loadA 3 x5 h111 fun x116 _ => isoS [] false false ih 39 [x21, x114, x116, .fv (.int .i64 5)] h111 fun x118 h119 _ _ => extS 0 x118 fun x122 => extS 1 x118 fun x123 => newS 13640711 (.row [.fv (.int .i64 0), .fv (.int .i64 0), .nils] false) (.ptr (.own 13640711) 0) h119 fun x124 h125 _ _ => S13_190 h125 x124 x122 x123 ih x107 x13 x17 x21
noncomputable def S13_192 (h22 : Hp) (x9 : IV) (ih : Handler) (x21 : IV) (x5 : IV) (x13 : IV) (x17 : IV) : Option (IV × Hp) :=
  loadA 3 x9 h22 fun x101 _ => isoS [] false false ih 38 [x21, x101, .fv (.int .i64 2)] h22 fun x103 h104 _ _ => newS 13639683 (.row [.fv (.int .i64 0), .fv (.int .i64 0), .nils] false) (.ptr (.own 13639683) 0) h104 fun x107 h108 _ _ => storeA 3 x107 x103 h108 fun h111 _ _ => loadA 3 x107 h111 fun x114 _ => S13_191 h111 x5 ih x21 x114 x107 x13 x17
noncomputable def S13 (ih : Handler) (n : Nat) (x0 : IV) (x1 : IV) (x2 : IV) (x3 : IV) (h4 : Hp) : Option (IV × Hp) :=
  boxS 13631488 x1 h4 fun x5 h6 _ _ => boxS 13631489 x2 h6 fun x9 h10 _ _ => newS 13631491 (.row [.fv (.int .i64 0), .fv (.int .i64 0), .nils] false) (.ptr (.own 13631491) 0) h10 fun x13 h14 _ _ => newS 13631492 (.row [.fv (.int .i64 0), .fv (.int .i64 0), .nils] false) (.ptr (.own 13631492) 0) h14 fun x17 h18 _ _ => isoS [] false false ih 37 [x0] h18 fun x21 h22 _ _ => condS x3 (S13_184 h22 x9 ih x5 x21 x13 x17) (S13_192 h22 x9 ih x21 x5 x13 x17)
theorem S13_ok (ih : Handler) (n : Nat) (x0 : IV) (x1 : IV) (x2 : IV) (x3 : IV) (h4 : Hp) : funS EE ih ft.get n 13 [x0, x1, x2, x3] h4 = S13 ih n x0 x1 x2 x3 h4 := by kernel_rfl
noncomputable def S14_37 (h22 : Hp) (x6 : IV) (x26 : IV) (x17 : IV) : Option (IV × Hp) :=
  storeA 3 x6 x26 h22 fun h27 _ _ => cellS true 3 x6 h27 fun x30 => outS1 [x30, x17] h27
noncomputable def S14_38 (h22 : Hp) (x6 : IV) (x31 : IV) : Option (IV × Hp) :=
  storeA 3 x6 x31 h22 fun h33 _ _ => cellS true 3 x6 h33 fun x36 => outS1 [x36, .fv (.int .i64 0)] h33
noncomputable def S14_39 (h13 : Hp) (x16 : IV) (x17 : IV) (x6 : IV) : Option (IV × Hp) :=
  newS 14681093 (.row [.fv (.int .i64 0), .fv (.int .i64 0), .nils] false) (.ptr (.own 14681093) 0) h13 fun x18 h19 _ _ => storeA 3 x18 x16 h19 fun h22 _ _ => neS EE 3 x17 (.fv (.int .i64 0)) fun x25 => condS x25 (bldS [.fv (.int .i64 0), .fv (.int .i64 0), .nils] [] fun x26 => S14_37 h22 x6 x26 x17) (loadA 3 x18 h22 fun x31 _ => S14_38 h22 x6 x31)
noncomputable def S14 (ih : Handler) (n : Nat) (x0 : IV) (h1 : Hp) : Option (IV × Hp) :=
  boxS 14680064 x0 h1 fun x2 h3 _ _ => newS 14680065 (.row [.fv (.int .i64 0), .fv (.int .i64 0), .nils] false) (.ptr (.own 14680065) 0) h3 fun x6 h7 _ _ => loadA 3 x2 h7 fun x10 _ => isoS [] false false ih 34 [x10] h7 fun x12 h13 _ _ => extS 0 x12 fun x16 => extS 1 x12 fun x17 => S14_39 h13 x16 x17 x6
theorem S14_ok (ih : Handler) (n : Nat) (x0 : IV) (h1 : Hp) : funS EE ih ft.get n 14 [x0] h1 = S14 ih n x0 h1 := by kernel_rfl
noncomputable def S15 (ih : Handler) (n : Nat) (x0 : IV) (h1 : Hp) : Option (IV × Hp) :=
  eqS EE 3 x0 (.fv (.int .i64 17)) fun x2 => guardS x2 false h1 (fun k3 => k3 x0 h1 [] []) fun x4 h5 _ _ => guardS x2 false h5 (fun k8 => eqS EE 3 x4 (.fv (.int .i64 5)) fun x9 => k8 x9 h5 [] []) fun x10 h11 _ _ => pickS x2 (.fv (.bool true)) x10 fun x14 => outS1 [x14] h11
theorem S15_ok (ih : Handler) (n : Nat) (x0 : IV) (h1 : Hp) : funS EE ih ft.get n 15 [x0] h1 = S15 ih n x0 h1 := by kernel_rfl
noncomputable def S16_61 (h13 : Hp) (x6 : IV) : Option (IV × Hp) :=
  bldS [.fv (.int .i64 0), .fv (.int .i64 0), .nils] [] fun x17 => storeA 3 x6 x17 h13 fun h18 _ _ => cellS true 3 x6 h18 fun x21 => outS1 [x21, .fv (.int .i64 1)] h18
noncomputable def S16_62 (h34 : Hp) (x6 : IV) (x38 : IV) (x29 : IV) : Option (IV × Hp) :=
  storeA 3 x6 x38 h34 fun h39 _ _ => cellS true 3 x6 h39 fun x42 => outS1 [x42, x29] h39
noncomputable def S16_63 (h46 : Hp) (x6 : IV) (x50 : IV) : Option (IV × Hp) :=
  storeA 3 x6 x50 h46 fun h51 _ _ => cellS true 3 x6 h51 fun x54 => outS1 [x54, .fv (.int .i64 10)] h51
noncomputable def S16_64 (h46 : Hp) (x6 : IV) (x55 : IV) : Option (IV × Hp) :=
  storeA 3 x6 x55 h46 fun h57 _ _ => cellS true 3 x6 h57 fun x60 => outS1 [x60, .fv (.int .i64 0)] h57
noncomputable def S16_65 (ih : Handler) (h34 : Hp) (x43 : IV) (x6 : IV) (x30 : IV) : Option (IV × Hp) :=
  isoS [] false false ih 18 [x43] h34 fun x45 h46 _ _ => optS (unR .not x45) fun x49 => condS x49 (bldS [.fv (.int .i64 0), .fv (.int .i64 0), .nils] [] fun x50 => S16_63 h46 x6 x50) (loadA 3 x30 h46 fun x55 _ => S16_64 h46 x6 x55)
noncomputable def S16_66 (h31 : Hp) (x30 : IV) (x28 : IV) (x29 : IV) (x6 : IV) (ih : Handler) : Option (IV × Hp) :=
  storeA 3 x30 x28 h31 fun h34 _ _ => neS EE 36 x29 (.fv (.int .i64 0)) fun x37 => condS x37 (bldS [.fv (.int .i64 0), .fv (.int .i64 0), .nils] [] fun x38 => S16_62 h34 x6 x38 x29) (loadA 3 x30 h34 fun x43 _ => S16_65 ih h34 x43 x6 x30)
noncomputable def S16_67 (h13 : Hp) (x2 : IV) (ih : Handler) (x6 : IV) : Option (IV × Hp) :=
  loadA 3 x2 h13 fun x22 _ => isoS [] false false ih 41 [x22] h13 fun x24 h25 _ _ => extS 0 x24 fun x28 => extS 1 x24 fun x29 => newS 16780293 (.row [.fv (.int .i64 0), .fv (.int .i64 0), .nils] false) (.ptr (.own 16780293) 0) h25 fun x30 h31 _ _ => S16_66 h31 x30 x28 x29 x6 ih
noncomputable def S16 (ih : Handler) (n : Nat) (x0 : IV) (h1 : Hp) : Option (IV × Hp) :=
  boxS 16777216 x0 h1 fun x2 h3 _ _ => newS 16777217 (.row [.fv (.int .i64 0), .fv (.int .i64 0), .nils] false) (.ptr (.own 16777217) 0) h3 fun x6 h7 _ _ => loadA 3 x2 h7 fun x10 _ => isoS [] false false ih 40 [x10] h7 fun x12 h13 _ _ => neS EE 36 x12 (.fv (.int .i64 0)) fun x16 => condS x16 (S16_61 h13 x6) (S16_67 h13 x2 ih x6)
theorem S16_ok (ih : Handler) (n : Nat) (x0 : IV) (h1 : Hp) : funS EE ih ft.get n 16 [x0] h1 = S16 ih n x0 h1 := by kernel_rfl
noncomputable def S17_128 (x101 : IV) (q96 : List IV → Hp → Option (IV × Hp)) (h120 : Hp) (x99 : IV) (x100 : IV) : Option (IV × Hp) :=
  addS EE 3 x101 (.fv (.int .i64 1)) fun x124 => q96 [x99, x100, x124] h120
noncomputable def S17_129 (r118 : List Ref) (r112 : List Ref) (r109 : List Ref) (ih : Handler) (h98 : Hp) (x111 : IV) (x117 : IV) (x101 : IV) (q96 : List IV → Hp → Option (IV × Hp)) (x99 : IV) (x100 : IV) : Option (IV × Hp) :=
  chkS [(r112, []), (r109, [])] r118 [] (isoS [] false false ih 17 [x111, x117] h98 fun x119 h120 r121 w122 => chkS [] r121 w122 (optS (unR .not x119) fun x123 => condS x123 (outS1 [.fv (.bool false)] h120) (S17_128 x101 q96 h120 x99 x100)))
noncomputable def S17_130 (x100 : IV) (h98 : Hp) (r112 : List Ref) (r109 : List Ref) (x101 : IV) (ih : Handler) (x111 : IV) (q96 : List IV → Hp → Option (IV × Hp)) (x99 : IV) : Option (IV × Hp) :=
  faddrS 2 x100 fun x113 => load1 x113 h98 fun x114 r115 => chkS [(r112, []), (r109, [])] r115 [] (ixS 3 x114 x101 fun x116 => loadA 3 x116 h98 fun x117 r118 => S17_129 r118 r112 r109 ih h98 x111 x117 x101 q96 x99 x100)
noncomputable def S17_131 (h98 : Hp) (x107 : IV) (x101 : IV) (x100 : IV) (ih : Handler) (q96 : List IV → Hp → Option (IV × Hp)) (x99 : IV) : Option (IV × Hp) :=
  load1 x107 h98 fun x108 r109 => chkS [] r109 [] (ixS 3 x108 x101 fun x110 => loadA 3 x110 h98 fun x111 r112 => chkS [] r112 [] (S17_130 x100 h98 r112 r109 x101 ih x111 q96 x99))
noncomputable def S17_132 (x103 : IV) (x101 : IV) (x99 : IV) (h98 : Hp) (x100 : IV) (ih : Handler) (q96 : List IV → Hp → Option (IV × Hp)) : Option (IV × Hp) :=
  lenS x103 fun x105 => ltS EE 3 x101 x105 fun x106 => condS x106 (faddrS 2 x99 fun x107 => S17_131 h98 x107 x101 x100 ih q96 x99) (outS1 [.fv (.bool true)] h98)
noncomputable def S17_133 (l97 : List IV) (h98 : Hp) (ih : Handler) (q96 : List IV → Hp → Option (IV × Hp)) : Option (IV × Hp) :=
  uncS l97 fun x99 l125 => uncS l125 fun x100 l126 => uncS l126 fun x101 _ => faddrS 2 x99 fun x102 => load1 x102 h98 fun x103 _ => S17_132 x103 x101 x99 h98 x100 ih q96
noncomputable def S17_134 (x95 : IV) (h92 : Hp) (n : Nat) (x3 : IV) (x7 : IV) (ih : Handler) : Option (IV × Hp) :=
  condS x95 (outS1 [.fv (.bool false)] h92) (loopS n (fun q96 l97 h98 => S17_133 l97 h98 ih q96) [x3, x7, .fv (.int .i64 0)] h92)
noncomputable def S17_135 (h67 : Hp) (x50 : IV) (x7 : IV) (x66 : IV) (n : Nat) (x3 : IV) (ih : Handler) : Option (IV × Hp) :=
  guardS x50 false h67 (fun k70 => faddrS 2 x7 fun x71 => k70 x71 h67 [] []) fun x72 h73 _ _ => guardS x50 false h73 (fun k76 => load1 x72 h73 fun x77 r78 => k76 x77 h73 r78 []) fun x79 h80 _ _ => guardS x50 false h80 (fun k83 => lenS x79 fun x84 => k83 x84 h80 [] []) fun x85 h86 _ _ => guardS x50 false h86 (fun k89 => neS EE 3 x66 x85 fun x90 => k89 x90 h86 [] []) fun x91 h92 _ _ => pickS x50 (.fv (.bool true)) x91 fun x95 => S17_134 x95 h92 n x3 x7 ih
noncomputable def S17_136 (h41 : Hp) (x17 : IV) (x27 : IV) (x40 : IV) (x3 : IV) (x7 : IV) (n : Nat) (ih : Handler) : Option (IV × Hp) :=
  guardS x17 false h41 (fun k44 => neS EE 3 x27 x40 fun x45 => k44 x45 h41 [] []) fun x46 h47 _ _ => pickS x17 (.fv (.bool true)) x46 fun x50 => guardS x50 false h47 (fun k51 => faddrS 2 x3 fun x52 => k51 x52 h47 [] []) fun x53 h54 _ _ => guardS x50 false h54 (fun k57 => load1 x53 h54 fun x58 r59 => k57 x58 h54 r59 []) fun x60 h61 _ _ => guardS x50 false h61 (fun k64 => lenS x60 fun x65 => k64 x65 h61 [] []) fun x66 h67 _ _ => S17_135 h67 x50 x7 x66 n x3 ih
noncomputable def S17_137 (x12 : IV) (x15 : IV) (h8 : Hp) (x3 : IV) (x7 : IV) (n : Nat) (ih : Handler) : Option (IV × Hp) :=
  neS EE 3 x12 x15 fun x17 => guardS x17 false h8 (fun k18 => faddrS 1 x3 fun x19 => k18 x19 h8 [] []) fun x20 h21 _ _ => guardS x17 false h21 (fun k24 => load1 x20 h21 fun x25 r26 => k24 x25 h21 r26 []) fun x27 h28 _ _ => guardS x17 false h28 (fun k31 => faddrS 1 x7 fun x32 => k31 x32 h28 [] []) fun x33 h34 _ _ => guardS x17 false h34 (fun k37 => load1 x33 h34 fun x38 r39 => k37 x38 h34 r39 []) fun x40 h41 _ _ => S17_136 h41 x17 x27 x40 x3 x7 n ih
noncomputable def S17 (ih : Handler) (n : Nat) (x0 : IV) (x1 : IV) (h2 : Hp) : Option (IV × Hp) :=
  boxS 17825792 x0 h2 fun x3 h4 _ _ => boxS 17825793 x1 h4 fun x7 h8 _ _ => faddrS 0 x3 fun x11 => load1 x11 h8 fun x12 _ => faddrS 0 x7 fun x14 => load1 x14 h8 fun x15 _ => S17_137 x12 x15 h8 x3 x7 n ih
theorem S17_ok (ih : Handler) (n : Nat) (x0 : IV) (x1 : IV) (h2 : Hp) : funS EE ih ft.get n 17 [x0, x1] h2 = S17 ih n x0 x1 h2 := by kernel_rfl
noncomputable def S18 (ih : Handler) (n : Nat) (x0 : IV) (h1 : Hp) : Option (IV × Hp) :=
  boxS 18874368 x0 h1 fun x2 h3 _ _ => bldS [.fv (.int .i64 0), .fv (.int .i64 0)] [(0, 1, .fv (.int .i64 20)), (1, 1, .fv (.int .i64 29))] fun x6 => loadA 3 x2 h3 fun x7 _ => isoS [] false false ih 42 [x6, x7] h3 fun x9 h10 _ _ => outS1 [x9] h10
theorem S18_ok (ih : Handler) (n : Nat) (x0 : IV) (h1 : Hp) : funS EE ih ft.get n 18 [x0] h1 = S18 ih n x0 h1 := by kernel_rfl
noncomputable def S19_38 (h23 : Hp) (x7 : IV) (x27 : IV) (x18 : IV) : Option (IV × Hp) :=
  storeA 3 x7 x27 h23 fun h28 _ _ => cellS true 3 x7 h28 fun x31 => outS1 [x31, x18] h28
noncomputable def S19_39 (h23 : Hp) (x7 : IV) (x32 : IV) : Option (IV × Hp) :=
  storeA 3 x7 x32 h23 fun h34 _ _ => cellS true 3 x7 h34 fun x37 => outS1 [x37, .fv (.int .i64 0)] h34
noncomputable def S19_40 (h14 : Hp) (x17 : IV) (x18 : IV) (x7 : IV) : Option (IV × Hp) :=
  newS 19923974 (.row [.fv (.int .i64 0), .fv (.int .i64 0), .nils] false) (.ptr (.own 19923974) 0) h14 fun x19 h20 _ _ => storeA 3 x19 x17 h20 fun h23 _ _ => neS EE 3 x18 (.fv (.int .i64 0)) fun x26 => condS x26 (bldS [.fv (.int .i64 0), .fv (.int .i64 0), .nils] [] fun x27 => S19_38 h23 x7 x27 x18) (loadA 3 x19 h23 fun x32 _ => S19_39 h23 x7 x32)
noncomputable def S19 (ih : Handler) (n : Nat) (x0 : IV) (x1 : IV) (h2 : Hp) : Option (IV × Hp) :=
  boxS 19922944 x1 h2 fun x3 h4 _ _ => newS 19922945 (.row [.fv (.int .i64 0), .fv (.int .i64 0), .nils] false) (.ptr (.own 19922945) 0) h4 fun x7 h8 _ _ => loadA 3 x3 h8 fun x11 _ => isoS [] false false ih 43 [x0, x11] h8 fun x13 h14 _ _ => extS 0 x13 fun x17 => extS 1 x13 fun x18 => S19_40 h14 x17 x18 x7
theorem S19_ok (ih : Handler) (n : Nat) (x0 : IV) (x1 : IV) (h2 : Hp) : funS EE ih ft.get n 19 [x0, x1] h2 = S19 ih n x0 x1 h2 := by kernel_rfl
noncomputable def S20_324 (ih : Handler) (h9 : Hp) (x8 : IV) : Option (IV × Hp) :=
  isoS [] false false ih 44 [.fv (.int .i64 8)] h9 fun x21 h22 _ _ => extS 0 x21 fun x25 => extS 1 x21 fun x26 => storeA 3 x8 x25 h22 fun h27 _ _ => cellS true 3 x8 h27 fun x30 => outS1 [x30, x26] h27
noncomputable def S20_325 (x51 : IV) (h52 : Hp) (x8 : IV) : Option (IV × Hp) :=
  extS 0 x51 fun x55 => extS 1 x51 fun x56 => storeA 3 x8 x55 h52 fun h57 _ _ => cellS true 3 x8 h57 fun x60 => outS1 [x60, x56] h57
noncomputable def S20_326 (ih : Handler) (h69 : Hp) (x68 : IV) (x8 : IV) : Option (IV × Hp) :=
  isoS [] false false ih 34 [x68] h69 fun x72 h73 _ _ => extS 0 x72 fun x76 => extS 1 x72 fun x77 => storeA 3 x8 x76 h73 fun h78 _ _ => cellS true 3 x8 h78 fun x81 => outS1 [x81, x77] h78
noncomputable def S20_327 (h44 : Hp) (x61 : IV) (x4 : IV) (ih : Handler) (x8 : IV) : Option (IV × Hp) :=
  loadA 3 x61 h44 fun x62 _ => faddrS 1 x4 fun x64 => load1 x64 h44 fun x65 _ => addS EE 3 x65 (.fv (.int .i64 1)) fun x67 => isoS [] false false ih 45 [x62, x67, .fv (.int .i64 0)] h44 fun x68 h69 _ _ => S20_326 ih h69 x68 x8
noncomputable def S20_328 (h44 : Hp) (x47 : IV) (x1 : IV) (ih : Handler) (x8 : IV) (x40 : IV) (x4 : IV) : Option (IV × Hp) :=
  load1 x47 h44 fun x48 _ => neS EE 3 x48 x1 fun x50 => condS x50 (isoS [] false false ih 44 [.fv (.int .i64 10)] h44 fun x51 h52 _ _ => S20_325 x51 h52 x8) (faddrS 1 x40 fun x61 => S20_327 h44 x61 x4 ih x8)
noncomputable def S20_329 (x0 : IV) (x36 : IV) (h9 : Hp) (x1 : IV) (ih : Handler) (x8 : IV) (x4 : IV) : Option (IV × Hp) :=
  ixS 4 x0 x36 fun x37 => loadA 4 x37 h9 fun x38 _ => newS 20975625 (.row [.fv (.int .i64 0), .fv (.int .i64 0), .fv (.int .i64 0), .nils] false) (.ptr (.own 20975625) 0) h9 fun x40 h41 _ _ => storeA 4 x40 x38 h41 fun h44 _ _ => faddrS 0 x40 fun x47 => S20_328 h44 x47 x1 ih x8 x40 x4
noncomputable def S20_330 (x0 : IV) (x4 : IV) (h9 : Hp) (x1 : IV) (ih : Handler) (x8 : IV) : Option (IV × Hp) :=
  lenS x0 fun x31 => subS EE 3 x31 (.fv (.int .i64 1)) fun x32 => faddrS 1 x4 fun x33 => load1 x33 h9 fun x34 _ => subS EE 3 x32 x34 fun x36 => S20_329 x0 x36 h9 x1 ih x8 x4
noncomputable def S20_331 (x4 : IV) (h9 : Hp) (x0 : IV) (ih : Handler) (x8 : IV) (x1 : IV) : Option (IV × Hp) :=
  faddrS 1 x4 fun x16 => load1 x16 h9 fun x17 _ => lenS x0 fun x19 => geS EE 3 x17 x19 fun x20 => condS x20 (S20_324 ih h9 x8) (S20_330 x0 x4 h9 x1 ih x8)
noncomputable def S20_332 (x88 : IV) (h89 : Hp) (x8 : IV) (x92 : IV) : Option (IV × Hp) :=
  extS 1 x88 fun x93 => storeA 3 x8 x92 h89 fun h94 _ _ => cellS true 3 x8 h94 fun x97 => outS1 [x97, x93] h94
noncomputable def S20_333 (h107 : Hp) (x8 : IV) (x106 : IV) : Option (IV × Hp) :=
  cellS true 3 x8 h107 fun x110 => outS1 [x110, x106] h107
noncomputable def S20_334 (h9 : Hp) (x4 : IV) (ih : Handler) (x0 : IV) (x8 : IV) : Option (IV × Hp) :=
  loadA 3 x4 h9 fun x99 _ => isoS [] false false ih 46 [x0, x99] h9 fun x101 h102 _ _ => extS 0 x101 fun x105 => extS 1 x101 fun x106 => storeA 3 x8 x105 h102 fun h107 _ _ => S20_333 h107 x8 x106
noncomputable def S20_335 (x119 : IV) (h120 : Hp) (x8 : IV) : Option (IV × Hp) :=
  extS 0 x119 fun x123 => extS 1 x119 fun x124 => storeA 3 x8 x123 h120 fun h125 _ _ => cellS true 3 x8 h125 fun x128 => outS1 [x128, x124] h125
noncomputable def S20_336 (h9 : Hp) (x129 : IV) (ih : Handler) (x8 : IV) : Option (IV × Hp) :=
  load1 x129 h9 fun x130 _ => addS EE 3 x130 (.fv (.int .i64 1)) fun x132 => isoS [] false false ih 47 [x132] h9 fun x133 h134 _ _ => storeA 3 x8 x133 h134 fun h137 _ _ => cellS true 3 x8 h137 fun x140 => outS1 [x140, .fv (.int .i64 0)] h137
noncomputable def S20_337 (h9 : Hp) (x115 : IV) (ih : Handler) (x8 : IV) (x4 : IV) : Option (IV × Hp) :=
  load1 x115 h9 fun x116 _ => eqS EE 3 x116 (.fv (.int .i64 2)) fun x118 => condS x118 (isoS [] false false ih 44 [.fv (.int .i64 13)] h9 fun x119 h120 _ _ => S20_335 x119 h120 x8) (faddrS 1 x4 fun x129 => S20_336 h9 x129 ih x8)
noncomputable def S20_338 (h148 : Hp) (x8 : IV) : Option (IV × Hp) :=
  cellS true 3 x8 h148 fun x151 => outS1 [x151, .fv (.int .i64 0)] h148
noncomputable def S20_339 (ih : Handler) (h143 : Hp) (x8 : IV) : Option (IV × Hp) :=
  isoS [] false false ih 24 [.fv (.int .i64 10), .nils] h143 fun x153 h154 _ _ => storeA 3 x8 x153 h154 fun h157 _ _ => cellS true 3 x8 h157 fun x160 => outS1 [x160, .fv (.int .i64 0)] h157
noncomputable def S20_340 (ih : Handler) (h173 : Hp) (x172 : IV) (x8 : IV) : Option (IV × Hp) :=
  isoS [] false false ih 44 [x172] h173 fun x177 h178 _ _ => extS 0 x177 fun x181 => extS 1 x177 fun x182 => storeA 3 x8 x181 h178 fun h183 _ _ => cellS true 3 x8 h183 fun x186 => outS1 [x186, x182] h183
noncomputable def S20_341 (ih : Handler) (h173 : Hp) (x8 : IV) : Option (IV × Hp) :=
  isoS [] false false ih 24 [.fv (.int .i64 10), .nils] h173 fun x187 h188 _ _ => storeA 3 x8 x187 h188 fun h191 _ _ => cellS true 3 x8 h191 fun x194 => outS1 [x194, .fv (.int .i64 0)] h191
noncomputable def S20_342 (r170 : List Ref) (w171 : List Ref) (r167 : List Ref) (r164 : List Ref) (ih : Handler) (h169 : Hp) (x0 : IV) (x166 : IV) (x168 : IV) (x8 : IV) : Option (IV × Hp) :=
  chkS [(r167, []), (r164, [])] r170 w171 (isoS [] false false ih 48 [x0, .fv (.int .i64 1), x166, x168] h169 fun x172 h173 r174 w175 => chkS [] r174 w175 (neS EE 3 x172 (.fv (.int .i64 0)) fun x176 => condS x176 (S20_340 ih h173 x172 x8) (S20_341 ih h173 x8)))
noncomputable def S20_343 (r164 : List Ref) (x163 : IV) (h143 : Hp) (ih : Handler) (x0 : IV) (x8 : IV) : Option (IV × Hp) :=
  chkS [] r164 [] (ixS 3 x163 (.fv (.int .i64 0)) fun x165 => loadA 3 x165 h143 fun x166 r167 => chkS [] r167 [] (isoS [] false false ih 24 [.fv (.int .i64 10), .nils] h143 fun x168 h169 r170 w171 => S20_342 r170 w171 r167 r164 ih h169 x0 x166 x168 x8))
noncomputable def S20_344 (x210 : IV) (h211 : Hp) (x8 : IV) (x214 : IV) : Option (IV × Hp) :=
  extS 1 x210 fun x215 => storeA 3 x8 x214 h211 fun h216 _ _ => cellS true 3 x8 h216 fun x219 => outS1 [x219, x215] h216
noncomputable def S20_345 (h224 : Hp) (x8 : IV) : Option (IV × Hp) :=
  cellS true 3 x8 h224 fun x227 => outS1 [x227, .fv (.int .i64 0)] h224
noncomputable def S20_346 (x205 : IV) (ih : Handler) (h206 : Hp) (x8 : IV) : Option (IV × Hp) :=
  neS EE 3 x205 (.fv (.int .i64 0)) fun x209 => condS x209 (isoS [] false false ih 44 [x205] h206 fun x210 h211 _ _ => extS 0 x210 fun x214 => S20_344 x210 h211 x8 x214) (isoS [] false false ih 24 [.fv (.int .i64 14), .nils] h206 fun x220 h221 _ _ => storeA 3 x8 x220 h221 fun h224 _ _ => S20_345 h224 x8)
noncomputable def S20_347 (r200 : List Ref) (ih : Handler) (h197 : Hp) (x0 : IV) (x199 : IV) (x8 : IV) : Option (IV × Hp) :=
  chkS [] r200 [] (isoS [] false false ih 24 [.fv (.int .i64 14), .nils] h197 fun x201 h202 r203 w204 => chkS [(r200, [])] r203 w204 (isoS [] false false ih 49 [x0, .fv (.int .i64 1), x199, x201] h202 fun x205 h206 r207 w208 => chkS [] r207 w208 (S20_346 x205 ih h206 x8)))
noncomputable def S20_348 (x244 : IV) (h245 : Hp) (x8 : IV) (x248 : IV) : Option (IV × Hp) :=
  extS 1 x244 fun x249 => storeA 3 x8 x248 h245 fun h250 _ _ => cellS true 3 x8 h250 fun x253 => outS1 [x253, x249] h250
noncomputable def S20_349 (h258 : Hp) (x8 : IV) : Option (IV × Hp) :=
  cellS true 3 x8 h258 fun x261 => outS1 [x261, .fv (.int .i64 0)] h258
noncomputable def S20_350 (x239 : IV) (ih : Handler) (h240 : Hp) (x8 : IV) : Option (IV × Hp) :=
  neS EE 3 x239 (.fv (.int .i64 0)) fun x243 => condS x243 (isoS [] false false ih 44 [x239] h240 fun x244 h245 _ _ => extS 0 x244 fun x248 => S20_348 x244 h245 x8 x248) (isoS [] false false ih 47 [.fv (.int .i64 0)] h240 fun x254 h255 _ _ => storeA 3 x8 x254 h255 fun h258 _ _ => S20_349 h258 x8)
noncomputable def S20_351 (r234 : List Ref) (ih : Handler) (h197 : Hp) (r231 : List Ref) (x0 : IV) (x233 : IV) (x8 : IV) : Option (IV × Hp) :=
  chkS [] r234 [] (isoS [] false false ih 24 [.fv (.int .i64 14), .nils] h197 fun x235 h236 r237 w238 => chkS [(r234, []), (r231, [])] r237 w238 (isoS [] false false ih 48 [x0, .fv (.int .i64 1), x233, x235] h236 fun x239 h240 r241 w242 => chkS [] r241 w242 (S20_350 x239 ih h240 x8)))
noncomputable def S20_352 (x4 : IV) (h197 : Hp) (ih : Handler) (x0 : IV) (x8 : IV) : Option (IV × Hp) :=
  faddrS 2 x4 fun x229 => load1 x229 h197 fun x230 r231 => chkS [] r231 [] (ixS 3 x230 (.fv (.int .i64 0)) fun x232 => loadA 3 x232 h197 fun x233 r234 => S20_351 r234 ih h197 r231 x0 x233 x8)
noncomputable def S20_353 (x283 : IV) (h284 : Hp) (x8 : IV) : Option (IV × Hp) :=
  extS 0 x283 fun x287 => extS 1 x283 fun x288 => storeA 3 x8 x287 h284 fun h289 _ _ => cellS true 3 x8 h289 fun x292 => outS1 [x292, x288] h289
noncomputable def S20_354 (h279 : Hp) (x293 : IV) (ih : Handler) (x8 : IV) : Option (IV × Hp) :=
  genS (pcBuildSlice EE 28 1 [(0, x293)]) 21015553 h279 fun x295 h296 _ _ => isoS [] false false ih 24 [.fv (.int .i64 18), x295] h296 fun x299 h300 _ _ => storeA 3 x8 x299 h300 fun h303 _ _ => cellS true 3 x8 h303 fun x306 => outS1 [x306, .fv (.int .i64 0)] h303
noncomputable def S20_355 (h270 : Hp) (x273 : IV) (x274 : IV) (ih : Handler) (x8 : IV) : Option (IV × Hp) :=
  newS 21012489 (.row [.fv (.int .i64 0), .fv (.int .i64 0), .nils] false) (.ptr (.own 21012489) 0) h270 fun x275 h276 _ _ => storeA 3 x275 x273 h276 fun h279 _ _ => neS EE 3 x274 (.fv (.int .i64 0)) fun x282 => condS x282 (isoS [] false false ih 44 [x274] h279 fun x283 h284 _ _ => S20_353 x283 h284 x8) (loadA 3 x275 h279 fun x293 _ => S20_354 h279 x293 ih x8)
noncomputable def S20_356 (x264 : IV) (h197 : Hp) (ih : Handler) (x0 : IV) (x8 : IV) : Option (IV × Hp) :=
  ixS 3 x264 (.fv (.int .i64 0)) fun x266 => loadA 3 x266 h197 fun x267 _ => isoS [] false false ih 20 [x0, .fv (.int .i64 0), x267] h197 fun x269 h270 _ _ => extS 0 x269 fun x273 => extS 1 x269 fun x274 => S20_355 h270 x273 x274 ih x8
noncomputable def S20_357 (x309 : IV) (h310 : Hp) (x8 : IV) : Option (IV × Hp) :=
  extS 0 x309 fun x313 => extS 1 x309 fun x314 => storeA 3 x8 x313 h310 fun h315 _ _ => cellS true 3 x8 h315 fun x318 => outS1 [x318, x314] h315
noncomputable def S20_358 (x112 : IV) (x4 : IV) (h197 : Hp) (ih : Handler) (x0 : IV) (x8 : IV) : Option (IV × Hp) :=
  eqS EE 3 x112 (.fv (.int .i64 19)) fun x262 => condS x262 (faddrS 2 x4 fun x263 => load1 x263 h197 fun x264 _ => S20_356 x264 h197 ih x0 x8) (loadA 3 x4 h197 fun x307 _ => isoS [] false false ih 50 [x0, x307] h197 fun x309 h310 _ _ => S20_357 x309 h310 x8)
noncomputable def S20_359 (x196 : IV) (x4 : IV) (h197 : Hp) (ih : Handler) (x0 : IV) (x8 : IV) (x112 : IV) : Option (IV × Hp) :=
  condS x196 (faddrS 2 x4 fun x198 => load1 x198 h197 fun x199 r200 => S20_347 r200 ih h197 x0 x199 x8) (eqS EE 3 x112 (.fv (.int .i64 18)) fun x228 => condS x228 (S20_352 x4 h197 ih x0 x8) (S20_358 x112 x4 h197 ih x0 x8))
noncomputable def S20_360 (x112 : IV) (j1_195 : IV → Hp → Option (IV × Hp)) (h143 : Hp) : Option (IV × Hp) :=
  eqS EE 3 x112 (.fv (.int .i64 17)) fun x321 => j1_195 x321 h143
noncomputable def S20_361 (x319 : IV) (j1_195 : IV → Hp → Option (IV × Hp)) (h143 : Hp) (x112 : IV) : Option (IV × Hp) :=
  condS x319 (j1_195 x319 h143) (eqS EE 3 x112 (.fv (.int .i64 16)) fun x320 => condS x320 (j1_195 x320 h143) (S20_360 x112 j1_195 h143))
noncomputable def S20_362 (x112 : IV) (x4 : IV) (h143 : Hp) (ih : Handler) (x0 : IV) (x8 : IV) : Option (IV × Hp) :=
  eqS EE 3 x112 (.fv (.int .i64 12)) fun x161 => condS x161 (faddrS 2 x4 fun x162 => load1 x162 h143 fun x163 r164 => S20_343 r164 x163 h143 ih x0 x8) ((fun (j1_195 : IV → Hp → Option (IV × Hp)) => eqS EE 3 x112 (.fv (.int .i64 15)) fun x319 => S20_361 x319 j1_195 h143 x112) fun x196 h197 => S20_359 x196 x4 h197 ih x0 x8 x112)
noncomputable def S20_363 (x142 : IV) (ih : Handler) (h143 : Hp) (x8 : IV) (x112 : IV) (x4 : IV) (x0 : IV) : Option (IV × Hp) :=
  condS x142 (isoS [] false false ih 47 [.fv (.int .i64 0)] h143 fun x144 h145 _ _ => storeA 3 x8 x144 h145 fun h148 _ _ => S20_338 h148 x8) (eqS EE 3 x112 (.fv (.int .i64 11)) fun x152 => condS x152 (S20_339 ih h143 x8) (S20_362 x112 x4 h143 ih x0 x8))
noncomputable def S20_364 (x112 : IV) (j1_141 : IV → Hp → Option (IV × Hp)) (h9 : Hp) : Option (IV × Hp) :=
  eqS EE 3 x112 (.fv (.int .i64 10)) fun x322 => condS x322 (j1_141 x322 h9) (eqS EE 3 x112 (.fv (.int .i64 14)) fun x323 => j1_141 x323 h9)
noncomputable def S20_365 (x4 : IV) (h9 : Hp) (ih : Handler) (x8 : IV) (x0 : IV) : Option (IV × Hp) :=
  faddrS 0 x4 fun x111 => load1 x111 h9 fun x112 _ => eqS EE 3 x112 (.fv (.int .i64 2)) fun x114 => condS x114 (faddrS 1 x4 fun x115 => S20_337 h9 x115 ih x8 x4) ((fun (j1_141 : IV → Hp → Option (IV × Hp)) => S20_364 x112 j1_141 h9) fun x142 h143 => S20_363 x142 ih h143 x8 x112 x4 x0)
noncomputable def S20_366 (x87 : IV) (ih : Handler) (h9 : Hp) (x8 : IV) (x1 : IV) (x4 : IV) (x0 : IV) : Option (IV × Hp) :=
  condS x87 (isoS [] false false ih 44 [.fv (.int .i64 10)] h9 fun x88 h89 _ _ => extS 0 x88 fun x92 => S20_332 x88 h89 x8 x92) (eqS EE 3 x1 (.fv (.int .i64 0)) fun x98 => condS x98 (S20_334 h9 x4 ih x0 x8) (S20_365 x4 h9 ih x8 x0))
noncomputable def S20_367 (x4 : IV) (h9 : Hp) (x1 : IV) (ih : Handler) (x8 : IV) (x0 : IV) : Option (IV × Hp) :=
  faddrS 0 x4 fun x82 => load1 x82 h9 fun x83 _ => geS EE 3 x83 (.fv (.int .i64 20)) fun x85 => eqS EE 3 x1 (.fv (.int .i64 0)) fun x86 => neS EE 4 x85 x86 fun x87 => S20_366 x87 ih h9 x8 x1 x4 x0
noncomputable def S20 (ih : Handler) (n : Nat) (x0 : IV) (x1 : IV) (x2 : IV) (h3 : Hp) : Option (IV × Hp) :=
  boxS 20971520 x2 h3 fun x4 h5 _ _ => newS 20971521 (.row [.fv (.int .i64 0), .fv (.int .i64 0), .nils] false) (.ptr (.own 20971521) 0) h5 fun x8 h9 _ _ => faddrS 0 x4 fun x12 => load1 x12 h9 fun x13 _ => eqS EE 3 x13 (.fv (.int .i64 1)) fun x15 => condS x15 (S20_331 x4 h9 x0 ih x8 x1) (S20_367 x4 h9 x1 ih x8 x0)
theorem S20_ok (ih : Handler) (n : Nat) (x0 : IV) (x1 : IV) (x2 : IV) (h3 : Hp) : funS EE ih ft.get n 20 [x0, x1, x2] h3 = S20 ih n x0 x1 x2 h3 := by kernel_rfl
noncomputable def S23 (ih : Handler) (n : Nat) (x0 : IV) (x1 : IV) (h2 : Hp) : Option (IV × Hp) :=
  binS EE 3 .rem x0 x1 fun x3 => (fun (j1_4 : IV → Hp → Option (IV × Hp)) => ltS EE 3 x3 (.fv (.int .i64 0)) fun x7 => condS x7 (addS EE 3 x3 x1 fun x8 => j1_4 x8 h2) (j1_4 x3 h2)) fun x5 h6 => outS1 [x5] h6
theorem S23_ok (ih : Handler) (n : Nat) (x0 : IV) (x1 : IV) (h2 : Hp) : funS EE ih ft.get n 23 [x0, x1] h2 = S23 ih n x0 x1 h2 := by kernel_rfl
noncomputable def S24 (ih : Handler) (n : Nat) (x0 : IV) (x1 : IV) (h2 : Hp) : Option (IV × Hp) :=
  newS 25165824 (.row [.fv (.int .i64 0), .fv (.int .i64 0), .nils] false) (.ptr (.own 25165824) 0) h2 fun x3 h4 _ _ => bldS [.fv (.int .i64 0), .fv (.int .i64 0), .nils] [(0, 1, x0), (2, 1, x1)] fun x7 => storeA 3 x3 x7 h4 fun h8 _ _ => cellS true 3 x3 h8 fun x11 => outS1 [x11] h8
theorem S24_ok (ih : Handler) (n : Nat) (x0 : IV) (x1 : IV) (h2 : Hp) : funS EE ih ft.get n 24 [x0, x1] h2 = S24 ih n x0 x1 h2 := by kernel_rfl
noncomputable def S25 (ih : Handler) (n : Nat) (x0 : IV) (h1 : Hp) : Option (IV × Hp) :=
  newS 26214400 (.row [.fv (.int .i64 0), .fv (.int .i64 0), .nils] false) (.ptr (.own 26214400) 0) h1 fun x2 h3 _ _ => bldS [.fv (.int .i64 0), .fv (.int .i64 0), .nils] [(0, 1, .fv (.int .i64 1)), (1, 1, x0)] fun x6 => storeA 3 x2 x6 h3 fun h7 _ _ => cellS true 3 x2 h7 fun x10 => outS1 [x10] h7
theorem S25_ok (ih : Handler) (n : Nat) (x0 : IV) (h1 : Hp) : funS EE ih ft.get n 25 [x0] h1 = S25 ih n x0 h1 := by kernel_rfl
noncomputable def S26 (ih : Handler) (n : Nat) (x0 : IV) (h1 : Hp) : Option (IV × Hp) :=
  newS 27262976 (.row [.fv (.int .i64 0), .fv (.int .i64 0), .nils] false) (.ptr (.own 27262976) 0) h1 fun x2 h3 _ _ => bldS [.fv (.int .i64 0), .fv (.int .i64 0), .nils] [(0, 1, .fv (.int .i64 25)), (1, 1, x0)] fun x6 => storeA 3 x2 x6 h3 fun h7 _ _ => cellS true 3 x2 h7 fun x10 => outS1 [x10] h7
theorem S26_ok (ih : Handler) (n : Nat) (x0 : IV) (h1 : Hp) : funS EE ih ft.get n 26 [x0] h1 = S26 ih n x0 h1 := by kernel_rfl
noncomputable def S27_49 (ih : Handler) (h28 : Hp) (x27 : IV) (x22 : IV) (x23 : IV) (q17 : List IV → Hp → Option (IV × Hp)) (x20 : IV) (x21 : IV) : Option (IV × Hp) :=
  isoS [] false false ih 24 [.fv (.int .i64 12), x27] h28 fun x31 h32 _ _ => storeA 3 x22 x31 h32 fun h35 _ _ => addS EE 3 x23 (.fv (.int .i64 1)) fun x38 => q17 [x20, x21, x22, x38] h35
noncomputable def S27_50 (h41 : Hp) (x21 : IV) : Option (IV × Hp) :=
  cellS true 3 x21 h41 fun x44 => outS1 [x44] h41
noncomputable def S27_51 (x24 : IV) (h19 : Hp) (x22 : IV) (ih : Handler) (x23 : IV) (q17 : List IV → Hp → Option (IV × Hp)) (x20 : IV) (x21 : IV) : Option (IV × Hp) :=
  condS x24 (loadA 3 x22 h19 fun x25 _ => genS (pcBuildSlice EE 28 1 [(0, x25)]) 28316673 h19 fun x27 h28 _ _ => S27_49 ih h28 x27 x22 x23 q17 x20 x21) (loadA 3 x22 h19 fun x39 _ => storeA 3 x21 x39 h19 fun h41 _ _ => S27_50 h41 x21)
noncomputable def S27_52 (l18 : List IV) (h19 : Hp) (ih : Handler) (q17 : List IV → Hp → Option (IV × Hp)) : Option (IV × Hp) :=
  uncS l18 fun x20 l45 => uncS l45 fun x21 l46 => uncS l46 fun x22 l47 => uncS l47 fun x23 _ => ltS EE 3 x23 x20 fun x24 => S27_51 x24 h19 x22 ih x23 q17 x20 x21
noncomputable def S27 (ih : Handler) (n : Nat) (x0 : IV) (h1 : Hp) : Option (IV × Hp) :=
  newS 28311552 (.row [.fv (.int .i64 0), .fv (.int .i64 0), .nils] false) (.ptr (.own 28311552) 0) h1 fun x2 h3 _ _ => isoS [] false false ih 24 [.fv (.int .i64 11), .nils] h3 fun x6 h7 _ _ => newS 28312577 (.row [.fv (.int .i64 0), .fv (.int .i64 0), .nils] false) (.ptr (.own 28312577) 0) h7 fun x10 h11 _ _ => storeA 3 x10 x6 h11 fun h14 _ _ => loopS n (fun q17 l18 h19 => S27_52 l18 h19 ih q17) [x0, x2, x10, .fv (.int .i64 0)] h14
theorem S27_ok (ih : Handler) (n : Nat) (x0 : IV) (h1 : Hp) : funS EE ih ft.get n 27 [x0] h1 = S27 ih n x0 h1 := by kernel_rfl
noncomputable def S28_75 (h32 : Hp) (x7 : IV) (x31 : IV) : Option (IV × Hp) :=
  storeA 3 x7 x31 h32 fun h35 _ _ => cellS true 3 x7 h35 fun x38 => outS1 [x38] h35
noncomputable def S28_76 (r72 : List Ref) (w73 : List Ref) (h71 : Hp) (x7 : IV) : Option (IV × Hp) :=
  chkS [] r72 w73 (cellS true 3 x7 h71 fun x74 => outS1 [x74] h71)
noncomputable def S28_77 (h60 : Hp) (x48 : IV) (x59 : IV) (ih : Handler) (x40 : IV) (x7 : IV) : Option (IV × Hp) :=
  genS (pcBuildSlice EE 28 2 [(0, x48), (1, x59)]) 29364237 h60 fun x63 h64 r65 w66 => chkS [] r65 w66 (isoS [] false false ih 24 [x40, x63] h64 fun x67 h68 r69 w70 => chkS [] r69 w70 (storeA 3 x7 x67 h68 fun h71 r72 w73 => S28_76 r72 w73 h71 x7))
noncomputable def S28_78 (ih : Handler) (h49 : Hp) (x52 : IV) (x1 : IV) (x48 : IV) (x40 : IV) (x7 : IV) : Option (IV × Hp) :=
  isoS [] false false ih 56 [x52, .fv (.int .i64 1)] h49 fun x54 h55 r56 w57 => chkS [] r56 w57 (subS EE 3 x1 (.fv (.int .i64 1)) fun x58 => isoS [] false false ih 28 [x54, x58] h55 fun x59 h60 r61 w62 => chkS [] r61 w62 (S28_77 h60 x48 x59 ih x40 x7))
noncomputable def S28_79 (x1 : IV) (ih : Handler) (h44 : Hp) (x43 : IV) (x3 : IV) (r45 : List Ref) (w46 : List Ref) (r42 : List Ref) (x40 : IV) (x7 : IV) : Option (IV × Hp) :=
  subS EE 3 x1 (.fv (.int .i64 1)) fun x47 => isoS [] false false ih 28 [x43, x47] h44 fun x48 h49 r50 w51 => chkS [] r50 w51 (loadA 3 x3 h49 fun x52 r53 => chkS [(r50, w51), (r45, w46), (r42, [])] r53 [] (S28_78 ih h49 x52 x1 x48 x40 x7))
noncomputable def S28_80 (x39 : IV) (h27 : Hp) (x3 : IV) (ih : Handler) (x1 : IV) (x7 : IV) : Option (IV × Hp) :=
  subS EE 3 x39 (.fv (.int .i64 2)) fun x40 => loadA 3 x3 h27 fun x41 r42 => chkS [] r42 [] (isoS [] false false ih 56 [x41, .fv (.int .i64 0)] h27 fun x43 h44 r45 w46 => chkS [] r45 w46 (S28_79 x1 ih h44 x43 x3 r45 w46 r42 x40 x7))
noncomputable def S28_81 (h15 : Hp) (x18 : IV) (x14 : IV) (ih : Handler) (x7 : IV) (x3 : IV) (x1 : IV) : Option (IV × Hp) :=
  guardS x18 false h15 (fun k19 => k19 x14 h15 [] []) fun x20 h21 _ _ => guardS x18 false h21 (fun k24 => ltS EE 3 x20 (.fv (.int .i64 2)) fun x25 => k24 x25 h21 [] []) fun x26 h27 _ _ => pickS x18 (.fv (.bool true)) x26 fun x30 => condS x30 (isoS [] false false ih 24 [.fv (.int .i64 15), .nils] h27 fun x31 h32 _ _ => S28_75 h32 x7 x31) (addS EE 3 (.fv (.int .i64 16)) x14 fun x39 => S28_80 x39 h27 x3 ih x1 x7)
noncomputable def S28 (ih : Handler) (n : Nat) (x0 : IV) (x1 : IV) (h2 : Hp) : Option (IV × Hp) :=
  boxS 29360128 x0 h2 fun x3 h4 _ _ => newS 29360129 (.row [.fv (.int .i64 0), .fv (.int .i64 0), .nils] false) (.ptr (.own 29360129) 0) h4 fun x7 h8 _ _ => faddrS 1 x3 fun x11 => load1 x11 h8 fun x12 _ => isoS [] false false ih 55 [x12, .fv (.int .i64 4)] h8 fun x14 h15 _ _ => leS EE 3 x1 (.fv (.int .i64 0)) fun x18 => S28_81 h15 x18 x14 ih x7 x3 x1
theorem S28_ok (ih : Handler) (n : Nat) (x0 : IV) (x1 : IV) (h2 : Hp) : funS EE ih ft.get n 28 [x0, x1] h2 = S28 ih n x0 x1 h2 := by kernel_rfl
noncomputable def S29_74 (x54 : IV) (q50 : List IV → Hp → Option (IV × Hp)) (h67 : Hp) (x53 : IV) : Option (IV × Hp) :=
  addS EE 3 x54 (.fv (.int .i64 1)) fun x71 => q50 [x53, x71] h67
noncomputable def S29_75 (x61 : IV) (x54 : IV) (h52 : Hp) (ih : Handler) (q50 : List IV → Hp → Option (IV × Hp)) (x53 : IV) : Option (IV × Hp) :=
  ixS 3 x61 x54 fun x63 => loadA 3 x63 h52 fun x64 _ => isoS [] false false ih 29 [x64] h52 fun x66 h67 _ _ => optS (unR .not x66) fun x70 => condS x70 (outS1 [.fv (.bool false)] h67) (S29_74 x54 q50 h67 x53)
noncomputable def S29_76 (x54 : IV) (x58 : IV) (x53 : IV) (h52 : Hp) (ih : Handler) (q50 : List IV → Hp → Option (IV × Hp)) : Option (IV × Hp) :=
  ltS EE 3 x54 x58 fun x59 => condS x59 (faddrS 2 x53 fun x60 => load1 x60 h52 fun x61 _ => S29_75 x61 x54 h52 ih q50 x53) (outS1 [.fv (.bool true)] h52)
noncomputable def S29_77 (l51 : List IV) (h52 : Hp) (ih : Handler) (q50 : List IV → Hp → Option (IV × Hp)) : Option (IV × Hp) :=
  uncS l51 fun x53 l72 => uncS l72 fun x54 _ => faddrS 2 x53 fun x55 => load1 x55 h52 fun x56 _ => lenS x56 fun x58 => S29_76 x54 x58 x53 h52 ih q50
noncomputable def S29_78 (x29 : IV) (x45 : IV) (h46 : Hp) (n : Nat) (x2 : IV) (ih : Handler) : Option (IV × Hp) :=
  pickS x29 x45 (.fv (.bool false)) fun x49 => condS x49 (outS1 [.fv (.bool false)] h46) (loopS n (fun q50 l51 h52 => S29_77 l51 h52 ih q50) [x2, .fv (.int .i64 0)] h46)
noncomputable def S29_79 (h20 : Hp) (x9 : IV) (x19 : IV) (x2 : IV) (n : Nat) (ih : Handler) : Option (IV × Hp) :=
  guardS x9 true h20 (fun k23 => neS EE 3 x19 (.fv (.int .i64 16)) fun x24 => k23 x24 h20 [] []) fun x25 h26 _ _ => pickS x9 x25 (.fv (.bool false)) fun x29 => guardS x29 true h26 (fun k30 => faddrS 0 x2 fun x31 => k30 x31 h26 [] []) fun x32 h33 _ _ => guardS x29 true h33 (fun k36 => load1 x32 h33 fun x37 r38 => k36 x37 h33 r38 []) fun x39 h40 _ _ => guardS x29 true h40 (fun k43 => neS EE 3 x39 (.fv (.int .i64 17)) fun x44 => k43 x44 h40 [] []) fun x45 h46 _ _ => S29_78 x29 x45 h46 n x2 ih
noncomputable def S29 (ih : Handler) (n : Nat) (x0 : IV) (h1 : Hp) : Option (IV × Hp) :=
  boxS 30408704 x0 h1 fun x2 h3 _ _ => faddrS 0 x2 fun x6 => load1 x6 h3 fun x7 _ => neS EE 3 x7 (.fv (.int .i64 15)) fun x9 => guardS x9 true h3 (fun k10 => faddrS 0 x2 fun x11 => k10 x11 h3 [] []) fun x12 h13 _ _ => guardS x9 true h13 (fun k16 => load1 x12 h13 fun x17 r18 => k16 x17 h13 r18 []) fun x19 h20 _ _ => S29_79 h20 x9 x19 x2 n ih
theorem S29_ok (ih : Handler) (n : Nat) (x0 : IV) (h1 : Hp) : funS EE ih ft.get n 29 [x0] h1 = S29 ih n x0 h1 := by kernel_rfl
noncomputable def S31_32 (x11 : IV) (q6 : List IV → Hp → Option (IV × Hp)) (h24 : Hp) (x9 : IV) (x27 : IV) : Option (IV × Hp) :=
  addS EE 3 x11 (.fv (.int .i64 1)) fun x28 => q6 [x9, x27, x28] h24
noncomputable def S31_33 (h8 : Hp) (x17 : IV) (x11 : IV) (ih : Handler) (x10 : IV) (q6 : List IV → Hp → Option (IV × Hp)) (x9 : IV) : Option (IV × Hp) :=
  load1 x17 h8 fun x18 _ => ixS 3 x18 x11 fun x20 => loadA 3 x20 h8 fun x21 _ => isoS [] false false ih 31 [x21] h8 fun x23 h24 _ _ => addS EE 3 x10 x23 fun x27 => S31_32 x11 q6 h24 x9 x27
noncomputable def S31_34 (x13 : IV) (x11 : IV) (x9 : IV) (h8 : Hp) (ih : Handler) (x10 : IV) (q6 : List IV → Hp → Option (IV × Hp)) : Option (IV × Hp) :=
  lenS x13 fun x15 => ltS EE 3 x11 x15 fun x16 => condS x16 (faddrS 2 x9 fun x17 => S31_33 h8 x17 x11 ih x10 q6 x9) (outS1 [x10] h8)
noncomputable def S31_35 (l7 : List IV) (h8 : Hp) (ih : Handler) (q6 : List IV → Hp → Option (IV × Hp)) : Option (IV × Hp) :=
  uncS l7 fun x9 l29 => uncS l29 fun x10 l30 => uncS l30 fun x11 _ => faddrS 2 x9 fun x12 => load1 x12 h8 fun x13 _ => S31_34 x13 x11 x9 h8 ih x10 q6
noncomputable def S31 (ih : Handler) (n : Nat) (x0 : IV) (h1 : Hp) : Option (IV × Hp) :=
  boxS 32505856 x0 h1 fun x2 h3 _ _ => loopS n (fun q6 l7 h8 => S31_35 l7 h8 ih q6) [x2, .fv (.int .i64 1), .fv (.int .i64 0)] h3
theorem S31_ok (ih : Handler) (n : Nat) (x0 : IV) (h1 : Hp) : funS EE ih ft.get n 31 [x0] h1 = S31 ih n x0 h1 := by kernel_rfl
noncomputable def S32_112 (h4 : Hp) (x11 : IV) (x1 : IV) : Option (IV × Hp) :=
  load1 x11 h4 fun x12 _ => eqS EE 3 x12 x1 fun x14 => outS1 [x14] h4
noncomputable def S32_113 (h85 : Hp) (x71 : IV) (x84 : IV) (x1 : IV) (ih : Handler) : Option (IV × Hp) :=
  guardS x71 true h85 (fun k88 => ixS 3 x84 (.fv (.int .i64 1)) fun x89 => k88 x89 h85 [] []) fun x90 h91 _ _ => guardS x71 true h91 (fun k94 => loadA 3 x90 h91 fun x95 r96 => k94 x95 h91 r96 []) fun x97 h98 _ _ => guardS x71 true h98 (fun k101 => k101 x1 h98 [] []) fun x102 h103 _ _ => guardS x71 true h103 (fun k106 => isoS [] false false ih 32 [x97, x102] h103 k106) fun x107 h108 _ _ => pickS x71 x107 (.fv (.bool false)) fun x111 => outS1 [x111] h108
noncomputable def S32_114 (x66 : IV) (h61 : Hp) (ih : Handler) (x1 : IV) (x3 : IV) : Option (IV × Hp) :=
  ixS 3 x66 (.fv (.int .i64 0)) fun x68 => loadA 3 x68 h61 fun x69 _ => isoS [] false false ih 32 [x69, x1] h61 fun x71 h72 _ _ => guardS x71 true h72 (fun k75 => faddrS 2 x3 fun x76 => k75 x76 h72 [] []) fun x77 h78 _ _ => guardS x71 true h78 (fun k81 => load1 x77 h78 fun x82 r83 => k81 x82 h78 r83 []) fun x84 h85 _ _ => S32_113 h85 x71 x84 x1 ih
noncomputable def S32_115 (x38 : IV) (x60 : IV) (h61 : Hp) (x3 : IV) (ih : Handler) (x1 : IV) : Option (IV × Hp) :=
  pickS x38 (.fv (.bool true)) x60 fun x64 => condS x64 (outS1 [.fv (.bool false)] h61) (faddrS 2 x3 fun x65 => load1 x65 h61 fun x66 _ => S32_114 x66 h61 ih x1 x3)
noncomputable def S32_116 (x18 : IV) (x34 : IV) (h35 : Hp) (x3 : IV) (ih : Handler) (x1 : IV) : Option (IV × Hp) :=
  pickS x18 (.fv (.bool true)) x34 fun x38 => guardS x38 false h35 (fun k39 => faddrS 2 x3 fun x40 => k39 x40 h35 [] []) fun x41 h42 _ _ => guardS x38 false h42 (fun k45 => load1 x41 h42 fun x46 r47 => k45 x46 h42 r47 []) fun x48 h49 _ _ => guardS x38 false h49 (fun k52 => lenS x48 fun x53 => k52 x53 h49 [] []) fun x54 h55 _ _ => guardS x38 false h55 (fun k58 => neS EE 3 x54 (.fv (.int .i64 2)) fun x59 => k58 x59 h55 [] []) fun x60 h61 _ _ => S32_115 x38 x60 h61 x3 ih x1
noncomputable def S32_117 (h4 : Hp) (x15 : IV) (x3 : IV) (ih : Handler) (x1 : IV) : Option (IV × Hp) :=
  load1 x15 h4 fun x16 _ => neS EE 3 x16 (.fv (.int .i64 26)) fun x18 => guardS x18 false h4 (fun k19 => faddrS 1 x3 fun x20 => k19 x20 h4 [] []) fun x21 h22 _ _ => guardS x18 false h22 (fun k25 => load1 x21 h22 fun x26 r27 => k25 x26 h22 r27 []) fun x28 h29 _ _ => guardS x18 false h29 (fun k32 => neS EE 3 x28 (.fv (.int .i64 0)) fun x33 => k32 x33 h29 [] []) fun x34 h35 _ _ => S32_116 x18 x34 h35 x3 ih x1
noncomputable def S32 (ih : Handler) (n : Nat) (x0 : IV) (x1 : IV) (h2 : Hp) : Option (IV × Hp) :=
  boxS 33554432 x0 h2 fun x3 h4 _ _ => faddrS 0 x3 fun x7 => load1 x7 h4 fun x8 _ => eqS EE 3 x8 (.fv (.int .i64 25)) fun x10 => condS x10 (faddrS 1 x3 fun x11 => S32_112 h4 x11 x1) (faddrS 0 x3 fun x15 => S32_117 h4 x15 x3 ih x1)
theorem S32_ok (ih : Handler) (n : Nat) (x0 : IV) (x1 : IV) (h2 : Hp) : funS EE ih ft.get n 32 [x0, x1] h2 = S32 ih n x0 x1 h2 := by kernel_rfl
noncomputable def S33_393 (h25 : Hp) (x13 : IV) (x29 : IV) : Option (IV × Hp) :=
  storeA 3 x13 x29 h25 fun h30 _ _ => cellS true 3 x13 h30 fun x33 => outS1 [x33, .fv (.bool false)] h30
noncomputable def S33_394 (h91 : Hp) (x13 : IV) (x44 : IV) : Option (IV × Hp) :=
  cellS true 3 x13 h91 fun x94 => outS1 [x94, x44] h91
noncomputable def S33_395 (h126 : Hp) (x13 : IV) (x129 : IV) (x130 : IV) : Option (IV × Hp) :=
  storeA 3 x13 x129 h126 fun h131 _ _ => cellS true 3 x13 h131 fun x134 => outS1 [x134, x130] h131
noncomputable def S33_396 (h117 : Hp) (x5 : IV) (x9 : IV) (ih : Handler) (x0 : IV) (x3 : IV) (x13 : IV) : Option (IV × Hp) :=
  loadA 3 x5 h117 fun x121 _ => loadA 3 x9 h117 fun x123 _ => isoS [] false false ih 59 [x0, x121, x123, x3] h117 fun x125 h126 _ _ => extS 0 x125 fun x129 => extS 1 x125 fun x130 => S33_395 h126 x13 x129 x130
noncomputable def S33_397 (h221 : Hp) (x179 : IV) (x201 : IV) (x13 : IV) (x224 : IV) : Option (IV × Hp) :=
  guardS x179 true h221 (fun k225 => k225 x201 h221 [] []) fun x226 h227 _ _ => pickS x179 x226 (.fv (.bool false)) fun x230 => storeA 3 x13 x224 h227 fun h231 r232 w233 => chkS [] r232 w233 (cellS true 3 x13 h231 fun x234 => outS1 [x234, x230] h231)
noncomputable def S33_398 (h213 : Hp) (x202 : IV) (r217 : List Ref) (r214 : List Ref) (w215 : List Ref) (r211 : List Ref) (x216 : IV) (x212 : IV) (x179 : IV) (x201 : IV) (x13 : IV) : Option (IV × Hp) :=
  loadA 3 x202 h213 fun x218 r219 => chkS [(r217, []), (r214, w215), (r211, [])] r219 [] (genS (pcBuildSlice EE 28 2 [(0, x216), (1, x218)]) 34617349 h213 fun x220 h221 r222 w223 => chkS [(r214, w215), (r211, [])] r222 w223 (bldS [.fv (.int .i64 0), .fv (.int .i64 0), .nils] [(0, 1, .fv (.int .i64 26)), (1, 1, x212), (2, 1, x220)] fun x224 => S33_397 h221 x179 x201 x13 x224))
noncomputable def S33_399 (r211 : List Ref) (ih : Handler) (h206 : Hp) (x210 : IV) (x180 : IV) (x202 : IV) (x179 : IV) (x201 : IV) (x13 : IV) : Option (IV × Hp) :=
  chkS [] r211 [] (isoS [] false false ih 55 [x210, .fv (.int .i64 5)] h206 fun x212 h213 r214 w215 => chkS [] r214 w215 (loadA 3 x180 h213 fun x216 r217 => chkS [(r214, w215), (r211, [])] r217 [] (S33_398 h213 x202 r217 r214 w215 r211 x216 x212 x179 x201 x13)))
noncomputable def S33_400 (r204 : List Ref) (w205 : List Ref) (r198 : List Ref) (w199 : List Ref) (r193 : List Ref) (w194 : List Ref) (r190 : List Ref) (r188 : List Ref) (h203 : Hp) (x202 : IV) (x200 : IV) (x9 : IV) (ih : Handler) (x180 : IV) (x179 : IV) (x201 : IV) (x13 : IV) : Option (IV × Hp) :=
  chkS [(r198, w199), (r193, w194), (r190, []), (r188, [])] r204 w205 (storeA 3 x202 x200 h203 fun h206 r207 w208 => chkS [] r207 w208 (faddrS 1 x9 fun x209 => load1 x209 h206 fun x210 r211 => S33_399 r211 ih h206 x210 x180 x202 x179 x201 x13))
noncomputable def S33_401 (ih : Handler) (h192 : Hp) (x0 : IV) (x187 : IV) (x191 : IV) (x195 : IV) (r193 : List Ref) (w194 : List Ref) (r190 : List Ref) (r188 : List Ref) (x9 : IV) (x180 : IV) (x179 : IV) (x13 : IV) : Option (IV × Hp) :=
  isoS [] false false ih 33 [x0, x187, x191, x195] h192 fun x196 h197 r198 w199 => chkS [] r198 w199 (extS 0 x196 fun x200 => extS 1 x196 fun x201 => newS 34616330 (.row [.fv (.int .i64 0), .fv (.int .i64 0), .nils] false) (.ptr (.own 34616330) 0) h197 fun x202 h203 r204 w205 => S33_400 r204 w205 r198 w199 r193 w194 r190 r188 h203 x202 x200 x9 ih x180 x179 x201 x13)
noncomputable def S33_402 (h184 : Hp) (x9 : IV) (r188 : List Ref) (ih : Handler) (x3 : IV) (x0 : IV) (x187 : IV) (x180 : IV) (x179 : IV) (x13 : IV) : Option (IV × Hp) :=
  loadA 3 x9 h184 fun x189 r190 => chkS [(r188, [])] r190 [] (isoS [] false false ih 56 [x189, .fv (.int .i64 1)] h184 fun x191 h192 r193 w194 => chkS [(r188, [])] r193 w194 (subS EE 3 x3 (.fv (.int .i64 1)) fun x195 => S33_401 ih h192 x0 x187 x191 x195 r193 w194 r190 r188 x9 x180 x179 x13))
noncomputable def S33_403 (r182 : List Ref) (w183 : List Ref) (r176 : List Ref) (w177 : List Ref) (r171 : List Ref) (w172 : List Ref) (r168 : List Ref) (r166 : List Ref) (h181 : Hp) (x180 : IV) (x178 : IV) (x5 : IV) (x9 : IV) (ih : Handler) (x3 : IV) (x0 : IV) (x179 : IV) (x13 : IV) : Option (IV × Hp) :=
  chkS [(r176, w177), (r171, w172), (r168, []), (r166, [])] r182 w183 (storeA 3 x180 x178 h181 fun h184 r185 w186 => chkS [] r185 w186 (loadA 3 x5 h184 fun x187 r188 => chkS [] r188 [] (S33_402 h184 x9 r188 ih x3 x0 x187 x180 x179 x13)))
noncomputable def S33_404 (ih : Handler) (h170 : Hp) (x0 : IV) (x165 : IV) (x169 : IV) (x173 : IV) (r171 : List Ref) (w172 : List Ref) (r168 : List Ref) (r166 : List Ref) (x5 : IV) (x9 : IV) (x3 : IV) (x13 : IV) : Option (IV × Hp) :=
  isoS [] false false ih 33 [x0, x165, x169, x173] h170 fun x174 h175 r176 w177 => chkS [] r176 w177 (extS 0 x174 fun x178 => extS 1 x174 fun x179 => newS 34615306 (.row [.fv (.int .i64 0), .fv (.int .i64 0), .nils] false) (.ptr (.own 34615306) 0) h175 fun x180 h181 r182 w183 => S33_403 r182 w183 r176 w177 r171 w172 r168 r166 h181 x180 x178 x5 x9 ih x3 x0 x179 x13)
noncomputable def S33_405 (h161 : Hp) (x9 : IV) (r166 : List Ref) (ih : Handler) (x3 : IV) (x0 : IV) (x165 : IV) (x5 : IV) (x13 : IV) : Option (IV × Hp) :=
  loadA 3 x9 h161 fun x167 r168 => chkS [(r166, [])] r168 [] (isoS [] false false ih 56 [x167, .fv (.int .i64 0)] h161 fun x169 h170 r171 w172 => chkS [(r166, [])] r171 w172 (subS EE 3 x3 (.fv (.int .i64 1)) fun x173 => S33_404 ih h170 x0 x165 x169 x173 r171 w172 r168 r166 x5 x9 x3 x13))
noncomputable def S33_406 (ih : Handler) (h161 : Hp) (x236 : IV) (x13 : IV) : Option (IV × Hp) :=
  isoS [] false false ih 55 [x236, .fv (.int .i64 20)] h161 fun x238 h239 _ _ => subS EE 3 x238 (.fv (.int .i64 5)) fun x242 => isoS [] false false ih 26 [x242] h239 fun x243 h244 _ _ => storeA 3 x13 x243 h244 fun h247 _ _ => cellS true 3 x13 h247 fun x250 => outS1 [x250, .fv (.bool true)] h247
noncomputable def S33_407 (x164 : IV) (h161 : Hp) (x5 : IV) (x9 : IV) (ih : Handler) (x3 : IV) (x0 : IV) (x13 : IV) : Option (IV × Hp) :=
  condS x164 (loadA 3 x5 h161 fun x165 r166 => chkS [] r166 [] (S33_405 h161 x9 r166 ih x3 x0 x165 x5 x13)) (faddrS 1 x9 fun x235 => load1 x235 h161 fun x236 _ => S33_406 ih h161 x236 x13)
noncomputable def S33_408 (h117 : Hp) (x139 : IV) (x9 : IV) (ih : Handler) (x5 : IV) (x3 : IV) (x0 : IV) (x13 : IV) : Option (IV × Hp) :=
  guardS x139 true h117 (fun k140 => faddrS 0 x9 fun x141 => k140 x141 h117 [] []) fun x142 h143 _ _ => guardS x139 true h143 (fun k146 => load1 x142 h143 fun x147 r148 => k146 x147 h143 r148 []) fun x149 h150 _ _ => guardS x139 true h150 (fun k153 => isoS [] false false ih 55 [x149, .fv (.int .i64 2)] h150 k153) fun x154 h155 _ _ => guardS x139 true h155 (fun k158 => eqS EE 3 x154 (.fv (.int .i64 1)) fun x159 => k158 x159 h155 [] []) fun x160 h161 _ _ => pickS x139 x160 (.fv (.bool false)) fun x164 => S33_407 x164 h161 x5 x9 ih x3 x0 x13
noncomputable def S33_409 (r309 : List Ref) (w310 : List Ref) (h308 : Hp) (x13 : IV) (x284 : IV) : Option (IV × Hp) :=
  chkS [] r309 w310 (cellS true 3 x13 h308 fun x311 => outS1 [x311, x284] h308)
noncomputable def S33_410 (h289 : Hp) (x296 : IV) (x298 : IV) (ih : Handler) (x13 : IV) (x284 : IV) : Option (IV × Hp) :=
  genS (pcBuildSlice EE 28 2 [(0, x296), (1, x298)]) 34621445 h289 fun x300 h301 r302 w303 => chkS [] r302 w303 (isoS [] false false ih 24 [.fv (.int .i64 20), x300] h301 fun x304 h305 r306 w307 => chkS [] r306 w307 (storeA 3 x13 x304 h305 fun h308 r309 w310 => S33_409 r309 w310 h308 x13 x284))
noncomputable def S33_411 (x293 : IV) (h289 : Hp) (x285 : IV) (r294 : List Ref) (ih : Handler) (x13 : IV) (x284 : IV) : Option (IV × Hp) :=
  ixS 3 x293 (.fv (.int .i64 0)) fun x295 => loadA 3 x295 h289 fun x296 r297 => chkS [] r297 [] (loadA 3 x285 h289 fun x298 r299 => chkS [(r297, []), (r294, [])] r299 [] (S33_410 h289 x296 x298 ih x13 x284))
noncomputable def S33_412 (h286 : Hp) (x285 : IV) (x283 : IV) (x5 : IV) (ih : Handler) (x13 : IV) (x284 : IV) : Option (IV × Hp) :=
  storeA 3 x285 x283 h286 fun h289 r290 w291 => chkS [] r290 w291 (faddrS 2 x5 fun x292 => load1 x292 h289 fun x293 r294 => chkS [] r294 [] (S33_411 x293 h289 x285 r294 ih x13 x284))
noncomputable def S33_413 (r281 : List Ref) (w282 : List Ref) (x279 : IV) (h280 : Hp) (r276 : List Ref) (w277 : List Ref) (r273 : List Ref) (r270 : List Ref) (w271 : List Ref) (r267 : List Ref) (r264 : List Ref) (r260 : List Ref) (w261 : List Ref) (r257 : List Ref) (r254 : List Ref) (x5 : IV) (ih : Handler) (x13 : IV) : Option (IV × Hp) :=
  chkS [] r281 w282 (extS 0 x279 fun x283 => extS 1 x279 fun x284 => newS 34620435 (.row [.fv (.int .i64 0), .fv (.int .i64 0), .nils] false) (.ptr (.own 34620435) 0) h280 fun x285 h286 r287 w288 => chkS [(r281, w282), (r276, w277), (r273, []), (r270, w271), (r267, []), (r264, []), (r260, w261), (r257, []), (r254, [])] r287 w288 (S33_412 h286 x285 x283 x5 ih x13 x284))
noncomputable def S33_414 (r273 : List Ref) (r270 : List Ref) (w271 : List Ref) (r267 : List Ref) (r264 : List Ref) (r260 : List Ref) (w261 : List Ref) (r257 : List Ref) (r254 : List Ref) (ih : Handler) (h269 : Hp) (x272 : IV) (x3 : IV) (x258 : IV) (x268 : IV) (x5 : IV) (x13 : IV) : Option (IV × Hp) :=
  chkS [(r270, w271), (r267, []), (r264, []), (r260, w261), (r257, []), (r254, [])] r273 [] (isoS [] false false ih 56 [x272, .fv (.int .i64 0)] h269 fun x274 h275 r276 w277 => chkS [] r276 w277 (subS EE 3 x3 (.fv (.int .i64 1)) fun x278 => isoS [] false false ih 33 [x258, x268, x274, x278] h275 fun x279 h280 r281 w282 => S33_413 r281 w282 x279 h280 r276 w277 r273 r270 w271 r267 r264 r260 w261 r257 r254 x5 ih x13))
noncomputable def S33_415 (h259 : Hp) (x265 : IV) (r260 : List Ref) (w261 : List Ref) (r257 : List Ref) (r254 : List Ref) (ih : Handler) (x9 : IV) (r264 : List Ref) (x3 : IV) (x258 : IV) (x5 : IV) (x13 : IV) : Option (IV × Hp) :=
  loadA 3 x265 h259 fun x266 r267 => chkS [(r260, w261), (r257, []), (r254, [])] r267 [] (isoS [] false false ih 45 [x266, .fv (.int .i64 1), .fv (.int .i64 0)] h259 fun x268 h269 r270 w271 => chkS [] r270 w271 (loadA 3 x9 h269 fun x272 r273 => S33_414 r273 r270 w271 r267 r264 r260 w261 r257 r254 ih h269 x272 x3 x258 x268 x5 x13))
noncomputable def S33_416 (r260 : List Ref) (w261 : List Ref) (x5 : IV) (h259 : Hp) (r257 : List Ref) (r254 : List Ref) (ih : Handler) (x9 : IV) (x3 : IV) (x258 : IV) (x13 : IV) : Option (IV × Hp) :=
  chkS [] r260 w261 (faddrS 2 x5 fun x262 => load1 x262 h259 fun x263 r264 => chkS [(r260, w261), (r257, []), (r254, [])] r264 [] (ixS 3 x263 (.fv (.int .i64 1)) fun x265 => S33_415 h259 x265 r260 w261 r257 r254 ih x9 r264 x3 x258 x5 x13))
noncomputable def S33_417 (r254 : List Ref) (x253 : IV) (h117 : Hp) (ih : Handler) (x0 : IV) (x5 : IV) (x9 : IV) (x3 : IV) (x13 : IV) : Option (IV × Hp) :=
  chkS [] r254 [] (ixS 3 x253 (.fv (.int .i64 0)) fun x255 => loadA 3 x255 h117 fun x256 r257 => chkS [] r257 [] (isoS [] false false ih 60 [x0, .fv (.int .i64 0), x256] h117 fun x258 h259 r260 w261 => S33_416 r260 w261 x5 h259 r257 r254 ih x9 x3 x258 x13))
noncomputable def S33_418 (h383 : Hp) (x13 : IV) (x382 : IV) : Option (IV × Hp) :=
  cellS true 3 x13 h383 fun x386 => outS1 [x386, x382] h383
noncomputable def S33_419 (h362 : Hp) (x365 : IV) (x367 : IV) (ih : Handler) (x331 : IV) (x357 : IV) (x13 : IV) : Option (IV × Hp) :=
  genS (pcBuildSlice EE 28 2 [(0, x365), (1, x367)]) 34625538 h362 fun x369 h370 _ _ => isoS [] false false ih 24 [.fv (.int .i64 22), x369] h370 fun x373 h374 _ _ => guardS x331 true h374 (fun k377 => k377 x357 h374 [] []) fun x378 h379 _ _ => pickS x331 x378 (.fv (.bool false)) fun x382 => storeA 3 x13 x373 h379 fun h383 _ _ => S33_418 h383 x13 x382
noncomputable def S33_420 (r360 : List Ref) (w361 : List Ref) (r354 : List Ref) (w355 : List Ref) (r349 : List Ref) (w350 : List Ref) (r346 : List Ref) (r344 : List Ref) (r341 : List Ref) (h359 : Hp) (x358 : IV) (x356 : IV) (x332 : IV) (ih : Handler) (x331 : IV) (x357 : IV) (x13 : IV) : Option (IV × Hp) :=
  chkS [(r354, w355), (r349, w350), (r346, []), (r344, []), (r341, [])] r360 w361 (storeA 3 x358 x356 h359 fun h362 r363 w364 => chkS [] r363 w364 (loadA 3 x332 h362 fun x365 _ => loadA 3 x358 h362 fun x367 _ => S33_419 h362 x365 x367 ih x331 x357 x13))
noncomputable def S33_421 (ih : Handler) (h348 : Hp) (x0 : IV) (x343 : IV) (x347 : IV) (x351 : IV) (r349 : List Ref) (w350 : List Ref) (r346 : List Ref) (r344 : List Ref) (r341 : List Ref) (x332 : IV) (x331 : IV) (x13 : IV) : Option (IV × Hp) :=
  isoS [] false false ih 33 [x0, x343, x347, x351] h348 fun x352 h353 r354 w355 => chkS [] r354 w355 (extS 0 x352 fun x356 => extS 1 x352 fun x357 => newS 34624525 (.row [.fv (.int .i64 0), .fv (.int .i64 0), .nils] false) (.ptr (.own 34624525) 0) h353 fun x358 h359 r360 w361 => S33_420 r360 w361 r354 w355 r349 w350 r346 r344 r341 h359 x358 x356 x332 ih x331 x357 x13)
noncomputable def S33_422 (h336 : Hp) (x9 : IV) (r344 : List Ref) (r341 : List Ref) (ih : Handler) (x3 : IV) (x0 : IV) (x343 : IV) (x332 : IV) (x331 : IV) (x13 : IV) : Option (IV × Hp) :=
  loadA 3 x9 h336 fun x345 r346 => chkS [(r344, []), (r341, [])] r346 [] (isoS [] false false ih 56 [x345, .fv (.int .i64 1)] h336 fun x347 h348 r349 w350 => chkS [(r344, []), (r341, [])] r349 w350 (subS EE 3 x3 (.fv (.int .i64 1)) fun x351 => S33_421 ih h348 x0 x343 x347 x351 r349 w350 r346 r344 r341 x332 x331 x13))
noncomputable def S33_423 (h336 : Hp) (x339 : IV) (x9 : IV) (ih : Handler) (x3 : IV) (x0 : IV) (x332 : IV) (x331 : IV) (x13 : IV) : Option (IV × Hp) :=
  load1 x339 h336 fun x340 r341 => chkS [] r341 [] (ixS 3 x340 (.fv (.int .i64 1)) fun x342 => loadA 3 x342 h336 fun x343 r344 => chkS [] r344 [] (S33_422 h336 x9 r344 r341 ih x3 x0 x343 x332 x331 x13))
noncomputable def S33_424 (h327 : Hp) (r328 : List Ref) (w329 : List Ref) (r323 : List Ref) (w324 : List Ref) (r320 : List Ref) (r318 : List Ref) (r315 : List Ref) (x330 : IV) (x5 : IV) (x9 : IV) (ih : Handler) (x3 : IV) (x0 : IV) (x331 : IV) (x13 : IV) : Option (IV × Hp) :=
  newS 34623501 (.row [.fv (.int .i64 0), .fv (.int .i64 0), .nils] false) (.ptr (.own 34623501) 0) h327 fun x332 h333 r334 w335 => chkS [(r328, w329), (r323, w324), (r320, []), (r318, []), (r315, [])] r334 w335 (storeA 3 x332 x330 h333 fun h336 r337 w338 => chkS [] r337 w338 (faddrS 2 x5 fun x339 => S33_423 h336 x339 x9 ih x3 x0 x332 x331 x13))
noncomputable def S33_425 (x3 : IV) (ih : Handler) (h322 : Hp) (x0 : IV) (x317 : IV) (x321 : IV) (r323 : List Ref) (w324 : List Ref) (r320 : List Ref) (r318 : List Ref) (r315 : List Ref) (x5 : IV) (x9 : IV) (x13 : IV) : Option (IV × Hp) :=
  subS EE 3 x3 (.fv (.int .i64 1)) fun x325 => isoS [] false false ih 33 [x0, x317, x321, x325] h322 fun x326 h327 r328 w329 => chkS [] r328 w329 (extS 0 x326 fun x330 => extS 1 x326 fun x331 => S33_424 h327 r328 w329 r323 w324 r320 r318 r315 x330 x5 x9 ih x3 x0 x331 x13)
noncomputable def S33_426 (r318 : List Ref) (h117 : Hp) (x9 : IV) (r315 : List Ref) (ih : Handler) (x3 : IV) (x0 : IV) (x317 : IV) (x5 : IV) (x13 : IV) : Option (IV × Hp) :=
  chkS [] r318 [] (loadA 3 x9 h117 fun x319 r320 => chkS [(r318, []), (r315, [])] r320 [] (isoS [] false false ih 56 [x319, .fv (.int .i64 0)] h117 fun x321 h322 r323 w324 => chkS [(r318, []), (r315, [])] r323 w324 (S33_425 x3 ih h322 x0 x317 x321 r323 w324 r320 r318 r315 x5 x9 x13)))
noncomputable def S33_427 (x5 : IV) (h117 : Hp) (x9 : IV) (ih : Handler) (x3 : IV) (x0 : IV) (x13 : IV) : Option (IV × Hp) :=
  faddrS 2 x5 fun x313 => load1 x313 h117 fun x314 r315 => chkS [] r315 [] (ixS 3 x314 (.fv (.int .i64 0)) fun x316 => loadA 3 x316 h117 fun x317 r318 => S33_426 r318 h117 x9 r315 ih x3 x0 x317 x5 x13)
noncomputable def S33_428 (h117 : Hp) (x45 : IV) (x13 : IV) (x44 : IV) : Option (IV × Hp) :=
  loadA 3 x45 h117 fun x387 _ => storeA 3 x13 x387 h117 fun h389 _ _ => cellS true 3 x13 h389 fun x392 => outS1 [x392, x44] h389
noncomputable def S33_429 (x251 : IV) (x5 : IV) (h117 : Hp) (ih : Handler) (x0 : IV) (x9 : IV) (x3 : IV) (x13 : IV) (x136 : IV) (x45 : IV) (x44 : IV) : Option (IV × Hp) :=
  condS x251 (faddrS 2 x5 fun x252 => load1 x252 h117 fun x253 r254 => S33_417 r254 x253 h117 ih x0 x5 x9 x3 x13) (eqS EE 3 x136 (.fv (.int .i64 17)) fun x312 => condS x312 (S33_427 x5 h117 x9 ih x3 x0 x13) (S33_428 h117 x45 x13 x44))
noncomputable def S33_430 (x5 : IV) (h117 : Hp) (x3 : IV) (x9 : IV) (ih : Handler) (x0 : IV) (x13 : IV) (x45 : IV) (x44 : IV) : Option (IV × Hp) :=
  faddrS 0 x5 fun x135 => load1 x135 h117 fun x136 _ => eqS EE 3 x136 (.fv (.int .i64 15)) fun x138 => condS x138 (gtS EE 3 x3 (.fv (.int .i64 0)) fun x139 => S33_408 h117 x139 x9 ih x5 x3 x0 x13) (eqS EE 3 x136 (.fv (.int .i64 16)) fun x251 => S33_429 x251 x5 h117 ih x0 x9 x3 x13 x136 x45 x44)
noncomputable def S33_431 (h99 : Hp) (x95 : IV) (x98 : IV) (ih : Handler) (x5 : IV) (x9 : IV) (x0 : IV) (x3 : IV) (x13 : IV) (x45 : IV) (x44 : IV) : Option (IV × Hp) :=
  guardS x95 true h99 (fun k102 => load1 x98 h99 fun x103 r104 => k102 x103 h99 r104 []) fun x105 h106 _ _ => guardS x95 true h106 (fun k109 => isoS [] false false ih 55 [x105, .fv (.int .i64 3)] h106 k109) fun x110 h111 _ _ => guardS x95 true h111 (fun k114 => eqS EE 3 x110 (.fv (.int .i64 1)) fun x115 => k114 x115 h111 [] []) fun x116 h117 _ _ => pickS x95 x116 (.fv (.bool false)) fun x120 => condS x120 (S33_396 h117 x5 x9 ih x0 x3 x13) (S33_430 x5 h117 x3 x9 ih x0 x13 x45 x44)
noncomputable def S33_432 (x88 : IV) (h85 : Hp) (x45 : IV) (x13 : IV) (x44 : IV) (x3 : IV) (x9 : IV) (ih : Handler) (x5 : IV) (x0 : IV) : Option (IV × Hp) :=
  condS x88 (loadA 3 x45 h85 fun x89 _ => storeA 3 x13 x89 h85 fun h91 _ _ => S33_394 h91 x13 x44) (gtS EE 3 x3 (.fv (.int .i64 0)) fun x95 => guardS x95 true h85 (fun k96 => faddrS 0 x9 fun x97 => k96 x97 h85 [] []) fun x98 h99 _ _ => S33_431 h99 x95 x98 ih x5 x9 x0 x3 x13 x45 x44)
noncomputable def S33_433 (h67 : Hp) (x44 : IV) (x66 : IV) (x3 : IV) (x45 : IV) (x13 : IV) (x9 : IV) (ih : Handler) (x5 : IV) (x0 : IV) : Option (IV × Hp) :=
  guardS x44 true h67 (fun k70 => eqS EE 3 x66 (.fv (.int .i64 0)) fun x71 => k70 x71 h67 [] []) fun x72 h73 _ _ => pickS x44 x72 (.fv (.bool false)) fun x76 => guardS x76 false h73 (fun k77 => k77 x3 h73 [] []) fun x78 h79 _ _ => guardS x76 false h79 (fun k82 => ltS EE 3 x78 (.fv (.int .i64 (-4))) fun x83 => k82 x83 h79 [] []) fun x84 h85 _ _ => pickS x76 (.fv (.bool true)) x84 fun x88 => S33_432 x88 h85 x45 x13 x44 x3 x9 ih x5 x0
noncomputable def S33_434 (h40 : Hp) (x43 : IV) (x44 : IV) (x9 : IV) (ih : Handler) (x3 : IV) (x13 : IV) (x5 : IV) (x0 : IV) : Option (IV × Hp) :=
  newS 34607112 (.row [.fv (.int .i64 0), .fv (.int .i64 0), .nils] false) (.ptr (.own 34607112) 0) h40 fun x45 h46 _ _ => storeA 3 x45 x43 h46 fun h49 _ _ => guardS x44 true h49 (fun k52 => faddrS 0 x9 fun x53 => k52 x53 h49 [] []) fun x54 h55 _ _ => guardS x44 true h55 (fun k58 => load1 x54 h55 fun x59 r60 => k58 x59 h55 r60 []) fun x61 h62 _ _ => guardS x44 true h62 (fun k65 => isoS [] false false ih 55 [x61, .fv (.int .i64 3)] h62 k65) fun x66 h67 _ _ => S33_433 h67 x44 x66 x3 x45 x13 x9 ih x5 x0
noncomputable def S33_435 (x9 : IV) (h25 : Hp) (ih : Handler) (x0 : IV) (x34 : IV) (x3 : IV) (x13 : IV) (x5 : IV) : Option (IV × Hp) :=
  faddrS 1 x9 fun x36 => load1 x36 h25 fun x37 _ => isoS [] false false ih 58 [x0, .fv (.int .i64 0), x34, x37] h25 fun x39 h40 _ _ => extS 0 x39 fun x43 => extS 1 x39 fun x44 => S33_434 h40 x43 x44 x9 ih x3 x13 x5 x0
noncomputable def S33_436 (x19 : IV) (h20 : Hp) (x5 : IV) (x23 : IV) (x13 : IV) (x9 : IV) (ih : Handler) (x0 : IV) (x3 : IV) : Option (IV × Hp) :=
  extS 1 x19 fun x24 => storeA 3 x5 x23 h20 fun h25 _ _ => neS EE 3 x24 (.fv (.int .i64 0)) fun x28 => condS x28 (bldS [.fv (.int .i64 0), .fv (.int .i64 0), .nils] [] fun x29 => S33_393 h25 x13 x29) (loadA 3 x5 h25 fun x34 _ => S33_435 x9 h25 ih x0 x34 x3 x13 x5)
noncomputable def S33 (ih : Handler) (n : Nat) (x0 : IV) (x1 : IV) (x2 : IV) (x3 : IV) (h4 : Hp) : Option (IV × Hp) :=
  boxS 34603008 x1 h4 fun x5 h6 _ _ => boxS 34603009 x2 h6 fun x9 h10 _ _ => newS 34603010 (.row [.fv (.int .i64 0), .fv (.int .i64 0), .nils] false) (.ptr (.own 34603010) 0) h10 fun x13 h14 _ _ => loadA 3 x5 h14 fun x17 _ => isoS [] false false ih 34 [x17] h14 fun x19 h20 _ _ => extS 0 x19 fun x23 => S33_436 x19 h20 x5 x23 x13 x9 ih x0 x3
theorem S33_ok (ih : Handler) (n : Nat) (x0 : IV) (x1 : IV) (x2 : IV) (x3 : IV) (h4 : Hp) : funS EE ih ft.get n 33 [x0, x1, x2, x3] h4 = S33 ih n x0 x1 x2 x3 h4 := by kernel_rfl
noncomputable def S34_52 (r43 : List Ref) (w44 : List Ref) (r41 : List Ref) (h42 : Hp) (x6 : IV) (x40 : IV) : Option (IV × Hp) :=
  chkS [(r41, [])] r43 w44 (cellS true 3 x6 h42 fun x45 => outS1 [x45, x40] h42)
noncomputable def S34_53 (x11 : IV) (h29 : Hp) (x6 : IV) (x37 : IV) : Option (IV × Hp) :=
  nilS x11 fun x38 => faddrS 2 x38 fun x39 => load1 x39 h29 fun x40 r41 => chkS [] r41 [] (storeA 3 x6 x37 h29 fun h42 r43 w44 => S34_52 r43 w44 r41 h42 x6 x40)
noncomputable def S34_54 (h29 : Hp) (x6 : IV) (x46 : IV) : Option (IV × Hp) :=
  storeA 3 x6 x46 h29 fun h48 _ _ => cellS true 3 x6 h48 fun x51 => outS1 [x51, .fv (.int .i64 0)] h48
noncomputable def S34_55 (h29 : Hp) (x33 : IV) (x11 : IV) (x6 : IV) (x25 : IV) : Option (IV × Hp) :=
  load1 x33 h29 fun x34 _ => neS EE 3 x34 (.fv (.int .i64 0)) fun x36 => condS x36 (bldS [.fv (.int .i64 0), .fv (.int .i64 0), .nils] [] fun x37 => S34_53 x11 h29 x6 x37) (loadA 3 x25 h29 fun x46 _ => S34_54 h29 x6 x46)
noncomputable def S34_56 (ih : Handler) (h18 : Hp) (x11 : IV) (x17 : IV) (x6 : IV) : Option (IV × Hp) :=
  isoS [true, false, false, false] false false ih 61 [x11, x17, .fv (.int .i64 0), .fv (.int .i64 1)] h18 fun x21 h22 _ _ => newS 35653637 (.row [.fv (.int .i64 0), .fv (.int .i64 0), .nils] false) (.ptr (.own 35653637) 0) h22 fun x25 h26 _ _ => storeA 3 x25 x21 h26 fun h29 _ _ => nilS x11 fun x32 => faddrS 2 x32 fun x33 => S34_55 h29 x33 x11 x6 x25
noncomputable def S34 (ih : Handler) (n : Nat) (x0 : IV) (h1 : Hp) : Option (IV × Hp) :=
  boxS 35651584 x0 h1 fun x2 h3 _ _ => newS 35651585 (.row [.fv (.int .i64 0), .fv (.int .i64 0), .nils] false) (.ptr (.own 35651585) 0) h3 fun x6 h7 _ _ => bldS [.fv (.int .i64 0), .fv (.int .i64 0), .fv (.int .i64 0)] [] fun x10 => boxS 35652609 x10 h7 fun x11 h12 _ _ => loadA 3 x2 h12 fun x15 _ => isoS [true, false, false] false false ih 62 [x11, x15, .nils] h12 fun x17 h18 _ _ => S34_56 ih h18 x11 x17 x6
theorem S34_ok (ih : Handler) (n : Nat) (x0 : IV) (h1 : Hp) : funS EE ih ft.get n 34 [x0] h1 = S34 ih n x0 h1 := by kernel_rfl
noncomputable def S35_21 (x17 : IV) (h14 : Hp) : Option (IV × Hp) :=
  faddrS 1 x17 fun x18 => load1 x18 h14 fun x19 _ => outS1 [x19] h14
noncomputable def S35 (ih : Handler) (n : Nat) (x0 : IV) (h1 : Hp) : Option (IV × Hp) :=
  boxS 36700160 x0 h1 fun x2 h3 _ _ => bldS [.fv (.int .i64 0), .fv (.int .i64 0)] [] fun x6 => boxS 36701185 x6 h3 fun x7 h8 _ _ => loadA 3 x2 h8 fun x11 _ => isoS [true, false, false] false false ih 63 [x7, x11, .fv (.int .i64 1)] h8 fun _ h14 _ _ => nilS x7 fun x17 => S35_21 x17 h14
theorem S35_ok (ih : Handler) (n : Nat) (x0 : IV) (h1 : Hp) : funS EE ih ft.get n 35 [x0] h1 = S35 ih n x0 h1 := by kernel_rfl
noncomputable def S36_53 (x12 : IV) (x43 : IV) (x13 : IV) (q7 : List IV → Hp → Option (IV × Hp)) (h44 : Hp) (x10 : IV) (x11 : IV) : Option (IV × Hp) :=
  addS EE 3 x12 x43 fun x47 => addS EE 3 x13 (.fv (.int .i64 1)) fun x48 => q7 [x10, x11, x47, x48] h44
noncomputable def S36_54 (h32 : Hp) (x36 : IV) (x13 : IV) (x10 : IV) (x12 : IV) (ih : Handler) (q7 : List IV → Hp → Option (IV × Hp)) (x11 : IV) : Option (IV × Hp) :=
  load1 x36 h32 fun x37 _ => ixS 3 x37 x13 fun x39 => loadA 3 x39 h32 fun x40 _ => subS EE 3 x10 x12 fun x42 => isoS [] false false ih 36 [x40, x42] h32 fun x43 h44 _ _ => S36_53 x12 x43 x13 q7 h44 x10 x11
noncomputable def S36_55 (h26 : Hp) (x18 : IV) (x20 : IV) (x25 : IV) (x11 : IV) (x13 : IV) (x10 : IV) (x12 : IV) (ih : Handler) (q7 : List IV → Hp → Option (IV × Hp)) : Option (IV × Hp) :=
  guardS x18 true h26 (fun k29 => ltS EE 3 x20 x25 fun x30 => k29 x30 h26 [] []) fun x31 h32 _ _ => pickS x18 x31 (.fv (.bool false)) fun x35 => condS x35 (faddrS 2 x11 fun x36 => S36_54 h32 x36 x13 x10 x12 ih q7 x11) (outS1 [x12] h32)
noncomputable def S36_56 (h9 : Hp) (x14 : IV) (x13 : IV) (x12 : IV) (x10 : IV) (x11 : IV) (ih : Handler) (q7 : List IV → Hp → Option (IV × Hp)) : Option (IV × Hp) :=
  load1 x14 h9 fun x15 _ => lenS x15 fun x17 => ltS EE 3 x13 x17 fun x18 => guardS x18 true h9 (fun k19 => k19 x12 h9 [] []) fun x20 h21 _ _ => guardS x18 true h21 (fun k24 => k24 x10 h21 [] []) fun x25 h26 _ _ => S36_55 h26 x18 x20 x25 x11 x13 x10 x12 ih q7
noncomputable def S36_57 (l8 : List IV) (h9 : Hp) (ih : Handler) (q7 : List IV → Hp → Option (IV × Hp)) : Option (IV × Hp) :=
  uncS l8 fun x10 l49 => uncS l49 fun x11 l50 => uncS l50 fun x12 l51 => uncS l51 fun x13 _ => faddrS 2 x11 fun x14 => S36_56 h9 x14 x13 x12 x10 x11 ih q7
noncomputable def S36 (ih : Handler) (n : Nat) (x0 : IV) (x1 : IV) (h2 : Hp) : Option (IV × Hp) :=
  boxS 37748736 x0 h2 fun x3 h4 _ _ => loopS n (fun q7 l8 h9 => S36_57 l8 h9 ih q7) [x1, x3, .fv (.int .i64 1), .fv (.int .i64 0)] h4
theorem S36_ok (ih : Handler) (n : Nat) (x0 : IV) (x1 : IV) (h2 : Hp) : funS EE ih ft.get n 36 [x0, x1] h2 = S36 ih n x0 x1 h2 := by kernel_rfl
noncomputable def S37_80 (x7 : IV) (h1 : Hp) (h24 : Hp) (x5 : IV) (x23 : IV) (q2 : List IV → Hp → Option (IV × Hp)) : Option (IV × Hp) :=
  addS EE 3 x7 (.fv (.int .i64 1)) fun x25 => dropS (h1.own.map (·.1)) [38803466] [x5, x23, x25] h24 fun h26 => q2 [x5, x23, x25] h26
noncomputable def S37_81 (ih : Handler) (h53 : Hp) (x6 : IV) (x59 : IV) (j1_56 : IV → Hp → Option (IV × Hp)) : Option (IV × Hp) :=
  isoS [] false false ih 60 [x6, .fv (.int .i64 0), x59] h53 fun x61 h62 _ _ => j1_56 x61 h62
noncomputable def S37_82 (r54 : List Ref) (w55 : List Ref) (j1_22 : IV → Hp → Option (IV × Hp)) (x48 : IV) (h53 : Hp) (x49 : IV) (ih : Handler) (x6 : IV) : Option (IV × Hp) :=
  chkS [] r54 w55 ((fun (j1_56 : IV → Hp → Option (IV × Hp)) => condS x48 (loadA 3 x49 h53 fun x59 _ => S37_81 ih h53 x6 x59 j1_56) (j1_56 x6 h53)) fun x57 h58 => j1_22 x57 h58)
noncomputable def S37_83 (x43 : IV) (h44 : Hp) (r45 : List Ref) (w46 : List Ref) (r42 : List Ref) (r38 : List Ref) (w39 : List Ref) (j1_22 : IV → Hp → Option (IV × Hp)) (ih : Handler) (x6 : IV) : Option (IV × Hp) :=
  extS 0 x43 fun x47 => extS 1 x43 fun x48 => newS 38803466 (.row [.fv (.int .i64 0), .fv (.int .i64 0), .nils] false) (.ptr (.own 38803466) 0) h44 fun x49 h50 r51 w52 => chkS [(r45, w46), (r42, []), (r38, w39)] r51 w52 (storeA 3 x49 x47 h50 fun h53 r54 w55 => S37_82 r54 w55 j1_22 x48 h53 x49 ih x6)
noncomputable def S37_84 (x5 : IV) (x7 : IV) (h37 : Hp) (r38 : List Ref) (w39 : List Ref) (ih : Handler) (x6 : IV) (x36 : IV) (j1_22 : IV → Hp → Option (IV × Hp)) : Option (IV × Hp) :=
  ixS 3 x5 x7 fun x40 => loadA 3 x40 h37 fun x41 r42 => chkS [(r38, w39)] r42 [] (isoS [] false false ih 39 [x6, x36, x41, .fv (.int .i64 2)] h37 fun x43 h44 r45 w46 => chkS [] r45 w46 (S37_83 x43 h44 r45 w46 r42 r38 w39 j1_22 ih x6))
noncomputable def S37_85 (ih : Handler) (h32 : Hp) (x6 : IV) (x66 : IV) (j1_22 : IV → Hp → Option (IV × Hp)) : Option (IV × Hp) :=
  isoS [] false false ih 38 [x6, x66, .fv (.int .i64 2)] h32 fun x68 h69 _ _ => isoS [] false false ih 60 [x6, .fv (.int .i64 1), x68] h69 fun x72 h73 _ _ => j1_22 x72 h73
noncomputable def S37_86 (x35 : IV) (ih : Handler) (h32 : Hp) (x5 : IV) (x7 : IV) (x6 : IV) (j1_22 : IV → Hp → Option (IV × Hp)) : Option (IV × Hp) :=
  condS x35 (isoS [] false false ih 24 [.fv (.int .i64 14), .nils] h32 fun x36 h37 r38 w39 => chkS [] r38 w39 (S37_84 x5 x7 h37 r38 w39 ih x6 x36 j1_22)) (ixS 3 x5 x7 fun x65 => loadA 3 x65 h32 fun x66 _ => S37_85 ih h32 x6 x66 j1_22)
noncomputable def S37_87 (x5 : IV) (x7 : IV) (h18 : Hp) (ih : Handler) (x6 : IV) (j1_22 : IV → Hp → Option (IV × Hp)) : Option (IV × Hp) :=
  ixS 3 x5 x7 fun x27 => faddrS 1 x27 fun x28 => load1 x28 h18 fun x29 _ => isoS [] false false ih 55 [x29, .fv (.int .i64 3)] h18 fun x31 h32 _ _ => eqS EE 3 x31 (.fv (.int .i64 0)) fun x35 => S37_86 x35 ih h32 x5 x7 x6 j1_22
noncomputable def S37_88 (h4 : Hp) (x9 : IV) (x7 : IV) (h1 : Hp) (x5 : IV) (q2 : List IV → Hp → Option (IV × Hp)) (ih : Handler) (x6 : IV) : Option (IV × Hp) :=
  guardS x9 true h4 (fun k10 => k10 x7 h4 [] []) fun x11 h12 _ _ => guardS x9 true h12 (fun k15 => ltS EE 3 x11 (.fv (.int .i64 4)) fun x16 => k15 x16 h12 [] []) fun x17 h18 _ _ => pickS x9 x17 (.fv (.bool false)) fun x21 => condS x21 ((fun (j1_22 : IV → Hp → Option (IV × Hp)) => S37_87 x5 x7 h18 ih x6 j1_22) fun x23 h24 => S37_80 x7 h1 h24 x5 x23 q2) (outS1 [x6] h18)
noncomputable def S37_89 (l3 : List IV) (h4 : Hp) (h1 : Hp) (q2 : List IV → Hp → Option (IV × Hp)) (ih : Handler) : Option (IV × Hp) :=
  uncS l3 fun x5 l76 => uncS l76 fun x6 l77 => uncS l77 fun x7 _ => lenS x5 fun x8 => ltS EE 3 x7 x8 fun x9 => S37_88 h4 x9 x7 h1 x5 q2 ih x6
noncomputable def S37 (ih : Handler) (n : Nat) (x0 : IV) (h1 : Hp) : Option (IV × Hp) :=
  dropS (h1.own.map (·.1)) [38803466] [x0, .nils, .fv (.int .i64 0)] h1 fun h79 => loopS n (fun q2 l3 h4 => S37_89 l3 h4 h1 q2 ih) [x0, .nils, .fv (.int .i64 0)] h79
theorem S37_ok (ih : Handler) (n : Nat) (x0 : IV) (h1 : Hp) : funS EE ih ft.get n 37 [x0] h1 = S37 ih n x0 h1 := by kernel_rfl
noncomputable def S38_237 (h29 : Hp) (x8 : IV) : Option (IV × Hp) :=
  cellS true 3 x8 h29 fun x32 => outS1 [x32] h29
noncomputable def S38_238 (ih : Handler) (h24 : Hp) (x8 : IV) : Option (IV × Hp) :=
  isoS [] false false ih 24 [.fv (.int .i64 14), .nils] h24 fun x34 h35 _ _ => storeA 3 x8 x34 h35 fun h38 _ _ => cellS true 3 x8 h38 fun x41 => outS1 [x41] h38
noncomputable def S38_239 (h46 : Hp) (x45 : IV) (ih : Handler) (x8 : IV) : Option (IV × Hp) :=
  genS (pcBuildSlice EE 28 1 [(0, x45)]) 39857154 h46 fun x49 h50 _ _ => isoS [] false false ih 24 [.fv (.int .i64 18), x49] h50 fun x53 h54 _ _ => storeA 3 x8 x53 h54 fun h57 _ _ => cellS true 3 x8 h57 fun x60 => outS1 [x60] h57
noncomputable def S38_240 (ih : Handler) (h24 : Hp) (x8 : IV) : Option (IV × Hp) :=
  isoS [] false false ih 47 [.fv (.int .i64 0)] h24 fun x62 h63 _ _ => storeA 3 x8 x62 h63 fun h66 _ _ => cellS true 3 x8 h66 fun x69 => outS1 [x69] h66
noncomputable def S38_241 (r116 : List Ref) (w117 : List Ref) (h115 : Hp) (x8 : IV) (x114 : IV) : Option (IV × Hp) :=
  chkS [] r116 w117 (storeA 3 x8 x114 h115 fun h118 r119 w120 => chkS [] r119 w120 (cellS true 3 x8 h118 fun x121 => outS1 [x121] h118))
noncomputable def S38_242 (ih : Handler) (h102 : Hp) (x95 : IV) (x101 : IV) (x105 : IV) (r92 : List Ref) (x91 : IV) (x8 : IV) : Option (IV × Hp) :=
  isoS [] false false ih 38 [x95, x101, x105] h102 fun x106 h107 r108 w109 => chkS [(r92, [])] r108 w109 (genS (pcBuildSlice EE 28 2 [(0, x91), (1, x106)]) 39863305 h107 fun x110 h111 r112 w113 => chkS [] r112 w113 (isoS [] false false ih 24 [.fv (.int .i64 3), x110] h111 fun x114 h115 r116 w117 => S38_241 r116 w117 h115 x8 x114))
noncomputable def S38_243 (h96 : Hp) (x4 : IV) (r97 : List Ref) (w98 : List Ref) (r94 : List Ref) (r92 : List Ref) (ih : Handler) (x2 : IV) (x95 : IV) (x91 : IV) (x8 : IV) : Option (IV × Hp) :=
  loadA 3 x4 h96 fun x99 r100 => chkS [(r97, w98), (r94, []), (r92, [])] r100 [] (isoS [] false false ih 56 [x99, .fv (.int .i64 1)] h96 fun x101 h102 r103 w104 => chkS [(r92, [])] r103 w104 (subS EE 3 x2 (.fv (.int .i64 1)) fun x105 => S38_242 ih h102 x95 x101 x105 r92 x91 x8))
noncomputable def S38_244 (r92 : List Ref) (h88 : Hp) (x84 : IV) (ih : Handler) (x0 : IV) (x4 : IV) (x2 : IV) (x91 : IV) (x8 : IV) : Option (IV × Hp) :=
  chkS [] r92 [] (loadA 3 x84 h88 fun x93 r94 => chkS [(r92, [])] r94 [] (isoS [] false false ih 60 [x0, .fv (.int .i64 1), x93] h88 fun x95 h96 r97 w98 => chkS [(r92, [])] r97 w98 (S38_243 h96 x4 r97 w98 r94 r92 ih x2 x95 x91 x8)))
noncomputable def S38_245 (x2 : IV) (ih : Handler) (h76 : Hp) (x0 : IV) (x75 : IV) (x4 : IV) (x8 : IV) : Option (IV × Hp) :=
  subS EE 3 x2 (.fv (.int .i64 1)) fun x79 => isoS [] false false ih 38 [x0, x75, x79] h76 fun x80 h81 _ _ => newS 39862278 (.row [.fv (.int .i64 0), .fv (.int .i64 0), .nils] false) (.ptr (.own 39862278) 0) h81 fun x84 h85 _ _ => storeA 3 x84 x80 h85 fun h88 _ _ => loadA 3 x84 h88 fun x91 r92 => S38_244 r92 h88 x84 ih x0 x4 x2 x91 x8
noncomputable def S38_246 (h168 : Hp) (x8 : IV) : Option (IV × Hp) :=
  cellS true 3 x8 h168 fun x171 => outS1 [x171] h168
noncomputable def S38_247 (r162 : List Ref) (w163 : List Ref) (ih : Handler) (h161 : Hp) (x160 : IV) (x8 : IV) : Option (IV × Hp) :=
  chkS [] r162 w163 (isoS [] false false ih 24 [.fv (.int .i64 6), x160] h161 fun x164 h165 r166 w167 => chkS [] r166 w167 (storeA 3 x8 x164 h165 fun h168 r169 w170 => chkS [] r169 w170 (S38_246 h168 x8)))
noncomputable def S38_248 (r153 : List Ref) (w154 : List Ref) (r142 : List Ref) (x2 : IV) (ih : Handler) (h152 : Hp) (x145 : IV) (x151 : IV) (x141 : IV) (x8 : IV) : Option (IV × Hp) :=
  chkS [(r142, [])] r153 w154 (subS EE 3 x2 (.fv (.int .i64 1)) fun x155 => isoS [] false false ih 38 [x145, x151, x155] h152 fun x156 h157 r158 w159 => chkS [(r142, [])] r158 w159 (genS (pcBuildSlice EE 28 2 [(0, x141), (1, x156)]) 39866377 h157 fun x160 h161 r162 w163 => S38_247 r162 w163 ih h161 x160 x8))
noncomputable def S38_249 (ih : Handler) (h138 : Hp) (x0 : IV) (x143 : IV) (r142 : List Ref) (x4 : IV) (r144 : List Ref) (x2 : IV) (x141 : IV) (x8 : IV) : Option (IV × Hp) :=
  isoS [] false false ih 60 [x0, .fv (.int .i64 1), x143] h138 fun x145 h146 r147 w148 => chkS [(r142, [])] r147 w148 (loadA 3 x4 h146 fun x149 r150 => chkS [(r147, w148), (r144, []), (r142, [])] r150 [] (isoS [] false false ih 56 [x149, .fv (.int .i64 1)] h146 fun x151 h152 r153 w154 => S38_248 r153 w154 r142 x2 ih h152 x145 x151 x141 x8))
noncomputable def S38_250 (h135 : Hp) (x134 : IV) (x130 : IV) (ih : Handler) (x0 : IV) (x4 : IV) (x2 : IV) (x8 : IV) : Option (IV × Hp) :=
  storeA 3 x134 x130 h135 fun h138 _ _ => loadA 3 x134 h138 fun x141 r142 => chkS [] r142 [] (loadA 3 x134 h138 fun x143 r144 => chkS [(r142, [])] r144 [] (S38_249 ih h138 x0 x143 r142 x4 r144 x2 x141 x8))
noncomputable def S38_251 (h72 : Hp) (x4 : IV) (ih : Handler) (x2 : IV) (x0 : IV) (x8 : IV) : Option (IV × Hp) :=
  loadA 3 x4 h72 fun x123 _ => isoS [] false false ih 56 [x123, .fv (.int .i64 0)] h72 fun x125 h126 _ _ => subS EE 3 x2 (.fv (.int .i64 1)) fun x129 => isoS [] false false ih 38 [x0, x125, x129] h126 fun x130 h131 _ _ => newS 39865350 (.row [.fv (.int .i64 0), .fv (.int .i64 0), .nils] false) (.ptr (.own 39865350) 0) h131 fun x134 h135 _ _ => S38_250 h135 x134 x130 ih x0 x4 x2 x8
noncomputable def S38_252 (h201 : Hp) (x8 : IV) : Option (IV × Hp) :=
  cellS true 3 x8 h201 fun x204 => outS1 [x204] h201
noncomputable def S38_253 (ih : Handler) (h208 : Hp) (x207 : IV) (x8 : IV) : Option (IV × Hp) :=
  isoS [] false false ih 24 [.fv (.int .i64 18), x207] h208 fun x211 h212 _ _ => storeA 3 x8 x211 h212 fun h215 _ _ => cellS true 3 x8 h215 fun x218 => outS1 [x218] h215
noncomputable def S38_254 (x188 : IV) (ih : Handler) (h193 : Hp) (x8 : IV) (x189 : IV) : Option (IV × Hp) :=
  optS (unR .not x188) fun x196 => condS x196 (isoS [] false false ih 64 [] h193 fun x197 h198 _ _ => storeA 3 x8 x197 h198 fun h201 _ _ => S38_252 h201 x8) (loadA 3 x189 h193 fun x205 _ => genS (pcBuildSlice EE 28 1 [(0, x205)]) 39870465 h193 fun x207 h208 _ _ => S38_253 ih h208 x207 x8)
noncomputable def S38_255 (x183 : IV) (h184 : Hp) (r185 : List Ref) (w186 : List Ref) (r180 : List Ref) (w181 : List Ref) (r177 : List Ref) (r174 : List Ref) (w175 : List Ref) (x187 : IV) (ih : Handler) (x8 : IV) : Option (IV × Hp) :=
  extS 1 x183 fun x188 => newS 39867402 (.row [.fv (.int .i64 0), .fv (.int .i64 0), .nils] false) (.ptr (.own 39867402) 0) h184 fun x189 h190 r191 w192 => chkS [(r185, w186), (r180, w181), (r177, []), (r174, w175)] r191 w192 (storeA 3 x189 x187 h190 fun h193 r194 w195 => chkS [] r194 w195 (S38_254 x188 ih h193 x8 x189))
noncomputable def S38_256 (r180 : List Ref) (w181 : List Ref) (x2 : IV) (ih : Handler) (h179 : Hp) (x0 : IV) (x172 : IV) (x178 : IV) (r177 : List Ref) (r174 : List Ref) (w175 : List Ref) (x8 : IV) : Option (IV × Hp) :=
  chkS [] r180 w181 (subS EE 3 x2 (.fv (.int .i64 1)) fun x182 => isoS [] false false ih 39 [x0, x172, x178, x182] h179 fun x183 h184 r185 w186 => chkS [] r185 w186 (extS 0 x183 fun x187 => S38_255 x183 h184 r185 w186 r180 w181 r177 r174 w175 x187 ih x8))
noncomputable def S38_257 (ih : Handler) (h72 : Hp) (x4 : IV) (x2 : IV) (x0 : IV) (x8 : IV) : Option (IV × Hp) :=
  isoS [] false false ih 24 [.fv (.int .i64 14), .nils] h72 fun x172 h173 r174 w175 => chkS [] r174 w175 (loadA 3 x4 h173 fun x176 r177 => chkS [(r174, w175)] r177 [] (isoS [] false false ih 56 [x176, .fv (.int .i64 0)] h173 fun x178 h179 r180 w181 => S38_256 r180 w181 x2 ih h179 x0 x172 x178 r177 r174 w175 x8))
noncomputable def S38_258 (x71 : IV) (h72 : Hp) (x4 : IV) (ih : Handler) (x2 : IV) (x0 : IV) (x8 : IV) (x20 : IV) : Option (IV × Hp) :=
  condS x71 (loadA 3 x4 h72 fun x73 _ => isoS [] false false ih 56 [x73, .fv (.int .i64 0)] h72 fun x75 h76 _ _ => S38_245 x2 ih h76 x0 x75 x4 x8) (eqS EE 3 x20 (.fv (.int .i64 7)) fun x122 => condS x122 (S38_251 h72 x4 ih x2 x0 x8) (S38_257 ih h72 x4 x2 x0 x8))
noncomputable def S38_259 (x4 : IV) (ih : Handler) (x2 : IV) (x0 : IV) (x8 : IV) (x20 : IV) (h24 : Hp) : Option (IV × Hp) :=
  (fun (j1_70 : IV → Hp → Option (IV × Hp)) => eqS EE 3 x20 (.fv (.int .i64 5)) fun x219 => condS x219 (j1_70 x219 h24) (eqS EE 3 x20 (.fv (.int .i64 6)) fun x220 => j1_70 x220 h24)) fun x71 h72 => S38_258 x71 h72 x4 ih x2 x0 x8 x20
noncomputable def S38_260 (x20 : IV) (h24 : Hp) (x4 : IV) (ih : Handler) (x8 : IV) (x2 : IV) (x0 : IV) : Option (IV × Hp) :=
  eqS EE 3 x20 (.fv (.int .i64 3)) fun x42 => condS x42 (loadA 3 x4 h24 fun x43 _ => isoS [] false false ih 28 [x43, .fv (.int .i64 1)] h24 fun x45 h46 _ _ => S38_239 h46 x45 ih x8) (eqS EE 3 x20 (.fv (.int .i64 4)) fun x61 => condS x61 (S38_240 ih h24 x8) (S38_259 x4 ih x2 x0 x8 x20 h24))
noncomputable def S38_261 (x23 : IV) (ih : Handler) (h24 : Hp) (x8 : IV) (x20 : IV) (x4 : IV) (x2 : IV) (x0 : IV) : Option (IV × Hp) :=
  condS x23 (isoS [] false false ih 64 [] h24 fun x25 h26 _ _ => storeA 3 x8 x25 h26 fun h29 _ _ => S38_237 h29 x8) (eqS EE 3 x20 (.fv (.int .i64 2)) fun x33 => condS x33 (S38_238 ih h24 x8) (S38_260 x20 h24 x4 ih x8 x2 x0))
noncomputable def S38_262 (ih : Handler) (x8 : IV) (x20 : IV) (x4 : IV) (x2 : IV) (x0 : IV) (h21 : Hp) : Option (IV × Hp) :=
  (fun (j1_22 : IV → Hp → Option (IV × Hp)) => eqS EE 3 x20 (.fv (.int .i64 0)) fun x221 => condS x221 (j1_22 x221 h21) (eqS EE 3 x20 (.fv (.int .i64 1)) fun x222 => j1_22 x222 h21)) fun x23 h24 => S38_261 x23 ih h24 x8 x20 x4 x2 x0
noncomputable def S38_263 (x15 : IV) (j1_19 : IV → Hp → Option (IV × Hp)) (h232 : Hp) : Option (IV × Hp) :=
  binS EE 3 .rem x15 (.fv (.int .i64 5)) fun x236 => j1_19 x236 h232
noncomputable def S38_264 (x2 : IV) (h16 : Hp) (x15 : IV) (j1_19 : IV → Hp → Option (IV × Hp)) : Option (IV × Hp) :=
  leS EE 3 x2 (.fv (.int .i64 0)) fun x223 => guardS x223 true h16 (fun k224 => k224 x15 h16 [] []) fun x225 h226 _ _ => guardS x223 true h226 (fun k229 => gtS EE 3 x225 (.fv (.int .i64 4)) fun x230 => k229 x230 h226 [] []) fun x231 h232 _ _ => pickS x223 x231 (.fv (.bool false)) fun x235 => condS x235 (S38_263 x15 j1_19 h232) (j1_19 x15 h232)
noncomputable def S38 (ih : Handler) (n : Nat) (x0 : IV) (x1 : IV) (x2 : IV) (h3 : Hp) : Option (IV × Hp) :=
  boxS 39845888 x1 h3 fun x4 h5 _ _ => newS 39845889 (.row [.fv (.int .i64 0), .fv (.int .i64 0), .nils] false) (.ptr (.own 39845889) 0) h5 fun x8 h9 _ _ => faddrS 0 x4 fun x12 => load1 x12 h9 fun x13 _ => isoS [] false false ih 55 [x13, .fv (.int .i64 9)] h9 fun x15 h16 _ _ => (fun (j1_19 : IV → Hp → Option (IV × Hp)) => S38_264 x2 h16 x15 j1_19) fun x20 h21 => S38_262 ih x8 x20 x4 x2 x0 h21
theorem S38_ok (ih : Handler) (n : Nat) (x0 : IV) (x1 : IV) (x2 : IV) (h3 : Hp) : funS EE ih ft.get n 38 [x0, x1, x2] h3 = S38 ih n x0 x1 x2 h3 := by kernel_rfl
noncomputable def S39_346 (h25 : Hp) (x13 : IV) (x29 : IV) : Option (IV × Hp) :=
  storeA 3 x13 x29 h25 fun h30 _ _ => cellS true 3 x13 h30 fun x33 => outS1 [x33, .fv (.bool false)] h30
noncomputable def S39_347 (h91 : Hp) (x13 : IV) (x44 : IV) : Option (IV × Hp) :=
  cellS true 3 x13 h91 fun x94 => outS1 [x94, x44] h91
noncomputable def S39_348 (h126 : Hp) (x13 : IV) (x129 : IV) (x130 : IV) : Option (IV × Hp) :=
  storeA 3 x13 x129 h126 fun h131 _ _ => cellS true 3 x13 h131 fun x134 => outS1 [x134, x130] h131
noncomputable def S39_349 (h117 : Hp) (x5 : IV) (x9 : IV) (ih : Handler) (x0 : IV) (x3 : IV) (x13 : IV) : Option (IV × Hp) :=
  loadA 3 x5 h117 fun x121 _ => loadA 3 x9 h117 fun x123 _ => isoS [] false false ih 65 [x0, x121, x123, x3] h117 fun x125 h126 _ _ => extS 0 x125 fun x129 => extS 1 x125 fun x130 => S39_348 h126 x13 x129 x130
noncomputable def S39_350 (ih : Handler) (h140 : Hp) (x0 : IV) (x141 : IV) (x143 : IV) (x3 : IV) (x13 : IV) : Option (IV × Hp) :=
  isoS [] false false ih 66 [x0, x141, x143, x3] h140 fun x145 h146 _ _ => extS 0 x145 fun x149 => extS 1 x145 fun x150 => storeA 3 x13 x149 h146 fun h151 _ _ => cellS true 3 x13 h151 fun x154 => outS1 [x154, x150] h151
noncomputable def S39_351 (r209 : List Ref) (w210 : List Ref) (h208 : Hp) (x13 : IV) (x184 : IV) : Option (IV × Hp) :=
  chkS [] r209 w210 (cellS true 3 x13 h208 fun x211 => outS1 [x211, x184] h208)
noncomputable def S39_352 (h189 : Hp) (x196 : IV) (x198 : IV) (ih : Handler) (x13 : IV) (x184 : IV) : Option (IV × Hp) :=
  genS (pcBuildSlice EE 28 2 [(0, x196), (1, x198)]) 40910853 h189 fun x200 h201 r202 w203 => chkS [] r202 w203 (isoS [] false false ih 24 [.fv (.int .i64 4), x200] h201 fun x204 h205 r206 w207 => chkS [] r206 w207 (storeA 3 x13 x204 h205 fun h208 r209 w210 => S39_351 r209 w210 h208 x13 x184))
noncomputable def S39_353 (x193 : IV) (h189 : Hp) (x185 : IV) (r194 : List Ref) (ih : Handler) (x13 : IV) (x184 : IV) : Option (IV × Hp) :=
  ixS 3 x193 (.fv (.int .i64 0)) fun x195 => loadA 3 x195 h189 fun x196 r197 => chkS [] r197 [] (loadA 3 x185 h189 fun x198 r199 => chkS [(r197, []), (r194, [])] r199 [] (S39_352 h189 x196 x198 ih x13 x184))
noncomputable def S39_354 (h186 : Hp) (x185 : IV) (x183 : IV) (x5 : IV) (ih : Handler) (x13 : IV) (x184 : IV) : Option (IV × Hp) :=
  storeA 3 x185 x183 h186 fun h189 r190 w191 => chkS [] r190 w191 (faddrS 2 x5 fun x192 => load1 x192 h189 fun x193 r194 => chkS [] r194 [] (S39_353 x193 h189 x185 r194 ih x13 x184))
noncomputable def S39_355 (r181 : List Ref) (w182 : List Ref) (x179 : IV) (h180 : Hp) (r176 : List Ref) (w177 : List Ref) (r173 : List Ref) (r171 : List Ref) (r168 : List Ref) (r164 : List Ref) (w165 : List Ref) (r161 : List Ref) (r158 : List Ref) (x5 : IV) (ih : Handler) (x13 : IV) : Option (IV × Hp) :=
  chkS [] r181 w182 (extS 0 x179 fun x183 => extS 1 x179 fun x184 => newS 40909842 (.row [.fv (.int .i64 0), .fv (.int .i64 0), .nils] false) (.ptr (.own 40909842) 0) h180 fun x185 h186 r187 w188 => chkS [(r181, w182), (r176, w177), (r173, []), (r171, []), (r168, []), (r164, w165), (r161, []), (r158, [])] r187 w188 (S39_354 h186 x185 x183 x5 ih x13 x184))
noncomputable def S39_356 (r173 : List Ref) (r171 : List Ref) (r168 : List Ref) (r164 : List Ref) (w165 : List Ref) (r161 : List Ref) (r158 : List Ref) (ih : Handler) (h163 : Hp) (x172 : IV) (x3 : IV) (x162 : IV) (x170 : IV) (x5 : IV) (x13 : IV) : Option (IV × Hp) :=
  chkS [(r171, []), (r168, []), (r164, w165), (r161, []), (r158, [])] r173 [] (isoS [] false false ih 56 [x172, .fv (.int .i64 0)] h163 fun x174 h175 r176 w177 => chkS [(r171, []), (r168, [])] r176 w177 (subS EE 3 x3 (.fv (.int .i64 1)) fun x178 => isoS [] false false ih 39 [x162, x170, x174, x178] h175 fun x179 h180 r181 w182 => S39_355 r181 w182 x179 h180 r176 w177 r173 r171 r168 r164 w165 r161 r158 x5 ih x13))
noncomputable def S39_357 (r168 : List Ref) (r164 : List Ref) (w165 : List Ref) (r161 : List Ref) (r158 : List Ref) (x167 : IV) (h163 : Hp) (x9 : IV) (ih : Handler) (x3 : IV) (x162 : IV) (x5 : IV) (x13 : IV) : Option (IV × Hp) :=
  chkS [(r164, w165), (r161, []), (r158, [])] r168 [] (ixS 3 x167 (.fv (.int .i64 1)) fun x169 => loadA 3 x169 h163 fun x170 r171 => chkS [(r164, w165), (r161, []), (r158, [])] r171 [] (loadA 3 x9 h163 fun x172 r173 => S39_356 r173 r171 r168 r164 w165 r161 r158 ih h163 x172 x3 x162 x170 x5 x13))
noncomputable def S39_358 (r161 : List Ref) (ih : Handler) (h140 : Hp) (x0 : IV) (x160 : IV) (x5 : IV) (r158 : List Ref) (x9 : IV) (x3 : IV) (x13 : IV) : Option (IV × Hp) :=
  chkS [] r161 [] (isoS [] false false ih 60 [x0, .fv (.int .i64 1), x160] h140 fun x162 h163 r164 w165 => chkS [] r164 w165 (faddrS 2 x5 fun x166 => load1 x166 h163 fun x167 r168 => S39_357 r168 r164 w165 r161 r158 x167 h163 x9 ih x3 x162 x5 x13))
noncomputable def S39_359 (x5 : IV) (h140 : Hp) (ih : Handler) (x0 : IV) (x9 : IV) (x3 : IV) (x13 : IV) : Option (IV × Hp) :=
  faddrS 2 x5 fun x156 => load1 x156 h140 fun x157 r158 => chkS [] r158 [] (ixS 3 x157 (.fv (.int .i64 0)) fun x159 => loadA 3 x159 h140 fun x160 r161 => S39_358 r161 ih h140 x0 x160 x5 r158 x9 x3 x13)
noncomputable def S39_360 (h236 : Hp) (x13 : IV) (x240 : IV) (x44 : IV) : Option (IV × Hp) :=
  storeA 3 x13 x240 h236 fun h242 _ _ => cellS true 3 x13 h242 fun x245 => outS1 [x245, x44] h242
noncomputable def S39_361 (h275 : Hp) (x278 : IV) (x280 : IV) (x282 : IV) (ih : Handler) (x13 : IV) (x270 : IV) : Option (IV × Hp) :=
  genS (pcBuildSlice EE 28 3 [(0, x278), (1, x280), (2, x282)]) 40916995 h275 fun x284 h285 _ _ => isoS [] false false ih 24 [.fv (.int .i64 7), x284] h285 fun x288 h289 _ _ => storeA 3 x13 x288 h289 fun h292 _ _ => cellS true 3 x13 h292 fun x295 => outS1 [x295, x270] h292
noncomputable def S39_362 (h272 : Hp) (x271 : IV) (x269 : IV) (x5 : IV) (x232 : IV) (ih : Handler) (x13 : IV) (x270 : IV) : Option (IV × Hp) :=
  storeA 3 x271 x269 h272 fun h275 r276 w277 => chkS [] r276 w277 (loadA 3 x5 h275 fun x278 _ => loadA 3 x232 h275 fun x280 _ => loadA 3 x271 h275 fun x282 _ => S39_361 h275 x278 x280 x282 ih x13 x270)
noncomputable def S39_363 (r267 : List Ref) (w268 : List Ref) (x265 : IV) (h266 : Hp) (r262 : List Ref) (w263 : List Ref) (r259 : List Ref) (r256 : List Ref) (w257 : List Ref) (r253 : List Ref) (r251 : List Ref) (r248 : List Ref) (x5 : IV) (x232 : IV) (ih : Handler) (x13 : IV) : Option (IV × Hp) :=
  chkS [] r267 w268 (extS 0 x265 fun x269 => extS 1 x265 fun x270 => newS 40915983 (.row [.fv (.int .i64 0), .fv (.int .i64 0), .nils] false) (.ptr (.own 40915983) 0) h266 fun x271 h272 r273 w274 => chkS [(r267, w268), (r262, w263), (r259, []), (r256, w257), (r253, []), (r251, []), (r248, [])] r273 w274 (S39_362 h272 x271 x269 x5 x232 ih x13 x270))
noncomputable def S39_364 (r259 : List Ref) (r256 : List Ref) (w257 : List Ref) (r253 : List Ref) (r251 : List Ref) (r248 : List Ref) (ih : Handler) (h255 : Hp) (x258 : IV) (x3 : IV) (x0 : IV) (x254 : IV) (x5 : IV) (x232 : IV) (x13 : IV) : Option (IV × Hp) :=
  chkS [(r256, w257), (r253, []), (r251, []), (r248, [])] r259 [] (isoS [] false false ih 56 [x258, .fv (.int .i64 1)] h255 fun x260 h261 r262 w263 => chkS [] r262 w263 (subS EE 3 x3 (.fv (.int .i64 1)) fun x264 => isoS [] false false ih 39 [x0, x254, x260, x264] h261 fun x265 h266 r267 w268 => S39_363 r267 w268 x265 h266 r262 w263 r259 r256 w257 r253 r251 r248 x5 x232 ih x13))
noncomputable def S39_365 (h236 : Hp) (x232 : IV) (r251 : List Ref) (r248 : List Ref) (ih : Handler) (x250 : IV) (x9 : IV) (x3 : IV) (x0 : IV) (x5 : IV) (x13 : IV) : Option (IV × Hp) :=
  loadA 3 x232 h236 fun x252 r253 => chkS [(r251, []), (r248, [])] r253 [] (isoS [] false false ih 67 [x250, .fv (.int .i64 0), x252] h236 fun x254 h255 r256 w257 => chkS [] r256 w257 (loadA 3 x9 h255 fun x258 r259 => S39_364 r259 r256 w257 r253 r251 r248 ih h255 x258 x3 x0 x254 x5 x232 x13))
noncomputable def S39_366 (h236 : Hp) (x246 : IV) (x232 : IV) (ih : Handler) (x9 : IV) (x3 : IV) (x0 : IV) (x5 : IV) (x13 : IV) : Option (IV × Hp) :=
  load1 x246 h236 fun x247 r248 => chkS [] r248 [] (ixS 3 x247 (.fv (.int .i64 1)) fun x249 => loadA 3 x249 h236 fun x250 r251 => chkS [] r251 [] (S39_365 h236 x232 r251 r248 ih x250 x9 x3 x0 x5 x13))
noncomputable def S39_367 (h233 : Hp) (x232 : IV) (x230 : IV) (x231 : IV) (x45 : IV) (x13 : IV) (x44 : IV) (x5 : IV) (ih : Handler) (x9 : IV) (x3 : IV) (x0 : IV) : Option (IV × Hp) :=
  storeA 3 x232 x230 h233 fun h236 r237 w238 => chkS [] r237 w238 (optS (unR .not x231) fun x239 => condS x239 (loadA 3 x45 h236 fun x240 _ => S39_360 h236 x13 x240 x44) (faddrS 2 x5 fun x246 => S39_366 h236 x246 x232 ih x9 x3 x0 x5 x13))
noncomputable def S39_368 (r228 : List Ref) (w229 : List Ref) (x226 : IV) (h227 : Hp) (r223 : List Ref) (w224 : List Ref) (r220 : List Ref) (r218 : List Ref) (r215 : List Ref) (x45 : IV) (x13 : IV) (x44 : IV) (x5 : IV) (ih : Handler) (x9 : IV) (x3 : IV) (x0 : IV) : Option (IV × Hp) :=
  chkS [] r228 w229 (extS 0 x226 fun x230 => extS 1 x226 fun x231 => newS 40912909 (.row [.fv (.int .i64 0), .fv (.int .i64 0), .nils] false) (.ptr (.own 40912909) 0) h227 fun x232 h233 r234 w235 => chkS [(r228, w229), (r223, w224), (r220, []), (r218, []), (r215, [])] r234 w235 (S39_367 h233 x232 x230 x231 x45 x13 x44 x5 ih x9 x3 x0))
noncomputable def S39_369 (r220 : List Ref) (r218 : List Ref) (r215 : List Ref) (ih : Handler) (h140 : Hp) (x219 : IV) (x3 : IV) (x0 : IV) (x217 : IV) (x45 : IV) (x13 : IV) (x44 : IV) (x5 : IV) (x9 : IV) : Option (IV × Hp) :=
  chkS [(r218, []), (r215, [])] r220 [] (isoS [] false false ih 56 [x219, .fv (.int .i64 0)] h140 fun x221 h222 r223 w224 => chkS [(r218, []), (r215, [])] r223 w224 (subS EE 3 x3 (.fv (.int .i64 1)) fun x225 => isoS [] false false ih 39 [x0, x217, x221, x225] h222 fun x226 h227 r228 w229 => S39_368 r228 w229 x226 h227 r223 w224 r220 r218 r215 x45 x13 x44 x5 ih x9 x3 x0))
noncomputable def S39_370 (r215 : List Ref) (x214 : IV) (h140 : Hp) (x9 : IV) (ih : Handler) (x3 : IV) (x0 : IV) (x45 : IV) (x13 : IV) (x44 : IV) (x5 : IV) : Option (IV × Hp) :=
  chkS [] r215 [] (ixS 3 x214 (.fv (.int .i64 0)) fun x216 => loadA 3 x216 h140 fun x217 r218 => chkS [] r218 [] (loadA 3 x9 h140 fun x219 r220 => S39_369 r220 r218 r215 ih h140 x219 x3 x0 x217 x45 x13 x44 x5 x9))
noncomputable def S39_371 (h320 : Hp) (x323 : IV) (ih : Handler) (x13 : IV) (x315 : IV) : Option (IV × Hp) :=
  genS (pcBuildSlice EE 28 1 [(0, x323)]) 40920065 h320 fun x325 h326 _ _ => isoS [] false false ih 24 [.fv (.int .i64 19), x325] h326 fun x329 h330 _ _ => storeA 3 x13 x329 h330 fun h333 _ _ => cellS true 3 x13 h333 fun x336 => outS1 [x336, x315] h333
noncomputable def S39_372 (h311 : Hp) (r312 : List Ref) (w313 : List Ref) (r307 : List Ref) (w308 : List Ref) (r304 : List Ref) (r302 : List Ref) (r299 : List Ref) (x314 : IV) (ih : Handler) (x13 : IV) (x315 : IV) : Option (IV × Hp) :=
  newS 40919053 (.row [.fv (.int .i64 0), .fv (.int .i64 0), .nils] false) (.ptr (.own 40919053) 0) h311 fun x316 h317 r318 w319 => chkS [(r312, w313), (r307, w308), (r304, []), (r302, []), (r299, [])] r318 w319 (storeA 3 x316 x314 h317 fun h320 r321 w322 => chkS [] r321 w322 (loadA 3 x316 h320 fun x323 _ => S39_371 h320 x323 ih x13 x315))
noncomputable def S39_373 (x3 : IV) (ih : Handler) (h306 : Hp) (x0 : IV) (x301 : IV) (x305 : IV) (r307 : List Ref) (w308 : List Ref) (r304 : List Ref) (r302 : List Ref) (r299 : List Ref) (x13 : IV) : Option (IV × Hp) :=
  subS EE 3 x3 (.fv (.int .i64 1)) fun x309 => isoS [] false false ih 33 [x0, x301, x305, x309] h306 fun x310 h311 r312 w313 => chkS [] r312 w313 (extS 0 x310 fun x314 => extS 1 x310 fun x315 => S39_372 h311 r312 w313 r307 w308 r304 r302 r299 x314 ih x13 x315)
noncomputable def S39_374 (r302 : List Ref) (h140 : Hp) (x9 : IV) (r299 : List Ref) (ih : Handler) (x3 : IV) (x0 : IV) (x301 : IV) (x13 : IV) : Option (IV × Hp) :=
  chkS [] r302 [] (loadA 3 x9 h140 fun x303 r304 => chkS [(r302, []), (r299, [])] r304 [] (isoS [] false false ih 56 [x303, .fv (.int .i64 0)] h140 fun x305 h306 r307 w308 => chkS [(r302, []), (r299, [])] r307 w308 (S39_373 x3 ih h306 x0 x301 x305 r307 w308 r304 r302 r299 x13)))
noncomputable def S39_375 (x5 : IV) (h140 : Hp) (x9 : IV) (ih : Handler) (x3 : IV) (x0 : IV) (x13 : IV) : Option (IV × Hp) :=
  faddrS 2 x5 fun x297 => load1 x297 h140 fun x298 r299 => chkS [] r299 [] (ixS 3 x298 (.fv (.int .i64 0)) fun x300 => loadA 3 x300 h140 fun x301 r302 => S39_374 r302 h140 x9 r299 ih x3 x0 x301 x13)
noncomputable def S39_376 (h140 : Hp) (x45 : IV) (x13 : IV) (x44 : IV) : Option (IV × Hp) :=
  loadA 3 x45 h140 fun x337 _ => storeA 3 x13 x337 h140 fun h339 _ _ => cellS true 3 x13 h339 fun x342 => outS1 [x342, x44] h339
noncomputable def S39_377 (x136 : IV) (x5 : IV) (h140 : Hp) (x9 : IV) (ih : Handler) (x3 : IV) (x0 : IV) (x45 : IV) (x13 : IV) (x44 : IV) : Option (IV × Hp) :=
  eqS EE 3 x136 (.fv (.int .i64 6)) fun x212 => condS x212 (faddrS 2 x5 fun x213 => load1 x213 h140 fun x214 r215 => S39_370 r215 x214 h140 x9 ih x3 x0 x45 x13 x44 x5) (eqS EE 3 x136 (.fv (.int .i64 18)) fun x296 => condS x296 (S39_375 x5 h140 x9 ih x3 x0 x13) (S39_376 h140 x45 x13 x44))
noncomputable def S39_378 (x139 : IV) (h140 : Hp) (x5 : IV) (x9 : IV) (ih : Handler) (x0 : IV) (x3 : IV) (x13 : IV) (x136 : IV) (x45 : IV) (x44 : IV) : Option (IV × Hp) :=
  condS x139 (loadA 3 x5 h140 fun x141 _ => loadA 3 x9 h140 fun x143 _ => S39_350 ih h140 x0 x141 x143 x3 x13) (eqS EE 3 x136 (.fv (.int .i64 3)) fun x155 => condS x155 (S39_359 x5 h140 ih x0 x9 x3 x13) (S39_377 x136 x5 h140 x9 ih x3 x0 x45 x13 x44))
noncomputable def S39_379 (x136 : IV) (j1_138 : IV → Hp → Option (IV × Hp)) (h117 : Hp) : Option (IV × Hp) :=
  eqS EE 3 x136 (.fv (.int .i64 14)) fun x344 => condS x344 (j1_138 x344 h117) (eqS EE 3 x136 (.fv (.int .i64 2)) fun x345 => j1_138 x345 h117)
noncomputable def S39_380 (x5 : IV) (h117 : Hp) (x9 : IV) (ih : Handler) (x0 : IV) (x3 : IV) (x13 : IV) (x45 : IV) (x44 : IV) : Option (IV × Hp) :=
  faddrS 0 x5 fun x135 => load1 x135 h117 fun x136 _ => (fun (j1_138 : IV → Hp → Option (IV × Hp)) => eqS EE 3 x136 (.fv (.int .i64 10)) fun x343 => condS x343 (j1_138 x343 h117) (S39_379 x136 j1_138 h117)) fun x139 h140 => S39_378 x139 h140 x5 x9 ih x0 x3 x13 x136 x45 x44
noncomputable def S39_381 (h99 : Hp) (x95 : IV) (x98 : IV) (ih : Handler) (x5 : IV) (x9 : IV) (x0 : IV) (x3 : IV) (x13 : IV) (x45 : IV) (x44 : IV) : Option (IV × Hp) :=
  guardS x95 true h99 (fun k102 => load1 x98 h99 fun x103 r104 => k102 x103 h99 r104 []) fun x105 h106 _ _ => guardS x95 true h106 (fun k109 => isoS [] false false ih 55 [x105, .fv (.int .i64 7)] h106 k109) fun x110 h111 _ _ => guardS x95 true h111 (fun k114 => eqS EE 3 x110 (.fv (.int .i64 6)) fun x115 => k114 x115 h111 [] []) fun x116 h117 _ _ => pickS x95 x116 (.fv (.bool false)) fun x120 => condS x120 (S39_349 h117 x5 x9 ih x0 x3 x13) (S39_380 x5 h117 x9 ih x0 x3 x13 x45 x44)
noncomputable def S39_382 (x88 : IV) (h85 : Hp) (x45 : IV) (x13 : IV) (x44 : IV) (x3 : IV) (x9 : IV) (ih : Handler) (x5 : IV) (x0 : IV) : Option (IV × Hp) :=
  condS x88 (loadA 3 x45 h85 fun x89 _ => storeA 3 x13 x89 h85 fun h91 _ _ => S39_347 h91 x13 x44) (gtS EE 3 x3 (.fv (.int .i64 0)) fun x95 => guardS x95 true h85 (fun k96 => faddrS 0 x9 fun x97 => k96 x97 h85 [] []) fun x98 h99 _ _ => S39_381 h99 x95 x98 ih x5 x9 x0 x3 x13 x45 x44)
noncomputable def S39_383 (h67 : Hp) (x44 : IV) (x66 : IV) (x3 : IV) (x45 : IV) (x13 : IV) (x9 : IV) (ih : Handler) (x5 : IV) (x0 : IV) : Option (IV × Hp) :=
  guardS x44 true h67 (fun k70 => eqS EE 3 x66 (.fv (.int .i64 0)) fun x71 => k70 x71 h67 [] []) fun x72 h73 _ _ => pickS x44 x72 (.fv (.bool false)) fun x76 => guardS x76 false h73 (fun k77 => k77 x3 h73 [] []) fun x78 h79 _ _ => guardS x76 false h79 (fun k82 => ltS EE 3 x78 (.fv (.int .i64 (-4))) fun x83 => k82 x83 h79 [] []) fun x84 h85 _ _ => pickS x76 (.fv (.bool true)) x84 fun x88 => S39_382 x88 h85 x45 x13 x44 x3 x9 ih x5 x0
noncomputable def S39_384 (h40 : Hp) (x43 : IV) (x44 : IV) (x9 : IV) (ih : Handler) (x3 : IV) (x13 : IV) (x5 : IV) (x0 : IV) : Option (IV × Hp) :=
  newS 40898568 (.row [.fv (.int .i64 0), .fv (.int .i64 0), .nils] false) (.ptr (.own 40898568) 0) h40 fun x45 h46 _ _ => storeA 3 x45 x43 h46 fun h49 _ _ => guardS x44 true h49 (fun k52 => faddrS 0 x9 fun x53 => k52 x53 h49 [] []) fun x54 h55 _ _ => guardS x44 true h55 (fun k58 => load1 x54 h55 fun x59 r60 => k58 x59 h55 r60 []) fun x61 h62 _ _ => guardS x44 true h62 (fun k65 => isoS [] false false ih 55 [x61, .fv (.int .i64 3)] h62 k65) fun x66 h67 _ _ => S39_383 h67 x44 x66 x3 x45 x13 x9 ih x5 x0
noncomputable def S39_385 (x9 : IV) (h25 : Hp) (ih : Handler) (x0 : IV) (x34 : IV) (x3 : IV) (x13 : IV) (x5 : IV) : Option (IV × Hp) :=
  faddrS 1 x9 fun x36 => load1 x36 h25 fun x37 _ => isoS [] false false ih 58 [x0, .fv (.int .i64 1), x34, x37] h25 fun x39 h40 _ _ => extS 0 x39 fun x43 => extS 1 x39 fun x44 => S39_384 h40 x43 x44 x9 ih x3 x13 x5 x0
noncomputable def S39_386 (x19 : IV) (h20 : Hp) (x5 : IV) (x23 : IV) (x13 : IV) (x9 : IV) (ih : Handler) (x0 : IV) (x3 : IV) : Option (IV × Hp) :=
  extS 1 x19 fun x24 => storeA 3 x5 x23 h20 fun h25 _ _ => neS EE 3 x24 (.fv (.int .i64 0)) fun x28 => condS x28 (bldS [.fv (.int .i64 0), .fv (.int .i64 0), .nils] [] fun x29 => S39_346 h25 x13 x29) (loadA 3 x5 h25 fun x34 _ => S39_385 x9 h25 ih x0 x34 x3 x13 x5)
noncomputable def S39 (ih : Handler) (n : Nat) (x0 : IV) (x1 : IV) (x2 : IV) (x3 : IV) (h4 : Hp) : Option (IV × Hp) :=
  boxS 40894464 x1 h4 fun x5 h6 _ _ => boxS 40894465 x2 h6 fun x9 h10 _ _ => newS 40894466 (.row [.fv (.int .i64 0), .fv (.int .i64 0), .nils] false) (.ptr (.own 40894466) 0) h10 fun x13 h14 _ _ => loadA 3 x5 h14 fun x17 _ => isoS [] false false ih 34 [x17] h14 fun x19 h20 _ _ => extS 0 x19 fun x23 => S39_386 x19 h20 x5 x23 x13 x9 ih x0 x3
theorem S39_ok (ih : Handler) (n : Nat) (x0 : IV) (x1 : IV) (x2 : IV) (x3 : IV) (h4 : Hp) : funS EE ih ft.get n 39 [x0, x1, x2, x3] h4 = S39 ih n x0 x1 x2 x3 h4 := by kernel_rfl
noncomputable def S40 (ih : Handler) (n : Nat) (x0 : IV) (h1 : Hp) : Option (IV × Hp) :=
  boxS 41943040 x0 h1 fun x2 h3 _ _ => loadA 3 x2 h3 fun x6 _ => newS 41944065 (.row [.fv (.int .i64 0)] false) (.ptr (.own 41944065) 0) h3 fun x8 h9 _ _ => isoS [false, true, false] false false ih 68 [x6, x8, .fv (.int .i64 1)] h9 fun x12 h13 _ _ => outS1 [x12] h13
theorem S40_ok (ih : Handler) (n : Nat) (x0 : IV) (h1 : Hp) : funS EE ih ft.get n 40 [x0] h1 = S40 ih n x0 h1 := by kernel_rfl
noncomputable def S41_77 (h13 : Hp) (x6 : IV) : Option (IV × Hp) :=
  bldS [.fv (.int .i64 0), .fv (.int .i64 0), .nils] [] fun x17 => storeA 3 x6 x17 h13 fun h18 _ _ => cellS true 3 x6 h18 fun x21 => outS1 [x21, .fv (.int .i64 1)] h18
noncomputable def S41_78 (r43 : List Ref) (w44 : List Ref) (r41 : List Ref) (h42 : Hp) (x6 : IV) (x40 : IV) : Option (IV × Hp) :=
  chkS [(r41, [])] r43 w44 (cellS true 3 x6 h42 fun x45 => outS1 [x45, x40] h42)
noncomputable def S41_79 (x22 : IV) (h29 : Hp) (x6 : IV) (x37 : IV) : Option (IV × Hp) :=
  nilS x22 fun x38 => faddrS 3 x38 fun x39 => load1 x39 h29 fun x40 r41 => chkS [] r41 [] (storeA 3 x6 x37 h29 fun h42 r43 w44 => S41_78 r43 w44 r41 h42 x6 x40)
noncomputable def S41_80 (h67 : Hp) (x6 : IV) (x65 : IV) : Option (IV × Hp) :=
  cellS true 3 x6 h67 fun x70 => outS1 [x70, x65] h67
noncomputable def S41_81 (x63 : IV) (h54 : Hp) (x6 : IV) (x62 : IV) : Option (IV × Hp) :=
  faddrS 3 x63 fun x64 => load1 x64 h54 fun x65 r66 => chkS [] r66 [] (storeA 3 x6 x62 h54 fun h67 r68 w69 => chkS [(r66, [])] r68 w69 (S41_80 h67 x6 x65))
noncomputable def S41_82 (h73 : Hp) (x6 : IV) : Option (IV × Hp) :=
  cellS true 3 x6 h73 fun x76 => outS1 [x76, .fv (.int .i64 0)] h73
noncomputable def S41_83 (x59 : IV) (x22 : IV) (h54 : Hp) (x6 : IV) (x50 : IV) : Option (IV × Hp) :=
  neS EE 36 x59 (.fv (.int .i64 0)) fun x61 => condS x61 (bldS [.fv (.int .i64 0), .fv (.int .i64 0), .nils] [] fun x62 => nilS x22 fun x63 => S41_81 x63 h54 x6 x62) (loadA 3 x50 h54 fun x71 _ => storeA 3 x6 x71 h54 fun h73 _ _ => S41_82 h73 x6)
noncomputable def S41_84 (h47 : Hp) (x46 : IV) (x22 : IV) (x6 : IV) : Option (IV × Hp) :=
  newS 42998787 (.row [.fv (.int .i64 0), .fv (.int .i64 0), .nils] false) (.ptr (.own 42998787) 0) h47 fun x50 h51 _ _ => storeA 3 x50 x46 h51 fun h54 _ _ => nilS x22 fun x57 => faddrS 3 x57 fun x58 => load1 x58 h54 fun x59 _ => S41_83 x59 x22 h54 x6 x50
noncomputable def S41_85 (h29 : Hp) (x33 : IV) (x22 : IV) (x6 : IV) (ih : Handler) (x28 : IV) : Option (IV × Hp) :=
  load1 x33 h29 fun x34 _ => neS EE 36 x34 (.fv (.int .i64 0)) fun x36 => condS x36 (bldS [.fv (.int .i64 0), .fv (.int .i64 0), .nils] [] fun x37 => S41_79 x22 h29 x6 x37) (isoS [true, false, false, false] false false ih 72 [x22, x28, .fv (.int .i64 0), .fv (.int .i64 1)] h29 fun x46 h47 _ _ => S41_84 h47 x46 x22 x6)
noncomputable def S41_86 (ih : Handler) (h13 : Hp) (x2 : IV) (x6 : IV) : Option (IV × Hp) :=
  inlS ih 70 [] h13 fun x22 h23 _ _ => loadA 3 x2 h23 fun x26 _ => isoS [true, false, false] false false ih 71 [x22, .fv .nilp, x26] h23 fun x28 h29 _ _ => nilS x22 fun x32 => faddrS 3 x32 fun x33 => S41_85 h29 x33 x22 x6 ih x28
noncomputable def S41 (ih : Handler) (n : Nat) (x0 : IV) (h1 : Hp) : Option (IV × Hp) :=
  boxS 42991616 x0 h1 fun x2 h3 _ _ => newS 42991617 (.row [.fv (.int .i64 0), .fv (.int .i64 0), .nils] false) (.ptr (.own 42991617) 0) h3 fun x6 h7 _ _ => loadA 3 x2 h7 fun x10 _ => isoS [] false false ih 69 [x10] h7 fun x12 h13 _ _ => optS (unR .not x12) fun x16 => condS x16 (S41_77 h13 x6) (S41_86 ih h13 x2 x6)
theorem S41_ok (ih : Handler) (n : Nat) (x0 : IV) (h1 : Hp) : funS EE ih ft.get n 41 [x0] h1 = S41 ih n x0 h1 := by kernel_rfl
noncomputable def S42_88 (h23 : Hp) (x26 : IV) (x19 : IV) (ih : Handler) : Option (IV × Hp) :=
  load1 x26 h23 fun x27 _ => genS (val (mkFunc (.func 74) [] [x19])) 44049410 h23 fun x29 h30 _ _ => isoS [] false false ih 73 [x27, x29] h30 fun x33 h34 _ _ => optS (unR .not x33) fun x37 => outS1 [x37] h34
noncomputable def S42_89 (h12 : Hp) (x3 : IV) (x7 : IV) (ih : Handler) : Option (IV × Hp) :=
  loadA 2 x3 h12 fun x13 _ => genS (val (mkFunc (.func 42) [x13] [])) 44048385 h12 fun x15 h16 _ _ => newS 44048386 (.row [.fv (.nilf)] false) (.ptr (.own 44048386) 0) h16 fun x19 h20 _ _ => store1 x19 x15 h20 fun h23 _ _ => faddrS 2 x7 fun x26 => S42_88 h23 x26 x19 ih
noncomputable def S42_90 (h61 : Hp) (x50 : IV) (x3 : IV) (x60 : IV) (j0_11 : Hp → Option (IV × Hp)) : Option (IV × Hp) :=
  guardS x50 false h61 (fun k64 => faddrS 1 x3 fun x65 => k64 x65 h61 [] []) fun x66 h67 _ _ => guardS x50 false h67 (fun k70 => load1 x66 h67 fun x71 r72 => k70 x71 h67 r72 []) fun x73 h74 _ _ => guardS x50 false h74 (fun k77 => gtS EE 3 x60 x73 fun x78 => k77 x78 h74 [] []) fun x79 h80 _ _ => pickS x50 (.fv (.bool true)) x79 fun x83 => condS x83 (outS1 [.fv (.bool false)] h80) (j0_11 h80)
noncomputable def S42_91 (x3 : IV) (h43 : Hp) (x45 : IV) (x7 : IV) (j0_11 : Hp → Option (IV × Hp)) : Option (IV × Hp) :=
  faddrS 0 x3 fun x47 => load1 x47 h43 fun x48 _ => ltS EE 3 x45 x48 fun x50 => guardS x50 false h43 (fun k51 => faddrS 0 x7 fun x52 => k51 x52 h43 [] []) fun x53 h54 _ _ => guardS x50 false h54 (fun k57 => load1 x53 h54 fun x58 r59 => k57 x58 h54 r59 []) fun x60 h61 _ _ => S42_90 h61 x50 x3 x60 j0_11
noncomputable def S42_92 (x42 : IV) (j0_11 : Hp → Option (IV × Hp)) (h43 : Hp) (x7 : IV) (x3 : IV) : Option (IV × Hp) :=
  condS x42 (j0_11 h43) (faddrS 0 x7 fun x44 => load1 x44 h43 fun x45 _ => S42_91 x3 h43 x45 x7 j0_11)
noncomputable def S42_93 (x39 : IV) (j1_41 : IV → Hp → Option (IV × Hp)) (h8 : Hp) : Option (IV × Hp) :=
  eqS EE 3 x39 (.fv (.int .i64 16)) fun x86 => condS x86 (j1_41 x86 h8) (eqS EE 3 x39 (.fv (.int .i64 17)) fun x87 => j1_41 x87 h8)
noncomputable def S42_94 (x39 : IV) (j1_41 : IV → Hp → Option (IV × Hp)) (h8 : Hp) : Option (IV × Hp) :=
  eqS EE 3 x39 (.fv (.int .i64 1)) fun x84 => condS x84 (j1_41 x84 h8) (eqS EE 3 x39 (.fv (.int .i64 15)) fun x85 => condS x85 (j1_41 x85 h8) (S42_93 x39 j1_41 h8))
noncomputable def S42 (ih : Handler) (n : Nat) (x0 : IV) (x1 : IV) (h2 : Hp) : Option (IV × Hp) :=
  boxS 44040192 x0 h2 fun x3 h4 _ _ => boxS 44040193 x1 h4 fun x7 h8 _ _ => (fun (j0_11 : Hp → Option (IV × Hp)) => faddrS 0 x7 fun x38 => load1 x38 h8 fun x39 _ => (fun (j1_41 : IV → Hp → Option (IV × Hp)) => S42_94 x39 j1_41 h8) fun x42 h43 => S42_92 x42 j0_11 h43 x7 x3) fun h12 => S42_89 h12 x3 x7 ih
theorem S42_ok (ih : Handler) (n : Nat) (x0 : IV) (x1 : IV) (h2 : Hp) : funS EE ih ft.get n 42 [x0, x1] h2 = S42 ih n x0 x1 h2 := by kernel_rfl
noncomputable def S43_486 (h22 : Hp) (x18 : IV) (x7 : IV) : Option (IV × Hp) :=
  loadA 3 x18 h22 fun x34 _ => storeA 3 x7 x34 h22 fun h36 _ _ => cellS true 3 x7 h36 fun x39 => outS1 [x39, .fv (.int .i64 8)] h36
noncomputable def S43_487 (x0 : IV) (x45 : IV) (h22 : Hp) (x7 : IV) : Option (IV × Hp) :=
  ixS 3 x0 x45 fun x46 => loadA 3 x46 h22 fun x47 _ => storeA 3 x7 x47 h22 fun h49 _ _ => cellS true 3 x7 h49 fun x52 => outS1 [x52, .fv (.int .i64 0)] h49
noncomputable def S43_488 (x0 : IV) (x3 : IV) (h22 : Hp) (x7 : IV) : Option (IV × Hp) :=
  lenS x0 fun x40 => subS EE 3 x40 (.fv (.int .i64 1)) fun x41 => faddrS 1 x3 fun x42 => load1 x42 h22 fun x43 _ => subS EE 3 x41 x43 fun x45 => S43_487 x0 x45 h22 x7
noncomputable def S43_489 (x3 : IV) (h22 : Hp) (x0 : IV) (x18 : IV) (x7 : IV) : Option (IV × Hp) :=
  faddrS 1 x3 fun x29 => load1 x29 h22 fun x30 _ => lenS x0 fun x32 => geS EE 3 x30 x32 fun x33 => condS x33 (S43_486 h22 x18 x7) (S43_488 x0 x3 h22 x7)
noncomputable def S43_490 (h56 : Hp) (x7 : IV) : Option (IV × Hp) :=
  cellS true 3 x7 h56 fun x59 => outS1 [x59, .fv (.int .i64 0)] h56
noncomputable def S43_491 (h72 : Hp) (x18 : IV) (x7 : IV) (x71 : IV) : Option (IV × Hp) :=
  loadA 3 x18 h72 fun x73 _ => storeA 3 x7 x73 h72 fun h75 _ _ => cellS true 3 x7 h75 fun x78 => outS1 [x78, x71] h75
noncomputable def S43_492 (ih : Handler) (h67 : Hp) (x0 : IV) (x81 : IV) (x83 : IV) (j1_70 : IV → Hp → Option (IV × Hp)) : Option (IV × Hp) :=
  isoS [] false false ih 75 [x0, x81, x83] h67 fun x85 h86 r87 w88 => chkS [] r87 w88 (j1_70 x85 h86)
noncomputable def S43_493 (x12 : IV) (h67 : Hp) (x18 : IV) (ih : Handler) (x0 : IV) (j1_70 : IV → Hp → Option (IV × Hp)) : Option (IV × Hp) :=
  ixS 3 x12 (.fv (.int .i64 1)) fun x80 => loadA 3 x80 h67 fun x81 r82 => chkS [] r82 [] (loadA 3 x18 h67 fun x83 r84 => chkS [(r82, [])] r84 [] (S43_492 ih h67 x0 x81 x83 j1_70))
noncomputable def S43_494 (ih : Handler) (h22 : Hp) (x0 : IV) (x62 : IV) (x64 : IV) (x18 : IV) (x7 : IV) (x12 : IV) : Option (IV × Hp) :=
  isoS [] false false ih 75 [x0, x62, x64] h22 fun x66 h67 r68 w69 => chkS [] r68 w69 ((fun (j1_70 : IV → Hp → Option (IV × Hp)) => eqS EE 3 x66 (.fv (.int .i64 0)) fun x79 => condS x79 (S43_493 x12 h67 x18 ih x0 j1_70) (j1_70 x66 h67)) fun x71 h72 => S43_491 h72 x18 x7 x71)
noncomputable def S43_495 (x12 : IV) (h22 : Hp) (x18 : IV) (ih : Handler) (x0 : IV) (x7 : IV) : Option (IV × Hp) :=
  ixS 3 x12 (.fv (.int .i64 0)) fun x61 => loadA 3 x61 h22 fun x62 r63 => chkS [] r63 [] (loadA 3 x18 h22 fun x64 r65 => chkS [(r63, [])] r65 [] (S43_494 ih h22 x0 x62 x64 x18 x7 x12))
noncomputable def S43_496 (h96 : Hp) (x7 : IV) (x100 : IV) : Option (IV × Hp) :=
  storeA 3 x7 x100 h96 fun h102 _ _ => cellS true 3 x7 h102 fun x105 => outS1 [x105, .fv (.int .i64 10)] h102
noncomputable def S43_497 (h127 : Hp) (x7 : IV) (x111 : IV) (x126 : IV) : Option (IV × Hp) :=
  storeA 3 x7 x111 h127 fun h130 r131 w132 => chkS [] r131 w132 (cellS true 3 x7 h130 fun x133 => outS1 [x133, x126] h130)
noncomputable def S43_498 (x12 : IV) (h117 : Hp) (r122 : List Ref) (r118 : List Ref) (w119 : List Ref) (r115 : List Ref) (r112 : List Ref) (ih : Handler) (x116 : IV) (x121 : IV) (x7 : IV) (x111 : IV) : Option (IV × Hp) :=
  ixS 3 x12 (.fv (.int .i64 0)) fun x123 => loadA 3 x123 h117 fun x124 r125 => chkS [(r122, []), (r118, w119), (r115, []), (r112, [])] r125 [] (isoS [] false false ih 75 [x116, x121, x124] h117 fun x126 h127 r128 w129 => chkS [(r112, [])] r128 w129 (S43_497 h127 x7 x111 x126))
noncomputable def S43_499 (ih : Handler) (h96 : Hp) (x0 : IV) (x114 : IV) (r112 : List Ref) (x12 : IV) (r115 : List Ref) (x7 : IV) (x111 : IV) : Option (IV × Hp) :=
  isoS [] false false ih 76 [x0, x114] h96 fun x116 h117 r118 w119 => chkS [(r112, [])] r118 w119 (ixS 3 x12 (.fv (.int .i64 1)) fun x120 => loadA 3 x120 h117 fun x121 r122 => chkS [(r118, w119), (r115, []), (r112, [])] r122 [] (S43_498 x12 h117 r122 r118 w119 r115 r112 ih x116 x121 x7 x111))
noncomputable def S43_500 (h96 : Hp) (x110 : IV) (x12 : IV) (ih : Handler) (x0 : IV) (x7 : IV) : Option (IV × Hp) :=
  loadA 3 x110 h96 fun x111 r112 => chkS [] r112 [] (ixS 3 x12 (.fv (.int .i64 0)) fun x113 => loadA 3 x113 h96 fun x114 r115 => chkS [(r112, [])] r115 [] (S43_499 ih h96 x0 x114 r112 x12 r115 x7 x111))
noncomputable def S43_501 (h176 : Hp) (x7 : IV) (x175 : IV) : Option (IV × Hp) :=
  cellS true 3 x7 h176 fun x179 => outS1 [x179, x175] h176
noncomputable def S43_502 (r172 : List Ref) (w173 : List Ref) (x170 : IV) (h171 : Hp) (x7 : IV) : Option (IV × Hp) :=
  chkS [] r172 w173 (extS 0 x170 fun x174 => extS 1 x170 fun x175 => storeA 3 x7 x174 h171 fun h176 r177 w178 => chkS [] r177 w178 (S43_501 h176 x7 x175))
noncomputable def S43_503 (h154 : Hp) (x158 : IV) (x160 : IV) (ih : Handler) (x149 : IV) (x7 : IV) : Option (IV × Hp) :=
  genS (pcBuildSlice EE 28 2 [(0, x158), (1, x160)]) 45111300 h154 fun x162 h163 r164 w165 => chkS [] r164 w165 (isoS [] false false ih 24 [.fv (.int .i64 16), x162] h163 fun x166 h167 r168 w169 => chkS [] r168 w169 (isoS [] false false ih 77 [x166, x149] h167 fun x170 h171 r172 w173 => S43_502 r172 w173 x170 h171 x7))
noncomputable def S43_504 (x12 : IV) (h154 : Hp) (x150 : IV) (ih : Handler) (x149 : IV) (x7 : IV) : Option (IV × Hp) :=
  ixS 3 x12 (.fv (.int .i64 0)) fun x157 => loadA 3 x157 h154 fun x158 r159 => chkS [] r159 [] (loadA 3 x150 h154 fun x160 r161 => chkS [(r159, [])] r161 [] (S43_503 h154 x158 x160 ih x149 x7))
noncomputable def S43_505 (x144 : IV) (h145 : Hp) (r146 : List Ref) (w147 : List Ref) (r143 : List Ref) (r139 : List Ref) (w140 : List Ref) (r136 : List Ref) (x148 : IV) (x12 : IV) (ih : Handler) (x7 : IV) : Option (IV × Hp) :=
  extS 1 x144 fun x149 => newS 45110284 (.row [.fv (.int .i64 0), .fv (.int .i64 0), .nils] false) (.ptr (.own 45110284) 0) h145 fun x150 h151 r152 w153 => chkS [(r146, w147), (r143, []), (r139, w140), (r136, [])] r152 w153 (storeA 3 x150 x148 h151 fun h154 r155 w156 => chkS [] r155 w156 (S43_504 x12 h154 x150 ih x149 x7))
noncomputable def S43_506 (h138 : Hp) (x141 : IV) (r139 : List Ref) (w140 : List Ref) (r136 : List Ref) (ih : Handler) (x137 : IV) (x12 : IV) (x7 : IV) : Option (IV × Hp) :=
  loadA 3 x141 h138 fun x142 r143 => chkS [(r139, w140), (r136, [])] r143 [] (isoS [] false false ih 19 [x137, x142] h138 fun x144 h145 r146 w147 => chkS [] r146 w147 (extS 0 x144 fun x148 => S43_505 x144 h145 r146 w147 r143 r139 w140 r136 x148 x12 ih x7))
noncomputable def S43_507 (h96 : Hp) (x134 : IV) (ih : Handler) (x0 : IV) (x12 : IV) (x7 : IV) : Option (IV × Hp) :=
  loadA 3 x134 h96 fun x135 r136 => chkS [] r136 [] (isoS [] false false ih 76 [x0, x135] h96 fun x137 h138 r139 w140 => chkS [] r139 w140 (ixS 3 x12 (.fv (.int .i64 1)) fun x141 => S43_506 h138 x141 r139 w140 r136 ih x137 x12 x7))
noncomputable def S43_508 (h96 : Hp) (x106 : IV) (x12 : IV) (ih : Handler) (x0 : IV) (x7 : IV) : Option (IV × Hp) :=
  load1 x106 h96 fun x107 _ => eqS EE 3 x107 (.fv (.int .i64 29)) fun x109 => condS x109 (ixS 3 x12 (.fv (.int .i64 0)) fun x110 => S43_500 h96 x110 x12 ih x0 x7) (ixS 3 x12 (.fv (.int .i64 0)) fun x134 => S43_507 h96 x134 ih x0 x12 x7)
noncomputable def S43_509 (ih : Handler) (h91 : Hp) (x93 : IV) (x18 : IV) (x7 : IV) (x3 : IV) (x12 : IV) (x0 : IV) : Option (IV × Hp) :=
  isoS [] false false ih 29 [x93] h91 fun x95 h96 _ _ => optS (unR .not x95) fun x99 => condS x99 (loadA 3 x18 h96 fun x100 _ => S43_496 h96 x7 x100) (faddrS 0 x3 fun x106 => S43_508 h96 x106 x12 ih x0 x7)
noncomputable def S43_510 (h194 : Hp) (x7 : IV) (x198 : IV) (x189 : IV) : Option (IV × Hp) :=
  storeA 3 x7 x198 h194 fun h200 _ _ => cellS true 3 x7 h200 fun x203 => outS1 [x203, x189] h200
noncomputable def S43_511 (h214 : Hp) (x7 : IV) (x217 : IV) (x218 : IV) : Option (IV × Hp) :=
  storeA 3 x7 x217 h214 fun h219 r220 w221 => chkS [] r220 w221 (cellS true 3 x7 h219 fun x222 => outS1 [x222, x218] h219)
noncomputable def S43_512 (r212 : List Ref) (r208 : List Ref) (w209 : List Ref) (r205 : List Ref) (ih : Handler) (h207 : Hp) (x206 : IV) (x211 : IV) (x7 : IV) : Option (IV × Hp) :=
  chkS [(r208, w209), (r205, [])] r212 [] (isoS [] false false ih 19 [x206, x211] h207 fun x213 h214 r215 w216 => chkS [] r215 w216 (extS 0 x213 fun x217 => extS 1 x213 fun x218 => S43_511 h214 x7 x217 x218))
noncomputable def S43_513 (r205 : List Ref) (ih : Handler) (h194 : Hp) (x0 : IV) (x204 : IV) (x12 : IV) (x7 : IV) : Option (IV × Hp) :=
  chkS [] r205 [] (isoS [] false false ih 76 [x0, x204] h194 fun x206 h207 r208 w209 => chkS [] r208 w209 (ixS 3 x12 (.fv (.int .i64 1)) fun x210 => loadA 3 x210 h207 fun x211 r212 => S43_512 r212 r208 w209 r205 ih h207 x206 x211 x7))
noncomputable def S43_514 (h185 : Hp) (x188 : IV) (x189 : IV) (x7 : IV) (ih : Handler) (x0 : IV) (x12 : IV) : Option (IV × Hp) :=
  newS 45113352 (.row [.fv (.int .i64 0), .fv (.int .i64 0), .nils] false) (.ptr (.own 45113352) 0) h185 fun x190 h191 _ _ => storeA 3 x190 x188 h191 fun h194 _ _ => neS EE 3 x189 (.fv (.int .i64 0)) fun x197 => condS x197 (loadA 3 x190 h194 fun x198 _ => S43_510 h194 x7 x198 x189) (loadA 3 x190 h194 fun x204 r205 => S43_513 r205 ih h194 x0 x204 x12 x7)
noncomputable def S43_515 (x12 : IV) (h91 : Hp) (ih : Handler) (x0 : IV) (x7 : IV) : Option (IV × Hp) :=
  ixS 3 x12 (.fv (.int .i64 0)) fun x181 => loadA 3 x181 h91 fun x182 _ => isoS [] false false ih 19 [x0, x182] h91 fun x184 h185 _ _ => extS 0 x184 fun x188 => extS 1 x184 fun x189 => S43_514 h185 x188 x189 x7 ih x0 x12
noncomputable def S43_516 (h236 : Hp) (x7 : IV) (x229 : IV) : Option (IV × Hp) :=
  cellS true 3 x7 h236 fun x239 => outS1 [x239, x229] h236
noncomputable def S43_517 (h258 : Hp) (x249 : IV) (x7 : IV) (x257 : IV) : Option (IV × Hp) :=
  loadA 3 x249 h258 fun x259 _ => storeA 3 x7 x259 h258 fun h261 _ _ => cellS true 3 x7 h261 fun x264 => outS1 [x264, x257] h261
noncomputable def S43_518 (r273 : List Ref) (w274 : List Ref) (j1_256 : IV → Hp → Option (IV × Hp)) (h272 : Hp) (x271 : IV) : Option (IV × Hp) :=
  chkS [] r273 w274 (j1_256 x271 h272)
noncomputable def S43_519 (h253 : Hp) (x266 : IV) (x249 : IV) (ih : Handler) (x0 : IV) (j1_256 : IV → Hp → Option (IV × Hp)) : Option (IV × Hp) :=
  loadA 3 x266 h253 fun x267 r268 => chkS [] r268 [] (loadA 3 x249 h253 fun x269 r270 => chkS [(r268, [])] r270 [] (isoS [] false false ih 75 [x0, x267, x269] h253 fun x271 h272 r273 w274 => S43_518 r273 w274 j1_256 h272 x271))
noncomputable def S43_520 (x249 : IV) (x7 : IV) (x248 : IV) (x12 : IV) (h253 : Hp) (ih : Handler) (x0 : IV) : Option (IV × Hp) :=
  (fun (j1_256 : IV → Hp → Option (IV × Hp)) => eqS EE 3 x248 (.fv (.int .i64 0)) fun x265 => condS x265 (ixS 3 x12 (.fv (.int .i64 2)) fun x266 => S43_519 h253 x266 x249 ih x0 j1_256) (j1_256 x248 h253)) fun x257 h258 => S43_517 h258 x249 x7 x257
noncomputable def S43_521 (ih : Handler) (h230 : Hp) (x0 : IV) (x241 : IV) (x7 : IV) (x12 : IV) : Option (IV × Hp) :=
  isoS [] false false ih 19 [x0, x241] h230 fun x243 h244 _ _ => extS 0 x243 fun x247 => extS 1 x243 fun x248 => newS 45121544 (.row [.fv (.int .i64 0), .fv (.int .i64 0), .nils] false) (.ptr (.own 45121544) 0) h244 fun x249 h250 _ _ => storeA 3 x249 x247 h250 fun h253 _ _ => S43_520 x249 x7 x248 x12 h253 ih x0
noncomputable def S43_522 (x229 : IV) (h230 : Hp) (x18 : IV) (x7 : IV) (x12 : IV) (ih : Handler) (x0 : IV) : Option (IV × Hp) :=
  neS EE 3 x229 (.fv (.int .i64 0)) fun x233 => condS x233 (loadA 3 x18 h230 fun x234 _ => storeA 3 x7 x234 h230 fun h236 _ _ => S43_516 h236 x7 x229) (ixS 3 x12 (.fv (.int .i64 1)) fun x240 => loadA 3 x240 h230 fun x241 _ => S43_521 ih h230 x0 x241 x7 x12)
noncomputable def S43_523 (r226 : List Ref) (h91 : Hp) (x18 : IV) (ih : Handler) (x0 : IV) (x225 : IV) (x7 : IV) (x12 : IV) : Option (IV × Hp) :=
  chkS [] r226 [] (loadA 3 x18 h91 fun x227 r228 => chkS [(r226, [])] r228 [] (isoS [] false false ih 75 [x0, x225, x227] h91 fun x229 h230 r231 w232 => chkS [] r231 w232 (S43_522 x229 h230 x18 x7 x12 ih x0)))
noncomputable def S43_524 (h289 : Hp) (x7 : IV) (x293 : IV) (x284 : IV) : Option (IV × Hp) :=
  storeA 3 x7 x293 h289 fun h295 _ _ => cellS true 3 x7 h295 fun x298 => outS1 [x298, x284] h295
noncomputable def S43_525 (ih : Handler) (h324 : Hp) (x323 : IV) (x307 : IV) (x7 : IV) : Option (IV × Hp) :=
  isoS [] false false ih 77 [x323, x307] h324 fun x327 h328 _ _ => extS 0 x327 fun x331 => extS 1 x327 fun x332 => storeA 3 x7 x331 h328 fun h333 _ _ => cellS true 3 x7 h333 fun x336 => outS1 [x336, x332] h333
noncomputable def S43_526 (h309 : Hp) (x308 : IV) (x306 : IV) (x285 : IV) (ih : Handler) (x307 : IV) (x7 : IV) : Option (IV × Hp) :=
  storeA 3 x308 x306 h309 fun h312 _ _ => loadA 3 x285 h312 fun x315 _ => loadA 3 x308 h312 fun x317 _ => genS (pcBuildSlice EE 28 2 [(0, x315), (1, x317)]) 45130754 h312 fun x319 h320 _ _ => isoS [] false false ih 24 [.fv (.int .i64 17), x319] h320 fun x323 h324 _ _ => S43_525 ih h324 x323 x307 x7
noncomputable def S43_527 (h289 : Hp) (x299 : IV) (ih : Handler) (x0 : IV) (x285 : IV) (x7 : IV) : Option (IV × Hp) :=
  loadA 3 x299 h289 fun x300 _ => isoS [] false false ih 19 [x0, x300] h289 fun x302 h303 _ _ => extS 0 x302 fun x306 => extS 1 x302 fun x307 => newS 45129736 (.row [.fv (.int .i64 0), .fv (.int .i64 0), .nils] false) (.ptr (.own 45129736) 0) h303 fun x308 h309 _ _ => S43_526 h309 x308 x306 x285 ih x307 x7
noncomputable def S43_528 (h280 : Hp) (x283 : IV) (x284 : IV) (x7 : IV) (x12 : IV) (ih : Handler) (x0 : IV) : Option (IV × Hp) :=
  newS 45126664 (.row [.fv (.int .i64 0), .fv (.int .i64 0), .nils] false) (.ptr (.own 45126664) 0) h280 fun x285 h286 _ _ => storeA 3 x285 x283 h286 fun h289 _ _ => neS EE 3 x284 (.fv (.int .i64 0)) fun x292 => condS x292 (loadA 3 x285 h289 fun x293 _ => S43_524 h289 x7 x293 x284) (ixS 3 x12 (.fv (.int .i64 1)) fun x299 => S43_527 h289 x299 ih x0 x285 x7)
noncomputable def S43_529 (x12 : IV) (h91 : Hp) (ih : Handler) (x0 : IV) (x7 : IV) : Option (IV × Hp) :=
  ixS 3 x12 (.fv (.int .i64 0)) fun x276 => loadA 3 x276 h91 fun x277 _ => isoS [] false false ih 19 [x0, x277] h91 fun x279 h280 _ _ => extS 0 x279 fun x283 => extS 1 x279 fun x284 => S43_528 h280 x283 x284 x7 x12 ih x0
noncomputable def S43_530 (h363 : Hp) (x7 : IV) (x358 : IV) : Option (IV × Hp) :=
  cellS true 3 x7 h363 fun x366 => outS1 [x366, x358] h363
noncomputable def S43_531 (x368 : IV) (h359 : Hp) (x7 : IV) : Option (IV × Hp) :=
  ixS 3 x368 (.fv (.int .i64 1)) fun x370 => loadA 3 x370 h359 fun x371 _ => storeA 3 x7 x371 h359 fun h373 _ _ => cellS true 3 x7 h373 fun x376 => outS1 [x376, .fv (.int .i64 0)] h373
noncomputable def S43_532 (x358 : IV) (h359 : Hp) (x18 : IV) (x7 : IV) (x347 : IV) : Option (IV × Hp) :=
  neS EE 3 x358 (.fv (.int .i64 0)) fun x360 => condS x360 (loadA 3 x18 h359 fun x361 _ => storeA 3 x7 x361 h359 fun h363 _ _ => S43_530 h363 x7 x358) (faddrS 2 x347 fun x367 => load1 x367 h359 fun x368 _ => S43_531 x368 h359 x7)
noncomputable def S43_533 (x382 : IV) (h356 : Hp) (r380 : List Ref) (ih : Handler) (x0 : IV) (x379 : IV) (j1_357 : IV → Hp → Option (IV × Hp)) : Option (IV × Hp) :=
  ixS 3 x382 (.fv (.int .i64 0)) fun x384 => loadA 3 x384 h356 fun x385 r386 => chkS [(r380, [])] r386 [] (isoS [] false false ih 75 [x0, x379, x385] h356 fun x387 h388 r389 w390 => chkS [] r389 w390 (j1_357 x387 h388))
noncomputable def S43_534 (h356 : Hp) (x378 : IV) (x347 : IV) (ih : Handler) (x0 : IV) (j1_357 : IV → Hp → Option (IV × Hp)) : Option (IV × Hp) :=
  loadA 3 x378 h356 fun x379 r380 => chkS [] r380 [] (faddrS 2 x347 fun x381 => load1 x381 h356 fun x382 r383 => chkS [(r380, [])] r383 [] (S43_533 x382 h356 r380 ih x0 x379 j1_357))
noncomputable def S43_535 (x18 : IV) (x7 : IV) (x347 : IV) (x355 : IV) (x12 : IV) (h356 : Hp) (ih : Handler) (x0 : IV) : Option (IV × Hp) :=
  (fun (j1_357 : IV → Hp → Option (IV × Hp)) => eqS EE 3 x355 (.fv (.int .i64 0)) fun x377 => condS x377 (ixS 3 x12 (.fv (.int .i64 1)) fun x378 => S43_534 h356 x378 x347 ih x0 j1_357) (j1_357 x355 h356)) fun x358 h359 => S43_532 x358 h359 x18 x7 x347
noncomputable def S43_536 (x391 : IV) (x407 : IV) (j1_354 : IV → Hp → Option (IV × Hp)) (h408 : Hp) (x346 : IV) : Option (IV × Hp) :=
  pickS x391 x407 (.fv (.bool false)) fun x411 => condS x411 (j1_354 (.fv (.int .i64 12)) h408) (j1_354 x346 h408)
noncomputable def S43_537 (x18 : IV) (x7 : IV) (x347 : IV) (x12 : IV) (ih : Handler) (x0 : IV) (x346 : IV) (h351 : Hp) : Option (IV × Hp) :=
  (fun (j1_354 : IV → Hp → Option (IV × Hp)) => eqS EE 3 x346 (.fv (.int .i64 0)) fun x391 => guardS x391 true h351 (fun k392 => faddrS 0 x347 fun x393 => k392 x393 h351 [] []) fun x394 h395 _ _ => guardS x391 true h395 (fun k398 => load1 x394 h395 fun x399 r400 => k398 x399 h395 r400 []) fun x401 h402 _ _ => guardS x391 true h402 (fun k405 => neS EE 3 x401 (.fv (.int .i64 16)) fun x406 => k405 x406 h402 [] []) fun x407 h408 _ _ => S43_536 x391 x407 j1_354 h408 x346) fun x355 h356 => S43_535 x18 x7 x347 x355 x12 h356 ih x0
noncomputable def S43_538 (ih : Handler) (h91 : Hp) (x0 : IV) (x339 : IV) (x18 : IV) (x7 : IV) (x12 : IV) : Option (IV × Hp) :=
  isoS [] false false ih 19 [x0, x339] h91 fun x341 h342 _ _ => extS 0 x341 fun x345 => extS 1 x341 fun x346 => newS 45132808 (.row [.fv (.int .i64 0), .fv (.int .i64 0), .nils] false) (.ptr (.own 45132808) 0) h342 fun x347 h348 _ _ => storeA 3 x347 x345 h348 fun h351 _ _ => S43_537 x18 x7 x347 x12 ih x0 x346 h351
noncomputable def S43_539 (h437 : Hp) (x7 : IV) (x432 : IV) : Option (IV × Hp) :=
  cellS true 3 x7 h437 fun x440 => outS1 [x440, x432] h437
noncomputable def S43_540 (h433 : Hp) (x7 : IV) (x449 : IV) : Option (IV × Hp) :=
  storeA 3 x7 x449 h433 fun h451 _ _ => cellS true 3 x7 h451 fun x454 => outS1 [x454, .fv (.int .i64 0)] h451
noncomputable def S43_541 (x3 : IV) (h433 : Hp) (x442 : IV) (x7 : IV) : Option (IV × Hp) :=
  faddrS 0 x3 fun x444 => load1 x444 h433 fun x445 _ => subS EE 3 x445 (.fv (.int .i64 23)) fun x447 => ixS 3 x442 x447 fun x448 => loadA 3 x448 h433 fun x449 _ => S43_540 h433 x7 x449
noncomputable def S43_542 (x432 : IV) (h433 : Hp) (x18 : IV) (x7 : IV) (x424 : IV) (x3 : IV) : Option (IV × Hp) :=
  neS EE 3 x432 (.fv (.int .i64 0)) fun x434 => condS x434 (loadA 3 x18 h433 fun x435 _ => storeA 3 x7 x435 h433 fun h437 _ _ => S43_539 h437 x7 x432) (faddrS 2 x424 fun x441 => load1 x441 h433 fun x442 _ => S43_541 x3 h433 x442 x7)
noncomputable def S43_543 (x455 : IV) (x471 : IV) (j1_431 : IV → Hp → Option (IV × Hp)) (h472 : Hp) (x423 : IV) : Option (IV × Hp) :=
  pickS x455 x471 (.fv (.bool false)) fun x475 => condS x475 (j1_431 (.fv (.int .i64 12)) h472) (j1_431 x423 h472)
noncomputable def S43_544 (x18 : IV) (x7 : IV) (x424 : IV) (x3 : IV) (x423 : IV) (h428 : Hp) : Option (IV × Hp) :=
  (fun (j1_431 : IV → Hp → Option (IV × Hp)) => eqS EE 3 x423 (.fv (.int .i64 0)) fun x455 => guardS x455 true h428 (fun k456 => faddrS 0 x424 fun x457 => k456 x457 h428 [] []) fun x458 h459 _ _ => guardS x455 true h459 (fun k462 => load1 x458 h459 fun x463 r464 => k462 x463 h459 r464 []) fun x465 h466 _ _ => guardS x455 true h466 (fun k469 => neS EE 3 x465 (.fv (.int .i64 17)) fun x470 => k469 x470 h466 [] []) fun x471 h472 _ _ => S43_543 x455 x471 j1_431 h472 x423) fun x432 h433 => S43_542 x432 h433 x18 x7 x424 x3
noncomputable def S43_545 (ih : Handler) (h414 : Hp) (x0 : IV) (x416 : IV) (x18 : IV) (x7 : IV) (x3 : IV) : Option (IV × Hp) :=
  isoS [] false false ih 19 [x0, x416] h414 fun x418 h419 _ _ => extS 0 x418 fun x422 => extS 1 x418 fun x423 => newS 45143048 (.row [.fv (.int .i64 0), .fv (.int .i64 0), .nils] false) (.ptr (.own 45143048) 0) h419 fun x424 h425 _ _ => storeA 3 x424 x422 h425 fun h428 _ _ => S43_544 x18 x7 x424 x3 x423 h428
noncomputable def S43_546 (h478 : Hp) (x7 : IV) : Option (IV × Hp) :=
  cellS true 3 x7 h478 fun x481 => outS1 [x481, .fv (.int .i64 10)] h478
noncomputable def S43_547 (x413 : IV) (x12 : IV) (h414 : Hp) (ih : Handler) (x0 : IV) (x18 : IV) (x7 : IV) (x3 : IV) : Option (IV × Hp) :=
  condS x413 (ixS 3 x12 (.fv (.int .i64 0)) fun x415 => loadA 3 x415 h414 fun x416 _ => S43_545 ih h414 x0 x416 x18 x7 x3) (loadA 3 x18 h414 fun x476 _ => storeA 3 x7 x476 h414 fun h478 _ _ => S43_546 h478 x7)
noncomputable def S43_548 (x482 : IV) (j1_412 : IV → Hp → Option (IV × Hp)) (h91 : Hp) (x26 : IV) : Option (IV × Hp) :=
  condS x482 (j1_412 x482 h91) (eqS EE 3 x26 (.fv (.int .i64 24)) fun x483 => j1_412 x483 h91)
noncomputable def S43_549 (x26 : IV) (x12 : IV) (h91 : Hp) (ih : Handler) (x0 : IV) (x18 : IV) (x7 : IV) (x3 : IV) : Option (IV × Hp) :=
  eqS EE 3 x26 (.fv (.int .i64 21)) fun x337 => condS x337 (ixS 3 x12 (.fv (.int .i64 0)) fun x338 => loadA 3 x338 h91 fun x339 _ => S43_538 ih h91 x0 x339 x18 x7 x12) ((fun (j1_412 : IV → Hp → Option (IV × Hp)) => eqS EE 3 x26 (.fv (.int .i64 23)) fun x482 => S43_548 x482 j1_412 h91 x26) fun x413 h414 => S43_547 x413 x12 h414 ih x0 x18 x7 x3)
noncomputable def S43_550 (x26 : IV) (x12 : IV) (h91 : Hp) (x18 : IV) (ih : Handler) (x0 : IV) (x7 : IV) (x3 : IV) : Option (IV × Hp) :=
  eqS EE 3 x26 (.fv (.int .i64 27)) fun x223 => condS x223 (ixS 3 x12 (.fv (.int .i64 0)) fun x224 => loadA 3 x224 h91 fun x225 r226 => S43_523 r226 h91 x18 ih x0 x225 x7 x12) (eqS EE 3 x26 (.fv (.int .i64 22)) fun x275 => condS x275 (S43_529 x12 h91 ih x0 x7) (S43_549 x26 x12 h91 ih x0 x18 x7 x3))
noncomputable def S43_551 (x90 : IV) (x12 : IV) (h91 : Hp) (ih : Handler) (x18 : IV) (x7 : IV) (x3 : IV) (x0 : IV) (x26 : IV) : Option (IV × Hp) :=
  condS x90 (ixS 3 x12 (.fv (.int .i64 0)) fun x92 => loadA 3 x92 h91 fun x93 _ => S43_509 ih h91 x93 x18 x7 x3 x12 x0) (eqS EE 3 x26 (.fv (.int .i64 28)) fun x180 => condS x180 (S43_515 x12 h91 ih x0 x7) (S43_550 x26 x12 h91 x18 ih x0 x7 x3))
noncomputable def S43_552 (x12 : IV) (ih : Handler) (x18 : IV) (x7 : IV) (x3 : IV) (x0 : IV) (x26 : IV) (h22 : Hp) : Option (IV × Hp) :=
  (fun (j1_89 : IV → Hp → Option (IV × Hp)) => eqS EE 3 x26 (.fv (.int .i64 20)) fun x484 => condS x484 (j1_89 x484 h22) (eqS EE 3 x26 (.fv (.int .i64 29)) fun x485 => j1_89 x485 h22)) fun x90 h91 => S43_551 x90 x12 h91 ih x18 x7 x3 x0 x26
noncomputable def S43_553 (x26 : IV) (h22 : Hp) (x18 : IV) (x7 : IV) (x12 : IV) (ih : Handler) (x0 : IV) (x3 : IV) : Option (IV × Hp) :=
  eqS EE 3 x26 (.fv (.int .i64 25)) fun x53 => condS x53 (loadA 3 x18 h22 fun x54 _ => storeA 3 x7 x54 h22 fun h56 _ _ => S43_490 h56 x7) (eqS EE 3 x26 (.fv (.int .i64 26)) fun x60 => condS x60 (S43_495 x12 h22 x18 ih x0 x7) (S43_552 x12 ih x18 x7 x3 x0 x26 h22))
noncomputable def S43_554 (h19 : Hp) (x18 : IV) (x14 : IV) (x3 : IV) (x0 : IV) (x7 : IV) (x12 : IV) (ih : Handler) : Option (IV × Hp) :=
  storeA 3 x18 x14 h19 fun h22 _ _ => faddrS 0 x3 fun x25 => load1 x25 h22 fun x26 _ => eqS EE 3 x26 (.fv (.int .i64 1)) fun x28 => condS x28 (S43_489 x3 h22 x0 x18 x7) (S43_553 x26 h22 x18 x7 x12 ih x0 x3)
noncomputable def S43 (ih : Handler) (n : Nat) (x0 : IV) (x1 : IV) (h2 : Hp) : Option (IV × Hp) :=
  boxS 45088768 x1 h2 fun x3 h4 _ _ => newS 45088769 (.row [.fv (.int .i64 0), .fv (.int .i64 0), .nils] false) (.ptr (.own 45088769) 0) h4 fun x7 h8 _ _ => faddrS 2 x3 fun x11 => load1 x11 h8 fun x12 _ => isoS [] false false ih 24 [.fv (.int .i64 15), .nils] h8 fun x14 h15 _ _ => newS 45090817 (.row [.fv (.int .i64 0), .fv (.int .i64 0), .nils] false) (.ptr (.own 45090817) 0) h15 fun x18 h19 _ _ => S43_554 h19 x18 x14 x3 x0 x7 x12 ih
theorem S43_ok (ih : Handler) (n : Nat) (x0 : IV) (x1 : IV) (h2 : Hp) : funS EE ih ft.get n 43 [x0, x1] h2 = S43 ih n x0 x1 h2 := by kernel_rfl
noncomputable def S44 (ih : Handler) (n : Nat) (x0 : IV) (h1 : Hp) : Option (IV × Hp) :=
  newS 46137344 (.row [.fv (.int .i64 0), .fv (.int .i64 0), .nils] false) (.ptr (.own 46137344) 0) h1 fun x2 h3 _ _ => bldS [.fv (.int .i64 0), .fv (.int .i64 0), .nils] [] fun x6 => storeA 3 x2 x6 h3 fun h7 _ _ => cellS true 3 x2 h7 fun x10 => outS1 [x10, x0] h7
theorem S44_ok (ih : Handler) (n : Nat) (x0 : IV) (h1 : Hp) : funS EE ih ft.get n 44 [x0] h1 = S44 ih n x0 h1 := by kernel_rfl
noncomputable def S45_127 (h68 : Hp) (x71 : IV) (x67 : IV) (x36 : IV) (h3 : Hp) (x31 : IV) (x32 : IV) (x33 : IV) (x34 : IV) (x35 : IV) (q28 : List IV → Hp → Option (IV × Hp)) : Option (IV × Hp) :=
  store1 x71 x67 h68 fun h72 r73 w74 => chkS [] r73 w74 (addS EE 3 x36 (.fv (.int .i64 1)) fun x75 => dropS (h3.own.map (·.1)) [47193104] [x31, x32, x33, x34, x35, x75] h72 fun h76 => q28 [x31, x32, x33, x34, x35, x75] h76)
noncomputable def S45_128 (h60 : Hp) (x59 : IV) (r44 : List Ref) (x43 : IV) (x35 : IV) (x36 : IV) (h3 : Hp) (x31 : IV) (x32 : IV) (x33 : IV) (x34 : IV) (q28 : List IV → Hp → Option (IV × Hp)) : Option (IV × Hp) :=
  genS (pcBuildSlice EE 28 1 [(0, x59)]) 47193103 h60 fun x63 h64 r65 w66 => chkS [(r44, [])] r65 w66 (genS (builtinR EE 47193104 false .append [28, 28] [x43, x63]) 47193104 h64 fun x67 h68 r69 w70 => chkS [] r69 w70 (faddrS 2 x35 fun x71 => S45_127 h68 x71 x67 x36 h3 x31 x32 x33 x34 x35 q28))
noncomputable def S45_129 (ih : Handler) (h30 : Hp) (x52 : IV) (x36 : IV) (r50 : List Ref) (r47 : List Ref) (r44 : List Ref) (x32 : IV) (x49 : IV) (x31 : IV) (x43 : IV) (x35 : IV) (h3 : Hp) (x33 : IV) (x34 : IV) (q28 : List IV → Hp → Option (IV × Hp)) : Option (IV × Hp) :=
  isoS [] false false ih 54 [x52, x36] h30 fun x54 h55 r56 w57 => chkS [(r50, []), (r47, []), (r44, [])] r56 w57 (addS EE 3 x32 x54 fun x58 => isoS [] false false ih 45 [x49, x31, x58] h55 fun x59 h60 r61 w62 => chkS [(r44, [])] r61 w62 (S45_128 h60 x59 r44 x43 x35 x36 h3 x31 x32 x33 x34 q28))
noncomputable def S45_130 (h30 : Hp) (x48 : IV) (r44 : List Ref) (x33 : IV) (r47 : List Ref) (ih : Handler) (x36 : IV) (x32 : IV) (x31 : IV) (x43 : IV) (x35 : IV) (h3 : Hp) (x34 : IV) (q28 : List IV → Hp → Option (IV × Hp)) : Option (IV × Hp) :=
  loadA 3 x48 h30 fun x49 r50 => chkS [(r44, [])] r50 [] (faddrS 0 x33 fun x51 => load1 x51 h30 fun x52 r53 => chkS [(r50, []), (r47, []), (r44, [])] r53 [] (S45_129 ih h30 x52 x36 r50 r47 r44 x32 x49 x31 x43 x35 h3 x33 x34 q28))
noncomputable def S45_131 (r44 : List Ref) (x33 : IV) (h30 : Hp) (x36 : IV) (ih : Handler) (x32 : IV) (x31 : IV) (x43 : IV) (x35 : IV) (h3 : Hp) (x34 : IV) (q28 : List IV → Hp → Option (IV × Hp)) : Option (IV × Hp) :=
  chkS [] r44 [] (faddrS 2 x33 fun x45 => load1 x45 h30 fun x46 r47 => chkS [(r44, [])] r47 [] (ixS 3 x46 x36 fun x48 => S45_130 h30 x48 r44 x33 r47 ih x36 x32 x31 x43 x35 h3 x34 q28))
noncomputable def S45_132 (h79 : Hp) (x34 : IV) : Option (IV × Hp) :=
  cellS true 3 x34 h79 fun x82 => outS1 [x82] h79
noncomputable def S45_133 (x41 : IV) (x35 : IV) (h30 : Hp) (x33 : IV) (x36 : IV) (ih : Handler) (x32 : IV) (x31 : IV) (h3 : Hp) (x34 : IV) (q28 : List IV → Hp → Option (IV × Hp)) : Option (IV × Hp) :=
  condS x41 (faddrS 2 x35 fun x42 => load1 x42 h30 fun x43 r44 => S45_131 r44 x33 h30 x36 ih x32 x31 x43 x35 h3 x34 q28) (loadA 3 x35 h30 fun x77 _ => storeA 3 x34 x77 h30 fun h79 _ _ => S45_132 h79 x34)
noncomputable def S45_134 (l87 : List IV) (x33 : IV) (h30 : Hp) (x35 : IV) (ih : Handler) (x32 : IV) (x31 : IV) (h3 : Hp) (x34 : IV) (q28 : List IV → Hp → Option (IV × Hp)) : Option (IV × Hp) :=
  uncS l87 fun x36 _ => faddrS 2 x33 fun x37 => load1 x37 h30 fun x38 _ => lenS x38 fun x40 => ltS EE 3 x36 x40 fun x41 => S45_133 x41 x35 h30 x33 x36 ih x32 x31 h3 x34 q28
noncomputable def S45_135 (l29 : List IV) (h30 : Hp) (ih : Handler) (h3 : Hp) (q28 : List IV → Hp → Option (IV × Hp)) : Option (IV × Hp) :=
  uncS l29 fun x31 l83 => uncS l83 fun x32 l84 => uncS l84 fun x33 l85 => uncS l85 fun x34 l86 => uncS l86 fun x35 l87 => S45_134 l87 x33 h30 x35 ih x32 x31 h3 x34 q28
noncomputable def S45_136 (h3 : Hp) (h27 : Hp) (x1 : IV) (x2 : IV) (x4 : IV) (x8 : IV) (x19 : IV) (n : Nat) (ih : Handler) : Option (IV × Hp) :=
  dropS (h3.own.map (·.1)) [47193104] [x1, x2, x4, x8, x19, .fv (.int .i64 0)] h27 fun h89 => loopS n (fun q28 l29 h30 => S45_135 l29 h30 ih h3 q28) [x1, x2, x4, x8, x19, .fv (.int .i64 0)] h89
noncomputable def S45_137 (h115 : Hp) (x119 : IV) (x1 : IV) (x19 : IV) (j0_26 : Hp → Option (IV × Hp)) : Option (IV × Hp) :=
  load1 x119 h115 fun x120 _ => addS EE 3 x120 x1 fun x122 => faddrS 1 x19 fun x123 => store1 x123 x122 h115 fun h124 _ _ => j0_26 h124
noncomputable def S45_138 (h109 : Hp) (x93 : IV) (x103 : IV) (x108 : IV) (x4 : IV) (x1 : IV) (x19 : IV) (j0_26 : Hp → Option (IV × Hp)) : Option (IV × Hp) :=
  guardS x93 true h109 (fun k112 => geS EE 3 x103 x108 fun x113 => k112 x113 h109 [] []) fun x114 h115 _ _ => pickS x93 x114 (.fv (.bool false)) fun x118 => condS x118 (faddrS 1 x4 fun x119 => S45_137 h115 x119 x1 x19 j0_26) (j0_26 h115)
noncomputable def S45_139 (h23 : Hp) (x90 : IV) (x4 : IV) (x2 : IV) (x1 : IV) (x19 : IV) (j0_26 : Hp → Option (IV × Hp)) : Option (IV × Hp) :=
  load1 x90 h23 fun x91 _ => eqS EE 3 x91 (.fv (.int .i64 1)) fun x93 => guardS x93 true h23 (fun k94 => faddrS 1 x4 fun x95 => k94 x95 h23 [] []) fun x96 h97 _ _ => guardS x93 true h97 (fun k100 => load1 x96 h97 fun x101 r102 => k100 x101 h97 r102 []) fun x103 h104 _ _ => guardS x93 true h104 (fun k107 => k107 x2 h104 [] []) fun x108 h109 _ _ => S45_138 h109 x93 x103 x108 x4 x1 x19 j0_26
noncomputable def S45_140 (x13 : IV) (x16 : IV) (h9 : Hp) (h3 : Hp) (x1 : IV) (x2 : IV) (x4 : IV) (x8 : IV) (n : Nat) (ih : Handler) : Option (IV × Hp) :=
  bldS [.fv (.int .i64 0), .fv (.int .i64 0), .nils] [(0, 1, x13), (1, 1, x16)] fun x18 => newS 47186949 (.row [.fv (.int .i64 0), .fv (.int .i64 0), .nils] false) (.ptr (.own 47186949) 0) h9 fun x19 h20 _ _ => storeA 3 x19 x18 h20 fun h23 _ _ => (fun (j0_26 : Hp → Option (IV × Hp)) => faddrS 0 x4 fun x90 => S45_139 h23 x90 x4 x2 x1 x19 j0_26) fun h27 => S45_136 h3 h27 x1 x2 x4 x8 x19 n ih
noncomputable def S45 (ih : Handler) (n : Nat) (x0 : IV) (x1 : IV) (x2 : IV) (h3 : Hp) : Option (IV × Hp) :=
  boxS 47185920 x0 h3 fun x4 h5 _ _ => newS 47185921 (.row [.fv (.int .i64 0), .fv (.int .i64 0), .nils] false) (.ptr (.own 47185921) 0) h5 fun x8 h9 _ _ => faddrS 0 x4 fun x12 => load1 x12 h9 fun x13 _ => faddrS 1 x4 fun x15 => load1 x15 h9 fun x16 _ => S45_140 x13 x16 h9 h3 x1 x2 x4 x8 n ih
theorem S45_ok (ih : Handler) (n : Nat) (x0 : IV) (x1 : IV) (x2 : IV) (h3 : Hp) : funS EE ih ft.get n 45 [x0, x1, x2] h3 = S45 ih n x0 x1 x2 h3 := by kernel_rfl
noncomputable def S46_296 (h33 : Hp) (x7 : IV) (x40 : IV) : Option (IV × Hp) :=
  storeA 3 x7 x40 h33 fun h42 _ _ => cellS true 3 x7 h42 fun x45 => outS1 [x45, .fv (.int .i64 0)] h42
noncomputable def S46_297 (x54 : IV) (h55 : Hp) (x7 : IV) (x58 : IV) : Option (IV × Hp) :=
  extS 1 x54 fun x59 => storeA 3 x7 x58 h55 fun h60 _ _ => cellS true 3 x7 h60 fun x63 => outS1 [x63, x59] h60
noncomputable def S46_298 (h66 : Hp) (x7 : IV) : Option (IV × Hp) :=
  cellS true 3 x7 h66 fun x69 => outS1 [x69, .fv (.int .i64 0)] h66
noncomputable def S46_299 (x49 : IV) (ih : Handler) (h50 : Hp) (x7 : IV) (x29 : IV) : Option (IV × Hp) :=
  neS EE 3 x49 (.fv (.int .i64 0)) fun x53 => condS x53 (isoS [] false false ih 44 [x49] h50 fun x54 h55 _ _ => extS 0 x54 fun x58 => S46_297 x54 h55 x7 x58) (loadA 3 x29 h50 fun x64 _ => storeA 3 x7 x64 h50 fun h66 _ _ => S46_298 h66 x7)
noncomputable def S46_300 (x81 : IV) (h82 : Hp) (x7 : IV) : Option (IV × Hp) :=
  extS 0 x81 fun x85 => extS 1 x81 fun x86 => storeA 3 x7 x85 h82 fun h87 _ _ => cellS true 3 x7 h87 fun x90 => outS1 [x90, x86] h87
noncomputable def S46_301 (ih : Handler) (h107 : Hp) (x102 : IV) (x7 : IV) : Option (IV × Hp) :=
  isoS [] false false ih 44 [x102] h107 fun x111 h112 _ _ => extS 0 x111 fun x115 => extS 1 x111 fun x116 => storeA 3 x7 x115 h112 fun h117 _ _ => cellS true 3 x7 h117 fun x120 => outS1 [x120, x116] h117
noncomputable def S46_302 (h140 : Hp) (x7 : IV) (x139 : IV) : Option (IV × Hp) :=
  cellS true 3 x7 h140 fun x143 => outS1 [x143, x139] h140
noncomputable def S46_303 (r136 : List Ref) (w137 : List Ref) (x134 : IV) (h135 : Hp) (x7 : IV) : Option (IV × Hp) :=
  chkS [] r136 w137 (extS 0 x134 fun x138 => extS 1 x134 fun x139 => storeA 3 x7 x138 h135 fun h140 r141 w142 => chkS [] r141 w142 (S46_302 h140 x7 x139))
noncomputable def S46_304 (h107 : Hp) (x122 : IV) (x124 : IV) (ih : Handler) (x7 : IV) : Option (IV × Hp) :=
  genS (pcBuildSlice EE 28 2 [(0, x122), (1, x124)]) 48253956 h107 fun x126 h127 r128 w129 => chkS [] r128 w129 (isoS [] false false ih 24 [.fv (.int .i64 16), x126] h127 fun x130 h131 r132 w133 => chkS [] r132 w133 (isoS [] false false ih 34 [x130] h131 fun x134 h135 r136 w137 => S46_303 r136 w137 x134 h135 x7))
noncomputable def S46_305 (x12 : IV) (h107 : Hp) (x103 : IV) (ih : Handler) (x7 : IV) : Option (IV × Hp) :=
  ixS 3 x12 (.fv (.int .i64 0)) fun x121 => loadA 3 x121 h107 fun x122 r123 => chkS [] r123 [] (loadA 3 x103 h107 fun x124 r125 => chkS [(r123, [])] r125 [] (S46_304 h107 x122 x124 ih x7))
noncomputable def S46_306 (r105 : List Ref) (w106 : List Ref) (r99 : List Ref) (w100 : List Ref) (r96 : List Ref) (r93 : List Ref) (h104 : Hp) (x103 : IV) (x101 : IV) (x102 : IV) (ih : Handler) (x7 : IV) (x12 : IV) : Option (IV × Hp) :=
  chkS [(r99, w100), (r96, []), (r93, [])] r105 w106 (storeA 3 x103 x101 h104 fun h107 r108 w109 => chkS [] r108 w109 (neS EE 3 x102 (.fv (.int .i64 0)) fun x110 => condS x110 (S46_301 ih h107 x102 x7) (S46_305 x12 h107 x103 ih x7)))
noncomputable def S46_307 (ih : Handler) (h77 : Hp) (x0 : IV) (x92 : IV) (x95 : IV) (r96 : List Ref) (r93 : List Ref) (x7 : IV) (x12 : IV) : Option (IV × Hp) :=
  isoS [] false false ih 78 [x0, x92, x95] h77 fun x97 h98 r99 w100 => chkS [] r99 w100 (extS 0 x97 fun x101 => extS 1 x97 fun x102 => newS 48250891 (.row [.fv (.int .i64 0), .fv (.int .i64 0), .nils] false) (.ptr (.own 48250891) 0) h98 fun x103 h104 r105 w106 => S46_306 r105 w106 r99 w100 r96 r93 h104 x103 x101 x102 ih x7 x12)
noncomputable def S46_308 (h77 : Hp) (x91 : IV) (x12 : IV) (ih : Handler) (x0 : IV) (x7 : IV) : Option (IV × Hp) :=
  loadA 3 x91 h77 fun x92 r93 => chkS [] r93 [] (ixS 3 x12 (.fv (.int .i64 1)) fun x94 => loadA 3 x94 h77 fun x95 r96 => chkS [(r93, [])] r96 [] (S46_307 ih h77 x0 x92 x95 r96 r93 x7 x12))
noncomputable def S46_309 (ih : Handler) (h33 : Hp) (x0 : IV) (x72 : IV) (x74 : IV) (x7 : IV) (x12 : IV) : Option (IV × Hp) :=
  isoS [] false false ih 48 [x0, .fv (.int .i64 1), x72, x74] h33 fun x76 h77 r78 w79 => chkS [] r78 w79 (neS EE 3 x76 (.fv (.int .i64 0)) fun x80 => condS x80 (isoS [] false false ih 44 [x76] h77 fun x81 h82 _ _ => S46_300 x81 h82 x7) (ixS 3 x12 (.fv (.int .i64 0)) fun x91 => S46_308 h77 x91 x12 ih x0 x7))
noncomputable def S46_310 (x12 : IV) (h33 : Hp) (x18 : IV) (ih : Handler) (x0 : IV) (x7 : IV) : Option (IV × Hp) :=
  ixS 3 x12 (.fv (.int .i64 0)) fun x71 => loadA 3 x71 h33 fun x72 r73 => chkS [] r73 [] (loadA 3 x18 h33 fun x74 r75 => chkS [(r73, [])] r75 [] (S46_309 ih h33 x0 x72 x74 x7 x12))
noncomputable def S46_311 (x158 : IV) (h159 : Hp) (x7 : IV) (x162 : IV) : Option (IV × Hp) :=
  extS 1 x158 fun x163 => storeA 3 x7 x162 h159 fun h164 _ _ => cellS true 3 x7 h164 fun x167 => outS1 [x167, x163] h164
noncomputable def S46_312 (ih : Handler) (h156 : Hp) (x169 : IV) (x7 : IV) : Option (IV × Hp) :=
  isoS [] false false ih 34 [x169] h156 fun x171 h172 _ _ => extS 0 x171 fun x175 => extS 1 x171 fun x176 => storeA 3 x7 x175 h172 fun h177 _ _ => cellS true 3 x7 h177 fun x180 => outS1 [x180, x176] h177
noncomputable def S46_313 (x155 : IV) (ih : Handler) (h156 : Hp) (x7 : IV) (x12 : IV) : Option (IV × Hp) :=
  neS EE 3 x155 (.fv (.int .i64 0)) fun x157 => condS x157 (isoS [] false false ih 44 [x155] h156 fun x158 h159 _ _ => extS 0 x158 fun x162 => S46_311 x158 h159 x7 x162) (ixS 3 x12 (.fv (.int .i64 0)) fun x168 => loadA 3 x168 h156 fun x169 _ => S46_312 ih h156 x169 x7)
noncomputable def S46_314 (ih : Handler) (h186 : Hp) (x193 : IV) (r191 : List Ref) (x185 : IV) (x190 : IV) (j1_154 : IV → Hp → Option (IV × Hp)) : Option (IV × Hp) :=
  isoS [] false false ih 45 [x193, .fv (.int .i64 1), .fv (.int .i64 0)] h186 fun x195 h196 r197 w198 => chkS [(r191, [])] r197 w198 (isoS [] false false ih 48 [x185, .fv (.int .i64 0), x190, x195] h196 fun x199 h200 r201 w202 => chkS [] r201 w202 (j1_154 x199 h200))
noncomputable def S46_315 (h186 : Hp) (x189 : IV) (r187 : List Ref) (w188 : List Ref) (r184 : List Ref) (x12 : IV) (ih : Handler) (x185 : IV) (j1_154 : IV → Hp → Option (IV × Hp)) : Option (IV × Hp) :=
  loadA 3 x189 h186 fun x190 r191 => chkS [(r187, w188), (r184, [])] r191 [] (ixS 3 x12 (.fv (.int .i64 0)) fun x192 => loadA 3 x192 h186 fun x193 r194 => chkS [(r191, []), (r187, w188), (r184, [])] r194 [] (S46_314 ih h186 x193 r191 x185 x190 j1_154))
noncomputable def S46_316 (h151 : Hp) (x182 : IV) (ih : Handler) (x0 : IV) (x12 : IV) (j1_154 : IV → Hp → Option (IV × Hp)) : Option (IV × Hp) :=
  loadA 3 x182 h151 fun x183 r184 => chkS [] r184 [] (isoS [] false false ih 79 [x0, .fv (.int .i64 0), x183] h151 fun x185 h186 r187 w188 => chkS [] r187 w188 (ixS 3 x12 (.fv (.int .i64 1)) fun x189 => S46_315 h186 x189 r187 w188 r184 x12 ih x185 j1_154))
noncomputable def S46_317 (ih : Handler) (x7 : IV) (x12 : IV) (x150 : IV) (h151 : Hp) (x0 : IV) : Option (IV × Hp) :=
  (fun (j1_154 : IV → Hp → Option (IV × Hp)) => eqS EE 3 x150 (.fv (.int .i64 0)) fun x181 => condS x181 (ixS 3 x12 (.fv (.int .i64 0)) fun x182 => S46_316 h151 x182 ih x0 x12 j1_154) (j1_154 x150 h151)) fun x155 h156 => S46_313 x155 ih h156 x7 x12
noncomputable def S46_318 (r147 : List Ref) (h33 : Hp) (x18 : IV) (ih : Handler) (x0 : IV) (x146 : IV) (x7 : IV) (x12 : IV) : Option (IV × Hp) :=
  chkS [] r147 [] (loadA 3 x18 h33 fun x148 r149 => chkS [(r147, [])] r149 [] (isoS [] false false ih 48 [x0, .fv (.int .i64 1), x146, x148] h33 fun x150 h151 r152 w153 => chkS [] r152 w153 (S46_317 ih x7 x12 x150 h151 x0)))
noncomputable def S46_319 (x221 : IV) (h222 : Hp) (x7 : IV) : Option (IV × Hp) :=
  extS 0 x221 fun x225 => extS 1 x221 fun x226 => storeA 3 x7 x225 h222 fun h227 _ _ => cellS true 3 x7 h227 fun x230 => outS1 [x230, x226] h227
noncomputable def S46_320 (h242 : Hp) (x7 : IV) (x241 : IV) : Option (IV × Hp) :=
  cellS true 3 x7 h242 fun x245 => outS1 [x245, x241] h242
noncomputable def S46_321 (r238 : List Ref) (w239 : List Ref) (x236 : IV) (h237 : Hp) (x7 : IV) : Option (IV × Hp) :=
  chkS [] r238 w239 (extS 0 x236 fun x240 => extS 1 x236 fun x241 => storeA 3 x7 x240 h237 fun h242 r243 w244 => chkS [] r243 w244 (S46_320 h242 x7 x241))
noncomputable def S46_322 (r232 : List Ref) (x12 : IV) (h217 : Hp) (ih : Handler) (x0 : IV) (x231 : IV) (x7 : IV) : Option (IV × Hp) :=
  chkS [] r232 [] (ixS 3 x12 (.fv (.int .i64 1)) fun x233 => loadA 3 x233 h217 fun x234 r235 => chkS [(r232, [])] r235 [] (isoS [] false false ih 78 [x0, x231, x234] h217 fun x236 h237 r238 w239 => S46_321 r238 w239 x236 h237 x7))
noncomputable def S46_323 (h208 : Hp) (x211 : IV) (x212 : IV) (ih : Handler) (x7 : IV) (x12 : IV) (x0 : IV) : Option (IV × Hp) :=
  newS 48263176 (.row [.fv (.int .i64 0), .fv (.int .i64 0), .nils] false) (.ptr (.own 48263176) 0) h208 fun x213 h214 _ _ => storeA 3 x213 x211 h214 fun h217 _ _ => neS EE 3 x212 (.fv (.int .i64 0)) fun x220 => condS x220 (isoS [] false false ih 44 [x212] h217 fun x221 h222 _ _ => S46_319 x221 h222 x7) (loadA 3 x213 h217 fun x231 r232 => S46_322 r232 x12 h217 ih x0 x231 x7)
noncomputable def S46_324 (x12 : IV) (h33 : Hp) (ih : Handler) (x0 : IV) (x7 : IV) : Option (IV × Hp) :=
  ixS 3 x12 (.fv (.int .i64 0)) fun x204 => loadA 3 x204 h33 fun x205 _ => isoS [] false false ih 20 [x0, .fv (.int .i64 0), x205] h33 fun x207 h208 _ _ => extS 0 x207 fun x211 => extS 1 x207 fun x212 => S46_323 h208 x211 x212 ih x7 x12 x0
noncomputable def S46_325 (x264 : IV) (h265 : Hp) (x7 : IV) (x268 : IV) : Option (IV × Hp) :=
  extS 1 x264 fun x269 => storeA 3 x7 x268 h265 fun h270 _ _ => cellS true 3 x7 h270 fun x273 => outS1 [x273, x269] h270
noncomputable def S46_326 (x275 : IV) (h260 : Hp) (x7 : IV) : Option (IV × Hp) :=
  ixS 3 x275 (.fv (.int .i64 0)) fun x277 => loadA 3 x277 h260 fun x278 _ => storeA 3 x7 x278 h260 fun h280 _ _ => cellS true 3 x7 h280 fun x283 => outS1 [x283, .fv (.int .i64 0)] h280
noncomputable def S46_327 (x255 : IV) (ih : Handler) (h260 : Hp) (x7 : IV) (x256 : IV) : Option (IV × Hp) :=
  neS EE 3 x255 (.fv (.int .i64 0)) fun x263 => condS x263 (isoS [] false false ih 44 [x255] h260 fun x264 h265 _ _ => extS 0 x264 fun x268 => S46_325 x264 h265 x7 x268) (faddrS 2 x256 fun x274 => load1 x274 h260 fun x275 _ => S46_326 x275 h260 x7)
noncomputable def S46_328 (ih : Handler) (h33 : Hp) (x0 : IV) (x248 : IV) (x7 : IV) : Option (IV × Hp) :=
  isoS [] false false ih 80 [x0, .fv (.int .i64 1), x248, .fv (.int .i64 18)] h33 fun x250 h251 _ _ => extS 0 x250 fun x254 => extS 1 x250 fun x255 => newS 48268296 (.row [.fv (.int .i64 0), .fv (.int .i64 0), .nils] false) (.ptr (.own 48268296) 0) h251 fun x256 h257 _ _ => storeA 3 x256 x254 h257 fun h260 _ _ => S46_327 x255 ih h260 x7 x256
noncomputable def S46_329 (x286 : IV) (h287 : Hp) (x7 : IV) : Option (IV × Hp) :=
  extS 0 x286 fun x290 => extS 1 x286 fun x291 => storeA 3 x7 x290 h287 fun h292 _ _ => cellS true 3 x7 h292 fun x295 => outS1 [x295, x291] h292
noncomputable def S46_330 (x37 : IV) (x12 : IV) (h33 : Hp) (ih : Handler) (x0 : IV) (x7 : IV) (x3 : IV) : Option (IV × Hp) :=
  eqS EE 3 x37 (.fv (.int .i64 30)) fun x246 => condS x246 (ixS 3 x12 (.fv (.int .i64 0)) fun x247 => loadA 3 x247 h33 fun x248 _ => S46_328 ih h33 x0 x248 x7) (loadA 3 x3 h33 fun x284 _ => isoS [] false false ih 81 [x0, x284] h33 fun x286 h287 _ _ => S46_329 x286 h287 x7)
noncomputable def S46_331 (x37 : IV) (x12 : IV) (h33 : Hp) (x18 : IV) (ih : Handler) (x0 : IV) (x7 : IV) (x3 : IV) : Option (IV × Hp) :=
  eqS EE 3 x37 (.fv (.int .i64 29)) fun x144 => condS x144 (ixS 3 x12 (.fv (.int .i64 0)) fun x145 => loadA 3 x145 h33 fun x146 r147 => S46_318 r147 h33 x18 ih x0 x146 x7 x12) (eqS EE 3 x37 (.fv (.int .i64 28)) fun x203 => condS x203 (S46_324 x12 h33 ih x0 x7) (S46_330 x37 x12 h33 ih x0 x7 x3))
noncomputable def S46_332 (x46 : IV) (h33 : Hp) (x29 : IV) (ih : Handler) (x0 : IV) (x12 : IV) (x7 : IV) (x37 : IV) (x18 : IV) (x3 : IV) : Option (IV × Hp) :=
  condS x46 (loadA 3 x29 h33 fun x47 _ => isoS [] false false ih 49 [x0, .fv (.int .i64 0), x12, x47] h33 fun x49 h50 _ _ => S46_299 x49 ih h50 x7 x29) (eqS EE 3 x37 (.fv (.int .i64 20)) fun x70 => condS x70 (S46_310 x12 h33 x18 ih x0 x7) (S46_331 x37 x12 h33 x18 ih x0 x7 x3))
noncomputable def S46_333 (h33 : Hp) (x36 : IV) (x29 : IV) (x7 : IV) (ih : Handler) (x0 : IV) (x12 : IV) (x18 : IV) (x3 : IV) : Option (IV × Hp) :=
  load1 x36 h33 fun x37 _ => eqS EE 3 x37 (.fv (.int .i64 25)) fun x39 => condS x39 (loadA 3 x29 h33 fun x40 _ => S46_296 h33 x7 x40) (eqS EE 3 x37 (.fv (.int .i64 26)) fun x46 => S46_332 x46 h33 x29 ih x0 x12 x7 x37 x18 x3)
noncomputable def S46_334 (h19 : Hp) (x18 : IV) (x14 : IV) (ih : Handler) (x3 : IV) (x7 : IV) (x0 : IV) (x12 : IV) : Option (IV × Hp) :=
  storeA 3 x18 x14 h19 fun h22 _ _ => isoS [] false false ih 24 [.fv (.int .i64 15), .nils] h22 fun x25 h26 _ _ => newS 48237569 (.row [.fv (.int .i64 0), .fv (.int .i64 0), .nils] false) (.ptr (.own 48237569) 0) h26 fun x29 h30 _ _ => storeA 3 x29 x25 h30 fun h33 _ _ => faddrS 0 x3 fun x36 => S46_333 h33 x36 x29 x7 ih x0 x12 x18 x3
noncomputable def S46 (ih : Handler) (n : Nat) (x0 : IV) (x1 : IV) (h2 : Hp) : Option (IV × Hp) :=
  boxS 48234496 x1 h2 fun x3 h4 _ _ => newS 48234497 (.row [.fv (.int .i64 0), .fv (.int .i64 0), .nils] false) (.ptr (.own 48234497) 0) h4 fun x7 h8 _ _ => faddrS 2 x3 fun x11 => load1 x11 h8 fun x12 _ => isoS [] false false ih 24 [.fv (.int .i64 14), .nils] h8 fun x14 h15 _ _ => newS 48236545 (.row [.fv (.int .i64 0), .fv (.int .i64 0), .nils] false) (.ptr (.own 48236545) 0) h15 fun x18 h19 _ _ => S46_334 h19 x18 x14 ih x3 x7 x0 x12
theorem S46_ok (ih : Handler) (n : Nat) (x0 : IV) (x1 : IV) (h2 : Hp) : funS EE ih ft.get n 46 [x0, x1] h2 = S46 ih n x0 x1 h2 := by kernel_rfl
noncomputable def S47 (ih : Handler) (n : Nat) (x0 : IV) (h1 : Hp) : Option (IV × Hp) :=
  newS 49283072 (.row [.fv (.int .i64 0), .fv (.int .i64 0), .nils] false) (.ptr (.own 49283072) 0) h1 fun x2 h3 _ _ => bldS [.fv (.int .i64 0), .fv (.int .i64 0), .nils] [(0, 1, .fv (.int .i64 2)), (1, 1, x0)] fun x6 => storeA 3 x2 x6 h3 fun h7 _ _ => cellS true 3 x2 h7 fun x10 => outS1 [x10] h7
theorem S47_ok (ih : Handler) (n : Nat) (x0 : IV) (h1 : Hp) : funS EE ih ft.get n 47 [x0] h1 = S47 ih n x0 h1 := by kernel_rfl
noncomputable def S48_55 (x38 : IV) (h34 : Hp) (x37 : IV) (j1_39 : IV → Hp → Option (IV × Hp)) : Option (IV × Hp) :=
  eqS EE 3 x38 (.fv (.int .i64 0)) fun x42 => guardS x42 true h34 (fun k43 => k43 x37 h34 [] []) fun x44 h45 _ _ => guardS x42 true h45 (fun k48 => optS (unR .not x44) fun x49 => k48 x49 h45 [] []) fun x50 h51 _ _ => pickS x42 x50 (.fv (.bool false)) fun x54 => condS x54 (j1_39 (.fv (.int .i64 11)) h51) (j1_39 x38 h51)
noncomputable def S48_56 (h25 : Hp) (x9 : IV) (ih : Handler) (x29 : IV) : Option (IV × Hp) :=
  loadA 3 x9 h25 fun x31 _ => isoS [] false false ih 82 [x29, x31] h25 fun x33 h34 _ _ => extS 0 x33 fun x37 => extS 1 x33 fun x38 => (fun (j1_39 : IV → Hp → Option (IV × Hp)) => S48_55 x38 h34 x37 j1_39) fun x40 h41 => outS1 [x40] h41
noncomputable def S48_57 (h16 : Hp) (x19 : IV) (x20 : IV) (x9 : IV) (ih : Handler) : Option (IV × Hp) :=
  newS 50332679 (.row [.fv (.int .i64 0), .fv (.int .i64 0), .nils] false) (.ptr (.own 50332679) 0) h16 fun x21 h22 _ _ => storeA 3 x21 x19 h22 fun h25 _ _ => neS EE 3 x20 (.fv (.int .i64 0)) fun x28 => condS x28 (outS1 [x20] h25) (loadA 3 x21 h25 fun x29 _ => S48_56 h25 x9 ih x29)
noncomputable def S48 (ih : Handler) (n : Nat) (x0 : IV) (x1 : IV) (x2 : IV) (x3 : IV) (h4 : Hp) : Option (IV × Hp) :=
  boxS 50331648 x2 h4 fun x5 h6 _ _ => boxS 50331649 x3 h6 fun x9 h10 _ _ => loadA 3 x5 h10 fun x13 _ => isoS [] false false ih 20 [x0, x1, x13] h10 fun x15 h16 _ _ => extS 0 x15 fun x19 => extS 1 x15 fun x20 => S48_57 h16 x19 x20 x9 ih
theorem S48_ok (ih : Handler) (n : Nat) (x0 : IV) (x1 : IV) (x2 : IV) (x3 : IV) (h4 : Hp) : funS EE ih ft.get n 48 [x0, x1, x2, x3] h4 = S48 ih n x0 x1 x2 x3 h4 := by kernel_rfl
noncomputable def S49_35 (r26 : List Ref) (w27 : List Ref) (x24 : IV) (h25 : Hp) (x16 : IV) (q9 : List IV → Hp → Option (IV × Hp)) (x12 : IV) (x13 : IV) (x14 : IV) (x15 : IV) : Option (IV × Hp) :=
  chkS [] r26 w27 (neS EE 3 x24 (.fv (.int .i64 0)) fun x28 => condS x28 (outS1 [x24] h25) (addS EE 3 x16 (.fv (.int .i64 1)) fun x29 => q9 [x12, x13, x14, x15, x29] h25))
noncomputable def S49_36 (h11 : Hp) (x19 : IV) (x15 : IV) (ih : Handler) (x12 : IV) (x13 : IV) (x16 : IV) (q9 : List IV → Hp → Option (IV × Hp)) (x14 : IV) : Option (IV × Hp) :=
  loadA 3 x19 h11 fun x20 r21 => chkS [] r21 [] (loadA 3 x15 h11 fun x22 r23 => chkS [(r21, [])] r23 [] (isoS [] false false ih 48 [x12, x13, x20, x22] h11 fun x24 h25 r26 w27 => S49_35 r26 w27 x24 h25 x16 q9 x12 x13 x14 x15))
noncomputable def S49_37 (x14 : IV) (x16 : IV) (h11 : Hp) (x15 : IV) (ih : Handler) (x12 : IV) (x13 : IV) (q9 : List IV → Hp → Option (IV × Hp)) : Option (IV × Hp) :=
  lenS x14 fun x17 => ltS EE 3 x16 x17 fun x18 => condS x18 (ixS 3 x14 x16 fun x19 => S49_36 h11 x19 x15 ih x12 x13 x16 q9 x14) (outS1 [.fv (.int .i64 0)] h11)
noncomputable def S49_38 (l10 : List IV) (h11 : Hp) (ih : Handler) (q9 : List IV → Hp → Option (IV × Hp)) : Option (IV × Hp) :=
  uncS l10 fun x12 l30 => uncS l30 fun x13 l31 => uncS l31 fun x14 l32 => uncS l32 fun x15 l33 => uncS l33 fun x16 _ => S49_37 x14 x16 h11 x15 ih x12 x13 q9
noncomputable def S49 (ih : Handler) (n : Nat) (x0 : IV) (x1 : IV) (x2 : IV) (x3 : IV) (h4 : Hp) : Option (IV × Hp) :=
  boxS 51380224 x3 h4 fun x5 h6 _ _ => loopS n (fun q9 l10 h11 => S49_38 l10 h11 ih q9) [x0, x1, x2, x5, .fv (.int .i64 0)] h6
theorem S49_ok (ih : Handler) (n : Nat) (x0 : IV) (x1 : IV) (x2 : IV) (x3 : IV) (h4 : Hp) : funS EE ih ft.get n 49 [x0, x1, x2, x3] h4 = S49 ih n x0 x1 x2 x3 h4 := by kernel_rfl
noncomputable def S50_340 (ih : Handler) (h24 : Hp) (x28 : IV) (x7 : IV) : Option (IV × Hp) :=
  isoS [] false false ih 44 [x28] h24 fun x30 h31 _ _ => extS 0 x30 fun x34 => extS 1 x30 fun x35 => storeA 3 x7 x34 h31 fun h36 _ _ => cellS true 3 x7 h36 fun x39 => outS1 [x39, x35] h36
noncomputable def S50_341 (x57 : IV) (h58 : Hp) (x7 : IV) : Option (IV × Hp) :=
  extS 0 x57 fun x61 => extS 1 x57 fun x62 => storeA 3 x7 x61 h58 fun h63 _ _ => cellS true 3 x7 h63 fun x66 => outS1 [x66, x62] h63
noncomputable def S50_342 (ih : Handler) (h68 : Hp) (x67 : IV) (x7 : IV) : Option (IV × Hp) :=
  isoS [] false false ih 47 [x67] h68 fun x71 h72 _ _ => storeA 3 x7 x71 h72 fun h75 _ _ => cellS true 3 x7 h75 fun x78 => outS1 [x78, .fv (.int .i64 0)] h75
noncomputable def S50_343 (x50 : IV) (ih : Handler) (h51 : Hp) (x7 : IV) (x27 : IV) : Option (IV × Hp) :=
  extS 0 x50 fun x54 => extS 1 x50 fun x55 => neS EE 3 x55 (.fv (.int .i64 0)) fun x56 => condS x56 (isoS [] false false ih 44 [x55] h51 fun x57 h58 _ _ => S50_341 x57 h58 x7) (genS (builtinR EE 52440066 false .max [3, 3] [x27, x54]) 52440066 h51 fun x67 h68 _ _ => S50_342 ih h68 x67 x7)
noncomputable def S50_344 (x12 : IV) (h44 : Hp) (r45 : List Ref) (w46 : List Ref) (r42 : List Ref) (ih : Handler) (x43 : IV) (x7 : IV) (x27 : IV) : Option (IV × Hp) :=
  ixS 3 x12 (.fv (.int .i64 1)) fun x47 => loadA 3 x47 h44 fun x48 r49 => chkS [(r45, w46), (r42, [])] r49 [] (isoS [] false false ih 83 [x43, x48] h44 fun x50 h51 r52 w53 => chkS [] r52 w53 (S50_343 x50 ih h51 x7 x27))
noncomputable def S50_345 (x12 : IV) (h24 : Hp) (ih : Handler) (x0 : IV) (x7 : IV) (x27 : IV) : Option (IV × Hp) :=
  ixS 3 x12 (.fv (.int .i64 0)) fun x40 => loadA 3 x40 h24 fun x41 r42 => chkS [] r42 [] (isoS [] false false ih 79 [x0, .fv (.int .i64 1), x41] h24 fun x43 h44 r45 w46 => chkS [] r45 w46 (S50_344 x12 h44 r45 w46 r42 ih x43 x7 x27))
noncomputable def S50_346 (ih : Handler) (h19 : Hp) (x0 : IV) (x21 : IV) (x7 : IV) (x12 : IV) : Option (IV × Hp) :=
  isoS [] false false ih 83 [x0, x21] h19 fun x23 h24 _ _ => extS 0 x23 fun x27 => extS 1 x23 fun x28 => neS EE 3 x28 (.fv (.int .i64 0)) fun x29 => condS x29 (S50_340 ih h24 x28 x7) (S50_345 x12 h24 ih x0 x7 x27)
noncomputable def S50_347 (x90 : IV) (h91 : Hp) (x7 : IV) (x94 : IV) : Option (IV × Hp) :=
  extS 1 x90 fun x95 => storeA 3 x7 x94 h91 fun h96 _ _ => cellS true 3 x7 h96 fun x99 => outS1 [x99, x95] h96
noncomputable def S50_348 (x124 : IV) (h125 : Hp) (x7 : IV) (x128 : IV) : Option (IV × Hp) :=
  extS 1 x124 fun x129 => storeA 3 x7 x128 h125 fun h130 _ _ => cellS true 3 x7 h130 fun x133 => outS1 [x133, x129] h130
noncomputable def S50_349 (x147 : IV) (h148 : Hp) (x7 : IV) (x151 : IV) : Option (IV × Hp) :=
  extS 1 x147 fun x152 => storeA 3 x7 x151 h148 fun h153 r154 w155 => chkS [] r154 w155 (cellS true 3 x7 h153 fun x156 => outS1 [x156, x152] h153)
noncomputable def S50_350 (ih : Handler) (h140 : Hp) (x139 : IV) (x7 : IV) : Option (IV × Hp) :=
  isoS [] false false ih 24 [.fv (.int .i64 3), x139] h140 fun x143 h144 r145 w146 => chkS [] r145 w146 (isoS [] false false ih 34 [x143] h144 fun x147 h148 r149 w150 => chkS [] r149 w150 (extS 0 x147 fun x151 => S50_349 x147 h148 x7 x151))
noncomputable def S50_351 (r136 : List Ref) (h120 : Hp) (x116 : IV) (x135 : IV) (ih : Handler) (x7 : IV) : Option (IV × Hp) :=
  chkS [] r136 [] (loadA 3 x116 h120 fun x137 r138 => chkS [(r136, [])] r138 [] (genS (pcBuildSlice EE 28 2 [(0, x135), (1, x137)]) 52448260 h120 fun x139 h140 r141 w142 => chkS [] r141 w142 (S50_350 ih h140 x139 x7)))
noncomputable def S50_352 (x123 : IV) (ih : Handler) (h120 : Hp) (x115 : IV) (x7 : IV) (x12 : IV) (x116 : IV) : Option (IV × Hp) :=
  condS x123 (isoS [] false false ih 44 [x115] h120 fun x124 h125 _ _ => extS 0 x124 fun x128 => S50_348 x124 h125 x7 x128) (ixS 3 x12 (.fv (.int .i64 0)) fun x134 => loadA 3 x134 h120 fun x135 r136 => S50_351 r136 h120 x116 x135 ih x7)
noncomputable def S50_353 (h111 : Hp) (r112 : List Ref) (w113 : List Ref) (r109 : List Ref) (r105 : List Ref) (w106 : List Ref) (r102 : List Ref) (x114 : IV) (x115 : IV) (ih : Handler) (x7 : IV) (x12 : IV) : Option (IV × Hp) :=
  newS 52445196 (.row [.fv (.int .i64 0), .fv (.int .i64 0), .nils] false) (.ptr (.own 52445196) 0) h111 fun x116 h117 r118 w119 => chkS [(r112, w113), (r109, []), (r105, w106), (r102, [])] r118 w119 (storeA 3 x116 x114 h117 fun h120 r121 w122 => chkS [] r121 w122 (neS EE 3 x115 (.fv (.int .i64 0)) fun x123 => S50_352 x123 ih h120 x115 x7 x12 x116))
noncomputable def S50_354 (r109 : List Ref) (r105 : List Ref) (w106 : List Ref) (r102 : List Ref) (ih : Handler) (h104 : Hp) (x103 : IV) (x108 : IV) (x7 : IV) (x12 : IV) : Option (IV × Hp) :=
  chkS [(r105, w106), (r102, [])] r109 [] (isoS [] false false ih 20 [x103, .fv (.int .i64 1), x108] h104 fun x110 h111 r112 w113 => chkS [] r112 w113 (extS 0 x110 fun x114 => extS 1 x110 fun x115 => S50_353 h111 r112 w113 r109 r105 w106 r102 x114 x115 ih x7 x12))
noncomputable def S50_355 (r102 : List Ref) (ih : Handler) (h84 : Hp) (x0 : IV) (x101 : IV) (x12 : IV) (x7 : IV) : Option (IV × Hp) :=
  chkS [] r102 [] (isoS [] false false ih 79 [x0, .fv (.int .i64 1), x101] h84 fun x103 h104 r105 w106 => chkS [] r105 w106 (ixS 3 x12 (.fv (.int .i64 1)) fun x107 => loadA 3 x107 h104 fun x108 r109 => S50_354 r109 r105 w106 r102 ih h104 x103 x108 x7 x12))
noncomputable def S50_356 (x88 : IV) (ih : Handler) (h84 : Hp) (x7 : IV) (x12 : IV) (x0 : IV) : Option (IV × Hp) :=
  neS EE 3 x88 (.fv (.int .i64 0)) fun x89 => condS x89 (isoS [] false false ih 44 [x88] h84 fun x90 h91 _ _ => extS 0 x90 fun x94 => S50_347 x90 h91 x7 x94) (ixS 3 x12 (.fv (.int .i64 0)) fun x100 => loadA 3 x100 h84 fun x101 r102 => S50_355 r102 ih h84 x0 x101 x12 x7)
noncomputable def S50_357 (x12 : IV) (h19 : Hp) (ih : Handler) (x0 : IV) (x7 : IV) : Option (IV × Hp) :=
  ixS 3 x12 (.fv (.int .i64 0)) fun x80 => loadA 3 x80 h19 fun x81 _ => isoS [] false false ih 83 [x0, x81] h19 fun x83 h84 _ _ => extS 0 x83 fun _ => extS 1 x83 fun x88 => S50_356 x88 ih h84 x7 x12 x0
noncomputable def S50_358 (x178 : IV) (h179 : Hp) (x7 : IV) (x182 : IV) : Option (IV × Hp) :=
  extS 1 x178 fun x183 => storeA 3 x7 x182 h179 fun h184 _ _ => cellS true 3 x7 h184 fun x187 => outS1 [x187, x183] h184
noncomputable def S50_359 (h207 : Hp) (x7 : IV) (x206 : IV) : Option (IV × Hp) :=
  cellS true 3 x7 h207 fun x210 => outS1 [x210, x206] h207
noncomputable def S50_360 (r203 : List Ref) (w204 : List Ref) (x201 : IV) (h202 : Hp) (x7 : IV) : Option (IV × Hp) :=
  chkS [] r203 w204 (extS 0 x201 fun x205 => extS 1 x201 fun x206 => storeA 3 x7 x205 h202 fun h207 r208 w209 => chkS [] r208 w209 (S50_359 h207 x7 x206))
noncomputable def S50_361 (h176 : Hp) (x194 : IV) (r193 : List Ref) (r190 : List Ref) (ih : Handler) (x192 : IV) (x7 : IV) : Option (IV × Hp) :=
  loadA 3 x194 h176 fun x195 r196 => chkS [(r193, []), (r190, [])] r196 [] (isoS [] false false ih 67 [x192, .fv (.int .i64 0), x195] h176 fun x197 h198 r199 w200 => chkS [] r199 w200 (isoS [] false false ih 34 [x197] h198 fun x201 h202 r203 w204 => S50_360 r203 w204 x201 h202 x7))
noncomputable def S50_362 (r190 : List Ref) (x189 : IV) (h176 : Hp) (x12 : IV) (ih : Handler) (x7 : IV) : Option (IV × Hp) :=
  chkS [] r190 [] (ixS 3 x189 (.fv (.int .i64 1)) fun x191 => loadA 3 x191 h176 fun x192 r193 => chkS [] r193 [] (ixS 3 x12 (.fv (.int .i64 1)) fun x194 => S50_361 h176 x194 r193 r190 ih x192 x7))
noncomputable def S50_363 (x175 : IV) (ih : Handler) (h176 : Hp) (x7 : IV) (x167 : IV) (x12 : IV) : Option (IV × Hp) :=
  neS EE 3 x175 (.fv (.int .i64 0)) fun x177 => condS x177 (isoS [] false false ih 44 [x175] h176 fun x178 h179 _ _ => extS 0 x178 fun x182 => S50_358 x178 h179 x7 x182) (faddrS 2 x167 fun x188 => load1 x188 h176 fun x189 r190 => S50_362 r190 x189 h176 x12 ih x7)
noncomputable def S50_364 (x216 : IV) (h171 : Hp) (r214 : List Ref) (ih : Handler) (x0 : IV) (x213 : IV) (j1_174 : IV → Hp → Option (IV × Hp)) : Option (IV × Hp) :=
  ixS 3 x216 (.fv (.int .i64 0)) fun x218 => loadA 3 x218 h171 fun x219 r220 => chkS [(r214, [])] r220 [] (isoS [] false false ih 48 [x0, .fv (.int .i64 1), x213, x219] h171 fun x221 h222 r223 w224 => chkS [] r223 w224 (j1_174 x221 h222))
noncomputable def S50_365 (h171 : Hp) (x212 : IV) (x167 : IV) (ih : Handler) (x0 : IV) (j1_174 : IV → Hp → Option (IV × Hp)) : Option (IV × Hp) :=
  loadA 3 x212 h171 fun x213 r214 => chkS [] r214 [] (faddrS 2 x167 fun x215 => load1 x215 h171 fun x216 r217 => chkS [(r214, [])] r217 [] (S50_364 x216 h171 r214 ih x0 x213 j1_174))
noncomputable def S50_366 (ih : Handler) (x7 : IV) (x167 : IV) (x12 : IV) (x166 : IV) (h171 : Hp) (x0 : IV) : Option (IV × Hp) :=
  (fun (j1_174 : IV → Hp → Option (IV × Hp)) => eqS EE 3 x166 (.fv (.int .i64 0)) fun x211 => condS x211 (ixS 3 x12 (.fv (.int .i64 1)) fun x212 => S50_365 h171 x212 x167 ih x0 j1_174) (j1_174 x166 h171)) fun x175 h176 => S50_363 x175 ih h176 x7 x167 x12
noncomputable def S50_367 (ih : Handler) (h19 : Hp) (x0 : IV) (x159 : IV) (x7 : IV) (x12 : IV) : Option (IV × Hp) :=
  isoS [] false false ih 80 [x0, .fv (.int .i64 1), x159, .fv (.int .i64 3)] h19 fun x161 h162 _ _ => extS 0 x161 fun x165 => extS 1 x161 fun x166 => newS 52450312 (.row [.fv (.int .i64 0), .fv (.int .i64 0), .nils] false) (.ptr (.own 52450312) 0) h162 fun x167 h168 _ _ => storeA 3 x167 x165 h168 fun h171 _ _ => S50_366 ih x7 x167 x12 x166 h171 x0
noncomputable def S50_368 (x245 : IV) (h246 : Hp) (x7 : IV) (x249 : IV) : Option (IV × Hp) :=
  extS 1 x245 fun x250 => storeA 3 x7 x249 h246 fun h251 _ _ => cellS true 3 x7 h251 fun x254 => outS1 [x254, x250] h251
noncomputable def S50_369 (x260 : IV) (h241 : Hp) (x7 : IV) : Option (IV × Hp) :=
  ixS 3 x260 (.fv (.int .i64 0)) fun x262 => loadA 3 x262 h241 fun x263 _ => storeA 3 x7 x263 h241 fun h265 _ _ => cellS true 3 x7 h265 fun x268 => outS1 [x268, .fv (.int .i64 0)] h265
noncomputable def S50_370 (x290 : IV) (h291 : Hp) (x7 : IV) : Option (IV × Hp) :=
  extS 0 x290 fun x294 => extS 1 x290 fun x295 => storeA 3 x7 x294 h291 fun h296 r297 w298 => chkS [] r297 w298 (cellS true 3 x7 h296 fun x299 => outS1 [x299, x295] h296)
noncomputable def S50_371 (r284 : List Ref) (w285 : List Ref) (r274 : List Ref) (r271 : List Ref) (ih : Handler) (h283 : Hp) (x273 : IV) (x282 : IV) (x7 : IV) : Option (IV × Hp) :=
  chkS [(r274, []), (r271, [])] r284 w285 (isoS [] false false ih 67 [x273, .fv (.int .i64 0), x282] h283 fun x286 h287 r288 w289 => chkS [] r288 w289 (isoS [] false false ih 34 [x286] h287 fun x290 h291 r292 w293 => chkS [] r292 w293 (S50_370 x290 h291 x7)))
noncomputable def S50_372 (h241 : Hp) (x275 : IV) (r274 : List Ref) (r271 : List Ref) (ih : Handler) (x273 : IV) (x7 : IV) : Option (IV × Hp) :=
  loadA 3 x275 h241 fun x276 r277 => chkS [(r274, []), (r271, [])] r277 [] (genS (pcBuildSlice EE 28 1 [(0, x276)]) 52463623 h241 fun x278 h279 r280 w281 => chkS [(r274, []), (r271, [])] r280 w281 (isoS [] false false ih 24 [.fv (.int .i64 8), x278] h279 fun x282 h283 r284 w285 => S50_371 r284 w285 r274 r271 ih h283 x273 x282 x7))
noncomputable def S50_373 (r271 : List Ref) (x270 : IV) (h241 : Hp) (x12 : IV) (ih : Handler) (x7 : IV) : Option (IV × Hp) :=
  chkS [] r271 [] (ixS 3 x270 (.fv (.int .i64 1)) fun x272 => loadA 3 x272 h241 fun x273 r274 => chkS [] r274 [] (ixS 3 x12 (.fv (.int .i64 0)) fun x275 => S50_372 h241 x275 r274 r271 ih x273 x7))
noncomputable def S50_374 (x256 : IV) (x237 : IV) (h241 : Hp) (x7 : IV) (x12 : IV) (ih : Handler) : Option (IV × Hp) :=
  eqS EE 3 x256 (.fv (.int .i64 8)) fun x258 => condS x258 (faddrS 2 x237 fun x259 => load1 x259 h241 fun x260 _ => S50_369 x260 h241 x7) (faddrS 2 x237 fun x269 => load1 x269 h241 fun x270 r271 => S50_373 r271 x270 h241 x12 ih x7)
noncomputable def S50_375 (x236 : IV) (ih : Handler) (h241 : Hp) (x7 : IV) (x3 : IV) (x237 : IV) (x12 : IV) : Option (IV × Hp) :=
  neS EE 3 x236 (.fv (.int .i64 0)) fun x244 => condS x244 (isoS [] false false ih 44 [x236] h241 fun x245 h246 _ _ => extS 0 x245 fun x249 => S50_368 x245 h246 x7 x249) (faddrS 0 x3 fun x255 => load1 x255 h241 fun x256 _ => S50_374 x256 x237 h241 x7 x12 ih)
noncomputable def S50_376 (ih : Handler) (h227 : Hp) (x0 : IV) (x229 : IV) (x7 : IV) (x3 : IV) (x12 : IV) : Option (IV × Hp) :=
  isoS [] false false ih 80 [x0, .fv (.int .i64 1), x229, .fv (.int .i64 6)] h227 fun x231 h232 _ _ => extS 0 x231 fun x235 => extS 1 x231 fun x236 => newS 52458504 (.row [.fv (.int .i64 0), .fv (.int .i64 0), .nils] false) (.ptr (.own 52458504) 0) h232 fun x237 h238 _ _ => storeA 3 x237 x235 h238 fun h241 _ _ => S50_375 x236 ih h241 x7 x3 x237 x12
noncomputable def S50_377 (h309 : Hp) (x7 : IV) (x308 : IV) : Option (IV × Hp) :=
  cellS true 3 x7 h309 fun x312 => outS1 [x312, x308] h309
noncomputable def S50_378 (h227 : Hp) (x3 : IV) (ih : Handler) (x0 : IV) (x7 : IV) : Option (IV × Hp) :=
  loadA 3 x3 h227 fun x301 _ => isoS [] false false ih 84 [x0, x301] h227 fun x303 h304 _ _ => extS 0 x303 fun x307 => extS 1 x303 fun x308 => storeA 3 x7 x307 h304 fun h309 _ _ => S50_377 h309 x7 x308
noncomputable def S50_379 (x316 : IV) (h317 : Hp) (x7 : IV) : Option (IV × Hp) :=
  extS 0 x316 fun x320 => extS 1 x316 fun x321 => storeA 3 x7 x320 h317 fun h322 _ _ => cellS true 3 x7 h322 fun x325 => outS1 [x325, x321] h322
noncomputable def S50_380 (x326 : IV) (h327 : Hp) (x7 : IV) (x330 : IV) : Option (IV × Hp) :=
  extS 1 x326 fun x331 => storeA 3 x7 x330 h327 fun h332 _ _ => cellS true 3 x7 h332 fun x335 => outS1 [x335, x331] h332
noncomputable def S50_381 (x15 : IV) (h227 : Hp) (x3 : IV) (ih : Handler) (x0 : IV) (x7 : IV) : Option (IV × Hp) :=
  eqS EE 3 x15 (.fv (.int .i64 13)) fun x313 => condS x313 (loadA 3 x3 h227 fun x314 _ => isoS [] false false ih 85 [x0, x314] h227 fun x316 h317 _ _ => S50_379 x316 h317 x7) (isoS [] false false ih 44 [.fv (.int .i64 10)] h227 fun x326 h327 _ _ => extS 0 x326 fun x330 => S50_380 x326 h327 x7 x330)
noncomputable def S50_382 (x226 : IV) (x12 : IV) (h227 : Hp) (ih : Handler) (x0 : IV) (x7 : IV) (x3 : IV) (x15 : IV) : Option (IV × Hp) :=
  condS x226 (ixS 3 x12 (.fv (.int .i64 0)) fun x228 => loadA 3 x228 h227 fun x229 _ => S50_376 ih h227 x0 x229 x7 x3 x12) (eqS EE 3 x15 (.fv (.int .i64 7)) fun x300 => condS x300 (S50_378 h227 x3 ih x0 x7) (S50_381 x15 h227 x3 ih x0 x7))
noncomputable def S50_383 (x336 : IV) (j1_225 : IV → Hp → Option (IV × Hp)) (h19 : Hp) (x15 : IV) : Option (IV × Hp) :=
  condS x336 (j1_225 x336 h19) (eqS EE 3 x15 (.fv (.int .i64 9)) fun x337 => j1_225 x337 h19)
noncomputable def S50_384 (x15 : IV) (x12 : IV) (h19 : Hp) (ih : Handler) (x0 : IV) (x7 : IV) (x3 : IV) : Option (IV × Hp) :=
  eqS EE 3 x15 (.fv (.int .i64 5)) fun x157 => condS x157 (ixS 3 x12 (.fv (.int .i64 0)) fun x158 => loadA 3 x158 h19 fun x159 _ => S50_367 ih h19 x0 x159 x7 x12) ((fun (j1_225 : IV → Hp → Option (IV × Hp)) => eqS EE 3 x15 (.fv (.int .i64 8)) fun x336 => S50_383 x336 j1_225 h19 x15) fun x226 h227 => S50_382 x226 x12 h227 ih x0 x7 x3 x15)
noncomputable def S50_385 (x18 : IV) (x12 : IV) (h19 : Hp) (ih : Handler) (x0 : IV) (x7 : IV) (x15 : IV) (x3 : IV) : Option (IV × Hp) :=
  condS x18 (ixS 3 x12 (.fv (.int .i64 0)) fun x20 => loadA 3 x20 h19 fun x21 _ => S50_346 ih h19 x0 x21 x7 x12) (eqS EE 3 x15 (.fv (.int .i64 4)) fun x79 => condS x79 (S50_357 x12 h19 ih x0 x7) (S50_384 x15 x12 h19 ih x0 x7 x3))
noncomputable def S50_386 (x12 : IV) (ih : Handler) (x0 : IV) (x7 : IV) (x15 : IV) (x3 : IV) (h8 : Hp) : Option (IV × Hp) :=
  (fun (j1_17 : IV → Hp → Option (IV × Hp)) => eqS EE 3 x15 (.fv (.int .i64 3)) fun x338 => condS x338 (j1_17 x338 h8) (eqS EE 3 x15 (.fv (.int .i64 6)) fun x339 => j1_17 x339 h8)) fun x18 h19 => S50_385 x18 x12 h19 ih x0 x7 x15 x3
noncomputable def S50 (ih : Handler) (n : Nat) (x0 : IV) (x1 : IV) (h2 : Hp) : Option (IV × Hp) :=
  boxS 52428800 x1 h2 fun x3 h4 _ _ => newS 52428801 (.row [.fv (.int .i64 0), .fv (.int .i64 0), .nils] false) (.ptr (.own 52428801) 0) h4 fun x7 h8 _ _ => faddrS 2 x3 fun x11 => load1 x11 h8 fun x12 _ => faddrS 0 x3 fun x14 => load1 x14 h8 fun x15 _ => S50_386 x12 ih x0 x7 x15 x3 h8
theorem S50_ok (ih : Handler) (n : Nat) (x0 : IV) (x1 : IV) (h2 : Hp) : funS EE ih ft.get n 50 [x0, x1] h2 = S50 ih n x0 x1 h2 := by kernel_rfl
end Idl
end Go.Proofs.Ytkfecngimlcfoaa

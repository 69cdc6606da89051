/-
  THE SHALLOW FORM OF THE SEAT'S FUNCTIONS, a part; each is what its code's shallow run is. Printed by a program of mine (gen-sh). No statement is proved here.
-/
import Derived.Test.YtdibmackcbpniaaTab
import Derived.Test.YtdibmackcbpniaaIdl31
set_option maxRecDepth 100000
set_option linter.unusedVariables false
namespace Go.Proofs.Ytdibmackcbpniaa
namespace Idl
/-! thyrsus/thyrsusref4.Int -/
noncomputable def S31 (ih : Handler) (n : Nat) (x0 : IV) (h1 : Hp) : Option (IV × Hp) :=
  newS 32505856 (.row [.fv (.int .i64 0), .fv (.int .i64 0), .nils] false) (.ptr (.own 32505856) 0) h1 fun x2 h3 _ _ => bldS [.fv (.int .i64 0), .fv (.int .i64 0), .nils] [(0, 1, .fv (.int .i64 25)), (1, 1, x0)] fun x6 => storeA 3 x2 x6 h3 fun h7 _ _ => cellS true 3 x2 h7 fun x10 => outS1 [x10] h7
theorem S31_ok (ih : Handler) (n : Nat) (x0 : IV) (h1 : Hp) : funS EE ih ft.get n 31 [x0] h1 = S31 ih n x0 h1 := by kernel_rfl
/-! thyrsus/obj.Fits -/
noncomputable def S32_250 (h42 : Hp) (x25 : IV) (x41 : IV) : Option (IV × Hp) :=
  guardS x25 true h42 (fun k45 => eqS EE 3 x41 (.fv (.int .i64 0)) fun x46 => k45 x46 h42 [] []) fun x47 h48 _ _ => pickS x25 x47 (.fv (.bool false)) fun x51 => outS1 [x51] h48
noncomputable def S32_251 (h14 : Hp) (x22 : IV) (x3 : IV) : Option (IV × Hp) :=
  load1 x22 h14 fun x23 _ => eqS EE 3 x23 (.fv (.int .i64 15)) fun x25 => guardS x25 true h14 (fun k26 => faddrS 2 x3 fun x27 => k26 x27 h14 [] []) fun x28 h29 _ _ => guardS x25 true h29 (fun k32 => load1 x28 h29 fun x33 r34 => k32 x33 h29 r34 []) fun x35 h36 _ _ => guardS x25 true h36 (fun k39 => lenS x35 fun x40 => k39 x40 h36 [] []) fun x41 h42 _ _ => S32_250 h42 x25 x41
noncomputable def S32_252 (x79 : IV) (x101 : IV) (h102 : Hp) : Option (IV × Hp) :=
  pickS x79 x101 (.fv (.bool false)) fun x105 => outS1 [x105] h102
noncomputable def S32_253 (x59 : IV) (x75 : IV) (h76 : Hp) (x3 : IV) : Option (IV × Hp) :=
  pickS x59 x75 (.fv (.bool false)) fun x79 => guardS x79 true h76 (fun k80 => faddrS 2 x3 fun x81 => k80 x81 h76 [] []) fun x82 h83 _ _ => guardS x79 true h83 (fun k86 => load1 x82 h83 fun x87 r88 => k86 x87 h83 r88 []) fun x89 h90 _ _ => guardS x79 true h90 (fun k93 => lenS x89 fun x94 => k93 x94 h90 [] []) fun x95 h96 _ _ => guardS x79 true h96 (fun k99 => eqS EE 3 x95 (.fv (.int .i64 0)) fun x100 => k99 x100 h96 [] []) fun x101 h102 _ _ => S32_252 x79 x101 h102
noncomputable def S32_254 (h14 : Hp) (x56 : IV) (x3 : IV) : Option (IV × Hp) :=
  load1 x56 h14 fun x57 _ => eqS EE 3 x57 (.fv (.int .i64 16)) fun x59 => guardS x59 true h14 (fun k60 => faddrS 1 x3 fun x61 => k60 x61 h14 [] []) fun x62 h63 _ _ => guardS x59 true h63 (fun k66 => load1 x62 h63 fun x67 r68 => k66 x67 h63 r68 []) fun x69 h70 _ _ => guardS x59 true h70 (fun k73 => eqS EE 3 x69 (.fv (.int .i64 0)) fun x74 => k73 x74 h70 [] []) fun x75 h76 _ _ => S32_253 x59 x75 h76 x3
noncomputable def S32_255 (r247 : List Ref) (w248 : List Ref) (x188 : IV) (x245 : IV) (h246 : Hp) : Option (IV × Hp) :=
  chkS [] r247 w248 (pickS x188 x245 (.fv (.bool false)) fun x249 => outS1 [x249] h246)
noncomputable def S32_256 (r229 : List Ref) (w230 : List Ref) (r216 : List Ref) (w217 : List Ref) (r203 : List Ref) (w204 : List Ref) (h228 : Hp) (x188 : IV) (x227 : IV) (ih : Handler) (x214 : IV) : Option (IV × Hp) :=
  chkS [(r216, w217), (r203, w204)] r229 w230 (guardS x188 true h228 (fun k231 => ixS 3 x227 (.fv (.int .i64 1)) fun x232 => k231 x232 h228 [] []) fun x233 h234 _ _ => guardS x188 true h234 (fun k237 => loadA 3 x233 h234 fun x238 r239 => k237 x238 h234 r239 []) fun x240 h241 r242 w243 => chkS [(r216, w217), (r203, w204)] r242 w243 (guardS x188 true h241 (fun k244 => isoS [] false false ih 32 [x214, x240] h241 k244) fun x245 h246 r247 w248 => S32_255 r247 w248 x188 x245 h246))
noncomputable def S32_257 (h202 : Hp) (x188 : IV) (x201 : IV) (x7 : IV) (r203 : List Ref) (w204 : List Ref) (ih : Handler) : Option (IV × Hp) :=
  guardS x188 true h202 (fun k205 => ixS 3 x201 (.fv (.int .i64 1)) fun x206 => k205 x206 h202 [] []) fun x207 h208 _ _ => guardS x188 true h208 (fun k211 => loadA 3 x207 h208 fun x212 r213 => k211 x212 h208 r213 []) fun x214 h215 r216 w217 => chkS [] r216 w217 (guardS x188 true h215 (fun k218 => faddrS 2 x7 fun x219 => k218 x219 h215 [] []) fun x220 h221 _ _ => guardS x188 true h221 (fun k224 => load1 x220 h221 fun x225 r226 => k224 x225 h221 r226 []) fun x227 h228 r229 w230 => S32_256 r229 w230 r216 w217 r203 w204 h228 x188 x227 ih x214)
noncomputable def S32_258 (ih : Handler) (h172 : Hp) (x180 : IV) (x186 : IV) (x3 : IV) (x7 : IV) : Option (IV × Hp) :=
  isoS [] false false ih 32 [x180, x186] h172 fun x188 h189 r190 w191 => chkS [] r190 w191 (guardS x188 true h189 (fun k192 => faddrS 2 x3 fun x193 => k192 x193 h189 [] []) fun x194 h195 _ _ => guardS x188 true h195 (fun k198 => load1 x194 h195 fun x199 r200 => k198 x199 h195 r200 []) fun x201 h202 r203 w204 => chkS [] r203 w204 (S32_257 h202 x188 x201 x7 r203 w204 ih))
noncomputable def S32_259 (h172 : Hp) (x182 : IV) (r181 : List Ref) (r178 : List Ref) (ih : Handler) (x180 : IV) (x3 : IV) (x7 : IV) : Option (IV × Hp) :=
  load1 x182 h172 fun x183 r184 => chkS [(r181, []), (r178, [])] r184 [] (ixS 3 x183 (.fv (.int .i64 0)) fun x185 => loadA 3 x185 h172 fun x186 r187 => chkS [(r181, []), (r178, [])] r187 [] (S32_258 ih h172 x180 x186 x3 x7))
noncomputable def S32_260 (r178 : List Ref) (x177 : IV) (h172 : Hp) (x7 : IV) (ih : Handler) (x3 : IV) : Option (IV × Hp) :=
  chkS [] r178 [] (ixS 3 x177 (.fv (.int .i64 0)) fun x179 => loadA 3 x179 h172 fun x180 r181 => chkS [] r181 [] (faddrS 2 x7 fun x182 => S32_259 h172 x182 r181 r178 ih x180 x3 x7))
noncomputable def S32_261 (x175 : IV) (h172 : Hp) (x3 : IV) (x7 : IV) (ih : Handler) : Option (IV × Hp) :=
  condS x175 (outS1 [.fv (.bool false)] h172) (faddrS 2 x3 fun x176 => load1 x176 h172 fun x177 r178 => S32_260 r178 x177 h172 x7 ih x3)
noncomputable def S32_262 (x129 : IV) (x151 : IV) (h152 : Hp) (x7 : IV) (x3 : IV) (ih : Handler) : Option (IV × Hp) :=
  pickS x129 (.fv (.bool true)) x151 fun x155 => guardS x155 false h152 (fun k156 => faddrS 0 x7 fun x157 => k156 x157 h152 [] []) fun x158 h159 _ _ => guardS x155 false h159 (fun k162 => load1 x158 h159 fun x163 r164 => k162 x163 h159 r164 []) fun x165 h166 _ _ => guardS x155 false h166 (fun k169 => neS EE 3 x165 (.fv (.int .i64 17)) fun x170 => k169 x170 h166 [] []) fun x171 h172 _ _ => pickS x155 (.fv (.bool true)) x171 fun x175 => S32_261 x175 h172 x3 x7 ih
noncomputable def S32_263 (x109 : IV) (x125 : IV) (h126 : Hp) (x3 : IV) (x7 : IV) (ih : Handler) : Option (IV × Hp) :=
  pickS x109 (.fv (.bool true)) x125 fun x129 => guardS x129 false h126 (fun k130 => faddrS 2 x3 fun x131 => k130 x131 h126 [] []) fun x132 h133 _ _ => guardS x129 false h133 (fun k136 => load1 x132 h133 fun x137 r138 => k136 x137 h133 r138 []) fun x139 h140 _ _ => guardS x129 false h140 (fun k143 => lenS x139 fun x144 => k143 x144 h140 [] []) fun x145 h146 _ _ => guardS x129 false h146 (fun k149 => neS EE 3 x145 (.fv (.int .i64 2)) fun x150 => k149 x150 h146 [] []) fun x151 h152 _ _ => S32_262 x129 x151 h152 x7 x3 ih
noncomputable def S32_264 (h14 : Hp) (x106 : IV) (x3 : IV) (x7 : IV) (ih : Handler) : Option (IV × Hp) :=
  load1 x106 h14 fun x107 _ => neS EE 3 x107 (.fv (.int .i64 2)) fun x109 => guardS x109 false h14 (fun k110 => faddrS 1 x3 fun x111 => k110 x111 h14 [] []) fun x112 h113 _ _ => guardS x109 false h113 (fun k116 => load1 x112 h113 fun x117 r118 => k116 x117 h113 r118 []) fun x119 h120 _ _ => guardS x109 false h120 (fun k123 => neS EE 3 x119 (.fv (.int .i64 0)) fun x124 => k123 x124 h120 [] []) fun x125 h126 _ _ => S32_263 x109 x125 h126 x3 x7 ih
noncomputable def S32_265 (h14 : Hp) (x52 : IV) (x7 : IV) (x3 : IV) (ih : Handler) : Option (IV × Hp) :=
  load1 x52 h14 fun x53 _ => eqS EE 3 x53 (.fv (.int .i64 3)) fun x55 => condS x55 (faddrS 0 x7 fun x56 => S32_254 h14 x56 x3) (faddrS 0 x3 fun x106 => S32_264 h14 x106 x3 x7 ih)
noncomputable def S32_266 (x3 : IV) (h14 : Hp) (x7 : IV) (ih : Handler) : Option (IV × Hp) :=
  faddrS 0 x3 fun x18 => load1 x18 h14 fun x19 _ => eqS EE 3 x19 (.fv (.int .i64 1)) fun x21 => condS x21 (faddrS 0 x7 fun x22 => S32_251 h14 x22 x3) (faddrS 0 x3 fun x52 => S32_265 h14 x52 x7 x3 ih)
noncomputable def S32 (ih : Handler) (n : Nat) (x0 : IV) (x1 : IV) (h2 : Hp) : Option (IV × Hp) :=
  boxS 33554432 x0 h2 fun x3 h4 _ _ => boxS 33554433 x1 h4 fun x7 h8 _ _ => loadA 3 x7 h8 fun x11 _ => isoS [] false false ih 52 [x11] h8 fun x13 h14 _ _ => optS (unR .not x13) fun x17 => condS x17 (outS1 [.fv (.bool false)] h14) (S32_266 x3 h14 x7 ih)
theorem S32_ok (ih : Handler) (n : Nat) (x0 : IV) (x1 : IV) (h2 : Hp) : funS EE ih ft.get n 32 [x0, x1] h2 = S32 ih n x0 x1 h2 := by kernel_rfl
/-! thyrsus/thyrsuslaw11.Val -/
noncomputable def S33_75 (h9 : Hp) (x8 : IV) (x18 : IV) : Option (IV × Hp) :=
  storeA 3 x8 x18 h9 fun h19 _ _ => cellS true 3 x8 h19 fun x22 => outS1 [x22] h19
noncomputable def S33_76 (h32 : Hp) (x8 : IV) : Option (IV × Hp) :=
  cellS true 3 x8 h32 fun x35 => outS1 [x35] h32
noncomputable def S33_77 (ih : Handler) (h9 : Hp) (x2 : IV) (x23 : IV) (x1 : IV) (x8 : IV) : Option (IV × Hp) :=
  isoS [] false false ih 23 [x2, x23] h9 fun x24 h25 _ _ => ixS 1 x1 x24 fun x28 => load1 x28 h25 fun x29 _ => bldS [.fv (.int .i64 0), .fv (.int .i64 0), .nils] [(0, 1, .fv (.int .i64 1)), (1, 1, x29)] fun x31 => storeA 3 x8 x31 h25 fun h32 _ _ => S33_76 h32 x8
noncomputable def S33_78 (x1 : IV) (x2 : IV) (h9 : Hp) (x8 : IV) (ih : Handler) : Option (IV × Hp) :=
  lenS x1 fun x16 => eqS EE 3 x16 (.fv (.int .i64 0)) fun x17 => condS x17 (bldS [.fv (.int .i64 0), .fv (.int .i64 0), .nils] [(0, 1, .fv (.int .i64 1)), (1, 1, x2)] fun x18 => S33_75 h9 x8 x18) (lenS x1 fun x23 => S33_77 ih h9 x2 x23 x1 x8)
noncomputable def S33_79 (h38 : Hp) (x8 : IV) : Option (IV × Hp) :=
  cellS true 3 x8 h38 fun x41 => outS1 [x41] h38
noncomputable def S33_80 (x66 : IV) (h67 : Hp) (x8 : IV) : Option (IV × Hp) :=
  bldS [.fv (.int .i64 0), .fv (.int .i64 0), .nils] [(0, 1, .fv (.int .i64 2)), (2, 1, x66)] fun x70 => storeA 3 x8 x70 h67 fun h71 r72 w73 => chkS [] r72 w73 (cellS true 3 x8 h71 fun x74 => outS1 [x74] h71)
noncomputable def S33_81 (x60 : IV) (ih : Handler) (h51 : Hp) (x58 : IV) (x1 : IV) (x50 : IV) (x8 : IV) : Option (IV × Hp) :=
  addS EE 3 x60 (.fv (.int .i64 2)) fun x61 => isoS [] false false ih 33 [x58, x1, x61] h51 fun x62 h63 r64 w65 => chkS [] r64 w65 (genS (pcBuildSlice EE 58 2 [(0, x50), (1, x62)]) 34611218 h63 fun x66 h67 r68 w69 => chkS [] r68 w69 (S33_80 x66 h67 x8))
noncomputable def S33_82 (r56 : List Ref) (r52 : List Ref) (w53 : List Ref) (r47 : List Ref) (r44 : List Ref) (x55 : IV) (h51 : Hp) (x2 : IV) (ih : Handler) (x1 : IV) (x50 : IV) (x8 : IV) : Option (IV × Hp) :=
  chkS [(r52, w53), (r47, []), (r44, [])] r56 [] (ixS 3 x55 (.fv (.int .i64 1)) fun x57 => loadA 3 x57 h51 fun x58 r59 => chkS [(r52, w53), (r47, []), (r44, [])] r59 [] (binS EE 3 .mul (.fv (.int .i64 2)) x2 fun x60 => S33_81 x60 ih h51 x58 x1 x50 x8))
noncomputable def S33_83 (x48 : IV) (ih : Handler) (h9 : Hp) (x46 : IV) (x1 : IV) (x4 : IV) (r47 : List Ref) (r44 : List Ref) (x2 : IV) (x8 : IV) : Option (IV × Hp) :=
  addS EE 3 x48 (.fv (.int .i64 1)) fun x49 => isoS [] false false ih 33 [x46, x1, x49] h9 fun x50 h51 r52 w53 => chkS [] r52 w53 (faddrS 2 x4 fun x54 => load1 x54 h51 fun x55 r56 => S33_82 r56 r52 w53 r47 r44 x55 h51 x2 ih x1 x50 x8)
noncomputable def S33_84 (r44 : List Ref) (x43 : IV) (h9 : Hp) (x2 : IV) (ih : Handler) (x1 : IV) (x4 : IV) (x8 : IV) : Option (IV × Hp) :=
  chkS [] r44 [] (ixS 3 x43 (.fv (.int .i64 0)) fun x45 => loadA 3 x45 h9 fun x46 r47 => chkS [] r47 [] (binS EE 3 .mul (.fv (.int .i64 2)) x2 fun x48 => S33_83 x48 ih h9 x46 x1 x4 r47 r44 x2 x8))
noncomputable def S33_85 (x13 : IV) (h9 : Hp) (x8 : IV) (x4 : IV) (x2 : IV) (ih : Handler) (x1 : IV) : Option (IV × Hp) :=
  eqS EE 3 x13 (.fv (.int .i64 16)) fun x36 => condS x36 (bldS [.fv (.int .i64 0), .fv (.int .i64 0), .nils] [(0, 1, .fv (.int .i64 3))] fun x37 => storeA 3 x8 x37 h9 fun h38 _ _ => S33_79 h38 x8) (faddrS 2 x4 fun x42 => load1 x42 h9 fun x43 r44 => S33_84 r44 x43 h9 x2 ih x1 x4 x8)
noncomputable def S33 (ih : Handler) (n : Nat) (x0 : IV) (x1 : IV) (x2 : IV) (h3 : Hp) : Option (IV × Hp) :=
  boxS 34603008 x0 h3 fun x4 h5 _ _ => newS 34603009 (.row [.fv (.int .i64 0), .fv (.int .i64 0), .nils] false) (.ptr (.own 34603009) 0) h5 fun x8 h9 _ _ => faddrS 0 x4 fun x12 => load1 x12 h9 fun x13 _ => eqS EE 3 x13 (.fv (.int .i64 15)) fun x15 => condS x15 (S33_78 x1 x2 h9 x8 ih) (S33_85 x13 h9 x8 x4 x2 ih x1)
theorem S33_ok (ih : Handler) (n : Nat) (x0 : IV) (x1 : IV) (x2 : IV) (h3 : Hp) : funS EE ih ft.get n 33 [x0, x1, x2] h3 = S33 ih n x0 x1 x2 h3 := by kernel_rfl
/-! thyrsus/thyrsuslaw11.alike -/
noncomputable def S34_119 (x7 : IV) (h34 : Hp) (x39 : IV) : Option (IV × Hp) :=
  faddrS 0 x7 fun x41 => load1 x41 h34 fun x42 _ => eqS EE 3 x39 x42 fun x44 => outS1 [x44] h34
noncomputable def S34_120 (r116 : List Ref) (w117 : List Ref) (x57 : IV) (x114 : IV) (h115 : Hp) : Option (IV × Hp) :=
  chkS [] r116 w117 (pickS x57 x114 (.fv (.bool false)) fun x118 => outS1 [x118] h115)
noncomputable def S34_121 (r98 : List Ref) (w99 : List Ref) (r85 : List Ref) (w86 : List Ref) (r72 : List Ref) (w73 : List Ref) (h97 : Hp) (x57 : IV) (x96 : IV) (ih : Handler) (x83 : IV) : Option (IV × Hp) :=
  chkS [(r85, w86), (r72, w73)] r98 w99 (guardS x57 true h97 (fun k100 => ixS 3 x96 (.fv (.int .i64 1)) fun x101 => k100 x101 h97 [] []) fun x102 h103 _ _ => guardS x57 true h103 (fun k106 => loadA 3 x102 h103 fun x107 r108 => k106 x107 h103 r108 []) fun x109 h110 r111 w112 => chkS [(r85, w86), (r72, w73)] r111 w112 (guardS x57 true h110 (fun k113 => isoS [] false false ih 34 [x83, x109] h110 k113) fun x114 h115 r116 w117 => S34_120 r116 w117 x57 x114 h115))
noncomputable def S34_122 (h71 : Hp) (x57 : IV) (x70 : IV) (x7 : IV) (r72 : List Ref) (w73 : List Ref) (ih : Handler) : Option (IV × Hp) :=
  guardS x57 true h71 (fun k74 => ixS 3 x70 (.fv (.int .i64 1)) fun x75 => k74 x75 h71 [] []) fun x76 h77 _ _ => guardS x57 true h77 (fun k80 => loadA 3 x76 h77 fun x81 r82 => k80 x81 h77 r82 []) fun x83 h84 r85 w86 => chkS [] r85 w86 (guardS x57 true h84 (fun k87 => faddrS 2 x7 fun x88 => k87 x88 h84 [] []) fun x89 h90 _ _ => guardS x57 true h90 (fun k93 => load1 x89 h90 fun x94 r95 => k93 x94 h90 r95 []) fun x96 h97 r98 w99 => S34_121 r98 w99 r85 w86 r72 w73 h97 x57 x96 ih x83)
noncomputable def S34_123 (ih : Handler) (h34 : Hp) (x49 : IV) (x55 : IV) (x3 : IV) (x7 : IV) : Option (IV × Hp) :=
  isoS [] false false ih 34 [x49, x55] h34 fun x57 h58 r59 w60 => chkS [] r59 w60 (guardS x57 true h58 (fun k61 => faddrS 2 x3 fun x62 => k61 x62 h58 [] []) fun x63 h64 _ _ => guardS x57 true h64 (fun k67 => load1 x63 h64 fun x68 r69 => k67 x68 h64 r69 []) fun x70 h71 r72 w73 => chkS [] r72 w73 (S34_122 h71 x57 x70 x7 r72 w73 ih))
noncomputable def S34_124 (h34 : Hp) (x51 : IV) (r50 : List Ref) (r47 : List Ref) (ih : Handler) (x49 : IV) (x3 : IV) (x7 : IV) : Option (IV × Hp) :=
  load1 x51 h34 fun x52 r53 => chkS [(r50, []), (r47, [])] r53 [] (ixS 3 x52 (.fv (.int .i64 0)) fun x54 => loadA 3 x54 h34 fun x55 r56 => chkS [(r50, []), (r47, [])] r56 [] (S34_123 ih h34 x49 x55 x3 x7))
noncomputable def S34_125 (r47 : List Ref) (x46 : IV) (h34 : Hp) (x7 : IV) (ih : Handler) (x3 : IV) : Option (IV × Hp) :=
  chkS [] r47 [] (ixS 3 x46 (.fv (.int .i64 0)) fun x48 => loadA 3 x48 h34 fun x49 r50 => chkS [] r50 [] (faddrS 2 x7 fun x51 => S34_124 h34 x51 r50 r47 ih x49 x3 x7))
noncomputable def S34_126 (x37 : IV) (x3 : IV) (h34 : Hp) (x7 : IV) (ih : Handler) : Option (IV × Hp) :=
  condS x37 (faddrS 0 x3 fun x38 => load1 x38 h34 fun x39 _ => S34_119 x7 h34 x39) (faddrS 2 x3 fun x45 => load1 x45 h34 fun x46 r47 => S34_125 r47 x46 h34 x7 ih x3)
noncomputable def S34_127 (x12 : IV) (x15 : IV) (h8 : Hp) (x3 : IV) (x7 : IV) (ih : Handler) : Option (IV × Hp) :=
  neS EE 3 x12 x15 fun x17 => guardS x17 false h8 (fun k18 => faddrS 0 x3 fun x19 => k18 x19 h8 [] []) fun x20 h21 _ _ => guardS x17 false h21 (fun k24 => load1 x20 h21 fun x25 r26 => k24 x25 h21 r26 []) fun x27 h28 _ _ => guardS x17 false h28 (fun k31 => neS EE 3 x27 (.fv (.int .i64 17)) fun x32 => k31 x32 h28 [] []) fun x33 h34 _ _ => pickS x17 (.fv (.bool true)) x33 fun x37 => S34_126 x37 x3 h34 x7 ih
noncomputable def S34 (ih : Handler) (n : Nat) (x0 : IV) (x1 : IV) (h2 : Hp) : Option (IV × Hp) :=
  boxS 35651584 x0 h2 fun x3 h4 _ _ => boxS 35651585 x1 h4 fun x7 h8 _ _ => faddrS 0 x3 fun x11 => load1 x11 h8 fun x12 _ => faddrS 0 x7 fun x14 => load1 x14 h8 fun x15 _ => S34_127 x12 x15 h8 x3 x7 ih
theorem S34_ok (ih : Handler) (n : Nat) (x0 : IV) (x1 : IV) (h2 : Hp) : funS EE ih ft.get n 34 [x0, x1] h2 = S34 ih n x0 x1 h2 := by kernel_rfl
/-! thyrsus/thyrsuslaw11.few -/
noncomputable def S35_61 (x52 : IV) (h53 : Hp) (x39 : IV) (q34 : List IV → Hp → Option (IV × Hp)) (x37 : IV) (x38 : IV) : Option (IV × Hp) :=
  optS (unR .not x52) fun x56 => condS x56 (outS1 [.fv (.bool false)] h53) (addS EE 3 x39 (.fv (.int .i64 1)) fun x57 => q34 [x37, x38, x57] h53)
noncomputable def S35_62 (h36 : Hp) (x45 : IV) (x39 : IV) (x37 : IV) (ih : Handler) (q34 : List IV → Hp → Option (IV × Hp)) (x38 : IV) : Option (IV × Hp) :=
  load1 x45 h36 fun x46 _ => ixS 3 x46 x39 fun x48 => loadA 3 x48 h36 fun x49 _ => addS EE 3 x37 (.fv (.int .i64 1)) fun x51 => isoS [] false false ih 35 [x49, x51] h36 fun x52 h53 _ _ => S35_61 x52 h53 x39 q34 x37 x38
noncomputable def S35_63 (x41 : IV) (x39 : IV) (x38 : IV) (h36 : Hp) (x37 : IV) (ih : Handler) (q34 : List IV → Hp → Option (IV × Hp)) : Option (IV × Hp) :=
  lenS x41 fun x43 => ltS EE 3 x39 x43 fun x44 => condS x44 (faddrS 2 x38 fun x45 => S35_62 h36 x45 x39 x37 ih q34 x38) (outS1 [.fv (.bool true)] h36)
noncomputable def S35_64 (l35 : List IV) (h36 : Hp) (ih : Handler) (q34 : List IV → Hp → Option (IV × Hp)) : Option (IV × Hp) :=
  uncS l35 fun x37 l58 => uncS l58 fun x38 l59 => uncS l59 fun x39 _ => faddrS 2 x38 fun x40 => load1 x40 h36 fun x41 _ => S35_63 x41 x39 x38 h36 x37 ih q34
noncomputable def S35_65 (x7 : IV) (x29 : IV) (h30 : Hp) (n : Nat) (x1 : IV) (x3 : IV) (ih : Handler) : Option (IV × Hp) :=
  pickS x7 (.fv (.bool true)) x29 fun x33 => condS x33 (outS1 [.fv (.bool false)] h30) (loopS n (fun q34 l35 h36 => S35_64 l35 h36 ih q34) [x1, x3, .fv (.int .i64 0)] h30)
noncomputable def S35 (ih : Handler) (n : Nat) (x0 : IV) (x1 : IV) (h2 : Hp) : Option (IV × Hp) :=
  boxS 36700160 x0 h2 fun x3 h4 _ _ => gtS EE 3 x1 (.fv (.int .i64 8)) fun x7 => guardS x7 false h4 (fun k8 => faddrS 2 x3 fun x9 => k8 x9 h4 [] []) fun x10 h11 _ _ => guardS x7 false h11 (fun k14 => load1 x10 h11 fun x15 r16 => k14 x15 h11 r16 []) fun x17 h18 _ _ => guardS x7 false h18 (fun k21 => lenS x17 fun x22 => k21 x22 h18 [] []) fun x23 h24 _ _ => guardS x7 false h24 (fun k27 => gtS EE 3 x23 (.fv (.int .i64 4)) fun x28 => k27 x28 h24 [] []) fun x29 h30 _ _ => S35_65 x7 x29 h30 n x1 x3 ih
theorem S35_ok (ih : Handler) (n : Nat) (x0 : IV) (x1 : IV) (h2 : Hp) : funS EE ih ft.get n 35 [x0, x1] h2 = S35 ih n x0 x1 h2 := by kernel_rfl
/-! thyrsus/thyrsusref11.Fits -/
noncomputable def S36_263 (h29 : Hp) (x18 : IV) (x28 : IV) : Option (IV × Hp) :=
  guardS x18 true h29 (fun k32 => lenS x28 fun x33 => k32 x33 h29 [] []) fun x34 h35 _ _ => guardS x18 true h35 (fun k38 => eqS EE 3 x34 (.fv (.int .i64 0)) fun x39 => k38 x39 h35 [] []) fun x40 h41 _ _ => pickS x18 x40 (.fv (.bool false)) fun x44 => outS1 [x44] h41
noncomputable def S36_264 (x7 : IV) (h8 : Hp) (x3 : IV) : Option (IV × Hp) :=
  faddrS 0 x7 fun x15 => load1 x15 h8 fun x16 _ => eqS EE 3 x16 (.fv (.int .i64 15)) fun x18 => guardS x18 true h8 (fun k19 => faddrS 2 x3 fun x20 => k19 x20 h8 [] []) fun x21 h22 _ _ => guardS x18 true h22 (fun k25 => load1 x21 h22 fun x26 r27 => k25 x26 h22 r27 []) fun x28 h29 _ _ => S36_263 h29 x18 x28
noncomputable def S36_265 (h66 : Hp) (x69 : IV) (x3 : IV) : Option (IV × Hp) :=
  guardS x69 true h66 (fun k70 => faddrS 2 x3 fun x71 => k70 x71 h66 [] []) fun x72 h73 _ _ => guardS x69 true h73 (fun k76 => load1 x72 h73 fun x77 r78 => k76 x77 h73 r78 []) fun x79 h80 _ _ => guardS x69 true h80 (fun k83 => lenS x79 fun x84 => k83 x84 h80 [] []) fun x85 h86 _ _ => guardS x69 true h86 (fun k89 => eqS EE 3 x85 (.fv (.int .i64 0)) fun x90 => k89 x90 h86 [] []) fun x91 h92 _ _ => pickS x69 x91 (.fv (.bool false)) fun x95 => outS1 [x95] h92
noncomputable def S36_266 (x47 : IV) (h8 : Hp) (x3 : IV) : Option (IV × Hp) :=
  eqS EE 3 x47 (.fv (.int .i64 16)) fun x49 => guardS x49 true h8 (fun k50 => faddrS 1 x3 fun x51 => k50 x51 h8 [] []) fun x52 h53 _ _ => guardS x49 true h53 (fun k56 => load1 x52 h53 fun x57 r58 => k56 x57 h53 r58 []) fun x59 h60 _ _ => guardS x49 true h60 (fun k63 => eqS EE 3 x59 (.fv (.int .i64 0)) fun x64 => k63 x64 h60 [] []) fun x65 h66 _ _ => pickS x49 x65 (.fv (.bool false)) fun x69 => S36_265 h66 x69 x3
noncomputable def S36_267 (h247 : Hp) (x204 : IV) (x246 : IV) (r229 : List Ref) (w230 : List Ref) (r216 : List Ref) (w217 : List Ref) (ih : Handler) (x227 : IV) : Option (IV × Hp) :=
  guardS x204 true h247 (fun k250 => loadA 3 x246 h247 fun x251 r252 => k250 x251 h247 r252 []) fun x253 h254 r255 w256 => chkS [(r229, w230), (r216, w217)] r255 w256 (guardS x204 true h254 (fun k257 => isoS [] false false ih 36 [x227, x253] h254 k257) fun x258 h259 r260 w261 => chkS [] r260 w261 (pickS x204 x258 (.fv (.bool false)) fun x262 => outS1 [x262] h259))
noncomputable def S36_268 (r229 : List Ref) (w230 : List Ref) (h228 : Hp) (x204 : IV) (x7 : IV) (r216 : List Ref) (w217 : List Ref) (ih : Handler) (x227 : IV) : Option (IV × Hp) :=
  chkS [] r229 w230 (guardS x204 true h228 (fun k231 => faddrS 2 x7 fun x232 => k231 x232 h228 [] []) fun x233 h234 _ _ => guardS x204 true h234 (fun k237 => load1 x233 h234 fun x238 r239 => k237 x238 h234 r239 []) fun x240 h241 r242 w243 => chkS [(r229, w230), (r216, w217)] r242 w243 (guardS x204 true h241 (fun k244 => ixS 3 x240 (.fv (.int .i64 1)) fun x245 => k244 x245 h241 [] []) fun x246 h247 _ _ => S36_267 h247 x204 x246 r229 w230 r216 w217 ih x227))
noncomputable def S36_269 (h201 : Hp) (x204 : IV) (x3 : IV) (x7 : IV) (ih : Handler) : Option (IV × Hp) :=
  guardS x204 true h201 (fun k205 => faddrS 2 x3 fun x206 => k205 x206 h201 [] []) fun x207 h208 _ _ => guardS x204 true h208 (fun k211 => load1 x207 h208 fun x212 r213 => k211 x212 h208 r213 []) fun x214 h215 r216 w217 => chkS [] r216 w217 (guardS x204 true h215 (fun k218 => ixS 3 x214 (.fv (.int .i64 1)) fun x219 => k218 x219 h215 [] []) fun x220 h221 _ _ => guardS x204 true h221 (fun k224 => loadA 3 x220 h221 fun x225 r226 => k224 x225 h221 r226 []) fun x227 h228 r229 w230 => S36_268 r229 w230 h228 x204 x7 r216 w217 ih x227)
noncomputable def S36_270 (h189 : Hp) (x146 : IV) (x188 : IV) (r171 : List Ref) (w172 : List Ref) (r158 : List Ref) (w159 : List Ref) (ih : Handler) (x169 : IV) (x3 : IV) (x7 : IV) : Option (IV × Hp) :=
  guardS x146 true h189 (fun k192 => loadA 3 x188 h189 fun x193 r194 => k192 x193 h189 r194 []) fun x195 h196 r197 w198 => chkS [(r171, w172), (r158, w159)] r197 w198 (guardS x146 true h196 (fun k199 => isoS [] false false ih 36 [x169, x195] h196 k199) fun x200 h201 r202 w203 => chkS [] r202 w203 (pickS x146 x200 (.fv (.bool false)) fun x204 => S36_269 h201 x204 x3 x7 ih))
noncomputable def S36_271 (r171 : List Ref) (w172 : List Ref) (h170 : Hp) (x146 : IV) (x7 : IV) (r158 : List Ref) (w159 : List Ref) (ih : Handler) (x169 : IV) (x3 : IV) : Option (IV × Hp) :=
  chkS [] r171 w172 (guardS x146 true h170 (fun k173 => faddrS 2 x7 fun x174 => k173 x174 h170 [] []) fun x175 h176 _ _ => guardS x146 true h176 (fun k179 => load1 x175 h176 fun x180 r181 => k179 x180 h176 r181 []) fun x182 h183 r184 w185 => chkS [(r171, w172), (r158, w159)] r184 w185 (guardS x146 true h183 (fun k186 => ixS 3 x182 (.fv (.int .i64 0)) fun x187 => k186 x187 h183 [] []) fun x188 h189 _ _ => S36_270 h189 x146 x188 r171 w172 r158 w159 ih x169 x3 x7))
noncomputable def S36_272 (h143 : Hp) (x146 : IV) (x3 : IV) (x7 : IV) (ih : Handler) : Option (IV × Hp) :=
  guardS x146 true h143 (fun k147 => faddrS 2 x3 fun x148 => k147 x148 h143 [] []) fun x149 h150 _ _ => guardS x146 true h150 (fun k153 => load1 x149 h150 fun x154 r155 => k153 x154 h150 r155 []) fun x156 h157 r158 w159 => chkS [] r158 w159 (guardS x146 true h157 (fun k160 => ixS 3 x156 (.fv (.int .i64 0)) fun x161 => k160 x161 h157 [] []) fun x162 h163 _ _ => guardS x146 true h163 (fun k166 => loadA 3 x162 h163 fun x167 r168 => k166 x167 h163 r168 []) fun x169 h170 r171 w172 => S36_271 r171 w172 h170 x146 x7 r158 w159 ih x169 x3)
noncomputable def S36_273 (h124 : Hp) (x120 : IV) (x123 : IV) (x3 : IV) (x7 : IV) (ih : Handler) : Option (IV × Hp) :=
  guardS x120 true h124 (fun k127 => load1 x123 h124 fun x128 r129 => k127 x128 h124 r129 []) fun x130 h131 r132 w133 => chkS [] r132 w133 (guardS x120 true h131 (fun k134 => lenS x130 fun x135 => k134 x135 h131 [] []) fun x136 h137 _ _ => guardS x120 true h137 (fun k140 => eqS EE 3 x136 (.fv (.int .i64 2)) fun x141 => k140 x141 h137 [] []) fun x142 h143 _ _ => pickS x120 x142 (.fv (.bool false)) fun x146 => S36_272 h143 x146 x3 x7 ih)
noncomputable def S36_274 (h104 : Hp) (x100 : IV) (x103 : IV) (x3 : IV) (x7 : IV) (ih : Handler) : Option (IV × Hp) :=
  guardS x100 true h104 (fun k107 => load1 x103 h104 fun x108 r109 => k107 x108 h104 r109 []) fun x110 h111 r112 w113 => chkS [] r112 w113 (guardS x100 true h111 (fun k114 => eqS EE 3 x110 (.fv (.int .i64 0)) fun x115 => k114 x115 h111 [] []) fun x116 h117 _ _ => pickS x100 x116 (.fv (.bool false)) fun x120 => guardS x120 true h117 (fun k121 => faddrS 2 x3 fun x122 => k121 x122 h117 [] []) fun x123 h124 _ _ => S36_273 h124 x120 x123 x3 x7 ih)
noncomputable def S36_275 (x7 : IV) (h8 : Hp) (x3 : IV) (ih : Handler) : Option (IV × Hp) :=
  faddrS 0 x7 fun x97 => load1 x97 h8 fun x98 r99 => chkS [] r99 [] (eqS EE 3 x98 (.fv (.int .i64 17)) fun x100 => guardS x100 true h8 (fun k101 => faddrS 1 x3 fun x102 => k101 x102 h8 [] []) fun x103 h104 _ _ => S36_274 h104 x100 x103 x3 x7 ih)
noncomputable def S36_276 (x12 : IV) (x7 : IV) (h8 : Hp) (x3 : IV) (ih : Handler) : Option (IV × Hp) :=
  eqS EE 3 x12 (.fv (.int .i64 3)) fun x45 => condS x45 (faddrS 0 x7 fun x46 => load1 x46 h8 fun x47 _ => S36_266 x47 h8 x3) (eqS EE 3 x12 (.fv (.int .i64 2)) fun x96 => condS x96 (S36_275 x7 h8 x3 ih) (outS1 [.fv (.bool false)] h8))
noncomputable def S36 (ih : Handler) (n : Nat) (x0 : IV) (x1 : IV) (h2 : Hp) : Option (IV × Hp) :=
  boxS 37748736 x0 h2 fun x3 h4 _ _ => boxS 37748737 x1 h4 fun x7 h8 _ _ => faddrS 0 x3 fun x11 => load1 x11 h8 fun x12 _ => eqS EE 3 x12 (.fv (.int .i64 1)) fun x14 => condS x14 (S36_264 x7 h8 x3) (S36_276 x12 x7 h8 x3 ih)
theorem S36_ok (ih : Handler) (n : Nat) (x0 : IV) (x1 : IV) (h2 : Hp) : funS EE ih ft.get n 36 [x0, x1] h2 = S36 ih n x0 x1 h2 := by kernel_rfl
/-! thyrsus/obj.Quote -/
noncomputable def S37_129 (x2 : IV) (h7 : Hp) (x6 : IV) : Option (IV × Hp) :=
  faddrS 1 x2 fun x14 => load1 x14 h7 fun x15 _ => bldS [.fv (.int .i64 0), .fv (.int .i64 0), .nils] [(0, 1, .fv (.int .i64 25)), (1, 1, x15)] fun x17 => storeA 3 x6 x17 h7 fun h18 _ _ => cellS true 3 x6 h18 fun x21 => outS1 [x21, .fv (.bool true)] h18
noncomputable def S37_130 (h48 : Hp) (x6 : IV) (x52 : IV) : Option (IV × Hp) :=
  storeA 3 x6 x52 h48 fun h53 _ _ => cellS true 3 x6 h53 fun x56 => outS1 [x56, .fv (.bool false)] h53
noncomputable def S37_131 (h109 : Hp) (x6 : IV) : Option (IV × Hp) :=
  cellS true 3 x6 h109 fun x112 => outS1 [x112, .fv (.bool false)] h109
noncomputable def S37_132 (h104 : Hp) (x113 : IV) (x115 : IV) (ih : Handler) (x6 : IV) : Option (IV × Hp) :=
  genS (pcBuildSlice EE 28 2 [(0, x113), (1, x115)]) 38806530 h104 fun x117 h118 _ _ => isoS [] false false ih 64 [.fv (.int .i64 22), x117] h118 fun x121 h122 _ _ => storeA 3 x6 x121 h122 fun h125 _ _ => cellS true 3 x6 h125 fun x128 => outS1 [x128, .fv (.bool true)] h125
noncomputable def S37_133 (x95 : IV) (x103 : IV) (h104 : Hp) (x6 : IV) (x69 : IV) (x88 : IV) (ih : Handler) : Option (IV × Hp) :=
  pickS x95 (.fv (.bool true)) x103 fun x107 => condS x107 (bldS [.fv (.int .i64 0), .fv (.int .i64 0), .nils] [] fun x108 => storeA 3 x6 x108 h104 fun h109 _ _ => S37_131 h109 x6) (loadA 3 x69 h104 fun x113 _ => loadA 3 x88 h104 fun x115 _ => S37_132 h104 x113 x115 ih x6)
noncomputable def S37_134 (h83 : Hp) (x86 : IV) (x68 : IV) (x87 : IV) (x6 : IV) (x69 : IV) (ih : Handler) : Option (IV × Hp) :=
  newS 38803464 (.row [.fv (.int .i64 0), .fv (.int .i64 0), .nils] false) (.ptr (.own 38803464) 0) h83 fun x88 h89 _ _ => storeA 3 x88 x86 h89 fun h92 _ _ => optS (unR .not x68) fun x95 => guardS x95 false h92 (fun k96 => k96 x87 h92 [] []) fun x97 h98 _ _ => guardS x95 false h98 (fun k101 => optS (unR .not x97) fun x102 => k101 x102 h98 [] []) fun x103 h104 _ _ => S37_133 x95 x103 h104 x6 x69 x88 ih
noncomputable def S37_135 (x77 : IV) (h73 : Hp) (ih : Handler) (x68 : IV) (x6 : IV) (x69 : IV) : Option (IV × Hp) :=
  ixS 3 x77 (.fv (.int .i64 1)) fun x79 => loadA 3 x79 h73 fun x80 _ => isoS [] false false ih 37 [x80] h73 fun x82 h83 _ _ => extS 0 x82 fun x86 => extS 1 x82 fun x87 => S37_134 h83 x86 x68 x87 x6 x69 ih
noncomputable def S37_136 (x63 : IV) (h64 : Hp) (x67 : IV) (x2 : IV) (ih : Handler) (x6 : IV) : Option (IV × Hp) :=
  extS 1 x63 fun x68 => newS 38802440 (.row [.fv (.int .i64 0), .fv (.int .i64 0), .nils] false) (.ptr (.own 38802440) 0) h64 fun x69 h70 _ _ => storeA 3 x69 x67 h70 fun h73 _ _ => faddrS 2 x2 fun x76 => load1 x76 h73 fun x77 _ => S37_135 x77 h73 ih x68 x6 x69
noncomputable def S37_137 (h48 : Hp) (x57 : IV) (ih : Handler) (x2 : IV) (x6 : IV) : Option (IV × Hp) :=
  load1 x57 h48 fun x58 _ => ixS 3 x58 (.fv (.int .i64 0)) fun x60 => loadA 3 x60 h48 fun x61 _ => isoS [] false false ih 37 [x61] h48 fun x63 h64 _ _ => extS 0 x63 fun x67 => S37_136 x63 h64 x67 x2 ih x6
noncomputable def S37_138 (h36 : Hp) (x25 : IV) (x35 : IV) (x6 : IV) (x2 : IV) (ih : Handler) : Option (IV × Hp) :=
  guardS x25 false h36 (fun k39 => lenS x35 fun x40 => k39 x40 h36 [] []) fun x41 h42 _ _ => guardS x25 false h42 (fun k45 => neS EE 3 x41 (.fv (.int .i64 2)) fun x46 => k45 x46 h42 [] []) fun x47 h48 _ _ => pickS x25 (.fv (.bool true)) x47 fun x51 => condS x51 (bldS [.fv (.int .i64 0), .fv (.int .i64 0), .nils] [] fun x52 => S37_130 h48 x6 x52) (faddrS 2 x2 fun x57 => S37_137 h48 x57 ih x2 x6)
noncomputable def S37_139 (x2 : IV) (h7 : Hp) (x6 : IV) (ih : Handler) : Option (IV × Hp) :=
  faddrS 0 x2 fun x22 => load1 x22 h7 fun x23 _ => neS EE 3 x23 (.fv (.int .i64 2)) fun x25 => guardS x25 false h7 (fun k26 => faddrS 2 x2 fun x27 => k26 x27 h7 [] []) fun x28 h29 _ _ => guardS x25 false h29 (fun k32 => load1 x28 h29 fun x33 r34 => k32 x33 h29 r34 []) fun x35 h36 _ _ => S37_138 h36 x25 x35 x6 x2 ih
noncomputable def S37 (ih : Handler) (n : Nat) (x0 : IV) (h1 : Hp) : Option (IV × Hp) :=
  boxS 38797312 x0 h1 fun x2 h3 _ _ => newS 38797313 (.row [.fv (.int .i64 0), .fv (.int .i64 0), .nils] false) (.ptr (.own 38797313) 0) h3 fun x6 h7 _ _ => faddrS 0 x2 fun x10 => load1 x10 h7 fun x11 _ => eqS EE 3 x11 (.fv (.int .i64 1)) fun x13 => condS x13 (S37_129 x2 h7 x6) (S37_139 x2 h7 x6 ih)
theorem S37_ok (ih : Handler) (n : Nat) (x0 : IV) (h1 : Hp) : funS EE ih ft.get n 37 [x0] h1 = S37 ih n x0 h1 := by kernel_rfl
/-! thyrsus/thyrsusref11.Quote -/
noncomputable def S38_132 (x2 : IV) (h7 : Hp) (ih : Handler) (x6 : IV) : Option (IV × Hp) :=
  faddrS 1 x2 fun x14 => load1 x14 h7 fun x15 _ => isoS [] false false ih 31 [x15] h7 fun x17 h18 _ _ => storeA 3 x6 x17 h18 fun h21 _ _ => cellS true 3 x6 h21 fun x24 => outS1 [x24, .fv (.bool true)] h21
noncomputable def S38_133 (h51 : Hp) (x6 : IV) (x55 : IV) : Option (IV × Hp) :=
  storeA 3 x6 x55 h51 fun h56 _ _ => cellS true 3 x6 h56 fun x59 => outS1 [x59, .fv (.bool false)] h56
noncomputable def S38_134 (h112 : Hp) (x6 : IV) : Option (IV × Hp) :=
  cellS true 3 x6 h112 fun x115 => outS1 [x115, .fv (.bool false)] h112
noncomputable def S38_135 (h107 : Hp) (x116 : IV) (x118 : IV) (ih : Handler) (x6 : IV) : Option (IV × Hp) :=
  genS (pcBuildSlice EE 28 2 [(0, x116), (1, x118)]) 39855106 h107 fun x120 h121 _ _ => isoS [] false false ih 30 [.fv (.int .i64 22), x120] h121 fun x124 h125 _ _ => storeA 3 x6 x124 h125 fun h128 _ _ => cellS true 3 x6 h128 fun x131 => outS1 [x131, .fv (.bool true)] h128
noncomputable def S38_136 (x98 : IV) (x106 : IV) (h107 : Hp) (x6 : IV) (x72 : IV) (x91 : IV) (ih : Handler) : Option (IV × Hp) :=
  pickS x98 (.fv (.bool true)) x106 fun x110 => condS x110 (bldS [.fv (.int .i64 0), .fv (.int .i64 0), .nils] [] fun x111 => storeA 3 x6 x111 h107 fun h112 _ _ => S38_134 h112 x6) (loadA 3 x72 h107 fun x116 _ => loadA 3 x91 h107 fun x118 _ => S38_135 h107 x116 x118 ih x6)
noncomputable def S38_137 (h86 : Hp) (x89 : IV) (x71 : IV) (x90 : IV) (x6 : IV) (x72 : IV) (ih : Handler) : Option (IV × Hp) :=
  newS 39852040 (.row [.fv (.int .i64 0), .fv (.int .i64 0), .nils] false) (.ptr (.own 39852040) 0) h86 fun x91 h92 _ _ => storeA 3 x91 x89 h92 fun h95 _ _ => optS (unR .not x71) fun x98 => guardS x98 false h95 (fun k99 => k99 x90 h95 [] []) fun x100 h101 _ _ => guardS x98 false h101 (fun k104 => optS (unR .not x100) fun x105 => k104 x105 h101 [] []) fun x106 h107 _ _ => S38_136 x98 x106 h107 x6 x72 x91 ih
noncomputable def S38_138 (x80 : IV) (h76 : Hp) (ih : Handler) (x71 : IV) (x6 : IV) (x72 : IV) : Option (IV × Hp) :=
  ixS 3 x80 (.fv (.int .i64 1)) fun x82 => loadA 3 x82 h76 fun x83 _ => isoS [] false false ih 38 [x83] h76 fun x85 h86 _ _ => extS 0 x85 fun x89 => extS 1 x85 fun x90 => S38_137 h86 x89 x71 x90 x6 x72 ih
noncomputable def S38_139 (x66 : IV) (h67 : Hp) (x70 : IV) (x2 : IV) (ih : Handler) (x6 : IV) : Option (IV × Hp) :=
  extS 1 x66 fun x71 => newS 39851016 (.row [.fv (.int .i64 0), .fv (.int .i64 0), .nils] false) (.ptr (.own 39851016) 0) h67 fun x72 h73 _ _ => storeA 3 x72 x70 h73 fun h76 _ _ => faddrS 2 x2 fun x79 => load1 x79 h76 fun x80 _ => S38_138 x80 h76 ih x71 x6 x72
noncomputable def S38_140 (h51 : Hp) (x60 : IV) (ih : Handler) (x2 : IV) (x6 : IV) : Option (IV × Hp) :=
  load1 x60 h51 fun x61 _ => ixS 3 x61 (.fv (.int .i64 0)) fun x63 => loadA 3 x63 h51 fun x64 _ => isoS [] false false ih 38 [x64] h51 fun x66 h67 _ _ => extS 0 x66 fun x70 => S38_139 x66 h67 x70 x2 ih x6
noncomputable def S38_141 (h39 : Hp) (x28 : IV) (x38 : IV) (x6 : IV) (x2 : IV) (ih : Handler) : Option (IV × Hp) :=
  guardS x28 false h39 (fun k42 => lenS x38 fun x43 => k42 x43 h39 [] []) fun x44 h45 _ _ => guardS x28 false h45 (fun k48 => neS EE 3 x44 (.fv (.int .i64 2)) fun x49 => k48 x49 h45 [] []) fun x50 h51 _ _ => pickS x28 (.fv (.bool true)) x50 fun x54 => condS x54 (bldS [.fv (.int .i64 0), .fv (.int .i64 0), .nils] [] fun x55 => S38_133 h51 x6 x55) (faddrS 2 x2 fun x60 => S38_140 h51 x60 ih x2 x6)
noncomputable def S38_142 (x2 : IV) (h7 : Hp) (x6 : IV) (ih : Handler) : Option (IV × Hp) :=
  faddrS 0 x2 fun x25 => load1 x25 h7 fun x26 _ => neS EE 3 x26 (.fv (.int .i64 2)) fun x28 => guardS x28 false h7 (fun k29 => faddrS 2 x2 fun x30 => k29 x30 h7 [] []) fun x31 h32 _ _ => guardS x28 false h32 (fun k35 => load1 x31 h32 fun x36 r37 => k35 x36 h32 r37 []) fun x38 h39 _ _ => S38_141 h39 x28 x38 x6 x2 ih
noncomputable def S38 (ih : Handler) (n : Nat) (x0 : IV) (h1 : Hp) : Option (IV × Hp) :=
  boxS 39845888 x0 h1 fun x2 h3 _ _ => newS 39845889 (.row [.fv (.int .i64 0), .fv (.int .i64 0), .nils] false) (.ptr (.own 39845889) 0) h3 fun x6 h7 _ _ => faddrS 0 x2 fun x10 => load1 x10 h7 fun x11 _ => eqS EE 3 x11 (.fv (.int .i64 1)) fun x13 => condS x13 (S38_132 x2 h7 ih x6) (S38_142 x2 h7 x6 ih)
theorem S38_ok (ih : Handler) (n : Nat) (x0 : IV) (h1 : Hp) : funS EE ih ft.get n 38 [x0] h1 = S38 ih n x0 h1 := by kernel_rfl
/-! thyrsus/thyrsuslaw11.told -/
noncomputable def S39_33 (ih : Handler) (h19 : Hp) (x27 : IV) : Option (IV × Hp) :=
  isoS [] false false ih 66 [x27] h19 fun x29 h30 _ _ => outS1 [x29] h30
noncomputable def S39_34 (h16 : Hp) (x15 : IV) (x13 : IV) (x14 : IV) (ih : Handler) : Option (IV × Hp) :=
  storeA 3 x15 x13 h16 fun h19 _ _ => neS EE 35 x14 (.fv (.int .i64 0)) fun x22 => condS x22 (isoS [] false false ih 65 [x14] h19 fun x23 h24 _ _ => outS1 [x23] h24) (loadA 3 x15 h19 fun x27 _ => S39_33 ih h19 x27)
noncomputable def S39 (ih : Handler) (n : Nat) (x0 : IV) (x1 : IV) (h2 : Hp) : Option (IV × Hp) :=
  boxS 40894464 x1 h2 fun x3 h4 _ _ => loadA 3 x3 h4 fun x7 _ => isoS [] false false ih 17 [x0, x7] h4 fun x9 h10 _ _ => extS 0 x9 fun x13 => extS 1 x9 fun x14 => newS 40895494 (.row [.fv (.int .i64 0), .fv (.int .i64 0), .nils] false) (.ptr (.own 40895494) 0) h10 fun x15 h16 _ _ => S39_34 h16 x15 x13 x14 ih
theorem S39_ok (ih : Handler) (n : Nat) (x0 : IV) (x1 : IV) (h2 : Hp) : funS EE ih ft.get n 39 [x0, x1] h2 = S39 ih n x0 x1 h2 := by kernel_rfl
/-! thyrsus/thyrsuslaw1.Count -/
noncomputable def S40_53 (x12 : IV) (x43 : IV) (x13 : IV) (q7 : List IV → Hp → Option (IV × Hp)) (h44 : Hp) (x10 : IV) (x11 : IV) : Option (IV × Hp) :=
  addS EE 3 x12 x43 fun x47 => addS EE 3 x13 (.fv (.int .i64 1)) fun x48 => q7 [x10, x11, x47, x48] h44
noncomputable def S40_54 (h32 : Hp) (x36 : IV) (x13 : IV) (x10 : IV) (x12 : IV) (ih : Handler) (q7 : List IV → Hp → Option (IV × Hp)) (x11 : IV) : Option (IV × Hp) :=
  load1 x36 h32 fun x37 _ => ixS 3 x37 x13 fun x39 => loadA 3 x39 h32 fun x40 _ => subS EE 3 x10 x12 fun x42 => isoS [] false false ih 40 [x40, x42] h32 fun x43 h44 _ _ => S40_53 x12 x43 x13 q7 h44 x10 x11
noncomputable def S40_55 (h26 : Hp) (x18 : IV) (x20 : IV) (x25 : IV) (x11 : IV) (x13 : IV) (x10 : IV) (x12 : IV) (ih : Handler) (q7 : List IV → Hp → Option (IV × Hp)) : Option (IV × Hp) :=
  guardS x18 true h26 (fun k29 => ltS EE 3 x20 x25 fun x30 => k29 x30 h26 [] []) fun x31 h32 _ _ => pickS x18 x31 (.fv (.bool false)) fun x35 => condS x35 (faddrS 2 x11 fun x36 => S40_54 h32 x36 x13 x10 x12 ih q7 x11) (outS1 [x12] h32)
noncomputable def S40_56 (h9 : Hp) (x14 : IV) (x13 : IV) (x12 : IV) (x10 : IV) (x11 : IV) (ih : Handler) (q7 : List IV → Hp → Option (IV × Hp)) : Option (IV × Hp) :=
  load1 x14 h9 fun x15 _ => lenS x15 fun x17 => ltS EE 3 x13 x17 fun x18 => guardS x18 true h9 (fun k19 => k19 x12 h9 [] []) fun x20 h21 _ _ => guardS x18 true h21 (fun k24 => k24 x10 h21 [] []) fun x25 h26 _ _ => S40_55 h26 x18 x20 x25 x11 x13 x10 x12 ih q7
noncomputable def S40_57 (l8 : List IV) (h9 : Hp) (ih : Handler) (q7 : List IV → Hp → Option (IV × Hp)) : Option (IV × Hp) :=
  uncS l8 fun x10 l49 => uncS l49 fun x11 l50 => uncS l50 fun x12 l51 => uncS l51 fun x13 _ => faddrS 2 x11 fun x14 => S40_56 h9 x14 x13 x12 x10 x11 ih q7
noncomputable def S40 (ih : Handler) (n : Nat) (x0 : IV) (x1 : IV) (h2 : Hp) : Option (IV × Hp) :=
  boxS 41943040 x0 h2 fun x3 h4 _ _ => loopS n (fun q7 l8 h9 => S40_57 l8 h9 ih q7) [x1, x3, .fv (.int .i64 1), .fv (.int .i64 0)] h4
theorem S40_ok (ih : Handler) (n : Nat) (x0 : IV) (x1 : IV) (h2 : Hp) : funS EE ih ft.get n 40 [x0, x1] h2 = S40 ih n x0 x1 h2 := by kernel_rfl
/-! thyrsus/thyrsuslaw4.within -/
noncomputable def S41 (ih : Handler) (n : Nat) (x0 : IV) (x1 : IV) (h2 : Hp) : Option (IV × Hp) :=
  binS EE 3 .rem x0 x1 fun x3 => (fun (j1_4 : IV → Hp → Option (IV × Hp)) => ltS EE 3 x3 (.fv (.int .i64 0)) fun x7 => condS x7 (addS EE 3 x3 x1 fun x8 => j1_4 x8 h2) (j1_4 x3 h2)) fun x5 h6 => outS1 [x5] h6
theorem S41_ok (ih : Handler) (n : Nat) (x0 : IV) (x1 : IV) (h2 : Hp) : funS EE ih ft.get n 41 [x0, x1] h2 = S41 ih n x0 x1 h2 := by kernel_rfl
/-! thyrsus/thyrsuslaw4.pick -/
noncomputable def S42_42 (x17 : IV) (x1 : IV) (h8 : Hp) (x7 : IV) : Option (IV × Hp) :=
  ixS 3 x17 x1 fun x19 => loadA 3 x19 h8 fun x20 _ => storeA 3 x7 x20 h8 fun h22 _ _ => cellS true 3 x7 h22 fun x25 => outS1 [x25] h22
noncomputable def S42_43 (x1 : IV) (x34 : IV) (x30 : IV) (h8 : Hp) (x7 : IV) : Option (IV × Hp) :=
  binS EE 3 .mul (.fv (.int .i64 7)) x1 fun x35 => addS EE 3 x34 x35 fun x36 => bldS [.fv (.int .i64 0), .fv (.int .i64 0), .nils] [(0, 1, x30), (1, 1, x36)] fun x37 => storeA 3 x7 x37 h8 fun h38 _ _ => cellS true 3 x7 h38 fun x41 => outS1 [x41] h38
noncomputable def S42_44 (x27 : IV) (x1 : IV) (x3 : IV) (h8 : Hp) (x7 : IV) : Option (IV × Hp) :=
  binS EE 3 .quo x27 (.fv (.int .i64 3)) fun x29 => addS EE 3 x29 x1 fun x30 => faddrS 1 x3 fun x31 => load1 x31 h8 fun x32 _ => binS EE 3 .quo x32 (.fv (.int .i64 5)) fun x34 => S42_43 x1 x34 x30 h8 x7
noncomputable def S42_45 (x15 : IV) (x3 : IV) (h8 : Hp) (x1 : IV) (x7 : IV) : Option (IV × Hp) :=
  condS x15 (faddrS 2 x3 fun x16 => load1 x16 h8 fun x17 _ => S42_42 x17 x1 h8 x7) (faddrS 0 x3 fun x26 => load1 x26 h8 fun x27 _ => S42_44 x27 x1 x3 h8 x7)
noncomputable def S42 (ih : Handler) (n : Nat) (x0 : IV) (x1 : IV) (h2 : Hp) : Option (IV × Hp) :=
  boxS 44040192 x0 h2 fun x3 h4 _ _ => newS 44040193 (.row [.fv (.int .i64 0), .fv (.int .i64 0), .nils] false) (.ptr (.own 44040193) 0) h4 fun x7 h8 _ _ => faddrS 2 x3 fun x11 => load1 x11 h8 fun x12 _ => lenS x12 fun x14 => ltS EE 3 x1 x14 fun x15 => S42_45 x15 x3 h8 x1 x7
theorem S42_ok (ih : Handler) (n : Nat) (x0 : IV) (x1 : IV) (h2 : Hp) : funS EE ih ft.get n 42 [x0, x1] h2 = S42 ih n x0 x1 h2 := by kernel_rfl
/-! thyrsus/thyrsuslaw5.Case -/
noncomputable def S43_177 (r85 : List Ref) (w86 : List Ref) (h84 : Hp) (x13 : IV) (x17 : IV) (x21 : IV) : Option (IV × Hp) :=
  chkS [] r85 w86 (cellS true 3 x13 h84 fun x87 => cellS true 3 x17 h84 fun x88 => outS1 [x21, x87, x88, .fv (.bool false)] h84)
noncomputable def S43_178 (ih : Handler) (h71 : Hp) (r76 : List Ref) (x13 : IV) (x75 : IV) (x17 : IV) (x21 : IV) : Option (IV × Hp) :=
  isoS [] false false ih 31 [.fv (.int .i64 0)] h71 fun x77 h78 r79 w80 => chkS [(r76, [])] r79 w80 (storeA 3 x13 x75 h78 fun h81 r82 w83 => chkS [] r82 w83 (storeA 3 x17 x77 h81 fun h84 r85 w86 => S43_177 r85 w86 h84 x13 x17 x21))
noncomputable def S43_179 (r97 : List Ref) (w98 : List Ref) (h96 : Hp) (x13 : IV) (x17 : IV) (x21 : IV) : Option (IV × Hp) :=
  chkS [] r97 w98 (cellS true 3 x13 h96 fun x99 => cellS true 3 x17 h96 fun x100 => outS1 [x21, x99, x100, .fv (.bool true)] h96)
noncomputable def S43_180 (h71 : Hp) (x48 : IV) (r90 : List Ref) (x13 : IV) (x89 : IV) (x17 : IV) (x21 : IV) : Option (IV × Hp) :=
  loadA 3 x48 h71 fun x91 r92 => chkS [(r90, [])] r92 [] (storeA 3 x13 x89 h71 fun h93 r94 w95 => chkS [(r92, [])] r94 w95 (storeA 3 x17 x91 h93 fun h96 r97 w98 => S43_179 r97 w98 h96 x13 x17 x21))
noncomputable def S43_181 (x55 : IV) (x70 : IV) (h71 : Hp) (x31 : IV) (ih : Handler) (x13 : IV) (x17 : IV) (x21 : IV) (x48 : IV) : Option (IV × Hp) :=
  pickS x55 (.fv (.bool true)) x70 fun x74 => condS x74 (loadA 3 x31 h71 fun x75 r76 => chkS [] r76 [] (S43_178 ih h71 r76 x13 x75 x17 x21)) (loadA 3 x31 h71 fun x89 r90 => chkS [] r90 [] (S43_180 h71 x48 r90 x13 x89 x17 x21))
noncomputable def S43_182 (h49 : Hp) (x48 : IV) (x46 : IV) (x47 : IV) (ih : Handler) (x31 : IV) (x13 : IV) (x17 : IV) (x21 : IV) : Option (IV × Hp) :=
  storeA 3 x48 x46 h49 fun h52 _ _ => optS (unR .not x47) fun x55 => guardS x55 false h52 (fun k56 => loadA 3 x48 h52 fun x57 r58 => k56 x57 h52 r58 []) fun x59 h60 _ _ => guardS x55 false h60 (fun k63 => isoS [] false false ih 25 [x59] h60 k63) fun x64 h65 _ _ => guardS x55 false h65 (fun k68 => neS EE 3 x64 (.fv (.int .i64 0)) fun x69 => k68 x69 h65 [] []) fun x70 h71 _ _ => S43_181 x55 x70 h71 x31 ih x13 x17 x21 x48
noncomputable def S43_183 (h35 : Hp) (x5 : IV) (ih : Handler) (x21 : IV) (x38 : IV) (x31 : IV) (x13 : IV) (x17 : IV) : Option (IV × Hp) :=
  loadA 3 x5 h35 fun x40 _ => isoS [] false false ih 68 [x21, x38, x40, .fv (.int .i64 5)] h35 fun x42 h43 _ _ => extS 0 x42 fun x46 => extS 1 x42 fun x47 => newS 45092871 (.row [.fv (.int .i64 0), .fv (.int .i64 0), .nils] false) (.ptr (.own 45092871) 0) h43 fun x48 h49 _ _ => S43_182 h49 x48 x46 x47 ih x31 x13 x17 x21
noncomputable def S43_184 (h22 : Hp) (x9 : IV) (ih : Handler) (x5 : IV) (x21 : IV) (x13 : IV) (x17 : IV) : Option (IV × Hp) :=
  loadA 3 x9 h22 fun x25 _ => isoS [] false false ih 14 [x25, .fv (.int .i64 2)] h22 fun x27 h28 _ _ => newS 45091842 (.row [.fv (.int .i64 0), .fv (.int .i64 0), .nils] false) (.ptr (.own 45091842) 0) h28 fun x31 h32 _ _ => storeA 3 x31 x27 h32 fun h35 _ _ => loadA 3 x31 h35 fun x38 _ => S43_183 h35 x5 ih x21 x38 x31 x13 x17
noncomputable def S43_185 (r161 : List Ref) (w162 : List Ref) (h160 : Hp) (x13 : IV) (x17 : IV) (x21 : IV) : Option (IV × Hp) :=
  chkS [] r161 w162 (cellS true 3 x13 h160 fun x163 => cellS true 3 x17 h160 fun x164 => outS1 [x21, x163, x164, .fv (.bool false)] h160)
noncomputable def S43_186 (ih : Handler) (h147 : Hp) (r152 : List Ref) (x13 : IV) (x151 : IV) (x17 : IV) (x21 : IV) : Option (IV × Hp) :=
  isoS [] false false ih 30 [.fv (.int .i64 11), .nils] h147 fun x153 h154 r155 w156 => chkS [(r152, [])] r155 w156 (storeA 3 x13 x151 h154 fun h157 r158 w159 => chkS [] r158 w159 (storeA 3 x17 x153 h157 fun h160 r161 w162 => S43_185 r161 w162 h160 x13 x17 x21))
noncomputable def S43_187 (r173 : List Ref) (w174 : List Ref) (h172 : Hp) (x13 : IV) (x17 : IV) (x21 : IV) : Option (IV × Hp) :=
  chkS [] r173 w174 (cellS true 3 x13 h172 fun x175 => cellS true 3 x17 h172 fun x176 => outS1 [x21, x175, x176, .fv (.bool true)] h172)
noncomputable def S43_188 (h147 : Hp) (x124 : IV) (r166 : List Ref) (x13 : IV) (x165 : IV) (x17 : IV) (x21 : IV) : Option (IV × Hp) :=
  loadA 3 x124 h147 fun x167 r168 => chkS [(r166, [])] r168 [] (storeA 3 x13 x165 h147 fun h169 r170 w171 => chkS [(r168, [])] r170 w171 (storeA 3 x17 x167 h169 fun h172 r173 w174 => S43_187 r173 w174 h172 x13 x17 x21))
noncomputable def S43_189 (x131 : IV) (x146 : IV) (h147 : Hp) (x107 : IV) (ih : Handler) (x13 : IV) (x17 : IV) (x21 : IV) (x124 : IV) : Option (IV × Hp) :=
  pickS x131 (.fv (.bool true)) x146 fun x150 => condS x150 (loadA 3 x107 h147 fun x151 r152 => chkS [] r152 [] (S43_186 ih h147 r152 x13 x151 x17 x21)) (loadA 3 x107 h147 fun x165 r166 => chkS [] r166 [] (S43_188 h147 x124 r166 x13 x165 x17 x21))
noncomputable def S43_190 (h125 : Hp) (x124 : IV) (x122 : IV) (x123 : IV) (ih : Handler) (x107 : IV) (x13 : IV) (x17 : IV) (x21 : IV) : Option (IV × Hp) :=
  storeA 3 x124 x122 h125 fun h128 _ _ => optS (unR .not x123) fun x131 => guardS x131 false h128 (fun k132 => loadA 3 x124 h128 fun x133 r134 => k132 x133 h128 r134 []) fun x135 h136 _ _ => guardS x131 false h136 (fun k139 => isoS [] false false ih 25 [x135] h136 k139) fun x140 h141 _ _ => guardS x131 false h141 (fun k144 => neS EE 3 x140 (.fv (.int .i64 0)) fun x145 => k144 x145 h141 [] []) fun x146 h147 _ _ => S43_189 x131 x146 h147 x107 ih x13 x17 x21 x124
noncomputable def S43_191 (h111 : Hp) (x5 : IV) (ih : Handler) (x21 : IV) (x114 : IV) (x107 : IV) (x13 : IV) (x17 : IV) : Option (IV × Hp) :=
  loadA 3 x5 h111 fun x116 _ => isoS [] false false ih 70 [x21, x114, x116, .fv (.int .i64 5)] h111 fun x118 h119 _ _ => extS 0 x118 fun x122 => extS 1 x118 fun x123 => newS 45097991 (.row [.fv (.int .i64 0), .fv (.int .i64 0), .nils] false) (.ptr (.own 45097991) 0) h119 fun x124 h125 _ _ => S43_190 h125 x124 x122 x123 ih x107 x13 x17 x21
noncomputable def S43_192 (h22 : Hp) (x9 : IV) (ih : Handler) (x21 : IV) (x5 : IV) (x13 : IV) (x17 : IV) : Option (IV × Hp) :=
  loadA 3 x9 h22 fun x101 _ => isoS [] false false ih 69 [x21, x101, .fv (.int .i64 2)] h22 fun x103 h104 _ _ => newS 45096963 (.row [.fv (.int .i64 0), .fv (.int .i64 0), .nils] false) (.ptr (.own 45096963) 0) h104 fun x107 h108 _ _ => storeA 3 x107 x103 h108 fun h111 _ _ => loadA 3 x107 h111 fun x114 _ => S43_191 h111 x5 ih x21 x114 x107 x13 x17
noncomputable def S43 (ih : Handler) (n : Nat) (x0 : IV) (x1 : IV) (x2 : IV) (x3 : IV) (h4 : Hp) : Option (IV × Hp) :=
  boxS 45088768 x1 h4 fun x5 h6 _ _ => boxS 45088769 x2 h6 fun x9 h10 _ _ => newS 45088771 (.row [.fv (.int .i64 0), .fv (.int .i64 0), .nils] false) (.ptr (.own 45088771) 0) h10 fun x13 h14 _ _ => newS 45088772 (.row [.fv (.int .i64 0), .fv (.int .i64 0), .nils] false) (.ptr (.own 45088772) 0) h14 fun x17 h18 _ _ => isoS [] false false ih 67 [x0] h18 fun x21 h22 _ _ => condS x3 (S43_184 h22 x9 ih x5 x21 x13 x17) (S43_192 h22 x9 ih x21 x5 x13 x17)
theorem S43_ok (ih : Handler) (n : Nat) (x0 : IV) (x1 : IV) (x2 : IV) (x3 : IV) (h4 : Hp) : funS EE ih ft.get n 43 [x0, x1, x2, x3] h4 = S43 ih n x0 x1 x2 x3 h4 := by kernel_rfl
/-! thyrsus/thyrsusref10.Stage -/
noncomputable def S44_37 (h22 : Hp) (x6 : IV) (x26 : IV) (x17 : IV) : Option (IV × Hp) :=
  storeA 3 x6 x26 h22 fun h27 _ _ => cellS true 3 x6 h27 fun x30 => outS1 [x30, x17] h27
noncomputable def S44_38 (h22 : Hp) (x6 : IV) (x31 : IV) : Option (IV × Hp) :=
  storeA 3 x6 x31 h22 fun h33 _ _ => cellS true 3 x6 h33 fun x36 => outS1 [x36, .fv (.int .i64 0)] h33
noncomputable def S44_39 (h13 : Hp) (x16 : IV) (x17 : IV) (x6 : IV) : Option (IV × Hp) :=
  newS 46138373 (.row [.fv (.int .i64 0), .fv (.int .i64 0), .nils] false) (.ptr (.own 46138373) 0) h13 fun x18 h19 _ _ => storeA 3 x18 x16 h19 fun h22 _ _ => neS EE 3 x17 (.fv (.int .i64 0)) fun x25 => condS x25 (bldS [.fv (.int .i64 0), .fv (.int .i64 0), .nils] [] fun x26 => S44_37 h22 x6 x26 x17) (loadA 3 x18 h22 fun x31 _ => S44_38 h22 x6 x31)
noncomputable def S44 (ih : Handler) (n : Nat) (x0 : IV) (h1 : Hp) : Option (IV × Hp) :=
  boxS 46137344 x0 h1 fun x2 h3 _ _ => newS 46137345 (.row [.fv (.int .i64 0), .fv (.int .i64 0), .nils] false) (.ptr (.own 46137345) 0) h3 fun x6 h7 _ _ => loadA 3 x2 h7 fun x10 _ => isoS [] false false ih 58 [x10] h7 fun x12 h13 _ _ => extS 0 x12 fun x16 => extS 1 x12 fun x17 => S44_39 h13 x16 x17 x6
theorem S44_ok (ih : Handler) (n : Nat) (x0 : IV) (h1 : Hp) : funS EE ih ft.get n 44 [x0] h1 = S44 ih n x0 h1 := by kernel_rfl
/-! thyrsus/thyrsuslaw1.within -/
noncomputable def S45 (ih : Handler) (n : Nat) (x0 : IV) (x1 : IV) (h2 : Hp) : Option (IV × Hp) :=
  binS EE 3 .rem x0 x1 fun x3 => (fun (j1_4 : IV → Hp → Option (IV × Hp)) => ltS EE 3 x3 (.fv (.int .i64 0)) fun x7 => condS x7 (addS EE 3 x3 x1 fun x8 => j1_4 x8 h2) (j1_4 x3 h2)) fun x5 h6 => outS1 [x5] h6
theorem S45_ok (ih : Handler) (n : Nat) (x0 : IV) (x1 : IV) (h2 : Hp) : funS EE ih ft.get n 45 [x0, x1] h2 = S45 ih n x0 x1 h2 := by kernel_rfl
/-! thyrsus/thyrsusref4.Arity -/
noncomputable def S46_44 (x12 : IV) (h13 : Hp) (x0 : IV) : Option (IV × Hp) :=
  condS x12 (outS1 [.fv (.int .i64 3)] h13) (eqS EE 3 x0 (.fv (.int .i64 13)) fun x14 => condS x14 (outS1 [.fv (.int .i64 4)] h13) (outS1 [.fv (.int .i64 (-1))] h13))
noncomputable def S46_45 (x15 : IV) (j1_11 : IV → Hp → Option (IV × Hp)) (h10 : Hp) (x0 : IV) : Option (IV × Hp) :=
  condS x15 (j1_11 x15 h10) (eqS EE 3 x0 (.fv (.int .i64 27)) fun x16 => j1_11 x16 h10)
noncomputable def S46_46 (x9 : IV) (h10 : Hp) (x0 : IV) : Option (IV × Hp) :=
  condS x9 (outS1 [.fv (.int .i64 2)] h10) ((fun (j1_11 : IV → Hp → Option (IV × Hp)) => eqS EE 3 x0 (.fv (.int .i64 7)) fun x15 => S46_45 x15 j1_11 h10 x0) fun x12 h13 => S46_44 x12 h13 x0)
noncomputable def S46_47 (x0 : IV) (j1_8 : IV → Hp → Option (IV × Hp)) (h7 : Hp) : Option (IV × Hp) :=
  eqS EE 3 x0 (.fv (.int .i64 28)) fun x27 => condS x27 (j1_8 x27 h7) (eqS EE 3 x0 (.fv (.int .i64 29)) fun x28 => j1_8 x28 h7)
noncomputable def S46_48 (x0 : IV) (j1_8 : IV → Hp → Option (IV × Hp)) (h7 : Hp) : Option (IV × Hp) :=
  eqS EE 3 x0 (.fv (.int .i64 22)) fun x25 => condS x25 (j1_8 x25 h7) (eqS EE 3 x0 (.fv (.int .i64 26)) fun x26 => condS x26 (j1_8 x26 h7) (S46_47 x0 j1_8 h7))
noncomputable def S46_49 (x0 : IV) (j1_8 : IV → Hp → Option (IV × Hp)) (h7 : Hp) : Option (IV × Hp) :=
  eqS EE 3 x0 (.fv (.int .i64 20)) fun x23 => condS x23 (j1_8 x23 h7) (eqS EE 3 x0 (.fv (.int .i64 21)) fun x24 => condS x24 (j1_8 x24 h7) (S46_48 x0 j1_8 h7))
noncomputable def S46_50 (x0 : IV) (j1_8 : IV → Hp → Option (IV × Hp)) (h7 : Hp) : Option (IV × Hp) :=
  eqS EE 3 x0 (.fv (.int .i64 16)) fun x21 => condS x21 (j1_8 x21 h7) (eqS EE 3 x0 (.fv (.int .i64 17)) fun x22 => condS x22 (j1_8 x22 h7) (S46_49 x0 j1_8 h7))
noncomputable def S46_51 (x0 : IV) (j1_8 : IV → Hp → Option (IV × Hp)) (h7 : Hp) : Option (IV × Hp) :=
  eqS EE 3 x0 (.fv (.int .i64 5)) fun x19 => condS x19 (j1_8 x19 h7) (eqS EE 3 x0 (.fv (.int .i64 6)) fun x20 => condS x20 (j1_8 x20 h7) (S46_50 x0 j1_8 h7))
noncomputable def S46_52 (x17 : IV) (j1_8 : IV → Hp → Option (IV × Hp)) (h7 : Hp) (x0 : IV) : Option (IV × Hp) :=
  condS x17 (j1_8 x17 h7) (eqS EE 3 x0 (.fv (.int .i64 4)) fun x18 => condS x18 (j1_8 x18 h7) (S46_51 x0 j1_8 h7))
noncomputable def S46_53 (x6 : IV) (h7 : Hp) (x0 : IV) : Option (IV × Hp) :=
  condS x6 (outS1 [.fv (.int .i64 1)] h7) ((fun (j1_8 : IV → Hp → Option (IV × Hp)) => eqS EE 3 x0 (.fv (.int .i64 3)) fun x17 => S46_52 x17 j1_8 h7 x0) fun x9 h10 => S46_46 x9 h10 x0)
noncomputable def S46_54 (x0 : IV) (j1_5 : IV → Hp → Option (IV × Hp)) (h4 : Hp) : Option (IV × Hp) :=
  eqS EE 3 x0 (.fv (.int .i64 24)) fun x35 => condS x35 (j1_5 x35 h4) (eqS EE 3 x0 (.fv (.int .i64 30)) fun x36 => j1_5 x36 h4)
noncomputable def S46_55 (x0 : IV) (j1_5 : IV → Hp → Option (IV × Hp)) (h4 : Hp) : Option (IV × Hp) :=
  eqS EE 3 x0 (.fv (.int .i64 19)) fun x33 => condS x33 (j1_5 x33 h4) (eqS EE 3 x0 (.fv (.int .i64 23)) fun x34 => condS x34 (j1_5 x34 h4) (S46_54 x0 j1_5 h4))
noncomputable def S46_56 (x0 : IV) (j1_5 : IV → Hp → Option (IV × Hp)) (h4 : Hp) : Option (IV × Hp) :=
  eqS EE 3 x0 (.fv (.int .i64 12)) fun x31 => condS x31 (j1_5 x31 h4) (eqS EE 3 x0 (.fv (.int .i64 18)) fun x32 => condS x32 (j1_5 x32 h4) (S46_55 x0 j1_5 h4))
noncomputable def S46_57 (x29 : IV) (j1_5 : IV → Hp → Option (IV × Hp)) (h4 : Hp) (x0 : IV) : Option (IV × Hp) :=
  condS x29 (j1_5 x29 h4) (eqS EE 3 x0 (.fv (.int .i64 9)) fun x30 => condS x30 (j1_5 x30 h4) (S46_56 x0 j1_5 h4))
noncomputable def S46_58 (x3 : IV) (h4 : Hp) (x0 : IV) : Option (IV × Hp) :=
  condS x3 (outS1 [.fv (.int .i64 0)] h4) ((fun (j1_5 : IV → Hp → Option (IV × Hp)) => eqS EE 3 x0 (.fv (.int .i64 8)) fun x29 => S46_57 x29 j1_5 h4 x0) fun x6 h7 => S46_53 x6 h7 x0)
noncomputable def S46_59 (x0 : IV) (j1_2 : IV → Hp → Option (IV × Hp)) (h1 : Hp) : Option (IV × Hp) :=
  eqS EE 3 x0 (.fv (.int .i64 25)) fun x43 => j1_2 x43 h1
noncomputable def S46_60 (x0 : IV) (j1_2 : IV → Hp → Option (IV × Hp)) (h1 : Hp) : Option (IV × Hp) :=
  eqS EE 3 x0 (.fv (.int .i64 14)) fun x41 => condS x41 (j1_2 x41 h1) (eqS EE 3 x0 (.fv (.int .i64 15)) fun x42 => condS x42 (j1_2 x42 h1) (S46_59 x0 j1_2 h1))
noncomputable def S46_61 (x0 : IV) (j1_2 : IV → Hp → Option (IV × Hp)) (h1 : Hp) : Option (IV × Hp) :=
  eqS EE 3 x0 (.fv (.int .i64 10)) fun x39 => condS x39 (j1_2 x39 h1) (eqS EE 3 x0 (.fv (.int .i64 11)) fun x40 => condS x40 (j1_2 x40 h1) (S46_60 x0 j1_2 h1))
noncomputable def S46 (ih : Handler) (n : Nat) (x0 : IV) (h1 : Hp) : Option (IV × Hp) :=
  (fun (j1_2 : IV → Hp → Option (IV × Hp)) => eqS EE 3 x0 (.fv (.int .i64 1)) fun x37 => condS x37 (j1_2 x37 h1) (eqS EE 3 x0 (.fv (.int .i64 2)) fun x38 => condS x38 (j1_2 x38 h1) (S46_61 x0 j1_2 h1))) fun x3 h4 => S46_58 x3 h4 x0
theorem S46_ok (ih : Handler) (n : Nat) (x0 : IV) (h1 : Hp) : funS EE ih ft.get n 46 [x0] h1 = S46 ih n x0 h1 := by kernel_rfl
/-! thyrsus/thyrsuslaw1.kid -/
noncomputable def S47_35 (x17 : IV) (x1 : IV) (h8 : Hp) (x7 : IV) : Option (IV × Hp) :=
  ixS 3 x17 x1 fun x19 => loadA 3 x19 h8 fun x20 _ => storeA 3 x7 x20 h8 fun h22 _ _ => cellS true 3 x7 h22 fun x25 => outS1 [x25] h22
noncomputable def S47_36 (x27 : IV) (x1 : IV) (h8 : Hp) (x7 : IV) : Option (IV × Hp) :=
  addS EE 3 x27 x1 fun x29 => bldS [.fv (.int .i64 0), .fv (.int .i64 0), .nils] [(1, 1, x29)] fun x30 => storeA 3 x7 x30 h8 fun h31 _ _ => cellS true 3 x7 h31 fun x34 => outS1 [x34] h31
noncomputable def S47_37 (x15 : IV) (x3 : IV) (h8 : Hp) (x1 : IV) (x7 : IV) : Option (IV × Hp) :=
  condS x15 (faddrS 2 x3 fun x16 => load1 x16 h8 fun x17 _ => S47_35 x17 x1 h8 x7) (faddrS 1 x3 fun x26 => load1 x26 h8 fun x27 _ => S47_36 x27 x1 h8 x7)
noncomputable def S47 (ih : Handler) (n : Nat) (x0 : IV) (x1 : IV) (h2 : Hp) : Option (IV × Hp) :=
  boxS 49283072 x0 h2 fun x3 h4 _ _ => newS 49283073 (.row [.fv (.int .i64 0), .fv (.int .i64 0), .nils] false) (.ptr (.own 49283073) 0) h4 fun x7 h8 _ _ => faddrS 2 x3 fun x11 => load1 x11 h8 fun x12 _ => lenS x12 fun x14 => ltS EE 3 x1 x14 fun x15 => S47_37 x15 x3 h8 x1 x7
theorem S47_ok (ih : Handler) (n : Nat) (x0 : IV) (x1 : IV) (h2 : Hp) : funS EE ih ft.get n 47 [x0, x1] h2 = S47 ih n x0 x1 h2 := by kernel_rfl
/-! thyrsus/thyrsusref4.Binders -/
noncomputable def S48_18 (x1 : IV) (h7 : Hp) (j0_3 : Hp → Option (IV × Hp)) : Option (IV × Hp) :=
  eqS EE 3 x1 (.fv (.int .i64 0)) fun x10 => condS x10 (outS1 [.fv (.int .i64 1)] h7) (eqS EE 3 x1 (.fv (.int .i64 2)) fun x11 => condS x11 (outS1 [.fv (.int .i64 2)] h7) (j0_3 h7))
noncomputable def S48_19 (x6 : IV) (x1 : IV) (h7 : Hp) (j0_3 : Hp → Option (IV × Hp)) (x0 : IV) : Option (IV × Hp) :=
  condS x6 (eqS EE 3 x1 (.fv (.int .i64 1)) fun x8 => condS x8 (outS1 [.fv (.int .i64 1)] h7) (j0_3 h7)) (eqS EE 3 x0 (.fv (.int .i64 13)) fun x9 => condS x9 (S48_18 x1 h7 j0_3) (j0_3 h7))
noncomputable def S48_20 (x0 : IV) (j1_5 : IV → Hp → Option (IV × Hp)) (h2 : Hp) : Option (IV × Hp) :=
  eqS EE 3 x0 (.fv (.int .i64 29)) fun x17 => j1_5 x17 h2
noncomputable def S48_21 (x0 : IV) (j1_5 : IV → Hp → Option (IV × Hp)) (h2 : Hp) : Option (IV × Hp) :=
  eqS EE 3 x0 (.fv (.int .i64 20)) fun x15 => condS x15 (j1_5 x15 h2) (eqS EE 3 x0 (.fv (.int .i64 28)) fun x16 => condS x16 (j1_5 x16 h2) (S48_20 x0 j1_5 h2))
noncomputable def S48_22 (x13 : IV) (j1_5 : IV → Hp → Option (IV × Hp)) (h2 : Hp) (x0 : IV) : Option (IV × Hp) :=
  condS x13 (j1_5 x13 h2) (eqS EE 3 x0 (.fv (.int .i64 6)) fun x14 => condS x14 (j1_5 x14 h2) (S48_21 x0 j1_5 h2))
noncomputable def S48 (ih : Handler) (n : Nat) (x0 : IV) (x1 : IV) (h2 : Hp) : Option (IV × Hp) :=
  (fun (j0_3 : Hp → Option (IV × Hp)) => (fun (j1_5 : IV → Hp → Option (IV × Hp)) => eqS EE 3 x0 (.fv (.int .i64 3)) fun x12 => condS x12 (j1_5 x12 h2) (eqS EE 3 x0 (.fv (.int .i64 4)) fun x13 => S48_22 x13 j1_5 h2 x0)) fun x6 h7 => S48_19 x6 x1 h7 j0_3 x0) fun h4 => outS1 [.fv (.int .i64 0)] h4
theorem S48_ok (ih : Handler) (n : Nat) (x0 : IV) (x1 : IV) (h2 : Hp) : funS EE ih ft.get n 48 [x0, x1] h2 = S48 ih n x0 x1 h2 := by kernel_rfl
/-! thyrsus/term.Check -/
noncomputable def S49 (ih : Handler) (n : Nat) (x0 : IV) (h1 : Hp) : Option (IV × Hp) :=
  boxS 51380224 x0 h1 fun x2 h3 _ _ => loadA 3 x2 h3 fun x6 _ => newS 51381249 (.row [.fv (.int .i64 0)] false) (.ptr (.own 51381249) 0) h3 fun x8 h9 _ _ => isoS [false, true, false] false false ih 71 [x6, x8, .fv (.int .i64 1)] h9 fun x12 h13 _ _ => outS1 [x12] h13
theorem S49_ok (ih : Handler) (n : Nat) (x0 : IV) (h1 : Hp) : funS EE ih ft.get n 49 [x0] h1 = S49 ih n x0 h1 := by kernel_rfl
/-! slices.ContainsFunc[[]thyrsus/api.Tm,thyrsus/api.Tm] -/
noncomputable def S50 (ih : Handler) (n : Nat) (x0 : IV) (x1 : IV) (h2 : Hp) : Option (IV × Hp) :=
  isoS [] false false ih 72 [x0, x1] h2 fun x3 h4 _ _ => geS EE 3 x3 (.fv (.int .i64 0)) fun x7 => outS1 [x7] h4
theorem S50_ok (ih : Handler) (n : Nat) (x0 : IV) (x1 : IV) (h2 : Hp) : funS EE ih ft.get n 50 [x0, x1] h2 = S50 ih n x0 x1 h2 := by kernel_rfl
/-! thyrsus/obj.Infer$1 -/
noncomputable def S51 (ih : Handler) (n : Nat) (x0 : IV) (h1 : Hp) : Option (IV × Hp) :=
  boxS 53477376 x0 h1 fun x2 h3 _ _ => loadA 3 x2 h3 fun x6 _ => isoS [] false false ih 52 [x6] h3 fun x8 h9 _ _ => optS (unR .not x8) fun x12 => outS1 [x12] h9
theorem S51_ok (ih : Handler) (n : Nat) (x0 : IV) (h1 : Hp) : funS EE ih ft.get n 51 [x0] h1 = S51 ih n x0 h1 := by kernel_rfl
end Idl
end Go.Proofs.Ytdibmackcbpniaa

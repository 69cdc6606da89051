/-
  THE SHALLOW FORM OF THE SEAT'S FUNCTIONS, a part; each is what its code's shallow run is. Printed by a program of mine (gen-sh). No statement is proved here.
-/
import Derived.Test.YtdibmackcbpniaaTab
import Derived.Test.YtdibmackcbpniaaIdl31
set_option maxRecDepth 100000
set_option linter.unusedVariables false
namespace Go.Proofs.Ytdibmackcbpniaa
namespace Idl
/-! thyrsus/obj.typed -/
noncomputable def S52_89 (h3 : Hp) (x10 : IV) : Option (IV × Hp) :=
  load1 x10 h3 fun x11 _ => lenS x11 fun x13 => eqS EE 3 x13 (.fv (.int .i64 0)) fun x14 => outS1 [x14] h3
noncomputable def S52_90 (h65 : Hp) (x54 : IV) (x64 : IV) (ih : Handler) : Option (IV × Hp) :=
  guardS x54 true h65 (fun k68 => ixS 3 x64 (.fv (.int .i64 1)) fun x69 => k68 x69 h65 [] []) fun x70 h71 _ _ => guardS x54 true h71 (fun k74 => loadA 3 x70 h71 fun x75 r76 => k74 x75 h71 r76 []) fun x77 h78 _ _ => guardS x54 true h78 (fun k81 => isoS [] false false ih 52 [x77] h78 k81) fun x82 h83 _ _ => pickS x54 x82 (.fv (.bool false)) fun x86 => outS1 [x86] h83
noncomputable def S52_91 (h39 : Hp) (x22 : IV) (x38 : IV) (ih : Handler) (x2 : IV) : Option (IV × Hp) :=
  guardS x22 true h39 (fun k42 => loadA 3 x38 h39 fun x43 r44 => k42 x43 h39 r44 []) fun x45 h46 _ _ => guardS x22 true h46 (fun k49 => isoS [] false false ih 52 [x45] h46 k49) fun x50 h51 _ _ => pickS x22 x50 (.fv (.bool false)) fun x54 => guardS x54 true h51 (fun k55 => faddrS 2 x2 fun x56 => k55 x56 h51 [] []) fun x57 h58 _ _ => guardS x54 true h58 (fun k61 => load1 x57 h58 fun x62 r63 => k61 x62 h58 r63 []) fun x64 h65 _ _ => S52_90 h65 x54 x64 ih
noncomputable def S52_92 (x19 : IV) (h17 : Hp) (x2 : IV) (ih : Handler) : Option (IV × Hp) :=
  lenS x19 fun x21 => eqS EE 3 x21 (.fv (.int .i64 2)) fun x22 => guardS x22 true h17 (fun k23 => faddrS 2 x2 fun x24 => k23 x24 h17 [] []) fun x25 h26 _ _ => guardS x22 true h26 (fun k29 => load1 x25 h26 fun x30 r31 => k29 x30 h26 r31 []) fun x32 h33 _ _ => guardS x22 true h33 (fun k36 => ixS 3 x32 (.fv (.int .i64 0)) fun x37 => k36 x37 h33 [] []) fun x38 h39 _ _ => S52_91 h39 x22 x38 ih x2
noncomputable def S52_93 (x16 : IV) (x2 : IV) (h17 : Hp) (ih : Handler) : Option (IV × Hp) :=
  condS x16 (faddrS 2 x2 fun x18 => load1 x18 h17 fun x19 _ => S52_92 x19 h17 x2 ih) (outS1 [.fv (.bool false)] h17)
noncomputable def S52_94 (x7 : IV) (j1_15 : IV → Hp → Option (IV × Hp)) (h3 : Hp) : Option (IV × Hp) :=
  eqS EE 3 x7 (.fv (.int .i64 16)) fun x87 => condS x87 (j1_15 x87 h3) (eqS EE 3 x7 (.fv (.int .i64 17)) fun x88 => j1_15 x88 h3)
noncomputable def S52 (ih : Handler) (n : Nat) (x0 : IV) (h1 : Hp) : Option (IV × Hp) :=
  boxS 54525952 x0 h1 fun x2 h3 _ _ => faddrS 0 x2 fun x6 => load1 x6 h3 fun x7 _ => eqS EE 3 x7 (.fv (.int .i64 15)) fun x9 => condS x9 (faddrS 2 x2 fun x10 => S52_89 h3 x10) ((fun (j1_15 : IV → Hp → Option (IV × Hp)) => S52_94 x7 j1_15 h3) fun x16 h17 => S52_93 x16 x2 h17 ih)
theorem S52_ok (ih : Handler) (n : Nat) (x0 : IV) (h1 : Hp) : funS EE ih ft.get n 52 [x0] h1 = S52 ih n x0 h1 := by kernel_rfl
/-! (thyrsus/obj.scope).infer -/
noncomputable def S53_213 (h8 : Hp) (x7 : IV) (x23 : IV) : Option (IV × Hp) :=
  storeA 3 x7 x23 h8 fun h24 _ _ => cellS true 3 x7 h24 fun x27 => outS1 [x27, .fv (.int .i64 8)] h24
noncomputable def S53_214 (h8 : Hp) (x34 : IV) (x7 : IV) : Option (IV × Hp) :=
  loadA 3 x34 h8 fun x35 _ => storeA 3 x7 x35 h8 fun h37 _ _ => cellS true 3 x7 h37 fun x40 => outS1 [x40, .fv (.int .i64 0)] h37
noncomputable def S53_215 (x28 : IV) (x3 : IV) (h8 : Hp) (x0 : IV) (x7 : IV) : Option (IV × Hp) :=
  subS EE 3 x28 (.fv (.int .i64 1)) fun x29 => faddrS 1 x3 fun x30 => load1 x30 h8 fun x31 _ => subS EE 3 x29 x31 fun x33 => ixS 3 x0 x33 fun x34 => S53_214 h8 x34 x7
noncomputable def S53_216 (x0 : IV) (x19 : IV) (h8 : Hp) (x7 : IV) (x3 : IV) : Option (IV × Hp) :=
  lenS x0 fun x21 => geS EE 3 x19 x21 fun x22 => condS x22 (bldS [.fv (.int .i64 0), .fv (.int .i64 0), .nils] [] fun x23 => S53_213 h8 x7 x23) (lenS x0 fun x28 => S53_215 x28 x3 h8 x0 x7)
noncomputable def S53_217 (ih : Handler) (h8 : Hp) (x7 : IV) : Option (IV × Hp) :=
  isoS [] false false ih 64 [.fv (.int .i64 15), .nils] h8 fun x42 h43 _ _ => storeA 3 x7 x42 h43 fun h46 _ _ => cellS true 3 x7 h46 fun x49 => outS1 [x49, .fv (.int .i64 0)] h46
noncomputable def S53_218 (h64 : Hp) (x7 : IV) (x58 : IV) : Option (IV × Hp) :=
  cellS true 3 x7 h64 fun x67 => outS1 [x67, x58] h64
noncomputable def S53_219 (ih : Handler) (h76 : Hp) (x0 : IV) (x73 : IV) (x75 : IV) (x7 : IV) (x68 : IV) : Option (IV × Hp) :=
  isoS [] false false ih 73 [x0, x73, x75] h76 fun x79 h80 r81 w82 => chkS [] r81 w82 (storeA 3 x7 x68 h80 fun h83 r84 w85 => chkS [] r84 w85 (cellS true 3 x7 h83 fun x86 => outS1 [x86, x79] h83))
noncomputable def S53_220 (x12 : IV) (h69 : Hp) (r70 : List Ref) (w71 : List Ref) (ih : Handler) (x0 : IV) (x7 : IV) (x68 : IV) : Option (IV × Hp) :=
  ixS 3 x12 (.fv (.int .i64 1)) fun x72 => loadA 3 x72 h69 fun x73 r74 => chkS [(r70, w71)] r74 [] (isoS [] false false ih 64 [.fv (.int .i64 15), .nils] h69 fun x75 h76 r77 w78 => chkS [(r74, [])] r77 w78 (S53_219 ih h76 x0 x73 x75 x7 x68))
noncomputable def S53_221 (x58 : IV) (h59 : Hp) (x7 : IV) (ih : Handler) (x12 : IV) (x0 : IV) : Option (IV × Hp) :=
  neS EE 35 x58 (.fv (.int .i64 0)) fun x62 => condS x62 (bldS [.fv (.int .i64 0), .fv (.int .i64 0), .nils] [] fun x63 => storeA 3 x7 x63 h59 fun h64 _ _ => S53_218 h64 x7 x58) (isoS [] false false ih 64 [.fv (.int .i64 15), .nils] h59 fun x68 h69 r70 w71 => chkS [] r70 w71 (S53_220 x12 h69 r70 w71 ih x0 x7 x68))
noncomputable def S53_222 (r53 : List Ref) (ih : Handler) (h8 : Hp) (x0 : IV) (x52 : IV) (x7 : IV) (x12 : IV) : Option (IV × Hp) :=
  chkS [] r53 [] (isoS [] false false ih 64 [.fv (.int .i64 15), .nils] h8 fun x54 h55 r56 w57 => chkS [(r53, [])] r56 w57 (isoS [] false false ih 73 [x0, x52, x54] h55 fun x58 h59 r60 w61 => chkS [] r60 w61 (S53_221 x58 h59 x7 ih x12 x0)))
noncomputable def S53_223 (x92 : IV) (h93 : Hp) (x7 : IV) : Option (IV × Hp) :=
  extS 0 x92 fun x96 => extS 1 x92 fun x97 => storeA 3 x7 x96 h93 fun h98 _ _ => cellS true 3 x7 h98 fun x101 => outS1 [x101, x97] h98
noncomputable def S53_224 (h116 : Hp) (x7 : IV) (x120 : IV) (x111 : IV) : Option (IV × Hp) :=
  storeA 3 x7 x120 h116 fun h121 _ _ => cellS true 3 x7 h121 fun x124 => outS1 [x124, x111] h121
noncomputable def S53_225 (h135 : Hp) (x7 : IV) (x138 : IV) (x139 : IV) : Option (IV × Hp) :=
  storeA 3 x7 x138 h135 fun h140 r141 w142 => chkS [] r141 w142 (cellS true 3 x7 h140 fun x143 => outS1 [x143, x139] h140)
noncomputable def S53_226 (r133 : List Ref) (r129 : List Ref) (w130 : List Ref) (r126 : List Ref) (ih : Handler) (h128 : Hp) (x127 : IV) (x132 : IV) (x7 : IV) : Option (IV × Hp) :=
  chkS [(r129, w130), (r126, [])] r133 [] (isoS [] false false ih 53 [x127, x132] h128 fun x134 h135 r136 w137 => chkS [] r136 w137 (extS 0 x134 fun x138 => extS 1 x134 fun x139 => S53_225 h135 x7 x138 x139))
noncomputable def S53_227 (r126 : List Ref) (ih : Handler) (h116 : Hp) (x0 : IV) (x125 : IV) (x12 : IV) (x7 : IV) : Option (IV × Hp) :=
  chkS [] r126 [] (isoS [] false false ih 75 [x0, x125] h116 fun x127 h128 r129 w130 => chkS [] r129 w130 (ixS 3 x12 (.fv (.int .i64 1)) fun x131 => loadA 3 x131 h128 fun x132 r133 => S53_226 r133 r129 w130 r126 ih h128 x127 x132 x7))
noncomputable def S53_228 (h107 : Hp) (x110 : IV) (x111 : IV) (x7 : IV) (ih : Handler) (x0 : IV) (x12 : IV) : Option (IV × Hp) :=
  newS 55592968 (.row [.fv (.int .i64 0), .fv (.int .i64 0), .nils] false) (.ptr (.own 55592968) 0) h107 fun x112 h113 _ _ => storeA 3 x112 x110 h113 fun h116 _ _ => neS EE 35 x111 (.fv (.int .i64 0)) fun x119 => condS x119 (bldS [.fv (.int .i64 0), .fv (.int .i64 0), .nils] [] fun x120 => S53_224 h116 x7 x120 x111) (loadA 3 x112 h116 fun x125 r126 => S53_227 r126 ih h116 x0 x125 x12 x7)
noncomputable def S53_229 (x12 : IV) (h89 : Hp) (ih : Handler) (x0 : IV) (x7 : IV) : Option (IV × Hp) :=
  ixS 3 x12 (.fv (.int .i64 0)) fun x103 => loadA 3 x103 h89 fun x104 _ => isoS [] false false ih 53 [x0, x104] h89 fun x106 h107 _ _ => extS 0 x106 fun x110 => extS 1 x106 fun x111 => S53_228 h107 x110 x111 x7 ih x0 x12
noncomputable def S53_230 (h158 : Hp) (x7 : IV) (x152 : IV) : Option (IV × Hp) :=
  cellS true 3 x7 h158 fun x161 => outS1 [x161, x152] h158
noncomputable def S53_231 (h180 : Hp) (x7 : IV) (x170 : IV) : Option (IV × Hp) :=
  cellS true 3 x7 h180 fun x183 => outS1 [x183, x170] h180
noncomputable def S53_232 (ih : Handler) (h175 : Hp) (x0 : IV) (x187 : IV) (x189 : IV) (r185 : List Ref) (x7 : IV) (x184 : IV) : Option (IV × Hp) :=
  isoS [] false false ih 73 [x0, x187, x189] h175 fun x191 h192 r193 w194 => chkS [(r185, [])] r193 w194 (storeA 3 x7 x184 h192 fun h195 r196 w197 => chkS [] r196 w197 (cellS true 3 x7 h195 fun x198 => outS1 [x198, x191] h195))
noncomputable def S53_233 (x12 : IV) (h175 : Hp) (r185 : List Ref) (x171 : IV) (ih : Handler) (x0 : IV) (x7 : IV) (x184 : IV) : Option (IV × Hp) :=
  ixS 3 x12 (.fv (.int .i64 2)) fun x186 => loadA 3 x186 h175 fun x187 r188 => chkS [(r185, [])] r188 [] (loadA 3 x171 h175 fun x189 r190 => chkS [(r188, []), (r185, [])] r190 [] (S53_232 ih h175 x0 x187 x189 r185 x7 x184))
noncomputable def S53_234 (x170 : IV) (h175 : Hp) (x7 : IV) (x171 : IV) (x12 : IV) (ih : Handler) (x0 : IV) : Option (IV × Hp) :=
  neS EE 35 x170 (.fv (.int .i64 0)) fun x178 => condS x178 (bldS [.fv (.int .i64 0), .fv (.int .i64 0), .nils] [] fun x179 => storeA 3 x7 x179 h175 fun h180 _ _ => S53_231 h180 x7 x170) (loadA 3 x171 h175 fun x184 r185 => chkS [] r185 [] (S53_233 x12 h175 r185 x171 ih x0 x7 x184))
noncomputable def S53_235 (ih : Handler) (h153 : Hp) (x0 : IV) (x163 : IV) (x7 : IV) (x12 : IV) : Option (IV × Hp) :=
  isoS [] false false ih 53 [x0, x163] h153 fun x165 h166 _ _ => extS 0 x165 fun x169 => extS 1 x165 fun x170 => newS 55601160 (.row [.fv (.int .i64 0), .fv (.int .i64 0), .nils] false) (.ptr (.own 55601160) 0) h166 fun x171 h172 _ _ => storeA 3 x171 x169 h172 fun h175 _ _ => S53_234 x170 h175 x7 x171 x12 ih x0
noncomputable def S53_236 (x152 : IV) (h153 : Hp) (x7 : IV) (x12 : IV) (ih : Handler) (x0 : IV) : Option (IV × Hp) :=
  neS EE 35 x152 (.fv (.int .i64 0)) fun x156 => condS x156 (bldS [.fv (.int .i64 0), .fv (.int .i64 0), .nils] [] fun x157 => storeA 3 x7 x157 h153 fun h158 _ _ => S53_230 h158 x7 x152) (ixS 3 x12 (.fv (.int .i64 1)) fun x162 => loadA 3 x162 h153 fun x163 _ => S53_235 ih h153 x0 x163 x7 x12)
noncomputable def S53_237 (r147 : List Ref) (ih : Handler) (h89 : Hp) (x0 : IV) (x146 : IV) (x7 : IV) (x12 : IV) : Option (IV × Hp) :=
  chkS [] r147 [] (isoS [] false false ih 64 [.fv (.int .i64 15), .nils] h89 fun x148 h149 r150 w151 => chkS [(r147, [])] r150 w151 (isoS [] false false ih 73 [x0, x146, x148] h149 fun x152 h153 r154 w155 => chkS [] r154 w155 (S53_236 x152 h153 x7 x12 ih x0)))
noncomputable def S53_238 (x201 : IV) (h202 : Hp) (x7 : IV) : Option (IV × Hp) :=
  extS 0 x201 fun x205 => extS 1 x201 fun x206 => storeA 3 x7 x205 h202 fun h207 _ _ => cellS true 3 x7 h207 fun x210 => outS1 [x210, x206] h207
noncomputable def S53_239 (x15 : IV) (x12 : IV) (h89 : Hp) (ih : Handler) (x0 : IV) (x7 : IV) (x3 : IV) : Option (IV × Hp) :=
  eqS EE 3 x15 (.fv (.int .i64 27)) fun x144 => condS x144 (ixS 3 x12 (.fv (.int .i64 0)) fun x145 => loadA 3 x145 h89 fun x146 r147 => S53_237 r147 ih h89 x0 x146 x7 x12) (loadA 3 x3 h89 fun x199 _ => dynS EE ih (.fv (.func (.func 76) [] [])) [x0, x199] h89 fun x201 h202 _ _ => S53_238 x201 h202 x7)
noncomputable def S53_240 (x88 : IV) (h89 : Hp) (x3 : IV) (ih : Handler) (x0 : IV) (x7 : IV) (x15 : IV) (x12 : IV) : Option (IV × Hp) :=
  condS x88 (loadA 3 x3 h89 fun x90 _ => isoS [] false false ih 74 [x0, x90] h89 fun x92 h93 _ _ => S53_223 x92 h93 x7) (eqS EE 3 x15 (.fv (.int .i64 28)) fun x102 => condS x102 (S53_229 x12 h89 ih x0 x7) (S53_239 x15 x12 h89 ih x0 x7 x3))
noncomputable def S53_241 (x211 : IV) (j1_87 : IV → Hp → Option (IV × Hp)) (h8 : Hp) (x15 : IV) : Option (IV × Hp) :=
  condS x211 (j1_87 x211 h8) (eqS EE 3 x15 (.fv (.int .i64 29)) fun x212 => j1_87 x212 h8)
noncomputable def S53_242 (x15 : IV) (x12 : IV) (h8 : Hp) (ih : Handler) (x0 : IV) (x7 : IV) (x3 : IV) : Option (IV × Hp) :=
  eqS EE 3 x15 (.fv (.int .i64 26)) fun x50 => condS x50 (ixS 3 x12 (.fv (.int .i64 0)) fun x51 => loadA 3 x51 h8 fun x52 r53 => S53_222 r53 ih h8 x0 x52 x7 x12) ((fun (j1_87 : IV → Hp → Option (IV × Hp)) => eqS EE 3 x15 (.fv (.int .i64 20)) fun x211 => S53_241 x211 j1_87 h8 x15) fun x88 h89 => S53_240 x88 h89 x3 ih x0 x7 x15 x12)
noncomputable def S53_243 (x15 : IV) (x3 : IV) (h8 : Hp) (x0 : IV) (x7 : IV) (ih : Handler) (x12 : IV) : Option (IV × Hp) :=
  eqS EE 3 x15 (.fv (.int .i64 1)) fun x17 => condS x17 (faddrS 1 x3 fun x18 => load1 x18 h8 fun x19 _ => S53_216 x0 x19 h8 x7 x3) (eqS EE 3 x15 (.fv (.int .i64 25)) fun x41 => condS x41 (S53_217 ih h8 x7) (S53_242 x15 x12 h8 ih x0 x7 x3))
noncomputable def S53 (ih : Handler) (n : Nat) (x0 : IV) (x1 : IV) (h2 : Hp) : Option (IV × Hp) :=
  boxS 55574528 x1 h2 fun x3 h4 _ _ => newS 55574529 (.row [.fv (.int .i64 0), .fv (.int .i64 0), .nils] false) (.ptr (.own 55574529) 0) h4 fun x7 h8 _ _ => faddrS 2 x3 fun x11 => load1 x11 h8 fun x12 _ => faddrS 0 x3 fun x14 => load1 x14 h8 fun x15 _ => S53_243 x15 x3 h8 x0 x7 ih x12
theorem S53_ok (ih : Handler) (n : Nat) (x0 : IV) (x1 : IV) (h2 : Hp) : funS EE ih ft.get n 53 [x0, x1] h2 = S53 ih n x0 x1 h2 := by kernel_rfl
/-! thyrsus/obj.own -/
noncomputable def S54_72 (x27 : IV) (x30 : IV) (h45 : Hp) (x44 : IV) (h1 : Hp) (x25 : IV) (x26 : IV) (x28 : IV) (x29 : IV) (q22 : List IV → Hp → Option (IV × Hp)) : Option (IV × Hp) :=
  ixS 3 x27 x30 fun x48 => storeA 3 x48 x44 h45 fun h49 _ _ => addS EE 3 x30 (.fv (.int .i64 1)) fun x52 => dropS (h1.own.map (·.1)) [56627203] [x25, x26, x27, x28, x29, x52] h49 fun h53 => q22 [x25, x26, x27, x28, x29, x52] h53
noncomputable def S54_73 (h24 : Hp) (x32 : IV) (ih : Handler) (x27 : IV) (x30 : IV) (h1 : Hp) (x25 : IV) (x26 : IV) (x28 : IV) (x29 : IV) (q22 : List IV → Hp → Option (IV × Hp)) : Option (IV × Hp) :=
  loadA 3 x32 h24 fun x33 _ => newS 56627203 (.row [.fv (.int .i64 0), .fv (.int .i64 0), .nils] false) (.ptr (.own 56627203) 0) h24 fun x35 h36 _ _ => storeA 3 x35 x33 h36 fun h39 _ _ => loadA 3 x35 h39 fun x42 _ => isoS [] false false ih 54 [x42] h39 fun x44 h45 _ _ => S54_72 x27 x30 h45 x44 h1 x25 x26 x28 x29 q22
noncomputable def S54_74 (h61 : Hp) (x26 : IV) : Option (IV × Hp) :=
  cellS true 3 x26 h61 fun x64 => outS1 [x64] h61
noncomputable def S54_75 (h24 : Hp) (x54 : IV) (x25 : IV) (x27 : IV) (x26 : IV) : Option (IV × Hp) :=
  load1 x54 h24 fun x55 _ => faddrS 1 x25 fun x57 => load1 x57 h24 fun x58 _ => bldS [.fv (.int .i64 0), .fv (.int .i64 0), .nils] [(0, 1, x55), (1, 1, x58), (2, 1, x27)] fun x60 => storeA 3 x26 x60 h24 fun h61 _ _ => S54_74 h61 x26
noncomputable def S54_76 (l69 : List IV) (x29 : IV) (x28 : IV) (h24 : Hp) (ih : Handler) (x27 : IV) (h1 : Hp) (x25 : IV) (x26 : IV) (q22 : List IV → Hp → Option (IV × Hp)) : Option (IV × Hp) :=
  uncS l69 fun x30 _ => ltS EE 3 x30 x29 fun x31 => condS x31 (ixS 3 x28 x30 fun x32 => S54_73 h24 x32 ih x27 x30 h1 x25 x26 x28 x29 q22) (faddrS 0 x25 fun x54 => S54_75 h24 x54 x25 x27 x26)
noncomputable def S54_77 (l23 : List IV) (h24 : Hp) (ih : Handler) (h1 : Hp) (q22 : List IV → Hp → Option (IV × Hp)) : Option (IV × Hp) :=
  uncS l23 fun x25 l65 => uncS l65 fun x26 l66 => uncS l66 fun x27 l67 => uncS l67 fun x28 l68 => uncS l68 fun x29 l69 => S54_76 l69 x29 x28 h24 ih x27 h1 x25 x26 q22
noncomputable def S54_78 (x2 : IV) (h15 : Hp) (h1 : Hp) (x6 : IV) (x14 : IV) (n : Nat) (ih : Handler) : Option (IV × Hp) :=
  faddrS 2 x2 fun x18 => load1 x18 h15 fun x19 _ => lenS x19 fun x21 => dropS (h1.own.map (·.1)) [56627203] [x2, x6, x14, x19, x21, .fv (.int .i64 0)] h15 fun h71 => loopS n (fun q22 l23 h24 => S54_77 l23 h24 ih h1 q22) [x2, x6, x14, x19, x21, .fv (.int .i64 0)] h71
noncomputable def S54 (ih : Handler) (n : Nat) (x0 : IV) (h1 : Hp) : Option (IV × Hp) :=
  boxS 56623104 x0 h1 fun x2 h3 _ _ => newS 56623105 (.row [.fv (.int .i64 0), .fv (.int .i64 0), .nils] false) (.ptr (.own 56623105) 0) h3 fun x6 h7 _ _ => faddrS 2 x2 fun x10 => load1 x10 h7 fun x11 _ => lenS x11 fun x13 => genS (pcMakeSlice EE 56624131 28 x13 x13) 56624131 h7 fun x14 h15 _ _ => S54_78 x2 h15 h1 x6 x14 n ih
theorem S54_ok (ih : Handler) (n : Nat) (x0 : IV) (h1 : Hp) : funS EE ih ft.get n 54 [x0] h1 = S54 ih n x0 h1 := by kernel_rfl
/-! thyrsus/thyrsusref11.infer -/
noncomputable def S55_486 (h22 : Hp) (x18 : IV) (x7 : IV) : Option (IV × Hp) :=
  loadA 3 x18 h22 fun x34 _ => storeA 3 x7 x34 h22 fun h36 _ _ => cellS true 3 x7 h36 fun x39 => outS1 [x39, .fv (.int .i64 8)] h36
noncomputable def S55_487 (x0 : IV) (x45 : IV) (h22 : Hp) (x7 : IV) : Option (IV × Hp) :=
  ixS 3 x0 x45 fun x46 => loadA 3 x46 h22 fun x47 _ => storeA 3 x7 x47 h22 fun h49 _ _ => cellS true 3 x7 h49 fun x52 => outS1 [x52, .fv (.int .i64 0)] h49
noncomputable def S55_488 (x0 : IV) (x3 : IV) (h22 : Hp) (x7 : IV) : Option (IV × Hp) :=
  lenS x0 fun x40 => subS EE 3 x40 (.fv (.int .i64 1)) fun x41 => faddrS 1 x3 fun x42 => load1 x42 h22 fun x43 _ => subS EE 3 x41 x43 fun x45 => S55_487 x0 x45 h22 x7
noncomputable def S55_489 (x3 : IV) (h22 : Hp) (x0 : IV) (x18 : IV) (x7 : IV) : Option (IV × Hp) :=
  faddrS 1 x3 fun x29 => load1 x29 h22 fun x30 _ => lenS x0 fun x32 => geS EE 3 x30 x32 fun x33 => condS x33 (S55_486 h22 x18 x7) (S55_488 x0 x3 h22 x7)
noncomputable def S55_490 (h56 : Hp) (x7 : IV) : Option (IV × Hp) :=
  cellS true 3 x7 h56 fun x59 => outS1 [x59, .fv (.int .i64 0)] h56
noncomputable def S55_491 (h72 : Hp) (x18 : IV) (x7 : IV) (x71 : IV) : Option (IV × Hp) :=
  loadA 3 x18 h72 fun x73 _ => storeA 3 x7 x73 h72 fun h75 _ _ => cellS true 3 x7 h75 fun x78 => outS1 [x78, x71] h75
noncomputable def S55_492 (ih : Handler) (h67 : Hp) (x0 : IV) (x81 : IV) (x83 : IV) (j1_70 : IV → Hp → Option (IV × Hp)) : Option (IV × Hp) :=
  isoS [] false false ih 77 [x0, x81, x83] h67 fun x85 h86 r87 w88 => chkS [] r87 w88 (j1_70 x85 h86)
noncomputable def S55_493 (x12 : IV) (h67 : Hp) (x18 : IV) (ih : Handler) (x0 : IV) (j1_70 : IV → Hp → Option (IV × Hp)) : Option (IV × Hp) :=
  ixS 3 x12 (.fv (.int .i64 1)) fun x80 => loadA 3 x80 h67 fun x81 r82 => chkS [] r82 [] (loadA 3 x18 h67 fun x83 r84 => chkS [(r82, [])] r84 [] (S55_492 ih h67 x0 x81 x83 j1_70))
noncomputable def S55_494 (ih : Handler) (h22 : Hp) (x0 : IV) (x62 : IV) (x64 : IV) (x18 : IV) (x7 : IV) (x12 : IV) : Option (IV × Hp) :=
  isoS [] false false ih 77 [x0, x62, x64] h22 fun x66 h67 r68 w69 => chkS [] r68 w69 ((fun (j1_70 : IV → Hp → Option (IV × Hp)) => eqS EE 3 x66 (.fv (.int .i64 0)) fun x79 => condS x79 (S55_493 x12 h67 x18 ih x0 j1_70) (j1_70 x66 h67)) fun x71 h72 => S55_491 h72 x18 x7 x71)
noncomputable def S55_495 (x12 : IV) (h22 : Hp) (x18 : IV) (ih : Handler) (x0 : IV) (x7 : IV) : Option (IV × Hp) :=
  ixS 3 x12 (.fv (.int .i64 0)) fun x61 => loadA 3 x61 h22 fun x62 r63 => chkS [] r63 [] (loadA 3 x18 h22 fun x64 r65 => chkS [(r63, [])] r65 [] (S55_494 ih h22 x0 x62 x64 x18 x7 x12))
noncomputable def S55_496 (h96 : Hp) (x7 : IV) (x100 : IV) : Option (IV × Hp) :=
  storeA 3 x7 x100 h96 fun h102 _ _ => cellS true 3 x7 h102 fun x105 => outS1 [x105, .fv (.int .i64 10)] h102
noncomputable def S55_497 (h127 : Hp) (x7 : IV) (x111 : IV) (x126 : IV) : Option (IV × Hp) :=
  storeA 3 x7 x111 h127 fun h130 r131 w132 => chkS [] r131 w132 (cellS true 3 x7 h130 fun x133 => outS1 [x133, x126] h130)
noncomputable def S55_498 (x12 : IV) (h117 : Hp) (r122 : List Ref) (r118 : List Ref) (w119 : List Ref) (r115 : List Ref) (r112 : List Ref) (ih : Handler) (x116 : IV) (x121 : IV) (x7 : IV) (x111 : IV) : Option (IV × Hp) :=
  ixS 3 x12 (.fv (.int .i64 0)) fun x123 => loadA 3 x123 h117 fun x124 r125 => chkS [(r122, []), (r118, w119), (r115, []), (r112, [])] r125 [] (isoS [] false false ih 77 [x116, x121, x124] h117 fun x126 h127 r128 w129 => chkS [(r112, [])] r128 w129 (S55_497 h127 x7 x111 x126))
noncomputable def S55_499 (ih : Handler) (h96 : Hp) (x0 : IV) (x114 : IV) (r112 : List Ref) (x12 : IV) (r115 : List Ref) (x7 : IV) (x111 : IV) : Option (IV × Hp) :=
  isoS [] false false ih 78 [x0, x114] h96 fun x116 h117 r118 w119 => chkS [(r112, [])] r118 w119 (ixS 3 x12 (.fv (.int .i64 1)) fun x120 => loadA 3 x120 h117 fun x121 r122 => chkS [(r118, w119), (r115, []), (r112, [])] r122 [] (S55_498 x12 h117 r122 r118 w119 r115 r112 ih x116 x121 x7 x111))
noncomputable def S55_500 (h96 : Hp) (x110 : IV) (x12 : IV) (ih : Handler) (x0 : IV) (x7 : IV) : Option (IV × Hp) :=
  loadA 3 x110 h96 fun x111 r112 => chkS [] r112 [] (ixS 3 x12 (.fv (.int .i64 0)) fun x113 => loadA 3 x113 h96 fun x114 r115 => chkS [(r112, [])] r115 [] (S55_499 ih h96 x0 x114 r112 x12 r115 x7 x111))
noncomputable def S55_501 (h176 : Hp) (x7 : IV) (x175 : IV) : Option (IV × Hp) :=
  cellS true 3 x7 h176 fun x179 => outS1 [x179, x175] h176
noncomputable def S55_502 (r172 : List Ref) (w173 : List Ref) (x170 : IV) (h171 : Hp) (x7 : IV) : Option (IV × Hp) :=
  chkS [] r172 w173 (extS 0 x170 fun x174 => extS 1 x170 fun x175 => storeA 3 x7 x174 h171 fun h176 r177 w178 => chkS [] r177 w178 (S55_501 h176 x7 x175))
noncomputable def S55_503 (h154 : Hp) (x158 : IV) (x160 : IV) (ih : Handler) (x149 : IV) (x7 : IV) : Option (IV × Hp) :=
  genS (pcBuildSlice EE 28 2 [(0, x158), (1, x160)]) 57694212 h154 fun x162 h163 r164 w165 => chkS [] r164 w165 (isoS [] false false ih 30 [.fv (.int .i64 16), x162] h163 fun x166 h167 r168 w169 => chkS [] r168 w169 (isoS [] false false ih 79 [x166, x149] h167 fun x170 h171 r172 w173 => S55_502 r172 w173 x170 h171 x7))
noncomputable def S55_504 (x12 : IV) (h154 : Hp) (x150 : IV) (ih : Handler) (x149 : IV) (x7 : IV) : Option (IV × Hp) :=
  ixS 3 x12 (.fv (.int .i64 0)) fun x157 => loadA 3 x157 h154 fun x158 r159 => chkS [] r159 [] (loadA 3 x150 h154 fun x160 r161 => chkS [(r159, [])] r161 [] (S55_503 h154 x158 x160 ih x149 x7))
noncomputable def S55_505 (x144 : IV) (h145 : Hp) (r146 : List Ref) (w147 : List Ref) (r143 : List Ref) (r139 : List Ref) (w140 : List Ref) (r136 : List Ref) (x148 : IV) (x12 : IV) (ih : Handler) (x7 : IV) : Option (IV × Hp) :=
  extS 1 x144 fun x149 => newS 57693196 (.row [.fv (.int .i64 0), .fv (.int .i64 0), .nils] false) (.ptr (.own 57693196) 0) h145 fun x150 h151 r152 w153 => chkS [(r146, w147), (r143, []), (r139, w140), (r136, [])] r152 w153 (storeA 3 x150 x148 h151 fun h154 r155 w156 => chkS [] r155 w156 (S55_504 x12 h154 x150 ih x149 x7))
noncomputable def S55_506 (h138 : Hp) (x141 : IV) (r139 : List Ref) (w140 : List Ref) (r136 : List Ref) (ih : Handler) (x137 : IV) (x12 : IV) (x7 : IV) : Option (IV × Hp) :=
  loadA 3 x141 h138 fun x142 r143 => chkS [(r139, w140), (r136, [])] r143 [] (isoS [] false false ih 19 [x137, x142] h138 fun x144 h145 r146 w147 => chkS [] r146 w147 (extS 0 x144 fun x148 => S55_505 x144 h145 r146 w147 r143 r139 w140 r136 x148 x12 ih x7))
noncomputable def S55_507 (h96 : Hp) (x134 : IV) (ih : Handler) (x0 : IV) (x12 : IV) (x7 : IV) : Option (IV × Hp) :=
  loadA 3 x134 h96 fun x135 r136 => chkS [] r136 [] (isoS [] false false ih 78 [x0, x135] h96 fun x137 h138 r139 w140 => chkS [] r139 w140 (ixS 3 x12 (.fv (.int .i64 1)) fun x141 => S55_506 h138 x141 r139 w140 r136 ih x137 x12 x7))
noncomputable def S55_508 (h96 : Hp) (x106 : IV) (x12 : IV) (ih : Handler) (x0 : IV) (x7 : IV) : Option (IV × Hp) :=
  load1 x106 h96 fun x107 _ => eqS EE 3 x107 (.fv (.int .i64 29)) fun x109 => condS x109 (ixS 3 x12 (.fv (.int .i64 0)) fun x110 => S55_500 h96 x110 x12 ih x0 x7) (ixS 3 x12 (.fv (.int .i64 0)) fun x134 => S55_507 h96 x134 ih x0 x12 x7)
noncomputable def S55_509 (ih : Handler) (h91 : Hp) (x93 : IV) (x18 : IV) (x7 : IV) (x3 : IV) (x12 : IV) (x0 : IV) : Option (IV × Hp) :=
  isoS [] false false ih 21 [x93] h91 fun x95 h96 _ _ => optS (unR .not x95) fun x99 => condS x99 (loadA 3 x18 h96 fun x100 _ => S55_496 h96 x7 x100) (faddrS 0 x3 fun x106 => S55_508 h96 x106 x12 ih x0 x7)
noncomputable def S55_510 (h194 : Hp) (x7 : IV) (x198 : IV) (x189 : IV) : Option (IV × Hp) :=
  storeA 3 x7 x198 h194 fun h200 _ _ => cellS true 3 x7 h200 fun x203 => outS1 [x203, x189] h200
noncomputable def S55_511 (h214 : Hp) (x7 : IV) (x217 : IV) (x218 : IV) : Option (IV × Hp) :=
  storeA 3 x7 x217 h214 fun h219 r220 w221 => chkS [] r220 w221 (cellS true 3 x7 h219 fun x222 => outS1 [x222, x218] h219)
noncomputable def S55_512 (r212 : List Ref) (r208 : List Ref) (w209 : List Ref) (r205 : List Ref) (ih : Handler) (h207 : Hp) (x206 : IV) (x211 : IV) (x7 : IV) : Option (IV × Hp) :=
  chkS [(r208, w209), (r205, [])] r212 [] (isoS [] false false ih 19 [x206, x211] h207 fun x213 h214 r215 w216 => chkS [] r215 w216 (extS 0 x213 fun x217 => extS 1 x213 fun x218 => S55_511 h214 x7 x217 x218))
noncomputable def S55_513 (r205 : List Ref) (ih : Handler) (h194 : Hp) (x0 : IV) (x204 : IV) (x12 : IV) (x7 : IV) : Option (IV × Hp) :=
  chkS [] r205 [] (isoS [] false false ih 78 [x0, x204] h194 fun x206 h207 r208 w209 => chkS [] r208 w209 (ixS 3 x12 (.fv (.int .i64 1)) fun x210 => loadA 3 x210 h207 fun x211 r212 => S55_512 r212 r208 w209 r205 ih h207 x206 x211 x7))
noncomputable def S55_514 (h185 : Hp) (x188 : IV) (x189 : IV) (x7 : IV) (ih : Handler) (x0 : IV) (x12 : IV) : Option (IV × Hp) :=
  newS 57696264 (.row [.fv (.int .i64 0), .fv (.int .i64 0), .nils] false) (.ptr (.own 57696264) 0) h185 fun x190 h191 _ _ => storeA 3 x190 x188 h191 fun h194 _ _ => neS EE 3 x189 (.fv (.int .i64 0)) fun x197 => condS x197 (loadA 3 x190 h194 fun x198 _ => S55_510 h194 x7 x198 x189) (loadA 3 x190 h194 fun x204 r205 => S55_513 r205 ih h194 x0 x204 x12 x7)
noncomputable def S55_515 (x12 : IV) (h91 : Hp) (ih : Handler) (x0 : IV) (x7 : IV) : Option (IV × Hp) :=
  ixS 3 x12 (.fv (.int .i64 0)) fun x181 => loadA 3 x181 h91 fun x182 _ => isoS [] false false ih 19 [x0, x182] h91 fun x184 h185 _ _ => extS 0 x184 fun x188 => extS 1 x184 fun x189 => S55_514 h185 x188 x189 x7 ih x0 x12
noncomputable def S55_516 (h236 : Hp) (x7 : IV) (x229 : IV) : Option (IV × Hp) :=
  cellS true 3 x7 h236 fun x239 => outS1 [x239, x229] h236
noncomputable def S55_517 (h258 : Hp) (x249 : IV) (x7 : IV) (x257 : IV) : Option (IV × Hp) :=
  loadA 3 x249 h258 fun x259 _ => storeA 3 x7 x259 h258 fun h261 _ _ => cellS true 3 x7 h261 fun x264 => outS1 [x264, x257] h261
noncomputable def S55_518 (r273 : List Ref) (w274 : List Ref) (j1_256 : IV → Hp → Option (IV × Hp)) (h272 : Hp) (x271 : IV) : Option (IV × Hp) :=
  chkS [] r273 w274 (j1_256 x271 h272)
noncomputable def S55_519 (h253 : Hp) (x266 : IV) (x249 : IV) (ih : Handler) (x0 : IV) (j1_256 : IV → Hp → Option (IV × Hp)) : Option (IV × Hp) :=
  loadA 3 x266 h253 fun x267 r268 => chkS [] r268 [] (loadA 3 x249 h253 fun x269 r270 => chkS [(r268, [])] r270 [] (isoS [] false false ih 77 [x0, x267, x269] h253 fun x271 h272 r273 w274 => S55_518 r273 w274 j1_256 h272 x271))
noncomputable def S55_520 (x249 : IV) (x7 : IV) (x248 : IV) (x12 : IV) (h253 : Hp) (ih : Handler) (x0 : IV) : Option (IV × Hp) :=
  (fun (j1_256 : IV → Hp → Option (IV × Hp)) => eqS EE 3 x248 (.fv (.int .i64 0)) fun x265 => condS x265 (ixS 3 x12 (.fv (.int .i64 2)) fun x266 => S55_519 h253 x266 x249 ih x0 j1_256) (j1_256 x248 h253)) fun x257 h258 => S55_517 h258 x249 x7 x257
noncomputable def S55_521 (ih : Handler) (h230 : Hp) (x0 : IV) (x241 : IV) (x7 : IV) (x12 : IV) : Option (IV × Hp) :=
  isoS [] false false ih 19 [x0, x241] h230 fun x243 h244 _ _ => extS 0 x243 fun x247 => extS 1 x243 fun x248 => newS 57704456 (.row [.fv (.int .i64 0), .fv (.int .i64 0), .nils] false) (.ptr (.own 57704456) 0) h244 fun x249 h250 _ _ => storeA 3 x249 x247 h250 fun h253 _ _ => S55_520 x249 x7 x248 x12 h253 ih x0
noncomputable def S55_522 (x229 : IV) (h230 : Hp) (x18 : IV) (x7 : IV) (x12 : IV) (ih : Handler) (x0 : IV) : Option (IV × Hp) :=
  neS EE 3 x229 (.fv (.int .i64 0)) fun x233 => condS x233 (loadA 3 x18 h230 fun x234 _ => storeA 3 x7 x234 h230 fun h236 _ _ => S55_516 h236 x7 x229) (ixS 3 x12 (.fv (.int .i64 1)) fun x240 => loadA 3 x240 h230 fun x241 _ => S55_521 ih h230 x0 x241 x7 x12)
noncomputable def S55_523 (r226 : List Ref) (h91 : Hp) (x18 : IV) (ih : Handler) (x0 : IV) (x225 : IV) (x7 : IV) (x12 : IV) : Option (IV × Hp) :=
  chkS [] r226 [] (loadA 3 x18 h91 fun x227 r228 => chkS [(r226, [])] r228 [] (isoS [] false false ih 77 [x0, x225, x227] h91 fun x229 h230 r231 w232 => chkS [] r231 w232 (S55_522 x229 h230 x18 x7 x12 ih x0)))
noncomputable def S55_524 (h289 : Hp) (x7 : IV) (x293 : IV) (x284 : IV) : Option (IV × Hp) :=
  storeA 3 x7 x293 h289 fun h295 _ _ => cellS true 3 x7 h295 fun x298 => outS1 [x298, x284] h295
noncomputable def S55_525 (ih : Handler) (h324 : Hp) (x323 : IV) (x307 : IV) (x7 : IV) : Option (IV × Hp) :=
  isoS [] false false ih 79 [x323, x307] h324 fun x327 h328 _ _ => extS 0 x327 fun x331 => extS 1 x327 fun x332 => storeA 3 x7 x331 h328 fun h333 _ _ => cellS true 3 x7 h333 fun x336 => outS1 [x336, x332] h333
noncomputable def S55_526 (h309 : Hp) (x308 : IV) (x306 : IV) (x285 : IV) (ih : Handler) (x307 : IV) (x7 : IV) : Option (IV × Hp) :=
  storeA 3 x308 x306 h309 fun h312 _ _ => loadA 3 x285 h312 fun x315 _ => loadA 3 x308 h312 fun x317 _ => genS (pcBuildSlice EE 28 2 [(0, x315), (1, x317)]) 57713666 h312 fun x319 h320 _ _ => isoS [] false false ih 30 [.fv (.int .i64 17), x319] h320 fun x323 h324 _ _ => S55_525 ih h324 x323 x307 x7
noncomputable def S55_527 (h289 : Hp) (x299 : IV) (ih : Handler) (x0 : IV) (x285 : IV) (x7 : IV) : Option (IV × Hp) :=
  loadA 3 x299 h289 fun x300 _ => isoS [] false false ih 19 [x0, x300] h289 fun x302 h303 _ _ => extS 0 x302 fun x306 => extS 1 x302 fun x307 => newS 57712648 (.row [.fv (.int .i64 0), .fv (.int .i64 0), .nils] false) (.ptr (.own 57712648) 0) h303 fun x308 h309 _ _ => S55_526 h309 x308 x306 x285 ih x307 x7
noncomputable def S55_528 (h280 : Hp) (x283 : IV) (x284 : IV) (x7 : IV) (x12 : IV) (ih : Handler) (x0 : IV) : Option (IV × Hp) :=
  newS 57709576 (.row [.fv (.int .i64 0), .fv (.int .i64 0), .nils] false) (.ptr (.own 57709576) 0) h280 fun x285 h286 _ _ => storeA 3 x285 x283 h286 fun h289 _ _ => neS EE 3 x284 (.fv (.int .i64 0)) fun x292 => condS x292 (loadA 3 x285 h289 fun x293 _ => S55_524 h289 x7 x293 x284) (ixS 3 x12 (.fv (.int .i64 1)) fun x299 => S55_527 h289 x299 ih x0 x285 x7)
noncomputable def S55_529 (x12 : IV) (h91 : Hp) (ih : Handler) (x0 : IV) (x7 : IV) : Option (IV × Hp) :=
  ixS 3 x12 (.fv (.int .i64 0)) fun x276 => loadA 3 x276 h91 fun x277 _ => isoS [] false false ih 19 [x0, x277] h91 fun x279 h280 _ _ => extS 0 x279 fun x283 => extS 1 x279 fun x284 => S55_528 h280 x283 x284 x7 x12 ih x0
noncomputable def S55_530 (h363 : Hp) (x7 : IV) (x358 : IV) : Option (IV × Hp) :=
  cellS true 3 x7 h363 fun x366 => outS1 [x366, x358] h363
noncomputable def S55_531 (x368 : IV) (h359 : Hp) (x7 : IV) : Option (IV × Hp) :=
  ixS 3 x368 (.fv (.int .i64 1)) fun x370 => loadA 3 x370 h359 fun x371 _ => storeA 3 x7 x371 h359 fun h373 _ _ => cellS true 3 x7 h373 fun x376 => outS1 [x376, .fv (.int .i64 0)] h373
noncomputable def S55_532 (x358 : IV) (h359 : Hp) (x18 : IV) (x7 : IV) (x347 : IV) : Option (IV × Hp) :=
  neS EE 3 x358 (.fv (.int .i64 0)) fun x360 => condS x360 (loadA 3 x18 h359 fun x361 _ => storeA 3 x7 x361 h359 fun h363 _ _ => S55_530 h363 x7 x358) (faddrS 2 x347 fun x367 => load1 x367 h359 fun x368 _ => S55_531 x368 h359 x7)
noncomputable def S55_533 (x382 : IV) (h356 : Hp) (r380 : List Ref) (ih : Handler) (x0 : IV) (x379 : IV) (j1_357 : IV → Hp → Option (IV × Hp)) : Option (IV × Hp) :=
  ixS 3 x382 (.fv (.int .i64 0)) fun x384 => loadA 3 x384 h356 fun x385 r386 => chkS [(r380, [])] r386 [] (isoS [] false false ih 77 [x0, x379, x385] h356 fun x387 h388 r389 w390 => chkS [] r389 w390 (j1_357 x387 h388))
noncomputable def S55_534 (h356 : Hp) (x378 : IV) (x347 : IV) (ih : Handler) (x0 : IV) (j1_357 : IV → Hp → Option (IV × Hp)) : Option (IV × Hp) :=
  loadA 3 x378 h356 fun x379 r380 => chkS [] r380 [] (faddrS 2 x347 fun x381 => load1 x381 h356 fun x382 r383 => chkS [(r380, [])] r383 [] (S55_533 x382 h356 r380 ih x0 x379 j1_357))
noncomputable def S55_535 (x18 : IV) (x7 : IV) (x347 : IV) (x355 : IV) (x12 : IV) (h356 : Hp) (ih : Handler) (x0 : IV) : Option (IV × Hp) :=
  (fun (j1_357 : IV → Hp → Option (IV × Hp)) => eqS EE 3 x355 (.fv (.int .i64 0)) fun x377 => condS x377 (ixS 3 x12 (.fv (.int .i64 1)) fun x378 => S55_534 h356 x378 x347 ih x0 j1_357) (j1_357 x355 h356)) fun x358 h359 => S55_532 x358 h359 x18 x7 x347
noncomputable def S55_536 (x391 : IV) (x407 : IV) (j1_354 : IV → Hp → Option (IV × Hp)) (h408 : Hp) (x346 : IV) : Option (IV × Hp) :=
  pickS x391 x407 (.fv (.bool false)) fun x411 => condS x411 (j1_354 (.fv (.int .i64 12)) h408) (j1_354 x346 h408)
noncomputable def S55_537 (x18 : IV) (x7 : IV) (x347 : IV) (x12 : IV) (ih : Handler) (x0 : IV) (x346 : IV) (h351 : Hp) : Option (IV × Hp) :=
  (fun (j1_354 : IV → Hp → Option (IV × Hp)) => eqS EE 3 x346 (.fv (.int .i64 0)) fun x391 => guardS x391 true h351 (fun k392 => faddrS 0 x347 fun x393 => k392 x393 h351 [] []) fun x394 h395 _ _ => guardS x391 true h395 (fun k398 => load1 x394 h395 fun x399 r400 => k398 x399 h395 r400 []) fun x401 h402 _ _ => guardS x391 true h402 (fun k405 => neS EE 3 x401 (.fv (.int .i64 16)) fun x406 => k405 x406 h402 [] []) fun x407 h408 _ _ => S55_536 x391 x407 j1_354 h408 x346) fun x355 h356 => S55_535 x18 x7 x347 x355 x12 h356 ih x0
noncomputable def S55_538 (ih : Handler) (h91 : Hp) (x0 : IV) (x339 : IV) (x18 : IV) (x7 : IV) (x12 : IV) : Option (IV × Hp) :=
  isoS [] false false ih 19 [x0, x339] h91 fun x341 h342 _ _ => extS 0 x341 fun x345 => extS 1 x341 fun x346 => newS 57715720 (.row [.fv (.int .i64 0), .fv (.int .i64 0), .nils] false) (.ptr (.own 57715720) 0) h342 fun x347 h348 _ _ => storeA 3 x347 x345 h348 fun h351 _ _ => S55_537 x18 x7 x347 x12 ih x0 x346 h351
noncomputable def S55_539 (h437 : Hp) (x7 : IV) (x432 : IV) : Option (IV × Hp) :=
  cellS true 3 x7 h437 fun x440 => outS1 [x440, x432] h437
noncomputable def S55_540 (h433 : Hp) (x7 : IV) (x449 : IV) : Option (IV × Hp) :=
  storeA 3 x7 x449 h433 fun h451 _ _ => cellS true 3 x7 h451 fun x454 => outS1 [x454, .fv (.int .i64 0)] h451
noncomputable def S55_541 (x3 : IV) (h433 : Hp) (x442 : IV) (x7 : IV) : Option (IV × Hp) :=
  faddrS 0 x3 fun x444 => load1 x444 h433 fun x445 _ => subS EE 3 x445 (.fv (.int .i64 23)) fun x447 => ixS 3 x442 x447 fun x448 => loadA 3 x448 h433 fun x449 _ => S55_540 h433 x7 x449
noncomputable def S55_542 (x432 : IV) (h433 : Hp) (x18 : IV) (x7 : IV) (x424 : IV) (x3 : IV) : Option (IV × Hp) :=
  neS EE 3 x432 (.fv (.int .i64 0)) fun x434 => condS x434 (loadA 3 x18 h433 fun x435 _ => storeA 3 x7 x435 h433 fun h437 _ _ => S55_539 h437 x7 x432) (faddrS 2 x424 fun x441 => load1 x441 h433 fun x442 _ => S55_541 x3 h433 x442 x7)
noncomputable def S55_543 (x455 : IV) (x471 : IV) (j1_431 : IV → Hp → Option (IV × Hp)) (h472 : Hp) (x423 : IV) : Option (IV × Hp) :=
  pickS x455 x471 (.fv (.bool false)) fun x475 => condS x475 (j1_431 (.fv (.int .i64 12)) h472) (j1_431 x423 h472)
noncomputable def S55_544 (x18 : IV) (x7 : IV) (x424 : IV) (x3 : IV) (x423 : IV) (h428 : Hp) : Option (IV × Hp) :=
  (fun (j1_431 : IV → Hp → Option (IV × Hp)) => eqS EE 3 x423 (.fv (.int .i64 0)) fun x455 => guardS x455 true h428 (fun k456 => faddrS 0 x424 fun x457 => k456 x457 h428 [] []) fun x458 h459 _ _ => guardS x455 true h459 (fun k462 => load1 x458 h459 fun x463 r464 => k462 x463 h459 r464 []) fun x465 h466 _ _ => guardS x455 true h466 (fun k469 => neS EE 3 x465 (.fv (.int .i64 17)) fun x470 => k469 x470 h466 [] []) fun x471 h472 _ _ => S55_543 x455 x471 j1_431 h472 x423) fun x432 h433 => S55_542 x432 h433 x18 x7 x424 x3
noncomputable def S55_545 (ih : Handler) (h414 : Hp) (x0 : IV) (x416 : IV) (x18 : IV) (x7 : IV) (x3 : IV) : Option (IV × Hp) :=
  isoS [] false false ih 19 [x0, x416] h414 fun x418 h419 _ _ => extS 0 x418 fun x422 => extS 1 x418 fun x423 => newS 57725960 (.row [.fv (.int .i64 0), .fv (.int .i64 0), .nils] false) (.ptr (.own 57725960) 0) h419 fun x424 h425 _ _ => storeA 3 x424 x422 h425 fun h428 _ _ => S55_544 x18 x7 x424 x3 x423 h428
noncomputable def S55_546 (h478 : Hp) (x7 : IV) : Option (IV × Hp) :=
  cellS true 3 x7 h478 fun x481 => outS1 [x481, .fv (.int .i64 10)] h478
noncomputable def S55_547 (x413 : IV) (x12 : IV) (h414 : Hp) (ih : Handler) (x0 : IV) (x18 : IV) (x7 : IV) (x3 : IV) : Option (IV × Hp) :=
  condS x413 (ixS 3 x12 (.fv (.int .i64 0)) fun x415 => loadA 3 x415 h414 fun x416 _ => S55_545 ih h414 x0 x416 x18 x7 x3) (loadA 3 x18 h414 fun x476 _ => storeA 3 x7 x476 h414 fun h478 _ _ => S55_546 h478 x7)
noncomputable def S55_548 (x482 : IV) (j1_412 : IV → Hp → Option (IV × Hp)) (h91 : Hp) (x26 : IV) : Option (IV × Hp) :=
  condS x482 (j1_412 x482 h91) (eqS EE 3 x26 (.fv (.int .i64 24)) fun x483 => j1_412 x483 h91)
noncomputable def S55_549 (x26 : IV) (x12 : IV) (h91 : Hp) (ih : Handler) (x0 : IV) (x18 : IV) (x7 : IV) (x3 : IV) : Option (IV × Hp) :=
  eqS EE 3 x26 (.fv (.int .i64 21)) fun x337 => condS x337 (ixS 3 x12 (.fv (.int .i64 0)) fun x338 => loadA 3 x338 h91 fun x339 _ => S55_538 ih h91 x0 x339 x18 x7 x12) ((fun (j1_412 : IV → Hp → Option (IV × Hp)) => eqS EE 3 x26 (.fv (.int .i64 23)) fun x482 => S55_548 x482 j1_412 h91 x26) fun x413 h414 => S55_547 x413 x12 h414 ih x0 x18 x7 x3)
noncomputable def S55_550 (x26 : IV) (x12 : IV) (h91 : Hp) (x18 : IV) (ih : Handler) (x0 : IV) (x7 : IV) (x3 : IV) : Option (IV × Hp) :=
  eqS EE 3 x26 (.fv (.int .i64 27)) fun x223 => condS x223 (ixS 3 x12 (.fv (.int .i64 0)) fun x224 => loadA 3 x224 h91 fun x225 r226 => S55_523 r226 h91 x18 ih x0 x225 x7 x12) (eqS EE 3 x26 (.fv (.int .i64 22)) fun x275 => condS x275 (S55_529 x12 h91 ih x0 x7) (S55_549 x26 x12 h91 ih x0 x18 x7 x3))
noncomputable def S55_551 (x90 : IV) (x12 : IV) (h91 : Hp) (ih : Handler) (x18 : IV) (x7 : IV) (x3 : IV) (x0 : IV) (x26 : IV) : Option (IV × Hp) :=
  condS x90 (ixS 3 x12 (.fv (.int .i64 0)) fun x92 => loadA 3 x92 h91 fun x93 _ => S55_509 ih h91 x93 x18 x7 x3 x12 x0) (eqS EE 3 x26 (.fv (.int .i64 28)) fun x180 => condS x180 (S55_515 x12 h91 ih x0 x7) (S55_550 x26 x12 h91 x18 ih x0 x7 x3))
noncomputable def S55_552 (x12 : IV) (ih : Handler) (x18 : IV) (x7 : IV) (x3 : IV) (x0 : IV) (x26 : IV) (h22 : Hp) : Option (IV × Hp) :=
  (fun (j1_89 : IV → Hp → Option (IV × Hp)) => eqS EE 3 x26 (.fv (.int .i64 20)) fun x484 => condS x484 (j1_89 x484 h22) (eqS EE 3 x26 (.fv (.int .i64 29)) fun x485 => j1_89 x485 h22)) fun x90 h91 => S55_551 x90 x12 h91 ih x18 x7 x3 x0 x26
noncomputable def S55_553 (x26 : IV) (h22 : Hp) (x18 : IV) (x7 : IV) (x12 : IV) (ih : Handler) (x0 : IV) (x3 : IV) : Option (IV × Hp) :=
  eqS EE 3 x26 (.fv (.int .i64 25)) fun x53 => condS x53 (loadA 3 x18 h22 fun x54 _ => storeA 3 x7 x54 h22 fun h56 _ _ => S55_490 h56 x7) (eqS EE 3 x26 (.fv (.int .i64 26)) fun x60 => condS x60 (S55_495 x12 h22 x18 ih x0 x7) (S55_552 x12 ih x18 x7 x3 x0 x26 h22))
noncomputable def S55_554 (h19 : Hp) (x18 : IV) (x14 : IV) (x3 : IV) (x0 : IV) (x7 : IV) (x12 : IV) (ih : Handler) : Option (IV × Hp) :=
  storeA 3 x18 x14 h19 fun h22 _ _ => faddrS 0 x3 fun x25 => load1 x25 h22 fun x26 _ => eqS EE 3 x26 (.fv (.int .i64 1)) fun x28 => condS x28 (S55_489 x3 h22 x0 x18 x7) (S55_553 x26 h22 x18 x7 x12 ih x0 x3)
noncomputable def S55 (ih : Handler) (n : Nat) (x0 : IV) (x1 : IV) (h2 : Hp) : Option (IV × Hp) :=
  boxS 57671680 x1 h2 fun x3 h4 _ _ => newS 57671681 (.row [.fv (.int .i64 0), .fv (.int .i64 0), .nils] false) (.ptr (.own 57671681) 0) h4 fun x7 h8 _ _ => faddrS 2 x3 fun x11 => load1 x11 h8 fun x12 _ => isoS [] false false ih 30 [.fv (.int .i64 15), .nils] h8 fun x14 h15 _ _ => newS 57673729 (.row [.fv (.int .i64 0), .fv (.int .i64 0), .nils] false) (.ptr (.own 57673729) 0) h15 fun x18 h19 _ _ => S55_554 h19 x18 x14 x3 x0 x7 x12 ih
theorem S55_ok (ih : Handler) (n : Nat) (x0 : IV) (x1 : IV) (h2 : Hp) : funS EE ih ft.get n 55 [x0, x1] h2 = S55 ih n x0 x1 h2 := by kernel_rfl
/-! (*thyrsus/thyrsusref4.checker).walk -/
noncomputable def S56_156 (ih : Handler) (h59 : Hp) (x23 : IV) (x67 : IV) (x69 : IV) (x26 : IV) (q20 : List IV → Hp → Option (IV × Hp)) (x24 : IV) (x25 : IV) : Option (IV × Hp) :=
  isoS [true, false, false] false false ih 56 [x23, x67, x69] h59 fun _ h71 _ _ => addS EE 3 x26 (.fv (.int .i64 1)) fun x74 => q20 [x23, x24, x25, x74] h71
noncomputable def S56_157 (x25 : IV) (h59 : Hp) (x26 : IV) (x24 : IV) (ih : Handler) (x23 : IV) (q20 : List IV → Hp → Option (IV × Hp)) : Option (IV × Hp) :=
  faddrS 2 x25 fun x63 => load1 x63 h59 fun x64 _ => ixS 3 x64 x26 fun x66 => loadA 3 x66 h59 fun x67 _ => addS EE 3 x24 (.fv (.int .i64 1)) fun x69 => S56_156 ih h59 x23 x67 x69 x26 q20 x24 x25
noncomputable def S56_158 (h40 : Hp) (x31 : IV) (x39 : IV) (x25 : IV) (x26 : IV) (x24 : IV) (ih : Handler) (x23 : IV) (q20 : List IV → Hp → Option (IV × Hp)) : Option (IV × Hp) :=
  guardS x31 true h40 (fun k43 => faddrS 1 x39 fun x44 => k43 x44 h40 [] []) fun x45 h46 _ _ => guardS x31 true h46 (fun k49 => load1 x45 h46 fun x50 r51 => k49 x50 h46 r51 []) fun x52 h53 _ _ => guardS x31 true h53 (fun k56 => eqS EE 3 x52 (.fv (.int .i64 0)) fun x57 => k56 x57 h53 [] []) fun x58 h59 _ _ => pickS x31 x58 (.fv (.bool false)) fun x62 => condS x62 (S56_157 x25 h59 x26 x24 ih x23 q20) (outS1 [] h59)
noncomputable def S56_159 (h22 : Hp) (x27 : IV) (x26 : IV) (x23 : IV) (x25 : IV) (x24 : IV) (ih : Handler) (q20 : List IV → Hp → Option (IV × Hp)) : Option (IV × Hp) :=
  load1 x27 h22 fun x28 _ => lenS x28 fun x30 => ltS EE 3 x26 x30 fun x31 => guardS x31 true h22 (fun k32 => k32 x23 h22 [] []) fun x33 h34 _ _ => guardS x31 true h34 (fun k37 => nilS x33 fun x38 => k37 x38 h34 [] []) fun x39 h40 _ _ => S56_158 h40 x31 x39 x25 x26 x24 ih x23 q20
noncomputable def S56_160 (l21 : List IV) (h22 : Hp) (ih : Handler) (q20 : List IV → Hp → Option (IV × Hp)) : Option (IV × Hp) :=
  uncS l21 fun x23 l75 => uncS l75 fun x24 l76 => uncS l76 fun x25 l77 => uncS l77 fun x26 _ => faddrS 2 x25 fun x27 => S56_159 h22 x27 x26 x23 x25 x24 ih q20
noncomputable def S56_161 (n : Nat) (h19 : Hp) (x0 : IV) (x2 : IV) (x4 : IV) (ih : Handler) : Option (IV × Hp) :=
  loopS n (fun q20 l21 h22 => S56_160 l21 h22 ih q20) [x0, x2, x4, .fv (.int .i64 0)] h19
noncomputable def S56_162 (h92 : Hp) (x97 : IV) (j0_18 : Hp → Option (IV × Hp)) : Option (IV × Hp) :=
  store1 x97 (.fv (.int .i64 5)) h92 fun h98 _ _ => j0_18 h98
noncomputable def S56_163 (x151 : IV) (h147 : Hp) (j0_18 : Hp → Option (IV × Hp)) : Option (IV × Hp) :=
  faddrS 1 x151 fun x152 => store1 x152 (.fv (.int .i64 1)) h147 fun h153 _ _ => j0_18 h153
noncomputable def S56_164 (r142 : List Ref) (w143 : List Ref) (h141 : Hp) (x112 : IV) (x140 : IV) (x0 : IV) (j0_18 : Hp → Option (IV × Hp)) : Option (IV × Hp) :=
  chkS [] r142 w143 (guardS x112 false h141 (fun k144 => optS (unR .not x140) fun x145 => k144 x145 h141 [] []) fun x146 h147 _ _ => pickS x112 (.fv (.bool true)) x146 fun x150 => condS x150 (nilS x0 fun x151 => S56_163 x151 h147 j0_18) (j0_18 h147))
noncomputable def S56_165 (r124 : List Ref) (w125 : List Ref) (h123 : Hp) (x112 : IV) (x4 : IV) (ih : Handler) (x122 : IV) (x0 : IV) (j0_18 : Hp → Option (IV × Hp)) : Option (IV × Hp) :=
  chkS [] r124 w125 (guardS x112 false h123 (fun k126 => faddrS 1 x4 fun x127 => k126 x127 h123 [] []) fun x128 h129 _ _ => guardS x112 false h129 (fun k132 => load1 x128 h129 fun x133 r134 => k132 x133 h129 r134 []) fun x135 h136 r137 w138 => chkS [(r124, w125)] r137 w138 (guardS x112 false h136 (fun k139 => isoS [] false false ih 80 [x122, x135] h136 k139) fun x140 h141 r142 w143 => S56_164 r142 w143 h141 x112 x140 x0 j0_18))
noncomputable def S56_166 (r110 : List Ref) (r106 : List Ref) (w107 : List Ref) (r103 : List Ref) (x109 : IV) (x104 : IV) (h105 : Hp) (x4 : IV) (ih : Handler) (x0 : IV) (j0_18 : Hp → Option (IV × Hp)) : Option (IV × Hp) :=
  chkS [(r106, w107), (r103, [])] r110 [] (lenS x109 fun x111 => neS EE 3 x104 x111 fun x112 => guardS x112 false h105 (fun k113 => faddrS 0 x4 fun x114 => k113 x114 h105 [] []) fun x115 h116 _ _ => guardS x112 false h116 (fun k119 => load1 x115 h116 fun x120 r121 => k119 x120 h116 r121 []) fun x122 h123 r124 w125 => S56_165 r124 w125 h123 x112 x4 ih x122 x0 j0_18)
noncomputable def S56_167 (r103 : List Ref) (ih : Handler) (h92 : Hp) (x102 : IV) (x4 : IV) (x0 : IV) (j0_18 : Hp → Option (IV × Hp)) : Option (IV × Hp) :=
  chkS [] r103 [] (isoS [] false false ih 46 [x102] h92 fun x104 h105 r106 w107 => chkS [] r106 w107 (faddrS 2 x4 fun x108 => load1 x108 h105 fun x109 r110 => S56_166 r110 r106 w107 r103 x109 x104 h105 x4 ih x0 j0_18))
noncomputable def S56_168 (x95 : IV) (x0 : IV) (h92 : Hp) (j0_18 : Hp → Option (IV × Hp)) (x4 : IV) (ih : Handler) : Option (IV × Hp) :=
  condS x95 (nilS x0 fun x96 => faddrS 1 x96 fun x97 => S56_162 h92 x97 j0_18) (faddrS 0 x4 fun x101 => load1 x101 h92 fun x102 r103 => S56_167 r103 ih h92 x102 x4 x0 j0_18)
noncomputable def S56_169 (h15 : Hp) (x80 : IV) (x2 : IV) (x0 : IV) (j0_18 : Hp → Option (IV × Hp)) (x4 : IV) (ih : Handler) : Option (IV × Hp) :=
  load1 x80 h15 fun x81 _ => gtS EE 3 x81 (.fv (.int .i64 3000)) fun x83 => guardS x83 false h15 (fun k84 => k84 x2 h15 [] []) fun x85 h86 _ _ => guardS x83 false h86 (fun k89 => gtS EE 3 x85 (.fv (.int .i64 120)) fun x90 => k89 x90 h86 [] []) fun x91 h92 _ _ => pickS x83 (.fv (.bool true)) x91 fun x95 => S56_168 x95 x0 h92 j0_18 x4 ih
noncomputable def S56_170 (x13 : IV) (h5 : Hp) (x12 : IV) (n : Nat) (x0 : IV) (x2 : IV) (x4 : IV) (ih : Handler) : Option (IV × Hp) :=
  faddrS 0 x13 fun x14 => store1 x14 x12 h5 fun h15 _ _ => (fun (j0_18 : Hp → Option (IV × Hp)) => nilS x0 fun x79 => faddrS 0 x79 fun x80 => S56_169 h15 x80 x2 x0 j0_18 x4 ih) fun h19 => S56_161 n h19 x0 x2 x4 ih
noncomputable def S56 (ih : Handler) (n : Nat) (x0 : IV) (x1 : IV) (x2 : IV) (h3 : Hp) : Option (IV × Hp) :=
  boxS 58720256 x1 h3 fun x4 h5 _ _ => nilS x0 fun x8 => faddrS 0 x8 fun x9 => load1 x9 h5 fun x10 _ => addS EE 3 x10 (.fv (.int .i64 1)) fun x12 => nilS x0 fun x13 => S56_170 x13 h5 x12 n x0 x2 x4 ih
theorem S56_ok (ih : Handler) (n : Nat) (x0 : IV) (x1 : IV) (x2 : IV) (h3 : Hp) : funS EE ih ft.get n 56 [x0, x1, x2] h3 = S56 ih n x0 x1 x2 h3 := by kernel_rfl
/-! thyrsus/thyrsusref7.none -/
noncomputable def S57 (ih : Handler) (n : Nat) (x0 : IV) (h1 : Hp) : Option (IV × Hp) :=
  newS 59768832 (.row [.fv (.int .i64 0), .fv (.int .i64 0), .nils] false) (.ptr (.own 59768832) 0) h1 fun x2 h3 _ _ => bldS [.fv (.int .i64 0), .fv (.int .i64 0), .nils] [] fun x6 => storeA 3 x2 x6 h3 fun h7 _ _ => cellS true 3 x2 h7 fun x10 => outS1 [x10, x0] h7
theorem S57_ok (ih : Handler) (n : Nat) (x0 : IV) (h1 : Hp) : funS EE ih ft.get n 57 [x0] h1 = S57 ih n x0 h1 := by kernel_rfl
/-! thyrsus/thyrsusref5.Normal -/
noncomputable def S58_52 (r43 : List Ref) (w44 : List Ref) (r41 : List Ref) (h42 : Hp) (x6 : IV) (x40 : IV) : Option (IV × Hp) :=
  chkS [(r41, [])] r43 w44 (cellS true 3 x6 h42 fun x45 => outS1 [x45, x40] h42)
noncomputable def S58_53 (x11 : IV) (h29 : Hp) (x6 : IV) (x37 : IV) : Option (IV × Hp) :=
  nilS x11 fun x38 => faddrS 2 x38 fun x39 => load1 x39 h29 fun x40 r41 => chkS [] r41 [] (storeA 3 x6 x37 h29 fun h42 r43 w44 => S58_52 r43 w44 r41 h42 x6 x40)
noncomputable def S58_54 (h29 : Hp) (x6 : IV) (x46 : IV) : Option (IV × Hp) :=
  storeA 3 x6 x46 h29 fun h48 _ _ => cellS true 3 x6 h48 fun x51 => outS1 [x51, .fv (.int .i64 0)] h48
noncomputable def S58_55 (h29 : Hp) (x33 : IV) (x11 : IV) (x6 : IV) (x25 : IV) : Option (IV × Hp) :=
  load1 x33 h29 fun x34 _ => neS EE 3 x34 (.fv (.int .i64 0)) fun x36 => condS x36 (bldS [.fv (.int .i64 0), .fv (.int .i64 0), .nils] [] fun x37 => S58_53 x11 h29 x6 x37) (loadA 3 x25 h29 fun x46 _ => S58_54 h29 x6 x46)
noncomputable def S58_56 (ih : Handler) (h18 : Hp) (x11 : IV) (x17 : IV) (x6 : IV) : Option (IV × Hp) :=
  isoS [true, false, false, false] false false ih 81 [x11, x17, .fv (.int .i64 0), .fv (.int .i64 1)] h18 fun x21 h22 _ _ => newS 60819461 (.row [.fv (.int .i64 0), .fv (.int .i64 0), .nils] false) (.ptr (.own 60819461) 0) h22 fun x25 h26 _ _ => storeA 3 x25 x21 h26 fun h29 _ _ => nilS x11 fun x32 => faddrS 2 x32 fun x33 => S58_55 h29 x33 x11 x6 x25
noncomputable def S58 (ih : Handler) (n : Nat) (x0 : IV) (h1 : Hp) : Option (IV × Hp) :=
  boxS 60817408 x0 h1 fun x2 h3 _ _ => newS 60817409 (.row [.fv (.int .i64 0), .fv (.int .i64 0), .nils] false) (.ptr (.own 60817409) 0) h3 fun x6 h7 _ _ => bldS [.fv (.int .i64 0), .fv (.int .i64 0), .fv (.int .i64 0)] [] fun x10 => boxS 60818433 x10 h7 fun x11 h12 _ _ => loadA 3 x2 h12 fun x15 _ => isoS [true, false, false] false false ih 82 [x11, x15, .nils] h12 fun x17 h18 _ _ => S58_56 ih h18 x11 x17 x6
theorem S58_ok (ih : Handler) (n : Nat) (x0 : IV) (h1 : Hp) : funS EE ih ft.get n 58 [x0] h1 = S58 ih n x0 h1 := by kernel_rfl
end Idl
end Go.Proofs.Ytdibmackcbpniaa

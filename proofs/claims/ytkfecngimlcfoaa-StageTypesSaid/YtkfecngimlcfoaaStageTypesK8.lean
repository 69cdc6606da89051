/-
  Texts of a proof, part 8: an ideal semantics of the program, its functions in shallow form, contracts of them. No statement of the seat is proved here.
-/
import Derived.Test.YtkfecngimlcfoaaStageTypesK7
set_option linter.all false
set_option maxRecDepth 100000
set_option linter.unusedVariables false
namespace Go.Proofs.Ytkfecngimlcfoaa
namespace Idl
noncomputable def S6_257 (r136 : List Ref) (w137 : List Ref) (h135 : Hp) (x121 : IV) (x134 : IV) (x122 : IV) (q116 : List IV → Hp → Option (IV × Hp)) (x119 : IV) (x120 : IV) : Option (IV × Hp) :=
  chkS [] r136 w137 (storeA 3 x121 x134 h135 fun h138 r139 w140 => chkS [] r139 w140 (addS EE 3 x122 (.fv (.int .i64 1)) fun x141 => q116 [x119, x120, x121, x141] h138))
noncomputable def S6_258 (h125 : Hp) (x121 : IV) (r126 : List Ref) (w127 : List Ref) (x124 : IV) (ih : Handler) (x122 : IV) (q116 : List IV → Hp → Option (IV × Hp)) (x119 : IV) (x120 : IV) : Option (IV × Hp) :=
  loadA 3 x121 h125 fun x128 r129 => chkS [(r126, w127)] r129 [] (genS (pcBuildSlice EE 28 2 [(0, x124), (1, x128)]) 6304770 h125 fun x130 h131 r132 w133 => chkS [] r132 w133 (isoS [] false false ih 24 [.fv (.int .i64 16), x130] h131 fun x134 h135 r136 w137 => S6_257 r136 w137 h135 x121 x134 x122 q116 x119 x120))
noncomputable def S6_259 (r245 : List Ref) (w246 : List Ref) (h244 : Hp) (x239 : IV) (ih : Handler) (x243 : IV) : Option (IV × Hp) :=
  chkS [] r245 w246 (guardS x239 true h244 (fun k247 => isoS [] false false ih 29 [x243] h244 k247) fun x248 h249 r250 w251 => chkS [] r250 w251 (pickS x239 x248 (.fv (.bool false)) fun x252 => outS1 [x252] h249))
noncomputable def S6_260 (r232 : List Ref) (w233 : List Ref) (r225 : List Ref) (w226 : List Ref) (h231 : Hp) (x219 : IV) (ih : Handler) (x223 : IV) (x230 : IV) (x121 : IV) : Option (IV × Hp) :=
  chkS [(r225, w226)] r232 w233 (guardS x219 true h231 (fun k234 => isoS [] false false ih 17 [x223, x230] h231 k234) fun x235 h236 r237 w238 => chkS [] r237 w238 (pickS x219 x235 (.fv (.bool false)) fun x239 => guardS x239 true h236 (fun k240 => loadA 3 x121 h236 fun x241 r242 => k240 x241 h236 r242 []) fun x243 h244 r245 w246 => S6_259 r245 w246 h244 x239 ih x243))
noncomputable def S6_261 (h210 : Hp) (x207 : IV) (x209 : IV) (x165 : IV) (x121 : IV) (ih : Handler) : Option (IV × Hp) :=
  guardS x207 true h210 (fun k213 => eqS EE 3 x209 (.fv (.int .i64 0)) fun x214 => k213 x214 h210 [] []) fun x215 h216 _ _ => pickS x207 x215 (.fv (.bool false)) fun x219 => guardS x219 true h216 (fun k220 => loadA 3 x165 h216 fun x221 r222 => k220 x221 h216 r222 []) fun x223 h224 r225 w226 => chkS [] r225 w226 (guardS x219 true h224 (fun k227 => loadA 3 x121 h224 fun x228 r229 => k227 x228 h224 r229 []) fun x230 h231 r232 w233 => S6_260 r232 w233 r225 w226 h231 x219 ih x223 x230 x121)
noncomputable def S6_262 (r200 : List Ref) (w201 : List Ref) (r178 : List Ref) (w179 : List Ref) (h199 : Hp) (x172 : IV) (ih : Handler) (x176 : IV) (x198 : IV) (x164 : IV) (x165 : IV) (x121 : IV) : Option (IV × Hp) :=
  chkS [(r178, w179)] r200 w201 (guardS x172 true h199 (fun k202 => isoS [] false false ih 17 [x176, x198] h199 k202) fun x203 h204 r205 w206 => chkS [] r205 w206 (pickS x172 x203 (.fv (.bool false)) fun x207 => guardS x207 true h204 (fun k208 => k208 x164 h204 [] []) fun x209 h210 _ _ => S6_261 h210 x207 x209 x165 x121 ih))
noncomputable def S6_263 (h184 : Hp) (x172 : IV) (ih : Handler) (r185 : List Ref) (w186 : List Ref) (r178 : List Ref) (w179 : List Ref) (x183 : IV) (x176 : IV) (x164 : IV) (x165 : IV) (x121 : IV) : Option (IV × Hp) :=
  guardS x172 true h184 (fun k187 => isoS [] false false ih 25 [.fv (.int .i64 0)] h184 k187) fun x188 h189 r190 w191 => chkS [(r185, w186), (r178, w179)] r190 w191 (guardS x172 true h189 (fun k192 => genS (pcBuildSlice EE 28 2 [(0, x183), (1, x188)]) 6307846 h189 k192) fun x193 h194 r195 w196 => chkS [(r178, w179)] r195 w196 (guardS x172 true h194 (fun k197 => isoS [] false false ih 24 [.fv (.int .i64 29), x193] h194 k197) fun x198 h199 r200 w201 => S6_262 r200 w201 r178 w179 h199 x172 ih x176 x198 x164 x165 x121))
noncomputable def S6_264 (x149 : IV) (h169 : Hp) (x150 : IV) (x121 : IV) (ih : Handler) (x164 : IV) (x165 : IV) : Option (IV × Hp) :=
  eqS EE 36 x149 (.fv (.int .i64 0)) fun x172 => guardS x172 true h169 (fun k173 => loadA 3 x150 h169 fun x174 r175 => k173 x174 h169 r175 []) fun x176 h177 r178 w179 => chkS [] r178 w179 (guardS x172 true h177 (fun k180 => loadA 3 x121 h177 fun x181 r182 => k180 x181 h177 r182 []) fun x183 h184 r185 w186 => chkS [(r178, w179)] r185 w186 (S6_263 h184 x172 ih r185 w186 r178 w179 x183 x176 x164 x165 x121))
noncomputable def S6_265 (ih : Handler) (h154 : Hp) (x157 : IV) (x149 : IV) (x150 : IV) (x121 : IV) : Option (IV × Hp) :=
  isoS [] false false ih 19 [.nils, x157] h154 fun x159 h160 _ _ => extS 0 x159 fun x163 => extS 1 x159 fun x164 => newS 6306821 (.row [.fv (.int .i64 0), .fv (.int .i64 0), .nils] false) (.ptr (.own 6306821) 0) h160 fun x165 h166 _ _ => storeA 3 x165 x163 h166 fun h169 _ _ => S6_264 x149 h169 x150 x121 ih x164 x165
noncomputable def S6_266 (x144 : IV) (h145 : Hp) (ih : Handler) (x121 : IV) : Option (IV × Hp) :=
  extS 0 x144 fun x148 => extS 1 x144 fun x149 => newS 6305797 (.row [.fv (.int .i64 0), .fv (.int .i64 0), .nils] false) (.ptr (.own 6305797) 0) h145 fun x150 h151 _ _ => storeA 3 x150 x148 h151 fun h154 _ _ => loadA 3 x150 h154 fun x157 _ => S6_265 ih h154 x157 x149 x150 x121
noncomputable def S6_267 (x123 : IV) (ih : Handler) (h118 : Hp) (x121 : IV) (x122 : IV) (q116 : List IV → Hp → Option (IV × Hp)) (x119 : IV) (x120 : IV) : Option (IV × Hp) :=
  condS x123 (isoS [] false false ih 24 [.fv (.int .i64 15), .nils] h118 fun x124 h125 r126 w127 => chkS [] r126 w127 (S6_258 h125 x121 r126 w127 x124 ih x122 q116 x119 x120)) (loadA 3 x120 h118 fun x142 _ => isoS [] false false ih 16 [x142] h118 fun x144 h145 _ _ => S6_266 x144 h145 ih x121)
noncomputable def S6_268 (l117 : List IV) (ih : Handler) (h118 : Hp) (q116 : List IV → Hp → Option (IV × Hp)) : Option (IV × Hp) :=
  uncS l117 fun x119 l253 => uncS l253 fun x120 l254 => uncS l254 fun x121 l255 => uncS l255 fun x122 _ => ltS EE 3 x122 x119 fun x123 => S6_267 x123 ih h118 x121 x122 q116 x119 x120
noncomputable def S6_269 (h110 : Hp) (x109 : IV) (x107 : IV) (n : Nat) (x19 : IV) (x100 : IV) (ih : Handler) : Option (IV × Hp) :=
  storeA 3 x109 x107 h110 fun h113 _ _ => loopS n (fun q116 l117 h118 => S6_268 l117 ih h118 q116) [x19, x100, x109, .fv (.int .i64 0)] h113
noncomputable def S6_270 (r102 : List Ref) (w103 : List Ref) (r98 : List Ref) (w99 : List Ref) (r94 : List Ref) (w95 : List Ref) (r90 : List Ref) (w91 : List Ref) (r87 : List Ref) (h101 : Hp) (x100 : IV) (x96 : IV) (x37 : IV) (n : Nat) (x19 : IV) (ih : Handler) : Option (IV × Hp) :=
  chkS [(r98, w99), (r94, w95), (r90, w91), (r87, [])] r102 w103 (storeA 3 x100 x96 h101 fun h104 r105 w106 => chkS [] r105 w106 (loadA 3 x37 h104 fun x107 _ => newS 6300673 (.row [.fv (.int .i64 0), .fv (.int .i64 0), .nils] false) (.ptr (.own 6300673) 0) h104 fun x109 h110 _ _ => S6_269 h110 x109 x107 n x19 x100 ih))
noncomputable def S6_271 (h89 : Hp) (x86 : IV) (x88 : IV) (ih : Handler) (r90 : List Ref) (w91 : List Ref) (r87 : List Ref) (x37 : IV) (n : Nat) (x19 : IV) : Option (IV × Hp) :=
  genS (pcBuildSlice EE 28 2 [(0, x86), (1, x88)]) 6299650 h89 fun x92 h93 r94 w95 => chkS [] r94 w95 (isoS [] false false ih 24 [.fv (.int .i64 29), x92] h93 fun x96 h97 r98 w99 => chkS [] r98 w99 (newS 6299652 (.row [.fv (.int .i64 0), .fv (.int .i64 0), .nils] false) (.ptr (.own 6299652) 0) h97 fun x100 h101 r102 w103 => S6_270 r102 w103 r98 w99 r94 w95 r90 w91 r87 h101 x100 x96 x37 n x19 ih))
noncomputable def S6_272 (r84 : List Ref) (w85 : List Ref) (h83 : Hp) (x79 : IV) (ih : Handler) (x37 : IV) (n : Nat) (x19 : IV) : Option (IV × Hp) :=
  chkS [] r84 w85 (loadA 3 x79 h83 fun x86 r87 => chkS [] r87 [] (isoS [] false false ih 25 [.fv (.int .i64 0)] h83 fun x88 h89 r90 w91 => chkS [(r87, [])] r90 w91 (S6_271 h89 x86 x88 ih r90 w91 r87 x37 n x19)))
noncomputable def S6_273 (ih : Handler) (h72 : Hp) (x71 : IV) (r73 : List Ref) (w74 : List Ref) (r69 : List Ref) (w70 : List Ref) (r65 : List Ref) (w66 : List Ref) (r61 : List Ref) (w62 : List Ref) (r57 : List Ref) (w58 : List Ref) (r53 : List Ref) (w54 : List Ref) (r50 : List Ref) (r48 : List Ref) (x37 : IV) (n : Nat) (x19 : IV) : Option (IV × Hp) :=
  isoS [] false false ih 24 [.fv (.int .i64 13), x71] h72 fun x75 h76 r77 w78 => chkS [] r77 w78 (newS 6298634 (.row [.fv (.int .i64 0), .fv (.int .i64 0), .nils] false) (.ptr (.own 6298634) 0) h76 fun x79 h80 r81 w82 => chkS [(r77, w78), (r73, w74), (r69, w70), (r65, w66), (r61, w62), (r57, w58), (r53, w54), (r50, []), (r48, [])] r81 w82 (storeA 3 x79 x75 h80 fun h83 r84 w85 => S6_272 r84 w85 h83 x79 ih x37 n x19))
noncomputable def S6_274 (r65 : List Ref) (w66 : List Ref) (r50 : List Ref) (r48 : List Ref) (ih : Handler) (h64 : Hp) (x19 : IV) (x47 : IV) (x49 : IV) (x63 : IV) (r61 : List Ref) (w62 : List Ref) (r57 : List Ref) (w58 : List Ref) (r53 : List Ref) (w54 : List Ref) (x37 : IV) (n : Nat) : Option (IV × Hp) :=
  chkS [(r50, []), (r48, [])] r65 w66 (isoS [] false false ih 27 [x19] h64 fun x67 h68 r69 w70 => chkS [(r50, []), (r48, [])] r69 w70 (genS (pcBuildSlice EE 28 4 [(0, x47), (1, x49), (2, x63), (3, x67)]) 6298632 h68 fun x71 h72 r73 w74 => chkS [] r73 w74 (S6_273 ih h72 x71 r73 w74 r69 w70 r65 w66 r61 w62 r57 w58 r53 w54 r50 r48 x37 n x19)))
noncomputable def S6_275 (ih : Handler) (h52 : Hp) (r50 : List Ref) (r48 : List Ref) (x51 : IV) (x19 : IV) (x47 : IV) (x49 : IV) (r53 : List Ref) (w54 : List Ref) (x37 : IV) (n : Nat) : Option (IV × Hp) :=
  isoS [] false false ih 25 [.fv (.int .i64 0)] h52 fun x55 h56 r57 w58 => chkS [(r50, []), (r48, [])] r57 w58 (genS (pcBuildSlice EE 28 2 [(0, x51), (1, x55)]) 6298628 h56 fun x59 h60 r61 w62 => chkS [(r50, []), (r48, [])] r61 w62 (isoS [] false false ih 24 [.fv (.int .i64 16), x59] h60 fun x63 h64 r65 w66 => S6_274 r65 w66 r50 r48 ih h64 x19 x47 x49 x63 r61 w62 r57 w58 r53 w54 x37 n))
noncomputable def S6_276 (r48 : List Ref) (h44 : Hp) (x37 : IV) (ih : Handler) (x19 : IV) (x47 : IV) (n : Nat) : Option (IV × Hp) :=
  chkS [] r48 [] (loadA 3 x37 h44 fun x49 r50 => chkS [(r48, [])] r50 [] (isoS [] false false ih 24 [.fv (.int .i64 15), .nils] h44 fun x51 h52 r53 w54 => chkS [(r50, []), (r48, [])] r53 w54 (S6_275 ih h52 r50 r48 x51 x19 x47 x49 r53 w54 x37 n)))
noncomputable def S6_277 (h38 : Hp) (x33 : IV) (x23 : IV) (x37 : IV) (x29 : IV) (ih : Handler) (x19 : IV) (n : Nat) : Option (IV × Hp) :=
  storeA 3 x33 x23 h38 fun h41 r42 w43 => chkS [] r42 w43 (storeA 3 x37 x29 h41 fun h44 r45 w46 => chkS [] r45 w46 (loadA 3 x33 h44 fun x47 r48 => S6_276 r48 h44 x37 ih x19 x47 n))
noncomputable def S6_278 (r31 : List Ref) (w32 : List Ref) (h30 : Hp) (r28 : List Ref) (r25 : List Ref) (w26 : List Ref) (x23 : IV) (x29 : IV) (ih : Handler) (x19 : IV) (n : Nat) : Option (IV × Hp) :=
  chkS [] r31 w32 (newS 6297603 (.row [.fv (.int .i64 0), .fv (.int .i64 0), .nils] false) (.ptr (.own 6297603) 0) h30 fun x33 h34 r35 w36 => chkS [(r31, w32), (r28, []), (r25, w26)] r35 w36 (newS 6297604 (.row [.fv (.int .i64 0), .fv (.int .i64 0), .nils] false) (.ptr (.own 6297604) 0) h34 fun x37 h38 r39 w40 => chkS [(r35, w36), (r31, w32), (r28, []), (r25, w26)] r39 w40 (S6_277 h38 x33 x23 x37 x29 ih x19 n)))
noncomputable def S6_279 (ih : Handler) (h20 : Hp) (x3 : IV) (x19 : IV) (n : Nat) : Option (IV × Hp) :=
  isoS [] false false ih 24 [.fv (.int .i64 14), .nils] h20 fun x23 h24 r25 w26 => chkS [] r25 w26 (loadA 3 x3 h24 fun x27 r28 => chkS [(r25, w26)] r28 [] (isoS [] false false ih 28 [x27, .fv (.int .i64 2)] h24 fun x29 h30 r31 w32 => S6_278 r31 w32 h30 r28 r25 w26 x23 x29 ih x19 n))
noncomputable def S6_280 (ih : Handler) (h8 : Hp) (x12 : IV) (x0 : IV) (x3 : IV) (n : Nat) : Option (IV × Hp) :=
  isoS [] false false ih 12 [x12] h8 fun x14 h15 _ _ => optS (unR .not x14) fun x18 => condS x18 (outS1 [.fv (.bool true)] h15) (isoS [] false false ih 23 [x0, .fv (.int .i64 20)] h15 fun x19 h20 _ _ => S6_279 ih h20 x3 x19 n)
noncomputable def S6 (ih : Handler) (n : Nat) (x0 : IV) (x1 : IV) (h2 : Hp) : Option (IV × Hp) :=
  boxS 6291456 x1 h2 fun x3 h4 _ _ => isoS [] false false ih 11 [] h4 fun x7 h8 _ _ => optS (unR .not x7) fun x11 => condS x11 (outS1 [.fv (.bool false)] h8) (loadA 3 x3 h8 fun x12 _ => S6_280 ih h8 x12 x0 x3 n)
theorem S6_ok (ih : Handler) (n : Nat) (x0 : IV) (x1 : IV) (h2 : Hp) : funS EE ih ft.get n 6 [x0, x1] h2 = S6 ih n x0 x1 h2 := by kernel_rfl
noncomputable def S11_70 (r61 : List Ref) (w62 : List Ref) (h60 : Hp) (x52 : IV) (x59 : IV) : Option (IV × Hp) :=
  chkS [] r61 w62 (guardS x52 true h60 (fun k63 => optS (unR .not x59) fun x64 => k63 x64 h60 [] []) fun x65 h66 _ _ => pickS x52 x65 (.fv (.bool false)) fun x69 => outS1 [x69] h66)
noncomputable def S11_71 (r50 : List Ref) (w51 : List Ref) (x34 : IV) (x48 : IV) (h49 : Hp) (ih : Handler) : Option (IV × Hp) :=
  chkS [] r50 w51 (pickS x34 x48 (.fv (.bool false)) fun x52 => guardS x52 true h49 (fun k53 => isoS [] false false ih 24 [.fv (.int .i64 10), .nils] h49 k53) fun x54 h55 r56 w57 => chkS [] r56 w57 (guardS x52 true h55 (fun k58 => isoS [] false false ih 18 [x54] h55 k58) fun x59 h60 r61 w62 => S11_70 r61 w62 h60 x52 x59))
noncomputable def S11_72 (h31 : Hp) (x34 : IV) (x27 : IV) (ih : Handler) : Option (IV × Hp) :=
  guardS x34 true h31 (fun k35 => loadA 3 x27 h31 fun x36 r37 => k35 x36 h31 r37 []) fun x38 h39 r40 w41 => chkS [] r40 w41 (guardS x34 true h39 (fun k42 => isoS [] false false ih 26 [.fv (.int .i64 3)] h39 k42) fun x43 h44 r45 w46 => chkS [(r40, w41)] r45 w46 (guardS x34 true h44 (fun k47 => isoS [] false false ih 17 [x38, x43] h44 k47) fun x48 h49 r50 w51 => S11_71 r50 w51 x34 x48 h49 ih))
noncomputable def S11_73 (x21 : IV) (h22 : Hp) (ih : Handler) : Option (IV × Hp) :=
  extS 0 x21 fun x25 => extS 1 x21 fun x26 => newS 11535369 (.row [.fv (.int .i64 0), .fv (.int .i64 0), .nils] false) (.ptr (.own 11535369) 0) h22 fun x27 h28 _ _ => storeA 3 x27 x25 h28 fun h31 _ _ => eqS EE 36 x26 (.fv (.int .i64 0)) fun x34 => S11_72 h31 x34 x27 ih
noncomputable def S11 (ih : Handler) (n : Nat) (h0 : Hp) : Option (IV × Hp) :=
  isoS [] false false ih 26 [.fv (.int .i64 3)] h0 fun x1 h2 _ _ => genS (pcBuildSlice EE 28 1 [(0, x1)]) 11535361 h2 fun x5 h6 _ _ => isoS [] false false ih 24 [.fv (.int .i64 19), x5] h6 fun x9 h10 _ _ => genS (pcBuildSlice EE 28 1 [(0, x9)]) 11535363 h10 fun x13 h14 _ _ => isoS [] false false ih 24 [.fv (.int .i64 30), x13] h14 fun x17 h18 _ _ => isoS [] false false ih 16 [x17] h18 fun x21 h22 _ _ => S11_73 x21 h22 ih
theorem S11_ok (ih : Handler) (n : Nat) (h0 : Hp) : funS EE ih ft.get n 11 [] h0 = S11 ih n h0 := by kernel_rfl
noncomputable def S12 (ih : Handler) (n : Nat) (x0 : IV) (h1 : Hp) : Option (IV × Hp) :=
  boxS 12582912 x0 h1 fun x2 h3 _ _ => loadA 3 x2 h3 fun x6 _ => isoS [] false false ih 36 [x6, .fv (.int .i64 300)] h3 fun x8 h9 _ _ => ltS EE 3 x8 (.fv (.int .i64 300)) fun x12 => outS1 [x12] h9
theorem S12_ok (ih : Handler) (n : Nat) (x0 : IV) (h1 : Hp) : funS EE ih ft.get n 12 [x0] h1 = S12 ih n x0 h1 := by kernel_rfl
noncomputable def S16_61 (h13 : Hp) (x6 : IV) : Option (IV × Hp) :=
  bldS [.fv (.int .i64 0), .fv (.int .i64 0), .nils] [] fun x17 => storeA 3 x6 x17 h13 fun h18 _ _ => cellS true 3 x6 h18 fun x21 => outS1 [x21, .fv (.int .i64 1)] h18
noncomputable def S16_62 (h34 : Hp) (x6 : IV) (x38 : IV) (x29 : IV) : Option (IV × Hp) :=
  storeA 3 x6 x38 h34 fun h39 _ _ => cellS true 3 x6 h39 fun x42 => outS1 [x42, x29] h39
noncomputable def S16_63 (h46 : Hp) (x6 : IV) (x50 : IV) : Option (IV × Hp) :=
  storeA 3 x6 x50 h46 fun h51 _ _ => cellS true 3 x6 h51 fun x54 => outS1 [x54, .fv (.int .i64 10)] h51
noncomputable def S16_64 (h46 : Hp) (x6 : IV) (x55 : IV) : Option (IV × Hp) :=
  storeA 3 x6 x55 h46 fun h57 _ _ => cellS true 3 x6 h57 fun x60 => outS1 [x60, .fv (.int .i64 0)] h57
noncomputable def S16_65 (ih : Handler) (h34 : Hp) (x43 : IV) (x6 : IV) (x30 : IV) : Option (IV × Hp) :=
  isoS [] false false ih 18 [x43] h34 fun x45 h46 _ _ => optS (unR .not x45) fun x49 => condS x49 (bldS [.fv (.int .i64 0), .fv (.int .i64 0), .nils] [] fun x50 => S16_63 h46 x6 x50) (loadA 3 x30 h46 fun x55 _ => S16_64 h46 x6 x55)
noncomputable def S16_66 (h31 : Hp) (x30 : IV) (x28 : IV) (x29 : IV) (x6 : IV) (ih : Handler) : Option (IV × Hp) :=
  storeA 3 x30 x28 h31 fun h34 _ _ => neS EE 36 x29 (.fv (.int .i64 0)) fun x37 => condS x37 (bldS [.fv (.int .i64 0), .fv (.int .i64 0), .nils] [] fun x38 => S16_62 h34 x6 x38 x29) (loadA 3 x30 h34 fun x43 _ => S16_65 ih h34 x43 x6 x30)
noncomputable def S16_67 (h13 : Hp) (x2 : IV) (ih : Handler) (x6 : IV) : Option (IV × Hp) :=
  loadA 3 x2 h13 fun x22 _ => isoS [] false false ih 41 [x22] h13 fun x24 h25 _ _ => extS 0 x24 fun x28 => extS 1 x24 fun x29 => newS 16780293 (.row [.fv (.int .i64 0), .fv (.int .i64 0), .nils] false) (.ptr (.own 16780293) 0) h25 fun x30 h31 _ _ => S16_66 h31 x30 x28 x29 x6 ih
noncomputable def S16 (ih : Handler) (n : Nat) (x0 : IV) (h1 : Hp) : Option (IV × Hp) :=
  boxS 16777216 x0 h1 fun x2 h3 _ _ => newS 16777217 (.row [.fv (.int .i64 0), .fv (.int .i64 0), .nils] false) (.ptr (.own 16777217) 0) h3 fun x6 h7 _ _ => loadA 3 x2 h7 fun x10 _ => isoS [] false false ih 40 [x10] h7 fun x12 h13 _ _ => neS EE 36 x12 (.fv (.int .i64 0)) fun x16 => condS x16 (S16_61 h13 x6) (S16_67 h13 x2 ih x6)
theorem S16_ok (ih : Handler) (n : Nat) (x0 : IV) (h1 : Hp) : funS EE ih ft.get n 16 [x0] h1 = S16 ih n x0 h1 := by kernel_rfl
noncomputable def S17_128 (x101 : IV) (q96 : List IV → Hp → Option (IV × Hp)) (h120 : Hp) (x99 : IV) (x100 : IV) : Option (IV × Hp) :=
  addS EE 3 x101 (.fv (.int .i64 1)) fun x124 => q96 [x99, x100, x124] h120
noncomputable def S17_129 (r118 : List Ref) (r112 : List Ref) (r109 : List Ref) (ih : Handler) (h98 : Hp) (x111 : IV) (x117 : IV) (x101 : IV) (q96 : List IV → Hp → Option (IV × Hp)) (x99 : IV) (x100 : IV) : Option (IV × Hp) :=
  chkS [(r112, []), (r109, [])] r118 [] (isoS [] false false ih 17 [x111, x117] h98 fun x119 h120 r121 w122 => chkS [] r121 w122 (optS (unR .not x119) fun x123 => condS x123 (outS1 [.fv (.bool false)] h120) (S17_128 x101 q96 h120 x99 x100)))
noncomputable def S17_130 (x100 : IV) (h98 : Hp) (r112 : List Ref) (r109 : List Ref) (x101 : IV) (ih : Handler) (x111 : IV) (q96 : List IV → Hp → Option (IV × Hp)) (x99 : IV) : Option (IV × Hp) :=
  faddrS 2 x100 fun x113 => load1 x113 h98 fun x114 r115 => chkS [(r112, []), (r109, [])] r115 [] (ixS 3 x114 x101 fun x116 => loadA 3 x116 h98 fun x117 r118 => S17_129 r118 r112 r109 ih h98 x111 x117 x101 q96 x99 x100)
noncomputable def S17_131 (h98 : Hp) (x107 : IV) (x101 : IV) (x100 : IV) (ih : Handler) (q96 : List IV → Hp → Option (IV × Hp)) (x99 : IV) : Option (IV × Hp) :=
  load1 x107 h98 fun x108 r109 => chkS [] r109 [] (ixS 3 x108 x101 fun x110 => loadA 3 x110 h98 fun x111 r112 => chkS [] r112 [] (S17_130 x100 h98 r112 r109 x101 ih x111 q96 x99))
noncomputable def S17_132 (x103 : IV) (x101 : IV) (x99 : IV) (h98 : Hp) (x100 : IV) (ih : Handler) (q96 : List IV → Hp → Option (IV × Hp)) : Option (IV × Hp) :=
  lenS x103 fun x105 => ltS EE 3 x101 x105 fun x106 => condS x106 (faddrS 2 x99 fun x107 => S17_131 h98 x107 x101 x100 ih q96 x99) (outS1 [.fv (.bool true)] h98)
noncomputable def S17_133 (l97 : List IV) (h98 : Hp) (ih : Handler) (q96 : List IV → Hp → Option (IV × Hp)) : Option (IV × Hp) :=
  uncS l97 fun x99 l125 => uncS l125 fun x100 l126 => uncS l126 fun x101 _ => faddrS 2 x99 fun x102 => load1 x102 h98 fun x103 _ => S17_132 x103 x101 x99 h98 x100 ih q96
noncomputable def S17_134 (x95 : IV) (h92 : Hp) (n : Nat) (x3 : IV) (x7 : IV) (ih : Handler) : Option (IV × Hp) :=
  condS x95 (outS1 [.fv (.bool false)] h92) (loopS n (fun q96 l97 h98 => S17_133 l97 h98 ih q96) [x3, x7, .fv (.int .i64 0)] h92)
noncomputable def S17_135 (h67 : Hp) (x50 : IV) (x7 : IV) (x66 : IV) (n : Nat) (x3 : IV) (ih : Handler) : Option (IV × Hp) :=
  guardS x50 false h67 (fun k70 => faddrS 2 x7 fun x71 => k70 x71 h67 [] []) fun x72 h73 _ _ => guardS x50 false h73 (fun k76 => load1 x72 h73 fun x77 r78 => k76 x77 h73 r78 []) fun x79 h80 _ _ => guardS x50 false h80 (fun k83 => lenS x79 fun x84 => k83 x84 h80 [] []) fun x85 h86 _ _ => guardS x50 false h86 (fun k89 => neS EE 3 x66 x85 fun x90 => k89 x90 h86 [] []) fun x91 h92 _ _ => pickS x50 (.fv (.bool true)) x91 fun x95 => S17_134 x95 h92 n x3 x7 ih
noncomputable def S17_136 (h41 : Hp) (x17 : IV) (x27 : IV) (x40 : IV) (x3 : IV) (x7 : IV) (n : Nat) (ih : Handler) : Option (IV × Hp) :=
  guardS x17 false h41 (fun k44 => neS EE 3 x27 x40 fun x45 => k44 x45 h41 [] []) fun x46 h47 _ _ => pickS x17 (.fv (.bool true)) x46 fun x50 => guardS x50 false h47 (fun k51 => faddrS 2 x3 fun x52 => k51 x52 h47 [] []) fun x53 h54 _ _ => guardS x50 false h54 (fun k57 => load1 x53 h54 fun x58 r59 => k57 x58 h54 r59 []) fun x60 h61 _ _ => guardS x50 false h61 (fun k64 => lenS x60 fun x65 => k64 x65 h61 [] []) fun x66 h67 _ _ => S17_135 h67 x50 x7 x66 n x3 ih
noncomputable def S17_137 (x12 : IV) (x15 : IV) (h8 : Hp) (x3 : IV) (x7 : IV) (n : Nat) (ih : Handler) : Option (IV × Hp) :=
  neS EE 3 x12 x15 fun x17 => guardS x17 false h8 (fun k18 => faddrS 1 x3 fun x19 => k18 x19 h8 [] []) fun x20 h21 _ _ => guardS x17 false h21 (fun k24 => load1 x20 h21 fun x25 r26 => k24 x25 h21 r26 []) fun x27 h28 _ _ => guardS x17 false h28 (fun k31 => faddrS 1 x7 fun x32 => k31 x32 h28 [] []) fun x33 h34 _ _ => guardS x17 false h34 (fun k37 => load1 x33 h34 fun x38 r39 => k37 x38 h34 r39 []) fun x40 h41 _ _ => S17_136 h41 x17 x27 x40 x3 x7 n ih
noncomputable def S17 (ih : Handler) (n : Nat) (x0 : IV) (x1 : IV) (h2 : Hp) : Option (IV × Hp) :=
  boxS 17825792 x0 h2 fun x3 h4 _ _ => boxS 17825793 x1 h4 fun x7 h8 _ _ => faddrS 0 x3 fun x11 => load1 x11 h8 fun x12 _ => faddrS 0 x7 fun x14 => load1 x14 h8 fun x15 _ => S17_137 x12 x15 h8 x3 x7 n ih
theorem S17_ok (ih : Handler) (n : Nat) (x0 : IV) (x1 : IV) (h2 : Hp) : funS EE ih ft.get n 17 [x0, x1] h2 = S17 ih n x0 x1 h2 := by kernel_rfl
noncomputable def S18 (ih : Handler) (n : Nat) (x0 : IV) (h1 : Hp) : Option (IV × Hp) :=
  boxS 18874368 x0 h1 fun x2 h3 _ _ => bldS [.fv (.int .i64 0), .fv (.int .i64 0)] [(0, 1, .fv (.int .i64 20)), (1, 1, .fv (.int .i64 29))] fun x6 => loadA 3 x2 h3 fun x7 _ => isoS [] false false ih 42 [x6, x7] h3 fun x9 h10 _ _ => outS1 [x9] h10
theorem S18_ok (ih : Handler) (n : Nat) (x0 : IV) (h1 : Hp) : funS EE ih ft.get n 18 [x0] h1 = S18 ih n x0 h1 := by kernel_rfl
noncomputable def S19_38 (h23 : Hp) (x7 : IV) (x27 : IV) (x18 : IV) : Option (IV × Hp) :=
  storeA 3 x7 x27 h23 fun h28 _ _ => cellS true 3 x7 h28 fun x31 => outS1 [x31, x18] h28
noncomputable def S19_39 (h23 : Hp) (x7 : IV) (x32 : IV) : Option (IV × Hp) :=
  storeA 3 x7 x32 h23 fun h34 _ _ => cellS true 3 x7 h34 fun x37 => outS1 [x37, .fv (.int .i64 0)] h34
noncomputable def S19_40 (h14 : Hp) (x17 : IV) (x18 : IV) (x7 : IV) : Option (IV × Hp) :=
  newS 19923974 (.row [.fv (.int .i64 0), .fv (.int .i64 0), .nils] false) (.ptr (.own 19923974) 0) h14 fun x19 h20 _ _ => storeA 3 x19 x17 h20 fun h23 _ _ => neS EE 3 x18 (.fv (.int .i64 0)) fun x26 => condS x26 (bldS [.fv (.int .i64 0), .fv (.int .i64 0), .nils] [] fun x27 => S19_38 h23 x7 x27 x18) (loadA 3 x19 h23 fun x32 _ => S19_39 h23 x7 x32)
noncomputable def S19 (ih : Handler) (n : Nat) (x0 : IV) (x1 : IV) (h2 : Hp) : Option (IV × Hp) :=
  boxS 19922944 x1 h2 fun x3 h4 _ _ => newS 19922945 (.row [.fv (.int .i64 0), .fv (.int .i64 0), .nils] false) (.ptr (.own 19922945) 0) h4 fun x7 h8 _ _ => loadA 3 x3 h8 fun x11 _ => isoS [] false false ih 43 [x0, x11] h8 fun x13 h14 _ _ => extS 0 x13 fun x17 => extS 1 x13 fun x18 => S19_40 h14 x17 x18 x7
theorem S19_ok (ih : Handler) (n : Nat) (x0 : IV) (x1 : IV) (h2 : Hp) : funS EE ih ft.get n 19 [x0, x1] h2 = S19 ih n x0 x1 h2 := by kernel_rfl
noncomputable def S23 (ih : Handler) (n : Nat) (x0 : IV) (x1 : IV) (h2 : Hp) : Option (IV × Hp) :=
  binS EE 3 .rem x0 x1 fun x3 => (fun (j1_4 : IV → Hp → Option (IV × Hp)) => ltS EE 3 x3 (.fv (.int .i64 0)) fun x7 => condS x7 (addS EE 3 x3 x1 fun x8 => j1_4 x8 h2) (j1_4 x3 h2)) fun x5 h6 => outS1 [x5] h6
theorem S23_ok (ih : Handler) (n : Nat) (x0 : IV) (x1 : IV) (h2 : Hp) : funS EE ih ft.get n 23 [x0, x1] h2 = S23 ih n x0 x1 h2 := by kernel_rfl
noncomputable def S24 (ih : Handler) (n : Nat) (x0 : IV) (x1 : IV) (h2 : Hp) : Option (IV × Hp) :=
  newS 25165824 (.row [.fv (.int .i64 0), .fv (.int .i64 0), .nils] false) (.ptr (.own 25165824) 0) h2 fun x3 h4 _ _ => bldS [.fv (.int .i64 0), .fv (.int .i64 0), .nils] [(0, 1, x0), (2, 1, x1)] fun x7 => storeA 3 x3 x7 h4 fun h8 _ _ => cellS true 3 x3 h8 fun x11 => outS1 [x11] h8
theorem S24_ok (ih : Handler) (n : Nat) (x0 : IV) (x1 : IV) (h2 : Hp) : funS EE ih ft.get n 24 [x0, x1] h2 = S24 ih n x0 x1 h2 := by kernel_rfl
noncomputable def S25 (ih : Handler) (n : Nat) (x0 : IV) (h1 : Hp) : Option (IV × Hp) :=
  newS 26214400 (.row [.fv (.int .i64 0), .fv (.int .i64 0), .nils] false) (.ptr (.own 26214400) 0) h1 fun x2 h3 _ _ => bldS [.fv (.int .i64 0), .fv (.int .i64 0), .nils] [(0, 1, .fv (.int .i64 1)), (1, 1, x0)] fun x6 => storeA 3 x2 x6 h3 fun h7 _ _ => cellS true 3 x2 h7 fun x10 => outS1 [x10] h7
theorem S25_ok (ih : Handler) (n : Nat) (x0 : IV) (h1 : Hp) : funS EE ih ft.get n 25 [x0] h1 = S25 ih n x0 h1 := by kernel_rfl
noncomputable def S26 (ih : Handler) (n : Nat) (x0 : IV) (h1 : Hp) : Option (IV × Hp) :=
  newS 27262976 (.row [.fv (.int .i64 0), .fv (.int .i64 0), .nils] false) (.ptr (.own 27262976) 0) h1 fun x2 h3 _ _ => bldS [.fv (.int .i64 0), .fv (.int .i64 0), .nils] [(0, 1, .fv (.int .i64 25)), (1, 1, x0)] fun x6 => storeA 3 x2 x6 h3 fun h7 _ _ => cellS true 3 x2 h7 fun x10 => outS1 [x10] h7
theorem S26_ok (ih : Handler) (n : Nat) (x0 : IV) (h1 : Hp) : funS EE ih ft.get n 26 [x0] h1 = S26 ih n x0 h1 := by kernel_rfl
noncomputable def S27_49 (ih : Handler) (h28 : Hp) (x27 : IV) (x22 : IV) (x23 : IV) (q17 : List IV → Hp → Option (IV × Hp)) (x20 : IV) (x21 : IV) : Option (IV × Hp) :=
  isoS [] false false ih 24 [.fv (.int .i64 12), x27] h28 fun x31 h32 _ _ => storeA 3 x22 x31 h32 fun h35 _ _ => addS EE 3 x23 (.fv (.int .i64 1)) fun x38 => q17 [x20, x21, x22, x38] h35
noncomputable def S27_50 (h41 : Hp) (x21 : IV) : Option (IV × Hp) :=
  cellS true 3 x21 h41 fun x44 => outS1 [x44] h41
noncomputable def S27_51 (x24 : IV) (h19 : Hp) (x22 : IV) (ih : Handler) (x23 : IV) (q17 : List IV → Hp → Option (IV × Hp)) (x20 : IV) (x21 : IV) : Option (IV × Hp) :=
  condS x24 (loadA 3 x22 h19 fun x25 _ => genS (pcBuildSlice EE 28 1 [(0, x25)]) 28316673 h19 fun x27 h28 _ _ => S27_49 ih h28 x27 x22 x23 q17 x20 x21) (loadA 3 x22 h19 fun x39 _ => storeA 3 x21 x39 h19 fun h41 _ _ => S27_50 h41 x21)
noncomputable def S27_52 (l18 : List IV) (h19 : Hp) (ih : Handler) (q17 : List IV → Hp → Option (IV × Hp)) : Option (IV × Hp) :=
  uncS l18 fun x20 l45 => uncS l45 fun x21 l46 => uncS l46 fun x22 l47 => uncS l47 fun x23 _ => ltS EE 3 x23 x20 fun x24 => S27_51 x24 h19 x22 ih x23 q17 x20 x21
noncomputable def S27 (ih : Handler) (n : Nat) (x0 : IV) (h1 : Hp) : Option (IV × Hp) :=
  newS 28311552 (.row [.fv (.int .i64 0), .fv (.int .i64 0), .nils] false) (.ptr (.own 28311552) 0) h1 fun x2 h3 _ _ => isoS [] false false ih 24 [.fv (.int .i64 11), .nils] h3 fun x6 h7 _ _ => newS 28312577 (.row [.fv (.int .i64 0), .fv (.int .i64 0), .nils] false) (.ptr (.own 28312577) 0) h7 fun x10 h11 _ _ => storeA 3 x10 x6 h11 fun h14 _ _ => loopS n (fun q17 l18 h19 => S27_52 l18 h19 ih q17) [x0, x2, x10, .fv (.int .i64 0)] h14
theorem S27_ok (ih : Handler) (n : Nat) (x0 : IV) (h1 : Hp) : funS EE ih ft.get n 27 [x0] h1 = S27 ih n x0 h1 := by kernel_rfl
noncomputable def S28_75 (h32 : Hp) (x7 : IV) (x31 : IV) : Option (IV × Hp) :=
  storeA 3 x7 x31 h32 fun h35 _ _ => cellS true 3 x7 h35 fun x38 => outS1 [x38] h35
noncomputable def S28_76 (r72 : List Ref) (w73 : List Ref) (h71 : Hp) (x7 : IV) : Option (IV × Hp) :=
  chkS [] r72 w73 (cellS true 3 x7 h71 fun x74 => outS1 [x74] h71)
noncomputable def S28_77 (h60 : Hp) (x48 : IV) (x59 : IV) (ih : Handler) (x40 : IV) (x7 : IV) : Option (IV × Hp) :=
  genS (pcBuildSlice EE 28 2 [(0, x48), (1, x59)]) 29364237 h60 fun x63 h64 r65 w66 => chkS [] r65 w66 (isoS [] false false ih 24 [x40, x63] h64 fun x67 h68 r69 w70 => chkS [] r69 w70 (storeA 3 x7 x67 h68 fun h71 r72 w73 => S28_76 r72 w73 h71 x7))
noncomputable def S28_78 (ih : Handler) (h49 : Hp) (x52 : IV) (x1 : IV) (x48 : IV) (x40 : IV) (x7 : IV) : Option (IV × Hp) :=
  isoS [] false false ih 56 [x52, .fv (.int .i64 1)] h49 fun x54 h55 r56 w57 => chkS [] r56 w57 (subS EE 3 x1 (.fv (.int .i64 1)) fun x58 => isoS [] false false ih 28 [x54, x58] h55 fun x59 h60 r61 w62 => chkS [] r61 w62 (S28_77 h60 x48 x59 ih x40 x7))
noncomputable def S28_79 (x1 : IV) (ih : Handler) (h44 : Hp) (x43 : IV) (x3 : IV) (r45 : List Ref) (w46 : List Ref) (r42 : List Ref) (x40 : IV) (x7 : IV) : Option (IV × Hp) :=
  subS EE 3 x1 (.fv (.int .i64 1)) fun x47 => isoS [] false false ih 28 [x43, x47] h44 fun x48 h49 r50 w51 => chkS [] r50 w51 (loadA 3 x3 h49 fun x52 r53 => chkS [(r50, w51), (r45, w46), (r42, [])] r53 [] (S28_78 ih h49 x52 x1 x48 x40 x7))
noncomputable def S28_80 (x39 : IV) (h27 : Hp) (x3 : IV) (ih : Handler) (x1 : IV) (x7 : IV) : Option (IV × Hp) :=
  subS EE 3 x39 (.fv (.int .i64 2)) fun x40 => loadA 3 x3 h27 fun x41 r42 => chkS [] r42 [] (isoS [] false false ih 56 [x41, .fv (.int .i64 0)] h27 fun x43 h44 r45 w46 => chkS [] r45 w46 (S28_79 x1 ih h44 x43 x3 r45 w46 r42 x40 x7))
noncomputable def S28_81 (h15 : Hp) (x18 : IV) (x14 : IV) (ih : Handler) (x7 : IV) (x3 : IV) (x1 : IV) : Option (IV × Hp) :=
  guardS x18 false h15 (fun k19 => k19 x14 h15 [] []) fun x20 h21 _ _ => guardS x18 false h21 (fun k24 => ltS EE 3 x20 (.fv (.int .i64 2)) fun x25 => k24 x25 h21 [] []) fun x26 h27 _ _ => pickS x18 (.fv (.bool true)) x26 fun x30 => condS x30 (isoS [] false false ih 24 [.fv (.int .i64 15), .nils] h27 fun x31 h32 _ _ => S28_75 h32 x7 x31) (addS EE 3 (.fv (.int .i64 16)) x14 fun x39 => S28_80 x39 h27 x3 ih x1 x7)
noncomputable def S28 (ih : Handler) (n : Nat) (x0 : IV) (x1 : IV) (h2 : Hp) : Option (IV × Hp) :=
  boxS 29360128 x0 h2 fun x3 h4 _ _ => newS 29360129 (.row [.fv (.int .i64 0), .fv (.int .i64 0), .nils] false) (.ptr (.own 29360129) 0) h4 fun x7 h8 _ _ => faddrS 1 x3 fun x11 => load1 x11 h8 fun x12 _ => isoS [] false false ih 55 [x12, .fv (.int .i64 4)] h8 fun x14 h15 _ _ => leS EE 3 x1 (.fv (.int .i64 0)) fun x18 => S28_81 h15 x18 x14 ih x7 x3 x1
theorem S28_ok (ih : Handler) (n : Nat) (x0 : IV) (x1 : IV) (h2 : Hp) : funS EE ih ft.get n 28 [x0, x1] h2 = S28 ih n x0 x1 h2 := by kernel_rfl
noncomputable def S29_74 (x54 : IV) (q50 : List IV → Hp → Option (IV × Hp)) (h67 : Hp) (x53 : IV) : Option (IV × Hp) :=
  addS EE 3 x54 (.fv (.int .i64 1)) fun x71 => q50 [x53, x71] h67
noncomputable def S29_75 (x61 : IV) (x54 : IV) (h52 : Hp) (ih : Handler) (q50 : List IV → Hp → Option (IV × Hp)) (x53 : IV) : Option (IV × Hp) :=
  ixS 3 x61 x54 fun x63 => loadA 3 x63 h52 fun x64 _ => isoS [] false false ih 29 [x64] h52 fun x66 h67 _ _ => optS (unR .not x66) fun x70 => condS x70 (outS1 [.fv (.bool false)] h67) (S29_74 x54 q50 h67 x53)
noncomputable def S29_76 (x54 : IV) (x58 : IV) (x53 : IV) (h52 : Hp) (ih : Handler) (q50 : List IV → Hp → Option (IV × Hp)) : Option (IV × Hp) :=
  ltS EE 3 x54 x58 fun x59 => condS x59 (faddrS 2 x53 fun x60 => load1 x60 h52 fun x61 _ => S29_75 x61 x54 h52 ih q50 x53) (outS1 [.fv (.bool true)] h52)
noncomputable def S29_77 (l51 : List IV) (h52 : Hp) (ih : Handler) (q50 : List IV → Hp → Option (IV × Hp)) : Option (IV × Hp) :=
  uncS l51 fun x53 l72 => uncS l72 fun x54 _ => faddrS 2 x53 fun x55 => load1 x55 h52 fun x56 _ => lenS x56 fun x58 => S29_76 x54 x58 x53 h52 ih q50
noncomputable def S29_78 (x29 : IV) (x45 : IV) (h46 : Hp) (n : Nat) (x2 : IV) (ih : Handler) : Option (IV × Hp) :=
  pickS x29 x45 (.fv (.bool false)) fun x49 => condS x49 (outS1 [.fv (.bool false)] h46) (loopS n (fun q50 l51 h52 => S29_77 l51 h52 ih q50) [x2, .fv (.int .i64 0)] h46)
noncomputable def S29_79 (h20 : Hp) (x9 : IV) (x19 : IV) (x2 : IV) (n : Nat) (ih : Handler) : Option (IV × Hp) :=
  guardS x9 true h20 (fun k23 => neS EE 3 x19 (.fv (.int .i64 16)) fun x24 => k23 x24 h20 [] []) fun x25 h26 _ _ => pickS x9 x25 (.fv (.bool false)) fun x29 => guardS x29 true h26 (fun k30 => faddrS 0 x2 fun x31 => k30 x31 h26 [] []) fun x32 h33 _ _ => guardS x29 true h33 (fun k36 => load1 x32 h33 fun x37 r38 => k36 x37 h33 r38 []) fun x39 h40 _ _ => guardS x29 true h40 (fun k43 => neS EE 3 x39 (.fv (.int .i64 17)) fun x44 => k43 x44 h40 [] []) fun x45 h46 _ _ => S29_78 x29 x45 h46 n x2 ih
noncomputable def S29 (ih : Handler) (n : Nat) (x0 : IV) (h1 : Hp) : Option (IV × Hp) :=
  boxS 30408704 x0 h1 fun x2 h3 _ _ => faddrS 0 x2 fun x6 => load1 x6 h3 fun x7 _ => neS EE 3 x7 (.fv (.int .i64 15)) fun x9 => guardS x9 true h3 (fun k10 => faddrS 0 x2 fun x11 => k10 x11 h3 [] []) fun x12 h13 _ _ => guardS x9 true h13 (fun k16 => load1 x12 h13 fun x17 r18 => k16 x17 h13 r18 []) fun x19 h20 _ _ => S29_79 h20 x9 x19 x2 n ih
theorem S29_ok (ih : Handler) (n : Nat) (x0 : IV) (h1 : Hp) : funS EE ih ft.get n 29 [x0] h1 = S29 ih n x0 h1 := by kernel_rfl
noncomputable def S35_21 (x17 : IV) (h14 : Hp) : Option (IV × Hp) :=
  faddrS 1 x17 fun x18 => load1 x18 h14 fun x19 _ => outS1 [x19] h14
noncomputable def S35 (ih : Handler) (n : Nat) (x0 : IV) (h1 : Hp) : Option (IV × Hp) :=
  boxS 36700160 x0 h1 fun x2 h3 _ _ => bldS [.fv (.int .i64 0), .fv (.int .i64 0)] [] fun x6 => boxS 36701185 x6 h3 fun x7 h8 _ _ => loadA 3 x2 h8 fun x11 _ => isoS [true, false, false] false false ih 63 [x7, x11, .fv (.int .i64 1)] h8 fun _ h14 _ _ => nilS x7 fun x17 => S35_21 x17 h14
theorem S35_ok (ih : Handler) (n : Nat) (x0 : IV) (h1 : Hp) : funS EE ih ft.get n 35 [x0] h1 = S35 ih n x0 h1 := by kernel_rfl
noncomputable def S36_53 (x12 : IV) (x43 : IV) (x13 : IV) (q7 : List IV → Hp → Option (IV × Hp)) (h44 : Hp) (x10 : IV) (x11 : IV) : Option (IV × Hp) :=
  addS EE 3 x12 x43 fun x47 => addS EE 3 x13 (.fv (.int .i64 1)) fun x48 => q7 [x10, x11, x47, x48] h44
noncomputable def S36_54 (h32 : Hp) (x36 : IV) (x13 : IV) (x10 : IV) (x12 : IV) (ih : Handler) (q7 : List IV → Hp → Option (IV × Hp)) (x11 : IV) : Option (IV × Hp) :=
  load1 x36 h32 fun x37 _ => ixS 3 x37 x13 fun x39 => loadA 3 x39 h32 fun x40 _ => subS EE 3 x10 x12 fun x42 => isoS [] false false ih 36 [x40, x42] h32 fun x43 h44 _ _ => S36_53 x12 x43 x13 q7 h44 x10 x11
noncomputable def S36_55 (h26 : Hp) (x18 : IV) (x20 : IV) (x25 : IV) (x11 : IV) (x13 : IV) (x10 : IV) (x12 : IV) (ih : Handler) (q7 : List IV → Hp → Option (IV × Hp)) : Option (IV × Hp) :=
  guardS x18 true h26 (fun k29 => ltS EE 3 x20 x25 fun x30 => k29 x30 h26 [] []) fun x31 h32 _ _ => pickS x18 x31 (.fv (.bool false)) fun x35 => condS x35 (faddrS 2 x11 fun x36 => S36_54 h32 x36 x13 x10 x12 ih q7 x11) (outS1 [x12] h32)
noncomputable def S36_56 (h9 : Hp) (x14 : IV) (x13 : IV) (x12 : IV) (x10 : IV) (x11 : IV) (ih : Handler) (q7 : List IV → Hp → Option (IV × Hp)) : Option (IV × Hp) :=
  load1 x14 h9 fun x15 _ => lenS x15 fun x17 => ltS EE 3 x13 x17 fun x18 => guardS x18 true h9 (fun k19 => k19 x12 h9 [] []) fun x20 h21 _ _ => guardS x18 true h21 (fun k24 => k24 x10 h21 [] []) fun x25 h26 _ _ => S36_55 h26 x18 x20 x25 x11 x13 x10 x12 ih q7
noncomputable def S36_57 (l8 : List IV) (h9 : Hp) (ih : Handler) (q7 : List IV → Hp → Option (IV × Hp)) : Option (IV × Hp) :=
  uncS l8 fun x10 l49 => uncS l49 fun x11 l50 => uncS l50 fun x12 l51 => uncS l51 fun x13 _ => faddrS 2 x11 fun x14 => S36_56 h9 x14 x13 x12 x10 x11 ih q7
noncomputable def S36 (ih : Handler) (n : Nat) (x0 : IV) (x1 : IV) (h2 : Hp) : Option (IV × Hp) :=
  boxS 37748736 x0 h2 fun x3 h4 _ _ => loopS n (fun q7 l8 h9 => S36_57 l8 h9 ih q7) [x1, x3, .fv (.int .i64 1), .fv (.int .i64 0)] h4
theorem S36_ok (ih : Handler) (n : Nat) (x0 : IV) (x1 : IV) (h2 : Hp) : funS EE ih ft.get n 36 [x0, x1] h2 = S36 ih n x0 x1 h2 := by kernel_rfl
noncomputable def S40 (ih : Handler) (n : Nat) (x0 : IV) (h1 : Hp) : Option (IV × Hp) :=
  boxS 41943040 x0 h1 fun x2 h3 _ _ => loadA 3 x2 h3 fun x6 _ => newS 41944065 (.row [.fv (.int .i64 0)] false) (.ptr (.own 41944065) 0) h3 fun x8 h9 _ _ => isoS [false, true, false] false false ih 68 [x6, x8, .fv (.int .i64 1)] h9 fun x12 h13 _ _ => outS1 [x12] h13
theorem S40_ok (ih : Handler) (n : Nat) (x0 : IV) (h1 : Hp) : funS EE ih ft.get n 40 [x0] h1 = S40 ih n x0 h1 := by kernel_rfl
noncomputable def S41_77 (h13 : Hp) (x6 : IV) : Option (IV × Hp) :=
  bldS [.fv (.int .i64 0), .fv (.int .i64 0), .nils] [] fun x17 => storeA 3 x6 x17 h13 fun h18 _ _ => cellS true 3 x6 h18 fun x21 => outS1 [x21, .fv (.int .i64 1)] h18
noncomputable def S41_78 (r43 : List Ref) (w44 : List Ref) (r41 : List Ref) (h42 : Hp) (x6 : IV) (x40 : IV) : Option (IV × Hp) :=
  chkS [(r41, [])] r43 w44 (cellS true 3 x6 h42 fun x45 => outS1 [x45, x40] h42)
noncomputable def S41_79 (x22 : IV) (h29 : Hp) (x6 : IV) (x37 : IV) : Option (IV × Hp) :=
  nilS x22 fun x38 => faddrS 3 x38 fun x39 => load1 x39 h29 fun x40 r41 => chkS [] r41 [] (storeA 3 x6 x37 h29 fun h42 r43 w44 => S41_78 r43 w44 r41 h42 x6 x40)
noncomputable def S41_80 (h67 : Hp) (x6 : IV) (x65 : IV) : Option (IV × Hp) :=
  cellS true 3 x6 h67 fun x70 => outS1 [x70, x65] h67
noncomputable def S41_81 (x63 : IV) (h54 : Hp) (x6 : IV) (x62 : IV) : Option (IV × Hp) :=
  faddrS 3 x63 fun x64 => load1 x64 h54 fun x65 r66 => chkS [] r66 [] (storeA 3 x6 x62 h54 fun h67 r68 w69 => chkS [(r66, [])] r68 w69 (S41_80 h67 x6 x65))
noncomputable def S41_82 (h73 : Hp) (x6 : IV) : Option (IV × Hp) :=
  cellS true 3 x6 h73 fun x76 => outS1 [x76, .fv (.int .i64 0)] h73
noncomputable def S41_83 (x59 : IV) (x22 : IV) (h54 : Hp) (x6 : IV) (x50 : IV) : Option (IV × Hp) :=
  neS EE 36 x59 (.fv (.int .i64 0)) fun x61 => condS x61 (bldS [.fv (.int .i64 0), .fv (.int .i64 0), .nils] [] fun x62 => nilS x22 fun x63 => S41_81 x63 h54 x6 x62) (loadA 3 x50 h54 fun x71 _ => storeA 3 x6 x71 h54 fun h73 _ _ => S41_82 h73 x6)
noncomputable def S41_84 (h47 : Hp) (x46 : IV) (x22 : IV) (x6 : IV) : Option (IV × Hp) :=
  newS 42998787 (.row [.fv (.int .i64 0), .fv (.int .i64 0), .nils] false) (.ptr (.own 42998787) 0) h47 fun x50 h51 _ _ => storeA 3 x50 x46 h51 fun h54 _ _ => nilS x22 fun x57 => faddrS 3 x57 fun x58 => load1 x58 h54 fun x59 _ => S41_83 x59 x22 h54 x6 x50
noncomputable def S41_85 (h29 : Hp) (x33 : IV) (x22 : IV) (x6 : IV) (ih : Handler) (x28 : IV) : Option (IV × Hp) :=
  load1 x33 h29 fun x34 _ => neS EE 36 x34 (.fv (.int .i64 0)) fun x36 => condS x36 (bldS [.fv (.int .i64 0), .fv (.int .i64 0), .nils] [] fun x37 => S41_79 x22 h29 x6 x37) (isoS [true, false, false, false] false false ih 72 [x22, x28, .fv (.int .i64 0), .fv (.int .i64 1)] h29 fun x46 h47 _ _ => S41_84 h47 x46 x22 x6)
noncomputable def S41_86 (ih : Handler) (h13 : Hp) (x2 : IV) (x6 : IV) : Option (IV × Hp) :=
  inlS ih 70 [] h13 fun x22 h23 _ _ => loadA 3 x2 h23 fun x26 _ => isoS [true, false, false] false false ih 71 [x22, .fv .nilp, x26] h23 fun x28 h29 _ _ => nilS x22 fun x32 => faddrS 3 x32 fun x33 => S41_85 h29 x33 x22 x6 ih x28
noncomputable def S41 (ih : Handler) (n : Nat) (x0 : IV) (h1 : Hp) : Option (IV × Hp) :=
  boxS 42991616 x0 h1 fun x2 h3 _ _ => newS 42991617 (.row [.fv (.int .i64 0), .fv (.int .i64 0), .nils] false) (.ptr (.own 42991617) 0) h3 fun x6 h7 _ _ => loadA 3 x2 h7 fun x10 _ => isoS [] false false ih 69 [x10] h7 fun x12 h13 _ _ => optS (unR .not x12) fun x16 => condS x16 (S41_77 h13 x6) (S41_86 ih h13 x2 x6)
theorem S41_ok (ih : Handler) (n : Nat) (x0 : IV) (h1 : Hp) : funS EE ih ft.get n 41 [x0] h1 = S41 ih n x0 h1 := by kernel_rfl
noncomputable def S42_88 (h23 : Hp) (x26 : IV) (x19 : IV) (ih : Handler) : Option (IV × Hp) :=
  load1 x26 h23 fun x27 _ => genS (val (mkFunc (.func 74) [] [x19])) 44049410 h23 fun x29 h30 _ _ => isoS [] false false ih 73 [x27, x29] h30 fun x33 h34 _ _ => optS (unR .not x33) fun x37 => outS1 [x37] h34
noncomputable def S42_89 (h12 : Hp) (x3 : IV) (x7 : IV) (ih : Handler) : Option (IV × Hp) :=
  loadA 2 x3 h12 fun x13 _ => genS (val (mkFunc (.func 42) [x13] [])) 44048385 h12 fun x15 h16 _ _ => newS 44048386 (.row [.fv (.nilf)] false) (.ptr (.own 44048386) 0) h16 fun x19 h20 _ _ => store1 x19 x15 h20 fun h23 _ _ => faddrS 2 x7 fun x26 => S42_88 h23 x26 x19 ih
noncomputable def S42_90 (h61 : Hp) (x50 : IV) (x3 : IV) (x60 : IV) (j0_11 : Hp → Option (IV × Hp)) : Option (IV × Hp) :=
  guardS x50 false h61 (fun k64 => faddrS 1 x3 fun x65 => k64 x65 h61 [] []) fun x66 h67 _ _ => guardS x50 false h67 (fun k70 => load1 x66 h67 fun x71 r72 => k70 x71 h67 r72 []) fun x73 h74 _ _ => guardS x50 false h74 (fun k77 => gtS EE 3 x60 x73 fun x78 => k77 x78 h74 [] []) fun x79 h80 _ _ => pickS x50 (.fv (.bool true)) x79 fun x83 => condS x83 (outS1 [.fv (.bool false)] h80) (j0_11 h80)
noncomputable def S42_91 (x3 : IV) (h43 : Hp) (x45 : IV) (x7 : IV) (j0_11 : Hp → Option (IV × Hp)) : Option (IV × Hp) :=
  faddrS 0 x3 fun x47 => load1 x47 h43 fun x48 _ => ltS EE 3 x45 x48 fun x50 => guardS x50 false h43 (fun k51 => faddrS 0 x7 fun x52 => k51 x52 h43 [] []) fun x53 h54 _ _ => guardS x50 false h54 (fun k57 => load1 x53 h54 fun x58 r59 => k57 x58 h54 r59 []) fun x60 h61 _ _ => S42_90 h61 x50 x3 x60 j0_11
noncomputable def S42_92 (x42 : IV) (j0_11 : Hp → Option (IV × Hp)) (h43 : Hp) (x7 : IV) (x3 : IV) : Option (IV × Hp) :=
  condS x42 (j0_11 h43) (faddrS 0 x7 fun x44 => load1 x44 h43 fun x45 _ => S42_91 x3 h43 x45 x7 j0_11)
noncomputable def S42_93 (x39 : IV) (j1_41 : IV → Hp → Option (IV × Hp)) (h8 : Hp) : Option (IV × Hp) :=
  eqS EE 3 x39 (.fv (.int .i64 16)) fun x86 => condS x86 (j1_41 x86 h8) (eqS EE 3 x39 (.fv (.int .i64 17)) fun x87 => j1_41 x87 h8)
noncomputable def S42_94 (x39 : IV) (j1_41 : IV → Hp → Option (IV × Hp)) (h8 : Hp) : Option (IV × Hp) :=
  eqS EE 3 x39 (.fv (.int .i64 1)) fun x84 => condS x84 (j1_41 x84 h8) (eqS EE 3 x39 (.fv (.int .i64 15)) fun x85 => condS x85 (j1_41 x85 h8) (S42_93 x39 j1_41 h8))
noncomputable def S42 (ih : Handler) (n : Nat) (x0 : IV) (x1 : IV) (h2 : Hp) : Option (IV × Hp) :=
  boxS 44040192 x0 h2 fun x3 h4 _ _ => boxS 44040193 x1 h4 fun x7 h8 _ _ => (fun (j0_11 : Hp → Option (IV × Hp)) => faddrS 0 x7 fun x38 => load1 x38 h8 fun x39 _ => (fun (j1_41 : IV → Hp → Option (IV × Hp)) => S42_94 x39 j1_41 h8) fun x42 h43 => S42_92 x42 j0_11 h43 x7 x3) fun h12 => S42_89 h12 x3 x7 ih
theorem S42_ok (ih : Handler) (n : Nat) (x0 : IV) (x1 : IV) (h2 : Hp) : funS EE ih ft.get n 42 [x0, x1] h2 = S42 ih n x0 x1 h2 := by kernel_rfl
noncomputable def S43_486 (h22 : Hp) (x18 : IV) (x7 : IV) : Option (IV × Hp) :=
  loadA 3 x18 h22 fun x34 _ => storeA 3 x7 x34 h22 fun h36 _ _ => cellS true 3 x7 h36 fun x39 => outS1 [x39, .fv (.int .i64 8)] h36
noncomputable def S43_487 (x0 : IV) (x45 : IV) (h22 : Hp) (x7 : IV) : Option (IV × Hp) :=
  ixS 3 x0 x45 fun x46 => loadA 3 x46 h22 fun x47 _ => storeA 3 x7 x47 h22 fun h49 _ _ => cellS true 3 x7 h49 fun x52 => outS1 [x52, .fv (.int .i64 0)] h49
noncomputable def S43_488 (x0 : IV) (x3 : IV) (h22 : Hp) (x7 : IV) : Option (IV × Hp) :=
  lenS x0 fun x40 => subS EE 3 x40 (.fv (.int .i64 1)) fun x41 => faddrS 1 x3 fun x42 => load1 x42 h22 fun x43 _ => subS EE 3 x41 x43 fun x45 => S43_487 x0 x45 h22 x7
noncomputable def S43_489 (x3 : IV) (h22 : Hp) (x0 : IV) (x18 : IV) (x7 : IV) : Option (IV × Hp) :=
  faddrS 1 x3 fun x29 => load1 x29 h22 fun x30 _ => lenS x0 fun x32 => geS EE 3 x30 x32 fun x33 => condS x33 (S43_486 h22 x18 x7) (S43_488 x0 x3 h22 x7)
noncomputable def S43_490 (h56 : Hp) (x7 : IV) : Option (IV × Hp) :=
  cellS true 3 x7 h56 fun x59 => outS1 [x59, .fv (.int .i64 0)] h56
noncomputable def S43_491 (h72 : Hp) (x18 : IV) (x7 : IV) (x71 : IV) : Option (IV × Hp) :=
  loadA 3 x18 h72 fun x73 _ => storeA 3 x7 x73 h72 fun h75 _ _ => cellS true 3 x7 h75 fun x78 => outS1 [x78, x71] h75
noncomputable def S43_492 (ih : Handler) (h67 : Hp) (x0 : IV) (x81 : IV) (x83 : IV) (j1_70 : IV → Hp → Option (IV × Hp)) : Option (IV × Hp) :=
  isoS [] false false ih 75 [x0, x81, x83] h67 fun x85 h86 r87 w88 => chkS [] r87 w88 (j1_70 x85 h86)
noncomputable def S43_493 (x12 : IV) (h67 : Hp) (x18 : IV) (ih : Handler) (x0 : IV) (j1_70 : IV → Hp → Option (IV × Hp)) : Option (IV × Hp) :=
  ixS 3 x12 (.fv (.int .i64 1)) fun x80 => loadA 3 x80 h67 fun x81 r82 => chkS [] r82 [] (loadA 3 x18 h67 fun x83 r84 => chkS [(r82, [])] r84 [] (S43_492 ih h67 x0 x81 x83 j1_70))
noncomputable def S43_494 (ih : Handler) (h22 : Hp) (x0 : IV) (x62 : IV) (x64 : IV) (x18 : IV) (x7 : IV) (x12 : IV) : Option (IV × Hp) :=
  isoS [] false false ih 75 [x0, x62, x64] h22 fun x66 h67 r68 w69 => chkS [] r68 w69 ((fun (j1_70 : IV → Hp → Option (IV × Hp)) => eqS EE 3 x66 (.fv (.int .i64 0)) fun x79 => condS x79 (S43_493 x12 h67 x18 ih x0 j1_70) (j1_70 x66 h67)) fun x71 h72 => S43_491 h72 x18 x7 x71)
noncomputable def S43_495 (x12 : IV) (h22 : Hp) (x18 : IV) (ih : Handler) (x0 : IV) (x7 : IV) : Option (IV × Hp) :=
  ixS 3 x12 (.fv (.int .i64 0)) fun x61 => loadA 3 x61 h22 fun x62 r63 => chkS [] r63 [] (loadA 3 x18 h22 fun x64 r65 => chkS [(r63, [])] r65 [] (S43_494 ih h22 x0 x62 x64 x18 x7 x12))
noncomputable def S43_496 (h96 : Hp) (x7 : IV) (x100 : IV) : Option (IV × Hp) :=
  storeA 3 x7 x100 h96 fun h102 _ _ => cellS true 3 x7 h102 fun x105 => outS1 [x105, .fv (.int .i64 10)] h102
noncomputable def S43_497 (h127 : Hp) (x7 : IV) (x111 : IV) (x126 : IV) : Option (IV × Hp) :=
  storeA 3 x7 x111 h127 fun h130 r131 w132 => chkS [] r131 w132 (cellS true 3 x7 h130 fun x133 => outS1 [x133, x126] h130)
noncomputable def S43_498 (x12 : IV) (h117 : Hp) (r122 : List Ref) (r118 : List Ref) (w119 : List Ref) (r115 : List Ref) (r112 : List Ref) (ih : Handler) (x116 : IV) (x121 : IV) (x7 : IV) (x111 : IV) : Option (IV × Hp) :=
  ixS 3 x12 (.fv (.int .i64 0)) fun x123 => loadA 3 x123 h117 fun x124 r125 => chkS [(r122, []), (r118, w119), (r115, []), (r112, [])] r125 [] (isoS [] false false ih 75 [x116, x121, x124] h117 fun x126 h127 r128 w129 => chkS [(r112, [])] r128 w129 (S43_497 h127 x7 x111 x126))
noncomputable def S43_499 (ih : Handler) (h96 : Hp) (x0 : IV) (x114 : IV) (r112 : List Ref) (x12 : IV) (r115 : List Ref) (x7 : IV) (x111 : IV) : Option (IV × Hp) :=
  isoS [] false false ih 76 [x0, x114] h96 fun x116 h117 r118 w119 => chkS [(r112, [])] r118 w119 (ixS 3 x12 (.fv (.int .i64 1)) fun x120 => loadA 3 x120 h117 fun x121 r122 => chkS [(r118, w119), (r115, []), (r112, [])] r122 [] (S43_498 x12 h117 r122 r118 w119 r115 r112 ih x116 x121 x7 x111))
noncomputable def S43_500 (h96 : Hp) (x110 : IV) (x12 : IV) (ih : Handler) (x0 : IV) (x7 : IV) : Option (IV × Hp) :=
  loadA 3 x110 h96 fun x111 r112 => chkS [] r112 [] (ixS 3 x12 (.fv (.int .i64 0)) fun x113 => loadA 3 x113 h96 fun x114 r115 => chkS [(r112, [])] r115 [] (S43_499 ih h96 x0 x114 r112 x12 r115 x7 x111))
noncomputable def S43_501 (h176 : Hp) (x7 : IV) (x175 : IV) : Option (IV × Hp) :=
  cellS true 3 x7 h176 fun x179 => outS1 [x179, x175] h176
noncomputable def S43_502 (r172 : List Ref) (w173 : List Ref) (x170 : IV) (h171 : Hp) (x7 : IV) : Option (IV × Hp) :=
  chkS [] r172 w173 (extS 0 x170 fun x174 => extS 1 x170 fun x175 => storeA 3 x7 x174 h171 fun h176 r177 w178 => chkS [] r177 w178 (S43_501 h176 x7 x175))
noncomputable def S43_503 (h154 : Hp) (x158 : IV) (x160 : IV) (ih : Handler) (x149 : IV) (x7 : IV) : Option (IV × Hp) :=
  genS (pcBuildSlice EE 28 2 [(0, x158), (1, x160)]) 45111300 h154 fun x162 h163 r164 w165 => chkS [] r164 w165 (isoS [] false false ih 24 [.fv (.int .i64 16), x162] h163 fun x166 h167 r168 w169 => chkS [] r168 w169 (isoS [] false false ih 77 [x166, x149] h167 fun x170 h171 r172 w173 => S43_502 r172 w173 x170 h171 x7))
noncomputable def S43_504 (x12 : IV) (h154 : Hp) (x150 : IV) (ih : Handler) (x149 : IV) (x7 : IV) : Option (IV × Hp) :=
  ixS 3 x12 (.fv (.int .i64 0)) fun x157 => loadA 3 x157 h154 fun x158 r159 => chkS [] r159 [] (loadA 3 x150 h154 fun x160 r161 => chkS [(r159, [])] r161 [] (S43_503 h154 x158 x160 ih x149 x7))
noncomputable def S43_505 (x144 : IV) (h145 : Hp) (r146 : List Ref) (w147 : List Ref) (r143 : List Ref) (r139 : List Ref) (w140 : List Ref) (r136 : List Ref) (x148 : IV) (x12 : IV) (ih : Handler) (x7 : IV) : Option (IV × Hp) :=
  extS 1 x144 fun x149 => newS 45110284 (.row [.fv (.int .i64 0), .fv (.int .i64 0), .nils] false) (.ptr (.own 45110284) 0) h145 fun x150 h151 r152 w153 => chkS [(r146, w147), (r143, []), (r139, w140), (r136, [])] r152 w153 (storeA 3 x150 x148 h151 fun h154 r155 w156 => chkS [] r155 w156 (S43_504 x12 h154 x150 ih x149 x7))
noncomputable def S43_506 (h138 : Hp) (x141 : IV) (r139 : List Ref) (w140 : List Ref) (r136 : List Ref) (ih : Handler) (x137 : IV) (x12 : IV) (x7 : IV) : Option (IV × Hp) :=
  loadA 3 x141 h138 fun x142 r143 => chkS [(r139, w140), (r136, [])] r143 [] (isoS [] false false ih 19 [x137, x142] h138 fun x144 h145 r146 w147 => chkS [] r146 w147 (extS 0 x144 fun x148 => S43_505 x144 h145 r146 w147 r143 r139 w140 r136 x148 x12 ih x7))
noncomputable def S43_507 (h96 : Hp) (x134 : IV) (ih : Handler) (x0 : IV) (x12 : IV) (x7 : IV) : Option (IV × Hp) :=
  loadA 3 x134 h96 fun x135 r136 => chkS [] r136 [] (isoS [] false false ih 76 [x0, x135] h96 fun x137 h138 r139 w140 => chkS [] r139 w140 (ixS 3 x12 (.fv (.int .i64 1)) fun x141 => S43_506 h138 x141 r139 w140 r136 ih x137 x12 x7))
noncomputable def S43_508 (h96 : Hp) (x106 : IV) (x12 : IV) (ih : Handler) (x0 : IV) (x7 : IV) : Option (IV × Hp) :=
  load1 x106 h96 fun x107 _ => eqS EE 3 x107 (.fv (.int .i64 29)) fun x109 => condS x109 (ixS 3 x12 (.fv (.int .i64 0)) fun x110 => S43_500 h96 x110 x12 ih x0 x7) (ixS 3 x12 (.fv (.int .i64 0)) fun x134 => S43_507 h96 x134 ih x0 x12 x7)
noncomputable def S43_509 (ih : Handler) (h91 : Hp) (x93 : IV) (x18 : IV) (x7 : IV) (x3 : IV) (x12 : IV) (x0 : IV) : Option (IV × Hp) :=
  isoS [] false false ih 29 [x93] h91 fun x95 h96 _ _ => optS (unR .not x95) fun x99 => condS x99 (loadA 3 x18 h96 fun x100 _ => S43_496 h96 x7 x100) (faddrS 0 x3 fun x106 => S43_508 h96 x106 x12 ih x0 x7)
noncomputable def S43_510 (h194 : Hp) (x7 : IV) (x198 : IV) (x189 : IV) : Option (IV × Hp) :=
  storeA 3 x7 x198 h194 fun h200 _ _ => cellS true 3 x7 h200 fun x203 => outS1 [x203, x189] h200
noncomputable def S43_511 (h214 : Hp) (x7 : IV) (x217 : IV) (x218 : IV) : Option (IV × Hp) :=
  storeA 3 x7 x217 h214 fun h219 r220 w221 => chkS [] r220 w221 (cellS true 3 x7 h219 fun x222 => outS1 [x222, x218] h219)
noncomputable def S43_512 (r212 : List Ref) (r208 : List Ref) (w209 : List Ref) (r205 : List Ref) (ih : Handler) (h207 : Hp) (x206 : IV) (x211 : IV) (x7 : IV) : Option (IV × Hp) :=
  chkS [(r208, w209), (r205, [])] r212 [] (isoS [] false false ih 19 [x206, x211] h207 fun x213 h214 r215 w216 => chkS [] r215 w216 (extS 0 x213 fun x217 => extS 1 x213 fun x218 => S43_511 h214 x7 x217 x218))
noncomputable def S43_513 (r205 : List Ref) (ih : Handler) (h194 : Hp) (x0 : IV) (x204 : IV) (x12 : IV) (x7 : IV) : Option (IV × Hp) :=
  chkS [] r205 [] (isoS [] false false ih 76 [x0, x204] h194 fun x206 h207 r208 w209 => chkS [] r208 w209 (ixS 3 x12 (.fv (.int .i64 1)) fun x210 => loadA 3 x210 h207 fun x211 r212 => S43_512 r212 r208 w209 r205 ih h207 x206 x211 x7))
noncomputable def S43_514 (h185 : Hp) (x188 : IV) (x189 : IV) (x7 : IV) (ih : Handler) (x0 : IV) (x12 : IV) : Option (IV × Hp) :=
  newS 45113352 (.row [.fv (.int .i64 0), .fv (.int .i64 0), .nils] false) (.ptr (.own 45113352) 0) h185 fun x190 h191 _ _ => storeA 3 x190 x188 h191 fun h194 _ _ => neS EE 3 x189 (.fv (.int .i64 0)) fun x197 => condS x197 (loadA 3 x190 h194 fun x198 _ => S43_510 h194 x7 x198 x189) (loadA 3 x190 h194 fun x204 r205 => S43_513 r205 ih h194 x0 x204 x12 x7)
noncomputable def S43_515 (x12 : IV) (h91 : Hp) (ih : Handler) (x0 : IV) (x7 : IV) : Option (IV × Hp) :=
  ixS 3 x12 (.fv (.int .i64 0)) fun x181 => loadA 3 x181 h91 fun x182 _ => isoS [] false false ih 19 [x0, x182] h91 fun x184 h185 _ _ => extS 0 x184 fun x188 => extS 1 x184 fun x189 => S43_514 h185 x188 x189 x7 ih x0 x12
noncomputable def S43_516 (h236 : Hp) (x7 : IV) (x229 : IV) : Option (IV × Hp) :=
  cellS true 3 x7 h236 fun x239 => outS1 [x239, x229] h236
noncomputable def S43_517 (h258 : Hp) (x249 : IV) (x7 : IV) (x257 : IV) : Option (IV × Hp) :=
  loadA 3 x249 h258 fun x259 _ => storeA 3 x7 x259 h258 fun h261 _ _ => cellS true 3 x7 h261 fun x264 => outS1 [x264, x257] h261
noncomputable def S43_518 (r273 : List Ref) (w274 : List Ref) (j1_256 : IV → Hp → Option (IV × Hp)) (h272 : Hp) (x271 : IV) : Option (IV × Hp) :=
  chkS [] r273 w274 (j1_256 x271 h272)
noncomputable def S43_519 (h253 : Hp) (x266 : IV) (x249 : IV) (ih : Handler) (x0 : IV) (j1_256 : IV → Hp → Option (IV × Hp)) : Option (IV × Hp) :=
  loadA 3 x266 h253 fun x267 r268 => chkS [] r268 [] (loadA 3 x249 h253 fun x269 r270 => chkS [(r268, [])] r270 [] (isoS [] false false ih 75 [x0, x267, x269] h253 fun x271 h272 r273 w274 => S43_518 r273 w274 j1_256 h272 x271))
noncomputable def S43_520 (x249 : IV) (x7 : IV) (x248 : IV) (x12 : IV) (h253 : Hp) (ih : Handler) (x0 : IV) : Option (IV × Hp) :=
  (fun (j1_256 : IV → Hp → Option (IV × Hp)) => eqS EE 3 x248 (.fv (.int .i64 0)) fun x265 => condS x265 (ixS 3 x12 (.fv (.int .i64 2)) fun x266 => S43_519 h253 x266 x249 ih x0 j1_256) (j1_256 x248 h253)) fun x257 h258 => S43_517 h258 x249 x7 x257
noncomputable def S43_521 (ih : Handler) (h230 : Hp) (x0 : IV) (x241 : IV) (x7 : IV) (x12 : IV) : Option (IV × Hp) :=
  isoS [] false false ih 19 [x0, x241] h230 fun x243 h244 _ _ => extS 0 x243 fun x247 => extS 1 x243 fun x248 => newS 45121544 (.row [.fv (.int .i64 0), .fv (.int .i64 0), .nils] false) (.ptr (.own 45121544) 0) h244 fun x249 h250 _ _ => storeA 3 x249 x247 h250 fun h253 _ _ => S43_520 x249 x7 x248 x12 h253 ih x0
noncomputable def S43_522 (x229 : IV) (h230 : Hp) (x18 : IV) (x7 : IV) (x12 : IV) (ih : Handler) (x0 : IV) : Option (IV × Hp) :=
  neS EE 3 x229 (.fv (.int .i64 0)) fun x233 => condS x233 (loadA 3 x18 h230 fun x234 _ => storeA 3 x7 x234 h230 fun h236 _ _ => S43_516 h236 x7 x229) (ixS 3 x12 (.fv (.int .i64 1)) fun x240 => loadA 3 x240 h230 fun x241 _ => S43_521 ih h230 x0 x241 x7 x12)
noncomputable def S43_523 (r226 : List Ref) (h91 : Hp) (x18 : IV) (ih : Handler) (x0 : IV) (x225 : IV) (x7 : IV) (x12 : IV) : Option (IV × Hp) :=
  chkS [] r226 [] (loadA 3 x18 h91 fun x227 r228 => chkS [(r226, [])] r228 [] (isoS [] false false ih 75 [x0, x225, x227] h91 fun x229 h230 r231 w232 => chkS [] r231 w232 (S43_522 x229 h230 x18 x7 x12 ih x0)))
noncomputable def S43_524 (h289 : Hp) (x7 : IV) (x293 : IV) (x284 : IV) : Option (IV × Hp) :=
  storeA 3 x7 x293 h289 fun h295 _ _ => cellS true 3 x7 h295 fun x298 => outS1 [x298, x284] h295
noncomputable def S43_525 (ih : Handler) (h324 : Hp) (x323 : IV) (x307 : IV) (x7 : IV) : Option (IV × Hp) :=
  isoS [] false false ih 77 [x323, x307] h324 fun x327 h328 _ _ => extS 0 x327 fun x331 => extS 1 x327 fun x332 => storeA 3 x7 x331 h328 fun h333 _ _ => cellS true 3 x7 h333 fun x336 => outS1 [x336, x332] h333
noncomputable def S43_526 (h309 : Hp) (x308 : IV) (x306 : IV) (x285 : IV) (ih : Handler) (x307 : IV) (x7 : IV) : Option (IV × Hp) :=
  storeA 3 x308 x306 h309 fun h312 _ _ => loadA 3 x285 h312 fun x315 _ => loadA 3 x308 h312 fun x317 _ => genS (pcBuildSlice EE 28 2 [(0, x315), (1, x317)]) 45130754 h312 fun x319 h320 _ _ => isoS [] false false ih 24 [.fv (.int .i64 17), x319] h320 fun x323 h324 _ _ => S43_525 ih h324 x323 x307 x7
noncomputable def S43_527 (h289 : Hp) (x299 : IV) (ih : Handler) (x0 : IV) (x285 : IV) (x7 : IV) : Option (IV × Hp) :=
  loadA 3 x299 h289 fun x300 _ => isoS [] false false ih 19 [x0, x300] h289 fun x302 h303 _ _ => extS 0 x302 fun x306 => extS 1 x302 fun x307 => newS 45129736 (.row [.fv (.int .i64 0), .fv (.int .i64 0), .nils] false) (.ptr (.own 45129736) 0) h303 fun x308 h309 _ _ => S43_526 h309 x308 x306 x285 ih x307 x7
noncomputable def S43_528 (h280 : Hp) (x283 : IV) (x284 : IV) (x7 : IV) (x12 : IV) (ih : Handler) (x0 : IV) : Option (IV × Hp) :=
  newS 45126664 (.row [.fv (.int .i64 0), .fv (.int .i64 0), .nils] false) (.ptr (.own 45126664) 0) h280 fun x285 h286 _ _ => storeA 3 x285 x283 h286 fun h289 _ _ => neS EE 3 x284 (.fv (.int .i64 0)) fun x292 => condS x292 (loadA 3 x285 h289 fun x293 _ => S43_524 h289 x7 x293 x284) (ixS 3 x12 (.fv (.int .i64 1)) fun x299 => S43_527 h289 x299 ih x0 x285 x7)
noncomputable def S43_529 (x12 : IV) (h91 : Hp) (ih : Handler) (x0 : IV) (x7 : IV) : Option (IV × Hp) :=
  ixS 3 x12 (.fv (.int .i64 0)) fun x276 => loadA 3 x276 h91 fun x277 _ => isoS [] false false ih 19 [x0, x277] h91 fun x279 h280 _ _ => extS 0 x279 fun x283 => extS 1 x279 fun x284 => S43_528 h280 x283 x284 x7 x12 ih x0
noncomputable def S43_530 (h363 : Hp) (x7 : IV) (x358 : IV) : Option (IV × Hp) :=
  cellS true 3 x7 h363 fun x366 => outS1 [x366, x358] h363
noncomputable def S43_531 (x368 : IV) (h359 : Hp) (x7 : IV) : Option (IV × Hp) :=
  ixS 3 x368 (.fv (.int .i64 1)) fun x370 => loadA 3 x370 h359 fun x371 _ => storeA 3 x7 x371 h359 fun h373 _ _ => cellS true 3 x7 h373 fun x376 => outS1 [x376, .fv (.int .i64 0)] h373
noncomputable def S43_532 (x358 : IV) (h359 : Hp) (x18 : IV) (x7 : IV) (x347 : IV) : Option (IV × Hp) :=
  neS EE 3 x358 (.fv (.int .i64 0)) fun x360 => condS x360 (loadA 3 x18 h359 fun x361 _ => storeA 3 x7 x361 h359 fun h363 _ _ => S43_530 h363 x7 x358) (faddrS 2 x347 fun x367 => load1 x367 h359 fun x368 _ => S43_531 x368 h359 x7)
noncomputable def S43_533 (x382 : IV) (h356 : Hp) (r380 : List Ref) (ih : Handler) (x0 : IV) (x379 : IV) (j1_357 : IV → Hp → Option (IV × Hp)) : Option (IV × Hp) :=
  ixS 3 x382 (.fv (.int .i64 0)) fun x384 => loadA 3 x384 h356 fun x385 r386 => chkS [(r380, [])] r386 [] (isoS [] false false ih 75 [x0, x379, x385] h356 fun x387 h388 r389 w390 => chkS [] r389 w390 (j1_357 x387 h388))
noncomputable def S43_534 (h356 : Hp) (x378 : IV) (x347 : IV) (ih : Handler) (x0 : IV) (j1_357 : IV → Hp → Option (IV × Hp)) : Option (IV × Hp) :=
  loadA 3 x378 h356 fun x379 r380 => chkS [] r380 [] (faddrS 2 x347 fun x381 => load1 x381 h356 fun x382 r383 => chkS [(r380, [])] r383 [] (S43_533 x382 h356 r380 ih x0 x379 j1_357))
noncomputable def S43_535 (x18 : IV) (x7 : IV) (x347 : IV) (x355 : IV) (x12 : IV) (h356 : Hp) (ih : Handler) (x0 : IV) : Option (IV × Hp) :=
  (fun (j1_357 : IV → Hp → Option (IV × Hp)) => eqS EE 3 x355 (.fv (.int .i64 0)) fun x377 => condS x377 (ixS 3 x12 (.fv (.int .i64 1)) fun x378 => S43_534 h356 x378 x347 ih x0 j1_357) (j1_357 x355 h356)) fun x358 h359 => S43_532 x358 h359 x18 x7 x347
noncomputable def S43_536 (x391 : IV) (x407 : IV) (j1_354 : IV → Hp → Option (IV × Hp)) (h408 : Hp) (x346 : IV) : Option (IV × Hp) :=
  pickS x391 x407 (.fv (.bool false)) fun x411 => condS x411 (j1_354 (.fv (.int .i64 12)) h408) (j1_354 x346 h408)
noncomputable def S43_537 (x18 : IV) (x7 : IV) (x347 : IV) (x12 : IV) (ih : Handler) (x0 : IV) (x346 : IV) (h351 : Hp) : Option (IV × Hp) :=
  (fun (j1_354 : IV → Hp → Option (IV × Hp)) => eqS EE 3 x346 (.fv (.int .i64 0)) fun x391 => guardS x391 true h351 (fun k392 => faddrS 0 x347 fun x393 => k392 x393 h351 [] []) fun x394 h395 _ _ => guardS x391 true h395 (fun k398 => load1 x394 h395 fun x399 r400 => k398 x399 h395 r400 []) fun x401 h402 _ _ => guardS x391 true h402 (fun k405 => neS EE 3 x401 (.fv (.int .i64 16)) fun x406 => k405 x406 h402 [] []) fun x407 h408 _ _ => S43_536 x391 x407 j1_354 h408 x346) fun x355 h356 => S43_535 x18 x7 x347 x355 x12 h356 ih x0
noncomputable def S43_538 (ih : Handler) (h91 : Hp) (x0 : IV) (x339 : IV) (x18 : IV) (x7 : IV) (x12 : IV) : Option (IV × Hp) :=
  isoS [] false false ih 19 [x0, x339] h91 fun x341 h342 _ _ => extS 0 x341 fun x345 => extS 1 x341 fun x346 => newS 45132808 (.row [.fv (.int .i64 0), .fv (.int .i64 0), .nils] false) (.ptr (.own 45132808) 0) h342 fun x347 h348 _ _ => storeA 3 x347 x345 h348 fun h351 _ _ => S43_537 x18 x7 x347 x12 ih x0 x346 h351
noncomputable def S43_539 (h437 : Hp) (x7 : IV) (x432 : IV) : Option (IV × Hp) :=
  cellS true 3 x7 h437 fun x440 => outS1 [x440, x432] h437
noncomputable def S43_540 (h433 : Hp) (x7 : IV) (x449 : IV) : Option (IV × Hp) :=
  storeA 3 x7 x449 h433 fun h451 _ _ => cellS true 3 x7 h451 fun x454 => outS1 [x454, .fv (.int .i64 0)] h451
noncomputable def S43_541 (x3 : IV) (h433 : Hp) (x442 : IV) (x7 : IV) : Option (IV × Hp) :=
  faddrS 0 x3 fun x444 => load1 x444 h433 fun x445 _ => subS EE 3 x445 (.fv (.int .i64 23)) fun x447 => ixS 3 x442 x447 fun x448 => loadA 3 x448 h433 fun x449 _ => S43_540 h433 x7 x449
noncomputable def S43_542 (x432 : IV) (h433 : Hp) (x18 : IV) (x7 : IV) (x424 : IV) (x3 : IV) : Option (IV × Hp) :=
  neS EE 3 x432 (.fv (.int .i64 0)) fun x434 => condS x434 (loadA 3 x18 h433 fun x435 _ => storeA 3 x7 x435 h433 fun h437 _ _ => S43_539 h437 x7 x432) (faddrS 2 x424 fun x441 => load1 x441 h433 fun x442 _ => S43_541 x3 h433 x442 x7)
noncomputable def S43_543 (x455 : IV) (x471 : IV) (j1_431 : IV → Hp → Option (IV × Hp)) (h472 : Hp) (x423 : IV) : Option (IV × Hp) :=
  pickS x455 x471 (.fv (.bool false)) fun x475 => condS x475 (j1_431 (.fv (.int .i64 12)) h472) (j1_431 x423 h472)
noncomputable def S43_544 (x18 : IV) (x7 : IV) (x424 : IV) (x3 : IV) (x423 : IV) (h428 : Hp) : Option (IV × Hp) :=
  (fun (j1_431 : IV → Hp → Option (IV × Hp)) => eqS EE 3 x423 (.fv (.int .i64 0)) fun x455 => guardS x455 true h428 (fun k456 => faddrS 0 x424 fun x457 => k456 x457 h428 [] []) fun x458 h459 _ _ => guardS x455 true h459 (fun k462 => load1 x458 h459 fun x463 r464 => k462 x463 h459 r464 []) fun x465 h466 _ _ => guardS x455 true h466 (fun k469 => neS EE 3 x465 (.fv (.int .i64 17)) fun x470 => k469 x470 h466 [] []) fun x471 h472 _ _ => S43_543 x455 x471 j1_431 h472 x423) fun x432 h433 => S43_542 x432 h433 x18 x7 x424 x3
noncomputable def S43_545 (ih : Handler) (h414 : Hp) (x0 : IV) (x416 : IV) (x18 : IV) (x7 : IV) (x3 : IV) : Option (IV × Hp) :=
  isoS [] false false ih 19 [x0, x416] h414 fun x418 h419 _ _ => extS 0 x418 fun x422 => extS 1 x418 fun x423 => newS 45143048 (.row [.fv (.int .i64 0), .fv (.int .i64 0), .nils] false) (.ptr (.own 45143048) 0) h419 fun x424 h425 _ _ => storeA 3 x424 x422 h425 fun h428 _ _ => S43_544 x18 x7 x424 x3 x423 h428
noncomputable def S43_546 (h478 : Hp) (x7 : IV) : Option (IV × Hp) :=
  cellS true 3 x7 h478 fun x481 => outS1 [x481, .fv (.int .i64 10)] h478
noncomputable def S43_547 (x413 : IV) (x12 : IV) (h414 : Hp) (ih : Handler) (x0 : IV) (x18 : IV) (x7 : IV) (x3 : IV) : Option (IV × Hp) :=
  condS x413 (ixS 3 x12 (.fv (.int .i64 0)) fun x415 => loadA 3 x415 h414 fun x416 _ => S43_545 ih h414 x0 x416 x18 x7 x3) (loadA 3 x18 h414 fun x476 _ => storeA 3 x7 x476 h414 fun h478 _ _ => S43_546 h478 x7)
noncomputable def S43_548 (x482 : IV) (j1_412 : IV → Hp → Option (IV × Hp)) (h91 : Hp) (x26 : IV) : Option (IV × Hp) :=
  condS x482 (j1_412 x482 h91) (eqS EE 3 x26 (.fv (.int .i64 24)) fun x483 => j1_412 x483 h91)
noncomputable def S43_549 (x26 : IV) (x12 : IV) (h91 : Hp) (ih : Handler) (x0 : IV) (x18 : IV) (x7 : IV) (x3 : IV) : Option (IV × Hp) :=
  eqS EE 3 x26 (.fv (.int .i64 21)) fun x337 => condS x337 (ixS 3 x12 (.fv (.int .i64 0)) fun x338 => loadA 3 x338 h91 fun x339 _ => S43_538 ih h91 x0 x339 x18 x7 x12) ((fun (j1_412 : IV → Hp → Option (IV × Hp)) => eqS EE 3 x26 (.fv (.int .i64 23)) fun x482 => S43_548 x482 j1_412 h91 x26) fun x413 h414 => S43_547 x413 x12 h414 ih x0 x18 x7 x3)
noncomputable def S43_550 (x26 : IV) (x12 : IV) (h91 : Hp) (x18 : IV) (ih : Handler) (x0 : IV) (x7 : IV) (x3 : IV) : Option (IV × Hp) :=
  eqS EE 3 x26 (.fv (.int .i64 27)) fun x223 => condS x223 (ixS 3 x12 (.fv (.int .i64 0)) fun x224 => loadA 3 x224 h91 fun x225 r226 => S43_523 r226 h91 x18 ih x0 x225 x7 x12) (eqS EE 3 x26 (.fv (.int .i64 22)) fun x275 => condS x275 (S43_529 x12 h91 ih x0 x7) (S43_549 x26 x12 h91 ih x0 x18 x7 x3))
noncomputable def S43_551 (x90 : IV) (x12 : IV) (h91 : Hp) (ih : Handler) (x18 : IV) (x7 : IV) (x3 : IV) (x0 : IV) (x26 : IV) : Option (IV × Hp) :=
  condS x90 (ixS 3 x12 (.fv (.int .i64 0)) fun x92 => loadA 3 x92 h91 fun x93 _ => S43_509 ih h91 x93 x18 x7 x3 x12 x0) (eqS EE 3 x26 (.fv (.int .i64 28)) fun x180 => condS x180 (S43_515 x12 h91 ih x0 x7) (S43_550 x26 x12 h91 x18 ih x0 x7 x3))
noncomputable def S43_552 (x12 : IV) (ih : Handler) (x18 : IV) (x7 : IV) (x3 : IV) (x0 : IV) (x26 : IV) (h22 : Hp) : Option (IV × Hp) :=
  (fun (j1_89 : IV → Hp → Option (IV × Hp)) => eqS EE 3 x26 (.fv (.int .i64 20)) fun x484 => condS x484 (j1_89 x484 h22) (eqS EE 3 x26 (.fv (.int .i64 29)) fun x485 => j1_89 x485 h22)) fun x90 h91 => S43_551 x90 x12 h91 ih x18 x7 x3 x0 x26
noncomputable def S43_553 (x26 : IV) (h22 : Hp) (x18 : IV) (x7 : IV) (x12 : IV) (ih : Handler) (x0 : IV) (x3 : IV) : Option (IV × Hp) :=
  eqS EE 3 x26 (.fv (.int .i64 25)) fun x53 => condS x53 (loadA 3 x18 h22 fun x54 _ => storeA 3 x7 x54 h22 fun h56 _ _ => S43_490 h56 x7) (eqS EE 3 x26 (.fv (.int .i64 26)) fun x60 => condS x60 (S43_495 x12 h22 x18 ih x0 x7) (S43_552 x12 ih x18 x7 x3 x0 x26 h22))
noncomputable def S43_554 (h19 : Hp) (x18 : IV) (x14 : IV) (x3 : IV) (x0 : IV) (x7 : IV) (x12 : IV) (ih : Handler) : Option (IV × Hp) :=
  storeA 3 x18 x14 h19 fun h22 _ _ => faddrS 0 x3 fun x25 => load1 x25 h22 fun x26 _ => eqS EE 3 x26 (.fv (.int .i64 1)) fun x28 => condS x28 (S43_489 x3 h22 x0 x18 x7) (S43_553 x26 h22 x18 x7 x12 ih x0 x3)
noncomputable def S43 (ih : Handler) (n : Nat) (x0 : IV) (x1 : IV) (h2 : Hp) : Option (IV × Hp) :=
  boxS 45088768 x1 h2 fun x3 h4 _ _ => newS 45088769 (.row [.fv (.int .i64 0), .fv (.int .i64 0), .nils] false) (.ptr (.own 45088769) 0) h4 fun x7 h8 _ _ => faddrS 2 x3 fun x11 => load1 x11 h8 fun x12 _ => isoS [] false false ih 24 [.fv (.int .i64 15), .nils] h8 fun x14 h15 _ _ => newS 45090817 (.row [.fv (.int .i64 0), .fv (.int .i64 0), .nils] false) (.ptr (.own 45090817) 0) h15 fun x18 h19 _ _ => S43_554 h19 x18 x14 x3 x0 x7 x12 ih
theorem S43_ok (ih : Handler) (n : Nat) (x0 : IV) (x1 : IV) (h2 : Hp) : funS EE ih ft.get n 43 [x0, x1] h2 = S43 ih n x0 x1 h2 := by kernel_rfl
noncomputable def S52_44 (x12 : IV) (h13 : Hp) (x0 : IV) : Option (IV × Hp) :=
  condS x12 (outS1 [.fv (.int .i64 3)] h13) (eqS EE 3 x0 (.fv (.int .i64 13)) fun x14 => condS x14 (outS1 [.fv (.int .i64 4)] h13) (outS1 [.fv (.int .i64 (-1))] h13))
noncomputable def S52_45 (x15 : IV) (j1_11 : IV → Hp → Option (IV × Hp)) (h10 : Hp) (x0 : IV) : Option (IV × Hp) :=
  condS x15 (j1_11 x15 h10) (eqS EE 3 x0 (.fv (.int .i64 27)) fun x16 => j1_11 x16 h10)
noncomputable def S52_46 (x9 : IV) (h10 : Hp) (x0 : IV) : Option (IV × Hp) :=
  condS x9 (outS1 [.fv (.int .i64 2)] h10) ((fun (j1_11 : IV → Hp → Option (IV × Hp)) => eqS EE 3 x0 (.fv (.int .i64 7)) fun x15 => S52_45 x15 j1_11 h10 x0) fun x12 h13 => S52_44 x12 h13 x0)
noncomputable def S52_47 (x0 : IV) (j1_8 : IV → Hp → Option (IV × Hp)) (h7 : Hp) : Option (IV × Hp) :=
  eqS EE 3 x0 (.fv (.int .i64 28)) fun x27 => condS x27 (j1_8 x27 h7) (eqS EE 3 x0 (.fv (.int .i64 29)) fun x28 => j1_8 x28 h7)
noncomputable def S52_48 (x0 : IV) (j1_8 : IV → Hp → Option (IV × Hp)) (h7 : Hp) : Option (IV × Hp) :=
  eqS EE 3 x0 (.fv (.int .i64 22)) fun x25 => condS x25 (j1_8 x25 h7) (eqS EE 3 x0 (.fv (.int .i64 26)) fun x26 => condS x26 (j1_8 x26 h7) (S52_47 x0 j1_8 h7))
noncomputable def S52_49 (x0 : IV) (j1_8 : IV → Hp → Option (IV × Hp)) (h7 : Hp) : Option (IV × Hp) :=
  eqS EE 3 x0 (.fv (.int .i64 20)) fun x23 => condS x23 (j1_8 x23 h7) (eqS EE 3 x0 (.fv (.int .i64 21)) fun x24 => condS x24 (j1_8 x24 h7) (S52_48 x0 j1_8 h7))
noncomputable def S52_50 (x0 : IV) (j1_8 : IV → Hp → Option (IV × Hp)) (h7 : Hp) : Option (IV × Hp) :=
  eqS EE 3 x0 (.fv (.int .i64 16)) fun x21 => condS x21 (j1_8 x21 h7) (eqS EE 3 x0 (.fv (.int .i64 17)) fun x22 => condS x22 (j1_8 x22 h7) (S52_49 x0 j1_8 h7))
noncomputable def S52_51 (x0 : IV) (j1_8 : IV → Hp → Option (IV × Hp)) (h7 : Hp) : Option (IV × Hp) :=
  eqS EE 3 x0 (.fv (.int .i64 5)) fun x19 => condS x19 (j1_8 x19 h7) (eqS EE 3 x0 (.fv (.int .i64 6)) fun x20 => condS x20 (j1_8 x20 h7) (S52_50 x0 j1_8 h7))
noncomputable def S52_52 (x17 : IV) (j1_8 : IV → Hp → Option (IV × Hp)) (h7 : Hp) (x0 : IV) : Option (IV × Hp) :=
  condS x17 (j1_8 x17 h7) (eqS EE 3 x0 (.fv (.int .i64 4)) fun x18 => condS x18 (j1_8 x18 h7) (S52_51 x0 j1_8 h7))
noncomputable def S52_53 (x6 : IV) (h7 : Hp) (x0 : IV) : Option (IV × Hp) :=
  condS x6 (outS1 [.fv (.int .i64 1)] h7) ((fun (j1_8 : IV → Hp → Option (IV × Hp)) => eqS EE 3 x0 (.fv (.int .i64 3)) fun x17 => S52_52 x17 j1_8 h7 x0) fun x9 h10 => S52_46 x9 h10 x0)
noncomputable def S52_54 (x0 : IV) (j1_5 : IV → Hp → Option (IV × Hp)) (h4 : Hp) : Option (IV × Hp) :=
  eqS EE 3 x0 (.fv (.int .i64 24)) fun x35 => condS x35 (j1_5 x35 h4) (eqS EE 3 x0 (.fv (.int .i64 30)) fun x36 => j1_5 x36 h4)
noncomputable def S52_55 (x0 : IV) (j1_5 : IV → Hp → Option (IV × Hp)) (h4 : Hp) : Option (IV × Hp) :=
  eqS EE 3 x0 (.fv (.int .i64 19)) fun x33 => condS x33 (j1_5 x33 h4) (eqS EE 3 x0 (.fv (.int .i64 23)) fun x34 => condS x34 (j1_5 x34 h4) (S52_54 x0 j1_5 h4))
noncomputable def S52_56 (x0 : IV) (j1_5 : IV → Hp → Option (IV × Hp)) (h4 : Hp) : Option (IV × Hp) :=
  eqS EE 3 x0 (.fv (.int .i64 12)) fun x31 => condS x31 (j1_5 x31 h4) (eqS EE 3 x0 (.fv (.int .i64 18)) fun x32 => condS x32 (j1_5 x32 h4) (S52_55 x0 j1_5 h4))
noncomputable def S52_57 (x29 : IV) (j1_5 : IV → Hp → Option (IV × Hp)) (h4 : Hp) (x0 : IV) : Option (IV × Hp) :=
  condS x29 (j1_5 x29 h4) (eqS EE 3 x0 (.fv (.int .i64 9)) fun x30 => condS x30 (j1_5 x30 h4) (S52_56 x0 j1_5 h4))
noncomputable def S52_58 (x3 : IV) (h4 : Hp) (x0 : IV) : Option (IV × Hp) :=
  condS x3 (outS1 [.fv (.int .i64 0)] h4) ((fun (j1_5 : IV → Hp → Option (IV × Hp)) => eqS EE 3 x0 (.fv (.int .i64 8)) fun x29 => S52_57 x29 j1_5 h4 x0) fun x6 h7 => S52_53 x6 h7 x0)
noncomputable def S52_59 (x0 : IV) (j1_2 : IV → Hp → Option (IV × Hp)) (h1 : Hp) : Option (IV × Hp) :=
  eqS EE 3 x0 (.fv (.int .i64 25)) fun x43 => j1_2 x43 h1
noncomputable def S52_60 (x0 : IV) (j1_2 : IV → Hp → Option (IV × Hp)) (h1 : Hp) : Option (IV × Hp) :=
  eqS EE 3 x0 (.fv (.int .i64 14)) fun x41 => condS x41 (j1_2 x41 h1) (eqS EE 3 x0 (.fv (.int .i64 15)) fun x42 => condS x42 (j1_2 x42 h1) (S52_59 x0 j1_2 h1))
noncomputable def S52_61 (x0 : IV) (j1_2 : IV → Hp → Option (IV × Hp)) (h1 : Hp) : Option (IV × Hp) :=
  eqS EE 3 x0 (.fv (.int .i64 10)) fun x39 => condS x39 (j1_2 x39 h1) (eqS EE 3 x0 (.fv (.int .i64 11)) fun x40 => condS x40 (j1_2 x40 h1) (S52_60 x0 j1_2 h1))
noncomputable def S52 (ih : Handler) (n : Nat) (x0 : IV) (h1 : Hp) : Option (IV × Hp) :=
  (fun (j1_2 : IV → Hp → Option (IV × Hp)) => eqS EE 3 x0 (.fv (.int .i64 1)) fun x37 => condS x37 (j1_2 x37 h1) (eqS EE 3 x0 (.fv (.int .i64 2)) fun x38 => condS x38 (j1_2 x38 h1) (S52_61 x0 j1_2 h1))) fun x3 h4 => S52_58 x3 h4 x0
theorem S52_ok (ih : Handler) (n : Nat) (x0 : IV) (h1 : Hp) : funS EE ih ft.get n 52 [x0] h1 = S52 ih n x0 h1 := by kernel_rfl
noncomputable def S55 (ih : Handler) (n : Nat) (x0 : IV) (x1 : IV) (h2 : Hp) : Option (IV × Hp) :=
  binS EE 3 .rem x0 x1 fun x3 => (fun (j1_4 : IV → Hp → Option (IV × Hp)) => ltS EE 3 x3 (.fv (.int .i64 0)) fun x7 => condS x7 (addS EE 3 x3 x1 fun x8 => j1_4 x8 h2) (j1_4 x3 h2)) fun x5 h6 => outS1 [x5] h6
theorem S55_ok (ih : Handler) (n : Nat) (x0 : IV) (x1 : IV) (h2 : Hp) : funS EE ih ft.get n 55 [x0, x1] h2 = S55 ih n x0 x1 h2 := by kernel_rfl
noncomputable def S56_42 (x17 : IV) (x1 : IV) (h8 : Hp) (x7 : IV) : Option (IV × Hp) :=
  ixS 3 x17 x1 fun x19 => loadA 3 x19 h8 fun x20 _ => storeA 3 x7 x20 h8 fun h22 _ _ => cellS true 3 x7 h22 fun x25 => outS1 [x25] h22
noncomputable def S56_43 (x1 : IV) (x34 : IV) (x30 : IV) (h8 : Hp) (x7 : IV) : Option (IV × Hp) :=
  binS EE 3 .mul (.fv (.int .i64 7)) x1 fun x35 => addS EE 3 x34 x35 fun x36 => bldS [.fv (.int .i64 0), .fv (.int .i64 0), .nils] [(0, 1, x30), (1, 1, x36)] fun x37 => storeA 3 x7 x37 h8 fun h38 _ _ => cellS true 3 x7 h38 fun x41 => outS1 [x41] h38
noncomputable def S56_44 (x27 : IV) (x1 : IV) (x3 : IV) (h8 : Hp) (x7 : IV) : Option (IV × Hp) :=
  binS EE 3 .quo x27 (.fv (.int .i64 3)) fun x29 => addS EE 3 x29 x1 fun x30 => faddrS 1 x3 fun x31 => load1 x31 h8 fun x32 _ => binS EE 3 .quo x32 (.fv (.int .i64 5)) fun x34 => S56_43 x1 x34 x30 h8 x7
noncomputable def S56_45 (x15 : IV) (x3 : IV) (h8 : Hp) (x1 : IV) (x7 : IV) : Option (IV × Hp) :=
  condS x15 (faddrS 2 x3 fun x16 => load1 x16 h8 fun x17 _ => S56_42 x17 x1 h8 x7) (faddrS 0 x3 fun x26 => load1 x26 h8 fun x27 _ => S56_44 x27 x1 x3 h8 x7)
noncomputable def S56 (ih : Handler) (n : Nat) (x0 : IV) (x1 : IV) (h2 : Hp) : Option (IV × Hp) :=
  boxS 58720256 x0 h2 fun x3 h4 _ _ => newS 58720257 (.row [.fv (.int .i64 0), .fv (.int .i64 0), .nils] false) (.ptr (.own 58720257) 0) h4 fun x7 h8 _ _ => faddrS 2 x3 fun x11 => load1 x11 h8 fun x12 _ => lenS x12 fun x14 => ltS EE 3 x1 x14 fun x15 => S56_45 x15 x3 h8 x1 x7
theorem S56_ok (ih : Handler) (n : Nat) (x0 : IV) (x1 : IV) (h2 : Hp) : funS EE ih ft.get n 56 [x0, x1] h2 = S56 ih n x0 x1 h2 := by kernel_rfl
noncomputable def S63_156 (ih : Handler) (h59 : Hp) (x23 : IV) (x67 : IV) (x69 : IV) (x26 : IV) (q20 : List IV → Hp → Option (IV × Hp)) (x24 : IV) (x25 : IV) : Option (IV × Hp) :=
  isoS [true, false, false] false false ih 63 [x23, x67, x69] h59 fun _ h71 _ _ => addS EE 3 x26 (.fv (.int .i64 1)) fun x74 => q20 [x23, x24, x25, x74] h71
noncomputable def S63_157 (x25 : IV) (h59 : Hp) (x26 : IV) (x24 : IV) (ih : Handler) (x23 : IV) (q20 : List IV → Hp → Option (IV × Hp)) : Option (IV × Hp) :=
  faddrS 2 x25 fun x63 => load1 x63 h59 fun x64 _ => ixS 3 x64 x26 fun x66 => loadA 3 x66 h59 fun x67 _ => addS EE 3 x24 (.fv (.int .i64 1)) fun x69 => S63_156 ih h59 x23 x67 x69 x26 q20 x24 x25
noncomputable def S63_158 (h40 : Hp) (x31 : IV) (x39 : IV) (x25 : IV) (x26 : IV) (x24 : IV) (ih : Handler) (x23 : IV) (q20 : List IV → Hp → Option (IV × Hp)) : Option (IV × Hp) :=
  guardS x31 true h40 (fun k43 => faddrS 1 x39 fun x44 => k43 x44 h40 [] []) fun x45 h46 _ _ => guardS x31 true h46 (fun k49 => load1 x45 h46 fun x50 r51 => k49 x50 h46 r51 []) fun x52 h53 _ _ => guardS x31 true h53 (fun k56 => eqS EE 3 x52 (.fv (.int .i64 0)) fun x57 => k56 x57 h53 [] []) fun x58 h59 _ _ => pickS x31 x58 (.fv (.bool false)) fun x62 => condS x62 (S63_157 x25 h59 x26 x24 ih x23 q20) (outS1 [] h59)
noncomputable def S63_159 (h22 : Hp) (x27 : IV) (x26 : IV) (x23 : IV) (x25 : IV) (x24 : IV) (ih : Handler) (q20 : List IV → Hp → Option (IV × Hp)) : Option (IV × Hp) :=
  load1 x27 h22 fun x28 _ => lenS x28 fun x30 => ltS EE 3 x26 x30 fun x31 => guardS x31 true h22 (fun k32 => k32 x23 h22 [] []) fun x33 h34 _ _ => guardS x31 true h34 (fun k37 => nilS x33 fun x38 => k37 x38 h34 [] []) fun x39 h40 _ _ => S63_158 h40 x31 x39 x25 x26 x24 ih x23 q20
noncomputable def S63_160 (l21 : List IV) (h22 : Hp) (ih : Handler) (q20 : List IV → Hp → Option (IV × Hp)) : Option (IV × Hp) :=
  uncS l21 fun x23 l75 => uncS l75 fun x24 l76 => uncS l76 fun x25 l77 => uncS l77 fun x26 _ => faddrS 2 x25 fun x27 => S63_159 h22 x27 x26 x23 x25 x24 ih q20
noncomputable def S63_161 (n : Nat) (h19 : Hp) (x0 : IV) (x2 : IV) (x4 : IV) (ih : Handler) : Option (IV × Hp) :=
  loopS n (fun q20 l21 h22 => S63_160 l21 h22 ih q20) [x0, x2, x4, .fv (.int .i64 0)] h19
noncomputable def S63_162 (h92 : Hp) (x97 : IV) (j0_18 : Hp → Option (IV × Hp)) : Option (IV × Hp) :=
  store1 x97 (.fv (.int .i64 5)) h92 fun h98 _ _ => j0_18 h98
noncomputable def S63_163 (x151 : IV) (h147 : Hp) (j0_18 : Hp → Option (IV × Hp)) : Option (IV × Hp) :=
  faddrS 1 x151 fun x152 => store1 x152 (.fv (.int .i64 1)) h147 fun h153 _ _ => j0_18 h153
noncomputable def S63_164 (r142 : List Ref) (w143 : List Ref) (h141 : Hp) (x112 : IV) (x140 : IV) (x0 : IV) (j0_18 : Hp → Option (IV × Hp)) : Option (IV × Hp) :=
  chkS [] r142 w143 (guardS x112 false h141 (fun k144 => optS (unR .not x140) fun x145 => k144 x145 h141 [] []) fun x146 h147 _ _ => pickS x112 (.fv (.bool true)) x146 fun x150 => condS x150 (nilS x0 fun x151 => S63_163 x151 h147 j0_18) (j0_18 h147))
noncomputable def S63_165 (r124 : List Ref) (w125 : List Ref) (h123 : Hp) (x112 : IV) (x4 : IV) (ih : Handler) (x122 : IV) (x0 : IV) (j0_18 : Hp → Option (IV × Hp)) : Option (IV × Hp) :=
  chkS [] r124 w125 (guardS x112 false h123 (fun k126 => faddrS 1 x4 fun x127 => k126 x127 h123 [] []) fun x128 h129 _ _ => guardS x112 false h129 (fun k132 => load1 x128 h129 fun x133 r134 => k132 x133 h129 r134 []) fun x135 h136 r137 w138 => chkS [(r124, w125)] r137 w138 (guardS x112 false h136 (fun k139 => isoS [] false false ih 89 [x122, x135] h136 k139) fun x140 h141 r142 w143 => S63_164 r142 w143 h141 x112 x140 x0 j0_18))
noncomputable def S63_166 (r110 : List Ref) (r106 : List Ref) (w107 : List Ref) (r103 : List Ref) (x109 : IV) (x104 : IV) (h105 : Hp) (x4 : IV) (ih : Handler) (x0 : IV) (j0_18 : Hp → Option (IV × Hp)) : Option (IV × Hp) :=
  chkS [(r106, w107), (r103, [])] r110 [] (lenS x109 fun x111 => neS EE 3 x104 x111 fun x112 => guardS x112 false h105 (fun k113 => faddrS 0 x4 fun x114 => k113 x114 h105 [] []) fun x115 h116 _ _ => guardS x112 false h116 (fun k119 => load1 x115 h116 fun x120 r121 => k119 x120 h116 r121 []) fun x122 h123 r124 w125 => S63_165 r124 w125 h123 x112 x4 ih x122 x0 j0_18)
noncomputable def S63_167 (r103 : List Ref) (ih : Handler) (h92 : Hp) (x102 : IV) (x4 : IV) (x0 : IV) (j0_18 : Hp → Option (IV × Hp)) : Option (IV × Hp) :=
  chkS [] r103 [] (isoS [] false false ih 52 [x102] h92 fun x104 h105 r106 w107 => chkS [] r106 w107 (faddrS 2 x4 fun x108 => load1 x108 h105 fun x109 r110 => S63_166 r110 r106 w107 r103 x109 x104 h105 x4 ih x0 j0_18))
noncomputable def S63_168 (x95 : IV) (x0 : IV) (h92 : Hp) (j0_18 : Hp → Option (IV × Hp)) (x4 : IV) (ih : Handler) : Option (IV × Hp) :=
  condS x95 (nilS x0 fun x96 => faddrS 1 x96 fun x97 => S63_162 h92 x97 j0_18) (faddrS 0 x4 fun x101 => load1 x101 h92 fun x102 r103 => S63_167 r103 ih h92 x102 x4 x0 j0_18)
noncomputable def S63_169 (h15 : Hp) (x80 : IV) (x2 : IV) (x0 : IV) (j0_18 : Hp → Option (IV × Hp)) (x4 : IV) (ih : Handler) : Option (IV × Hp) :=
  load1 x80 h15 fun x81 _ => gtS EE 3 x81 (.fv (.int .i64 3000)) fun x83 => guardS x83 false h15 (fun k84 => k84 x2 h15 [] []) fun x85 h86 _ _ => guardS x83 false h86 (fun k89 => gtS EE 3 x85 (.fv (.int .i64 120)) fun x90 => k89 x90 h86 [] []) fun x91 h92 _ _ => pickS x83 (.fv (.bool true)) x91 fun x95 => S63_168 x95 x0 h92 j0_18 x4 ih
noncomputable def S63_170 (x13 : IV) (h5 : Hp) (x12 : IV) (n : Nat) (x0 : IV) (x2 : IV) (x4 : IV) (ih : Handler) : Option (IV × Hp) :=
  faddrS 0 x13 fun x14 => store1 x14 x12 h5 fun h15 _ _ => (fun (j0_18 : Hp → Option (IV × Hp)) => nilS x0 fun x79 => faddrS 0 x79 fun x80 => S63_169 h15 x80 x2 x0 j0_18 x4 ih) fun h19 => S63_161 n h19 x0 x2 x4 ih
noncomputable def S63 (ih : Handler) (n : Nat) (x0 : IV) (x1 : IV) (x2 : IV) (h3 : Hp) : Option (IV × Hp) :=
  boxS 66060288 x1 h3 fun x4 h5 _ _ => nilS x0 fun x8 => faddrS 0 x8 fun x9 => load1 x9 h5 fun x10 _ => addS EE 3 x10 (.fv (.int .i64 1)) fun x12 => nilS x0 fun x13 => S63_170 x13 h5 x12 n x0 x2 x4 ih
theorem S63_ok (ih : Handler) (n : Nat) (x0 : IV) (x1 : IV) (x2 : IV) (h3 : Hp) : funS EE ih ft.get n 63 [x0, x1, x2] h3 = S63 ih n x0 x1 x2 h3 := by kernel_rfl
noncomputable def S68_121 (x108 : IV) (h109 : Hp) (x93 : IV) (h3 : Hp) (x89 : IV) (x90 : IV) (x91 : IV) (x92 : IV) (q86 : List IV → Hp → Option (IV × Hp)) : Option (IV × Hp) :=
  neS EE 36 x108 (.fv (.int .i64 0)) fun x112 => condS x112 (outS1 [x108] h109) (addS EE 3 x93 (.fv (.int .i64 1)) fun x113 => dropS (h3.own.map (·.1)) [71311362] [x89, x90, x91, x92, x113] h109 fun h114 => q86 [x89, x90, x91, x92, x113] h114)
noncomputable def S68_122 (h88 : Hp) (x96 : IV) (x90 : IV) (ih : Handler) (x89 : IV) (x93 : IV) (h3 : Hp) (x91 : IV) (x92 : IV) (q86 : List IV → Hp → Option (IV × Hp)) : Option (IV × Hp) :=
  newS 71311362 (.row [.fv (.int .i64 0), .fv (.int .i64 0), .nils] false) (.ptr (.own 71311362) 0) h88 fun x98 h99 _ _ => storeA 3 x98 x96 h99 fun h102 _ _ => loadA 3 x98 h102 fun x105 _ => addS EE 3 x90 (.fv (.int .i64 1)) fun x107 => isoS [false, true, false] false false ih 68 [x105, x89, x107] h102 fun x108 h109 _ _ => S68_121 x108 h109 x93 h3 x89 x90 x91 x92 q86
noncomputable def S68_123 (x93 : IV) (x92 : IV) (x91 : IV) (h88 : Hp) (x90 : IV) (ih : Handler) (x89 : IV) (h3 : Hp) (q86 : List IV → Hp → Option (IV × Hp)) : Option (IV × Hp) :=
  ltS EE 3 x93 x92 fun x94 => condS x94 (ixS 3 x91 x93 fun x95 => loadA 3 x95 h88 fun x96 _ => S68_122 h88 x96 x90 ih x89 x93 h3 x91 x92 q86) (outS1 [.fv (.int .i64 0)] h88)
noncomputable def S68_124 (l87 : List IV) (h88 : Hp) (ih : Handler) (h3 : Hp) (q86 : List IV → Hp → Option (IV × Hp)) : Option (IV × Hp) :=
  uncS l87 fun x89 l115 => uncS l115 fun x90 l116 => uncS l116 fun x91 l117 => uncS l117 fun x92 l118 => uncS l118 fun x93 _ => S68_123 x93 x92 x91 h88 x90 ih x89 h3 q86
noncomputable def S68_125 (h78 : Hp) (x82 : IV) (h3 : Hp) (x1 : IV) (x2 : IV) (n : Nat) (ih : Handler) : Option (IV × Hp) :=
  load1 x82 h78 fun x83 _ => lenS x83 fun x85 => dropS (h3.own.map (·.1)) [71311362] [x1, x2, x83, x85, .fv (.int .i64 0)] h78 fun h120 => loopS n (fun q86 l87 h88 => S68_124 l87 h88 ih h3 q86) [x1, x2, x83, x85, .fv (.int .i64 0)] h120
noncomputable def S68_126 (r73 : List Ref) (w74 : List Ref) (h72 : Hp) (x43 : IV) (x71 : IV) (x4 : IV) (h3 : Hp) (x1 : IV) (x2 : IV) (n : Nat) (ih : Handler) : Option (IV × Hp) :=
  chkS [] r73 w74 (guardS x43 false h72 (fun k75 => optS (unR .not x71) fun x76 => k75 x76 h72 [] []) fun x77 h78 _ _ => pickS x43 (.fv (.bool true)) x77 fun x81 => condS x81 (outS1 [.fv (.int .i64 1)] h78) (faddrS 2 x4 fun x82 => S68_125 h78 x82 h3 x1 x2 n ih))
noncomputable def S68_127 (r55 : List Ref) (w56 : List Ref) (h54 : Hp) (x43 : IV) (x4 : IV) (ih : Handler) (x53 : IV) (h3 : Hp) (x1 : IV) (x2 : IV) (n : Nat) : Option (IV × Hp) :=
  chkS [] r55 w56 (guardS x43 false h54 (fun k57 => faddrS 1 x4 fun x58 => k57 x58 h54 [] []) fun x59 h60 _ _ => guardS x43 false h60 (fun k63 => load1 x59 h60 fun x64 r65 => k63 x64 h60 r65 []) fun x66 h67 r68 w69 => chkS [(r55, w56)] r68 w69 (guardS x43 false h67 (fun k70 => isoS [] false false ih 92 [x53, x66] h67 k70) fun x71 h72 r73 w74 => S68_126 r73 w74 h72 x43 x71 x4 h3 x1 x2 n ih))
noncomputable def S68_128 (r41 : List Ref) (r37 : List Ref) (w38 : List Ref) (r34 : List Ref) (x40 : IV) (x35 : IV) (h36 : Hp) (x4 : IV) (ih : Handler) (h3 : Hp) (x1 : IV) (x2 : IV) (n : Nat) : Option (IV × Hp) :=
  chkS [(r37, w38), (r34, [])] r41 [] (lenS x40 fun x42 => neS EE 3 x35 x42 fun x43 => guardS x43 false h36 (fun k44 => faddrS 0 x4 fun x45 => k44 x45 h36 [] []) fun x46 h47 _ _ => guardS x43 false h47 (fun k50 => load1 x46 h47 fun x51 r52 => k50 x51 h47 r52 []) fun x53 h54 r55 w56 => S68_127 r55 w56 h54 x43 x4 ih x53 h3 x1 x2 n)
noncomputable def S68_129 (r34 : List Ref) (ih : Handler) (h28 : Hp) (x33 : IV) (x4 : IV) (h3 : Hp) (x1 : IV) (x2 : IV) (n : Nat) : Option (IV × Hp) :=
  chkS [] r34 [] (isoS [] false false ih 91 [x33] h28 fun x35 h36 r37 w38 => chkS [] r37 w38 (faddrS 2 x4 fun x39 => load1 x39 h36 fun x40 r41 => S68_128 r41 r37 w38 r34 x40 x35 h36 x4 ih h3 x1 x2 n))
noncomputable def S68_130 (x19 : IV) (x27 : IV) (h28 : Hp) (x4 : IV) (ih : Handler) (h3 : Hp) (x1 : IV) (x2 : IV) (n : Nat) : Option (IV × Hp) :=
  pickS x19 (.fv (.bool true)) x27 fun x31 => condS x31 (outS1 [.fv (.int .i64 5)] h28) (faddrS 0 x4 fun x32 => load1 x32 h28 fun x33 r34 => S68_129 r34 ih h28 x33 x4 h3 x1 x2 n)
noncomputable def S68_131 (x1 : IV) (h13 : Hp) (x2 : IV) (x4 : IV) (ih : Handler) (h3 : Hp) (n : Nat) : Option (IV × Hp) :=
  nilS x1 fun x16 => load1 x16 h13 fun x17 _ => gtS EE 3 x17 (.fv (.int .i64 3000)) fun x19 => guardS x19 false h13 (fun k20 => k20 x2 h13 [] []) fun x21 h22 _ _ => guardS x19 false h22 (fun k25 => gtS EE 3 x21 (.fv (.int .i64 120)) fun x26 => k25 x26 h22 [] []) fun x27 h28 _ _ => S68_130 x19 x27 h28 x4 ih h3 x1 x2 n
noncomputable def S68 (ih : Handler) (n : Nat) (x0 : IV) (x1 : IV) (x2 : IV) (h3 : Hp) : Option (IV × Hp) :=
  boxS 71303168 x0 h3 fun x4 h5 _ _ => nilS x1 fun x8 => load1 x8 h5 fun x9 _ => addS EE 3 x9 (.fv (.int .i64 1)) fun x11 => nilS x1 fun x12 => store1 x12 x11 h5 fun h13 _ _ => S68_131 x1 h13 x2 x4 ih h3 n
theorem S68_ok (ih : Handler) (n : Nat) (x0 : IV) (x1 : IV) (x2 : IV) (h3 : Hp) : funS EE ih ft.get n 68 [x0, x1, x2] h3 = S68 ih n x0 x1 x2 h3 := by kernel_rfl
noncomputable def S69_129 (h1 : Hp) (h119 : Hp) (x102 : IV) (x103 : IV) (x123 : IV) (q99 : List IV → Hp → Option (IV × Hp)) : Option (IV × Hp) :=
  dropS (h1.own.map (·.1)) [72357890] [x102, x103, x123] h119 fun h124 => q99 [x102, x103, x123] h124
noncomputable def S69_130 (ih : Handler) (h113 : Hp) (x116 : IV) (x104 : IV) (h1 : Hp) (x102 : IV) (x103 : IV) (q99 : List IV → Hp → Option (IV × Hp)) : Option (IV × Hp) :=
  isoS [] false false ih 69 [x116] h113 fun x118 h119 _ _ => optS (unR .not x118) fun x122 => condS x122 (outS1 [.fv (.bool false)] h119) (addS EE 3 x104 (.fv (.int .i64 1)) fun x123 => S69_129 h1 h119 x102 x103 x123 q99)
noncomputable def S69_131 (x102 : IV) (x104 : IV) (h101 : Hp) (ih : Handler) (h1 : Hp) (x103 : IV) (q99 : List IV → Hp → Option (IV × Hp)) : Option (IV × Hp) :=
  ixS 3 x102 x104 fun x106 => loadA 3 x106 h101 fun x107 _ => newS 72357890 (.row [.fv (.int .i64 0), .fv (.int .i64 0), .nils] false) (.ptr (.own 72357890) 0) h101 fun x109 h110 _ _ => storeA 3 x109 x107 h110 fun h113 _ _ => loadA 3 x109 h113 fun x116 _ => S69_130 ih h113 x116 x104 h1 x102 x103 q99
noncomputable def S69_132 (l100 : List IV) (h101 : Hp) (ih : Handler) (h1 : Hp) (q99 : List IV → Hp → Option (IV × Hp)) : Option (IV × Hp) :=
  uncS l100 fun x102 l125 => uncS l125 fun x103 l126 => uncS l126 fun x104 _ => ltS EE 3 x104 x103 fun x105 => condS x105 (S69_131 x102 x104 h101 ih h1 x103 q99) (outS1 [.fv (.bool true)] h101)
noncomputable def S69_133 (x2 : IV) (h91 : Hp) (h1 : Hp) (n : Nat) (ih : Handler) : Option (IV × Hp) :=
  faddrS 2 x2 fun x95 => load1 x95 h91 fun x96 _ => lenS x96 fun x98 => dropS (h1.own.map (·.1)) [72357890] [x96, x98, .fv (.int .i64 0)] h91 fun h128 => loopS n (fun q99 l100 h101 => S69_132 l100 h101 ih h1 q99) [x96, x98, .fv (.int .i64 0)] h128
noncomputable def S69_134 (h72 : Hp) (x65 : IV) (x71 : IV) (x44 : IV) (x2 : IV) (h1 : Hp) (n : Nat) (ih : Handler) : Option (IV × Hp) :=
  guardS x65 true h72 (fun k75 => load1 x71 h72 fun x76 r77 => k75 x76 h72 r77 []) fun x78 h79 _ _ => guardS x65 true h79 (fun k82 => ltS EE 3 x78 (.fv (.int .i64 0)) fun x83 => k82 x83 h79 [] []) fun x84 h85 _ _ => guardS x44 false h85 (fun k88 => pickS x65 x84 (.fv (.bool false)) fun x89 => k88 x89 h85 [] []) fun x90 h91 _ _ => pickS x44 (.fv (.bool true)) x90 fun x94 => condS x94 (outS1 [.fv (.bool false)] h91) (S69_133 x2 h91 h1 n ih)
noncomputable def S69_135 (h41 : Hp) (x44 : IV) (x2 : IV) (h1 : Hp) (n : Nat) (ih : Handler) : Option (IV × Hp) :=
  guardS x44 false h41 (fun k45 => faddrS 0 x2 fun x46 => k45 x46 h41 [] []) fun x47 h48 _ _ => guardS x44 false h48 (fun k51 => load1 x47 h48 fun x52 r53 => k51 x52 h48 r53 []) fun x54 h55 _ _ => guardS x44 false h55 (fun k58 => eqS EE 3 x54 (.fv (.int .i64 1)) fun x59 => k58 x59 h55 [] []) fun x60 h61 _ _ => guardS x44 false h61 (fun k64 => k64 x60 h61 [] []) fun x65 h66 _ _ => guardS x65 true h66 (fun k69 => faddrS 1 x2 fun x70 => k69 x70 h66 [] []) fun x71 h72 _ _ => S69_134 h72 x65 x71 x44 x2 h1 n ih
noncomputable def S69_136 (h16 : Hp) (x13 : IV) (x2 : IV) (x15 : IV) (h1 : Hp) (n : Nat) (ih : Handler) : Option (IV × Hp) :=
  guardS x13 true h16 (fun k19 => faddrS 2 x2 fun x20 => k19 x20 h16 [] []) fun x21 h22 _ _ => guardS x13 true h22 (fun k25 => load1 x21 h22 fun x26 r27 => k25 x26 h22 r27 []) fun x28 h29 _ _ => guardS x13 true h29 (fun k32 => lenS x28 fun x33 => k32 x33 h29 [] []) fun x34 h35 _ _ => guardS x13 true h35 (fun k38 => neS EE 3 x15 x34 fun x39 => k38 x39 h35 [] []) fun x40 h41 _ _ => pickS x13 x40 (.fv (.bool false)) fun x44 => S69_135 h41 x44 x2 h1 n ih
noncomputable def S69 (ih : Handler) (n : Nat) (x0 : IV) (h1 : Hp) : Option (IV × Hp) :=
  boxS 72351744 x0 h1 fun x2 h3 _ _ => faddrS 0 x2 fun x6 => load1 x6 h3 fun x7 _ => isoS [] false false ih 93 [x7] h3 fun x9 h10 _ _ => geS EE 3 x9 (.fv (.int .i64 0)) fun x13 => guardS x13 true h10 (fun k14 => k14 x9 h10 [] []) fun x15 h16 _ _ => S69_136 h16 x13 x2 x15 h1 n ih
theorem S69_ok (ih : Handler) (n : Nat) (x0 : IV) (h1 : Hp) : funS EE ih ft.get n 69 [x0] h1 = S69 ih n x0 h1 := by kernel_rfl
noncomputable def S70_69 (x2 : IV) (h61 : Hp) (x6 : IV) : Option (IV × Hp) :=
  nilS x2 fun x64 => faddrS 4 x64 fun x65 => store1 x65 x6 h61 fun h66 _ _ => outS1 [x2] h66
noncomputable def S70_70 (x46 : IV) (h47 : Hp) (x6 : IV) (x2 : IV) : Option (IV × Hp) :=
  bldS [.fv (.nilf)] [(0, 1, x46)] fun x50 => genS (pcInsert EE 98 x6 (.fv (.int .i64 30)) x50) 73402389 h47 fun _ h52 _ _ => genS (val (mkFunc (.func 98) [x2] [])) 73402391 h52 fun x55 h56 _ _ => bldS [.fv (.nilf)] [(0, 1, x55)] fun x59 => genS (pcInsert EE 98 x6 (.fv (.int .i64 19)) x59) 73402393 h56 fun _ h61 _ _ => S70_69 x2 h61 x6
noncomputable def S70_71 (h29 : Hp) (x6 : IV) (x32 : IV) (x2 : IV) : Option (IV × Hp) :=
  genS (pcInsert EE 98 x6 (.fv (.int .i64 9)) x32) 73402381 h29 fun _ h34 _ _ => genS (val (mkFunc (.func 96) [x2] [])) 73402383 h34 fun x37 h38 _ _ => bldS [.fv (.nilf)] [(0, 1, x37)] fun x41 => genS (pcInsert EE 98 x6 (.fv (.int .i64 13)) x41) 73402385 h38 fun _ h43 _ _ => genS (val (mkFunc (.func 97) [x2] [])) 73402387 h43 fun x46 h47 _ _ => S70_70 x46 h47 x6 x2
noncomputable def S70_72 (h16 : Hp) (x2 : IV) (x6 : IV) : Option (IV × Hp) :=
  genS (val (mkFunc (.func 95) [x2] [])) 73402375 h16 fun x19 h20 _ _ => bldS [.fv (.nilf)] [(0, 1, x19)] fun x23 => genS (pcInsert EE 98 x6 (.fv (.int .i64 8)) x23) 73402377 h20 fun _ h25 _ _ => genS (val (mkFunc (.func 95) [x2] [])) 73402379 h25 fun x28 h29 _ _ => bldS [.fv (.nilf)] [(0, 1, x28)] fun x32 => S70_71 h29 x6 x32 x2
noncomputable def S70 (ih : Handler) (n : Nat) (h0 : Hp) : Option (IV × Hp) :=
  bldS [.fv (.int .i64 0), .fv (.int .i64 0), .fv (.int .i64 0), .fv (.int .i64 0), .dead] [(0, 1, .fv (.int .i64 100000)), (1, 1, .fv (.int .i64 5000000))] fun x1 => boxS 73401345 x1 h0 fun x2 h3 _ _ => genS (pcMakeMap 73402369) 73402369 h3 fun x6 h7 _ _ => genS (val (mkFunc (.func 94) [x2] [])) 73402371 h7 fun x10 h11 _ _ => bldS [.fv (.nilf)] [(0, 1, x10)] fun x14 => genS (pcInsert EE 98 x6 (.fv (.int .i64 5)) x14) 73402373 h11 fun _ h16 _ _ => S70_72 h16 x2 x6
theorem S70_ok (ih : Handler) (n : Nat) (h0 : Hp) : funS EE ih ft.get n 70 [] h0 = S70 ih n h0 := by kernel_rfl
noncomputable def S71_117 (x4 : IV) (h9 : Hp) (ih : Handler) (x1 : IV) : Option (IV × Hp) :=
  faddrS 1 x4 fun x16 => load1 x16 h9 fun x17 _ => isoS [] false false ih 100 [x1, x17] h9 fun x19 h20 _ _ => outS1 [x19] h20
noncomputable def S71_118 (x62 : IV) (h3 : Hp) (h65 : Hp) (x56 : IV) (x57 : IV) (x58 : IV) (x59 : IV) (x60 : IV) (x61 : IV) (q53 : List IV → Hp → Option (IV × Hp)) : Option (IV × Hp) :=
  addS EE 3 x62 (.fv (.int .i64 1)) fun x66 => dropS (h3.own.map (·.1)) [74458115] [x56, x57, x58, x59, x60, x61, x66] h65 fun h67 => q53 [x56, x57, x58, x59, x60, x61, x66] h67
noncomputable def S71_119 (ih : Handler) (h82 : Hp) (x56 : IV) (x57 : IV) (x90 : IV) (r89 : List Ref) (x88 : IV) (x62 : IV) (j0_64 : Hp → Option (IV × Hp)) : Option (IV × Hp) :=
  isoS [true, false, false] false false ih 71 [x56, x57, x90] h82 fun x92 h93 r94 w95 => chkS [(r89, [])] r94 w95 (ixS 1 x88 x62 fun x96 => store1 x96 x92 h93 fun h97 r98 w99 => chkS [] r98 w99 (j0_64 h97))
noncomputable def S71_120 (x86 : IV) (h82 : Hp) (x71 : IV) (ih : Handler) (x56 : IV) (x57 : IV) (x62 : IV) (j0_64 : Hp → Option (IV × Hp)) : Option (IV × Hp) :=
  faddrS 2 x86 fun x87 => load1 x87 h82 fun x88 r89 => chkS [] r89 [] (loadA 3 x71 h82 fun x90 r91 => chkS [(r89, [])] r91 [] (S71_119 ih h82 x56 x57 x90 r89 x88 x62 j0_64))
noncomputable def S71_121 (h75 : Hp) (x78 : IV) (ih : Handler) (x62 : IV) (x59 : IV) (x71 : IV) (x56 : IV) (x57 : IV) (j0_64 : Hp → Option (IV × Hp)) : Option (IV × Hp) :=
  load1 x78 h75 fun x79 _ => isoS [] false false ih 101 [x79, x62] h75 fun x81 h82 _ _ => eqS EE 3 x81 (.fv (.int .i64 0)) fun x85 => condS x85 (nilS x59 fun x86 => S71_120 x86 h82 x71 ih x56 x57 x62 j0_64) (j0_64 h82)
noncomputable def S71_122 (x60 : IV) (x62 : IV) (h55 : Hp) (x58 : IV) (ih : Handler) (x59 : IV) (x56 : IV) (x57 : IV) (j0_64 : Hp → Option (IV × Hp)) : Option (IV × Hp) :=
  ixS 3 x60 x62 fun x68 => loadA 3 x68 h55 fun x69 _ => newS 74458115 (.row [.fv (.int .i64 0), .fv (.int .i64 0), .nils] false) (.ptr (.own 74458115) 0) h55 fun x71 h72 _ _ => storeA 3 x71 x69 h72 fun h75 _ _ => faddrS 0 x58 fun x78 => S71_121 h75 x78 ih x62 x59 x71 x56 x57 j0_64
noncomputable def S71_123 (x100 : IV) (h55 : Hp) (x59 : IV) (ih : Handler) (x56 : IV) : Option (IV × Hp) :=
  faddrS 3 x100 fun x101 => load1 x101 h55 fun x102 _ => neS EE 36 x102 (.fv (.int .i64 0)) fun x104 => condS x104 (outS1 [x59] h55) (isoS [true, false] false false ih 102 [x56, x59] h55 fun x105 h106 _ _ => outS1 [x105] h106)
noncomputable def S71_124 (l113 : List IV) (h3 : Hp) (x56 : IV) (x57 : IV) (x58 : IV) (x59 : IV) (x60 : IV) (q53 : List IV → Hp → Option (IV × Hp)) (h55 : Hp) (ih : Handler) : Option (IV × Hp) :=
  uncS l113 fun x61 l114 => uncS l114 fun x62 _ => ltS EE 3 x62 x61 fun x63 => condS x63 ((fun (j0_64 : Hp → Option (IV × Hp)) => S71_122 x60 x62 h55 x58 ih x59 x56 x57 j0_64) fun h65 => S71_118 x62 h3 h65 x56 x57 x58 x59 x60 x61 q53) (nilS x56 fun x100 => S71_123 x100 h55 x59 ih x56)
noncomputable def S71_125 (l54 : List IV) (h3 : Hp) (q53 : List IV → Hp → Option (IV × Hp)) (h55 : Hp) (ih : Handler) : Option (IV × Hp) :=
  uncS l54 fun x56 l109 => uncS l109 fun x57 l110 => uncS l110 fun x58 l111 => uncS l111 fun x59 l112 => uncS l112 fun x60 l113 => S71_124 l113 h3 x56 x57 x58 x59 x60 q53 h55 ih
noncomputable def S71_126 (x50 : IV) (h3 : Hp) (h41 : Hp) (x0 : IV) (x1 : IV) (x4 : IV) (x40 : IV) (n : Nat) (ih : Handler) : Option (IV × Hp) :=
  lenS x50 fun x52 => dropS (h3.own.map (·.1)) [74458115] [x0, x1, x4, x40, x50, x52, .fv (.int .i64 0)] h41 fun h116 => loopS n (fun q53 l54 h55 => S71_125 l54 h3 q53 h55 ih) [x0, x1, x4, x40, x50, x52, .fv (.int .i64 0)] h116
noncomputable def S71_127 (x46 : IV) (h41 : Hp) (x40 : IV) (x4 : IV) (h3 : Hp) (x0 : IV) (x1 : IV) (n : Nat) (ih : Handler) : Option (IV × Hp) :=
  neS EE 36 x46 (.fv (.int .i64 0)) fun x48 => condS x48 (outS1 [x40] h41) (faddrS 2 x4 fun x49 => load1 x49 h41 fun x50 _ => S71_126 x50 h3 h41 x0 x1 x4 x40 n ih)
noncomputable def S71_128 (h34 : Hp) (x39 : IV) (x0 : IV) (x4 : IV) (h3 : Hp) (x1 : IV) (n : Nat) (ih : Handler) : Option (IV × Hp) :=
  boxS 74453003 x39 h34 fun x40 h41 r42 w43 => chkS [] r42 w43 (nilS x0 fun x44 => faddrS 3 x44 fun x45 => load1 x45 h41 fun x46 _ => S71_127 x46 h41 x40 x4 h3 x0 x1 n ih)
noncomputable def S71_129 (h9 : Hp) (x32 : IV) (r28 : List Ref) (r25 : List Ref) (x4 : IV) (r31 : List Ref) (x24 : IV) (x27 : IV) (x1 : IV) (x0 : IV) (h3 : Hp) (n : Nat) (ih : Handler) : Option (IV × Hp) :=
  genS (pcMakeSlice EE 74452999 127 x32 x32) 74452999 h9 fun x33 h34 r35 w36 => chkS [(r28, []), (r25, [])] r35 w36 (loadA 3 x4 h34 fun x37 r38 => chkS [(r35, w36), (r31, []), (r28, []), (r25, [])] r38 [] (bldS [.fv (.int .i64 0), .fv (.int .i64 0), .nils, .fv (.int .i64 0), .fv (.int .i64 0), .nils, .fv (.nilp)] [(0, 1, x24), (1, 1, x27), (2, 1, x33), (3, 3, x37), (6, 1, x1)] fun x39 => S71_128 h34 x39 x0 x4 h3 x1 n ih))
noncomputable def S71_130 (r28 : List Ref) (r25 : List Ref) (x4 : IV) (h9 : Hp) (x24 : IV) (x27 : IV) (x1 : IV) (x0 : IV) (h3 : Hp) (n : Nat) (ih : Handler) : Option (IV × Hp) :=
  chkS [(r25, [])] r28 [] (faddrS 2 x4 fun x29 => load1 x29 h9 fun x30 r31 => chkS [(r28, []), (r25, [])] r31 [] (lenS x30 fun x32 => S71_129 h9 x32 r28 r25 x4 r31 x24 x27 x1 x0 h3 n ih))
noncomputable def S71_131 (x4 : IV) (h9 : Hp) (x1 : IV) (x0 : IV) (h3 : Hp) (n : Nat) (ih : Handler) : Option (IV × Hp) :=
  faddrS 0 x4 fun x23 => load1 x23 h9 fun x24 r25 => chkS [] r25 [] (faddrS 1 x4 fun x26 => load1 x26 h9 fun x27 r28 => S71_130 r28 r25 x4 h9 x24 x27 x1 x0 h3 n ih)
noncomputable def S71 (ih : Handler) (n : Nat) (x0 : IV) (x1 : IV) (x2 : IV) (h3 : Hp) : Option (IV × Hp) :=
  boxS 74448896 x2 h3 fun x4 h5 _ _ => isoS [true] false false ih 99 [x0] h5 fun _ h9 _ _ => faddrS 0 x4 fun x12 => load1 x12 h9 fun x13 _ => eqS EE 3 x13 (.fv (.int .i64 1)) fun x15 => condS x15 (S71_117 x4 h9 ih x1) (S71_131 x4 h9 x1 x0 h3 n ih)
theorem S71_ok (ih : Handler) (n : Nat) (x0 : IV) (x1 : IV) (x2 : IV) (h3 : Hp) : funS EE ih ft.get n 71 [x0, x1, x2] h3 = S71 ih n x0 x1 x2 h3 := by kernel_rfl
noncomputable def S72_261 (h21 : Hp) (x5 : IV) : Option (IV × Hp) :=
  cellS true 3 x5 h21 fun x24 => outS1 [x24] h21
noncomputable def S72_262 (h12 : Hp) (x5 : IV) (x36 : IV) : Option (IV × Hp) :=
  storeA 3 x5 x36 h12 fun h37 _ _ => cellS true 3 x5 h37 fun x40 => outS1 [x40] h37
noncomputable def S72_263 (x1 : IV) (h12 : Hp) (x30 : IV) (x5 : IV) : Option (IV × Hp) :=
  nilS x1 fun x31 => faddrS 1 x31 fun x32 => load1 x32 h12 fun x33 _ => subS EE 3 x30 x33 fun x35 => bldS [.fv (.int .i64 0), .fv (.int .i64 0), .nils] [(0, 1, .fv (.int .i64 1)), (1, 1, x35)] fun x36 => S72_262 h12 x5 x36
noncomputable def S72_264 (h90 : Hp) (x83 : IV) : Option (IV × Hp) :=
  bldS [.fv (.int .i64 0), .fv (.int .i64 0), .nils] [] fun x96 => storeA 3 x83 x96 h90 fun h97 _ _ => cellS true 3 x83 h97 fun x100 => outS1 [x100] h97
noncomputable def S72_265 (x89 : IV) (h4 : Hp) (h108 : Hp) (x79 : IV) (x80 : IV) (x81 : IV) (x82 : IV) (x83 : IV) (x84 : IV) (x88 : IV) (q51 : List IV → Hp → Option (IV × Hp)) : Option (IV × Hp) :=
  addS EE 3 x89 (.fv (.int .i64 1)) fun x111 => dropS (h4.own.map (·.1)) [75512833, 75516934] [x79, x80, x81, x82, x83, x84, x88, x111] h108 fun h112 => q51 [x79, x80, x81, x82, x83, x84, x88, x111] h112
noncomputable def S72_266 (x81 : IV) (x87 : IV) (x82 : IV) (ih : Handler) (h90 : Hp) (x79 : IV) (x86 : IV) (x84 : IV) (x85 : IV) (x89 : IV) (h4 : Hp) (x80 : IV) (x83 : IV) (x88 : IV) (q51 : List IV → Hp → Option (IV × Hp)) : Option (IV × Hp) :=
  addS EE 3 x81 x87 fun x101 => addS EE 3 x82 (.fv (.int .i64 1)) fun x102 => isoS [true, false, false, false] false false ih 72 [x79, x86, x101, x102] h90 fun x103 h104 _ _ => ixS 3 x84 x85 fun x107 => storeA 3 x107 x103 h104 fun h108 _ _ => S72_265 x89 h4 h108 x79 x80 x81 x82 x83 x84 x88 q51
noncomputable def S72_267 (x79 : IV) (h90 : Hp) (x83 : IV) (x81 : IV) (x87 : IV) (x82 : IV) (ih : Handler) (x86 : IV) (x84 : IV) (x85 : IV) (x89 : IV) (h4 : Hp) (x80 : IV) (x88 : IV) (q51 : List IV → Hp → Option (IV × Hp)) : Option (IV × Hp) :=
  nilS x79 fun x91 => faddrS 3 x91 fun x92 => load1 x92 h90 fun x93 _ => neS EE 36 x93 (.fv (.int .i64 0)) fun x95 => condS x95 (S72_264 h90 x83) (S72_266 x81 x87 x82 ih h90 x79 x86 x84 x85 x89 h4 x80 x83 x88 q51)
noncomputable def S72_268 (x134 : IV) (h4 : Hp) (h143 : Hp) (x122 : IV) (x123 : IV) (x124 : IV) (x125 : IV) (x126 : IV) (x127 : IV) (x128 : IV) (x129 : IV) (x130 : IV) (x131 : IV) (x132 : IV) (x133 : IV) (q119 : List IV → Hp → Option (IV × Hp)) : Option (IV × Hp) :=
  addS EE 3 x134 (.fv (.int .i64 1)) fun x146 => dropS (h4.own.map (·.1)) [75516934] [x122, x123, x124, x125, x126, x127, x128, x129, x130, x131, x132, x133, x146] h143 fun h147 => q119 [x122, x123, x124, x125, x126, x127, x128, x129, x130, x131, x132, x133, x146] h147
noncomputable def S72_269 (x124 : IV) (x134 : IV) (h121 : Hp) (x130 : IV) (h4 : Hp) (x122 : IV) (x123 : IV) (x125 : IV) (x126 : IV) (x127 : IV) (x128 : IV) (x129 : IV) (x131 : IV) (x132 : IV) (x133 : IV) (q119 : List IV → Hp → Option (IV × Hp)) : Option (IV × Hp) :=
  addS EE 3 x124 x134 fun x136 => bldS [.fv (.int .i64 0), .fv (.int .i64 0), .nils, .fv (.int .i64 0), .fv (.int .i64 0), .nils, .fv (.nilp)] [(0, 1, .fv (.int .i64 1)), (1, 1, x136)] fun x137 => fzS (pcBox true 75516934 x137) 75516934 x137 h121 fun x138 h139 _ _ => ixS 1 x130 x134 fun x142 => store1 x142 x138 h139 fun h143 _ _ => S72_268 x134 h4 h143 x122 x123 x124 x125 x126 x127 x128 x129 x130 x131 x132 x133 q119
noncomputable def S72_270 (ih : Handler) (h121 : Hp) (x122 : IV) (x123 : IV) (x128 : IV) (x130 : IV) (j11_78 : IV → IV → IV → IV → IV → IV → IV → IV → IV → IV → IV → Hp → Option (IV × Hp)) (x124 : IV) (x125 : IV) (x126 : IV) (x127 : IV) (x129 : IV) (x131 : IV) (x132 : IV) : Option (IV × Hp) :=
  isoS [true, false, false, false] false false ih 103 [x122, x123, x128, x130] h121 fun x148 h149 _ _ => j11_78 x122 x123 x124 x125 x126 x127 x128 x148 x129 x131 x132 h149
noncomputable def S72_271 (l161 : List IV) (x124 : IV) (h121 : Hp) (x130 : IV) (h4 : Hp) (x122 : IV) (x123 : IV) (x125 : IV) (x126 : IV) (x127 : IV) (x128 : IV) (x129 : IV) (x131 : IV) (q119 : List IV → Hp → Option (IV × Hp)) (ih : Handler) (j11_78 : IV → IV → IV → IV → IV → IV → IV → IV → IV → IV → IV → Hp → Option (IV × Hp)) : Option (IV × Hp) :=
  uncS l161 fun x132 l162 => uncS l162 fun x133 l163 => uncS l163 fun x134 _ => ltS EE 3 x134 x133 fun x135 => condS x135 (S72_269 x124 x134 h121 x130 h4 x122 x123 x125 x126 x127 x128 x129 x131 x132 x133 q119) (S72_270 ih h121 x122 x123 x128 x130 j11_78 x124 x125 x126 x127 x129 x131 x132)
noncomputable def S72_272 (l156 : List IV) (x124 : IV) (h121 : Hp) (h4 : Hp) (x122 : IV) (x123 : IV) (x125 : IV) (x126 : IV) (q119 : List IV → Hp → Option (IV × Hp)) (ih : Handler) (j11_78 : IV → IV → IV → IV → IV → IV → IV → IV → IV → IV → IV → Hp → Option (IV × Hp)) : Option (IV × Hp) :=
  uncS l156 fun x127 l157 => uncS l157 fun x128 l158 => uncS l158 fun x129 l159 => uncS l159 fun x130 l160 => uncS l160 fun x131 l161 => S72_271 l161 x124 h121 x130 h4 x122 x123 x125 x126 x127 x128 x129 x131 q119 ih j11_78
noncomputable def S72_273 (l120 : List IV) (h121 : Hp) (h4 : Hp) (q119 : List IV → Hp → Option (IV × Hp)) (ih : Handler) (j11_78 : IV → IV → IV → IV → IV → IV → IV → IV → IV → IV → IV → Hp → Option (IV × Hp)) : Option (IV × Hp) :=
  uncS l120 fun x122 l152 => uncS l152 fun x123 l153 => uncS l153 fun x124 l154 => uncS l154 fun x125 l155 => uncS l155 fun x126 l156 => S72_272 l156 x124 h121 h4 x122 x123 x125 x126 q119 ih j11_78
noncomputable def S72_274 (h4 : Hp) (h115 : Hp) (x54 : IV) (x55 : IV) (x56 : IV) (x57 : IV) (x58 : IV) (x59 : IV) (x61 : IV) (x74 : IV) (x114 : IV) (x60 : IV) (x118 : IV) (n : Nat) (ih : Handler) (j11_78 : IV → IV → IV → IV → IV → IV → IV → IV → IV → IV → IV → Hp → Option (IV × Hp)) : Option (IV × Hp) :=
  dropS (h4.own.map (·.1)) [75516934] [x54, x55, x56, x57, x58, x59, x61, x74, x114, x60, x61, x118, .fv (.int .i64 0)] h115 fun h165 => loopS n (fun q119 l120 h121 => S72_273 l120 h121 h4 q119 ih j11_78) [x54, x55, x56, x57, x58, x59, x61, x74, x114, x60, x61, x118, .fv (.int .i64 0)] h165
noncomputable def S72_275 (x113 : IV) (h75 : Hp) (x74 : IV) (h4 : Hp) (x54 : IV) (x55 : IV) (x56 : IV) (x57 : IV) (x58 : IV) (x59 : IV) (x61 : IV) (x60 : IV) (n : Nat) (ih : Handler) (j11_78 : IV → IV → IV → IV → IV → IV → IV → IV → IV → IV → IV → Hp → Option (IV × Hp)) (x68 : IV) : Option (IV × Hp) :=
  condS x113 (genS (pcMakeSlice EE 75512833 127 x74 x74) 75512833 h75 fun x114 h115 _ _ => lenS x114 fun x118 => S72_274 h4 h115 x54 x55 x56 x57 x58 x59 x61 x74 x114 x60 x118 n ih j11_78) (j11_78 x54 x55 x56 x57 x58 x59 x61 x68 x74 x60 x61 h75)
noncomputable def S72_276 (r73 : List Ref) (r69 : List Ref) (r66 : List Ref) (ih : Handler) (h53 : Hp) (x72 : IV) (x61 : IV) (h4 : Hp) (q51 : List IV → Hp → Option (IV × Hp)) (x54 : IV) (x55 : IV) (x56 : IV) (x57 : IV) (x58 : IV) (x59 : IV) (x60 : IV) (n : Nat) (x68 : IV) : Option (IV × Hp) :=
  chkS [(r69, []), (r66, [])] r73 [] (isoS [] false false ih 101 [x72, x61] h53 fun x74 h75 r76 w77 => chkS [(r69, []), (r66, [])] r76 w77 ((fun (j11_78 : IV → IV → IV → IV → IV → IV → IV → IV → IV → IV → IV → Hp → Option (IV × Hp)) => gtS EE 3 x74 (.fv (.int .i64 0)) fun x113 => S72_275 x113 h75 x74 h4 x54 x55 x56 x57 x58 x59 x61 x60 n ih j11_78 x68) fun x79 x80 x81 x82 x83 x84 x85 x86 x87 x88 x89 h90 => S72_267 x79 h90 x83 x81 x87 x82 ih x86 x84 x85 x89 h4 x80 x88 q51))
noncomputable def S72_277 (h53 : Hp) (x67 : IV) (x55 : IV) (r66 : List Ref) (ih : Handler) (x61 : IV) (h4 : Hp) (q51 : List IV → Hp → Option (IV × Hp)) (x54 : IV) (x56 : IV) (x57 : IV) (x58 : IV) (x59 : IV) (x60 : IV) (n : Nat) : Option (IV × Hp) :=
  load1 x67 h53 fun x68 r69 => chkS [] r69 [] (nilS x55 fun x70 => faddrS 0 x70 fun x71 => load1 x71 h53 fun x72 r73 => S72_276 r73 r69 r66 ih h53 x72 x61 h4 q51 x54 x55 x56 x57 x58 x59 x60 n x68)
noncomputable def S72_278 (x55 : IV) (h53 : Hp) (x61 : IV) (ih : Handler) (h4 : Hp) (q51 : List IV → Hp → Option (IV × Hp)) (x54 : IV) (x56 : IV) (x57 : IV) (x58 : IV) (x59 : IV) (x60 : IV) (n : Nat) : Option (IV × Hp) :=
  nilS x55 fun x63 => faddrS 2 x63 fun x64 => load1 x64 h53 fun x65 r66 => chkS [] r66 [] (ixS 1 x65 x61 fun x67 => S72_277 h53 x67 x55 r66 ih x61 h4 q51 x54 x56 x57 x58 x59 x60 n)
noncomputable def S72_279 (r176 : List Ref) (w177 : List Ref) (h175 : Hp) (x58 : IV) : Option (IV × Hp) :=
  chkS [] r176 w177 (cellS true 3 x58 h175 fun x178 => outS1 [x178] h175)
noncomputable def S72_280 (x170 : IV) (h53 : Hp) (r169 : List Ref) (x168 : IV) (x59 : IV) (x58 : IV) : Option (IV × Hp) :=
  faddrS 1 x170 fun x171 => load1 x171 h53 fun x172 r173 => chkS [(r169, [])] r173 [] (bldS [.fv (.int .i64 0), .fv (.int .i64 0), .nils] [(0, 1, x168), (1, 1, x172), (2, 1, x59)] fun x174 => storeA 3 x58 x174 h53 fun h175 r176 w177 => S72_279 r176 w177 h175 x58)
noncomputable def S72_281 (x55 : IV) (h53 : Hp) (x59 : IV) (x58 : IV) : Option (IV × Hp) :=
  nilS x55 fun x166 => faddrS 0 x166 fun x167 => load1 x167 h53 fun x168 r169 => chkS [] r169 [] (nilS x55 fun x170 => S72_280 x170 h53 r169 x168 x59 x58)
noncomputable def S72_282 (l183 : List IV) (x55 : IV) (h53 : Hp) (ih : Handler) (h4 : Hp) (q51 : List IV → Hp → Option (IV × Hp)) (x54 : IV) (x56 : IV) (x57 : IV) (x58 : IV) (n : Nat) : Option (IV × Hp) :=
  uncS l183 fun x59 l184 => uncS l184 fun x60 l185 => uncS l185 fun x61 _ => ltS EE 3 x61 x60 fun x62 => condS x62 (S72_278 x55 h53 x61 ih h4 q51 x54 x56 x57 x58 x59 x60 n) (S72_281 x55 h53 x59 x58)
noncomputable def S72_283 (l52 : List IV) (h53 : Hp) (ih : Handler) (h4 : Hp) (q51 : List IV → Hp → Option (IV × Hp)) (n : Nat) : Option (IV × Hp) :=
  uncS l52 fun x54 l179 => uncS l179 fun x55 l180 => uncS l180 fun x56 l181 => uncS l181 fun x57 l182 => uncS l182 fun x58 l183 => S72_282 l183 x55 h53 ih h4 q51 x54 x56 x57 x58 n
noncomputable def S72_284 (h4 : Hp) (h47 : Hp) (x0 : IV) (x1 : IV) (x2 : IV) (x3 : IV) (x5 : IV) (x46 : IV) (x50 : IV) (n : Nat) (ih : Handler) : Option (IV × Hp) :=
  dropS (h4.own.map (·.1)) [75512833, 75516934] [x0, x1, x2, x3, x5, x46, x50, .fv (.int .i64 0)] h47 fun h187 => loopS n (fun q51 l52 h53 => S72_283 l52 h53 ih h4 q51 n) [x0, x1, x2, x3, x5, x46, x50, .fv (.int .i64 0)] h187
noncomputable def S72_285 (x41 : IV) (h12 : Hp) (h4 : Hp) (x0 : IV) (x1 : IV) (x2 : IV) (x3 : IV) (x5 : IV) (n : Nat) (ih : Handler) : Option (IV × Hp) :=
  faddrS 2 x41 fun x42 => load1 x42 h12 fun x43 _ => lenS x43 fun x45 => genS (pcMakeSlice EE 75506693 28 x45 x45) 75506693 h12 fun x46 h47 _ _ => lenS x46 fun x50 => S72_284 h4 h47 x0 x1 x2 x3 x5 x46 x50 n ih
noncomputable def S72_286 (h12 : Hp) (x26 : IV) (x2 : IV) (x1 : IV) (x5 : IV) (h4 : Hp) (x0 : IV) (x3 : IV) (n : Nat) (ih : Handler) : Option (IV × Hp) :=
  load1 x26 h12 fun x27 _ => eqS EE 3 x27 (.fv (.int .i64 1)) fun x29 => condS x29 (subS EE 3 x2 (.fv (.int .i64 1)) fun x30 => S72_263 x1 h12 x30 x5) (nilS x1 fun x41 => S72_285 x41 h12 h4 x0 x1 x2 x3 x5 n ih)
noncomputable def S72_287 (x19 : IV) (h12 : Hp) (x5 : IV) (x1 : IV) (x2 : IV) (h4 : Hp) (x0 : IV) (x3 : IV) (n : Nat) (ih : Handler) : Option (IV × Hp) :=
  condS x19 (bldS [.fv (.int .i64 0), .fv (.int .i64 0), .nils] [] fun x20 => storeA 3 x5 x20 h12 fun h21 _ _ => S72_261 h21 x5) (nilS x1 fun x25 => faddrS 0 x25 fun x26 => S72_286 h12 x26 x2 x1 x5 h4 x0 x3 n ih)
noncomputable def S72_288 (ih : Handler) (h10 : Hp) (x0 : IV) (x5 : IV) (x1 : IV) (x2 : IV) (h4 : Hp) (x3 : IV) (n : Nat) : Option (IV × Hp) :=
  isoS [true] false false ih 99 [x0] h10 fun _ h12 _ _ => nilS x0 fun x15 => faddrS 3 x15 fun x16 => load1 x16 h12 fun x17 _ => neS EE 36 x17 (.fv (.int .i64 0)) fun x19 => S72_287 x19 h12 x5 x1 x2 h4 x0 x3 n ih
noncomputable def S72_289 (x256 : IV) (h252 : Hp) (j0_9 : Hp → Option (IV × Hp)) : Option (IV × Hp) :=
  faddrS 3 x256 fun x257 => store1 x257 (.fv (.int .i64 5)) h252 fun h258 _ _ => j0_9 h258
noncomputable def S72_290 (h246 : Hp) (x202 : IV) (x234 : IV) (x245 : IV) (x0 : IV) (j0_9 : Hp → Option (IV × Hp)) : Option (IV × Hp) :=
  guardS x202 true h246 (fun k249 => pickS x234 (.fv (.bool true)) x245 fun x250 => k249 x250 h246 [] []) fun x251 h252 _ _ => pickS x202 x251 (.fv (.bool false)) fun x255 => condS x255 (nilS x0 fun x256 => S72_289 x256 h252 j0_9) (j0_9 h252)
noncomputable def S72_291 (h217 : Hp) (x202 : IV) (x216 : IV) (x3 : IV) (x0 : IV) (j0_9 : Hp → Option (IV × Hp)) : Option (IV × Hp) :=
  guardS x202 true h217 (fun k220 => load1 x216 h217 fun x221 r222 => k220 x221 h217 r222 []) fun x223 h224 _ _ => guardS x202 true h224 (fun k227 => gtS EE 3 x223 (.fv (.int .i64 3000)) fun x228 => k227 x228 h224 [] []) fun x229 h230 _ _ => guardS x202 true h230 (fun k233 => k233 x229 h230 [] []) fun x234 h235 _ _ => guardS x234 false h235 (fun k238 => k238 x3 h235 [] []) fun x239 h240 _ _ => guardS x234 false h240 (fun k243 => gtS EE 3 x239 (.fv (.int .i64 120)) fun x244 => k243 x244 h240 [] []) fun x245 h246 _ _ => S72_290 h246 x202 x234 x245 x0 j0_9
noncomputable def S72_292 (h195 : Hp) (x199 : IV) (x0 : IV) (x3 : IV) (j0_9 : Hp → Option (IV × Hp)) : Option (IV × Hp) :=
  load1 x199 h195 fun x200 _ => eqS EE 36 x200 (.fv (.int .i64 0)) fun x202 => guardS x202 true h195 (fun k203 => k203 x0 h195 [] []) fun x204 h205 _ _ => guardS x202 true h205 (fun k208 => nilS x204 fun x209 => k208 x209 h205 [] []) fun x210 h211 _ _ => guardS x202 true h211 (fun k214 => faddrS 2 x210 fun x215 => k214 x215 h211 [] []) fun x216 h217 _ _ => S72_291 h217 x202 x216 x3 x0 j0_9
noncomputable def S72_293 (x0 : IV) (h6 : Hp) (x192 : IV) (x3 : IV) (j0_9 : Hp → Option (IV × Hp)) : Option (IV × Hp) :=
  nilS x0 fun x193 => faddrS 2 x193 fun x194 => store1 x194 x192 h6 fun h195 _ _ => nilS x0 fun x198 => faddrS 3 x198 fun x199 => S72_292 h195 x199 x0 x3 j0_9
noncomputable def S72 (ih : Handler) (n : Nat) (x0 : IV) (x1 : IV) (x2 : IV) (x3 : IV) (h4 : Hp) : Option (IV × Hp) :=
  newS 75497472 (.row [.fv (.int .i64 0), .fv (.int .i64 0), .nils] false) (.ptr (.own 75497472) 0) h4 fun x5 h6 _ _ => (fun (j0_9 : Hp → Option (IV × Hp)) => nilS x0 fun x188 => faddrS 2 x188 fun x189 => load1 x189 h6 fun x190 _ => addS EE 3 x190 (.fv (.int .i64 1)) fun x192 => S72_293 x0 h6 x192 x3 j0_9) fun h10 => S72_288 ih h10 x0 x5 x1 x2 h4 x3 n
theorem S72_ok (ih : Handler) (n : Nat) (x0 : IV) (x1 : IV) (x2 : IV) (x3 : IV) (h4 : Hp) : funS EE ih ft.get n 72 [x0, x1, x2, x3] h4 = S72 ih n x0 x1 x2 x3 h4 := by kernel_rfl
noncomputable def S73 (ih : Handler) (n : Nat) (x0 : IV) (x1 : IV) (h2 : Hp) : Option (IV × Hp) :=
  isoS [] false false ih 104 [x0, x1] h2 fun x3 h4 _ _ => geS EE 3 x3 (.fv (.int .i64 0)) fun x7 => outS1 [x7] h4
theorem S73_ok (ih : Handler) (n : Nat) (x0 : IV) (x1 : IV) (h2 : Hp) : funS EE ih ft.get n 73 [x0, x1] h2 = S73 ih n x0 x1 h2 := by kernel_rfl
noncomputable def S74 (ih : Handler) (n : Nat) (x0 : IV) (x1 : IV) (h2 : Hp) : Option (IV × Hp) :=
  boxS 77594624 x0 h2 fun x3 h4 _ _ => load1 x1 h4 fun x7 _ => loadA 3 x3 h4 fun x9 _ => dynS EE ih x7 [x9] h4 fun x11 h12 _ _ => optS (unR .not x11) fun x15 => outS1 [x15] h12
theorem S74_ok (ih : Handler) (n : Nat) (x0 : IV) (x1 : IV) (h2 : Hp) : funS EE ih ft.get n 74 [x0, x1] h2 = S74 ih n x0 x1 h2 := by kernel_rfl
noncomputable def S75_57 (h35 : Hp) (x30 : IV) (x20 : IV) (ih : Handler) (x34 : IV) (j1_27 : IV → Hp → Option (IV × Hp)) (x19 : IV) : Option (IV × Hp) :=
  guardS x30 true h35 (fun k38 => loadA 3 x20 h35 fun x39 r40 => k38 x39 h35 r40 []) fun x41 h42 _ _ => guardS x30 true h42 (fun k45 => isoS [] false false ih 17 [x34, x41] h42 k45) fun x46 h47 _ _ => guardS x30 true h47 (fun k50 => optS (unR .not x46) fun x51 => k50 x51 h47 [] []) fun x52 h53 _ _ => pickS x30 x52 (.fv (.bool false)) fun x56 => condS x56 (j1_27 (.fv (.int .i64 11)) h53) (j1_27 x19 h53)
noncomputable def S75_58 (h15 : Hp) (x18 : IV) (x19 : IV) (x8 : IV) (ih : Handler) : Option (IV × Hp) :=
  newS 78644230 (.row [.fv (.int .i64 0), .fv (.int .i64 0), .nils] false) (.ptr (.own 78644230) 0) h15 fun x20 h21 _ _ => storeA 3 x20 x18 h21 fun h24 _ _ => (fun (j1_27 : IV → Hp → Option (IV × Hp)) => eqS EE 3 x19 (.fv (.int .i64 0)) fun x30 => guardS x30 true h24 (fun k31 => loadA 3 x8 h24 fun x32 r33 => k31 x32 h24 r33 []) fun x34 h35 _ _ => S75_57 h35 x30 x20 ih x34 j1_27 x19) fun x28 h29 => outS1 [x28] h29
noncomputable def S75 (ih : Handler) (n : Nat) (x0 : IV) (x1 : IV) (x2 : IV) (h3 : Hp) : Option (IV × Hp) :=
  boxS 78643200 x1 h3 fun x4 h5 _ _ => boxS 78643201 x2 h5 fun x8 h9 _ _ => loadA 3 x4 h9 fun x12 _ => isoS [] false false ih 19 [x0, x12] h9 fun x14 h15 _ _ => extS 0 x14 fun x18 => extS 1 x14 fun x19 => S75_58 h15 x18 x19 x8 ih
theorem S75_ok (ih : Handler) (n : Nat) (x0 : IV) (x1 : IV) (x2 : IV) (h3 : Hp) : funS EE ih ft.get n 75 [x0, x1, x2] h3 = S75 ih n x0 x1 x2 h3 := by kernel_rfl
noncomputable def S76_25 (r16 : List Ref) (r13 : List Ref) (w14 : List Ref) (r9 : List Ref) (w10 : List Ref) (h12 : Hp) (x15 : IV) (x11 : IV) : Option (IV × Hp) :=
  chkS [(r13, w14), (r9, w10)] r16 [] (genS (pcBuildSlice EE 28 1 [(0, x15)]) 79692804 h12 fun x17 h18 r19 w20 => chkS [(r13, w14), (r9, w10)] r19 w20 (genS (builtinR EE 79692805 false .append [28, 28] [x11, x17]) 79692805 h18 fun x21 h22 r23 w24 => chkS [] r23 w24 (outS1 [x21] h22)))
noncomputable def S76 (ih : Handler) (n : Nat) (x0 : IV) (x1 : IV) (h2 : Hp) : Option (IV × Hp) :=
  boxS 79691776 x1 h2 fun x3 h4 _ _ => genS (pcBuildSlice EE 28 0 []) 79692800 h4 fun x7 h8 r9 w10 => chkS [] r9 w10 (genS (builtinR EE 79692802 false .append [28, 28] [x7, x0]) 79692802 h8 fun x11 h12 r13 w14 => chkS [] r13 w14 (loadA 3 x3 h12 fun x15 r16 => S76_25 r16 r13 w14 r9 w10 h12 x15 x11))
theorem S76_ok (ih : Handler) (n : Nat) (x0 : IV) (x1 : IV) (h2 : Hp) : funS EE ih ft.get n 76 [x0, x1] h2 = S76 ih n x0 x1 h2 := by kernel_rfl
noncomputable def S77_27 (h13 : Hp) (x3 : IV) (x7 : IV) (x12 : IV) : Option (IV × Hp) :=
  loadA 3 x3 h13 fun x14 _ => storeA 3 x7 x14 h13 fun h16 _ _ => cellS true 3 x7 h16 fun x19 => outS1 [x19, x12] h16
noncomputable def S77_28 (ih : Handler) (h8 : Hp) (x21 : IV) (j1_11 : IV → Hp → Option (IV × Hp)) : Option (IV × Hp) :=
  isoS [] false false ih 35 [x21] h8 fun x23 h24 _ _ => j1_11 x23 h24
noncomputable def S77 (ih : Handler) (n : Nat) (x0 : IV) (x1 : IV) (h2 : Hp) : Option (IV × Hp) :=
  boxS 80740352 x0 h2 fun x3 h4 _ _ => newS 80740353 (.row [.fv (.int .i64 0), .fv (.int .i64 0), .nils] false) (.ptr (.own 80740353) 0) h4 fun x7 h8 _ _ => (fun (j1_11 : IV → Hp → Option (IV × Hp)) => eqS EE 3 x1 (.fv (.int .i64 0)) fun x20 => condS x20 (loadA 3 x3 h8 fun x21 _ => S77_28 ih h8 x21 j1_11) (j1_11 x1 h8)) fun x12 h13 => S77_27 h13 x3 x7 x12
theorem S77_ok (ih : Handler) (n : Nat) (x0 : IV) (x1 : IV) (h2 : Hp) : funS EE ih ft.get n 77 [x0, x1] h2 = S77 ih n x0 x1 h2 := by kernel_rfl
noncomputable def S89_47 (h7 : Hp) (x4 : IV) (x6 : IV) : Option (IV × Hp) :=
  guardS x4 true h7 (fun k10 => leS EE 3 x6 (.fv (.int .i64 3000)) fun x11 => k10 x11 h7 [] []) fun x12 h13 _ _ => pickS x4 x12 (.fv (.bool false)) fun x16 => outS1 [x16] h13
noncomputable def S89_48 (x1 : IV) (h2 : Hp) : Option (IV × Hp) :=
  geS EE 3 x1 (.fv (.int .i64 0)) fun x18 => guardS x18 true h2 (fun k19 => k19 x1 h2 [] []) fun x20 h21 _ _ => guardS x18 true h21 (fun k24 => leS EE 3 x20 (.fv (.int .i64 2)) fun x25 => k24 x25 h21 [] []) fun x26 h27 _ _ => pickS x18 x26 (.fv (.bool false)) fun x30 => outS1 [x30] h27
noncomputable def S89_49 (h35 : Hp) (x32 : IV) (x34 : IV) : Option (IV × Hp) :=
  guardS x32 true h35 (fun k38 => leS EE 3 x34 (.fv (.int .i64 4)) fun x39 => k38 x39 h35 [] []) fun x40 h41 _ _ => pickS x32 x40 (.fv (.bool false)) fun x44 => outS1 [x44] h41
noncomputable def S89_50 (x1 : IV) (h2 : Hp) : Option (IV × Hp) :=
  eqS EE 3 x1 (.fv (.int .i64 0)) fun x46 => outS1 [x46] h2
noncomputable def S89_51 (x0 : IV) (x1 : IV) (h2 : Hp) : Option (IV × Hp) :=
  eqS EE 3 x0 (.fv (.int .i64 26)) fun x31 => condS x31 (geS EE 3 x1 (.fv (.int .i64 0)) fun x32 => guardS x32 true h2 (fun k33 => k33 x1 h2 [] []) fun x34 h35 _ _ => S89_49 h35 x32 x34) (eqS EE 3 x0 (.fv (.int .i64 25)) fun x45 => condS x45 (outS1 [.fv (.bool true)] h2) (S89_50 x1 h2))
noncomputable def S89 (ih : Handler) (n : Nat) (x0 : IV) (x1 : IV) (h2 : Hp) : Option (IV × Hp) :=
  eqS EE 3 x0 (.fv (.int .i64 1)) fun x3 => condS x3 (geS EE 3 x1 (.fv (.int .i64 0)) fun x4 => guardS x4 true h2 (fun k5 => k5 x1 h2 [] []) fun x6 h7 _ _ => S89_47 h7 x4 x6) (eqS EE 3 x0 (.fv (.int .i64 2)) fun x17 => condS x17 (S89_48 x1 h2) (S89_51 x0 x1 h2))
theorem S89_ok (ih : Handler) (n : Nat) (x0 : IV) (x1 : IV) (h2 : Hp) : funS EE ih ft.get n 89 [x0, x1] h2 = S89 ih n x0 x1 h2 := by kernel_rfl
noncomputable def S91_29 (x13 : IV) (x21 : IV) (h22 : Hp) (x6 : IV) (x0 : IV) : Option (IV × Hp) :=
  pickS x13 (.fv (.bool true)) x21 fun x25 => condS x25 (outS1 [.fv (.int .i64 (-1))] h22) (ixA 31 1 x6 x0 fun x26 => load1 x26 h22 fun x27 _ => outS1 [x27] h22)
noncomputable def S91 (ih : Handler) (n : Nat) (x0 : IV) (h1 : Hp) : Option (IV × Hp) :=
  genS (pcBuild EE 132 [(0, .fv (.int .i64 (-1))), (1, .fv (.int .i64 0)), (2, .fv (.int .i64 0)), (3, .fv (.int .i64 2)), (4, .fv (.int .i64 2)), (5, .fv (.int .i64 2)), (6, .fv (.int .i64 2)), (7, .fv (.int .i64 3)), (8, .fv (.int .i64 1)), (9, .fv (.int .i64 1)), (10, .fv (.int .i64 0)), (11, .fv (.int .i64 0)), (12, .fv (.int .i64 1)), (13, .fv (.int .i64 4)), (14, .fv (.int .i64 0)), (15, .fv (.int .i64 0)), (16, .fv (.int .i64 2)), (17, .fv (.int .i64 2)), (18, .fv (.int .i64 1)), (19, .fv (.int .i64 1)), (20, .fv (.int .i64 2)), (21, .fv (.int .i64 2)), (22, .fv (.int .i64 2)), (23, .fv (.int .i64 1)), (24, .fv (.int .i64 1)), (25, .fv (.int .i64 0)), (26, .fv (.int .i64 2)), (27, .fv (.int .i64 3)), (28, .fv (.int .i64 2)), (29, .fv (.int .i64 2)), (30, .fv (.int .i64 1))]) 95421440 h1 fun x2 h3 _ _ => newS 95421441 (.row [.fv (.int .i64 0), .fv (.int .i64 0), .fv (.int .i64 0), .fv (.int .i64 0), .fv (.int .i64 0), .fv (.int .i64 0), .fv (.int .i64 0), .fv (.int .i64 0), .fv (.int .i64 0), .fv (.int .i64 0), .fv (.int .i64 0), .fv (.int .i64 0), .fv (.int .i64 0), .fv (.int .i64 0), .fv (.int .i64 0), .fv (.int .i64 0), .fv (.int .i64 0), .fv (.int .i64 0), .fv (.int .i64 0), .fv (.int .i64 0), .fv (.int .i64 0), .fv (.int .i64 0), .fv (.int .i64 0), .fv (.int .i64 0), .fv (.int .i64 0), .fv (.int .i64 0), .fv (.int .i64 0), .fv (.int .i64 0), .fv (.int .i64 0), .fv (.int .i64 0), .fv (.int .i64 0)] false) (.ptr (.own 95421441) 0) h3 fun x6 h7 _ _ => storeA 31 x6 x2 h7 fun h10 _ _ => ltS EE 120 x0 (.fv (.int .i64 0)) fun x13 => guardS x13 false h10 (fun k14 => k14 x0 h10 [] []) fun x15 h16 _ _ => guardS x13 false h16 (fun k19 => geS EE 3 x15 (.fv (.int .i64 31)) fun x20 => k19 x20 h16 [] []) fun x21 h22 _ _ => S91_29 x13 x21 h22 x6 x0
theorem S91_ok (ih : Handler) (n : Nat) (x0 : IV) (h1 : Hp) : funS EE ih ft.get n 91 [x0] h1 = S91 ih n x0 h1 := by kernel_rfl
noncomputable def S92_47 (h7 : Hp) (x4 : IV) (x6 : IV) : Option (IV × Hp) :=
  guardS x4 true h7 (fun k10 => leS EE 3 x6 (.fv (.int .i64 3000)) fun x11 => k10 x11 h7 [] []) fun x12 h13 _ _ => pickS x4 x12 (.fv (.bool false)) fun x16 => outS1 [x16] h13
noncomputable def S92_48 (x1 : IV) (h2 : Hp) : Option (IV × Hp) :=
  geS EE 3 x1 (.fv (.int .i64 0)) fun x18 => guardS x18 true h2 (fun k19 => k19 x1 h2 [] []) fun x20 h21 _ _ => guardS x18 true h21 (fun k24 => leS EE 3 x20 (.fv (.int .i64 2)) fun x25 => k24 x25 h21 [] []) fun x26 h27 _ _ => pickS x18 x26 (.fv (.bool false)) fun x30 => outS1 [x30] h27
noncomputable def S92_49 (h35 : Hp) (x32 : IV) (x34 : IV) : Option (IV × Hp) :=
  guardS x32 true h35 (fun k38 => leS EE 3 x34 (.fv (.int .i64 4)) fun x39 => k38 x39 h35 [] []) fun x40 h41 _ _ => pickS x32 x40 (.fv (.bool false)) fun x44 => outS1 [x44] h41
noncomputable def S92_50 (x1 : IV) (h2 : Hp) : Option (IV × Hp) :=
  eqS EE 3 x1 (.fv (.int .i64 0)) fun x46 => outS1 [x46] h2
noncomputable def S92_51 (x0 : IV) (x1 : IV) (h2 : Hp) : Option (IV × Hp) :=
  eqS EE 3 x0 (.fv (.int .i64 26)) fun x31 => condS x31 (geS EE 3 x1 (.fv (.int .i64 0)) fun x32 => guardS x32 true h2 (fun k33 => k33 x1 h2 [] []) fun x34 h35 _ _ => S92_49 h35 x32 x34) (eqS EE 3 x0 (.fv (.int .i64 25)) fun x45 => condS x45 (outS1 [.fv (.bool true)] h2) (S92_50 x1 h2))
noncomputable def S92 (ih : Handler) (n : Nat) (x0 : IV) (x1 : IV) (h2 : Hp) : Option (IV × Hp) :=
  eqS EE 3 x0 (.fv (.int .i64 1)) fun x3 => condS x3 (geS EE 3 x1 (.fv (.int .i64 0)) fun x4 => guardS x4 true h2 (fun k5 => k5 x1 h2 [] []) fun x6 h7 _ _ => S92_47 h7 x4 x6) (eqS EE 3 x0 (.fv (.int .i64 2)) fun x17 => condS x17 (S92_48 x1 h2) (S92_51 x0 x1 h2))
theorem S92_ok (ih : Handler) (n : Nat) (x0 : IV) (x1 : IV) (h2 : Hp) : funS EE ih ft.get n 92 [x0, x1] h2 = S92 ih n x0 x1 h2 := by kernel_rfl
noncomputable def S93_17 (x0 : IV) (h7 : Hp) : Option (IV × Hp) :=
  eqS EE 3 x0 (.fv (.int .i64 13)) fun x9 => condS x9 (outS1 [.fv (.int .i64 4)] h7) (outS1 [.fv (.int .i64 (-1))] h7)
noncomputable def S93_18 (x6 : IV) (h7 : Hp) (x0 : IV) : Option (IV × Hp) :=
  condS x6 (outS1 [.fv (.int .i64 2)] h7) (eqS EE 3 x0 (.fv (.int .i64 7)) fun x8 => condS x8 (outS1 [.fv (.int .i64 3)] h7) (S93_17 x0 h7))
noncomputable def S93_19 (x10 : IV) (j1_5 : IV → Hp → Option (IV × Hp)) (h4 : Hp) (x0 : IV) : Option (IV × Hp) :=
  condS x10 (j1_5 x10 h4) (eqS EE 3 x0 (.fv (.int .i64 5)) fun x11 => j1_5 x11 h4)
noncomputable def S93_20 (x3 : IV) (h4 : Hp) (x0 : IV) : Option (IV × Hp) :=
  condS x3 (outS1 [.fv (.int .i64 1)] h4) ((fun (j1_5 : IV → Hp → Option (IV × Hp)) => eqS EE 3 x0 (.fv (.int .i64 4)) fun x10 => S93_19 x10 j1_5 h4 x0) fun x6 h7 => S93_18 x6 h7 x0)
noncomputable def S93_21 (x0 : IV) (j1_2 : IV → Hp → Option (IV × Hp)) (h1 : Hp) : Option (IV × Hp) :=
  eqS EE 3 x0 (.fv (.int .i64 30)) fun x16 => j1_2 x16 h1
noncomputable def S93_22 (x0 : IV) (j1_2 : IV → Hp → Option (IV × Hp)) (h1 : Hp) : Option (IV × Hp) :=
  eqS EE 3 x0 (.fv (.int .i64 12)) fun x14 => condS x14 (j1_2 x14 h1) (eqS EE 3 x0 (.fv (.int .i64 19)) fun x15 => condS x15 (j1_2 x15 h1) (S93_21 x0 j1_2 h1))
noncomputable def S93 (ih : Handler) (n : Nat) (x0 : IV) (h1 : Hp) : Option (IV × Hp) :=
  (fun (j1_2 : IV → Hp → Option (IV × Hp)) => eqS EE 3 x0 (.fv (.int .i64 8)) fun x12 => condS x12 (j1_2 x12 h1) (eqS EE 3 x0 (.fv (.int .i64 9)) fun x13 => condS x13 (j1_2 x13 h1) (S93_22 x0 j1_2 h1))) fun x3 h4 => S93_20 x3 h4 x0
theorem S93_ok (ih : Handler) (n : Nat) (x0 : IV) (h1 : Hp) : funS EE ih ft.get n 93 [x0] h1 = S93 ih n x0 h1 := by kernel_rfl
noncomputable def S94_30 (ih : Handler) (h23 : Hp) (x0 : IV) (x8 : IV) (x22 : IV) : Option (IV × Hp) :=
  isoS [true, false, false, false] false false ih 103 [x0, x8, .fv (.int .i64 1), x22] h23 fun x26 h27 _ _ => outS1 [x26] h27
noncomputable def S94_31 (x15 : IV) (h2 : Hp) (ih : Handler) (x0 : IV) (x8 : IV) : Option (IV × Hp) :=
  faddrS 2 x15 fun x16 => load1 x16 h2 fun x17 _ => ixS 1 x17 (.fv (.int .i64 1)) fun x19 => load1 x19 h2 fun x20 _ => genS (pcBuildSlice EE 127 1 [(0, x20)]) 98569224 h2 fun x22 h23 _ _ => S94_30 ih h23 x0 x8 x22
noncomputable def S94_32 (x10 : IV) (h2 : Hp) (x1 : IV) (ih : Handler) (x0 : IV) (x8 : IV) : Option (IV × Hp) :=
  faddrS 0 x10 fun x11 => load1 x11 h2 fun x12 _ => eqS EE 3 x12 (.fv (.int .i64 4)) fun x14 => condS x14 (nilS x1 fun x15 => S94_31 x15 h2 ih x0 x8) (outS1 [.fv .nilp] h2)
noncomputable def S94 (ih : Handler) (n : Nat) (x0 : IV) (x1 : IV) (h2 : Hp) : Option (IV × Hp) :=
  nilS x1 fun x3 => faddrS 2 x3 fun x4 => load1 x4 h2 fun x5 _ => ixS 1 x5 (.fv (.int .i64 0)) fun x7 => load1 x7 h2 fun x8 _ => nilS x8 fun x10 => S94_32 x10 h2 x1 ih x0 x8
theorem S94_ok (ih : Handler) (n : Nat) (x0 : IV) (x1 : IV) (h2 : Hp) : funS EE ih ft.get n 94 [x0, x1] h2 = S94 ih n x0 x1 h2 := by kernel_rfl
noncomputable def S95_34 (x20 : IV) (h2 : Hp) : Option (IV × Hp) :=
  faddrS 2 x20 fun x21 => load1 x21 h2 fun x22 _ => ixS 1 x22 (.fv (.int .i64 1)) fun x24 => load1 x24 h2 fun x25 _ => outS1 [x25] h2
noncomputable def S95_35 (x27 : IV) (h2 : Hp) : Option (IV × Hp) :=
  faddrS 2 x27 fun x28 => load1 x28 h2 fun x29 _ => ixS 1 x29 (.fv (.int .i64 2)) fun x31 => load1 x31 h2 fun x32 _ => outS1 [x32] h2
noncomputable def S95_36 (x15 : IV) (h2 : Hp) (x8 : IV) : Option (IV × Hp) :=
  faddrS 0 x15 fun x16 => load1 x16 h2 fun x17 _ => eqS EE 3 x17 (.fv (.int .i64 8)) fun x19 => condS x19 (nilS x8 fun x20 => S95_34 x20 h2) (nilS x8 fun x27 => S95_35 x27 h2)
noncomputable def S95_37 (x10 : IV) (h2 : Hp) (x1 : IV) (x8 : IV) : Option (IV × Hp) :=
  faddrS 0 x10 fun x11 => load1 x11 h2 fun x12 _ => neS EE 3 x12 (.fv (.int .i64 7)) fun x14 => condS x14 (outS1 [.fv .nilp] h2) (nilS x1 fun x15 => S95_36 x15 h2 x8)
noncomputable def S95 (ih : Handler) (n : Nat) (x0 : IV) (x1 : IV) (h2 : Hp) : Option (IV × Hp) :=
  nilS x1 fun x3 => faddrS 2 x3 fun x4 => load1 x4 h2 fun x5 _ => ixS 1 x5 (.fv (.int .i64 0)) fun x7 => load1 x7 h2 fun x8 _ => nilS x8 fun x10 => S95_37 x10 h2 x1 x8
theorem S95_ok (ih : Handler) (n : Nat) (x0 : IV) (x1 : IV) (h2 : Hp) : funS EE ih ft.get n 95 [x0, x1] h2 = S95 ih n x0 x1 h2 := by kernel_rfl
noncomputable def S96_74 (x15 : IV) (h2 : Hp) : Option (IV × Hp) :=
  faddrS 2 x15 fun x16 => load1 x16 h2 fun x17 _ => ixS 1 x17 (.fv (.int .i64 1)) fun x19 => load1 x19 h2 fun x20 _ => outS1 [x20] h2
noncomputable def S96_75 (h63 : Hp) (x60 : IV) (x62 : IV) (ih : Handler) (x0 : IV) (x1 : IV) : Option (IV × Hp) :=
  genS (pcBuildSlice EE 127 2 [(0, x60), (1, x62)]) 100671498 h63 fun x66 h67 r68 w69 => chkS [] r68 w69 (isoS [true, false, false, false] false false ih 103 [x0, x1, .fv (.int .i64 2), x66] h67 fun x70 h71 r72 w73 => chkS [] r72 w73 (outS1 [x70] h71))
noncomputable def S96_76 (x57 : IV) (h52 : Hp) (ih : Handler) (x0 : IV) (x26 : IV) (r58 : List Ref) (x1 : IV) : Option (IV × Hp) :=
  ixS 1 x57 (.fv (.int .i64 0)) fun x59 => load1 x59 h52 fun x60 r61 => chkS [] r61 [] (isoS [true, false] false false ih 102 [x0, x26] h52 fun x62 h63 r64 w65 => chkS [(r61, []), (r58, [])] r64 w65 (S96_75 h63 x60 x62 ih x0 x1))
noncomputable def S96_77 (r53 : List Ref) (w54 : List Ref) (x8 : IV) (h52 : Hp) (ih : Handler) (x0 : IV) (x26 : IV) (x1 : IV) : Option (IV × Hp) :=
  chkS [] r53 w54 (nilS x8 fun x55 => faddrS 2 x55 fun x56 => load1 x56 h52 fun x57 r58 => chkS [] r58 [] (S96_76 x57 h52 ih x0 x26 r58 x1))
noncomputable def S96_78 (r46 : List Ref) (r39 : List Ref) (r36 : List Ref) (h30 : Hp) (x38 : IV) (x45 : IV) (x26 : IV) (x8 : IV) (ih : Handler) (x0 : IV) (x1 : IV) : Option (IV × Hp) :=
  chkS [(r39, []), (r36, [])] r46 [] (genS (pcBuildSlice EE 127 4 [(0, .fv .nilp), (1, x38), (2, .fv .nilp), (3, x45)]) 100670476 h30 fun x47 h48 r49 w50 => chkS [] r49 w50 (faddrS 2 x26 fun x51 => store1 x51 x47 h48 fun h52 r53 w54 => S96_77 r53 w54 x8 h52 ih x0 x26 x1))
noncomputable def S96_79 (x40 : IV) (h30 : Hp) (r39 : List Ref) (r36 : List Ref) (x38 : IV) (x26 : IV) (x8 : IV) (ih : Handler) (x0 : IV) (x1 : IV) : Option (IV × Hp) :=
  faddrS 2 x40 fun x41 => load1 x41 h30 fun x42 r43 => chkS [(r39, []), (r36, [])] r43 [] (ixS 1 x42 (.fv (.int .i64 0)) fun x44 => load1 x44 h30 fun x45 r46 => S96_78 r46 r39 r36 h30 x38 x45 x26 x8 ih x0 x1)
noncomputable def S96_80 (r36 : List Ref) (x35 : IV) (h30 : Hp) (x8 : IV) (x26 : IV) (ih : Handler) (x0 : IV) (x1 : IV) : Option (IV × Hp) :=
  chkS [] r36 [] (ixS 1 x35 (.fv (.int .i64 1)) fun x37 => load1 x37 h30 fun x38 r39 => chkS [] r39 [] (nilS x8 fun x40 => S96_79 x40 h30 r39 r36 x38 x26 x8 ih x0 x1))
noncomputable def S96_81 (h2 : Hp) (x24 : IV) (x1 : IV) (x8 : IV) (ih : Handler) (x0 : IV) : Option (IV × Hp) :=
  newS 100669443 (.row [.fv (.int .i64 0), .fv (.int .i64 0), .nils, .fv (.int .i64 0), .fv (.int .i64 0), .nils, .fv (.nilp)] false) (.ptr (.own 100669443) 0) h2 fun x26 h27 _ _ => storeA 7 x26 x24 h27 fun h30 _ _ => nilS x1 fun x33 => faddrS 2 x33 fun x34 => load1 x34 h30 fun x35 r36 => S96_80 r36 x35 h30 x8 x26 ih x0 x1
noncomputable def S96_82 (x22 : IV) (x1 : IV) (h2 : Hp) (x8 : IV) (ih : Handler) (x0 : IV) : Option (IV × Hp) :=
  condS x22 (nilS x1 fun x23 => loadA 7 x23 h2 fun x24 _ => S96_81 h2 x24 x1 x8 ih x0) (outS1 [.fv .nilp] h2)
noncomputable def S96_83 (x10 : IV) (h2 : Hp) (x1 : IV) (x8 : IV) (ih : Handler) (x0 : IV) : Option (IV × Hp) :=
  faddrS 0 x10 fun x11 => load1 x11 h2 fun x12 _ => eqS EE 3 x12 (.fv (.int .i64 11)) fun x14 => condS x14 (nilS x1 fun x15 => S96_74 x15 h2) (eqS EE 3 x12 (.fv (.int .i64 12)) fun x22 => S96_82 x22 x1 h2 x8 ih x0)
noncomputable def S96 (ih : Handler) (n : Nat) (x0 : IV) (x1 : IV) (h2 : Hp) : Option (IV × Hp) :=
  nilS x1 fun x3 => faddrS 2 x3 fun x4 => load1 x4 h2 fun x5 _ => ixS 1 x5 (.fv (.int .i64 3)) fun x7 => load1 x7 h2 fun x8 _ => nilS x8 fun x10 => S96_83 x10 h2 x1 x8 ih x0
theorem S96_ok (ih : Handler) (n : Nat) (x0 : IV) (x1 : IV) (h2 : Hp) : funS EE ih ft.get n 96 [x0, x1] h2 = S96 ih n x0 x1 h2 := by kernel_rfl
noncomputable def S97 (ih : Handler) (n : Nat) (x0 : IV) (x1 : IV) (h2 : Hp) : Option (IV × Hp) :=
  isoS [] false false ih 109 [x1, .fv (.int .i64 19)] h2 fun x3 h4 _ _ => outS1 [x3] h4
theorem S97_ok (ih : Handler) (n : Nat) (x0 : IV) (x1 : IV) (h2 : Hp) : funS EE ih ft.get n 97 [x0, x1] h2 = S97 ih n x0 x1 h2 := by kernel_rfl
noncomputable def S98 (ih : Handler) (n : Nat) (x0 : IV) (x1 : IV) (h2 : Hp) : Option (IV × Hp) :=
  isoS [] false false ih 109 [x1, .fv (.int .i64 30)] h2 fun x3 h4 _ _ => outS1 [x3] h4
theorem S98_ok (ih : Handler) (n : Nat) (x0 : IV) (x1 : IV) (h2 : Hp) : funS EE ih ft.get n 98 [x0, x1] h2 = S98 ih n x0 x1 h2 := by kernel_rfl
noncomputable def S99_53 (h44 : Hp) (x49 : IV) : Option (IV × Hp) :=
  store1 x49 (.fv (.int .i64 17)) h44 fun h50 _ _ => outS1 [] h50
noncomputable def S99_54 (x16 : IV) (x43 : IV) (x0 : IV) (h44 : Hp) : Option (IV × Hp) :=
  pickS x16 x43 (.fv (.bool false)) fun x47 => condS x47 (nilS x0 fun x48 => faddrS 3 x48 fun x49 => S99_53 h44 x49) (outS1 [] h44)
noncomputable def S99_55 (h9 : Hp) (x16 : IV) (x0 : IV) : Option (IV × Hp) :=
  guardS x16 true h9 (fun k17 => k17 x0 h9 [] []) fun x18 h19 _ _ => guardS x16 true h19 (fun k22 => nilS x18 fun x23 => k22 x23 h19 [] []) fun x24 h25 _ _ => guardS x16 true h25 (fun k28 => faddrS 3 x24 fun x29 => k28 x29 h25 [] []) fun x30 h31 _ _ => guardS x16 true h31 (fun k34 => load1 x30 h31 fun x35 r36 => k34 x35 h31 r36 []) fun x37 h38 _ _ => guardS x16 true h38 (fun k41 => eqS EE 36 x37 (.fv (.int .i64 0)) fun x42 => k41 x42 h38 [] []) fun x43 h44 _ _ => S99_54 x16 x43 x0 h44
noncomputable def S99_56 (h1 : Hp) (x8 : IV) (x6 : IV) (x0 : IV) : Option (IV × Hp) :=
  store1 x8 x6 h1 fun h9 _ _ => nilS x0 fun x12 => faddrS 1 x12 fun x13 => load1 x13 h9 fun x14 _ => ltS EE 3 x14 (.fv (.int .i64 0)) fun x16 => S99_55 h9 x16 x0
noncomputable def S99 (ih : Handler) (n : Nat) (x0 : IV) (h1 : Hp) : Option (IV × Hp) :=
  nilS x0 fun x2 => faddrS 1 x2 fun x3 => load1 x3 h1 fun x4 _ => subS EE 3 x4 (.fv (.int .i64 1)) fun x6 => nilS x0 fun x7 => faddrS 1 x7 fun x8 => S99_56 h1 x8 x6 x0
theorem S99_ok (ih : Handler) (n : Nat) (x0 : IV) (h1 : Hp) : funS EE ih ft.get n 99 [x0] h1 = S99 ih n x0 h1 := by kernel_rfl
noncomputable def S100_27 (h5 : Hp) (x11 : IV) : Option (IV × Hp) :=
  load1 x11 h5 fun x12 _ => outS1 [x12] h5
noncomputable def S100_28 (x15 : IV) (h5 : Hp) (q3 : List IV → Hp → Option (IV × Hp)) (x14 : IV) : Option (IV × Hp) :=
  faddrS 1 x15 fun x16 => load1 x16 h5 fun x17 _ => q3 [x17, x14] h5
noncomputable def S100_29 (x9 : IV) (x6 : IV) (h5 : Hp) (x7 : IV) (q3 : List IV → Hp → Option (IV × Hp)) : Option (IV × Hp) :=
  condS x9 (nilS x6 fun x10 => faddrS 0 x10 fun x11 => S100_27 h5 x11) (subS EE 3 x7 (.fv (.int .i64 1)) fun x14 => nilS x6 fun x15 => S100_28 x15 h5 q3 x14)
noncomputable def S100_30 (x19 : IV) (h5 : Hp) : Option (IV × Hp) :=
  bldS [.fv (.int .i64 0), .fv (.int .i64 0), .nils, .fv (.int .i64 0), .fv (.int .i64 0), .nils, .fv (.nilp)] [(0, 1, .fv (.int .i64 1)), (1, 1, x19)] fun x20 => boxS 104863747 x20 h5 fun x21 h22 _ _ => outS1 [x21] h22
noncomputable def S100_31 (l4 : List IV) (h5 : Hp) (q3 : List IV → Hp → Option (IV × Hp)) : Option (IV × Hp) :=
  uncS l4 fun x6 l25 => uncS l25 fun x7 _ => neS EE 125 x6 (.fv .nilp) fun x8 => condS x8 (eqS EE 3 x7 (.fv (.int .i64 0)) fun x9 => S100_29 x9 x6 h5 x7 q3) (subS EE 3 (.fv (.int .i64 (-1))) x7 fun x19 => S100_30 x19 h5)
noncomputable def S100 (ih : Handler) (n : Nat) (x0 : IV) (x1 : IV) (h2 : Hp) : Option (IV × Hp) :=
  loopS n (fun q3 l4 h5 => S100_31 l4 h5 q3) [x0, x1] h2
theorem S100_ok (ih : Handler) (n : Nat) (x0 : IV) (x1 : IV) (h2 : Hp) : funS EE ih ft.get n 100 [x0, x1] h2 = S100 ih n x0 x1 h2 := by kernel_rfl
noncomputable def S101 (ih : Handler) (n : Nat) (x0 : IV) (x1 : IV) (h2 : Hp) : Option (IV × Hp) :=
  dynS EE ih (.fv (.func (.func 110) [] [])) [x0, x1] h2 fun x3 h4 _ _ => outS1 [x3] h4
theorem S101_ok (ih : Handler) (n : Nat) (x0 : IV) (x1 : IV) (h2 : Hp) : funS EE ih ft.get n 101 [x0, x1] h2 = S101 ih n x0 x1 h2 := by kernel_rfl
noncomputable def S102_126 (h113 : Hp) (x122 : IV) (j0_104 : Hp → Option (IV × Hp)) : Option (IV × Hp) :=
  store1 x122 (.fv (.int .i64 17)) h113 fun h123 _ _ => j0_104 h123
noncomputable def S102_127 (x120 : IV) (x0 : IV) (h113 : Hp) (j0_104 : Hp → Option (IV × Hp)) : Option (IV × Hp) :=
  condS x120 (nilS x0 fun x121 => faddrS 3 x121 fun x122 => S102_126 h113 x122 j0_104) (j0_104 h113)
noncomputable def S102_128 (h100 : Hp) (x112 : IV) (x110 : IV) (x0 : IV) (j0_104 : Hp → Option (IV × Hp)) : Option (IV × Hp) :=
  store1 x112 x110 h100 fun h113 _ _ => nilS x0 fun x116 => faddrS 0 x116 fun x117 => load1 x117 h113 fun x118 _ => ltS EE 3 x118 (.fv (.int .i64 0)) fun x120 => S102_127 x120 x0 h113 j0_104
noncomputable def S102_129 (x106 : IV) (h100 : Hp) (x0 : IV) (j0_104 : Hp → Option (IV × Hp)) : Option (IV × Hp) :=
  faddrS 0 x106 fun x107 => load1 x107 h100 fun x108 _ => subS EE 3 x108 (.fv (.int .i64 1)) fun x110 => nilS x0 fun x111 => faddrS 0 x111 fun x112 => S102_128 h100 x112 x110 x0 j0_104
noncomputable def S102_130 (x103 : IV) (h100 : Hp) (x1 : IV) (x68 : IV) (x0 : IV) : Option (IV × Hp) :=
  condS x103 (outS1 [x1] h100) ((fun (j0_104 : Hp → Option (IV × Hp)) => nilS x0 fun x106 => S102_129 x106 h100 x0 j0_104) fun h105 => outS1 [x68] h105)
noncomputable def S102_131 (h75 : Hp) (x72 : IV) (x74 : IV) (x1 : IV) (x68 : IV) (x0 : IV) : Option (IV × Hp) :=
  guardS x72 false h75 (fun k78 => nilS x74 fun x79 => k78 x79 h75 [] []) fun x80 h81 _ _ => guardS x72 false h81 (fun k84 => faddrS 3 x80 fun x85 => k84 x85 h81 [] []) fun x86 h87 _ _ => guardS x72 false h87 (fun k90 => load1 x86 h87 fun x91 r92 => k90 x91 h87 r92 []) fun x93 h94 _ _ => guardS x72 false h94 (fun k97 => neS EE 36 x93 (.fv (.int .i64 0)) fun x98 => k97 x98 h94 [] []) fun x99 h100 _ _ => pickS x72 (.fv (.bool true)) x99 fun x103 => S102_130 x103 h100 x1 x68 x0
noncomputable def S102_132 (x17 : IV) (h57 : Hp) (ih : Handler) (x1 : IV) (x0 : IV) : Option (IV × Hp) :=
  faddrS 0 x17 fun x65 => load1 x65 h57 fun x66 _ => dynS EE ih x66 [x1] h57 fun x68 h69 _ _ => eqS EE 96 x68 (.fv .nilp) fun x72 => guardS x72 false h69 (fun k73 => k73 x0 h69 [] []) fun x74 h75 _ _ => S102_131 h75 x72 x74 x1 x68 x0
noncomputable def S102_133 (x0 : IV) (h57 : Hp) (x1 : IV) (x17 : IV) (ih : Handler) : Option (IV × Hp) :=
  nilS x0 fun x60 => faddrS 3 x60 fun x61 => load1 x61 h57 fun x62 _ => neS EE 36 x62 (.fv (.int .i64 0)) fun x64 => condS x64 (outS1 [x1] h57) (S102_132 x17 h57 ih x1 x0)
noncomputable def S102_134 (h46 : Hp) (x24 : IV) (x45 : IV) (x1 : IV) (ih : Handler) (x0 : IV) (x17 : IV) : Option (IV × Hp) :=
  guardS x24 false h46 (fun k49 => neS EE 36 x45 (.fv (.int .i64 0)) fun x50 => k49 x50 h46 [] []) fun x51 h52 _ _ => pickS x24 (.fv (.bool true)) x51 fun x55 => condS x55 (outS1 [x1] h52) (isoS [true] false false ih 99 [x0] h52 fun _ h57 _ _ => S102_133 x0 h57 x1 x17 ih)
noncomputable def S102_135 (x16 : IV) (h21 : Hp) (x0 : IV) (x1 : IV) (ih : Handler) (x17 : IV) : Option (IV × Hp) :=
  optS (unR .not x16) fun x24 => guardS x24 false h21 (fun k25 => k25 x0 h21 [] []) fun x26 h27 _ _ => guardS x24 false h27 (fun k30 => nilS x26 fun x31 => k30 x31 h27 [] []) fun x32 h33 _ _ => guardS x24 false h33 (fun k36 => faddrS 3 x32 fun x37 => k36 x37 h33 [] []) fun x38 h39 _ _ => guardS x24 false h39 (fun k42 => load1 x38 h39 fun x43 r44 => k42 x43 h39 r44 []) fun x45 h46 _ _ => S102_134 h46 x24 x45 x1 ih x0 x17
noncomputable def S102_136 (x11 : IV) (h12 : Hp) (r13 : List Ref) (w14 : List Ref) (r10 : List Ref) (r6 : List Ref) (x15 : IV) (x0 : IV) (x1 : IV) (ih : Handler) : Option (IV × Hp) :=
  extS 1 x11 fun x16 => newS 106955788 (.row [.fv (.nilf)] false) (.ptr (.own 106955788) 0) h12 fun x17 h18 r19 w20 => chkS [(r13, w14), (r10, []), (r6, [])] r19 w20 (store1 x17 x15 h18 fun h21 r22 w23 => chkS [] r22 w23 (S102_135 x16 h21 x0 x1 ih x17))
noncomputable def S102_137 (h2 : Hp) (x8 : IV) (r6 : List Ref) (x5 : IV) (x0 : IV) (x1 : IV) (ih : Handler) : Option (IV × Hp) :=
  load1 x8 h2 fun x9 r10 => chkS [(r6, [])] r10 [] (genS (pcLookup EE 98 x5 x9 true) 106955784 h2 fun x11 h12 r13 w14 => chkS [] r13 w14 (extS 0 x11 fun x15 => S102_136 x11 h12 r13 w14 r10 r6 x15 x0 x1 ih))
noncomputable def S102 (ih : Handler) (n : Nat) (x0 : IV) (x1 : IV) (h2 : Hp) : Option (IV × Hp) :=
  nilS x0 fun x3 => faddrS 4 x3 fun x4 => load1 x4 h2 fun x5 r6 => chkS [] r6 [] (nilS x1 fun x7 => faddrS 0 x7 fun x8 => S102_137 h2 x8 r6 x5 x0 x1 ih)
theorem S102_ok (ih : Handler) (n : Nat) (x0 : IV) (x1 : IV) (h2 : Hp) : funS EE ih ft.get n 102 [x0, x1] h2 = S102 ih n x0 x1 h2 := by kernel_rfl
noncomputable def S103_25 (x16 : IV) (x2 : IV) (h10 : Hp) (r11 : List Ref) (w12 : List Ref) (r8 : List Ref) (ih : Handler) (x0 : IV) (x9 : IV) : Option (IV × Hp) :=
  ixS 3 x16 x2 fun x18 => loadA 3 x18 h10 fun x19 r20 => chkS [(r11, w12), (r8, [])] r20 [] (isoS [true, false, false] false false ih 71 [x0, x9, x19] h10 fun x21 h22 r23 w24 => chkS [] r23 w24 (outS1 [x21] h22))
noncomputable def S103_26 (x1 : IV) (h10 : Hp) (r11 : List Ref) (w12 : List Ref) (r8 : List Ref) (x2 : IV) (ih : Handler) (x0 : IV) (x9 : IV) : Option (IV × Hp) :=
  nilS x1 fun x13 => faddrS 3 x13 fun x14 => faddrS 2 x14 fun x15 => load1 x15 h10 fun x16 r17 => chkS [(r11, w12), (r8, [])] r17 [] (S103_25 x16 x2 h10 r11 w12 r8 ih x0 x9)
noncomputable def S103 (ih : Handler) (n : Nat) (x0 : IV) (x1 : IV) (x2 : IV) (x3 : IV) (h4 : Hp) : Option (IV × Hp) :=
  nilS x1 fun x5 => faddrS 6 x5 fun x6 => load1 x6 h4 fun x7 r8 => chkS [] r8 [] (isoS [] false false ih 111 [x7, x3] h4 fun x9 h10 r11 w12 => chkS [] r11 w12 (S103_26 x1 h10 r11 w12 r8 x2 ih x0 x9))
theorem S103_ok (ih : Handler) (n : Nat) (x0 : IV) (x1 : IV) (x2 : IV) (x3 : IV) (h4 : Hp) : funS EE ih ft.get n 103 [x0, x1, x2, x3] h4 = S103 ih n x0 x1 x2 x3 h4 := by kernel_rfl
noncomputable def S104_24 (ih : Handler) (h6 : Hp) (x8 : IV) (x13 : IV) (x10 : IV) (q4 : List IV → Hp → Option (IV × Hp)) (x7 : IV) (x9 : IV) : Option (IV × Hp) :=
  dynS EE ih x8 [x13] h6 fun x15 h16 _ _ => condS x15 (outS1 [x10] h16) (addS EE 3 x10 (.fv (.int .i64 1)) fun x19 => q4 [x7, x8, x9, x19] h16)
noncomputable def S104_25 (x11 : IV) (x7 : IV) (x10 : IV) (h6 : Hp) (ih : Handler) (x8 : IV) (q4 : List IV → Hp → Option (IV × Hp)) (x9 : IV) : Option (IV × Hp) :=
  condS x11 (ixS 3 x7 x10 fun x12 => loadA 3 x12 h6 fun x13 _ => S104_24 ih h6 x8 x13 x10 q4 x7 x9) (outS1 [.fv (.int .i64 (-1))] h6)
noncomputable def S104_26 (l5 : List IV) (h6 : Hp) (ih : Handler) (q4 : List IV → Hp → Option (IV × Hp)) : Option (IV × Hp) :=
  uncS l5 fun x7 l20 => uncS l20 fun x8 l21 => uncS l21 fun x9 l22 => uncS l22 fun x10 _ => ltS EE 3 x10 x9 fun x11 => S104_25 x11 x7 x10 h6 ih x8 q4 x9
noncomputable def S104 (ih : Handler) (n : Nat) (x0 : IV) (x1 : IV) (h2 : Hp) : Option (IV × Hp) :=
  lenS x0 fun x3 => loopS n (fun q4 l5 h6 => S104_26 l5 h6 ih q4) [x0, x1, x3, .fv (.int .i64 0)] h2
theorem S104_ok (ih : Handler) (n : Nat) (x0 : IV) (x1 : IV) (h2 : Hp) : funS EE ih ft.get n 104 [x0, x1] h2 = S104 ih n x0 x1 h2 := by kernel_rfl
noncomputable def S109_29 (x22 : IV) (h2 : Hp) : Option (IV × Hp) :=
  faddrS 2 x22 fun x23 => load1 x23 h2 fun x24 _ => ixS 1 x24 (.fv (.int .i64 0)) fun x26 => load1 x26 h2 fun x27 _ => outS1 [x27] h2
noncomputable def S109_30 (x15 : IV) (h2 : Hp) : Option (IV × Hp) :=
  faddrS 2 x15 fun x16 => load1 x16 h2 fun x17 _ => ixS 1 x17 (.fv (.int .i64 0)) fun x19 => load1 x19 h2 fun x20 _ => nilS x20 fun x22 => S109_29 x22 h2
noncomputable def S109_31 (x10 : IV) (h2 : Hp) (x1 : IV) (x0 : IV) : Option (IV × Hp) :=
  faddrS 0 x10 fun x11 => load1 x11 h2 fun x12 _ => neS EE 3 x12 x1 fun x14 => condS x14 (outS1 [.fv .nilp] h2) (nilS x0 fun x15 => S109_30 x15 h2)
noncomputable def S109 (ih : Handler) (n : Nat) (x0 : IV) (x1 : IV) (h2 : Hp) : Option (IV × Hp) :=
  nilS x0 fun x3 => faddrS 2 x3 fun x4 => load1 x4 h2 fun x5 _ => ixS 1 x5 (.fv (.int .i64 0)) fun x7 => load1 x7 h2 fun x8 _ => nilS x8 fun x10 => S109_31 x10 h2 x1 x0
theorem S109_ok (ih : Handler) (n : Nat) (x0 : IV) (x1 : IV) (h2 : Hp) : funS EE ih ft.get n 109 [x0, x1] h2 = S109 ih n x0 x1 h2 := by kernel_rfl
noncomputable def S110_18 (x1 : IV) (h7 : Hp) (j0_3 : Hp → Option (IV × Hp)) : Option (IV × Hp) :=
  eqS EE 3 x1 (.fv (.int .i64 0)) fun x10 => condS x10 (outS1 [.fv (.int .i64 1)] h7) (eqS EE 3 x1 (.fv (.int .i64 2)) fun x11 => condS x11 (outS1 [.fv (.int .i64 2)] h7) (j0_3 h7))
noncomputable def S110_19 (x6 : IV) (x1 : IV) (h7 : Hp) (j0_3 : Hp → Option (IV × Hp)) (x0 : IV) : Option (IV × Hp) :=
  condS x6 (eqS EE 3 x1 (.fv (.int .i64 1)) fun x8 => condS x8 (outS1 [.fv (.int .i64 1)] h7) (j0_3 h7)) (eqS EE 3 x0 (.fv (.int .i64 13)) fun x9 => condS x9 (S110_18 x1 h7 j0_3) (j0_3 h7))
noncomputable def S110_20 (x0 : IV) (j1_5 : IV → Hp → Option (IV × Hp)) (h2 : Hp) : Option (IV × Hp) :=
  eqS EE 3 x0 (.fv (.int .i64 29)) fun x17 => j1_5 x17 h2
noncomputable def S110_21 (x0 : IV) (j1_5 : IV → Hp → Option (IV × Hp)) (h2 : Hp) : Option (IV × Hp) :=
  eqS EE 3 x0 (.fv (.int .i64 20)) fun x15 => condS x15 (j1_5 x15 h2) (eqS EE 3 x0 (.fv (.int .i64 28)) fun x16 => condS x16 (j1_5 x16 h2) (S110_20 x0 j1_5 h2))
noncomputable def S110_22 (x13 : IV) (j1_5 : IV → Hp → Option (IV × Hp)) (h2 : Hp) (x0 : IV) : Option (IV × Hp) :=
  condS x13 (j1_5 x13 h2) (eqS EE 3 x0 (.fv (.int .i64 6)) fun x14 => condS x14 (j1_5 x14 h2) (S110_21 x0 j1_5 h2))
noncomputable def S110 (ih : Handler) (n : Nat) (x0 : IV) (x1 : IV) (h2 : Hp) : Option (IV × Hp) :=
  (fun (j0_3 : Hp → Option (IV × Hp)) => (fun (j1_5 : IV → Hp → Option (IV × Hp)) => eqS EE 3 x0 (.fv (.int .i64 3)) fun x12 => condS x12 (j1_5 x12 h2) (eqS EE 3 x0 (.fv (.int .i64 4)) fun x13 => S110_22 x13 j1_5 h2 x0)) fun x6 h7 => S110_19 x6 x1 h7 j0_3 x0) fun h4 => outS1 [.fv (.int .i64 0)] h4
theorem S110_ok (ih : Handler) (n : Nat) (x0 : IV) (x1 : IV) (h2 : Hp) : funS EE ih ft.get n 110 [x0, x1] h2 = S110 ih n x0 x1 h2 := by kernel_rfl
noncomputable def S111_27 (x13 : IV) (x7 : IV) (h6 : Hp) (x10 : IV) (h2 : Hp) (x8 : IV) (x9 : IV) (q4 : List IV → Hp → Option (IV × Hp)) : Option (IV × Hp) :=
  bldS [.fv (.nilp), .fv (.nilp)] [(0, 1, x13), (1, 1, x7)] fun x15 => fzS (pcBox true 116396035 x15) 116396035 x15 h6 fun x16 h17 _ _ => addS EE 3 x10 (.fv (.int .i64 1)) fun x20 => dropS (h2.own.map (·.1)) [116396035] [x16, x8, x9, x20] h17 fun h21 => q4 [x16, x8, x9, x20] h21
noncomputable def S111_28 (x11 : IV) (x8 : IV) (x10 : IV) (h6 : Hp) (x7 : IV) (h2 : Hp) (x9 : IV) (q4 : List IV → Hp → Option (IV × Hp)) : Option (IV × Hp) :=
  condS x11 (ixS 1 x8 x10 fun x12 => load1 x12 h6 fun x13 _ => S111_27 x13 x7 h6 x10 h2 x8 x9 q4) (outS1 [x7] h6)
noncomputable def S111_29 (l5 : List IV) (h6 : Hp) (h2 : Hp) (q4 : List IV → Hp → Option (IV × Hp)) : Option (IV × Hp) :=
  uncS l5 fun x7 l22 => uncS l22 fun x8 l23 => uncS l23 fun x9 l24 => uncS l24 fun x10 _ => ltS EE 3 x10 x9 fun x11 => S111_28 x11 x8 x10 h6 x7 h2 x9 q4
noncomputable def S111 (ih : Handler) (n : Nat) (x0 : IV) (x1 : IV) (h2 : Hp) : Option (IV × Hp) :=
  lenS x1 fun x3 => dropS (h2.own.map (·.1)) [116396035] [x0, x1, x3, .fv (.int .i64 0)] h2 fun h26 => loopS n (fun q4 l5 h6 => S111_29 l5 h6 h2 q4) [x0, x1, x3, .fv (.int .i64 0)] h26
theorem S111_ok (ih : Handler) (n : Nat) (x0 : IV) (x1 : IV) (h2 : Hp) : funS EE ih ft.get n 111 [x0, x1] h2 = S111 ih n x0 x1 h2 := by kernel_rfl
end Idl
end Go.Proofs.Ytkfecngimlcfoaa
namespace Go.Proofs.Ytkfecngimlcfoaa
namespace Idl
noncomputable def dt : DT :=
 .node 70 (.node 29 (.node 19 (.node 16 (.node 11 (.leaf 6 (fun ih n => ar2 (S6 ih n)))
 (.node 12 (.leaf 11 (fun ih n => ar0 (S11 ih n)))
 (.leaf 12 (fun ih n => ar1 (S12 ih n)))))
 (.node 17 (.leaf 16 (fun ih n => ar1 (S16 ih n)))
 (.node 18 (.leaf 17 (fun ih n => ar2 (S17 ih n)))
 (.leaf 18 (fun ih n => ar1 (S18 ih n))))))
 (.node 25 (.node 23 (.leaf 19 (fun ih n => ar2 (S19 ih n)))
 (.node 24 (.leaf 23 (fun ih n => ar2 (S23 ih n)))
 (.leaf 24 (fun ih n => ar2 (S24 ih n)))))
 (.node 27 (.node 26 (.leaf 25 (fun ih n => ar1 (S25 ih n)))
 (.leaf 26 (fun ih n => ar1 (S26 ih n))))
 (.node 28 (.leaf 27 (fun ih n => ar1 (S27 ih n)))
 (.leaf 28 (fun ih n => ar2 (S28 ih n)))))))
 (.node 43 (.node 40 (.node 35 (.leaf 29 (fun ih n => ar1 (S29 ih n)))
 (.node 36 (.leaf 35 (fun ih n => ar1 (S35 ih n)))
 (.leaf 36 (fun ih n => ar2 (S36 ih n)))))
 (.node 41 (.leaf 40 (fun ih n => ar1 (S40 ih n)))
 (.node 42 (.leaf 41 (fun ih n => ar1 (S41 ih n)))
 (.leaf 42 (fun ih n => ar2 (S42 ih n))))))
 (.node 56 (.node 52 (.leaf 43 (fun ih n => ar2 (S43 ih n)))
 (.node 55 (.leaf 52 (fun ih n => ar1 (S52 ih n)))
 (.leaf 55 (fun ih n => ar2 (S55 ih n)))))
 (.node 68 (.node 63 (.leaf 56 (fun ih n => ar2 (S56 ih n)))
 (.leaf 63 (fun ih n => ar3 (S63 ih n))))
 (.node 69 (.leaf 68 (fun ih n => ar3 (S68 ih n)))
 (.leaf 69 (fun ih n => ar1 (S69 ih n))))))))
 (.node 95 (.node 76 (.node 73 (.node 71 (.leaf 70 (fun ih n => ar0 (S70 ih n)))
 (.node 72 (.leaf 71 (fun ih n => ar3 (S71 ih n)))
 (.leaf 72 (fun ih n => ar4 (S72 ih n)))))
 (.node 74 (.leaf 73 (fun ih n => ar2 (S73 ih n)))
 (.node 75 (.leaf 74 (fun ih n => ar2 (S74 ih n)))
 (.leaf 75 (fun ih n => ar3 (S75 ih n))))))
 (.node 91 (.node 77 (.leaf 76 (fun ih n => ar2 (S76 ih n)))
 (.node 89 (.leaf 77 (fun ih n => ar2 (S77 ih n)))
 (.leaf 89 (fun ih n => ar2 (S89 ih n)))))
 (.node 93 (.node 92 (.leaf 91 (fun ih n => ar1 (S91 ih n)))
 (.leaf 92 (fun ih n => ar2 (S92 ih n))))
 (.node 94 (.leaf 93 (fun ih n => ar1 (S93 ih n)))
 (.leaf 94 (fun ih n => ar2 (S94 ih n)))))))
 (.node 101 (.node 98 (.node 96 (.leaf 95 (fun ih n => ar2 (S95 ih n)))
 (.node 97 (.leaf 96 (fun ih n => ar2 (S96 ih n)))
 (.leaf 97 (fun ih n => ar2 (S97 ih n)))))
 (.node 99 (.leaf 98 (fun ih n => ar2 (S98 ih n)))
 (.node 100 (.leaf 99 (fun ih n => ar1 (S99 ih n)))
 (.leaf 100 (fun ih n => ar2 (S100 ih n))))))
 (.node 104 (.node 102 (.leaf 101 (fun ih n => ar2 (S101 ih n)))
 (.node 103 (.leaf 102 (fun ih n => ar2 (S102 ih n)))
 (.leaf 103 (fun ih n => ar4 (S103 ih n)))))
 (.node 110 (.node 109 (.leaf 104 (fun ih n => ar2 (S104 ih n)))
 (.leaf 109 (fun ih n => ar2 (S109 ih n))))
 (.node 111 (.leaf 110 (fun ih n => ar2 (S110 ih n)))
 (.leaf 111 (fun ih n => ar2 (S111 ih n))))))))
theorem dt_ok : dt.Ok EE ft.get :=
 ⟨⟨⟨⟨⟨(fun ih n _ _ _ e => ar2_ok (F := funS EE ih ft.get n 6) (S6_ok ih n) e),
 ⟨(fun ih n _ _ _ e => ar0_ok (F := funS EE ih ft.get n 11) (S11_ok ih n) e),
 (fun ih n _ _ _ e => ar1_ok (F := funS EE ih ft.get n 12) (S12_ok ih n) e)⟩⟩,
 ⟨(fun ih n _ _ _ e => ar1_ok (F := funS EE ih ft.get n 16) (S16_ok ih n) e),
 ⟨(fun ih n _ _ _ e => ar2_ok (F := funS EE ih ft.get n 17) (S17_ok ih n) e),
 (fun ih n _ _ _ e => ar1_ok (F := funS EE ih ft.get n 18) (S18_ok ih n) e)⟩⟩⟩,
 ⟨⟨(fun ih n _ _ _ e => ar2_ok (F := funS EE ih ft.get n 19) (S19_ok ih n) e),
 ⟨(fun ih n _ _ _ e => ar2_ok (F := funS EE ih ft.get n 23) (S23_ok ih n) e),
 (fun ih n _ _ _ e => ar2_ok (F := funS EE ih ft.get n 24) (S24_ok ih n) e)⟩⟩,
 ⟨⟨(fun ih n _ _ _ e => ar1_ok (F := funS EE ih ft.get n 25) (S25_ok ih n) e),
 (fun ih n _ _ _ e => ar1_ok (F := funS EE ih ft.get n 26) (S26_ok ih n) e)⟩,
 ⟨(fun ih n _ _ _ e => ar1_ok (F := funS EE ih ft.get n 27) (S27_ok ih n) e),
 (fun ih n _ _ _ e => ar2_ok (F := funS EE ih ft.get n 28) (S28_ok ih n) e)⟩⟩⟩⟩,
 ⟨⟨⟨(fun ih n _ _ _ e => ar1_ok (F := funS EE ih ft.get n 29) (S29_ok ih n) e),
 ⟨(fun ih n _ _ _ e => ar1_ok (F := funS EE ih ft.get n 35) (S35_ok ih n) e),
 (fun ih n _ _ _ e => ar2_ok (F := funS EE ih ft.get n 36) (S36_ok ih n) e)⟩⟩,
 ⟨(fun ih n _ _ _ e => ar1_ok (F := funS EE ih ft.get n 40) (S40_ok ih n) e),
 ⟨(fun ih n _ _ _ e => ar1_ok (F := funS EE ih ft.get n 41) (S41_ok ih n) e),
 (fun ih n _ _ _ e => ar2_ok (F := funS EE ih ft.get n 42) (S42_ok ih n) e)⟩⟩⟩,
 ⟨⟨(fun ih n _ _ _ e => ar2_ok (F := funS EE ih ft.get n 43) (S43_ok ih n) e),
 ⟨(fun ih n _ _ _ e => ar1_ok (F := funS EE ih ft.get n 52) (S52_ok ih n) e),
 (fun ih n _ _ _ e => ar2_ok (F := funS EE ih ft.get n 55) (S55_ok ih n) e)⟩⟩,
 ⟨⟨(fun ih n _ _ _ e => ar2_ok (F := funS EE ih ft.get n 56) (S56_ok ih n) e),
 (fun ih n _ _ _ e => ar3_ok (F := funS EE ih ft.get n 63) (S63_ok ih n) e)⟩,
 ⟨(fun ih n _ _ _ e => ar3_ok (F := funS EE ih ft.get n 68) (S68_ok ih n) e),
 (fun ih n _ _ _ e => ar1_ok (F := funS EE ih ft.get n 69) (S69_ok ih n) e)⟩⟩⟩⟩⟩,
 ⟨⟨⟨⟨(fun ih n _ _ _ e => ar0_ok (F := funS EE ih ft.get n 70) (S70_ok ih n) e),
 ⟨(fun ih n _ _ _ e => ar3_ok (F := funS EE ih ft.get n 71) (S71_ok ih n) e),
 (fun ih n _ _ _ e => ar4_ok (F := funS EE ih ft.get n 72) (S72_ok ih n) e)⟩⟩,
 ⟨(fun ih n _ _ _ e => ar2_ok (F := funS EE ih ft.get n 73) (S73_ok ih n) e),
 ⟨(fun ih n _ _ _ e => ar2_ok (F := funS EE ih ft.get n 74) (S74_ok ih n) e),
 (fun ih n _ _ _ e => ar3_ok (F := funS EE ih ft.get n 75) (S75_ok ih n) e)⟩⟩⟩,
 ⟨⟨(fun ih n _ _ _ e => ar2_ok (F := funS EE ih ft.get n 76) (S76_ok ih n) e),
 ⟨(fun ih n _ _ _ e => ar2_ok (F := funS EE ih ft.get n 77) (S77_ok ih n) e),
 (fun ih n _ _ _ e => ar2_ok (F := funS EE ih ft.get n 89) (S89_ok ih n) e)⟩⟩,
 ⟨⟨(fun ih n _ _ _ e => ar1_ok (F := funS EE ih ft.get n 91) (S91_ok ih n) e),
 (fun ih n _ _ _ e => ar2_ok (F := funS EE ih ft.get n 92) (S92_ok ih n) e)⟩,
 ⟨(fun ih n _ _ _ e => ar1_ok (F := funS EE ih ft.get n 93) (S93_ok ih n) e),
 (fun ih n _ _ _ e => ar2_ok (F := funS EE ih ft.get n 94) (S94_ok ih n) e)⟩⟩⟩⟩,
 ⟨⟨⟨(fun ih n _ _ _ e => ar2_ok (F := funS EE ih ft.get n 95) (S95_ok ih n) e),
 ⟨(fun ih n _ _ _ e => ar2_ok (F := funS EE ih ft.get n 96) (S96_ok ih n) e),
 (fun ih n _ _ _ e => ar2_ok (F := funS EE ih ft.get n 97) (S97_ok ih n) e)⟩⟩,
 ⟨(fun ih n _ _ _ e => ar2_ok (F := funS EE ih ft.get n 98) (S98_ok ih n) e),
 ⟨(fun ih n _ _ _ e => ar1_ok (F := funS EE ih ft.get n 99) (S99_ok ih n) e),
 (fun ih n _ _ _ e => ar2_ok (F := funS EE ih ft.get n 100) (S100_ok ih n) e)⟩⟩⟩,
 ⟨⟨(fun ih n _ _ _ e => ar2_ok (F := funS EE ih ft.get n 101) (S101_ok ih n) e),
 ⟨(fun ih n _ _ _ e => ar2_ok (F := funS EE ih ft.get n 102) (S102_ok ih n) e),
 (fun ih n _ _ _ e => ar4_ok (F := funS EE ih ft.get n 103) (S103_ok ih n) e)⟩⟩,
 ⟨⟨(fun ih n _ _ _ e => ar2_ok (F := funS EE ih ft.get n 104) (S104_ok ih n) e),
 (fun ih n _ _ _ e => ar2_ok (F := funS EE ih ft.get n 109) (S109_ok ih n) e)⟩,
 ⟨(fun ih n _ _ _ e => ar2_ok (F := funS EE ih ft.get n 110) (S110_ok ih n) e),
 (fun ih n _ _ _ e => ar2_ok (F := funS EE ih ft.get n 111) (S111_ok ih n) e)⟩⟩⟩⟩⟩⟩
theorem sh_run : ∀ n f args h x, SS dt n f args h = some x → run EE n f args h = some x := SS_ok ft_ok dt_ok
end Idl
end Go.Proofs.Ytkfecngimlcfoaa

/-
  THE SHALLOW FORM OF THE SEAT'S FUNCTIONS, a part; each is what its code's shallow run is. Printed by a program of mine (gen-sh). No statement is proved here.
-/
import Derived.Test.YtkfecngimlcfoaaTab
import Derived.Test.YtkfecngimlcfoaaIdl31
set_option maxRecDepth 100000
set_option linter.unusedVariables false
namespace Go.Proofs.Ytkfecngimlcfoaa
namespace Idl
/-! thyrsus/thyrsuslaw10.StageTwice -/
noncomputable def S8_209 (h195 : Hp) (x190 : IV) (x1 : IV) (ih : Handler) (x194 : IV) : Option (IV × Hp) :=
  guardS x190 true h195 (fun k198 => k198 x1 h195 [] []) fun x199 h200 _ _ => guardS x190 true h200 (fun k203 => isoS [] false false ih 32 [x194, x199] h200 k203) fun x204 h205 _ _ => pickS x190 x204 (.fv (.bool false)) fun x208 => outS1 [x208] h205
noncomputable def S8_210 (h169 : Hp) (x142 : IV) (x168 : IV) (x151 : IV) (x135 : IV) (x1 : IV) (ih : Handler) : Option (IV × Hp) :=
  guardS x142 true h169 (fun k172 => binS EE 3 .shl (.fv (.int .i64 1)) x168 fun x173 => k172 x173 h169 [] []) fun x174 h175 _ _ => guardS x142 true h175 (fun k178 => subS EE 3 x174 (.fv (.int .i64 1)) fun x179 => k178 x179 h175 [] []) fun x180 h181 _ _ => guardS x142 true h181 (fun k184 => eqS EE 3 x151 x180 fun x185 => k184 x185 h181 [] []) fun x186 h187 _ _ => pickS x142 x186 (.fv (.bool false)) fun x190 => guardS x190 true h187 (fun k191 => loadA 3 x135 h187 fun x192 r193 => k191 x192 h187 r193 []) fun x194 h195 _ _ => S8_209 h195 x190 x1 ih x194
noncomputable def S8_211 (h139 : Hp) (x142 : IV) (x135 : IV) (ih : Handler) (x8 : IV) (x1 : IV) : Option (IV × Hp) :=
  guardS x142 true h139 (fun k143 => loadA 3 x135 h139 fun x144 r145 => k143 x144 h139 r145 []) fun x146 h147 _ _ => guardS x142 true h147 (fun k150 => isoS [] false false ih 31 [x146] h147 k150) fun x151 h152 _ _ => guardS x142 true h152 (fun k155 => k155 x8 h152 [] []) fun x156 h157 _ _ => guardS x142 true h157 (fun k160 => addS EE 3 x156 (.fv (.int .i64 1)) fun x161 => k160 x161 h157 [] []) fun x162 h163 _ _ => guardS x142 true h163 (fun k166 => optS (convR EE 3 55 x162) fun x167 => k166 x167 h163 [] []) fun x168 h169 _ _ => S8_210 h169 x142 x168 x151 x135 x1 ih
noncomputable def S8_212 (x129 : IV) (h130 : Hp) (ih : Handler) (x8 : IV) (x1 : IV) : Option (IV × Hp) :=
  extS 0 x129 fun x133 => extS 1 x129 fun x134 => newS 8396805 (.row [.fv (.int .i64 0), .fv (.int .i64 0), .nils] false) (.ptr (.own 8396805) 0) h130 fun x135 h136 _ _ => storeA 3 x135 x133 h136 fun h139 _ _ => eqS EE 36 x134 (.fv (.int .i64 0)) fun x142 => S8_211 h139 x142 x135 ih x8 x1
noncomputable def S8_213 (r122 : List Ref) (w123 : List Ref) (r118 : List Ref) (w119 : List Ref) (r114 : List Ref) (w115 : List Ref) (r110 : List Ref) (w111 : List Ref) (r106 : List Ref) (w107 : List Ref) (r102 : List Ref) (w103 : List Ref) (r99 : List Ref) (r96 : List Ref) (w97 : List Ref) (r92 : List Ref) (w93 : List Ref) (r88 : List Ref) (w89 : List Ref) (r85 : List Ref) (h121 : Hp) (x120 : IV) (x116 : IV) (ih : Handler) (x8 : IV) (x1 : IV) : Option (IV × Hp) :=
  chkS [(r118, w119), (r114, w115), (r110, w111), (r106, w107), (r102, w103), (r99, []), (r96, w97), (r92, w93), (r88, w89), (r85, [])] r122 w123 (storeA 3 x120 x116 h121 fun h124 r125 w126 => chkS [] r125 w126 (loadA 3 x120 h124 fun x127 _ => isoS [] false false ih 16 [x127] h124 fun x129 h130 _ _ => S8_212 x129 h130 ih x8 x1))
noncomputable def S8_214 (h109 : Hp) (x108 : IV) (ih : Handler) (r110 : List Ref) (w111 : List Ref) (r106 : List Ref) (w107 : List Ref) (r102 : List Ref) (w103 : List Ref) (r99 : List Ref) (r96 : List Ref) (w97 : List Ref) (r92 : List Ref) (w93 : List Ref) (r88 : List Ref) (w89 : List Ref) (r85 : List Ref) (x8 : IV) (x1 : IV) : Option (IV × Hp) :=
  genS (pcBuildSlice EE 28 1 [(0, x108)]) 8395786 h109 fun x112 h113 r114 w115 => chkS [] r114 w115 (isoS [] false false ih 24 [.fv (.int .i64 30), x112] h113 fun x116 h117 r118 w119 => chkS [] r118 w119 (newS 8395788 (.row [.fv (.int .i64 0), .fv (.int .i64 0), .nils] false) (.ptr (.own 8395788) 0) h117 fun x120 h121 r122 w123 => S8_213 r122 w123 r118 w119 r114 w115 r110 w111 r106 w107 r102 w103 r99 r96 w97 r92 w93 r88 w89 r85 h121 x120 x116 ih x8 x1))
noncomputable def S8_215 (r102 : List Ref) (w103 : List Ref) (r99 : List Ref) (r85 : List Ref) (h101 : Hp) (x84 : IV) (x94 : IV) (x98 : IV) (x100 : IV) (ih : Handler) (r96 : List Ref) (w97 : List Ref) (r92 : List Ref) (w93 : List Ref) (r88 : List Ref) (w89 : List Ref) (x8 : IV) (x1 : IV) : Option (IV × Hp) :=
  chkS [(r99, []), (r85, [])] r102 w103 (genS (pcBuildSlice EE 28 4 [(0, x84), (1, x94), (2, x98), (3, x100)]) 8395784 h101 fun x104 h105 r106 w107 => chkS [] r106 w107 (isoS [] false false ih 24 [.fv (.int .i64 13), x104] h105 fun x108 h109 r110 w111 => chkS [] r110 w111 (S8_214 h109 x108 ih r110 w111 r106 w107 r102 w103 r99 r96 w97 r92 w93 r88 w89 r85 x8 x1)))
noncomputable def S8_216 (ih : Handler) (h91 : Hp) (x90 : IV) (r85 : List Ref) (x77 : IV) (r92 : List Ref) (w93 : List Ref) (r88 : List Ref) (w89 : List Ref) (x8 : IV) (x84 : IV) (x1 : IV) : Option (IV × Hp) :=
  isoS [] false false ih 24 [.fv (.int .i64 19), x90] h91 fun x94 h95 r96 w97 => chkS [(r85, [])] r96 w97 (loadA 3 x77 h95 fun x98 r99 => chkS [(r96, w97), (r92, w93), (r88, w89), (r85, [])] r99 [] (isoS [] false false ih 27 [x8] h95 fun x100 h101 r102 w103 => S8_215 r102 w103 r99 r85 h101 x84 x94 x98 x100 ih r96 w97 r92 w93 r88 w89 x8 x1))
noncomputable def S8_217 (r85 : List Ref) (ih : Handler) (h81 : Hp) (x1 : IV) (x77 : IV) (x8 : IV) (x84 : IV) : Option (IV × Hp) :=
  chkS [] r85 [] (isoS [] false false ih 26 [x1] h81 fun x86 h87 r88 w89 => chkS [(r85, [])] r88 w89 (genS (pcBuildSlice EE 28 1 [(0, x86)]) 8395779 h87 fun x90 h91 r92 w93 => chkS [(r85, [])] r92 w93 (S8_216 ih h91 x90 r85 x77 r92 w93 r88 w89 x8 x84 x1)))
noncomputable def S8_218 (h65 : Hp) (x68 : IV) (ih : Handler) (x33 : IV) (x1 : IV) (x8 : IV) : Option (IV × Hp) :=
  genS (pcBuildSlice EE 28 1 [(0, x68)]) 8394760 h65 fun x69 h70 _ _ => isoS [] false false ih 24 [.fv (.int .i64 19), x69] h70 fun x73 h74 _ _ => newS 8394762 (.row [.fv (.int .i64 0), .fv (.int .i64 0), .nils] false) (.ptr (.own 8394762) 0) h74 fun x77 h78 _ _ => storeA 3 x77 x73 h78 fun h81 _ _ => loadA 3 x33 h81 fun x84 r85 => S8_217 r85 ih h81 x1 x77 x8 x84
noncomputable def S8_219 (ih : Handler) (h49 : Hp) (x48 : IV) (x33 : IV) (x1 : IV) (x8 : IV) : Option (IV × Hp) :=
  isoS [] false false ih 25 [.fv (.int .i64 0)] h49 fun x52 h53 _ _ => genS (pcBuildSlice EE 28 1 [(0, x52)]) 8394756 h53 fun x56 h57 _ _ => isoS [] false false ih 24 [.fv (.int .i64 30), x56] h57 fun x60 h61 _ _ => genS (pcBuildSlice EE 28 2 [(0, x48), (1, x60)]) 8394758 h61 fun x64 h65 _ _ => bldS [.fv (.int .i64 0), .fv (.int .i64 0), .nils] [(0, 1, .fv (.int .i64 26)), (2, 1, x64)] fun x68 => S8_218 h65 x68 ih x33 x1 x8
noncomputable def S8_220 (h30 : Hp) (x29 : IV) (ih : Handler) (x1 : IV) (x8 : IV) : Option (IV × Hp) :=
  newS 8393731 (.row [.fv (.int .i64 0), .fv (.int .i64 0), .nils] false) (.ptr (.own 8393731) 0) h30 fun x33 h34 _ _ => storeA 3 x33 x29 h34 fun h37 _ _ => isoS [] false false ih 25 [.fv (.int .i64 0)] h37 fun x40 h41 _ _ => genS (pcBuildSlice EE 28 1 [(0, x40)]) 8394753 h41 fun x44 h45 _ _ => isoS [] false false ih 24 [.fv (.int .i64 30), x44] h45 fun x48 h49 _ _ => S8_219 ih h49 x48 x33 x1 x8
noncomputable def S8_221 (h13 : Hp) (x12 : IV) (ih : Handler) (x1 : IV) (x8 : IV) : Option (IV × Hp) :=
  newS 8392705 (.row [.fv (.int .i64 0), .fv (.int .i64 0), .nils] false) (.ptr (.own 8392705) 0) h13 fun x16 h17 _ _ => storeA 3 x16 x12 h17 fun h20 _ _ => loadA 3 x16 h20 fun x23 _ => genS (pcBuildSlice EE 28 1 [(0, x23)]) 8393729 h20 fun x25 h26 _ _ => isoS [] false false ih 24 [.fv (.int .i64 18), x25] h26 fun x29 h30 _ _ => S8_220 h30 x29 ih x1 x8
noncomputable def S8 (ih : Handler) (n : Nat) (x0 : IV) (x1 : IV) (h2 : Hp) : Option (IV × Hp) :=
  isoS [] false false ih 11 [] h2 fun x3 h4 _ _ => optS (unR .not x3) fun x7 => condS x7 (outS1 [.fv (.bool false)] h4) (isoS [] false false ih 23 [x0, .fv (.int .i64 9)] h4 fun x8 h9 _ _ => isoS [] false false ih 24 [.fv (.int .i64 15), .nils] h9 fun x12 h13 _ _ => S8_221 h13 x12 ih x1 x8)
theorem S8_ok (ih : Handler) (n : Nat) (x0 : IV) (x1 : IV) (h2 : Hp) : funS EE ih ft.get n 8 [x0, x1] h2 = S8 ih n x0 x1 h2 := by kernel_rfl
/-! thyrsus/thyrsuslaw10.StageWrap -/
noncomputable def S9_225 (x109 : IV) (q101 : List IV → Hp → Option (IV × Hp)) (h129 : Hp) (x104 : IV) (x105 : IV) (x106 : IV) (x107 : IV) (x108 : IV) : Option (IV × Hp) :=
  addS EE 3 x109 (.fv (.int .i64 1)) fun x132 => q101 [x104, x105, x106, x107, x108, x132] h129
noncomputable def S9_226 (h103 : Hp) (x111 : IV) (ih : Handler) (x108 : IV) (x109 : IV) (q101 : List IV → Hp → Option (IV × Hp)) (x104 : IV) (x105 : IV) (x106 : IV) (x107 : IV) : Option (IV × Hp) :=
  genS (pcBuildSlice EE 28 1 [(0, x111)]) 9450497 h103 fun x113 h114 _ _ => isoS [] false false ih 24 [.fv (.int .i64 19), x113] h114 fun x117 h118 _ _ => genS (pcBuildSlice EE 28 1 [(0, x117)]) 9450499 h118 fun x121 h122 _ _ => isoS [] false false ih 24 [.fv (.int .i64 30), x121] h122 fun x125 h126 _ _ => storeA 3 x108 x125 h126 fun h129 _ _ => S9_225 x109 q101 h129 x104 x105 x106 x107 x108
noncomputable def S9_227 (h195 : Hp) (x198 : IV) (x191 : IV) (x106 : IV) (ih : Handler) : Option (IV × Hp) :=
  guardS x198 true h195 (fun k199 => loadA 3 x191 h195 fun x200 r201 => k199 x200 h195 r201 []) fun x202 h203 _ _ => guardS x198 true h203 (fun k206 => loadA 3 x106 h203 fun x207 r208 => k206 x207 h203 r208 []) fun x209 h210 _ _ => guardS x198 true h210 (fun k213 => isoS [] false false ih 17 [x202, x209] h210 k213) fun x214 h215 _ _ => pickS x198 x214 (.fv (.bool false)) fun x218 => outS1 [x218] h215
noncomputable def S9_228 (x185 : IV) (h186 : Hp) (x106 : IV) (ih : Handler) : Option (IV × Hp) :=
  extS 0 x185 fun x189 => extS 1 x185 fun x190 => newS 9456645 (.row [.fv (.int .i64 0), .fv (.int .i64 0), .nils] false) (.ptr (.own 9456645) 0) h186 fun x191 h192 _ _ => storeA 3 x191 x189 h192 fun h195 _ _ => eqS EE 36 x190 (.fv (.int .i64 0)) fun x198 => S9_227 h195 x198 x191 x106 ih
noncomputable def S9_229 (ih : Handler) (h176 : Hp) (x171 : IV) (x108 : IV) (x106 : IV) : Option (IV × Hp) :=
  isoS [] false false ih 15 [x171] h176 fun x179 h180 _ _ => condS x179 (outS1 [.fv (.bool true)] h180) (loadA 3 x108 h180 fun x183 _ => isoS [] false false ih 16 [x183] h180 fun x185 h186 _ _ => S9_228 x185 h186 x106 ih)
noncomputable def S9_230 (ih : Handler) (h160 : Hp) (x164 : IV) (x108 : IV) (x106 : IV) : Option (IV × Hp) :=
  isoS [] false false ih 34 [x164] h160 fun x166 h167 _ _ => extS 0 x166 fun x170 => extS 1 x166 fun x171 => newS 9453573 (.row [.fv (.int .i64 0), .fv (.int .i64 0), .nils] false) (.ptr (.own 9453573) 0) h167 fun x172 h173 _ _ => storeA 3 x172 x170 h173 fun h176 _ _ => S9_229 ih h176 x171 x108 x106
noncomputable def S9_231 (h154 : Hp) (x144 : IV) (x153 : IV) (x108 : IV) (ih : Handler) (x106 : IV) : Option (IV × Hp) :=
  guardS x144 false h154 (fun k157 => neS EE 3 x153 (.fv (.int .i64 0)) fun x158 => k157 x158 h154 [] []) fun x159 h160 _ _ => pickS x144 (.fv (.bool true)) x159 fun x163 => condS x163 (outS1 [.fv (.bool true)] h160) (loadA 3 x108 h160 fun x164 _ => S9_230 ih h160 x164 x108 x106)
noncomputable def S9_232 (h103 : Hp) (x133 : IV) (x107 : IV) (ih : Handler) (x108 : IV) (x106 : IV) : Option (IV × Hp) :=
  guardS x133 false h103 (fun k134 => k134 x107 h103 [] []) fun x135 h136 _ _ => guardS x133 false h136 (fun k139 => isoS [] false false ih 15 [x135] h136 k139) fun x140 h141 _ _ => pickS x133 (.fv (.bool true)) x140 fun x144 => guardS x144 false h141 (fun k145 => loadA 3 x108 h141 fun x146 r147 => k145 x146 h141 r147 []) fun x148 h149 _ _ => guardS x144 false h149 (fun k152 => isoS [] false false ih 35 [x148] h149 k152) fun x153 h154 _ _ => S9_231 h154 x144 x153 x108 ih x106
noncomputable def S9_233 (l223 : List IV) (x104 : IV) (h103 : Hp) (x108 : IV) (ih : Handler) (q101 : List IV → Hp → Option (IV × Hp)) (x105 : IV) (x106 : IV) (x107 : IV) : Option (IV × Hp) :=
  uncS l223 fun x109 _ => ltS EE 3 x109 x104 fun x110 => condS x110 (loadA 3 x108 h103 fun x111 _ => S9_226 h103 x111 ih x108 x109 q101 x104 x105 x106 x107) (optS (unR .not x105) fun x133 => S9_232 h103 x133 x107 ih x108 x106)
noncomputable def S9_234 (l102 : List IV) (h103 : Hp) (ih : Handler) (q101 : List IV → Hp → Option (IV × Hp)) : Option (IV × Hp) :=
  uncS l102 fun x104 l219 => uncS l219 fun x105 l220 => uncS l220 fun x106 l221 => uncS l221 fun x107 l222 => uncS l222 fun x108 l223 => S9_233 l223 x104 h103 x108 ih q101 x105 x106 x107
noncomputable def S9_235 (ih : Handler) (h85 : Hp) (x2 : IV) (x66 : IV) (n : Nat) (x65 : IV) (x81 : IV) (x80 : IV) : Option (IV × Hp) :=
  isoS [] false false ih 23 [x2, .fv (.int .i64 8)] h85 fun x88 h89 _ _ => loadA 3 x66 h89 fun x92 _ => newS 9446401 (.row [.fv (.int .i64 0), .fv (.int .i64 0), .nils] false) (.ptr (.own 9446401) 0) h89 fun x94 h95 _ _ => storeA 3 x94 x92 h95 fun h98 _ _ => loopS n (fun q101 l102 h103 => S9_234 l102 h103 ih q101) [x88, x65, x81, x80, x94, .fv (.int .i64 0)] h98
noncomputable def S9_236 (ih : Handler) (h70 : Hp) (x73 : IV) (x2 : IV) (x66 : IV) (n : Nat) (x65 : IV) : Option (IV × Hp) :=
  isoS [] false false ih 34 [x73] h70 fun x75 h76 _ _ => extS 0 x75 fun x79 => extS 1 x75 fun x80 => newS 9444357 (.row [.fv (.int .i64 0), .fv (.int .i64 0), .nils] false) (.ptr (.own 9444357) 0) h76 fun x81 h82 _ _ => storeA 3 x81 x79 h82 fun h85 _ _ => S9_235 ih h85 x2 x66 n x65 x81 x80
noncomputable def S9_237 (x60 : IV) (h61 : Hp) (ih : Handler) (x2 : IV) (n : Nat) : Option (IV × Hp) :=
  extS 0 x60 fun x64 => extS 1 x60 fun x65 => newS 9443334 (.row [.fv (.int .i64 0), .fv (.int .i64 0), .nils] false) (.ptr (.own 9443334) 0) h61 fun x66 h67 _ _ => storeA 3 x66 x64 h67 fun h70 _ _ => loadA 3 x66 h70 fun x73 _ => S9_236 ih h70 x73 x2 x66 n x65
noncomputable def S9_238 (h46 : Hp) (x45 : IV) (x4 : IV) (ih : Handler) (x2 : IV) (n : Nat) : Option (IV × Hp) :=
  newS 9442306 (.row [.fv (.int .i64 0), .fv (.int .i64 0), .nils] false) (.ptr (.own 9442306) 0) h46 fun x49 h50 _ _ => storeA 3 x49 x45 h50 fun h53 _ _ => loadA 3 x49 h53 fun x56 _ => loadA 3 x4 h53 fun x58 _ => isoS [] false false ih 33 [.nils, x56, x58, .fv (.int .i64 4)] h53 fun x60 h61 _ _ => S9_237 x60 h61 ih x2 n
noncomputable def S9_239 (x23 : IV) (x38 : IV) (h39 : Hp) (x8 : IV) (ih : Handler) (x4 : IV) (x2 : IV) (n : Nat) : Option (IV × Hp) :=
  pickS x23 (.fv (.bool true)) x38 fun x42 => condS x42 (outS1 [.fv (.bool true)] h39) (loadA 3 x8 h39 fun x43 _ => isoS [] false false ih 28 [x43, .fv (.int .i64 2)] h39 fun x45 h46 _ _ => S9_238 h46 x45 x4 ih x2 n)
noncomputable def S9_240 (ih : Handler) (h13 : Hp) (x17 : IV) (x8 : IV) (x4 : IV) (x2 : IV) (n : Nat) : Option (IV × Hp) :=
  isoS [] false false ih 12 [x17] h13 fun x19 h20 _ _ => optS (unR .not x19) fun x23 => guardS x23 false h20 (fun k24 => loadA 3 x8 h20 fun x25 r26 => k24 x25 h20 r26 []) fun x27 h28 _ _ => guardS x23 false h28 (fun k31 => isoS [] false false ih 12 [x27] h28 k31) fun x32 h33 _ _ => guardS x23 false h33 (fun k36 => optS (unR .not x32) fun x37 => k36 x37 h33 [] []) fun x38 h39 _ _ => S9_239 x23 x38 h39 x8 ih x4 x2 n
noncomputable def S9 (ih : Handler) (n : Nat) (x0 : IV) (x1 : IV) (x2 : IV) (h3 : Hp) : Option (IV × Hp) :=
  boxS 9437184 x0 h3 fun x4 h5 _ _ => boxS 9437185 x1 h5 fun x8 h9 _ _ => isoS [] false false ih 11 [] h9 fun x12 h13 _ _ => optS (unR .not x12) fun x16 => condS x16 (outS1 [.fv (.bool false)] h13) (loadA 3 x4 h13 fun x17 _ => S9_240 ih h13 x17 x8 x4 x2 n)
theorem S9_ok (ih : Handler) (n : Nat) (x0 : IV) (x1 : IV) (x2 : IV) (h3 : Hp) : funS EE ih ft.get n 9 [x0, x1, x2] h3 = S9 ih n x0 x1 x2 h3 := by kernel_rfl
/-! thyrsus/thyrsuslaw10.StageLet -/
noncomputable def S10_408 (h112 : Hp) (x86 : IV) (x115 : IV) (x87 : IV) (q77 : List IV → Hp → Option (IV × Hp)) (x80 : IV) (x81 : IV) (x82 : IV) (x83 : IV) (x84 : IV) (x85 : IV) : Option (IV × Hp) :=
  storeA 3 x86 x115 h112 fun h116 r117 w118 => chkS [] r117 w118 (addS EE 3 x87 (.fv (.int .i64 1)) fun x119 => q77 [x80, x81, x82, x83, x84, x85, x86, x119] h116)
noncomputable def S10_409 (h106 : Hp) (x86 : IV) (r107 : List Ref) (w108 : List Ref) (r103 : List Ref) (w104 : List Ref) (r99 : List Ref) (w100 : List Ref) (r95 : List Ref) (w96 : List Ref) (r91 : List Ref) (w92 : List Ref) (x105 : IV) (x87 : IV) (q77 : List IV → Hp → Option (IV × Hp)) (x80 : IV) (x81 : IV) (x82 : IV) (x83 : IV) (x84 : IV) (x85 : IV) : Option (IV × Hp) :=
  loadA 3 x86 h106 fun x109 r110 => chkS [(r107, w108), (r103, w104), (r99, w100), (r95, w96), (r91, w92)] r110 [] (genS (pcBuildSlice EE 28 2 [(0, x105), (1, x109)]) 10499078 h106 fun x111 h112 r113 w114 => chkS [] r113 w114 (bldS [.fv (.int .i64 0), .fv (.int .i64 0), .nils] [(0, 1, .fv (.int .i64 26)), (2, 1, x111)] fun x115 => S10_408 h112 x86 x115 x87 q77 x80 x81 x82 x83 x84 x85))
noncomputable def S10_410 (r99 : List Ref) (w100 : List Ref) (h98 : Hp) (x97 : IV) (ih : Handler) (x86 : IV) (r95 : List Ref) (w96 : List Ref) (r91 : List Ref) (w92 : List Ref) (x87 : IV) (q77 : List IV → Hp → Option (IV × Hp)) (x80 : IV) (x81 : IV) (x82 : IV) (x83 : IV) (x84 : IV) (x85 : IV) : Option (IV × Hp) :=
  chkS [] r99 w100 (genS (pcBuildSlice EE 28 1 [(0, x97)]) 10499075 h98 fun x101 h102 r103 w104 => chkS [] r103 w104 (isoS [] false false ih 24 [.fv (.int .i64 30), x101] h102 fun x105 h106 r107 w108 => chkS [] r107 w108 (S10_409 h106 x86 r107 w108 r103 w104 r99 w100 r95 w96 r91 w92 x105 x87 q77 x80 x81 x82 x83 x84 x85)))
noncomputable def S10_411 (ih : Handler) (h79 : Hp) (x86 : IV) (x87 : IV) (q77 : List IV → Hp → Option (IV × Hp)) (x80 : IV) (x81 : IV) (x82 : IV) (x83 : IV) (x84 : IV) (x85 : IV) : Option (IV × Hp) :=
  isoS [] false false ih 25 [.fv (.int .i64 0)] h79 fun x89 h90 r91 w92 => chkS [] r91 w92 (genS (pcBuildSlice EE 28 1 [(0, x89)]) 10499073 h90 fun x93 h94 r95 w96 => chkS [] r95 w96 (isoS [] false false ih 24 [.fv (.int .i64 19), x93] h94 fun x97 h98 r99 w100 => S10_410 r99 w100 h98 x97 ih x86 r95 w96 r91 w92 x87 q77 x80 x81 x82 x83 x84 x85))
noncomputable def S10_412 (r391 : List Ref) (w392 : List Ref) (h390 : Hp) (x358 : IV) (x370 : IV) (x389 : IV) : Option (IV × Hp) :=
  chkS [] r391 w392 (guardS x358 true h390 (fun k393 => pickS x370 (.fv (.bool true)) x389 fun x394 => k393 x394 h390 [] []) fun x395 h396 _ _ => pickS x358 x395 (.fv (.bool false)) fun x399 => outS1 [x399] h396)
noncomputable def S10_413 (h371 : Hp) (x370 : IV) (x231 : IV) (x81 : IV) (ih : Handler) (x358 : IV) : Option (IV × Hp) :=
  guardS x370 false h371 (fun k374 => loadA 3 x231 h371 fun x375 r376 => k374 x375 h371 r376 []) fun x377 h378 r379 w380 => chkS [] r379 w380 (guardS x370 false h378 (fun k381 => loadA 3 x81 h378 fun x382 r383 => k381 x382 h378 r383 []) fun x384 h385 r386 w387 => chkS [(r379, w380)] r386 w387 (guardS x370 false h385 (fun k388 => isoS [] false false ih 17 [x377, x384] h385 k388) fun x389 h390 r391 w392 => S10_412 r391 w392 h390 x358 x370 x389))
noncomputable def S10_414 (x303 : IV) (x354 : IV) (h355 : Hp) (x230 : IV) (ih : Handler) (x231 : IV) (x81 : IV) : Option (IV × Hp) :=
  pickS x303 x354 (.fv (.bool false)) fun x358 => guardS x358 true h355 (fun k359 => k359 x230 h355 [] []) fun x360 h361 _ _ => guardS x358 true h361 (fun k364 => isoS [] false false ih 15 [x360] h361 k364) fun x365 h366 r367 w368 => chkS [] r367 w368 (guardS x358 true h366 (fun k369 => k369 x365 h366 [] []) fun x370 h371 _ _ => S10_413 h371 x370 x231 x81 ih x358)
noncomputable def S10_415 (r333 : List Ref) (w334 : List Ref) (h332 : Hp) (x303 : IV) (x80 : IV) (x331 : IV) (x230 : IV) (ih : Handler) (x231 : IV) (x81 : IV) : Option (IV × Hp) :=
  chkS [] r333 w334 (guardS x303 true h332 (fun k335 => k335 x80 h332 [] []) fun x336 h337 _ _ => guardS x303 true h337 (fun k340 => binS EE 3 .mul (.fv (.int .i64 2)) x336 fun x341 => k340 x341 h337 [] []) fun x342 h343 _ _ => guardS x303 true h343 (fun k346 => addS EE 3 x342 (.fv (.int .i64 1)) fun x347 => k346 x347 h343 [] []) fun x348 h349 _ _ => guardS x303 true h349 (fun k352 => eqS EE 3 x331 x348 fun x353 => k352 x353 h349 [] []) fun x354 h355 _ _ => S10_414 x303 x354 h355 x230 ih x231 x81)
noncomputable def S10_416 (r315 : List Ref) (w316 : List Ref) (h314 : Hp) (x303 : IV) (x313 : IV) (ih : Handler) (x80 : IV) (x230 : IV) (x231 : IV) (x81 : IV) : Option (IV × Hp) :=
  chkS [] r315 w316 (guardS x303 true h314 (fun k317 => ixS 3 x313 (.fv (.int .i64 1)) fun x318 => k317 x318 h314 [] []) fun x319 h320 _ _ => guardS x303 true h320 (fun k323 => loadA 3 x319 h320 fun x324 r325 => k323 x324 h320 r325 []) fun x326 h327 r328 w329 => chkS [] r328 w329 (guardS x303 true h327 (fun k330 => isoS [] false false ih 31 [x326] h327 k330) fun x331 h332 r333 w334 => S10_415 r333 w334 h332 x303 x80 x331 x230 ih x231 x81))
noncomputable def S10_417 (h295 : Hp) (x264 : IV) (ih : Handler) (x287 : IV) (x294 : IV) (x216 : IV) (x80 : IV) (x230 : IV) (x231 : IV) (x81 : IV) : Option (IV × Hp) :=
  guardS x264 true h295 (fun k298 => isoS [] false false ih 17 [x287, x294] h295 k298) fun x299 h300 r301 w302 => chkS [] r301 w302 (pickS x264 x299 (.fv (.bool false)) fun x303 => guardS x303 true h300 (fun k304 => faddrS 2 x216 fun x305 => k304 x305 h300 [] []) fun x306 h307 _ _ => guardS x303 true h307 (fun k310 => load1 x306 h307 fun x311 r312 => k310 x311 h307 r312 []) fun x313 h314 r315 w316 => S10_416 r315 w316 h314 x303 x313 ih x80 x230 x231 x81)
noncomputable def S10_418 (h275 : Hp) (x264 : IV) (x274 : IV) (x84 : IV) (r276 : List Ref) (w277 : List Ref) (ih : Handler) (x216 : IV) (x80 : IV) (x230 : IV) (x231 : IV) (x81 : IV) : Option (IV × Hp) :=
  guardS x264 true h275 (fun k278 => ixS 3 x274 (.fv (.int .i64 0)) fun x279 => k278 x279 h275 [] []) fun x280 h281 _ _ => guardS x264 true h281 (fun k284 => loadA 3 x280 h281 fun x285 r286 => k284 x285 h281 r286 []) fun x287 h288 r289 w290 => chkS [] r289 w290 (guardS x264 true h288 (fun k291 => loadA 3 x84 h288 fun x292 r293 => k291 x292 h288 r293 []) fun x294 h295 r296 w297 => chkS [(r289, w290), (r276, w277)] r296 w297 (S10_417 h295 x264 ih x287 x294 x216 x80 x230 x231 x81))
noncomputable def S10_419 (h255 : Hp) (x238 : IV) (x254 : IV) (x216 : IV) (x84 : IV) (ih : Handler) (x80 : IV) (x230 : IV) (x231 : IV) (x81 : IV) : Option (IV × Hp) :=
  guardS x238 true h255 (fun k258 => eqS EE 3 x254 (.fv (.int .i64 2)) fun x259 => k258 x259 h255 [] []) fun x260 h261 _ _ => pickS x238 x260 (.fv (.bool false)) fun x264 => guardS x264 true h261 (fun k265 => faddrS 2 x216 fun x266 => k265 x266 h261 [] []) fun x267 h268 _ _ => guardS x264 true h268 (fun k271 => load1 x267 h268 fun x272 r273 => k271 x272 h268 r273 []) fun x274 h275 r276 w277 => chkS [] r276 w277 (S10_418 h275 x264 x274 x84 r276 w277 ih x216 x80 x230 x231 x81)
noncomputable def S10_420 (x215 : IV) (h235 : Hp) (x216 : IV) (x84 : IV) (ih : Handler) (x80 : IV) (x230 : IV) (x231 : IV) (x81 : IV) : Option (IV × Hp) :=
  eqS EE 36 x215 (.fv (.int .i64 0)) fun x238 => guardS x238 true h235 (fun k239 => faddrS 2 x216 fun x240 => k239 x240 h235 [] []) fun x241 h242 _ _ => guardS x238 true h242 (fun k245 => load1 x241 h242 fun x246 r247 => k245 x246 h242 r247 []) fun x248 h249 r250 w251 => chkS [] r250 w251 (guardS x238 true h249 (fun k252 => lenS x248 fun x253 => k252 x253 h249 [] []) fun x254 h255 _ _ => S10_419 h255 x238 x254 x216 x84 ih x80 x230 x231 x81)
noncomputable def S10_421 (ih : Handler) (h220 : Hp) (x223 : IV) (x215 : IV) (x216 : IV) (x84 : IV) (x80 : IV) (x81 : IV) : Option (IV × Hp) :=
  isoS [] false false ih 20 [.nils, .fv (.int .i64 0), x223] h220 fun x225 h226 _ _ => extS 0 x225 fun x229 => extS 1 x225 fun x230 => newS 10507269 (.row [.fv (.int .i64 0), .fv (.int .i64 0), .nils] false) (.ptr (.own 10507269) 0) h226 fun x231 h232 _ _ => storeA 3 x231 x229 h232 fun h235 _ _ => S10_420 x215 h235 x216 x84 ih x80 x230 x231 x81
noncomputable def S10_422 (x210 : IV) (h211 : Hp) (x132 : IV) (ih : Handler) (x84 : IV) (x80 : IV) (x81 : IV) : Option (IV × Hp) :=
  extS 0 x210 fun x214 => extS 1 x210 fun x215 => newS 10506245 (.row [.fv (.int .i64 0), .fv (.int .i64 0), .nils] false) (.ptr (.own 10506245) 0) h211 fun x216 h217 _ _ => storeA 3 x216 x214 h217 fun h220 _ _ => loadA 3 x132 h220 fun x223 _ => S10_421 ih h220 x223 x215 x216 x84 x80 x81
noncomputable def S10_423 (ih : Handler) (h201 : Hp) (x196 : IV) (x132 : IV) (x84 : IV) (x80 : IV) (x81 : IV) : Option (IV × Hp) :=
  isoS [] false false ih 15 [x196] h201 fun x204 h205 _ _ => condS x204 (outS1 [.fv (.bool true)] h205) (loadA 3 x132 h205 fun x208 _ => isoS [] false false ih 16 [x208] h205 fun x210 h211 _ _ => S10_422 x210 h211 x132 ih x84 x80 x81)
noncomputable def S10_424 (ih : Handler) (h185 : Hp) (x189 : IV) (x132 : IV) (x84 : IV) (x80 : IV) (x81 : IV) : Option (IV × Hp) :=
  isoS [] false false ih 34 [x189] h185 fun x191 h192 _ _ => extS 0 x191 fun x195 => extS 1 x191 fun x196 => newS 10503173 (.row [.fv (.int .i64 0), .fv (.int .i64 0), .nils] false) (.ptr (.own 10503173) 0) h192 fun x197 h198 _ _ => storeA 3 x197 x195 h198 fun h201 _ _ => S10_423 ih h201 x196 x132 x84 x80 x81
noncomputable def S10_425 (h174 : Hp) (x169 : IV) (ih : Handler) (x173 : IV) (x132 : IV) (x84 : IV) (x80 : IV) (x81 : IV) : Option (IV × Hp) :=
  guardS x169 false h174 (fun k177 => isoS [] false false ih 35 [x173] h174 k177) fun x178 h179 _ _ => guardS x169 false h179 (fun k182 => neS EE 3 x178 (.fv (.int .i64 0)) fun x183 => k182 x183 h179 [] []) fun x184 h185 _ _ => pickS x169 (.fv (.bool true)) x184 fun x188 => condS x188 (outS1 [.fv (.bool true)] h185) (loadA 3 x132 h185 fun x189 _ => S10_424 ih h185 x189 x132 x84 x80 x81)
noncomputable def S10_426 (h147 : Hp) (x150 : IV) (x84 : IV) (ih : Handler) (x132 : IV) (x80 : IV) (x81 : IV) : Option (IV × Hp) :=
  guardS x150 false h147 (fun k151 => loadA 3 x84 h147 fun x152 r153 => k151 x152 h147 r153 []) fun x154 h155 _ _ => guardS x150 false h155 (fun k158 => isoS [] false false ih 31 [x154] h155 k158) fun x159 h160 _ _ => guardS x150 false h160 (fun k163 => gtS EE 3 x159 (.fv (.int .i64 1000)) fun x164 => k163 x164 h160 [] []) fun x165 h166 _ _ => pickS x150 (.fv (.bool true)) x165 fun x169 => guardS x169 false h166 (fun k170 => loadA 3 x132 h166 fun x171 r172 => k170 x171 h166 r172 []) fun x173 h174 _ _ => S10_425 h174 x169 ih x173 x132 x84 x80 x81
noncomputable def S10_427 (h133 : Hp) (x132 : IV) (x128 : IV) (x83 : IV) (x85 : IV) (ih : Handler) (x84 : IV) (x80 : IV) (x81 : IV) : Option (IV × Hp) :=
  storeA 3 x132 x128 h133 fun h136 _ _ => optS (unR .not x83) fun x139 => guardS x139 false h136 (fun k140 => k140 x85 h136 [] []) fun x141 h142 _ _ => guardS x139 false h142 (fun k145 => isoS [] false false ih 15 [x141] h142 k145) fun x146 h147 _ _ => pickS x139 (.fv (.bool true)) x146 fun x150 => S10_426 h147 x150 x84 ih x132 x80 x81
noncomputable def S10_428 (h79 : Hp) (x82 : IV) (x86 : IV) (ih : Handler) (x83 : IV) (x85 : IV) (x84 : IV) (x80 : IV) (x81 : IV) : Option (IV × Hp) :=
  loadA 3 x82 h79 fun x120 _ => loadA 3 x86 h79 fun x122 _ => genS (pcBuildSlice EE 28 2 [(0, x120), (1, x122)]) 10500098 h79 fun x124 h125 _ _ => isoS [] false false ih 24 [.fv (.int .i64 28), x124] h125 fun x128 h129 _ _ => newS 10500100 (.row [.fv (.int .i64 0), .fv (.int .i64 0), .nils] false) (.ptr (.own 10500100) 0) h129 fun x132 h133 _ _ => S10_427 h133 x132 x128 x83 x85 ih x84 x80 x81
noncomputable def S10_429 (l404 : List IV) (x80 : IV) (ih : Handler) (h79 : Hp) (q77 : List IV → Hp → Option (IV × Hp)) (x81 : IV) (x82 : IV) (x83 : IV) (x84 : IV) : Option (IV × Hp) :=
  uncS l404 fun x85 l405 => uncS l405 fun x86 l406 => uncS l406 fun x87 _ => ltS EE 3 x87 x80 fun x88 => condS x88 (S10_411 ih h79 x86 x87 q77 x80 x81 x82 x83 x84 x85) (S10_428 h79 x82 x86 ih x83 x85 x84 x80 x81)
noncomputable def S10_430 (l78 : List IV) (ih : Handler) (h79 : Hp) (q77 : List IV → Hp → Option (IV × Hp)) : Option (IV × Hp) :=
  uncS l78 fun x80 l400 => uncS l400 fun x81 l401 => uncS l401 fun x82 l402 => uncS l402 fun x83 l403 => uncS l403 fun x84 l404 => S10_429 l404 x80 ih h79 q77 x81 x82 x83 x84
noncomputable def S10_431 (ih : Handler) (h59 : Hp) (x1 : IV) (n : Nat) (x23 : IV) (x40 : IV) (x39 : IV) (x55 : IV) (x54 : IV) : Option (IV × Hp) :=
  isoS [] false false ih 23 [x1, .fv (.int .i64 20)] h59 fun x62 h63 _ _ => isoS [] false false ih 25 [.fv (.int .i64 0)] h63 fun x66 h67 _ _ => newS 10494977 (.row [.fv (.int .i64 0), .fv (.int .i64 0), .nils] false) (.ptr (.own 10494977) 0) h67 fun x70 h71 _ _ => storeA 3 x70 x66 h71 fun h74 _ _ => loopS n (fun q77 l78 h79 => S10_430 l78 ih h79 q77) [x62, x23, x40, x39, x55, x54, x70, .fv (.int .i64 0)] h74
noncomputable def S10_432 (ih : Handler) (h44 : Hp) (x47 : IV) (x1 : IV) (n : Nat) (x23 : IV) (x40 : IV) (x39 : IV) : Option (IV × Hp) :=
  isoS [] false false ih 34 [x47] h44 fun x49 h50 _ _ => extS 0 x49 fun x53 => extS 1 x49 fun x54 => newS 10492933 (.row [.fv (.int .i64 0), .fv (.int .i64 0), .nils] false) (.ptr (.own 10492933) 0) h50 fun x55 h56 _ _ => storeA 3 x55 x53 h56 fun h59 _ _ => S10_431 ih h59 x1 n x23 x40 x39 x55 x54
noncomputable def S10_433 (x34 : IV) (h35 : Hp) (ih : Handler) (x1 : IV) (n : Nat) (x23 : IV) : Option (IV × Hp) :=
  extS 0 x34 fun x38 => extS 1 x34 fun x39 => newS 10491910 (.row [.fv (.int .i64 0), .fv (.int .i64 0), .nils] false) (.ptr (.own 10491910) 0) h35 fun x40 h41 _ _ => storeA 3 x40 x38 h41 fun h44 _ _ => loadA 3 x40 h44 fun x47 _ => S10_432 ih h44 x47 x1 n x23 x40 x39
noncomputable def S10_434 (h20 : Hp) (x19 : IV) (x3 : IV) (ih : Handler) (x1 : IV) (n : Nat) : Option (IV × Hp) :=
  newS 10490881 (.row [.fv (.int .i64 0), .fv (.int .i64 0), .nils] false) (.ptr (.own 10490881) 0) h20 fun x23 h24 _ _ => storeA 3 x23 x19 h24 fun h27 _ _ => loadA 3 x23 h27 fun x30 _ => loadA 3 x3 h27 fun x32 _ => isoS [] false false ih 33 [.nils, x30, x32, .fv (.int .i64 3)] h27 fun x34 h35 _ _ => S10_433 x34 h35 ih x1 n x23
noncomputable def S10_435 (ih : Handler) (h8 : Hp) (x12 : IV) (x3 : IV) (x1 : IV) (n : Nat) : Option (IV × Hp) :=
  isoS [] false false ih 12 [x12] h8 fun x14 h15 _ _ => optS (unR .not x14) fun x18 => condS x18 (outS1 [.fv (.bool true)] h15) (isoS [] false false ih 24 [.fv (.int .i64 15), .nils] h15 fun x19 h20 _ _ => S10_434 h20 x19 x3 ih x1 n)
noncomputable def S10 (ih : Handler) (n : Nat) (x0 : IV) (x1 : IV) (h2 : Hp) : Option (IV × Hp) :=
  boxS 10485760 x0 h2 fun x3 h4 _ _ => isoS [] false false ih 11 [] h4 fun x7 h8 _ _ => optS (unR .not x7) fun x11 => condS x11 (outS1 [.fv (.bool false)] h8) (loadA 3 x3 h8 fun x12 _ => S10_435 ih h8 x12 x3 x1 n)
theorem S10_ok (ih : Handler) (n : Nat) (x0 : IV) (x1 : IV) (h2 : Hp) : funS EE ih ft.get n 10 [x0, x1] h2 = S10 ih n x0 x1 h2 := by kernel_rfl
/-! thyrsus/thyrsuslaw10.known -/
noncomputable def S11_70 (r61 : List Ref) (w62 : List Ref) (h60 : Hp) (x52 : IV) (x59 : IV) : Option (IV × Hp) :=
  chkS [] r61 w62 (guardS x52 true h60 (fun k63 => optS (unR .not x59) fun x64 => k63 x64 h60 [] []) fun x65 h66 _ _ => pickS x52 x65 (.fv (.bool false)) fun x69 => outS1 [x69] h66)
noncomputable def S11_71 (r50 : List Ref) (w51 : List Ref) (x34 : IV) (x48 : IV) (h49 : Hp) (ih : Handler) : Option (IV × Hp) :=
  chkS [] r50 w51 (pickS x34 x48 (.fv (.bool false)) fun x52 => guardS x52 true h49 (fun k53 => isoS [] false false ih 24 [.fv (.int .i64 10), .nils] h49 k53) fun x54 h55 r56 w57 => chkS [] r56 w57 (guardS x52 true h55 (fun k58 => isoS [] false false ih 18 [x54] h55 k58) fun x59 h60 r61 w62 => S11_70 r61 w62 h60 x52 x59))
noncomputable def S11_72 (h31 : Hp) (x34 : IV) (x27 : IV) (ih : Handler) : Option (IV × Hp) :=
  guardS x34 true h31 (fun k35 => loadA 3 x27 h31 fun x36 r37 => k35 x36 h31 r37 []) fun x38 h39 r40 w41 => chkS [] r40 w41 (guardS x34 true h39 (fun k42 => isoS [] false false ih 26 [.fv (.int .i64 3)] h39 k42) fun x43 h44 r45 w46 => chkS [(r40, w41)] r45 w46 (guardS x34 true h44 (fun k47 => isoS [] false false ih 17 [x38, x43] h44 k47) fun x48 h49 r50 w51 => S11_71 r50 w51 x34 x48 h49 ih))
noncomputable def S11_73 (x21 : IV) (h22 : Hp) (ih : Handler) : Option (IV × Hp) :=
  extS 0 x21 fun x25 => extS 1 x21 fun x26 => newS 11535369 (.row [.fv (.int .i64 0), .fv (.int .i64 0), .nils] false) (.ptr (.own 11535369) 0) h22 fun x27 h28 _ _ => storeA 3 x27 x25 h28 fun h31 _ _ => eqS EE 36 x26 (.fv (.int .i64 0)) fun x34 => S11_72 h31 x34 x27 ih
noncomputable def S11 (ih : Handler) (n : Nat) (h0 : Hp) : Option (IV × Hp) :=
  isoS [] false false ih 26 [.fv (.int .i64 3)] h0 fun x1 h2 _ _ => genS (pcBuildSlice EE 28 1 [(0, x1)]) 11535361 h2 fun x5 h6 _ _ => isoS [] false false ih 24 [.fv (.int .i64 19), x5] h6 fun x9 h10 _ _ => genS (pcBuildSlice EE 28 1 [(0, x9)]) 11535363 h10 fun x13 h14 _ _ => isoS [] false false ih 24 [.fv (.int .i64 30), x13] h14 fun x17 h18 _ _ => isoS [] false false ih 16 [x17] h18 fun x21 h22 _ _ => S11_73 x21 h22 ih
theorem S11_ok (ih : Handler) (n : Nat) (h0 : Hp) : funS EE ih ft.get n 11 [] h0 = S11 ih n h0 := by kernel_rfl
/-! thyrsus/thyrsuslaw1.Few -/
noncomputable def S12 (ih : Handler) (n : Nat) (x0 : IV) (h1 : Hp) : Option (IV × Hp) :=
  boxS 12582912 x0 h1 fun x2 h3 _ _ => loadA 3 x2 h3 fun x6 _ => isoS [] false false ih 36 [x6, .fv (.int .i64 300)] h3 fun x8 h9 _ _ => ltS EE 3 x8 (.fv (.int .i64 300)) fun x12 => outS1 [x12] h9
theorem S12_ok (ih : Handler) (n : Nat) (x0 : IV) (h1 : Hp) : funS EE ih ft.get n 12 [x0] h1 = S12 ih n x0 h1 := by kernel_rfl
/-! thyrsus/thyrsuslaw5.Case -/
noncomputable def S13_177 (r85 : List Ref) (w86 : List Ref) (h84 : Hp) (x13 : IV) (x17 : IV) (x21 : IV) : Option (IV × Hp) :=
  chkS [] r85 w86 (cellS true 3 x13 h84 fun x87 => cellS true 3 x17 h84 fun x88 => outS1 [x21, x87, x88, .fv (.bool false)] h84)
noncomputable def S13_178 (ih : Handler) (h71 : Hp) (r76 : List Ref) (x13 : IV) (x75 : IV) (x17 : IV) (x21 : IV) : Option (IV × Hp) :=
  isoS [] false false ih 26 [.fv (.int .i64 0)] h71 fun x77 h78 r79 w80 => chkS [(r76, [])] r79 w80 (storeA 3 x13 x75 h78 fun h81 r82 w83 => chkS [] r82 w83 (storeA 3 x17 x77 h81 fun h84 r85 w86 => S13_177 r85 w86 h84 x13 x17 x21))
noncomputable def S13_179 (r97 : List Ref) (w98 : List Ref) (h96 : Hp) (x13 : IV) (x17 : IV) (x21 : IV) : Option (IV × Hp) :=
  chkS [] r97 w98 (cellS true 3 x13 h96 fun x99 => cellS true 3 x17 h96 fun x100 => outS1 [x21, x99, x100, .fv (.bool true)] h96)
noncomputable def S13_180 (h71 : Hp) (x48 : IV) (r90 : List Ref) (x13 : IV) (x89 : IV) (x17 : IV) (x21 : IV) : Option (IV × Hp) :=
  loadA 3 x48 h71 fun x91 r92 => chkS [(r90, [])] r92 [] (storeA 3 x13 x89 h71 fun h93 r94 w95 => chkS [(r92, [])] r94 w95 (storeA 3 x17 x91 h93 fun h96 r97 w98 => S13_179 r97 w98 h96 x13 x17 x21))
noncomputable def S13_181 (x55 : IV) (x70 : IV) (h71 : Hp) (x31 : IV) (ih : Handler) (x13 : IV) (x17 : IV) (x21 : IV) (x48 : IV) : Option (IV × Hp) :=
  pickS x55 (.fv (.bool true)) x70 fun x74 => condS x74 (loadA 3 x31 h71 fun x75 r76 => chkS [] r76 [] (S13_178 ih h71 r76 x13 x75 x17 x21)) (loadA 3 x31 h71 fun x89 r90 => chkS [] r90 [] (S13_180 h71 x48 r90 x13 x89 x17 x21))
noncomputable def S13_182 (h49 : Hp) (x48 : IV) (x46 : IV) (x47 : IV) (ih : Handler) (x31 : IV) (x13 : IV) (x17 : IV) (x21 : IV) : Option (IV × Hp) :=
  storeA 3 x48 x46 h49 fun h52 _ _ => optS (unR .not x47) fun x55 => guardS x55 false h52 (fun k56 => loadA 3 x48 h52 fun x57 r58 => k56 x57 h52 r58 []) fun x59 h60 _ _ => guardS x55 false h60 (fun k63 => isoS [] false false ih 35 [x59] h60 k63) fun x64 h65 _ _ => guardS x55 false h65 (fun k68 => neS EE 3 x64 (.fv (.int .i64 0)) fun x69 => k68 x69 h65 [] []) fun x70 h71 _ _ => S13_181 x55 x70 h71 x31 ih x13 x17 x21 x48
noncomputable def S13_183 (h35 : Hp) (x5 : IV) (ih : Handler) (x21 : IV) (x38 : IV) (x31 : IV) (x13 : IV) (x17 : IV) : Option (IV × Hp) :=
  loadA 3 x5 h35 fun x40 _ => isoS [] false false ih 33 [x21, x38, x40, .fv (.int .i64 5)] h35 fun x42 h43 _ _ => extS 0 x42 fun x46 => extS 1 x42 fun x47 => newS 13635591 (.row [.fv (.int .i64 0), .fv (.int .i64 0), .nils] false) (.ptr (.own 13635591) 0) h43 fun x48 h49 _ _ => S13_182 h49 x48 x46 x47 ih x31 x13 x17 x21
noncomputable def S13_184 (h22 : Hp) (x9 : IV) (ih : Handler) (x5 : IV) (x21 : IV) (x13 : IV) (x17 : IV) : Option (IV × Hp) :=
  loadA 3 x9 h22 fun x25 _ => isoS [] false false ih 28 [x25, .fv (.int .i64 2)] h22 fun x27 h28 _ _ => newS 13634562 (.row [.fv (.int .i64 0), .fv (.int .i64 0), .nils] false) (.ptr (.own 13634562) 0) h28 fun x31 h32 _ _ => storeA 3 x31 x27 h32 fun h35 _ _ => loadA 3 x31 h35 fun x38 _ => S13_183 h35 x5 ih x21 x38 x31 x13 x17
noncomputable def S13_185 (r161 : List Ref) (w162 : List Ref) (h160 : Hp) (x13 : IV) (x17 : IV) (x21 : IV) : Option (IV × Hp) :=
  chkS [] r161 w162 (cellS true 3 x13 h160 fun x163 => cellS true 3 x17 h160 fun x164 => outS1 [x21, x163, x164, .fv (.bool false)] h160)
noncomputable def S13_186 (ih : Handler) (h147 : Hp) (r152 : List Ref) (x13 : IV) (x151 : IV) (x17 : IV) (x21 : IV) : Option (IV × Hp) :=
  isoS [] false false ih 24 [.fv (.int .i64 11), .nils] h147 fun x153 h154 r155 w156 => chkS [(r152, [])] r155 w156 (storeA 3 x13 x151 h154 fun h157 r158 w159 => chkS [] r158 w159 (storeA 3 x17 x153 h157 fun h160 r161 w162 => S13_185 r161 w162 h160 x13 x17 x21))
noncomputable def S13_187 (r173 : List Ref) (w174 : List Ref) (h172 : Hp) (x13 : IV) (x17 : IV) (x21 : IV) : Option (IV × Hp) :=
  chkS [] r173 w174 (cellS true 3 x13 h172 fun x175 => cellS true 3 x17 h172 fun x176 => outS1 [x21, x175, x176, .fv (.bool true)] h172)
noncomputable def S13_188 (h147 : Hp) (x124 : IV) (r166 : List Ref) (x13 : IV) (x165 : IV) (x17 : IV) (x21 : IV) : Option (IV × Hp) :=
  loadA 3 x124 h147 fun x167 r168 => chkS [(r166, [])] r168 [] (storeA 3 x13 x165 h147 fun h169 r170 w171 => chkS [(r168, [])] r170 w171 (storeA 3 x17 x167 h169 fun h172 r173 w174 => S13_187 r173 w174 h172 x13 x17 x21))
noncomputable def S13_189 (x131 : IV) (x146 : IV) (h147 : Hp) (x107 : IV) (ih : Handler) (x13 : IV) (x17 : IV) (x21 : IV) (x124 : IV) : Option (IV × Hp) :=
  pickS x131 (.fv (.bool true)) x146 fun x150 => condS x150 (loadA 3 x107 h147 fun x151 r152 => chkS [] r152 [] (S13_186 ih h147 r152 x13 x151 x17 x21)) (loadA 3 x107 h147 fun x165 r166 => chkS [] r166 [] (S13_188 h147 x124 r166 x13 x165 x17 x21))
noncomputable def S13_190 (h125 : Hp) (x124 : IV) (x122 : IV) (x123 : IV) (ih : Handler) (x107 : IV) (x13 : IV) (x17 : IV) (x21 : IV) : Option (IV × Hp) :=
  storeA 3 x124 x122 h125 fun h128 _ _ => optS (unR .not x123) fun x131 => guardS x131 false h128 (fun k132 => loadA 3 x124 h128 fun x133 r134 => k132 x133 h128 r134 []) fun x135 h136 _ _ => guardS x131 false h136 (fun k139 => isoS [] false false ih 35 [x135] h136 k139) fun x140 h141 _ _ => guardS x131 false h141 (fun k144 => neS EE 3 x140 (.fv (.int .i64 0)) fun x145 => k144 x145 h141 [] []) fun x146 h147 _ _ => S13_189 x131 x146 h147 x107 ih x13 x17 x21 x124
noncomputable def S13_191 (h111 : Hp) (x5 : IV) (ih : Handler) (x21 : IV) (x114 : IV) (x107 : IV) (x13 : IV) (x17 : IV) : Option (IV × Hp) :=
  loadA 3 x5 h111 fun x116 _ => isoS [] false false ih 39 [x21, x114, x116, .fv (.int .i64 5)] h111 fun x118 h119 _ _ => extS 0 x118 fun x122 => extS 1 x118 fun x123 => newS 13640711 (.row [.fv (.int .i64 0), .fv (.int .i64 0), .nils] false) (.ptr (.own 13640711) 0) h119 fun x124 h125 _ _ => S13_190 h125 x124 x122 x123 ih x107 x13 x17 x21
noncomputable def S13_192 (h22 : Hp) (x9 : IV) (ih : Handler) (x21 : IV) (x5 : IV) (x13 : IV) (x17 : IV) : Option (IV × Hp) :=
  loadA 3 x9 h22 fun x101 _ => isoS [] false false ih 38 [x21, x101, .fv (.int .i64 2)] h22 fun x103 h104 _ _ => newS 13639683 (.row [.fv (.int .i64 0), .fv (.int .i64 0), .nils] false) (.ptr (.own 13639683) 0) h104 fun x107 h108 _ _ => storeA 3 x107 x103 h108 fun h111 _ _ => loadA 3 x107 h111 fun x114 _ => S13_191 h111 x5 ih x21 x114 x107 x13 x17
noncomputable def S13 (ih : Handler) (n : Nat) (x0 : IV) (x1 : IV) (x2 : IV) (x3 : IV) (h4 : Hp) : Option (IV × Hp) :=
  boxS 13631488 x1 h4 fun x5 h6 _ _ => boxS 13631489 x2 h6 fun x9 h10 _ _ => newS 13631491 (.row [.fv (.int .i64 0), .fv (.int .i64 0), .nils] false) (.ptr (.own 13631491) 0) h10 fun x13 h14 _ _ => newS 13631492 (.row [.fv (.int .i64 0), .fv (.int .i64 0), .nils] false) (.ptr (.own 13631492) 0) h14 fun x17 h18 _ _ => isoS [] false false ih 37 [x0] h18 fun x21 h22 _ _ => condS x3 (S13_184 h22 x9 ih x5 x21 x13 x17) (S13_192 h22 x9 ih x21 x5 x13 x17)
theorem S13_ok (ih : Handler) (n : Nat) (x0 : IV) (x1 : IV) (x2 : IV) (x3 : IV) (h4 : Hp) : funS EE ih ft.get n 13 [x0, x1, x2, x3] h4 = S13 ih n x0 x1 x2 x3 h4 := by kernel_rfl
/-! thyrsus/thyrsusref10.Stage -/
noncomputable def S14_37 (h22 : Hp) (x6 : IV) (x26 : IV) (x17 : IV) : Option (IV × Hp) :=
  storeA 3 x6 x26 h22 fun h27 _ _ => cellS true 3 x6 h27 fun x30 => outS1 [x30, x17] h27
noncomputable def S14_38 (h22 : Hp) (x6 : IV) (x31 : IV) : Option (IV × Hp) :=
  storeA 3 x6 x31 h22 fun h33 _ _ => cellS true 3 x6 h33 fun x36 => outS1 [x36, .fv (.int .i64 0)] h33
noncomputable def S14_39 (h13 : Hp) (x16 : IV) (x17 : IV) (x6 : IV) : Option (IV × Hp) :=
  newS 14681093 (.row [.fv (.int .i64 0), .fv (.int .i64 0), .nils] false) (.ptr (.own 14681093) 0) h13 fun x18 h19 _ _ => storeA 3 x18 x16 h19 fun h22 _ _ => neS EE 3 x17 (.fv (.int .i64 0)) fun x25 => condS x25 (bldS [.fv (.int .i64 0), .fv (.int .i64 0), .nils] [] fun x26 => S14_37 h22 x6 x26 x17) (loadA 3 x18 h22 fun x31 _ => S14_38 h22 x6 x31)
noncomputable def S14 (ih : Handler) (n : Nat) (x0 : IV) (h1 : Hp) : Option (IV × Hp) :=
  boxS 14680064 x0 h1 fun x2 h3 _ _ => newS 14680065 (.row [.fv (.int .i64 0), .fv (.int .i64 0), .nils] false) (.ptr (.own 14680065) 0) h3 fun x6 h7 _ _ => loadA 3 x2 h7 fun x10 _ => isoS [] false false ih 34 [x10] h7 fun x12 h13 _ _ => extS 0 x12 fun x16 => extS 1 x12 fun x17 => S14_39 h13 x16 x17 x6
theorem S14_ok (ih : Handler) (n : Nat) (x0 : IV) (h1 : Hp) : funS EE ih ft.get n 14 [x0] h1 = S14 ih n x0 h1 := by kernel_rfl
/-! thyrsus/thyrsusref5.Heavy -/
noncomputable def S15 (ih : Handler) (n : Nat) (x0 : IV) (h1 : Hp) : Option (IV × Hp) :=
  eqS EE 3 x0 (.fv (.int .i64 17)) fun x2 => guardS x2 false h1 (fun k3 => k3 x0 h1 [] []) fun x4 h5 _ _ => guardS x2 false h5 (fun k8 => eqS EE 3 x4 (.fv (.int .i64 5)) fun x9 => k8 x9 h5 [] []) fun x10 h11 _ _ => pickS x2 (.fv (.bool true)) x10 fun x14 => outS1 [x14] h11
theorem S15_ok (ih : Handler) (n : Nat) (x0 : IV) (h1 : Hp) : funS EE ih ft.get n 15 [x0] h1 = S15 ih n x0 h1 := by kernel_rfl
/-! thyrsus/stage.Stage -/
noncomputable def S16_61 (h13 : Hp) (x6 : IV) : Option (IV × Hp) :=
  bldS [.fv (.int .i64 0), .fv (.int .i64 0), .nils] [] fun x17 => storeA 3 x6 x17 h13 fun h18 _ _ => cellS true 3 x6 h18 fun x21 => outS1 [x21, .fv (.int .i64 1)] h18
noncomputable def S16_62 (h34 : Hp) (x6 : IV) (x38 : IV) (x29 : IV) : Option (IV × Hp) :=
  storeA 3 x6 x38 h34 fun h39 _ _ => cellS true 3 x6 h39 fun x42 => outS1 [x42, x29] h39
noncomputable def S16_63 (h46 : Hp) (x6 : IV) (x50 : IV) : Option (IV × Hp) :=
  storeA 3 x6 x50 h46 fun h51 _ _ => cellS true 3 x6 h51 fun x54 => outS1 [x54, .fv (.int .i64 10)] h51
noncomputable def S16_64 (h46 : Hp) (x6 : IV) (x55 : IV) : Option (IV × Hp) :=
  storeA 3 x6 x55 h46 fun h57 _ _ => cellS true 3 x6 h57 fun x60 => outS1 [x60, .fv (.int .i64 0)] h57
noncomputable def S16_65 (ih : Handler) (h34 : Hp) (x43 : IV) (x6 : IV) (x30 : IV) : Option (IV × Hp) :=
  isoS [] false false ih 18 [x43] h34 fun x45 h46 _ _ => optS (unR .not x45) fun x49 => condS x49 (bldS [.fv (.int .i64 0), .fv (.int .i64 0), .nils] [] fun x50 => S16_63 h46 x6 x50) (loadA 3 x30 h46 fun x55 _ => S16_64 h46 x6 x55)
noncomputable def S16_66 (h31 : Hp) (x30 : IV) (x28 : IV) (x29 : IV) (x6 : IV) (ih : Handler) : Option (IV × Hp) :=
  storeA 3 x30 x28 h31 fun h34 _ _ => neS EE 36 x29 (.fv (.int .i64 0)) fun x37 => condS x37 (bldS [.fv (.int .i64 0), .fv (.int .i64 0), .nils] [] fun x38 => S16_62 h34 x6 x38 x29) (loadA 3 x30 h34 fun x43 _ => S16_65 ih h34 x43 x6 x30)
noncomputable def S16_67 (h13 : Hp) (x2 : IV) (ih : Handler) (x6 : IV) : Option (IV × Hp) :=
  loadA 3 x2 h13 fun x22 _ => isoS [] false false ih 41 [x22] h13 fun x24 h25 _ _ => extS 0 x24 fun x28 => extS 1 x24 fun x29 => newS 16780293 (.row [.fv (.int .i64 0), .fv (.int .i64 0), .nils] false) (.ptr (.own 16780293) 0) h25 fun x30 h31 _ _ => S16_66 h31 x30 x28 x29 x6 ih
noncomputable def S16 (ih : Handler) (n : Nat) (x0 : IV) (h1 : Hp) : Option (IV × Hp) :=
  boxS 16777216 x0 h1 fun x2 h3 _ _ => newS 16777217 (.row [.fv (.int .i64 0), .fv (.int .i64 0), .nils] false) (.ptr (.own 16777217) 0) h3 fun x6 h7 _ _ => loadA 3 x2 h7 fun x10 _ => isoS [] false false ih 40 [x10] h7 fun x12 h13 _ _ => neS EE 36 x12 (.fv (.int .i64 0)) fun x16 => condS x16 (S16_61 h13 x6) (S16_67 h13 x2 ih x6)
theorem S16_ok (ih : Handler) (n : Nat) (x0 : IV) (h1 : Hp) : funS EE ih ft.get n 16 [x0] h1 = S16 ih n x0 h1 := by kernel_rfl
/-! thyrsus/thyrsusref4.Same -/
noncomputable def S17_128 (x101 : IV) (q96 : List IV → Hp → Option (IV × Hp)) (h120 : Hp) (x99 : IV) (x100 : IV) : Option (IV × Hp) :=
  addS EE 3 x101 (.fv (.int .i64 1)) fun x124 => q96 [x99, x100, x124] h120
noncomputable def S17_129 (r118 : List Ref) (r112 : List Ref) (r109 : List Ref) (ih : Handler) (h98 : Hp) (x111 : IV) (x117 : IV) (x101 : IV) (q96 : List IV → Hp → Option (IV × Hp)) (x99 : IV) (x100 : IV) : Option (IV × Hp) :=
  chkS [(r112, []), (r109, [])] r118 [] (isoS [] false false ih 17 [x111, x117] h98 fun x119 h120 r121 w122 => chkS [] r121 w122 (optS (unR .not x119) fun x123 => condS x123 (outS1 [.fv (.bool false)] h120) (S17_128 x101 q96 h120 x99 x100)))
noncomputable def S17_130 (x100 : IV) (h98 : Hp) (r112 : List Ref) (r109 : List Ref) (x101 : IV) (ih : Handler) (x111 : IV) (q96 : List IV → Hp → Option (IV × Hp)) (x99 : IV) : Option (IV × Hp) :=
  faddrS 2 x100 fun x113 => load1 x113 h98 fun x114 r115 => chkS [(r112, []), (r109, [])] r115 [] (ixS 3 x114 x101 fun x116 => loadA 3 x116 h98 fun x117 r118 => S17_129 r118 r112 r109 ih h98 x111 x117 x101 q96 x99 x100)
noncomputable def S17_131 (h98 : Hp) (x107 : IV) (x101 : IV) (x100 : IV) (ih : Handler) (q96 : List IV → Hp → Option (IV × Hp)) (x99 : IV) : Option (IV × Hp) :=
  load1 x107 h98 fun x108 r109 => chkS [] r109 [] (ixS 3 x108 x101 fun x110 => loadA 3 x110 h98 fun x111 r112 => chkS [] r112 [] (S17_130 x100 h98 r112 r109 x101 ih x111 q96 x99))
noncomputable def S17_132 (x103 : IV) (x101 : IV) (x99 : IV) (h98 : Hp) (x100 : IV) (ih : Handler) (q96 : List IV → Hp → Option (IV × Hp)) : Option (IV × Hp) :=
  lenS x103 fun x105 => ltS EE 3 x101 x105 fun x106 => condS x106 (faddrS 2 x99 fun x107 => S17_131 h98 x107 x101 x100 ih q96 x99) (outS1 [.fv (.bool true)] h98)
noncomputable def S17_133 (l97 : List IV) (h98 : Hp) (ih : Handler) (q96 : List IV → Hp → Option (IV × Hp)) : Option (IV × Hp) :=
  uncS l97 fun x99 l125 => uncS l125 fun x100 l126 => uncS l126 fun x101 _ => faddrS 2 x99 fun x102 => load1 x102 h98 fun x103 _ => S17_132 x103 x101 x99 h98 x100 ih q96
noncomputable def S17_134 (x95 : IV) (h92 : Hp) (n : Nat) (x3 : IV) (x7 : IV) (ih : Handler) : Option (IV × Hp) :=
  condS x95 (outS1 [.fv (.bool false)] h92) (loopS n (fun q96 l97 h98 => S17_133 l97 h98 ih q96) [x3, x7, .fv (.int .i64 0)] h92)
noncomputable def S17_135 (h67 : Hp) (x50 : IV) (x7 : IV) (x66 : IV) (n : Nat) (x3 : IV) (ih : Handler) : Option (IV × Hp) :=
  guardS x50 false h67 (fun k70 => faddrS 2 x7 fun x71 => k70 x71 h67 [] []) fun x72 h73 _ _ => guardS x50 false h73 (fun k76 => load1 x72 h73 fun x77 r78 => k76 x77 h73 r78 []) fun x79 h80 _ _ => guardS x50 false h80 (fun k83 => lenS x79 fun x84 => k83 x84 h80 [] []) fun x85 h86 _ _ => guardS x50 false h86 (fun k89 => neS EE 3 x66 x85 fun x90 => k89 x90 h86 [] []) fun x91 h92 _ _ => pickS x50 (.fv (.bool true)) x91 fun x95 => S17_134 x95 h92 n x3 x7 ih
noncomputable def S17_136 (h41 : Hp) (x17 : IV) (x27 : IV) (x40 : IV) (x3 : IV) (x7 : IV) (n : Nat) (ih : Handler) : Option (IV × Hp) :=
  guardS x17 false h41 (fun k44 => neS EE 3 x27 x40 fun x45 => k44 x45 h41 [] []) fun x46 h47 _ _ => pickS x17 (.fv (.bool true)) x46 fun x50 => guardS x50 false h47 (fun k51 => faddrS 2 x3 fun x52 => k51 x52 h47 [] []) fun x53 h54 _ _ => guardS x50 false h54 (fun k57 => load1 x53 h54 fun x58 r59 => k57 x58 h54 r59 []) fun x60 h61 _ _ => guardS x50 false h61 (fun k64 => lenS x60 fun x65 => k64 x65 h61 [] []) fun x66 h67 _ _ => S17_135 h67 x50 x7 x66 n x3 ih
noncomputable def S17_137 (x12 : IV) (x15 : IV) (h8 : Hp) (x3 : IV) (x7 : IV) (n : Nat) (ih : Handler) : Option (IV × Hp) :=
  neS EE 3 x12 x15 fun x17 => guardS x17 false h8 (fun k18 => faddrS 1 x3 fun x19 => k18 x19 h8 [] []) fun x20 h21 _ _ => guardS x17 false h21 (fun k24 => load1 x20 h21 fun x25 r26 => k24 x25 h21 r26 []) fun x27 h28 _ _ => guardS x17 false h28 (fun k31 => faddrS 1 x7 fun x32 => k31 x32 h28 [] []) fun x33 h34 _ _ => guardS x17 false h34 (fun k37 => load1 x33 h34 fun x38 r39 => k37 x38 h34 r39 []) fun x40 h41 _ _ => S17_136 h41 x17 x27 x40 x3 x7 n ih
noncomputable def S17 (ih : Handler) (n : Nat) (x0 : IV) (x1 : IV) (h2 : Hp) : Option (IV × Hp) :=
  boxS 17825792 x0 h2 fun x3 h4 _ _ => boxS 17825793 x1 h4 fun x7 h8 _ _ => faddrS 0 x3 fun x11 => load1 x11 h8 fun x12 _ => faddrS 0 x7 fun x14 => load1 x14 h8 fun x15 _ => S17_137 x12 x15 h8 x3 x7 n ih
theorem S17_ok (ih : Handler) (n : Nat) (x0 : IV) (x1 : IV) (h2 : Hp) : funS EE ih ft.get n 17 [x0, x1] h2 = S17 ih n x0 x1 h2 := by kernel_rfl
/-! thyrsus/stage.Plain -/
noncomputable def S18 (ih : Handler) (n : Nat) (x0 : IV) (h1 : Hp) : Option (IV × Hp) :=
  boxS 18874368 x0 h1 fun x2 h3 _ _ => bldS [.fv (.int .i64 0), .fv (.int .i64 0)] [(0, 1, .fv (.int .i64 20)), (1, 1, .fv (.int .i64 29))] fun x6 => loadA 3 x2 h3 fun x7 _ => isoS [] false false ih 42 [x6, x7] h3 fun x9 h10 _ _ => outS1 [x9] h10
theorem S18_ok (ih : Handler) (n : Nat) (x0 : IV) (h1 : Hp) : funS EE ih ft.get n 18 [x0] h1 = S18 ih n x0 h1 := by kernel_rfl
/-! thyrsus/thyrsusref11.Infer -/
noncomputable def S19_38 (h23 : Hp) (x7 : IV) (x27 : IV) (x18 : IV) : Option (IV × Hp) :=
  storeA 3 x7 x27 h23 fun h28 _ _ => cellS true 3 x7 h28 fun x31 => outS1 [x31, x18] h28
noncomputable def S19_39 (h23 : Hp) (x7 : IV) (x32 : IV) : Option (IV × Hp) :=
  storeA 3 x7 x32 h23 fun h34 _ _ => cellS true 3 x7 h34 fun x37 => outS1 [x37, .fv (.int .i64 0)] h34
noncomputable def S19_40 (h14 : Hp) (x17 : IV) (x18 : IV) (x7 : IV) : Option (IV × Hp) :=
  newS 19923974 (.row [.fv (.int .i64 0), .fv (.int .i64 0), .nils] false) (.ptr (.own 19923974) 0) h14 fun x19 h20 _ _ => storeA 3 x19 x17 h20 fun h23 _ _ => neS EE 3 x18 (.fv (.int .i64 0)) fun x26 => condS x26 (bldS [.fv (.int .i64 0), .fv (.int .i64 0), .nils] [] fun x27 => S19_38 h23 x7 x27 x18) (loadA 3 x19 h23 fun x32 _ => S19_39 h23 x7 x32)
noncomputable def S19 (ih : Handler) (n : Nat) (x0 : IV) (x1 : IV) (h2 : Hp) : Option (IV × Hp) :=
  boxS 19922944 x1 h2 fun x3 h4 _ _ => newS 19922945 (.row [.fv (.int .i64 0), .fv (.int .i64 0), .nils] false) (.ptr (.own 19922945) 0) h4 fun x7 h8 _ _ => loadA 3 x3 h8 fun x11 _ => isoS [] false false ih 43 [x0, x11] h8 fun x13 h14 _ _ => extS 0 x13 fun x17 => extS 1 x13 fun x18 => S19_40 h14 x17 x18 x7
theorem S19_ok (ih : Handler) (n : Nat) (x0 : IV) (x1 : IV) (h2 : Hp) : funS EE ih ft.get n 19 [x0, x1] h2 = S19 ih n x0 x1 h2 := by kernel_rfl
end Idl
end Go.Proofs.Ytkfecngimlcfoaa

/-
  THE SHALLOW FORM OF THE SEAT'S FUNCTIONS, a part; each is what its code's shallow run is. Printed by a program of mine (gen-sh). No statement is proved here.
-/
import Derived.Test.YtbkdidonegggdaaTab
import Derived.Test.YtbkdidonegggdaaIdl31
set_option maxRecDepth 100000
set_option linter.unusedVariables false
namespace Go.Proofs.Ytbkdidonegggdaa
namespace Idl
/-! Function 21. -/
noncomputable def S21_128 (x101 : IV) (q96 : List IV → Hp → Option (IV × Hp)) (h120 : Hp) (x99 : IV) (x100 : IV) : Option (IV × Hp) :=
  addS EE 3 x101 (.fv (.int .i64 1)) fun x124 => q96 [x99, x100, x124] h120
noncomputable def S21_129 (r118 : List Ref) (r112 : List Ref) (r109 : List Ref) (ih : Handler) (h98 : Hp) (x111 : IV) (x117 : IV) (x101 : IV) (q96 : List IV → Hp → Option (IV × Hp)) (x99 : IV) (x100 : IV) : Option (IV × Hp) :=
  chkS [(r112, []), (r109, [])] r118 [] (isoS [] false false ih 21 [x111, x117] h98 fun x119 h120 r121 w122 => chkS [] r121 w122 (optS (unR .not x119) fun x123 => condS x123 (outS1 [.fv (.bool false)] h120) (S21_128 x101 q96 h120 x99 x100)))
noncomputable def S21_130 (x100 : IV) (h98 : Hp) (r112 : List Ref) (r109 : List Ref) (x101 : IV) (ih : Handler) (x111 : IV) (q96 : List IV → Hp → Option (IV × Hp)) (x99 : IV) : Option (IV × Hp) :=
  faddrS 2 x100 fun x113 => load1 x113 h98 fun x114 r115 => chkS [(r112, []), (r109, [])] r115 [] (ixS 3 x114 x101 fun x116 => loadA 3 x116 h98 fun x117 r118 => S21_129 r118 r112 r109 ih h98 x111 x117 x101 q96 x99 x100)
noncomputable def S21_131 (h98 : Hp) (x107 : IV) (x101 : IV) (x100 : IV) (ih : Handler) (q96 : List IV → Hp → Option (IV × Hp)) (x99 : IV) : Option (IV × Hp) :=
  load1 x107 h98 fun x108 r109 => chkS [] r109 [] (ixS 3 x108 x101 fun x110 => loadA 3 x110 h98 fun x111 r112 => chkS [] r112 [] (S21_130 x100 h98 r112 r109 x101 ih x111 q96 x99))
noncomputable def S21_132 (x103 : IV) (x101 : IV) (x99 : IV) (h98 : Hp) (x100 : IV) (ih : Handler) (q96 : List IV → Hp → Option (IV × Hp)) : Option (IV × Hp) :=
  lenS x103 fun x105 => ltS EE 3 x101 x105 fun x106 => condS x106 (faddrS 2 x99 fun x107 => S21_131 h98 x107 x101 x100 ih q96 x99) (outS1 [.fv (.bool true)] h98)
noncomputable def S21_133 (l97 : List IV) (h98 : Hp) (ih : Handler) (q96 : List IV → Hp → Option (IV × Hp)) : Option (IV × Hp) :=
  uncS l97 fun x99 l125 => uncS l125 fun x100 l126 => uncS l126 fun x101 _ => faddrS 2 x99 fun x102 => load1 x102 h98 fun x103 _ => S21_132 x103 x101 x99 h98 x100 ih q96
noncomputable def S21_134 (x95 : IV) (h92 : Hp) (n : Nat) (x3 : IV) (x7 : IV) (ih : Handler) : Option (IV × Hp) :=
  condS x95 (outS1 [.fv (.bool false)] h92) (loopS n (fun q96 l97 h98 => S21_133 l97 h98 ih q96) [x3, x7, .fv (.int .i64 0)] h92)
noncomputable def S21_135 (h67 : Hp) (x50 : IV) (x7 : IV) (x66 : IV) (n : Nat) (x3 : IV) (ih : Handler) : Option (IV × Hp) :=
  guardS x50 false h67 (fun k70 => faddrS 2 x7 fun x71 => k70 x71 h67 [] []) fun x72 h73 _ _ => guardS x50 false h73 (fun k76 => load1 x72 h73 fun x77 r78 => k76 x77 h73 r78 []) fun x79 h80 _ _ => guardS x50 false h80 (fun k83 => lenS x79 fun x84 => k83 x84 h80 [] []) fun x85 h86 _ _ => guardS x50 false h86 (fun k89 => neS EE 3 x66 x85 fun x90 => k89 x90 h86 [] []) fun x91 h92 _ _ => pickS x50 (.fv (.bool true)) x91 fun x95 => S21_134 x95 h92 n x3 x7 ih
noncomputable def S21_136 (h41 : Hp) (x17 : IV) (x27 : IV) (x40 : IV) (x3 : IV) (x7 : IV) (n : Nat) (ih : Handler) : Option (IV × Hp) :=
  guardS x17 false h41 (fun k44 => neS EE 3 x27 x40 fun x45 => k44 x45 h41 [] []) fun x46 h47 _ _ => pickS x17 (.fv (.bool true)) x46 fun x50 => guardS x50 false h47 (fun k51 => faddrS 2 x3 fun x52 => k51 x52 h47 [] []) fun x53 h54 _ _ => guardS x50 false h54 (fun k57 => load1 x53 h54 fun x58 r59 => k57 x58 h54 r59 []) fun x60 h61 _ _ => guardS x50 false h61 (fun k64 => lenS x60 fun x65 => k64 x65 h61 [] []) fun x66 h67 _ _ => S21_135 h67 x50 x7 x66 n x3 ih
noncomputable def S21_137 (x12 : IV) (x15 : IV) (h8 : Hp) (x3 : IV) (x7 : IV) (n : Nat) (ih : Handler) : Option (IV × Hp) :=
  neS EE 3 x12 x15 fun x17 => guardS x17 false h8 (fun k18 => faddrS 1 x3 fun x19 => k18 x19 h8 [] []) fun x20 h21 _ _ => guardS x17 false h21 (fun k24 => load1 x20 h21 fun x25 r26 => k24 x25 h21 r26 []) fun x27 h28 _ _ => guardS x17 false h28 (fun k31 => faddrS 1 x7 fun x32 => k31 x32 h28 [] []) fun x33 h34 _ _ => guardS x17 false h34 (fun k37 => load1 x33 h34 fun x38 r39 => k37 x38 h34 r39 []) fun x40 h41 _ _ => S21_136 h41 x17 x27 x40 x3 x7 n ih
noncomputable def S21 (ih : Handler) (n : Nat) (x0 : IV) (x1 : IV) (h2 : Hp) : Option (IV × Hp) :=
  boxS 22020096 x0 h2 fun x3 h4 _ _ => boxS 22020097 x1 h4 fun x7 h8 _ _ => faddrS 0 x3 fun x11 => load1 x11 h8 fun x12 _ => faddrS 0 x7 fun x14 => load1 x14 h8 fun x15 _ => S21_137 x12 x15 h8 x3 x7 n ih
theorem S21_ok (ih : Handler) (n : Nat) (x0 : IV) (x1 : IV) (h2 : Hp) : funS EE ih ft.get n 21 [x0, x1] h2 = S21 ih n x0 x1 h2 := by kernel_rfl
/-! Function 22. -/
noncomputable def S22_21 (x17 : IV) (h14 : Hp) : Option (IV × Hp) :=
  faddrS 1 x17 fun x18 => load1 x18 h14 fun x19 _ => outS1 [x19] h14
noncomputable def S22 (ih : Handler) (n : Nat) (x0 : IV) (h1 : Hp) : Option (IV × Hp) :=
  boxS 23068672 x0 h1 fun x2 h3 _ _ => bldS [.fv (.int .i64 0), .fv (.int .i64 0)] [] fun x6 => boxS 23069697 x6 h3 fun x7 h8 _ _ => loadA 3 x2 h8 fun x11 _ => isoS [true, false, false] false false ih 54 [x7, x11, .fv (.int .i64 1)] h8 fun _ h14 _ _ => nilS x7 fun x17 => S22_21 x17 h14
theorem S22_ok (ih : Handler) (n : Nat) (x0 : IV) (h1 : Hp) : funS EE ih ft.get n 22 [x0] h1 = S22 ih n x0 h1 := by kernel_rfl
/-! Function 23. -/
noncomputable def S23_266 (x16 : IV) (q12 : List IV → Hp → Option (IV × Hp)) (h23 : Hp) (x15 : IV) : Option (IV × Hp) :=
  addS EE 3 x16 (.fv (.int .i64 1)) fun x27 => q12 [x15, x27] h23
noncomputable def S23_267 (x15 : IV) (x16 : IV) (h14 : Hp) (ih : Handler) (q12 : List IV → Hp → Option (IV × Hp)) : Option (IV × Hp) :=
  ixS 3 x15 x16 fun x19 => loadA 3 x19 h14 fun x20 _ => isoS [] false false ih 23 [x20] h14 fun x22 h23 _ _ => optS (unR .not x22) fun x26 => condS x26 (outS1 [.fv (.bool false)] h23) (S23_266 x16 q12 h23 x15)
noncomputable def S23_268 (l13 : List IV) (h14 : Hp) (ih : Handler) (q12 : List IV → Hp → Option (IV × Hp)) : Option (IV × Hp) :=
  uncS l13 fun x15 l28 => uncS l28 fun x16 _ => lenS x15 fun x17 => ltS EE 3 x16 x17 fun x18 => condS x18 (S23_267 x15 x16 h14 ih q12) (outS1 [.fv (.bool true)] h14)
noncomputable def S23_269 (x10 : IV) (h11 : Hp) (n : Nat) (x7 : IV) (ih : Handler) : Option (IV × Hp) :=
  condS x10 (outS1 [.fv (.bool false)] h11) (loopS n (fun q12 l13 h14 => S23_268 l13 h14 ih q12) [x7, .fv (.int .i64 0)] h11)
noncomputable def S23_270 (h237 : Hp) (x225 : IV) (x236 : IV) (x193 : IV) (j1_9 : IV → Hp → Option (IV × Hp)) : Option (IV × Hp) :=
  guardS x225 false h237 (fun k240 => faddrS 0 x236 fun x241 => k240 x241 h237 [] []) fun x242 h243 _ _ => guardS x225 false h243 (fun k246 => load1 x242 h243 fun x247 r248 => k246 x247 h243 r248 []) fun x249 h250 _ _ => guardS x225 false h250 (fun k253 => eqS EE 3 x249 (.fv (.int .i64 12)) fun x254 => k253 x254 h250 [] []) fun x255 h256 _ _ => guardS x193 true h256 (fun k259 => pickS x225 (.fv (.bool true)) x255 fun x260 => k259 x260 h256 [] []) fun x261 h262 _ _ => pickS x193 x261 (.fv (.bool false)) fun x265 => j1_9 x265 h262
noncomputable def S23_271 (h208 : Hp) (x193 : IV) (x207 : IV) (x7 : IV) (j1_9 : IV → Hp → Option (IV × Hp)) : Option (IV × Hp) :=
  guardS x193 true h208 (fun k211 => load1 x207 h208 fun x212 r213 => k211 x212 h208 r213 []) fun x214 h215 _ _ => guardS x193 true h215 (fun k218 => eqS EE 3 x214 (.fv (.int .i64 11)) fun x219 => k218 x219 h215 [] []) fun x220 h221 _ _ => guardS x193 true h221 (fun k224 => k224 x220 h221 [] []) fun x225 h226 _ _ => guardS x225 false h226 (fun k229 => k229 x7 h226 [] []) fun x230 h231 _ _ => guardS x225 false h231 (fun k234 => ixS 3 x230 (.fv (.int .i64 3)) fun x235 => k234 x235 h231 [] []) fun x236 h237 _ _ => S23_270 h237 x225 x236 x193 j1_9
noncomputable def S23_272 (h186 : Hp) (x190 : IV) (x7 : IV) (j1_9 : IV → Hp → Option (IV × Hp)) : Option (IV × Hp) :=
  load1 x190 h186 fun x191 _ => eqS EE 3 x191 (.fv (.int .i64 13)) fun x193 => guardS x193 true h186 (fun k194 => k194 x7 h186 [] []) fun x195 h196 _ _ => guardS x193 true h196 (fun k199 => ixS 3 x195 (.fv (.int .i64 3)) fun x200 => k199 x200 h196 [] []) fun x201 h202 _ _ => guardS x193 true h202 (fun k205 => faddrS 0 x201 fun x206 => k205 x206 h202 [] []) fun x207 h208 _ _ => S23_271 h208 x193 x207 x7 j1_9
noncomputable def S23_273 (h173 : Hp) (x158 : IV) (x172 : IV) (j1_9 : IV → Hp → Option (IV × Hp)) (x2 : IV) (x7 : IV) : Option (IV × Hp) :=
  guardS x158 true h173 (fun k176 => load1 x172 h173 fun x177 r178 => k176 x177 h173 r178 []) fun x179 h180 _ _ => guardS x158 true h180 (fun k183 => eqS EE 3 x179 (.fv (.int .i64 30)) fun x184 => k183 x184 h180 [] []) fun x185 h186 _ _ => pickS x158 x185 (.fv (.bool false)) fun x189 => condS x189 (j1_9 x189 h186) (faddrS 0 x2 fun x190 => S23_272 h186 x190 x7 j1_9)
noncomputable def S23_274 (h151 : Hp) (x155 : IV) (x7 : IV) (j1_9 : IV → Hp → Option (IV × Hp)) (x2 : IV) : Option (IV × Hp) :=
  load1 x155 h151 fun x156 _ => eqS EE 3 x156 (.fv (.int .i64 19)) fun x158 => guardS x158 true h151 (fun k159 => k159 x7 h151 [] []) fun x160 h161 _ _ => guardS x158 true h161 (fun k164 => ixS 3 x160 (.fv (.int .i64 0)) fun x165 => k164 x165 h161 [] []) fun x166 h167 _ _ => guardS x158 true h167 (fun k170 => faddrS 0 x166 fun x171 => k170 x171 h167 [] []) fun x172 h173 _ _ => S23_273 h173 x158 x172 j1_9 x2 x7
noncomputable def S23_275 (h138 : Hp) (x123 : IV) (x137 : IV) (j1_9 : IV → Hp → Option (IV × Hp)) (x2 : IV) (x7 : IV) : Option (IV × Hp) :=
  guardS x123 true h138 (fun k141 => load1 x137 h138 fun x142 r143 => k141 x142 h138 r143 []) fun x144 h145 _ _ => guardS x123 true h145 (fun k148 => eqS EE 3 x144 (.fv (.int .i64 19)) fun x149 => k148 x149 h145 [] []) fun x150 h151 _ _ => pickS x123 x150 (.fv (.bool false)) fun x154 => condS x154 (j1_9 x154 h151) (faddrS 0 x2 fun x155 => S23_274 h151 x155 x7 j1_9 x2)
noncomputable def S23_276 (h116 : Hp) (x120 : IV) (x7 : IV) (j1_9 : IV → Hp → Option (IV × Hp)) (x2 : IV) : Option (IV × Hp) :=
  load1 x120 h116 fun x121 _ => eqS EE 3 x121 (.fv (.int .i64 30)) fun x123 => guardS x123 true h116 (fun k124 => k124 x7 h116 [] []) fun x125 h126 _ _ => guardS x123 true h126 (fun k129 => ixS 3 x125 (.fv (.int .i64 0)) fun x130 => k129 x130 h126 [] []) fun x131 h132 _ _ => guardS x123 true h132 (fun k135 => faddrS 0 x131 fun x136 => k135 x136 h132 [] []) fun x137 h138 _ _ => S23_275 h138 x123 x137 j1_9 x2 x7
noncomputable def S23_277 (h110 : Hp) (x88 : IV) (x109 : IV) (j1_9 : IV → Hp → Option (IV × Hp)) (x2 : IV) (x7 : IV) : Option (IV × Hp) :=
  guardS x88 true h110 (fun k113 => eqS EE 3 x109 (.fv (.int .i64 7)) fun x114 => k113 x114 h110 [] []) fun x115 h116 _ _ => pickS x88 x115 (.fv (.bool false)) fun x119 => condS x119 (j1_9 x119 h116) (faddrS 0 x2 fun x120 => S23_276 h116 x120 x7 j1_9 x2)
noncomputable def S23_278 (x68 : IV) (x84 : IV) (h85 : Hp) (x7 : IV) (j1_9 : IV → Hp → Option (IV × Hp)) (x2 : IV) : Option (IV × Hp) :=
  pickS x68 (.fv (.bool true)) x84 fun x88 => guardS x88 true h85 (fun k89 => k89 x7 h85 [] []) fun x90 h91 _ _ => guardS x88 true h91 (fun k94 => ixS 3 x90 (.fv (.int .i64 0)) fun x95 => k94 x95 h91 [] []) fun x96 h97 _ _ => guardS x88 true h97 (fun k100 => faddrS 0 x96 fun x101 => k100 x101 h97 [] []) fun x102 h103 _ _ => guardS x88 true h103 (fun k106 => load1 x102 h103 fun x107 r108 => k106 x107 h103 r108 []) fun x109 h110 _ _ => S23_277 h110 x88 x109 j1_9 x2 x7
noncomputable def S23_279 (h61 : Hp) (x65 : IV) (x2 : IV) (x7 : IV) (j1_9 : IV → Hp → Option (IV × Hp)) : Option (IV × Hp) :=
  load1 x65 h61 fun x66 _ => eqS EE 3 x66 (.fv (.int .i64 8)) fun x68 => guardS x68 false h61 (fun k69 => faddrS 0 x2 fun x70 => k69 x70 h61 [] []) fun x71 h72 _ _ => guardS x68 false h72 (fun k75 => load1 x71 h72 fun x76 r77 => k75 x76 h72 r77 []) fun x78 h79 _ _ => guardS x68 false h79 (fun k82 => eqS EE 3 x78 (.fv (.int .i64 9)) fun x83 => k82 x83 h79 [] []) fun x84 h85 _ _ => S23_278 x68 x84 h85 x7 j1_9 x2
noncomputable def S23_280 (h55 : Hp) (x33 : IV) (x54 : IV) (j1_9 : IV → Hp → Option (IV × Hp)) (x2 : IV) (x7 : IV) : Option (IV × Hp) :=
  guardS x33 true h55 (fun k58 => eqS EE 3 x54 (.fv (.int .i64 4)) fun x59 => k58 x59 h55 [] []) fun x60 h61 _ _ => pickS x33 x60 (.fv (.bool false)) fun x64 => condS x64 (j1_9 x64 h61) (faddrS 0 x2 fun x65 => S23_279 h61 x65 x2 x7 j1_9)
noncomputable def S23_281 (x31 : IV) (h3 : Hp) (x7 : IV) (j1_9 : IV → Hp → Option (IV × Hp)) (x2 : IV) : Option (IV × Hp) :=
  eqS EE 3 x31 (.fv (.int .i64 5)) fun x33 => guardS x33 true h3 (fun k34 => k34 x7 h3 [] []) fun x35 h36 _ _ => guardS x33 true h36 (fun k39 => ixS 3 x35 (.fv (.int .i64 0)) fun x40 => k39 x40 h36 [] []) fun x41 h42 _ _ => guardS x33 true h42 (fun k45 => faddrS 0 x41 fun x46 => k45 x46 h42 [] []) fun x47 h48 _ _ => guardS x33 true h48 (fun k51 => load1 x47 h48 fun x52 r53 => k51 x52 h48 r53 []) fun x54 h55 _ _ => S23_280 h55 x33 x54 j1_9 x2 x7
noncomputable def S23 (ih : Handler) (n : Nat) (x0 : IV) (h1 : Hp) : Option (IV × Hp) :=
  boxS 24117248 x0 h1 fun x2 h3 _ _ => faddrS 2 x2 fun x6 => load1 x6 h3 fun x7 _ => (fun (j1_9 : IV → Hp → Option (IV × Hp)) => faddrS 0 x2 fun x30 => load1 x30 h3 fun x31 _ => S23_281 x31 h3 x7 j1_9 x2) fun x10 h11 => S23_269 x10 h11 n x7 ih
theorem S23_ok (ih : Handler) (n : Nat) (x0 : IV) (h1 : Hp) : funS EE ih ft.get n 23 [x0] h1 = S23 ih n x0 h1 := by kernel_rfl
/-! Function 24. -/
noncomputable def S24_80 (x7 : IV) (h1 : Hp) (h24 : Hp) (x5 : IV) (x23 : IV) (q2 : List IV → Hp → Option (IV × Hp)) : Option (IV × Hp) :=
  addS EE 3 x7 (.fv (.int .i64 1)) fun x25 => dropS (h1.own.map (·.1)) [25171978] [x5, x23, x25] h24 fun h26 => q2 [x5, x23, x25] h26
noncomputable def S24_81 (ih : Handler) (h53 : Hp) (x6 : IV) (x59 : IV) (j1_56 : IV → Hp → Option (IV × Hp)) : Option (IV × Hp) :=
  isoS [] false false ih 29 [x6, .fv (.int .i64 0), x59] h53 fun x61 h62 _ _ => j1_56 x61 h62
noncomputable def S24_82 (r54 : List Ref) (w55 : List Ref) (j1_22 : IV → Hp → Option (IV × Hp)) (x48 : IV) (h53 : Hp) (x49 : IV) (ih : Handler) (x6 : IV) : Option (IV × Hp) :=
  chkS [] r54 w55 ((fun (j1_56 : IV → Hp → Option (IV × Hp)) => condS x48 (loadA 3 x49 h53 fun x59 _ => S24_81 ih h53 x6 x59 j1_56) (j1_56 x6 h53)) fun x57 h58 => j1_22 x57 h58)
noncomputable def S24_83 (x43 : IV) (h44 : Hp) (r45 : List Ref) (w46 : List Ref) (r42 : List Ref) (r38 : List Ref) (w39 : List Ref) (j1_22 : IV → Hp → Option (IV × Hp)) (ih : Handler) (x6 : IV) : Option (IV × Hp) :=
  extS 0 x43 fun x47 => extS 1 x43 fun x48 => newS 25171978 (.row [.fv (.int .i64 0), .fv (.int .i64 0), .nils] false) (.ptr (.own 25171978) 0) h44 fun x49 h50 r51 w52 => chkS [(r45, w46), (r42, []), (r38, w39)] r51 w52 (storeA 3 x49 x47 h50 fun h53 r54 w55 => S24_82 r54 w55 j1_22 x48 h53 x49 ih x6)
noncomputable def S24_84 (x5 : IV) (x7 : IV) (h37 : Hp) (r38 : List Ref) (w39 : List Ref) (ih : Handler) (x6 : IV) (x36 : IV) (j1_22 : IV → Hp → Option (IV × Hp)) : Option (IV × Hp) :=
  ixS 3 x5 x7 fun x40 => loadA 3 x40 h37 fun x41 r42 => chkS [(r38, w39)] r42 [] (isoS [] false false ih 26 [x6, x36, x41, .fv (.int .i64 2)] h37 fun x43 h44 r45 w46 => chkS [] r45 w46 (S24_83 x43 h44 r45 w46 r42 r38 w39 j1_22 ih x6))
noncomputable def S24_85 (ih : Handler) (h32 : Hp) (x6 : IV) (x66 : IV) (j1_22 : IV → Hp → Option (IV × Hp)) : Option (IV × Hp) :=
  isoS [] false false ih 25 [x6, x66, .fv (.int .i64 2)] h32 fun x68 h69 _ _ => isoS [] false false ih 29 [x6, .fv (.int .i64 1), x68] h69 fun x72 h73 _ _ => j1_22 x72 h73
noncomputable def S24_86 (x35 : IV) (ih : Handler) (h32 : Hp) (x5 : IV) (x7 : IV) (x6 : IV) (j1_22 : IV → Hp → Option (IV × Hp)) : Option (IV × Hp) :=
  condS x35 (isoS [] false false ih 27 [.fv (.int .i64 14), .nils] h32 fun x36 h37 r38 w39 => chkS [] r38 w39 (S24_84 x5 x7 h37 r38 w39 ih x6 x36 j1_22)) (ixS 3 x5 x7 fun x65 => loadA 3 x65 h32 fun x66 _ => S24_85 ih h32 x6 x66 j1_22)
noncomputable def S24_87 (x5 : IV) (x7 : IV) (h18 : Hp) (ih : Handler) (x6 : IV) (j1_22 : IV → Hp → Option (IV × Hp)) : Option (IV × Hp) :=
  ixS 3 x5 x7 fun x27 => faddrS 1 x27 fun x28 => load1 x28 h18 fun x29 _ => isoS [] false false ih 55 [x29, .fv (.int .i64 3)] h18 fun x31 h32 _ _ => eqS EE 3 x31 (.fv (.int .i64 0)) fun x35 => S24_86 x35 ih h32 x5 x7 x6 j1_22
noncomputable def S24_88 (h4 : Hp) (x9 : IV) (x7 : IV) (h1 : Hp) (x5 : IV) (q2 : List IV → Hp → Option (IV × Hp)) (ih : Handler) (x6 : IV) : Option (IV × Hp) :=
  guardS x9 true h4 (fun k10 => k10 x7 h4 [] []) fun x11 h12 _ _ => guardS x9 true h12 (fun k15 => ltS EE 3 x11 (.fv (.int .i64 4)) fun x16 => k15 x16 h12 [] []) fun x17 h18 _ _ => pickS x9 x17 (.fv (.bool false)) fun x21 => condS x21 ((fun (j1_22 : IV → Hp → Option (IV × Hp)) => S24_87 x5 x7 h18 ih x6 j1_22) fun x23 h24 => S24_80 x7 h1 h24 x5 x23 q2) (outS1 [x6] h18)
noncomputable def S24_89 (l3 : List IV) (h4 : Hp) (h1 : Hp) (q2 : List IV → Hp → Option (IV × Hp)) (ih : Handler) : Option (IV × Hp) :=
  uncS l3 fun x5 l76 => uncS l76 fun x6 l77 => uncS l77 fun x7 _ => lenS x5 fun x8 => ltS EE 3 x7 x8 fun x9 => S24_88 h4 x9 x7 h1 x5 q2 ih x6
noncomputable def S24 (ih : Handler) (n : Nat) (x0 : IV) (h1 : Hp) : Option (IV × Hp) :=
  dropS (h1.own.map (·.1)) [25171978] [x0, .nils, .fv (.int .i64 0)] h1 fun h79 => loopS n (fun q2 l3 h4 => S24_89 l3 h4 h1 q2 ih) [x0, .nils, .fv (.int .i64 0)] h79
theorem S24_ok (ih : Handler) (n : Nat) (x0 : IV) (h1 : Hp) : funS EE ih ft.get n 24 [x0] h1 = S24 ih n x0 h1 := by kernel_rfl
/-! Function 25. -/
noncomputable def S25_237 (h29 : Hp) (x8 : IV) : Option (IV × Hp) :=
  cellS true 3 x8 h29 fun x32 => outS1 [x32] h29
noncomputable def S25_238 (ih : Handler) (h24 : Hp) (x8 : IV) : Option (IV × Hp) :=
  isoS [] false false ih 27 [.fv (.int .i64 14), .nils] h24 fun x34 h35 _ _ => storeA 3 x8 x34 h35 fun h38 _ _ => cellS true 3 x8 h38 fun x41 => outS1 [x41] h38
noncomputable def S25_239 (h46 : Hp) (x45 : IV) (ih : Handler) (x8 : IV) : Option (IV × Hp) :=
  genS (pcBuildSlice EE 29 1 [(0, x45)]) 26225666 h46 fun x49 h50 _ _ => isoS [] false false ih 27 [.fv (.int .i64 18), x49] h50 fun x53 h54 _ _ => storeA 3 x8 x53 h54 fun h57 _ _ => cellS true 3 x8 h57 fun x60 => outS1 [x60] h57
noncomputable def S25_240 (ih : Handler) (h24 : Hp) (x8 : IV) : Option (IV × Hp) :=
  isoS [] false false ih 57 [.fv (.int .i64 0)] h24 fun x62 h63 _ _ => storeA 3 x8 x62 h63 fun h66 _ _ => cellS true 3 x8 h66 fun x69 => outS1 [x69] h66
noncomputable def S25_241 (r116 : List Ref) (w117 : List Ref) (h115 : Hp) (x8 : IV) (x114 : IV) : Option (IV × Hp) :=
  chkS [] r116 w117 (storeA 3 x8 x114 h115 fun h118 r119 w120 => chkS [] r119 w120 (cellS true 3 x8 h118 fun x121 => outS1 [x121] h118))
noncomputable def S25_242 (ih : Handler) (h102 : Hp) (x95 : IV) (x101 : IV) (x105 : IV) (r92 : List Ref) (x91 : IV) (x8 : IV) : Option (IV × Hp) :=
  isoS [] false false ih 25 [x95, x101, x105] h102 fun x106 h107 r108 w109 => chkS [(r92, [])] r108 w109 (genS (pcBuildSlice EE 29 2 [(0, x91), (1, x106)]) 26231817 h107 fun x110 h111 r112 w113 => chkS [] r112 w113 (isoS [] false false ih 27 [.fv (.int .i64 3), x110] h111 fun x114 h115 r116 w117 => S25_241 r116 w117 h115 x8 x114))
noncomputable def S25_243 (h96 : Hp) (x4 : IV) (r97 : List Ref) (w98 : List Ref) (r94 : List Ref) (r92 : List Ref) (ih : Handler) (x2 : IV) (x95 : IV) (x91 : IV) (x8 : IV) : Option (IV × Hp) :=
  loadA 3 x4 h96 fun x99 r100 => chkS [(r97, w98), (r94, []), (r92, [])] r100 [] (isoS [] false false ih 58 [x99, .fv (.int .i64 1)] h96 fun x101 h102 r103 w104 => chkS [(r92, [])] r103 w104 (subS EE 3 x2 (.fv (.int .i64 1)) fun x105 => S25_242 ih h102 x95 x101 x105 r92 x91 x8))
noncomputable def S25_244 (r92 : List Ref) (h88 : Hp) (x84 : IV) (ih : Handler) (x0 : IV) (x4 : IV) (x2 : IV) (x91 : IV) (x8 : IV) : Option (IV × Hp) :=
  chkS [] r92 [] (loadA 3 x84 h88 fun x93 r94 => chkS [(r92, [])] r94 [] (isoS [] false false ih 29 [x0, .fv (.int .i64 1), x93] h88 fun x95 h96 r97 w98 => chkS [(r92, [])] r97 w98 (S25_243 h96 x4 r97 w98 r94 r92 ih x2 x95 x91 x8)))
noncomputable def S25_245 (x2 : IV) (ih : Handler) (h76 : Hp) (x0 : IV) (x75 : IV) (x4 : IV) (x8 : IV) : Option (IV × Hp) :=
  subS EE 3 x2 (.fv (.int .i64 1)) fun x79 => isoS [] false false ih 25 [x0, x75, x79] h76 fun x80 h81 _ _ => newS 26230790 (.row [.fv (.int .i64 0), .fv (.int .i64 0), .nils] false) (.ptr (.own 26230790) 0) h81 fun x84 h85 _ _ => storeA 3 x84 x80 h85 fun h88 _ _ => loadA 3 x84 h88 fun x91 r92 => S25_244 r92 h88 x84 ih x0 x4 x2 x91 x8
noncomputable def S25_246 (h168 : Hp) (x8 : IV) : Option (IV × Hp) :=
  cellS true 3 x8 h168 fun x171 => outS1 [x171] h168
noncomputable def S25_247 (r162 : List Ref) (w163 : List Ref) (ih : Handler) (h161 : Hp) (x160 : IV) (x8 : IV) : Option (IV × Hp) :=
  chkS [] r162 w163 (isoS [] false false ih 27 [.fv (.int .i64 6), x160] h161 fun x164 h165 r166 w167 => chkS [] r166 w167 (storeA 3 x8 x164 h165 fun h168 r169 w170 => chkS [] r169 w170 (S25_246 h168 x8)))
noncomputable def S25_248 (r153 : List Ref) (w154 : List Ref) (r142 : List Ref) (x2 : IV) (ih : Handler) (h152 : Hp) (x145 : IV) (x151 : IV) (x141 : IV) (x8 : IV) : Option (IV × Hp) :=
  chkS [(r142, [])] r153 w154 (subS EE 3 x2 (.fv (.int .i64 1)) fun x155 => isoS [] false false ih 25 [x145, x151, x155] h152 fun x156 h157 r158 w159 => chkS [(r142, [])] r158 w159 (genS (pcBuildSlice EE 29 2 [(0, x141), (1, x156)]) 26234889 h157 fun x160 h161 r162 w163 => S25_247 r162 w163 ih h161 x160 x8))
noncomputable def S25_249 (ih : Handler) (h138 : Hp) (x0 : IV) (x143 : IV) (r142 : List Ref) (x4 : IV) (r144 : List Ref) (x2 : IV) (x141 : IV) (x8 : IV) : Option (IV × Hp) :=
  isoS [] false false ih 29 [x0, .fv (.int .i64 1), x143] h138 fun x145 h146 r147 w148 => chkS [(r142, [])] r147 w148 (loadA 3 x4 h146 fun x149 r150 => chkS [(r147, w148), (r144, []), (r142, [])] r150 [] (isoS [] false false ih 58 [x149, .fv (.int .i64 1)] h146 fun x151 h152 r153 w154 => S25_248 r153 w154 r142 x2 ih h152 x145 x151 x141 x8))
noncomputable def S25_250 (h135 : Hp) (x134 : IV) (x130 : IV) (ih : Handler) (x0 : IV) (x4 : IV) (x2 : IV) (x8 : IV) : Option (IV × Hp) :=
  storeA 3 x134 x130 h135 fun h138 _ _ => loadA 3 x134 h138 fun x141 r142 => chkS [] r142 [] (loadA 3 x134 h138 fun x143 r144 => chkS [(r142, [])] r144 [] (S25_249 ih h138 x0 x143 r142 x4 r144 x2 x141 x8))
noncomputable def S25_251 (h72 : Hp) (x4 : IV) (ih : Handler) (x2 : IV) (x0 : IV) (x8 : IV) : Option (IV × Hp) :=
  loadA 3 x4 h72 fun x123 _ => isoS [] false false ih 58 [x123, .fv (.int .i64 0)] h72 fun x125 h126 _ _ => subS EE 3 x2 (.fv (.int .i64 1)) fun x129 => isoS [] false false ih 25 [x0, x125, x129] h126 fun x130 h131 _ _ => newS 26233862 (.row [.fv (.int .i64 0), .fv (.int .i64 0), .nils] false) (.ptr (.own 26233862) 0) h131 fun x134 h135 _ _ => S25_250 h135 x134 x130 ih x0 x4 x2 x8
noncomputable def S25_252 (h201 : Hp) (x8 : IV) : Option (IV × Hp) :=
  cellS true 3 x8 h201 fun x204 => outS1 [x204] h201
noncomputable def S25_253 (ih : Handler) (h208 : Hp) (x207 : IV) (x8 : IV) : Option (IV × Hp) :=
  isoS [] false false ih 27 [.fv (.int .i64 18), x207] h208 fun x211 h212 _ _ => storeA 3 x8 x211 h212 fun h215 _ _ => cellS true 3 x8 h215 fun x218 => outS1 [x218] h215
noncomputable def S25_254 (x188 : IV) (ih : Handler) (h193 : Hp) (x8 : IV) (x189 : IV) : Option (IV × Hp) :=
  optS (unR .not x188) fun x196 => condS x196 (isoS [] false false ih 56 [] h193 fun x197 h198 _ _ => storeA 3 x8 x197 h198 fun h201 _ _ => S25_252 h201 x8) (loadA 3 x189 h193 fun x205 _ => genS (pcBuildSlice EE 29 1 [(0, x205)]) 26238977 h193 fun x207 h208 _ _ => S25_253 ih h208 x207 x8)
noncomputable def S25_255 (x183 : IV) (h184 : Hp) (r185 : List Ref) (w186 : List Ref) (r180 : List Ref) (w181 : List Ref) (r177 : List Ref) (r174 : List Ref) (w175 : List Ref) (x187 : IV) (ih : Handler) (x8 : IV) : Option (IV × Hp) :=
  extS 1 x183 fun x188 => newS 26235914 (.row [.fv (.int .i64 0), .fv (.int .i64 0), .nils] false) (.ptr (.own 26235914) 0) h184 fun x189 h190 r191 w192 => chkS [(r185, w186), (r180, w181), (r177, []), (r174, w175)] r191 w192 (storeA 3 x189 x187 h190 fun h193 r194 w195 => chkS [] r194 w195 (S25_254 x188 ih h193 x8 x189))
noncomputable def S25_256 (r180 : List Ref) (w181 : List Ref) (x2 : IV) (ih : Handler) (h179 : Hp) (x0 : IV) (x172 : IV) (x178 : IV) (r177 : List Ref) (r174 : List Ref) (w175 : List Ref) (x8 : IV) : Option (IV × Hp) :=
  chkS [] r180 w181 (subS EE 3 x2 (.fv (.int .i64 1)) fun x182 => isoS [] false false ih 26 [x0, x172, x178, x182] h179 fun x183 h184 r185 w186 => chkS [] r185 w186 (extS 0 x183 fun x187 => S25_255 x183 h184 r185 w186 r180 w181 r177 r174 w175 x187 ih x8))
noncomputable def S25_257 (ih : Handler) (h72 : Hp) (x4 : IV) (x2 : IV) (x0 : IV) (x8 : IV) : Option (IV × Hp) :=
  isoS [] false false ih 27 [.fv (.int .i64 14), .nils] h72 fun x172 h173 r174 w175 => chkS [] r174 w175 (loadA 3 x4 h173 fun x176 r177 => chkS [(r174, w175)] r177 [] (isoS [] false false ih 58 [x176, .fv (.int .i64 0)] h173 fun x178 h179 r180 w181 => S25_256 r180 w181 x2 ih h179 x0 x172 x178 r177 r174 w175 x8))
noncomputable def S25_258 (x71 : IV) (h72 : Hp) (x4 : IV) (ih : Handler) (x2 : IV) (x0 : IV) (x8 : IV) (x20 : IV) : Option (IV × Hp) :=
  condS x71 (loadA 3 x4 h72 fun x73 _ => isoS [] false false ih 58 [x73, .fv (.int .i64 0)] h72 fun x75 h76 _ _ => S25_245 x2 ih h76 x0 x75 x4 x8) (eqS EE 3 x20 (.fv (.int .i64 7)) fun x122 => condS x122 (S25_251 h72 x4 ih x2 x0 x8) (S25_257 ih h72 x4 x2 x0 x8))
noncomputable def S25_259 (x4 : IV) (ih : Handler) (x2 : IV) (x0 : IV) (x8 : IV) (x20 : IV) (h24 : Hp) : Option (IV × Hp) :=
  (fun (j1_70 : IV → Hp → Option (IV × Hp)) => eqS EE 3 x20 (.fv (.int .i64 5)) fun x219 => condS x219 (j1_70 x219 h24) (eqS EE 3 x20 (.fv (.int .i64 6)) fun x220 => j1_70 x220 h24)) fun x71 h72 => S25_258 x71 h72 x4 ih x2 x0 x8 x20
noncomputable def S25_260 (x20 : IV) (h24 : Hp) (x4 : IV) (ih : Handler) (x8 : IV) (x2 : IV) (x0 : IV) : Option (IV × Hp) :=
  eqS EE 3 x20 (.fv (.int .i64 3)) fun x42 => condS x42 (loadA 3 x4 h24 fun x43 _ => isoS [] false false ih 33 [x43, .fv (.int .i64 1)] h24 fun x45 h46 _ _ => S25_239 h46 x45 ih x8) (eqS EE 3 x20 (.fv (.int .i64 4)) fun x61 => condS x61 (S25_240 ih h24 x8) (S25_259 x4 ih x2 x0 x8 x20 h24))
noncomputable def S25_261 (x23 : IV) (ih : Handler) (h24 : Hp) (x8 : IV) (x20 : IV) (x4 : IV) (x2 : IV) (x0 : IV) : Option (IV × Hp) :=
  condS x23 (isoS [] false false ih 56 [] h24 fun x25 h26 _ _ => storeA 3 x8 x25 h26 fun h29 _ _ => S25_237 h29 x8) (eqS EE 3 x20 (.fv (.int .i64 2)) fun x33 => condS x33 (S25_238 ih h24 x8) (S25_260 x20 h24 x4 ih x8 x2 x0))
noncomputable def S25_262 (ih : Handler) (x8 : IV) (x20 : IV) (x4 : IV) (x2 : IV) (x0 : IV) (h21 : Hp) : Option (IV × Hp) :=
  (fun (j1_22 : IV → Hp → Option (IV × Hp)) => eqS EE 3 x20 (.fv (.int .i64 0)) fun x221 => condS x221 (j1_22 x221 h21) (eqS EE 3 x20 (.fv (.int .i64 1)) fun x222 => j1_22 x222 h21)) fun x23 h24 => S25_261 x23 ih h24 x8 x20 x4 x2 x0
noncomputable def S25_263 (x15 : IV) (j1_19 : IV → Hp → Option (IV × Hp)) (h232 : Hp) : Option (IV × Hp) :=
  binS EE 3 .rem x15 (.fv (.int .i64 5)) fun x236 => j1_19 x236 h232
noncomputable def S25_264 (x2 : IV) (h16 : Hp) (x15 : IV) (j1_19 : IV → Hp → Option (IV × Hp)) : Option (IV × Hp) :=
  leS EE 3 x2 (.fv (.int .i64 0)) fun x223 => guardS x223 true h16 (fun k224 => k224 x15 h16 [] []) fun x225 h226 _ _ => guardS x223 true h226 (fun k229 => gtS EE 3 x225 (.fv (.int .i64 4)) fun x230 => k229 x230 h226 [] []) fun x231 h232 _ _ => pickS x223 x231 (.fv (.bool false)) fun x235 => condS x235 (S25_263 x15 j1_19 h232) (j1_19 x15 h232)
noncomputable def S25 (ih : Handler) (n : Nat) (x0 : IV) (x1 : IV) (x2 : IV) (h3 : Hp) : Option (IV × Hp) :=
  boxS 26214400 x1 h3 fun x4 h5 _ _ => newS 26214401 (.row [.fv (.int .i64 0), .fv (.int .i64 0), .nils] false) (.ptr (.own 26214401) 0) h5 fun x8 h9 _ _ => faddrS 0 x4 fun x12 => load1 x12 h9 fun x13 _ => isoS [] false false ih 55 [x13, .fv (.int .i64 9)] h9 fun x15 h16 _ _ => (fun (j1_19 : IV → Hp → Option (IV × Hp)) => S25_264 x2 h16 x15 j1_19) fun x20 h21 => S25_262 ih x8 x20 x4 x2 x0 h21
theorem S25_ok (ih : Handler) (n : Nat) (x0 : IV) (x1 : IV) (x2 : IV) (h3 : Hp) : funS EE ih ft.get n 25 [x0, x1, x2] h3 = S25 ih n x0 x1 x2 h3 := by kernel_rfl
/-! Function 26. -/
noncomputable def S26_346 (h25 : Hp) (x13 : IV) (x29 : IV) : Option (IV × Hp) :=
  storeA 3 x13 x29 h25 fun h30 _ _ => cellS true 3 x13 h30 fun x33 => outS1 [x33, .fv (.bool false)] h30
noncomputable def S26_347 (h91 : Hp) (x13 : IV) (x44 : IV) : Option (IV × Hp) :=
  cellS true 3 x13 h91 fun x94 => outS1 [x94, x44] h91
noncomputable def S26_348 (h126 : Hp) (x13 : IV) (x129 : IV) (x130 : IV) : Option (IV × Hp) :=
  storeA 3 x13 x129 h126 fun h131 _ _ => cellS true 3 x13 h131 fun x134 => outS1 [x134, x130] h131
noncomputable def S26_349 (h117 : Hp) (x5 : IV) (x9 : IV) (ih : Handler) (x0 : IV) (x3 : IV) (x13 : IV) : Option (IV × Hp) :=
  loadA 3 x5 h117 fun x121 _ => loadA 3 x9 h117 fun x123 _ => isoS [] false false ih 60 [x0, x121, x123, x3] h117 fun x125 h126 _ _ => extS 0 x125 fun x129 => extS 1 x125 fun x130 => S26_348 h126 x13 x129 x130
noncomputable def S26_350 (ih : Handler) (h140 : Hp) (x0 : IV) (x141 : IV) (x143 : IV) (x3 : IV) (x13 : IV) : Option (IV × Hp) :=
  isoS [] false false ih 61 [x0, x141, x143, x3] h140 fun x145 h146 _ _ => extS 0 x145 fun x149 => extS 1 x145 fun x150 => storeA 3 x13 x149 h146 fun h151 _ _ => cellS true 3 x13 h151 fun x154 => outS1 [x154, x150] h151
noncomputable def S26_351 (r209 : List Ref) (w210 : List Ref) (h208 : Hp) (x13 : IV) (x184 : IV) : Option (IV × Hp) :=
  chkS [] r209 w210 (cellS true 3 x13 h208 fun x211 => outS1 [x211, x184] h208)
noncomputable def S26_352 (h189 : Hp) (x196 : IV) (x198 : IV) (ih : Handler) (x13 : IV) (x184 : IV) : Option (IV × Hp) :=
  genS (pcBuildSlice EE 29 2 [(0, x196), (1, x198)]) 27279365 h189 fun x200 h201 r202 w203 => chkS [] r202 w203 (isoS [] false false ih 27 [.fv (.int .i64 4), x200] h201 fun x204 h205 r206 w207 => chkS [] r206 w207 (storeA 3 x13 x204 h205 fun h208 r209 w210 => S26_351 r209 w210 h208 x13 x184))
noncomputable def S26_353 (x193 : IV) (h189 : Hp) (x185 : IV) (r194 : List Ref) (ih : Handler) (x13 : IV) (x184 : IV) : Option (IV × Hp) :=
  ixS 3 x193 (.fv (.int .i64 0)) fun x195 => loadA 3 x195 h189 fun x196 r197 => chkS [] r197 [] (loadA 3 x185 h189 fun x198 r199 => chkS [(r197, []), (r194, [])] r199 [] (S26_352 h189 x196 x198 ih x13 x184))
noncomputable def S26_354 (h186 : Hp) (x185 : IV) (x183 : IV) (x5 : IV) (ih : Handler) (x13 : IV) (x184 : IV) : Option (IV × Hp) :=
  storeA 3 x185 x183 h186 fun h189 r190 w191 => chkS [] r190 w191 (faddrS 2 x5 fun x192 => load1 x192 h189 fun x193 r194 => chkS [] r194 [] (S26_353 x193 h189 x185 r194 ih x13 x184))
noncomputable def S26_355 (r181 : List Ref) (w182 : List Ref) (x179 : IV) (h180 : Hp) (r176 : List Ref) (w177 : List Ref) (r173 : List Ref) (r171 : List Ref) (r168 : List Ref) (r164 : List Ref) (w165 : List Ref) (r161 : List Ref) (r158 : List Ref) (x5 : IV) (ih : Handler) (x13 : IV) : Option (IV × Hp) :=
  chkS [] r181 w182 (extS 0 x179 fun x183 => extS 1 x179 fun x184 => newS 27278354 (.row [.fv (.int .i64 0), .fv (.int .i64 0), .nils] false) (.ptr (.own 27278354) 0) h180 fun x185 h186 r187 w188 => chkS [(r181, w182), (r176, w177), (r173, []), (r171, []), (r168, []), (r164, w165), (r161, []), (r158, [])] r187 w188 (S26_354 h186 x185 x183 x5 ih x13 x184))
noncomputable def S26_356 (r173 : List Ref) (r171 : List Ref) (r168 : List Ref) (r164 : List Ref) (w165 : List Ref) (r161 : List Ref) (r158 : List Ref) (ih : Handler) (h163 : Hp) (x172 : IV) (x3 : IV) (x162 : IV) (x170 : IV) (x5 : IV) (x13 : IV) : Option (IV × Hp) :=
  chkS [(r171, []), (r168, []), (r164, w165), (r161, []), (r158, [])] r173 [] (isoS [] false false ih 58 [x172, .fv (.int .i64 0)] h163 fun x174 h175 r176 w177 => chkS [(r171, []), (r168, [])] r176 w177 (subS EE 3 x3 (.fv (.int .i64 1)) fun x178 => isoS [] false false ih 26 [x162, x170, x174, x178] h175 fun x179 h180 r181 w182 => S26_355 r181 w182 x179 h180 r176 w177 r173 r171 r168 r164 w165 r161 r158 x5 ih x13))
noncomputable def S26_357 (r168 : List Ref) (r164 : List Ref) (w165 : List Ref) (r161 : List Ref) (r158 : List Ref) (x167 : IV) (h163 : Hp) (x9 : IV) (ih : Handler) (x3 : IV) (x162 : IV) (x5 : IV) (x13 : IV) : Option (IV × Hp) :=
  chkS [(r164, w165), (r161, []), (r158, [])] r168 [] (ixS 3 x167 (.fv (.int .i64 1)) fun x169 => loadA 3 x169 h163 fun x170 r171 => chkS [(r164, w165), (r161, []), (r158, [])] r171 [] (loadA 3 x9 h163 fun x172 r173 => S26_356 r173 r171 r168 r164 w165 r161 r158 ih h163 x172 x3 x162 x170 x5 x13))
noncomputable def S26_358 (r161 : List Ref) (ih : Handler) (h140 : Hp) (x0 : IV) (x160 : IV) (x5 : IV) (r158 : List Ref) (x9 : IV) (x3 : IV) (x13 : IV) : Option (IV × Hp) :=
  chkS [] r161 [] (isoS [] false false ih 29 [x0, .fv (.int .i64 1), x160] h140 fun x162 h163 r164 w165 => chkS [] r164 w165 (faddrS 2 x5 fun x166 => load1 x166 h163 fun x167 r168 => S26_357 r168 r164 w165 r161 r158 x167 h163 x9 ih x3 x162 x5 x13))
noncomputable def S26_359 (x5 : IV) (h140 : Hp) (ih : Handler) (x0 : IV) (x9 : IV) (x3 : IV) (x13 : IV) : Option (IV × Hp) :=
  faddrS 2 x5 fun x156 => load1 x156 h140 fun x157 r158 => chkS [] r158 [] (ixS 3 x157 (.fv (.int .i64 0)) fun x159 => loadA 3 x159 h140 fun x160 r161 => S26_358 r161 ih h140 x0 x160 x5 r158 x9 x3 x13)
noncomputable def S26_360 (h236 : Hp) (x13 : IV) (x240 : IV) (x44 : IV) : Option (IV × Hp) :=
  storeA 3 x13 x240 h236 fun h242 _ _ => cellS true 3 x13 h242 fun x245 => outS1 [x245, x44] h242
noncomputable def S26_361 (h275 : Hp) (x278 : IV) (x280 : IV) (x282 : IV) (ih : Handler) (x13 : IV) (x270 : IV) : Option (IV × Hp) :=
  genS (pcBuildSlice EE 29 3 [(0, x278), (1, x280), (2, x282)]) 27285507 h275 fun x284 h285 _ _ => isoS [] false false ih 27 [.fv (.int .i64 7), x284] h285 fun x288 h289 _ _ => storeA 3 x13 x288 h289 fun h292 _ _ => cellS true 3 x13 h292 fun x295 => outS1 [x295, x270] h292
noncomputable def S26_362 (h272 : Hp) (x271 : IV) (x269 : IV) (x5 : IV) (x232 : IV) (ih : Handler) (x13 : IV) (x270 : IV) : Option (IV × Hp) :=
  storeA 3 x271 x269 h272 fun h275 r276 w277 => chkS [] r276 w277 (loadA 3 x5 h275 fun x278 _ => loadA 3 x232 h275 fun x280 _ => loadA 3 x271 h275 fun x282 _ => S26_361 h275 x278 x280 x282 ih x13 x270)
noncomputable def S26_363 (r267 : List Ref) (w268 : List Ref) (x265 : IV) (h266 : Hp) (r262 : List Ref) (w263 : List Ref) (r259 : List Ref) (r256 : List Ref) (w257 : List Ref) (r253 : List Ref) (r251 : List Ref) (r248 : List Ref) (x5 : IV) (x232 : IV) (ih : Handler) (x13 : IV) : Option (IV × Hp) :=
  chkS [] r267 w268 (extS 0 x265 fun x269 => extS 1 x265 fun x270 => newS 27284495 (.row [.fv (.int .i64 0), .fv (.int .i64 0), .nils] false) (.ptr (.own 27284495) 0) h266 fun x271 h272 r273 w274 => chkS [(r267, w268), (r262, w263), (r259, []), (r256, w257), (r253, []), (r251, []), (r248, [])] r273 w274 (S26_362 h272 x271 x269 x5 x232 ih x13 x270))
noncomputable def S26_364 (r259 : List Ref) (r256 : List Ref) (w257 : List Ref) (r253 : List Ref) (r251 : List Ref) (r248 : List Ref) (ih : Handler) (h255 : Hp) (x258 : IV) (x3 : IV) (x0 : IV) (x254 : IV) (x5 : IV) (x232 : IV) (x13 : IV) : Option (IV × Hp) :=
  chkS [(r256, w257), (r253, []), (r251, []), (r248, [])] r259 [] (isoS [] false false ih 58 [x258, .fv (.int .i64 1)] h255 fun x260 h261 r262 w263 => chkS [] r262 w263 (subS EE 3 x3 (.fv (.int .i64 1)) fun x264 => isoS [] false false ih 26 [x0, x254, x260, x264] h261 fun x265 h266 r267 w268 => S26_363 r267 w268 x265 h266 r262 w263 r259 r256 w257 r253 r251 r248 x5 x232 ih x13))
noncomputable def S26_365 (h236 : Hp) (x232 : IV) (r251 : List Ref) (r248 : List Ref) (ih : Handler) (x250 : IV) (x9 : IV) (x3 : IV) (x0 : IV) (x5 : IV) (x13 : IV) : Option (IV × Hp) :=
  loadA 3 x232 h236 fun x252 r253 => chkS [(r251, []), (r248, [])] r253 [] (isoS [] false false ih 30 [x250, .fv (.int .i64 0), x252] h236 fun x254 h255 r256 w257 => chkS [] r256 w257 (loadA 3 x9 h255 fun x258 r259 => S26_364 r259 r256 w257 r253 r251 r248 ih h255 x258 x3 x0 x254 x5 x232 x13))
noncomputable def S26_366 (h236 : Hp) (x246 : IV) (x232 : IV) (ih : Handler) (x9 : IV) (x3 : IV) (x0 : IV) (x5 : IV) (x13 : IV) : Option (IV × Hp) :=
  load1 x246 h236 fun x247 r248 => chkS [] r248 [] (ixS 3 x247 (.fv (.int .i64 1)) fun x249 => loadA 3 x249 h236 fun x250 r251 => chkS [] r251 [] (S26_365 h236 x232 r251 r248 ih x250 x9 x3 x0 x5 x13))
noncomputable def S26_367 (h233 : Hp) (x232 : IV) (x230 : IV) (x231 : IV) (x45 : IV) (x13 : IV) (x44 : IV) (x5 : IV) (ih : Handler) (x9 : IV) (x3 : IV) (x0 : IV) : Option (IV × Hp) :=
  storeA 3 x232 x230 h233 fun h236 r237 w238 => chkS [] r237 w238 (optS (unR .not x231) fun x239 => condS x239 (loadA 3 x45 h236 fun x240 _ => S26_360 h236 x13 x240 x44) (faddrS 2 x5 fun x246 => S26_366 h236 x246 x232 ih x9 x3 x0 x5 x13))
noncomputable def S26_368 (r228 : List Ref) (w229 : List Ref) (x226 : IV) (h227 : Hp) (r223 : List Ref) (w224 : List Ref) (r220 : List Ref) (r218 : List Ref) (r215 : List Ref) (x45 : IV) (x13 : IV) (x44 : IV) (x5 : IV) (ih : Handler) (x9 : IV) (x3 : IV) (x0 : IV) : Option (IV × Hp) :=
  chkS [] r228 w229 (extS 0 x226 fun x230 => extS 1 x226 fun x231 => newS 27281421 (.row [.fv (.int .i64 0), .fv (.int .i64 0), .nils] false) (.ptr (.own 27281421) 0) h227 fun x232 h233 r234 w235 => chkS [(r228, w229), (r223, w224), (r220, []), (r218, []), (r215, [])] r234 w235 (S26_367 h233 x232 x230 x231 x45 x13 x44 x5 ih x9 x3 x0))
noncomputable def S26_369 (r220 : List Ref) (r218 : List Ref) (r215 : List Ref) (ih : Handler) (h140 : Hp) (x219 : IV) (x3 : IV) (x0 : IV) (x217 : IV) (x45 : IV) (x13 : IV) (x44 : IV) (x5 : IV) (x9 : IV) : Option (IV × Hp) :=
  chkS [(r218, []), (r215, [])] r220 [] (isoS [] false false ih 58 [x219, .fv (.int .i64 0)] h140 fun x221 h222 r223 w224 => chkS [(r218, []), (r215, [])] r223 w224 (subS EE 3 x3 (.fv (.int .i64 1)) fun x225 => isoS [] false false ih 26 [x0, x217, x221, x225] h222 fun x226 h227 r228 w229 => S26_368 r228 w229 x226 h227 r223 w224 r220 r218 r215 x45 x13 x44 x5 ih x9 x3 x0))
noncomputable def S26_370 (r215 : List Ref) (x214 : IV) (h140 : Hp) (x9 : IV) (ih : Handler) (x3 : IV) (x0 : IV) (x45 : IV) (x13 : IV) (x44 : IV) (x5 : IV) : Option (IV × Hp) :=
  chkS [] r215 [] (ixS 3 x214 (.fv (.int .i64 0)) fun x216 => loadA 3 x216 h140 fun x217 r218 => chkS [] r218 [] (loadA 3 x9 h140 fun x219 r220 => S26_369 r220 r218 r215 ih h140 x219 x3 x0 x217 x45 x13 x44 x5 x9))
noncomputable def S26_371 (h320 : Hp) (x323 : IV) (ih : Handler) (x13 : IV) (x315 : IV) : Option (IV × Hp) :=
  genS (pcBuildSlice EE 29 1 [(0, x323)]) 27288577 h320 fun x325 h326 _ _ => isoS [] false false ih 27 [.fv (.int .i64 19), x325] h326 fun x329 h330 _ _ => storeA 3 x13 x329 h330 fun h333 _ _ => cellS true 3 x13 h333 fun x336 => outS1 [x336, x315] h333
noncomputable def S26_372 (h311 : Hp) (r312 : List Ref) (w313 : List Ref) (r307 : List Ref) (w308 : List Ref) (r304 : List Ref) (r302 : List Ref) (r299 : List Ref) (x314 : IV) (ih : Handler) (x13 : IV) (x315 : IV) : Option (IV × Hp) :=
  newS 27287565 (.row [.fv (.int .i64 0), .fv (.int .i64 0), .nils] false) (.ptr (.own 27287565) 0) h311 fun x316 h317 r318 w319 => chkS [(r312, w313), (r307, w308), (r304, []), (r302, []), (r299, [])] r318 w319 (storeA 3 x316 x314 h317 fun h320 r321 w322 => chkS [] r321 w322 (loadA 3 x316 h320 fun x323 _ => S26_371 h320 x323 ih x13 x315))
noncomputable def S26_373 (x3 : IV) (ih : Handler) (h306 : Hp) (x0 : IV) (x301 : IV) (x305 : IV) (r307 : List Ref) (w308 : List Ref) (r304 : List Ref) (r302 : List Ref) (r299 : List Ref) (x13 : IV) : Option (IV × Hp) :=
  subS EE 3 x3 (.fv (.int .i64 1)) fun x309 => isoS [] false false ih 32 [x0, x301, x305, x309] h306 fun x310 h311 r312 w313 => chkS [] r312 w313 (extS 0 x310 fun x314 => extS 1 x310 fun x315 => S26_372 h311 r312 w313 r307 w308 r304 r302 r299 x314 ih x13 x315)
noncomputable def S26_374 (r302 : List Ref) (h140 : Hp) (x9 : IV) (r299 : List Ref) (ih : Handler) (x3 : IV) (x0 : IV) (x301 : IV) (x13 : IV) : Option (IV × Hp) :=
  chkS [] r302 [] (loadA 3 x9 h140 fun x303 r304 => chkS [(r302, []), (r299, [])] r304 [] (isoS [] false false ih 58 [x303, .fv (.int .i64 0)] h140 fun x305 h306 r307 w308 => chkS [(r302, []), (r299, [])] r307 w308 (S26_373 x3 ih h306 x0 x301 x305 r307 w308 r304 r302 r299 x13)))
noncomputable def S26_375 (x5 : IV) (h140 : Hp) (x9 : IV) (ih : Handler) (x3 : IV) (x0 : IV) (x13 : IV) : Option (IV × Hp) :=
  faddrS 2 x5 fun x297 => load1 x297 h140 fun x298 r299 => chkS [] r299 [] (ixS 3 x298 (.fv (.int .i64 0)) fun x300 => loadA 3 x300 h140 fun x301 r302 => S26_374 r302 h140 x9 r299 ih x3 x0 x301 x13)
noncomputable def S26_376 (h140 : Hp) (x45 : IV) (x13 : IV) (x44 : IV) : Option (IV × Hp) :=
  loadA 3 x45 h140 fun x337 _ => storeA 3 x13 x337 h140 fun h339 _ _ => cellS true 3 x13 h339 fun x342 => outS1 [x342, x44] h339
noncomputable def S26_377 (x136 : IV) (x5 : IV) (h140 : Hp) (x9 : IV) (ih : Handler) (x3 : IV) (x0 : IV) (x45 : IV) (x13 : IV) (x44 : IV) : Option (IV × Hp) :=
  eqS EE 3 x136 (.fv (.int .i64 6)) fun x212 => condS x212 (faddrS 2 x5 fun x213 => load1 x213 h140 fun x214 r215 => S26_370 r215 x214 h140 x9 ih x3 x0 x45 x13 x44 x5) (eqS EE 3 x136 (.fv (.int .i64 18)) fun x296 => condS x296 (S26_375 x5 h140 x9 ih x3 x0 x13) (S26_376 h140 x45 x13 x44))
noncomputable def S26_378 (x139 : IV) (h140 : Hp) (x5 : IV) (x9 : IV) (ih : Handler) (x0 : IV) (x3 : IV) (x13 : IV) (x136 : IV) (x45 : IV) (x44 : IV) : Option (IV × Hp) :=
  condS x139 (loadA 3 x5 h140 fun x141 _ => loadA 3 x9 h140 fun x143 _ => S26_350 ih h140 x0 x141 x143 x3 x13) (eqS EE 3 x136 (.fv (.int .i64 3)) fun x155 => condS x155 (S26_359 x5 h140 ih x0 x9 x3 x13) (S26_377 x136 x5 h140 x9 ih x3 x0 x45 x13 x44))
noncomputable def S26_379 (x136 : IV) (j1_138 : IV → Hp → Option (IV × Hp)) (h117 : Hp) : Option (IV × Hp) :=
  eqS EE 3 x136 (.fv (.int .i64 14)) fun x344 => condS x344 (j1_138 x344 h117) (eqS EE 3 x136 (.fv (.int .i64 2)) fun x345 => j1_138 x345 h117)
noncomputable def S26_380 (x5 : IV) (h117 : Hp) (x9 : IV) (ih : Handler) (x0 : IV) (x3 : IV) (x13 : IV) (x45 : IV) (x44 : IV) : Option (IV × Hp) :=
  faddrS 0 x5 fun x135 => load1 x135 h117 fun x136 _ => (fun (j1_138 : IV → Hp → Option (IV × Hp)) => eqS EE 3 x136 (.fv (.int .i64 10)) fun x343 => condS x343 (j1_138 x343 h117) (S26_379 x136 j1_138 h117)) fun x139 h140 => S26_378 x139 h140 x5 x9 ih x0 x3 x13 x136 x45 x44
noncomputable def S26_381 (h99 : Hp) (x95 : IV) (x98 : IV) (ih : Handler) (x5 : IV) (x9 : IV) (x0 : IV) (x3 : IV) (x13 : IV) (x45 : IV) (x44 : IV) : Option (IV × Hp) :=
  guardS x95 true h99 (fun k102 => load1 x98 h99 fun x103 r104 => k102 x103 h99 r104 []) fun x105 h106 _ _ => guardS x95 true h106 (fun k109 => isoS [] false false ih 55 [x105, .fv (.int .i64 7)] h106 k109) fun x110 h111 _ _ => guardS x95 true h111 (fun k114 => eqS EE 3 x110 (.fv (.int .i64 6)) fun x115 => k114 x115 h111 [] []) fun x116 h117 _ _ => pickS x95 x116 (.fv (.bool false)) fun x120 => condS x120 (S26_349 h117 x5 x9 ih x0 x3 x13) (S26_380 x5 h117 x9 ih x0 x3 x13 x45 x44)
noncomputable def S26_382 (x88 : IV) (h85 : Hp) (x45 : IV) (x13 : IV) (x44 : IV) (x3 : IV) (x9 : IV) (ih : Handler) (x5 : IV) (x0 : IV) : Option (IV × Hp) :=
  condS x88 (loadA 3 x45 h85 fun x89 _ => storeA 3 x13 x89 h85 fun h91 _ _ => S26_347 h91 x13 x44) (gtS EE 3 x3 (.fv (.int .i64 0)) fun x95 => guardS x95 true h85 (fun k96 => faddrS 0 x9 fun x97 => k96 x97 h85 [] []) fun x98 h99 _ _ => S26_381 h99 x95 x98 ih x5 x9 x0 x3 x13 x45 x44)
noncomputable def S26_383 (h67 : Hp) (x44 : IV) (x66 : IV) (x3 : IV) (x45 : IV) (x13 : IV) (x9 : IV) (ih : Handler) (x5 : IV) (x0 : IV) : Option (IV × Hp) :=
  guardS x44 true h67 (fun k70 => eqS EE 3 x66 (.fv (.int .i64 0)) fun x71 => k70 x71 h67 [] []) fun x72 h73 _ _ => pickS x44 x72 (.fv (.bool false)) fun x76 => guardS x76 false h73 (fun k77 => k77 x3 h73 [] []) fun x78 h79 _ _ => guardS x76 false h79 (fun k82 => ltS EE 3 x78 (.fv (.int .i64 (-4))) fun x83 => k82 x83 h79 [] []) fun x84 h85 _ _ => pickS x76 (.fv (.bool true)) x84 fun x88 => S26_382 x88 h85 x45 x13 x44 x3 x9 ih x5 x0
noncomputable def S26_384 (h40 : Hp) (x43 : IV) (x44 : IV) (x9 : IV) (ih : Handler) (x3 : IV) (x13 : IV) (x5 : IV) (x0 : IV) : Option (IV × Hp) :=
  newS 27267080 (.row [.fv (.int .i64 0), .fv (.int .i64 0), .nils] false) (.ptr (.own 27267080) 0) h40 fun x45 h46 _ _ => storeA 3 x45 x43 h46 fun h49 _ _ => guardS x44 true h49 (fun k52 => faddrS 0 x9 fun x53 => k52 x53 h49 [] []) fun x54 h55 _ _ => guardS x44 true h55 (fun k58 => load1 x54 h55 fun x59 r60 => k58 x59 h55 r60 []) fun x61 h62 _ _ => guardS x44 true h62 (fun k65 => isoS [] false false ih 55 [x61, .fv (.int .i64 3)] h62 k65) fun x66 h67 _ _ => S26_383 h67 x44 x66 x3 x45 x13 x9 ih x5 x0
noncomputable def S26_385 (x9 : IV) (h25 : Hp) (ih : Handler) (x0 : IV) (x34 : IV) (x3 : IV) (x13 : IV) (x5 : IV) : Option (IV × Hp) :=
  faddrS 1 x9 fun x36 => load1 x36 h25 fun x37 _ => isoS [] false false ih 59 [x0, .fv (.int .i64 1), x34, x37] h25 fun x39 h40 _ _ => extS 0 x39 fun x43 => extS 1 x39 fun x44 => S26_384 h40 x43 x44 x9 ih x3 x13 x5 x0
noncomputable def S26_386 (x19 : IV) (h20 : Hp) (x5 : IV) (x23 : IV) (x13 : IV) (x9 : IV) (ih : Handler) (x0 : IV) (x3 : IV) : Option (IV × Hp) :=
  extS 1 x19 fun x24 => storeA 3 x5 x23 h20 fun h25 _ _ => neS EE 3 x24 (.fv (.int .i64 0)) fun x28 => condS x28 (bldS [.fv (.int .i64 0), .fv (.int .i64 0), .nils] [] fun x29 => S26_346 h25 x13 x29) (loadA 3 x5 h25 fun x34 _ => S26_385 x9 h25 ih x0 x34 x3 x13 x5)
noncomputable def S26 (ih : Handler) (n : Nat) (x0 : IV) (x1 : IV) (x2 : IV) (x3 : IV) (h4 : Hp) : Option (IV × Hp) :=
  boxS 27262976 x1 h4 fun x5 h6 _ _ => boxS 27262977 x2 h6 fun x9 h10 _ _ => newS 27262978 (.row [.fv (.int .i64 0), .fv (.int .i64 0), .nils] false) (.ptr (.own 27262978) 0) h10 fun x13 h14 _ _ => loadA 3 x5 h14 fun x17 _ => isoS [] false false ih 18 [x17] h14 fun x19 h20 _ _ => extS 0 x19 fun x23 => S26_386 x19 h20 x5 x23 x13 x9 ih x0 x3
theorem S26_ok (ih : Handler) (n : Nat) (x0 : IV) (x1 : IV) (x2 : IV) (x3 : IV) (h4 : Hp) : funS EE ih ft.get n 26 [x0, x1, x2, x3] h4 = S26 ih n x0 x1 x2 x3 h4 := by kernel_rfl
/-! Function 27. -/
noncomputable def S27 (ih : Handler) (n : Nat) (x0 : IV) (x1 : IV) (h2 : Hp) : Option (IV × Hp) :=
  newS 28311552 (.row [.fv (.int .i64 0), .fv (.int .i64 0), .nils] false) (.ptr (.own 28311552) 0) h2 fun x3 h4 _ _ => bldS [.fv (.int .i64 0), .fv (.int .i64 0), .nils] [(0, 1, x0), (2, 1, x1)] fun x7 => storeA 3 x3 x7 h4 fun h8 _ _ => cellS true 3 x3 h8 fun x11 => outS1 [x11] h8
theorem S27_ok (ih : Handler) (n : Nat) (x0 : IV) (x1 : IV) (h2 : Hp) : funS EE ih ft.get n 27 [x0, x1] h2 = S27 ih n x0 x1 h2 := by kernel_rfl
/-! Function 28. -/
noncomputable def S28 (ih : Handler) (n : Nat) (x0 : IV) (x1 : IV) (h2 : Hp) : Option (IV × Hp) :=
  binS EE 3 .rem x0 x1 fun x3 => (fun (j1_4 : IV → Hp → Option (IV × Hp)) => ltS EE 3 x3 (.fv (.int .i64 0)) fun x7 => condS x7 (addS EE 3 x3 x1 fun x8 => j1_4 x8 h2) (j1_4 x3 h2)) fun x5 h6 => outS1 [x5] h6
theorem S28_ok (ih : Handler) (n : Nat) (x0 : IV) (x1 : IV) (h2 : Hp) : funS EE ih ft.get n 28 [x0, x1] h2 = S28 ih n x0 x1 h2 := by kernel_rfl
/-! Function 29. -/
noncomputable def S29_27 (r25 : List Ref) (w26 : List Ref) (h24 : Hp) (x23 : IV) : Option (IV × Hp) :=
  chkS [] r25 w26 (outS1 [x23] h24)
noncomputable def S29_28 (r17 : List Ref) (r14 : List Ref) (w15 : List Ref) (r10 : List Ref) (w11 : List Ref) (x1 : IV) (x16 : IV) (h13 : Hp) (x12 : IV) : Option (IV × Hp) :=
  chkS [(r14, w15), (r10, w11)] r17 [] (bldS [.fv (.int .i64 0), .fv (.int .i64 0), .fv (.int .i64 0), .nils] [(0, 1, x1), (1, 3, x16)] fun x18 => genS (pcBuildSlice EE 28 1 [(0, x18)]) 30409734 h13 fun x19 h20 r21 w22 => chkS [(r14, w15), (r10, w11)] r21 w22 (genS (builtinR EE 30409735 false .append [28, 28] [x12, x19]) 30409735 h20 fun x23 h24 r25 w26 => S29_27 r25 w26 h24 x23))
noncomputable def S29 (ih : Handler) (n : Nat) (x0 : IV) (x1 : IV) (x2 : IV) (h3 : Hp) : Option (IV × Hp) :=
  boxS 30408704 x2 h3 fun x4 h5 _ _ => genS (pcBuildSlice EE 28 0 []) 30409728 h5 fun x8 h9 r10 w11 => chkS [] r10 w11 (genS (builtinR EE 30409730 false .append [28, 28] [x8, x0]) 30409730 h9 fun x12 h13 r14 w15 => chkS [] r14 w15 (loadA 3 x4 h13 fun x16 r17 => S29_28 r17 r14 w15 r10 w11 x1 x16 h13 x12))
theorem S29_ok (ih : Handler) (n : Nat) (x0 : IV) (x1 : IV) (x2 : IV) (h3 : Hp) : funS EE ih ft.get n 29 [x0, x1, x2] h3 = S29 ih n x0 x1 x2 h3 := by kernel_rfl
/-! Function 30. -/
noncomputable def S30_28 (h21 : Hp) (x12 : IV) (x20 : IV) : Option (IV × Hp) :=
  storeA 3 x12 x20 h21 fun h24 _ _ => cellS true 3 x12 h24 fun x27 => outS1 [x27] h24
noncomputable def S30 (ih : Handler) (n : Nat) (x0 : IV) (x1 : IV) (x2 : IV) (h3 : Hp) : Option (IV × Hp) :=
  boxS 31457280 x0 h3 fun x4 h5 _ _ => boxS 31457281 x2 h5 fun x8 h9 _ _ => newS 31457282 (.row [.fv (.int .i64 0), .fv (.int .i64 0), .nils] false) (.ptr (.own 31457282) 0) h9 fun x12 h13 _ _ => loadA 3 x4 h13 fun x16 _ => loadA 3 x8 h13 fun x18 _ => isoS [] false false ih 62 [x16, x1, .fv (.int .i64 0), x18] h13 fun x20 h21 _ _ => S30_28 h21 x12 x20
theorem S30_ok (ih : Handler) (n : Nat) (x0 : IV) (x1 : IV) (x2 : IV) (h3 : Hp) : funS EE ih ft.get n 30 [x0, x1, x2] h3 = S30 ih n x0 x1 x2 h3 := by kernel_rfl
/-! Function 31. -/
noncomputable def S31_127 (h68 : Hp) (x71 : IV) (x67 : IV) (x36 : IV) (h3 : Hp) (x31 : IV) (x32 : IV) (x33 : IV) (x34 : IV) (x35 : IV) (q28 : List IV → Hp → Option (IV × Hp)) : Option (IV × Hp) :=
  store1 x71 x67 h68 fun h72 r73 w74 => chkS [] r73 w74 (addS EE 3 x36 (.fv (.int .i64 1)) fun x75 => dropS (h3.own.map (·.1)) [32513040] [x31, x32, x33, x34, x35, x75] h72 fun h76 => q28 [x31, x32, x33, x34, x35, x75] h76)
noncomputable def S31_128 (h60 : Hp) (x59 : IV) (r44 : List Ref) (x43 : IV) (x35 : IV) (x36 : IV) (h3 : Hp) (x31 : IV) (x32 : IV) (x33 : IV) (x34 : IV) (q28 : List IV → Hp → Option (IV × Hp)) : Option (IV × Hp) :=
  genS (pcBuildSlice EE 29 1 [(0, x59)]) 32513039 h60 fun x63 h64 r65 w66 => chkS [(r44, [])] r65 w66 (genS (builtinR EE 32513040 false .append [29, 29] [x43, x63]) 32513040 h64 fun x67 h68 r69 w70 => chkS [] r69 w70 (faddrS 2 x35 fun x71 => S31_127 h68 x71 x67 x36 h3 x31 x32 x33 x34 x35 q28))
noncomputable def S31_129 (ih : Handler) (h30 : Hp) (x52 : IV) (x36 : IV) (r50 : List Ref) (r47 : List Ref) (r44 : List Ref) (x32 : IV) (x49 : IV) (x31 : IV) (x43 : IV) (x35 : IV) (h3 : Hp) (x33 : IV) (x34 : IV) (q28 : List IV → Hp → Option (IV × Hp)) : Option (IV × Hp) :=
  isoS [] false false ih 63 [x52, x36] h30 fun x54 h55 r56 w57 => chkS [(r50, []), (r47, []), (r44, [])] r56 w57 (addS EE 3 x32 x54 fun x58 => isoS [] false false ih 31 [x49, x31, x58] h55 fun x59 h60 r61 w62 => chkS [(r44, [])] r61 w62 (S31_128 h60 x59 r44 x43 x35 x36 h3 x31 x32 x33 x34 q28))
noncomputable def S31_130 (h30 : Hp) (x48 : IV) (r44 : List Ref) (x33 : IV) (r47 : List Ref) (ih : Handler) (x36 : IV) (x32 : IV) (x31 : IV) (x43 : IV) (x35 : IV) (h3 : Hp) (x34 : IV) (q28 : List IV → Hp → Option (IV × Hp)) : Option (IV × Hp) :=
  loadA 3 x48 h30 fun x49 r50 => chkS [(r44, [])] r50 [] (faddrS 0 x33 fun x51 => load1 x51 h30 fun x52 r53 => chkS [(r50, []), (r47, []), (r44, [])] r53 [] (S31_129 ih h30 x52 x36 r50 r47 r44 x32 x49 x31 x43 x35 h3 x33 x34 q28))
noncomputable def S31_131 (r44 : List Ref) (x33 : IV) (h30 : Hp) (x36 : IV) (ih : Handler) (x32 : IV) (x31 : IV) (x43 : IV) (x35 : IV) (h3 : Hp) (x34 : IV) (q28 : List IV → Hp → Option (IV × Hp)) : Option (IV × Hp) :=
  chkS [] r44 [] (faddrS 2 x33 fun x45 => load1 x45 h30 fun x46 r47 => chkS [(r44, [])] r47 [] (ixS 3 x46 x36 fun x48 => S31_130 h30 x48 r44 x33 r47 ih x36 x32 x31 x43 x35 h3 x34 q28))
noncomputable def S31_132 (h79 : Hp) (x34 : IV) : Option (IV × Hp) :=
  cellS true 3 x34 h79 fun x82 => outS1 [x82] h79
noncomputable def S31_133 (x41 : IV) (x35 : IV) (h30 : Hp) (x33 : IV) (x36 : IV) (ih : Handler) (x32 : IV) (x31 : IV) (h3 : Hp) (x34 : IV) (q28 : List IV → Hp → Option (IV × Hp)) : Option (IV × Hp) :=
  condS x41 (faddrS 2 x35 fun x42 => load1 x42 h30 fun x43 r44 => S31_131 r44 x33 h30 x36 ih x32 x31 x43 x35 h3 x34 q28) (loadA 3 x35 h30 fun x77 _ => storeA 3 x34 x77 h30 fun h79 _ _ => S31_132 h79 x34)
noncomputable def S31_134 (l87 : List IV) (x33 : IV) (h30 : Hp) (x35 : IV) (ih : Handler) (x32 : IV) (x31 : IV) (h3 : Hp) (x34 : IV) (q28 : List IV → Hp → Option (IV × Hp)) : Option (IV × Hp) :=
  uncS l87 fun x36 _ => faddrS 2 x33 fun x37 => load1 x37 h30 fun x38 _ => lenS x38 fun x40 => ltS EE 3 x36 x40 fun x41 => S31_133 x41 x35 h30 x33 x36 ih x32 x31 h3 x34 q28
noncomputable def S31_135 (l29 : List IV) (h30 : Hp) (ih : Handler) (h3 : Hp) (q28 : List IV → Hp → Option (IV × Hp)) : Option (IV × Hp) :=
  uncS l29 fun x31 l83 => uncS l83 fun x32 l84 => uncS l84 fun x33 l85 => uncS l85 fun x34 l86 => uncS l86 fun x35 l87 => S31_134 l87 x33 h30 x35 ih x32 x31 h3 x34 q28
noncomputable def S31_136 (h3 : Hp) (h27 : Hp) (x1 : IV) (x2 : IV) (x4 : IV) (x8 : IV) (x19 : IV) (n : Nat) (ih : Handler) : Option (IV × Hp) :=
  dropS (h3.own.map (·.1)) [32513040] [x1, x2, x4, x8, x19, .fv (.int .i64 0)] h27 fun h89 => loopS n (fun q28 l29 h30 => S31_135 l29 h30 ih h3 q28) [x1, x2, x4, x8, x19, .fv (.int .i64 0)] h89
noncomputable def S31_137 (h115 : Hp) (x119 : IV) (x1 : IV) (x19 : IV) (j0_26 : Hp → Option (IV × Hp)) : Option (IV × Hp) :=
  load1 x119 h115 fun x120 _ => addS EE 3 x120 x1 fun x122 => faddrS 1 x19 fun x123 => store1 x123 x122 h115 fun h124 _ _ => j0_26 h124
noncomputable def S31_138 (h109 : Hp) (x93 : IV) (x103 : IV) (x108 : IV) (x4 : IV) (x1 : IV) (x19 : IV) (j0_26 : Hp → Option (IV × Hp)) : Option (IV × Hp) :=
  guardS x93 true h109 (fun k112 => geS EE 3 x103 x108 fun x113 => k112 x113 h109 [] []) fun x114 h115 _ _ => pickS x93 x114 (.fv (.bool false)) fun x118 => condS x118 (faddrS 1 x4 fun x119 => S31_137 h115 x119 x1 x19 j0_26) (j0_26 h115)
noncomputable def S31_139 (h23 : Hp) (x90 : IV) (x4 : IV) (x2 : IV) (x1 : IV) (x19 : IV) (j0_26 : Hp → Option (IV × Hp)) : Option (IV × Hp) :=
  load1 x90 h23 fun x91 _ => eqS EE 3 x91 (.fv (.int .i64 1)) fun x93 => guardS x93 true h23 (fun k94 => faddrS 1 x4 fun x95 => k94 x95 h23 [] []) fun x96 h97 _ _ => guardS x93 true h97 (fun k100 => load1 x96 h97 fun x101 r102 => k100 x101 h97 r102 []) fun x103 h104 _ _ => guardS x93 true h104 (fun k107 => k107 x2 h104 [] []) fun x108 h109 _ _ => S31_138 h109 x93 x103 x108 x4 x1 x19 j0_26
noncomputable def S31_140 (x13 : IV) (x16 : IV) (h9 : Hp) (h3 : Hp) (x1 : IV) (x2 : IV) (x4 : IV) (x8 : IV) (n : Nat) (ih : Handler) : Option (IV × Hp) :=
  bldS [.fv (.int .i64 0), .fv (.int .i64 0), .nils] [(0, 1, x13), (1, 1, x16)] fun x18 => newS 32506885 (.row [.fv (.int .i64 0), .fv (.int .i64 0), .nils] false) (.ptr (.own 32506885) 0) h9 fun x19 h20 _ _ => storeA 3 x19 x18 h20 fun h23 _ _ => (fun (j0_26 : Hp → Option (IV × Hp)) => faddrS 0 x4 fun x90 => S31_139 h23 x90 x4 x2 x1 x19 j0_26) fun h27 => S31_136 h3 h27 x1 x2 x4 x8 x19 n ih
noncomputable def S31 (ih : Handler) (n : Nat) (x0 : IV) (x1 : IV) (x2 : IV) (h3 : Hp) : Option (IV × Hp) :=
  boxS 32505856 x0 h3 fun x4 h5 _ _ => newS 32505857 (.row [.fv (.int .i64 0), .fv (.int .i64 0), .nils] false) (.ptr (.own 32505857) 0) h5 fun x8 h9 _ _ => faddrS 0 x4 fun x12 => load1 x12 h9 fun x13 _ => faddrS 1 x4 fun x15 => load1 x15 h9 fun x16 _ => S31_140 x13 x16 h9 h3 x1 x2 x4 x8 n ih
theorem S31_ok (ih : Handler) (n : Nat) (x0 : IV) (x1 : IV) (x2 : IV) (h3 : Hp) : funS EE ih ft.get n 31 [x0, x1, x2] h3 = S31 ih n x0 x1 x2 h3 := by kernel_rfl
end Idl
end Go.Proofs.Ytbkdidonegggdaa

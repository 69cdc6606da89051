/-
  THE SHALLOW FORM OF THE SEAT'S FUNCTIONS, a part; each is what its code's shallow run is. Printed by a program of mine (gen-sh). No statement is proved here.
-/
import Derived.Test.YtkfecngimlcfoaaTab
import Derived.Test.YtkfecngimlcfoaaIdl31
set_option maxRecDepth 100000
set_option linter.unusedVariables false
namespace Go.Proofs.Ytkfecngimlcfoaa
namespace Idl
/-! (*thyrsus/norm.machine).back -/
noncomputable def S72_261 (h21 : Hp) (x5 : IV) : Option (IV × Hp) :=
  cellS true 3 x5 h21 fun x24 => outS1 [x24] h21
noncomputable def S72_262 (h12 : Hp) (x5 : IV) (x36 : IV) : Option (IV × Hp) :=
  storeA 3 x5 x36 h12 fun h37 _ _ => cellS true 3 x5 h37 fun x40 => outS1 [x40] h37
noncomputable def S72_263 (x1 : IV) (h12 : Hp) (x30 : IV) (x5 : IV) : Option (IV × Hp) :=
  nilS x1 fun x31 => faddrS 1 x31 fun x32 => load1 x32 h12 fun x33 _ => subS EE 3 x30 x33 fun x35 => bldS [.fv (.int .i64 0), .fv (.int .i64 0), .nils] [(0, 1, .fv (.int .i64 1)), (1, 1, x35)] fun x36 => S72_262 h12 x5 x36
noncomputable def S72_264 (h90 : Hp) (x83 : IV) : Option (IV × Hp) :=
  bldS [.fv (.int .i64 0), .fv (.int .i64 0), .nils] [] fun x96 => storeA 3 x83 x96 h90 fun h97 _ _ => cellS true 3 x83 h97 fun x100 => outS1 [x100] h97
noncomputable def S72_265 (x89 : IV) (h4 : Hp) (h108 : Hp) (x79 : IV) (x80 : IV) (x81 : IV) (x82 : IV) (x83 : IV) (x84 : IV) (x88 : IV) (q51 : List IV → Hp → Option (IV × Hp)) : Option (IV × Hp) :=
  addS EE 3 x89 (.fv (.int .i64 1)) fun x111 => dropS (h4.own.map (·.1)) [75512833, 75516934] [x79, x80, x81, x82, x83, x84, x88, x111] h108 fun h112 => q51 [x79, x80, x81, x82, x83, x84, x88, x111] h112
noncomputable def S72_266 (x81 : IV) (x87 : IV) (x82 : IV) (ih : Handler) (h90 : Hp) (x79 : IV) (x86 : IV) (x84 : IV) (x85 : IV) (x89 : IV) (h4 : Hp) (x80 : IV) (x83 : IV) (x88 : IV) (q51 : List IV → Hp → Option (IV × Hp)) : Option (IV × Hp) :=
  addS EE 3 x81 x87 fun x101 => addS EE 3 x82 (.fv (.int .i64 1)) fun x102 => isoS [true, false, false, false] false false ih 72 [x79, x86, x101, x102] h90 fun x103 h104 _ _ => ixS 3 x84 x85 fun x107 => storeA 3 x107 x103 h104 fun h108 _ _ => S72_265 x89 h4 h108 x79 x80 x81 x82 x83 x84 x88 q51
noncomputable def S72_267 (x79 : IV) (h90 : Hp) (x83 : IV) (x81 : IV) (x87 : IV) (x82 : IV) (ih : Handler) (x86 : IV) (x84 : IV) (x85 : IV) (x89 : IV) (h4 : Hp) (x80 : IV) (x88 : IV) (q51 : List IV → Hp → Option (IV × Hp)) : Option (IV × Hp) :=
  nilS x79 fun x91 => faddrS 3 x91 fun x92 => load1 x92 h90 fun x93 _ => neS EE 36 x93 (.fv (.int .i64 0)) fun x95 => condS x95 (S72_264 h90 x83) (S72_266 x81 x87 x82 ih h90 x79 x86 x84 x85 x89 h4 x80 x83 x88 q51)
noncomputable def S72_268 (x134 : IV) (h4 : Hp) (h143 : Hp) (x122 : IV) (x123 : IV) (x124 : IV) (x125 : IV) (x126 : IV) (x127 : IV) (x128 : IV) (x129 : IV) (x130 : IV) (x131 : IV) (x132 : IV) (x133 : IV) (q119 : List IV → Hp → Option (IV × Hp)) : Option (IV × Hp) :=
  addS EE 3 x134 (.fv (.int .i64 1)) fun x146 => dropS (h4.own.map (·.1)) [75516934] [x122, x123, x124, x125, x126, x127, x128, x129, x130, x131, x132, x133, x146] h143 fun h147 => q119 [x122, x123, x124, x125, x126, x127, x128, x129, x130, x131, x132, x133, x146] h147
noncomputable def S72_269 (x124 : IV) (x134 : IV) (h121 : Hp) (x130 : IV) (h4 : Hp) (x122 : IV) (x123 : IV) (x125 : IV) (x126 : IV) (x127 : IV) (x128 : IV) (x129 : IV) (x131 : IV) (x132 : IV) (x133 : IV) (q119 : List IV → Hp → Option (IV × Hp)) : Option (IV × Hp) :=
  addS EE 3 x124 x134 fun x136 => bldS [.fv (.int .i64 0), .fv (.int .i64 0), .nils, .fv (.int .i64 0), .fv (.int .i64 0), .nils, .fv (.nilp)] [(0, 1, .fv (.int .i64 1)), (1, 1, x136)] fun x137 => fzS (pcBox true 75516934 x137) 75516934 x137 h121 fun x138 h139 _ _ => ixS 1 x130 x134 fun x142 => store1 x142 x138 h139 fun h143 _ _ => S72_268 x134 h4 h143 x122 x123 x124 x125 x126 x127 x128 x129 x130 x131 x132 x133 q119
noncomputable def S72_270 (ih : Handler) (h121 : Hp) (x122 : IV) (x123 : IV) (x128 : IV) (x130 : IV) (j11_78 : IV → IV → IV → IV → IV → IV → IV → IV → IV → IV → IV → Hp → Option (IV × Hp)) (x124 : IV) (x125 : IV) (x126 : IV) (x127 : IV) (x129 : IV) (x131 : IV) (x132 : IV) : Option (IV × Hp) :=
  isoS [true, false, false, false] false false ih 103 [x122, x123, x128, x130] h121 fun x148 h149 _ _ => j11_78 x122 x123 x124 x125 x126 x127 x128 x148 x129 x131 x132 h149
noncomputable def S72_271 (l161 : List IV) (x124 : IV) (h121 : Hp) (x130 : IV) (h4 : Hp) (x122 : IV) (x123 : IV) (x125 : IV) (x126 : IV) (x127 : IV) (x128 : IV) (x129 : IV) (x131 : IV) (q119 : List IV → Hp → Option (IV × Hp)) (ih : Handler) (j11_78 : IV → IV → IV → IV → IV → IV → IV → IV → IV → IV → IV → Hp → Option (IV × Hp)) : Option (IV × Hp) :=
  uncS l161 fun x132 l162 => uncS l162 fun x133 l163 => uncS l163 fun x134 _ => ltS EE 3 x134 x133 fun x135 => condS x135 (S72_269 x124 x134 h121 x130 h4 x122 x123 x125 x126 x127 x128 x129 x131 x132 x133 q119) (S72_270 ih h121 x122 x123 x128 x130 j11_78 x124 x125 x126 x127 x129 x131 x132)
noncomputable def S72_272 (l156 : List IV) (x124 : IV) (h121 : Hp) (h4 : Hp) (x122 : IV) (x123 : IV) (x125 : IV) (x126 : IV) (q119 : List IV → Hp → Option (IV × Hp)) (ih : Handler) (j11_78 : IV → IV → IV → IV → IV → IV → IV → IV → IV → IV → IV → Hp → Option (IV × Hp)) : Option (IV × Hp) :=
  uncS l156 fun x127 l157 => uncS l157 fun x128 l158 => uncS l158 fun x129 l159 => uncS l159 fun x130 l160 => uncS l160 fun x131 l161 => S72_271 l161 x124 h121 x130 h4 x122 x123 x125 x126 x127 x128 x129 x131 q119 ih j11_78
noncomputable def S72_273 (l120 : List IV) (h121 : Hp) (h4 : Hp) (q119 : List IV → Hp → Option (IV × Hp)) (ih : Handler) (j11_78 : IV → IV → IV → IV → IV → IV → IV → IV → IV → IV → IV → Hp → Option (IV × Hp)) : Option (IV × Hp) :=
  uncS l120 fun x122 l152 => uncS l152 fun x123 l153 => uncS l153 fun x124 l154 => uncS l154 fun x125 l155 => uncS l155 fun x126 l156 => S72_272 l156 x124 h121 h4 x122 x123 x125 x126 q119 ih j11_78
noncomputable def S72_274 (h4 : Hp) (h115 : Hp) (x54 : IV) (x55 : IV) (x56 : IV) (x57 : IV) (x58 : IV) (x59 : IV) (x61 : IV) (x74 : IV) (x114 : IV) (x60 : IV) (x118 : IV) (n : Nat) (ih : Handler) (j11_78 : IV → IV → IV → IV → IV → IV → IV → IV → IV → IV → IV → Hp → Option (IV × Hp)) : Option (IV × Hp) :=
  dropS (h4.own.map (·.1)) [75516934] [x54, x55, x56, x57, x58, x59, x61, x74, x114, x60, x61, x118, .fv (.int .i64 0)] h115 fun h165 => loopS n (fun q119 l120 h121 => S72_273 l120 h121 h4 q119 ih j11_78) [x54, x55, x56, x57, x58, x59, x61, x74, x114, x60, x61, x118, .fv (.int .i64 0)] h165
noncomputable def S72_275 (x113 : IV) (h75 : Hp) (x74 : IV) (h4 : Hp) (x54 : IV) (x55 : IV) (x56 : IV) (x57 : IV) (x58 : IV) (x59 : IV) (x61 : IV) (x60 : IV) (n : Nat) (ih : Handler) (j11_78 : IV → IV → IV → IV → IV → IV → IV → IV → IV → IV → IV → Hp → Option (IV × Hp)) (x68 : IV) : Option (IV × Hp) :=
  condS x113 (genS (pcMakeSlice EE 75512833 127 x74 x74) 75512833 h75 fun x114 h115 _ _ => lenS x114 fun x118 => S72_274 h4 h115 x54 x55 x56 x57 x58 x59 x61 x74 x114 x60 x118 n ih j11_78) (j11_78 x54 x55 x56 x57 x58 x59 x61 x68 x74 x60 x61 h75)
noncomputable def S72_276 (r73 : List Ref) (r69 : List Ref) (r66 : List Ref) (ih : Handler) (h53 : Hp) (x72 : IV) (x61 : IV) (h4 : Hp) (q51 : List IV → Hp → Option (IV × Hp)) (x54 : IV) (x55 : IV) (x56 : IV) (x57 : IV) (x58 : IV) (x59 : IV) (x60 : IV) (n : Nat) (x68 : IV) : Option (IV × Hp) :=
  chkS [(r69, []), (r66, [])] r73 [] (isoS [] false false ih 101 [x72, x61] h53 fun x74 h75 r76 w77 => chkS [(r69, []), (r66, [])] r76 w77 ((fun (j11_78 : IV → IV → IV → IV → IV → IV → IV → IV → IV → IV → IV → Hp → Option (IV × Hp)) => gtS EE 3 x74 (.fv (.int .i64 0)) fun x113 => S72_275 x113 h75 x74 h4 x54 x55 x56 x57 x58 x59 x61 x60 n ih j11_78 x68) fun x79 x80 x81 x82 x83 x84 x85 x86 x87 x88 x89 h90 => S72_267 x79 h90 x83 x81 x87 x82 ih x86 x84 x85 x89 h4 x80 x88 q51))
noncomputable def S72_277 (h53 : Hp) (x67 : IV) (x55 : IV) (r66 : List Ref) (ih : Handler) (x61 : IV) (h4 : Hp) (q51 : List IV → Hp → Option (IV × Hp)) (x54 : IV) (x56 : IV) (x57 : IV) (x58 : IV) (x59 : IV) (x60 : IV) (n : Nat) : Option (IV × Hp) :=
  load1 x67 h53 fun x68 r69 => chkS [] r69 [] (nilS x55 fun x70 => faddrS 0 x70 fun x71 => load1 x71 h53 fun x72 r73 => S72_276 r73 r69 r66 ih h53 x72 x61 h4 q51 x54 x55 x56 x57 x58 x59 x60 n x68)
noncomputable def S72_278 (x55 : IV) (h53 : Hp) (x61 : IV) (ih : Handler) (h4 : Hp) (q51 : List IV → Hp → Option (IV × Hp)) (x54 : IV) (x56 : IV) (x57 : IV) (x58 : IV) (x59 : IV) (x60 : IV) (n : Nat) : Option (IV × Hp) :=
  nilS x55 fun x63 => faddrS 2 x63 fun x64 => load1 x64 h53 fun x65 r66 => chkS [] r66 [] (ixS 1 x65 x61 fun x67 => S72_277 h53 x67 x55 r66 ih x61 h4 q51 x54 x56 x57 x58 x59 x60 n)
noncomputable def S72_279 (r176 : List Ref) (w177 : List Ref) (h175 : Hp) (x58 : IV) : Option (IV × Hp) :=
  chkS [] r176 w177 (cellS true 3 x58 h175 fun x178 => outS1 [x178] h175)
noncomputable def S72_280 (x170 : IV) (h53 : Hp) (r169 : List Ref) (x168 : IV) (x59 : IV) (x58 : IV) : Option (IV × Hp) :=
  faddrS 1 x170 fun x171 => load1 x171 h53 fun x172 r173 => chkS [(r169, [])] r173 [] (bldS [.fv (.int .i64 0), .fv (.int .i64 0), .nils] [(0, 1, x168), (1, 1, x172), (2, 1, x59)] fun x174 => storeA 3 x58 x174 h53 fun h175 r176 w177 => S72_279 r176 w177 h175 x58)
noncomputable def S72_281 (x55 : IV) (h53 : Hp) (x59 : IV) (x58 : IV) : Option (IV × Hp) :=
  nilS x55 fun x166 => faddrS 0 x166 fun x167 => load1 x167 h53 fun x168 r169 => chkS [] r169 [] (nilS x55 fun x170 => S72_280 x170 h53 r169 x168 x59 x58)
noncomputable def S72_282 (l183 : List IV) (x55 : IV) (h53 : Hp) (ih : Handler) (h4 : Hp) (q51 : List IV → Hp → Option (IV × Hp)) (x54 : IV) (x56 : IV) (x57 : IV) (x58 : IV) (n : Nat) : Option (IV × Hp) :=
  uncS l183 fun x59 l184 => uncS l184 fun x60 l185 => uncS l185 fun x61 _ => ltS EE 3 x61 x60 fun x62 => condS x62 (S72_278 x55 h53 x61 ih h4 q51 x54 x56 x57 x58 x59 x60 n) (S72_281 x55 h53 x59 x58)
noncomputable def S72_283 (l52 : List IV) (h53 : Hp) (ih : Handler) (h4 : Hp) (q51 : List IV → Hp → Option (IV × Hp)) (n : Nat) : Option (IV × Hp) :=
  uncS l52 fun x54 l179 => uncS l179 fun x55 l180 => uncS l180 fun x56 l181 => uncS l181 fun x57 l182 => uncS l182 fun x58 l183 => S72_282 l183 x55 h53 ih h4 q51 x54 x56 x57 x58 n
noncomputable def S72_284 (h4 : Hp) (h47 : Hp) (x0 : IV) (x1 : IV) (x2 : IV) (x3 : IV) (x5 : IV) (x46 : IV) (x50 : IV) (n : Nat) (ih : Handler) : Option (IV × Hp) :=
  dropS (h4.own.map (·.1)) [75512833, 75516934] [x0, x1, x2, x3, x5, x46, x50, .fv (.int .i64 0)] h47 fun h187 => loopS n (fun q51 l52 h53 => S72_283 l52 h53 ih h4 q51 n) [x0, x1, x2, x3, x5, x46, x50, .fv (.int .i64 0)] h187
noncomputable def S72_285 (x41 : IV) (h12 : Hp) (h4 : Hp) (x0 : IV) (x1 : IV) (x2 : IV) (x3 : IV) (x5 : IV) (n : Nat) (ih : Handler) : Option (IV × Hp) :=
  faddrS 2 x41 fun x42 => load1 x42 h12 fun x43 _ => lenS x43 fun x45 => genS (pcMakeSlice EE 75506693 28 x45 x45) 75506693 h12 fun x46 h47 _ _ => lenS x46 fun x50 => S72_284 h4 h47 x0 x1 x2 x3 x5 x46 x50 n ih
noncomputable def S72_286 (h12 : Hp) (x26 : IV) (x2 : IV) (x1 : IV) (x5 : IV) (h4 : Hp) (x0 : IV) (x3 : IV) (n : Nat) (ih : Handler) : Option (IV × Hp) :=
  load1 x26 h12 fun x27 _ => eqS EE 3 x27 (.fv (.int .i64 1)) fun x29 => condS x29 (subS EE 3 x2 (.fv (.int .i64 1)) fun x30 => S72_263 x1 h12 x30 x5) (nilS x1 fun x41 => S72_285 x41 h12 h4 x0 x1 x2 x3 x5 n ih)
noncomputable def S72_287 (x19 : IV) (h12 : Hp) (x5 : IV) (x1 : IV) (x2 : IV) (h4 : Hp) (x0 : IV) (x3 : IV) (n : Nat) (ih : Handler) : Option (IV × Hp) :=
  condS x19 (bldS [.fv (.int .i64 0), .fv (.int .i64 0), .nils] [] fun x20 => storeA 3 x5 x20 h12 fun h21 _ _ => S72_261 h21 x5) (nilS x1 fun x25 => faddrS 0 x25 fun x26 => S72_286 h12 x26 x2 x1 x5 h4 x0 x3 n ih)
noncomputable def S72_288 (ih : Handler) (h10 : Hp) (x0 : IV) (x5 : IV) (x1 : IV) (x2 : IV) (h4 : Hp) (x3 : IV) (n : Nat) : Option (IV × Hp) :=
  isoS [true] false false ih 99 [x0] h10 fun _ h12 _ _ => nilS x0 fun x15 => faddrS 3 x15 fun x16 => load1 x16 h12 fun x17 _ => neS EE 36 x17 (.fv (.int .i64 0)) fun x19 => S72_287 x19 h12 x5 x1 x2 h4 x0 x3 n ih
noncomputable def S72_289 (x256 : IV) (h252 : Hp) (j0_9 : Hp → Option (IV × Hp)) : Option (IV × Hp) :=
  faddrS 3 x256 fun x257 => store1 x257 (.fv (.int .i64 5)) h252 fun h258 _ _ => j0_9 h258
noncomputable def S72_290 (h246 : Hp) (x202 : IV) (x234 : IV) (x245 : IV) (x0 : IV) (j0_9 : Hp → Option (IV × Hp)) : Option (IV × Hp) :=
  guardS x202 true h246 (fun k249 => pickS x234 (.fv (.bool true)) x245 fun x250 => k249 x250 h246 [] []) fun x251 h252 _ _ => pickS x202 x251 (.fv (.bool false)) fun x255 => condS x255 (nilS x0 fun x256 => S72_289 x256 h252 j0_9) (j0_9 h252)
noncomputable def S72_291 (h217 : Hp) (x202 : IV) (x216 : IV) (x3 : IV) (x0 : IV) (j0_9 : Hp → Option (IV × Hp)) : Option (IV × Hp) :=
  guardS x202 true h217 (fun k220 => load1 x216 h217 fun x221 r222 => k220 x221 h217 r222 []) fun x223 h224 _ _ => guardS x202 true h224 (fun k227 => gtS EE 3 x223 (.fv (.int .i64 3000)) fun x228 => k227 x228 h224 [] []) fun x229 h230 _ _ => guardS x202 true h230 (fun k233 => k233 x229 h230 [] []) fun x234 h235 _ _ => guardS x234 false h235 (fun k238 => k238 x3 h235 [] []) fun x239 h240 _ _ => guardS x234 false h240 (fun k243 => gtS EE 3 x239 (.fv (.int .i64 120)) fun x244 => k243 x244 h240 [] []) fun x245 h246 _ _ => S72_290 h246 x202 x234 x245 x0 j0_9
noncomputable def S72_292 (h195 : Hp) (x199 : IV) (x0 : IV) (x3 : IV) (j0_9 : Hp → Option (IV × Hp)) : Option (IV × Hp) :=
  load1 x199 h195 fun x200 _ => eqS EE 36 x200 (.fv (.int .i64 0)) fun x202 => guardS x202 true h195 (fun k203 => k203 x0 h195 [] []) fun x204 h205 _ _ => guardS x202 true h205 (fun k208 => nilS x204 fun x209 => k208 x209 h205 [] []) fun x210 h211 _ _ => guardS x202 true h211 (fun k214 => faddrS 2 x210 fun x215 => k214 x215 h211 [] []) fun x216 h217 _ _ => S72_291 h217 x202 x216 x3 x0 j0_9
noncomputable def S72_293 (x0 : IV) (h6 : Hp) (x192 : IV) (x3 : IV) (j0_9 : Hp → Option (IV × Hp)) : Option (IV × Hp) :=
  nilS x0 fun x193 => faddrS 2 x193 fun x194 => store1 x194 x192 h6 fun h195 _ _ => nilS x0 fun x198 => faddrS 3 x198 fun x199 => S72_292 h195 x199 x0 x3 j0_9
noncomputable def S72 (ih : Handler) (n : Nat) (x0 : IV) (x1 : IV) (x2 : IV) (x3 : IV) (h4 : Hp) : Option (IV × Hp) :=
  newS 75497472 (.row [.fv (.int .i64 0), .fv (.int .i64 0), .nils] false) (.ptr (.own 75497472) 0) h4 fun x5 h6 _ _ => (fun (j0_9 : Hp → Option (IV × Hp)) => nilS x0 fun x188 => faddrS 2 x188 fun x189 => load1 x189 h6 fun x190 _ => addS EE 3 x190 (.fv (.int .i64 1)) fun x192 => S72_293 x0 h6 x192 x3 j0_9) fun h10 => S72_288 ih h10 x0 x5 x1 x2 h4 x3 n
theorem S72_ok (ih : Handler) (n : Nat) (x0 : IV) (x1 : IV) (x2 : IV) (x3 : IV) (h4 : Hp) : funS EE ih ft.get n 72 [x0, x1, x2, x3] h4 = S72 ih n x0 x1 x2 x3 h4 := by kernel_rfl
/-! slices.ContainsFunc[[]thyrsus/api.Tm,thyrsus/api.Tm] -/
noncomputable def S73 (ih : Handler) (n : Nat) (x0 : IV) (x1 : IV) (h2 : Hp) : Option (IV × Hp) :=
  isoS [] false false ih 104 [x0, x1] h2 fun x3 h4 _ _ => geS EE 3 x3 (.fv (.int .i64 0)) fun x7 => outS1 [x7] h4
theorem S73_ok (ih : Handler) (n : Nat) (x0 : IV) (x1 : IV) (h2 : Hp) : funS EE ih ft.get n 73 [x0, x1] h2 = S73 ih n x0 x1 h2 := by kernel_rfl
/-! (thyrsus/stage.plainly).has$1 -/
noncomputable def S74 (ih : Handler) (n : Nat) (x0 : IV) (x1 : IV) (h2 : Hp) : Option (IV × Hp) :=
  boxS 77594624 x0 h2 fun x3 h4 _ _ => load1 x1 h4 fun x7 _ => loadA 3 x3 h4 fun x9 _ => dynS EE ih x7 [x9] h4 fun x11 h12 _ _ => optS (unR .not x11) fun x15 => outS1 [x15] h12
theorem S74_ok (ih : Handler) (n : Nat) (x0 : IV) (x1 : IV) (h2 : Hp) : funS EE ih ft.get n 74 [x0, x1] h2 = S74 ih n x0 x1 h2 := by kernel_rfl
/-! thyrsus/thyrsusref11.check -/
noncomputable def S75_57 (h35 : Hp) (x30 : IV) (x20 : IV) (ih : Handler) (x34 : IV) (j1_27 : IV → Hp → Option (IV × Hp)) (x19 : IV) : Option (IV × Hp) :=
  guardS x30 true h35 (fun k38 => loadA 3 x20 h35 fun x39 r40 => k38 x39 h35 r40 []) fun x41 h42 _ _ => guardS x30 true h42 (fun k45 => isoS [] false false ih 17 [x34, x41] h42 k45) fun x46 h47 _ _ => guardS x30 true h47 (fun k50 => optS (unR .not x46) fun x51 => k50 x51 h47 [] []) fun x52 h53 _ _ => pickS x30 x52 (.fv (.bool false)) fun x56 => condS x56 (j1_27 (.fv (.int .i64 11)) h53) (j1_27 x19 h53)
noncomputable def S75_58 (h15 : Hp) (x18 : IV) (x19 : IV) (x8 : IV) (ih : Handler) : Option (IV × Hp) :=
  newS 78644230 (.row [.fv (.int .i64 0), .fv (.int .i64 0), .nils] false) (.ptr (.own 78644230) 0) h15 fun x20 h21 _ _ => storeA 3 x20 x18 h21 fun h24 _ _ => (fun (j1_27 : IV → Hp → Option (IV × Hp)) => eqS EE 3 x19 (.fv (.int .i64 0)) fun x30 => guardS x30 true h24 (fun k31 => loadA 3 x8 h24 fun x32 r33 => k31 x32 h24 r33 []) fun x34 h35 _ _ => S75_57 h35 x30 x20 ih x34 j1_27 x19) fun x28 h29 => outS1 [x28] h29
noncomputable def S75 (ih : Handler) (n : Nat) (x0 : IV) (x1 : IV) (x2 : IV) (h3 : Hp) : Option (IV × Hp) :=
  boxS 78643200 x1 h3 fun x4 h5 _ _ => boxS 78643201 x2 h5 fun x8 h9 _ _ => loadA 3 x4 h9 fun x12 _ => isoS [] false false ih 19 [x0, x12] h9 fun x14 h15 _ _ => extS 0 x14 fun x18 => extS 1 x14 fun x19 => S75_58 h15 x18 x19 x8 ih
theorem S75_ok (ih : Handler) (n : Nat) (x0 : IV) (x1 : IV) (x2 : IV) (h3 : Hp) : funS EE ih ft.get n 75 [x0, x1, x2] h3 = S75 ih n x0 x1 x2 h3 := by kernel_rfl
/-! thyrsus/thyrsusref11.plus -/
noncomputable def S76_25 (r16 : List Ref) (r13 : List Ref) (w14 : List Ref) (r9 : List Ref) (w10 : List Ref) (h12 : Hp) (x15 : IV) (x11 : IV) : Option (IV × Hp) :=
  chkS [(r13, w14), (r9, w10)] r16 [] (genS (pcBuildSlice EE 28 1 [(0, x15)]) 79692804 h12 fun x17 h18 r19 w20 => chkS [(r13, w14), (r9, w10)] r19 w20 (genS (builtinR EE 79692805 false .append [28, 28] [x11, x17]) 79692805 h18 fun x21 h22 r23 w24 => chkS [] r23 w24 (outS1 [x21] h22)))
noncomputable def S76 (ih : Handler) (n : Nat) (x0 : IV) (x1 : IV) (h2 : Hp) : Option (IV × Hp) :=
  boxS 79691776 x1 h2 fun x3 h4 _ _ => genS (pcBuildSlice EE 28 0 []) 79692800 h4 fun x7 h8 r9 w10 => chkS [] r9 w10 (genS (builtinR EE 79692802 false .append [28, 28] [x7, x0]) 79692802 h8 fun x11 h12 r13 w14 => chkS [] r13 w14 (loadA 3 x3 h12 fun x15 r16 => S76_25 r16 r13 w14 r9 w10 h12 x15 x11))
theorem S76_ok (ih : Handler) (n : Nat) (x0 : IV) (x1 : IV) (h2 : Hp) : funS EE ih ft.get n 76 [x0, x1] h2 = S76 ih n x0 x1 h2 := by kernel_rfl
/-! thyrsus/thyrsusref11.made -/
noncomputable def S77_27 (h13 : Hp) (x3 : IV) (x7 : IV) (x12 : IV) : Option (IV × Hp) :=
  loadA 3 x3 h13 fun x14 _ => storeA 3 x7 x14 h13 fun h16 _ _ => cellS true 3 x7 h16 fun x19 => outS1 [x19, x12] h16
noncomputable def S77_28 (ih : Handler) (h8 : Hp) (x21 : IV) (j1_11 : IV → Hp → Option (IV × Hp)) : Option (IV × Hp) :=
  isoS [] false false ih 35 [x21] h8 fun x23 h24 _ _ => j1_11 x23 h24
noncomputable def S77 (ih : Handler) (n : Nat) (x0 : IV) (x1 : IV) (h2 : Hp) : Option (IV × Hp) :=
  boxS 80740352 x0 h2 fun x3 h4 _ _ => newS 80740353 (.row [.fv (.int .i64 0), .fv (.int .i64 0), .nils] false) (.ptr (.own 80740353) 0) h4 fun x7 h8 _ _ => (fun (j1_11 : IV → Hp → Option (IV × Hp)) => eqS EE 3 x1 (.fv (.int .i64 0)) fun x20 => condS x20 (loadA 3 x3 h8 fun x21 _ => S77_28 ih h8 x21 j1_11) (j1_11 x1 h8)) fun x12 h13 => S77_27 h13 x3 x7 x12
theorem S77_ok (ih : Handler) (n : Nat) (x0 : IV) (x1 : IV) (h2 : Hp) : funS EE ih ft.get n 77 [x0, x1] h2 = S77 ih n x0 x1 h2 := by kernel_rfl
/-! thyrsus/thyrsusref7.under -/
noncomputable def S78_60 (x38 : IV) (h39 : Hp) (x12 : IV) : Option (IV × Hp) :=
  extS 0 x38 fun x42 => extS 1 x38 fun x43 => storeA 3 x12 x42 h39 fun h44 _ _ => cellS true 3 x12 h44 fun x47 => outS1 [x47, x43] h44
noncomputable def S78_61 (ih : Handler) (h34 : Hp) (x48 : IV) (x12 : IV) : Option (IV × Hp) :=
  isoS [] false false ih 105 [x48] h34 fun x50 h51 _ _ => extS 0 x50 fun x54 => extS 1 x50 fun x55 => storeA 3 x12 x54 h51 fun h56 _ _ => cellS true 3 x12 h56 fun x59 => outS1 [x59, x55] h56
noncomputable def S78_62 (r35 : List Ref) (w36 : List Ref) (x29 : IV) (ih : Handler) (h34 : Hp) (x12 : IV) (x30 : IV) : Option (IV × Hp) :=
  chkS [] r35 w36 (neS EE 3 x29 (.fv (.int .i64 0)) fun x37 => condS x37 (isoS [] false false ih 44 [x29] h34 fun x38 h39 _ _ => S78_60 x38 h39 x12) (loadA 3 x30 h34 fun x48 _ => S78_61 ih h34 x48 x12))
noncomputable def S78_63 (x24 : IV) (h25 : Hp) (r26 : List Ref) (w27 : List Ref) (r23 : List Ref) (r20 : List Ref) (w21 : List Ref) (r17 : List Ref) (ih : Handler) (x12 : IV) : Option (IV × Hp) :=
  extS 0 x24 fun x28 => extS 1 x24 fun x29 => newS 81789960 (.row [.fv (.int .i64 0), .fv (.int .i64 0), .nils] false) (.ptr (.own 81789960) 0) h25 fun x30 h31 r32 w33 => chkS [(r26, w27), (r23, []), (r20, w21), (r17, [])] r32 w33 (storeA 3 x30 x28 h31 fun h34 r35 w36 => S78_62 r35 w36 x29 ih h34 x12 x30)
noncomputable def S78_64 (r20 : List Ref) (w21 : List Ref) (h19 : Hp) (x8 : IV) (r17 : List Ref) (ih : Handler) (x18 : IV) (x12 : IV) : Option (IV × Hp) :=
  chkS [] r20 w21 (loadA 3 x8 h19 fun x22 r23 => chkS [(r20, w21), (r17, [])] r23 [] (isoS [] false false ih 20 [x18, .fv (.int .i64 0), x22] h19 fun x24 h25 r26 w27 => chkS [] r26 w27 (S78_63 x24 h25 r26 w27 r23 r20 w21 r17 ih x12)))
noncomputable def S78 (ih : Handler) (n : Nat) (x0 : IV) (x1 : IV) (x2 : IV) (h3 : Hp) : Option (IV × Hp) :=
  boxS 81788928 x1 h3 fun x4 h5 _ _ => boxS 81788929 x2 h5 fun x8 h9 _ _ => newS 81788930 (.row [.fv (.int .i64 0), .fv (.int .i64 0), .nils] false) (.ptr (.own 81788930) 0) h9 fun x12 h13 _ _ => loadA 3 x4 h13 fun x16 r17 => chkS [] r17 [] (isoS [] false false ih 79 [x0, .fv (.int .i64 0), x16] h13 fun x18 h19 r20 w21 => S78_64 r20 w21 h19 x8 r17 ih x18 x12)
theorem S78_ok (ih : Handler) (n : Nat) (x0 : IV) (x1 : IV) (x2 : IV) (h3 : Hp) : funS EE ih ft.get n 78 [x0, x1, x2] h3 = S78 ih n x0 x1 x2 h3 := by kernel_rfl
/-! thyrsus/thyrsusref7.below -/
noncomputable def S79_27 (r25 : List Ref) (w26 : List Ref) (h24 : Hp) (x23 : IV) : Option (IV × Hp) :=
  chkS [] r25 w26 (outS1 [x23] h24)
noncomputable def S79_28 (r17 : List Ref) (r14 : List Ref) (w15 : List Ref) (r10 : List Ref) (w11 : List Ref) (x1 : IV) (x16 : IV) (h13 : Hp) (x12 : IV) : Option (IV × Hp) :=
  chkS [(r14, w15), (r10, w11)] r17 [] (bldS [.fv (.int .i64 0), .fv (.int .i64 0), .fv (.int .i64 0), .nils] [(0, 1, x1), (1, 3, x16)] fun x18 => genS (pcBuildSlice EE 27 1 [(0, x18)]) 82838534 h13 fun x19 h20 r21 w22 => chkS [(r14, w15), (r10, w11)] r21 w22 (genS (builtinR EE 82838535 false .append [27, 27] [x12, x19]) 82838535 h20 fun x23 h24 r25 w26 => S79_27 r25 w26 h24 x23))
noncomputable def S79 (ih : Handler) (n : Nat) (x0 : IV) (x1 : IV) (x2 : IV) (h3 : Hp) : Option (IV × Hp) :=
  boxS 82837504 x2 h3 fun x4 h5 _ _ => genS (pcBuildSlice EE 27 0 []) 82838528 h5 fun x8 h9 r10 w11 => chkS [] r10 w11 (genS (builtinR EE 82838530 false .append [27, 27] [x8, x0]) 82838530 h9 fun x12 h13 r14 w15 => chkS [] r14 w15 (loadA 3 x4 h13 fun x16 r17 => S79_28 r17 r14 w15 r10 w11 x1 x16 h13 x12))
theorem S79_ok (ih : Handler) (n : Nat) (x0 : IV) (x1 : IV) (x2 : IV) (h3 : Hp) : funS EE ih ft.get n 79 [x0, x1, x2] h3 = S79 ih n x0 x1 x2 h3 := by kernel_rfl
/-! thyrsus/thyrsusref7.shaped -/
noncomputable def S80_74 (x32 : IV) (h33 : Hp) (x9 : IV) (x36 : IV) : Option (IV × Hp) :=
  extS 1 x32 fun x37 => storeA 3 x9 x36 h33 fun h38 _ _ => cellS true 3 x9 h38 fun x41 => outS1 [x41, x37] h38
noncomputable def S80_75 (h44 : Hp) (x9 : IV) : Option (IV × Hp) :=
  cellS true 3 x9 h44 fun x47 => outS1 [x47, .fv (.int .i64 0)] h44
noncomputable def S80_76 (x29 : IV) (ih : Handler) (h30 : Hp) (x9 : IV) (x21 : IV) : Option (IV × Hp) :=
  neS EE 3 x29 (.fv (.int .i64 0)) fun x31 => condS x31 (isoS [] false false ih 44 [x29] h30 fun x32 h33 _ _ => extS 0 x32 fun x36 => S80_74 x32 h33 x9 x36) (loadA 3 x21 h30 fun x42 _ => storeA 3 x9 x42 h30 fun h44 _ _ => S80_75 h44 x9)
noncomputable def S80_77 (h52 : Hp) (x48 : IV) (x51 : IV) (x3 : IV) (j1_28 : IV → Hp → Option (IV × Hp)) (x20 : IV) : Option (IV × Hp) :=
  guardS x48 true h52 (fun k55 => load1 x51 h52 fun x56 r57 => k55 x56 h52 r57 []) fun x58 h59 _ _ => guardS x48 true h59 (fun k62 => k62 x3 h59 [] []) fun x63 h64 _ _ => guardS x48 true h64 (fun k67 => neS EE 3 x58 x63 fun x68 => k67 x68 h64 [] []) fun x69 h70 _ _ => pickS x48 x69 (.fv (.bool false)) fun x73 => condS x73 (j1_28 (.fv (.int .i64 12)) h70) (j1_28 x20 h70)
noncomputable def S80_78 (h16 : Hp) (x19 : IV) (ih : Handler) (x9 : IV) (x20 : IV) (x3 : IV) : Option (IV × Hp) :=
  newS 83887111 (.row [.fv (.int .i64 0), .fv (.int .i64 0), .nils] false) (.ptr (.own 83887111) 0) h16 fun x21 h22 _ _ => storeA 3 x21 x19 h22 fun h25 _ _ => (fun (j1_28 : IV → Hp → Option (IV × Hp)) => eqS EE 3 x20 (.fv (.int .i64 0)) fun x48 => guardS x48 true h25 (fun k49 => faddrS 0 x21 fun x50 => k49 x50 h25 [] []) fun x51 h52 _ _ => S80_77 h52 x48 x51 x3 j1_28 x20) fun x29 h30 => S80_76 x29 ih h30 x9 x21
noncomputable def S80 (ih : Handler) (n : Nat) (x0 : IV) (x1 : IV) (x2 : IV) (x3 : IV) (h4 : Hp) : Option (IV × Hp) :=
  boxS 83886080 x2 h4 fun x5 h6 _ _ => newS 83886081 (.row [.fv (.int .i64 0), .fv (.int .i64 0), .nils] false) (.ptr (.own 83886081) 0) h6 fun x9 h10 _ _ => loadA 3 x5 h10 fun x13 _ => isoS [] false false ih 20 [x0, x1, x13] h10 fun x15 h16 _ _ => extS 0 x15 fun x19 => extS 1 x15 fun x20 => S80_78 h16 x19 ih x9 x20 x3
theorem S80_ok (ih : Handler) (n : Nat) (x0 : IV) (x1 : IV) (x2 : IV) (x3 : IV) (h4 : Hp) : funS EE ih ft.get n 80 [x0, x1, x2, x3] h4 = S80 ih n x0 x1 x2 x3 h4 := by kernel_rfl
/-! thyrsus/thyrsusref7.parts -/
noncomputable def S81_259 (x38 : IV) (h39 : Hp) (x7 : IV) (x42 : IV) : Option (IV × Hp) :=
  extS 1 x38 fun x43 => storeA 3 x7 x42 h39 fun h44 _ _ => cellS true 3 x7 h44 fun x47 => outS1 [x47, x43] h44
noncomputable def S81_260 (x49 : IV) (h36 : Hp) (x7 : IV) : Option (IV × Hp) :=
  ixS 3 x49 (.fv (.int .i64 1)) fun x51 => loadA 3 x51 h36 fun x52 _ => storeA 3 x7 x52 h36 fun h54 _ _ => cellS true 3 x7 h54 fun x57 => outS1 [x57, .fv (.int .i64 0)] h54
noncomputable def S81_261 (x35 : IV) (ih : Handler) (h36 : Hp) (x7 : IV) (x27 : IV) : Option (IV × Hp) :=
  neS EE 3 x35 (.fv (.int .i64 0)) fun x37 => condS x37 (isoS [] false false ih 44 [x35] h36 fun x38 h39 _ _ => extS 0 x38 fun x42 => S81_259 x38 h39 x7 x42) (faddrS 2 x27 fun x48 => load1 x48 h36 fun x49 _ => S81_260 x49 h36 x7)
noncomputable def S81_262 (x63 : IV) (h31 : Hp) (r61 : List Ref) (ih : Handler) (x0 : IV) (x60 : IV) (j1_34 : IV → Hp → Option (IV × Hp)) : Option (IV × Hp) :=
  ixS 3 x63 (.fv (.int .i64 0)) fun x65 => loadA 3 x65 h31 fun x66 r67 => chkS [(r61, [])] r67 [] (isoS [] false false ih 48 [x0, .fv (.int .i64 0), x60, x66] h31 fun x68 h69 r70 w71 => chkS [] r70 w71 (j1_34 x68 h69))
noncomputable def S81_263 (h31 : Hp) (x59 : IV) (x27 : IV) (ih : Handler) (x0 : IV) (j1_34 : IV → Hp → Option (IV × Hp)) : Option (IV × Hp) :=
  loadA 3 x59 h31 fun x60 r61 => chkS [] r61 [] (faddrS 2 x27 fun x62 => load1 x62 h31 fun x63 r64 => chkS [(r61, [])] r64 [] (S81_262 x63 h31 r61 ih x0 x60 j1_34))
noncomputable def S81_264 (ih : Handler) (x7 : IV) (x27 : IV) (x26 : IV) (x12 : IV) (h31 : Hp) (x0 : IV) : Option (IV × Hp) :=
  (fun (j1_34 : IV → Hp → Option (IV × Hp)) => eqS EE 3 x26 (.fv (.int .i64 0)) fun x58 => condS x58 (ixS 3 x12 (.fv (.int .i64 1)) fun x59 => S81_263 h31 x59 x27 ih x0 j1_34) (j1_34 x26 h31)) fun x35 h36 => S81_261 x35 ih h36 x7 x27
noncomputable def S81_265 (ih : Handler) (h8 : Hp) (x0 : IV) (x19 : IV) (x7 : IV) (x12 : IV) : Option (IV × Hp) :=
  isoS [] false false ih 80 [x0, .fv (.int .i64 0), x19, .fv (.int .i64 16)] h8 fun x21 h22 _ _ => extS 0 x21 fun x25 => extS 1 x21 fun x26 => newS 84938760 (.row [.fv (.int .i64 0), .fv (.int .i64 0), .nils] false) (.ptr (.own 84938760) 0) h22 fun x27 h28 _ _ => storeA 3 x27 x25 h28 fun h31 _ _ => S81_264 ih x7 x27 x26 x12 h31 x0
noncomputable def S81_266 (x90 : IV) (h91 : Hp) (x7 : IV) : Option (IV × Hp) :=
  extS 0 x90 fun x94 => extS 1 x90 fun x95 => storeA 3 x7 x94 h91 fun h96 _ _ => cellS true 3 x7 h96 fun x99 => outS1 [x99, x95] h96
noncomputable def S81_267 (x117 : IV) (h118 : Hp) (x7 : IV) : Option (IV × Hp) :=
  extS 0 x117 fun x121 => extS 1 x117 fun x122 => storeA 3 x7 x121 h118 fun h123 _ _ => cellS true 3 x7 h123 fun x126 => outS1 [x126, x122] h123
noncomputable def S81_268 (x139 : IV) (h140 : Hp) (x7 : IV) (x143 : IV) : Option (IV × Hp) :=
  extS 1 x139 fun x144 => storeA 3 x7 x143 h140 fun h145 _ _ => cellS true 3 x7 h145 fun x148 => outS1 [x148, x144] h145
noncomputable def S81_269 (h113 : Hp) (x109 : IV) (x127 : IV) (ih : Handler) (x7 : IV) : Option (IV × Hp) :=
  loadA 3 x109 h113 fun x129 _ => genS (pcBuildSlice EE 28 2 [(0, x127), (1, x129)]) 84952066 h113 fun x131 h132 _ _ => isoS [] false false ih 24 [.fv (.int .i64 17), x131] h132 fun x135 h136 _ _ => isoS [] false false ih 34 [x135] h136 fun x139 h140 _ _ => extS 0 x139 fun x143 => S81_268 x139 h140 x7 x143
noncomputable def S81_270 (h110 : Hp) (x109 : IV) (x107 : IV) (x108 : IV) (ih : Handler) (x7 : IV) (x82 : IV) : Option (IV × Hp) :=
  storeA 3 x109 x107 h110 fun h113 _ _ => neS EE 3 x108 (.fv (.int .i64 0)) fun x116 => condS x116 (isoS [] false false ih 44 [x108] h113 fun x117 h118 _ _ => S81_267 x117 h118 x7) (loadA 3 x82 h113 fun x127 _ => S81_269 h113 x109 x127 ih x7)
noncomputable def S81_271 (h86 : Hp) (x100 : IV) (ih : Handler) (x0 : IV) (x7 : IV) (x82 : IV) : Option (IV × Hp) :=
  loadA 3 x100 h86 fun x101 _ => isoS [] false false ih 20 [x0, .fv (.int .i64 0), x101] h86 fun x103 h104 _ _ => extS 0 x103 fun x107 => extS 1 x103 fun x108 => newS 84949000 (.row [.fv (.int .i64 0), .fv (.int .i64 0), .nils] false) (.ptr (.own 84949000) 0) h104 fun x109 h110 _ _ => S81_270 h110 x109 x107 x108 ih x7 x82
noncomputable def S81_272 (h77 : Hp) (x80 : IV) (x81 : IV) (ih : Handler) (x7 : IV) (x12 : IV) (x0 : IV) : Option (IV × Hp) :=
  newS 84945928 (.row [.fv (.int .i64 0), .fv (.int .i64 0), .nils] false) (.ptr (.own 84945928) 0) h77 fun x82 h83 _ _ => storeA 3 x82 x80 h83 fun h86 _ _ => neS EE 3 x81 (.fv (.int .i64 0)) fun x89 => condS x89 (isoS [] false false ih 44 [x81] h86 fun x90 h91 _ _ => S81_266 x90 h91 x7) (ixS 3 x12 (.fv (.int .i64 1)) fun x100 => S81_271 h86 x100 ih x0 x7 x82)
noncomputable def S81_273 (x12 : IV) (h8 : Hp) (ih : Handler) (x0 : IV) (x7 : IV) : Option (IV × Hp) :=
  ixS 3 x12 (.fv (.int .i64 0)) fun x73 => loadA 3 x73 h8 fun x74 _ => isoS [] false false ih 20 [x0, .fv (.int .i64 0), x74] h8 fun x76 h77 _ _ => extS 0 x76 fun x80 => extS 1 x76 fun x81 => S81_272 h77 x80 x81 ih x7 x12 x0
noncomputable def S81_274 (x162 : IV) (h163 : Hp) (x7 : IV) (x166 : IV) : Option (IV × Hp) :=
  extS 1 x162 fun x167 => storeA 3 x7 x166 h163 fun h168 _ _ => cellS true 3 x7 h168 fun x171 => outS1 [x171, x167] h168
noncomputable def S81_275 (x192 : IV) (h193 : Hp) (x7 : IV) (x196 : IV) : Option (IV × Hp) :=
  extS 1 x192 fun x197 => storeA 3 x7 x196 h193 fun h198 _ _ => cellS true 3 x7 h198 fun x201 => outS1 [x201, x197] h198
noncomputable def S81_276 (h204 : Hp) (x7 : IV) : Option (IV × Hp) :=
  cellS true 3 x7 h204 fun x207 => outS1 [x207, .fv (.int .i64 0)] h204
noncomputable def S81_277 (x189 : IV) (ih : Handler) (h190 : Hp) (x7 : IV) (x181 : IV) : Option (IV × Hp) :=
  neS EE 3 x189 (.fv (.int .i64 0)) fun x191 => condS x191 (isoS [] false false ih 44 [x189] h190 fun x192 h193 _ _ => extS 0 x192 fun x196 => S81_275 x192 h193 x7 x196) (loadA 3 x181 h190 fun x202 _ => storeA 3 x7 x202 h190 fun h204 _ _ => S81_276 h204 x7)
noncomputable def S81_278 (r216 : List Ref) (w217 : List Ref) (j1_188 : IV → Hp → Option (IV × Hp)) (h215 : Hp) (x214 : IV) : Option (IV × Hp) :=
  chkS [] r216 w217 (j1_188 x214 h215)
noncomputable def S81_279 (h185 : Hp) (x209 : IV) (x181 : IV) (ih : Handler) (x0 : IV) (j1_188 : IV → Hp → Option (IV × Hp)) : Option (IV × Hp) :=
  loadA 3 x209 h185 fun x210 r211 => chkS [] r211 [] (loadA 3 x181 h185 fun x212 r213 => chkS [(r211, [])] r213 [] (isoS [] false false ih 48 [x0, .fv (.int .i64 0), x210, x212] h185 fun x214 h215 r216 w217 => S81_278 r216 w217 j1_188 h215 x214))
noncomputable def S81_280 (ih : Handler) (x7 : IV) (x181 : IV) (x180 : IV) (x12 : IV) (h185 : Hp) (x0 : IV) : Option (IV × Hp) :=
  (fun (j1_188 : IV → Hp → Option (IV × Hp)) => eqS EE 3 x180 (.fv (.int .i64 0)) fun x208 => condS x208 (ixS 3 x12 (.fv (.int .i64 2)) fun x209 => S81_279 h185 x209 x181 ih x0 j1_188) (j1_188 x180 h185)) fun x189 h190 => S81_277 x189 ih h190 x7 x181
noncomputable def S81_281 (ih : Handler) (h158 : Hp) (x0 : IV) (x173 : IV) (x7 : IV) (x12 : IV) : Option (IV × Hp) :=
  isoS [] false false ih 20 [x0, .fv (.int .i64 0), x173] h158 fun x175 h176 _ _ => extS 0 x175 fun x179 => extS 1 x175 fun x180 => newS 84957192 (.row [.fv (.int .i64 0), .fv (.int .i64 0), .nils] false) (.ptr (.own 84957192) 0) h176 fun x181 h182 _ _ => storeA 3 x181 x179 h182 fun h185 _ _ => S81_280 ih x7 x181 x180 x12 h185 x0
noncomputable def S81_282 (x157 : IV) (ih : Handler) (h158 : Hp) (x7 : IV) (x12 : IV) (x0 : IV) : Option (IV × Hp) :=
  neS EE 3 x157 (.fv (.int .i64 0)) fun x161 => condS x161 (isoS [] false false ih 44 [x157] h158 fun x162 h163 _ _ => extS 0 x162 fun x166 => S81_274 x162 h163 x7 x166) (ixS 3 x12 (.fv (.int .i64 1)) fun x172 => loadA 3 x172 h158 fun x173 _ => S81_281 ih h158 x0 x173 x7 x12)
noncomputable def S81_283 (r152 : List Ref) (ih : Handler) (h8 : Hp) (x0 : IV) (x151 : IV) (x7 : IV) (x12 : IV) : Option (IV × Hp) :=
  chkS [] r152 [] (isoS [] false false ih 24 [.fv (.int .i64 15), .nils] h8 fun x153 h154 r155 w156 => chkS [(r152, [])] r155 w156 (isoS [] false false ih 48 [x0, .fv (.int .i64 0), x151, x153] h154 fun x157 h158 r159 w160 => chkS [] r159 w160 (S81_282 x157 ih h158 x7 x12 x0)))
noncomputable def S81_284 (x235 : IV) (h236 : Hp) (x7 : IV) (x239 : IV) : Option (IV × Hp) :=
  extS 1 x235 fun x240 => storeA 3 x7 x239 h236 fun h241 _ _ => cellS true 3 x7 h241 fun x244 => outS1 [x244, x240] h241
noncomputable def S81_285 (h231 : Hp) (x7 : IV) (x253 : IV) : Option (IV × Hp) :=
  storeA 3 x7 x253 h231 fun h255 _ _ => cellS true 3 x7 h255 fun x258 => outS1 [x258, .fv (.int .i64 0)] h255
noncomputable def S81_286 (x3 : IV) (h231 : Hp) (x246 : IV) (x7 : IV) : Option (IV × Hp) :=
  faddrS 0 x3 fun x248 => load1 x248 h231 fun x249 _ => subS EE 3 x249 (.fv (.int .i64 23)) fun x251 => ixS 3 x246 x251 fun x252 => loadA 3 x252 h231 fun x253 _ => S81_285 h231 x7 x253
noncomputable def S81_287 (x226 : IV) (ih : Handler) (h231 : Hp) (x7 : IV) (x227 : IV) (x3 : IV) : Option (IV × Hp) :=
  neS EE 3 x226 (.fv (.int .i64 0)) fun x234 => condS x234 (isoS [] false false ih 44 [x226] h231 fun x235 h236 _ _ => extS 0 x235 fun x239 => S81_284 x235 h236 x7 x239) (faddrS 2 x227 fun x245 => load1 x245 h231 fun x246 _ => S81_286 x3 h231 x246 x7)
noncomputable def S81_288 (ih : Handler) (h8 : Hp) (x0 : IV) (x219 : IV) (x7 : IV) (x3 : IV) : Option (IV × Hp) :=
  isoS [] false false ih 80 [x0, .fv (.int .i64 0), x219, .fv (.int .i64 17)] h8 fun x221 h222 _ _ => extS 0 x221 fun x225 => extS 1 x221 fun x226 => newS 84963336 (.row [.fv (.int .i64 0), .fv (.int .i64 0), .nils] false) (.ptr (.own 84963336) 0) h222 fun x227 h228 _ _ => storeA 3 x227 x225 h228 fun h231 _ _ => S81_287 x226 ih h231 x7 x227 x3
noncomputable def S81_289 (x15 : IV) (x12 : IV) (h8 : Hp) (ih : Handler) (x0 : IV) (x7 : IV) (x3 : IV) : Option (IV × Hp) :=
  eqS EE 3 x15 (.fv (.int .i64 27)) fun x149 => condS x149 (ixS 3 x12 (.fv (.int .i64 0)) fun x150 => loadA 3 x150 h8 fun x151 r152 => S81_283 r152 ih h8 x0 x151 x7 x12) (ixS 3 x12 (.fv (.int .i64 0)) fun x218 => loadA 3 x218 h8 fun x219 _ => S81_288 ih h8 x0 x219 x7 x3)
noncomputable def S81_290 (x15 : IV) (x12 : IV) (h8 : Hp) (ih : Handler) (x0 : IV) (x7 : IV) (x3 : IV) : Option (IV × Hp) :=
  eqS EE 3 x15 (.fv (.int .i64 21)) fun x17 => condS x17 (ixS 3 x12 (.fv (.int .i64 0)) fun x18 => loadA 3 x18 h8 fun x19 _ => S81_265 ih h8 x0 x19 x7 x12) (eqS EE 3 x15 (.fv (.int .i64 22)) fun x72 => condS x72 (S81_273 x12 h8 ih x0 x7) (S81_289 x15 x12 h8 ih x0 x7 x3))
noncomputable def S81 (ih : Handler) (n : Nat) (x0 : IV) (x1 : IV) (h2 : Hp) : Option (IV × Hp) :=
  boxS 84934656 x1 h2 fun x3 h4 _ _ => newS 84934657 (.row [.fv (.int .i64 0), .fv (.int .i64 0), .nils] false) (.ptr (.own 84934657) 0) h4 fun x7 h8 _ _ => faddrS 2 x3 fun x11 => load1 x11 h8 fun x12 _ => faddrS 0 x3 fun x14 => load1 x14 h8 fun x15 _ => S81_290 x15 x12 h8 ih x0 x7 x3
theorem S81_ok (ih : Handler) (n : Nat) (x0 : IV) (x1 : IV) (h2 : Hp) : funS EE ih ft.get n 81 [x0, x1] h2 = S81 ih n x0 x1 h2 := by kernel_rfl
/-! thyrsus/thyrsusref6.Equal -/
noncomputable def S82_59 (r53 : List Ref) (w54 : List Ref) (ih : Handler) (h52 : Hp) (x45 : IV) (x51 : IV) : Option (IV × Hp) :=
  chkS [] r53 w54 (isoS [] false false ih 17 [x45, x51] h52 fun x55 h56 r57 w58 => chkS [] r57 w58 (outS1 [x55, .fv (.int .i64 0)] h56))
noncomputable def S82_60 (ih : Handler) (h39 : Hp) (x43 : IV) (x35 : IV) (r44 : List Ref) : Option (IV × Hp) :=
  isoS [] false false ih 86 [x43] h39 fun x45 h46 r47 w48 => chkS [] r47 w48 (loadA 3 x35 h46 fun x49 r50 => chkS [(r47, w48), (r44, [])] r50 [] (isoS [] false false ih 86 [x49] h46 fun x51 h52 r53 w54 => S82_59 r53 w54 ih h52 x45 x51))
noncomputable def S82_61 (x34 : IV) (h39 : Hp) (x19 : IV) (ih : Handler) (x35 : IV) : Option (IV × Hp) :=
  neS EE 3 x34 (.fv (.int .i64 0)) fun x42 => condS x42 (outS1 [.fv (.bool false), x34] h39) (loadA 3 x19 h39 fun x43 r44 => chkS [] r44 [] (S82_60 ih h39 x43 x35 r44))
noncomputable def S82_62 (ih : Handler) (h23 : Hp) (x27 : IV) (x19 : IV) : Option (IV × Hp) :=
  isoS [] false false ih 34 [x27] h23 fun x29 h30 _ _ => extS 0 x29 fun x33 => extS 1 x29 fun x34 => newS 85987333 (.row [.fv (.int .i64 0), .fv (.int .i64 0), .nils] false) (.ptr (.own 85987333) 0) h30 fun x35 h36 _ _ => storeA 3 x35 x33 h36 fun h39 _ _ => S82_61 x34 h39 x19 ih x35
noncomputable def S82_63 (h14 : Hp) (x17 : IV) (x18 : IV) (x7 : IV) (ih : Handler) : Option (IV × Hp) :=
  newS 85984261 (.row [.fv (.int .i64 0), .fv (.int .i64 0), .nils] false) (.ptr (.own 85984261) 0) h14 fun x19 h20 _ _ => storeA 3 x19 x17 h20 fun h23 _ _ => neS EE 3 x18 (.fv (.int .i64 0)) fun x26 => condS x26 (outS1 [.fv (.bool false), x18] h23) (loadA 3 x7 h23 fun x27 _ => S82_62 ih h23 x27 x19)
noncomputable def S82 (ih : Handler) (n : Nat) (x0 : IV) (x1 : IV) (h2 : Hp) : Option (IV × Hp) :=
  boxS 85983232 x0 h2 fun x3 h4 _ _ => boxS 85983233 x1 h4 fun x7 h8 _ _ => loadA 3 x3 h8 fun x11 _ => isoS [] false false ih 34 [x11] h8 fun x13 h14 _ _ => extS 0 x13 fun x17 => extS 1 x13 fun x18 => S82_63 h14 x17 x18 x7 ih
theorem S82_ok (ih : Handler) (n : Nat) (x0 : IV) (x1 : IV) (h2 : Hp) : funS EE ih ft.get n 82 [x0, x1] h2 = S82 ih n x0 x1 h2 := by kernel_rfl
/-! thyrsus/thyrsusref7.Level -/
noncomputable def S83_30 (h19 : Hp) (x27 : IV) : Option (IV × Hp) :=
  load1 x27 h19 fun x28 _ => outS1 [x28, .fv (.int .i64 0)] h19
noncomputable def S83_31 (h19 : Hp) (x23 : IV) (x15 : IV) : Option (IV × Hp) :=
  load1 x23 h19 fun x24 _ => neS EE 3 x24 (.fv (.int .i64 2)) fun x26 => condS x26 (outS1 [.fv (.int .i64 0), .fv (.int .i64 12)] h19) (faddrS 1 x15 fun x27 => S83_30 h19 x27)
noncomputable def S83_32 (h16 : Hp) (x15 : IV) (x13 : IV) (x14 : IV) : Option (IV × Hp) :=
  storeA 3 x15 x13 h16 fun h19 _ _ => neS EE 3 x14 (.fv (.int .i64 0)) fun x22 => condS x22 (outS1 [.fv (.int .i64 0), x14] h19) (faddrS 0 x15 fun x23 => S83_31 h19 x23 x15)
noncomputable def S83 (ih : Handler) (n : Nat) (x0 : IV) (x1 : IV) (h2 : Hp) : Option (IV × Hp) :=
  boxS 87031808 x1 h2 fun x3 h4 _ _ => loadA 3 x3 h4 fun x7 _ => isoS [] false false ih 20 [x0, .fv (.int .i64 1), x7] h4 fun x9 h10 _ _ => extS 0 x9 fun x13 => extS 1 x9 fun x14 => newS 87032838 (.row [.fv (.int .i64 0), .fv (.int .i64 0), .nils] false) (.ptr (.own 87032838) 0) h10 fun x15 h16 _ _ => S83_32 h16 x15 x13 x14
theorem S83_ok (ih : Handler) (n : Nat) (x0 : IV) (x1 : IV) (h2 : Hp) : funS EE ih ft.get n 83 [x0, x1] h2 = S83 ih n x0 x1 h2 := by kernel_rfl
/-! thyrsus/thyrsusref7.pair -/
noncomputable def S84_151 (ih : Handler) (h18 : Hp) (x22 : IV) (x7 : IV) : Option (IV × Hp) :=
  isoS [] false false ih 44 [x22] h18 fun x24 h25 _ _ => extS 0 x24 fun x28 => extS 1 x24 fun x29 => storeA 3 x7 x28 h25 fun h30 _ _ => cellS true 3 x7 h30 fun x33 => outS1 [x33, x29] h30
noncomputable def S84_152 (x57 : IV) (h58 : Hp) (x7 : IV) (x61 : IV) : Option (IV × Hp) :=
  extS 1 x57 fun x62 => storeA 3 x7 x61 h58 fun h63 _ _ => cellS true 3 x7 h63 fun x66 => outS1 [x66, x62] h63
noncomputable def S84_153 (x87 : IV) (h88 : Hp) (x7 : IV) (x91 : IV) : Option (IV × Hp) :=
  extS 1 x87 fun x92 => storeA 3 x7 x91 h88 fun h93 _ _ => cellS true 3 x7 h93 fun x96 => outS1 [x96, x92] h93
noncomputable def S84_154 (h99 : Hp) (x7 : IV) : Option (IV × Hp) :=
  cellS true 3 x7 h99 fun x102 => outS1 [x102, .fv (.int .i64 0)] h99
noncomputable def S84_155 (x84 : IV) (ih : Handler) (h85 : Hp) (x7 : IV) (x46 : IV) : Option (IV × Hp) :=
  neS EE 3 x84 (.fv (.int .i64 0)) fun x86 => condS x86 (isoS [] false false ih 44 [x84] h85 fun x87 h88 _ _ => extS 0 x87 fun x91 => S84_153 x87 h88 x7 x91) (loadA 3 x46 h85 fun x97 _ => storeA 3 x7 x97 h85 fun h99 _ _ => S84_154 h99 x7)
noncomputable def S84_156 (ih : Handler) (h123 : Hp) (x0 : IV) (x108 : IV) (x122 : IV) (j1_83 : IV → Hp → Option (IV × Hp)) : Option (IV × Hp) :=
  isoS [] false false ih 48 [x0, .fv (.int .i64 1), x108, x122] h123 fun x126 h127 r128 w129 => chkS [] r128 w129 (j1_83 x126 h127)
noncomputable def S84_157 (x117 : IV) (h80 : Hp) (r115 : List Ref) (r112 : List Ref) (r109 : List Ref) (r106 : List Ref) (ih : Handler) (x114 : IV) (x0 : IV) (x108 : IV) (j1_83 : IV → Hp → Option (IV × Hp)) : Option (IV × Hp) :=
  ixS 3 x117 (.fv (.int .i64 1)) fun x119 => loadA 3 x119 h80 fun x120 r121 => chkS [(r115, []), (r112, []), (r109, []), (r106, [])] r121 [] (isoS [] false false ih 67 [x114, .fv (.int .i64 0), x120] h80 fun x122 h123 r124 w125 => chkS [(r109, []), (r106, [])] r124 w125 (S84_156 ih h123 x0 x108 x122 j1_83))
noncomputable def S84_158 (h80 : Hp) (x113 : IV) (r109 : List Ref) (r106 : List Ref) (x3 : IV) (r112 : List Ref) (ih : Handler) (x0 : IV) (x108 : IV) (j1_83 : IV → Hp → Option (IV × Hp)) : Option (IV × Hp) :=
  loadA 3 x113 h80 fun x114 r115 => chkS [(r109, []), (r106, [])] r115 [] (faddrS 2 x3 fun x116 => load1 x116 h80 fun x117 r118 => chkS [(r115, []), (r112, []), (r109, []), (r106, [])] r118 [] (S84_157 x117 h80 r115 r112 r109 r106 ih x114 x0 x108 j1_83))
noncomputable def S84_159 (r109 : List Ref) (x46 : IV) (h80 : Hp) (r106 : List Ref) (x3 : IV) (ih : Handler) (x0 : IV) (x108 : IV) (j1_83 : IV → Hp → Option (IV × Hp)) : Option (IV × Hp) :=
  chkS [] r109 [] (faddrS 2 x46 fun x110 => load1 x110 h80 fun x111 r112 => chkS [(r109, []), (r106, [])] r112 [] (ixS 3 x111 (.fv (.int .i64 1)) fun x113 => S84_158 h80 x113 r109 r106 x3 r112 ih x0 x108 j1_83))
noncomputable def S84_160 (x3 : IV) (h80 : Hp) (x46 : IV) (ih : Handler) (x0 : IV) (j1_83 : IV → Hp → Option (IV × Hp)) : Option (IV × Hp) :=
  faddrS 2 x3 fun x104 => load1 x104 h80 fun x105 r106 => chkS [] r106 [] (ixS 3 x105 (.fv (.int .i64 2)) fun x107 => loadA 3 x107 h80 fun x108 r109 => S84_159 r109 x46 h80 r106 x3 ih x0 x108 j1_83)
noncomputable def S84_161 (ih : Handler) (h55 : Hp) (x0 : IV) (x71 : IV) (x77 : IV) (x7 : IV) (x46 : IV) (x3 : IV) : Option (IV × Hp) :=
  isoS [] false false ih 48 [x0, .fv (.int .i64 1), x71, x77] h55 fun x79 h80 r81 w82 => chkS [] r81 w82 ((fun (j1_83 : IV → Hp → Option (IV × Hp)) => eqS EE 3 x79 (.fv (.int .i64 0)) fun x103 => condS x103 (S84_160 x3 h80 x46 ih x0 j1_83) (j1_83 x79 h80)) fun x84 h85 => S84_155 x84 ih h85 x7 x46)
noncomputable def S84_162 (h55 : Hp) (x73 : IV) (r72 : List Ref) (r69 : List Ref) (ih : Handler) (x0 : IV) (x71 : IV) (x7 : IV) (x46 : IV) (x3 : IV) : Option (IV × Hp) :=
  load1 x73 h55 fun x74 r75 => chkS [(r72, []), (r69, [])] r75 [] (ixS 3 x74 (.fv (.int .i64 0)) fun x76 => loadA 3 x76 h55 fun x77 r78 => chkS [(r72, []), (r69, [])] r78 [] (S84_161 ih h55 x0 x71 x77 x7 x46 x3))
noncomputable def S84_163 (r69 : List Ref) (x68 : IV) (h55 : Hp) (x46 : IV) (ih : Handler) (x0 : IV) (x7 : IV) (x3 : IV) : Option (IV × Hp) :=
  chkS [] r69 [] (ixS 3 x68 (.fv (.int .i64 1)) fun x70 => loadA 3 x70 h55 fun x71 r72 => chkS [] r72 [] (faddrS 2 x46 fun x73 => S84_162 h55 x73 r72 r69 ih x0 x71 x7 x46 x3))
noncomputable def S84_164 (x54 : IV) (ih : Handler) (h55 : Hp) (x7 : IV) (x3 : IV) (x46 : IV) (x0 : IV) : Option (IV × Hp) :=
  neS EE 3 x54 (.fv (.int .i64 0)) fun x56 => condS x56 (isoS [] false false ih 44 [x54] h55 fun x57 h58 _ _ => extS 0 x57 fun x61 => S84_152 x57 h58 x7 x61) (faddrS 2 x3 fun x67 => load1 x67 h55 fun x68 r69 => S84_163 r69 x68 h55 x46 ih x0 x7 x3)
noncomputable def S84_165 (x150 : IV) (j1_53 : IV → Hp → Option (IV × Hp)) (h147 : Hp) (x45 : IV) : Option (IV × Hp) :=
  condS x150 (j1_53 (.fv (.int .i64 12)) h147) (j1_53 x45 h147)
noncomputable def S84_166 (x45 : IV) (h50 : Hp) (x46 : IV) (j1_53 : IV → Hp → Option (IV × Hp)) : Option (IV × Hp) :=
  eqS EE 3 x45 (.fv (.int .i64 0)) fun x130 => guardS x130 true h50 (fun k131 => faddrS 0 x46 fun x132 => k131 x132 h50 [] []) fun x133 h134 _ _ => guardS x130 true h134 (fun k137 => load1 x133 h134 fun x138 r139 => k137 x138 h134 r139 []) fun x140 h141 _ _ => guardS x130 true h141 (fun k144 => neS EE 3 x140 (.fv (.int .i64 6)) fun x145 => k144 x145 h141 [] []) fun x146 h147 _ _ => pickS x130 x146 (.fv (.bool false)) fun x150 => S84_165 x150 j1_53 h147 x45
noncomputable def S84_167 (x40 : IV) (h41 : Hp) (ih : Handler) (x7 : IV) (x3 : IV) (x0 : IV) : Option (IV × Hp) :=
  extS 0 x40 fun x44 => extS 1 x40 fun x45 => newS 88084488 (.row [.fv (.int .i64 0), .fv (.int .i64 0), .nils] false) (.ptr (.own 88084488) 0) h41 fun x46 h47 _ _ => storeA 3 x46 x44 h47 fun h50 _ _ => (fun (j1_53 : IV → Hp → Option (IV × Hp)) => S84_166 x45 h50 x46 j1_53) fun x54 h55 => S84_164 x54 ih h55 x7 x3 x46 x0
noncomputable def S84_168 (x3 : IV) (h18 : Hp) (ih : Handler) (x7 : IV) (x0 : IV) : Option (IV × Hp) :=
  faddrS 2 x3 fun x34 => load1 x34 h18 fun x35 _ => ixS 3 x35 (.fv (.int .i64 0)) fun x37 => loadA 3 x37 h18 fun x38 _ => isoS [] false false ih 34 [x38] h18 fun x40 h41 _ _ => S84_167 x40 h41 ih x7 x3 x0
noncomputable def S84_169 (ih : Handler) (h8 : Hp) (x0 : IV) (x15 : IV) (x7 : IV) (x3 : IV) : Option (IV × Hp) :=
  isoS [] false false ih 83 [x0, x15] h8 fun x17 h18 _ _ => extS 0 x17 fun _ => extS 1 x17 fun x22 => neS EE 3 x22 (.fv (.int .i64 0)) fun x23 => condS x23 (S84_151 ih h18 x22 x7) (S84_168 x3 h18 ih x7 x0)
noncomputable def S84 (ih : Handler) (n : Nat) (x0 : IV) (x1 : IV) (h2 : Hp) : Option (IV × Hp) :=
  boxS 88080384 x1 h2 fun x3 h4 _ _ => newS 88080385 (.row [.fv (.int .i64 0), .fv (.int .i64 0), .nils] false) (.ptr (.own 88080385) 0) h4 fun x7 h8 _ _ => faddrS 2 x3 fun x11 => load1 x11 h8 fun x12 _ => ixS 3 x12 (.fv (.int .i64 0)) fun x14 => loadA 3 x14 h8 fun x15 _ => S84_169 ih h8 x0 x15 x7 x3
theorem S84_ok (ih : Handler) (n : Nat) (x0 : IV) (x1 : IV) (h2 : Hp) : funS EE ih ft.get n 84 [x0, x1] h2 = S84 ih n x0 x1 h2 := by kernel_rfl
/-! thyrsus/thyrsusref7.rec -/
noncomputable def S85_154 (x59 : IV) (h60 : Hp) (x7 : IV) (x63 : IV) : Option (IV × Hp) :=
  extS 1 x59 fun x64 => storeA 3 x7 x63 h60 fun h65 _ _ => cellS true 3 x7 h65 fun x68 => outS1 [x68, x64] h65
noncomputable def S85_155 (x81 : IV) (h82 : Hp) (x7 : IV) : Option (IV × Hp) :=
  extS 0 x81 fun x85 => extS 1 x81 fun x86 => storeA 3 x7 x85 h82 fun h87 r88 w89 => chkS [] r88 w89 (cellS true 3 x7 h87 fun x90 => outS1 [x90, x86] h87)
noncomputable def S85_156 (r76 : List Ref) (r70 : List Ref) (ih : Handler) (h57 : Hp) (x69 : IV) (x75 : IV) (x7 : IV) : Option (IV × Hp) :=
  chkS [(r70, [])] r76 [] (isoS [] false false ih 67 [x69, .fv (.int .i64 0), x75] h57 fun x77 h78 r79 w80 => chkS [] r79 w80 (isoS [] false false ih 34 [x77] h78 fun x81 h82 r83 w84 => chkS [] r83 w84 (S85_155 x81 h82 x7)))
noncomputable def S85_157 (x3 : IV) (h57 : Hp) (r70 : List Ref) (ih : Handler) (x69 : IV) (x7 : IV) : Option (IV × Hp) :=
  faddrS 2 x3 fun x71 => load1 x71 h57 fun x72 r73 => chkS [(r70, [])] r73 [] (ixS 3 x72 (.fv (.int .i64 3)) fun x74 => loadA 3 x74 h57 fun x75 r76 => S85_156 r76 r70 ih h57 x69 x75 x7)
noncomputable def S85_158 (x56 : IV) (ih : Handler) (h57 : Hp) (x7 : IV) (x28 : IV) (x3 : IV) : Option (IV × Hp) :=
  neS EE 3 x56 (.fv (.int .i64 0)) fun x58 => condS x58 (isoS [] false false ih 44 [x56] h57 fun x59 h60 _ _ => extS 0 x59 fun x63 => S85_154 x59 h60 x7 x63) (loadA 3 x28 h57 fun x69 r70 => chkS [] r70 [] (S85_157 x3 h57 r70 ih x69 x7))
noncomputable def S85_159 (h54 : Hp) (x15 : IV) (r97 : List Ref) (r94 : List Ref) (ih : Handler) (x0 : IV) (x96 : IV) (j1_55 : IV → Hp → Option (IV × Hp)) : Option (IV × Hp) :=
  loadA 3 x15 h54 fun x98 r99 => chkS [(r97, []), (r94, [])] r99 [] (isoS [] false false ih 48 [x0, .fv (.int .i64 1), x96, x98] h54 fun x100 h101 r102 w103 => chkS [] r102 w103 (j1_55 x100 h101))
noncomputable def S85_160 (h54 : Hp) (x92 : IV) (x15 : IV) (ih : Handler) (x0 : IV) (j1_55 : IV → Hp → Option (IV × Hp)) : Option (IV × Hp) :=
  load1 x92 h54 fun x93 r94 => chkS [] r94 [] (ixS 3 x93 (.fv (.int .i64 3)) fun x95 => loadA 3 x95 h54 fun x96 r97 => chkS [] r97 [] (S85_159 h54 x15 r97 r94 ih x0 x96 j1_55))
noncomputable def S85_161 (ih : Handler) (x7 : IV) (x28 : IV) (x3 : IV) (x53 : IV) (h54 : Hp) (x15 : IV) (x0 : IV) : Option (IV × Hp) :=
  (fun (j1_55 : IV → Hp → Option (IV × Hp)) => eqS EE 3 x53 (.fv (.int .i64 0)) fun x91 => condS x91 (faddrS 2 x3 fun x92 => S85_160 h54 x92 x15 ih x0 j1_55) (j1_55 x53 h54)) fun x56 h57 => S85_158 x56 ih h57 x7 x28 x3
noncomputable def S85_162 (ih : Handler) (h114 : Hp) (x123 : IV) (r122 : List Ref) (r119 : List Ref) (x113 : IV) (x121 : IV) (j1_52 : IV → Hp → Option (IV × Hp)) : Option (IV × Hp) :=
  isoS [] false false ih 106 [x123] h114 fun x125 h126 r127 w128 => chkS [(r122, []), (r119, [])] r127 w128 (isoS [] false false ih 48 [x113, .fv (.int .i64 1), x121, x125] h126 fun x129 h130 r131 w132 => chkS [] r131 w132 (j1_52 x129 h130))
noncomputable def S85_163 (x118 : IV) (h114 : Hp) (r115 : List Ref) (w116 : List Ref) (r112 : List Ref) (r109 : List Ref) (w110 : List Ref) (r106 : List Ref) (x28 : IV) (r119 : List Ref) (ih : Handler) (x113 : IV) (j1_52 : IV → Hp → Option (IV × Hp)) : Option (IV × Hp) :=
  ixS 3 x118 (.fv (.int .i64 2)) fun x120 => loadA 3 x120 h114 fun x121 r122 => chkS [(r115, w116), (r112, []), (r109, w110), (r106, [])] r122 [] (loadA 3 x28 h114 fun x123 r124 => chkS [(r122, []), (r119, []), (r115, w116), (r112, []), (r109, w110), (r106, [])] r124 [] (S85_162 ih h114 x123 r122 r119 x113 x121 j1_52))
noncomputable def S85_164 (ih : Handler) (h108 : Hp) (x107 : IV) (x111 : IV) (x3 : IV) (r112 : List Ref) (r109 : List Ref) (w110 : List Ref) (r106 : List Ref) (x28 : IV) (j1_52 : IV → Hp → Option (IV × Hp)) : Option (IV × Hp) :=
  isoS [] false false ih 79 [x107, .fv (.int .i64 1), x111] h108 fun x113 h114 r115 w116 => chkS [] r115 w116 (faddrS 2 x3 fun x117 => load1 x117 h114 fun x118 r119 => chkS [(r115, w116), (r112, []), (r109, w110), (r106, [])] r119 [] (S85_163 x118 h114 r115 w116 r112 r109 w110 r106 x28 r119 ih x113 j1_52))
noncomputable def S85_165 (r106 : List Ref) (ih : Handler) (h51 : Hp) (x0 : IV) (x105 : IV) (x28 : IV) (x3 : IV) (j1_52 : IV → Hp → Option (IV × Hp)) : Option (IV × Hp) :=
  chkS [] r106 [] (isoS [] false false ih 79 [x0, .fv (.int .i64 1), x105] h51 fun x107 h108 r109 w110 => chkS [] r109 w110 (loadA 3 x28 h108 fun x111 r112 => chkS [(r109, w110), (r106, [])] r112 [] (S85_164 ih h108 x107 x111 x3 r112 r109 w110 r106 x28 j1_52)))
noncomputable def S85_166 (ih : Handler) (x7 : IV) (x28 : IV) (x3 : IV) (x15 : IV) (x0 : IV) (x50 : IV) (h51 : Hp) : Option (IV × Hp) :=
  (fun (j1_52 : IV → Hp → Option (IV × Hp)) => eqS EE 3 x50 (.fv (.int .i64 0)) fun x104 => condS x104 (loadA 3 x15 h51 fun x105 r106 => S85_165 r106 ih h51 x0 x105 x28 x3 j1_52) (j1_52 x50 h51)) fun x53 h54 => S85_161 ih x7 x28 x3 x53 h54 x15 x0
noncomputable def S85_167 (r148 : List Ref) (w149 : List Ref) (r139 : List Ref) (r136 : List Ref) (ih : Handler) (h147 : Hp) (x0 : IV) (x138 : IV) (x146 : IV) (j1_49 : IV → Hp → Option (IV × Hp)) : Option (IV × Hp) :=
  chkS [(r139, []), (r136, [])] r148 w149 (isoS [] false false ih 48 [x0, .fv (.int .i64 1), x138, x146] h147 fun x150 h151 r152 w153 => chkS [] r152 w153 (j1_49 x150 h151))
noncomputable def S85_168 (h44 : Hp) (x28 : IV) (r139 : List Ref) (r136 : List Ref) (ih : Handler) (x0 : IV) (x138 : IV) (j1_49 : IV → Hp → Option (IV × Hp)) : Option (IV × Hp) :=
  loadA 3 x28 h44 fun x140 r141 => chkS [(r139, []), (r136, [])] r141 [] (isoS [] false false ih 24 [.fv (.int .i64 11), .nils] h44 fun x142 h143 r144 w145 => chkS [(r141, []), (r139, []), (r136, [])] r144 w145 (isoS [] false false ih 67 [x140, .fv (.int .i64 0), x142] h143 fun x146 h147 r148 w149 => S85_167 r148 w149 r139 r136 ih h147 x0 x138 x146 j1_49))
noncomputable def S85_169 (h44 : Hp) (x134 : IV) (x28 : IV) (ih : Handler) (x0 : IV) (j1_49 : IV → Hp → Option (IV × Hp)) : Option (IV × Hp) :=
  load1 x134 h44 fun x135 r136 => chkS [] r136 [] (ixS 3 x135 (.fv (.int .i64 1)) fun x137 => loadA 3 x137 h44 fun x138 r139 => chkS [] r139 [] (S85_168 h44 x28 r139 r136 ih x0 x138 j1_49))
noncomputable def S85_170 (ih : Handler) (x7 : IV) (x28 : IV) (x3 : IV) (x15 : IV) (x0 : IV) (x48 : IV) (h44 : Hp) : Option (IV × Hp) :=
  (fun (j1_49 : IV → Hp → Option (IV × Hp)) => eqS EE 3 x48 (.fv (.int .i64 0)) fun x133 => condS x133 (faddrS 2 x3 fun x134 => S85_169 h44 x134 x28 ih x0 j1_49) (j1_49 x48 h44)) fun x50 h51 => S85_166 ih x7 x28 x3 x15 x0 x50 h51
noncomputable def S85_171 (r42 : List Ref) (r39 : List Ref) (w40 : List Ref) (r36 : List Ref) (ih : Handler) (h38 : Hp) (x37 : IV) (x41 : IV) (x7 : IV) (x28 : IV) (x3 : IV) (x15 : IV) (x0 : IV) : Option (IV × Hp) :=
  chkS [(r39, w40), (r36, [])] r42 [] (isoS [] false false ih 83 [x37, x41] h38 fun x43 h44 r45 w46 => chkS [] r45 w46 (extS 0 x43 fun _ => extS 1 x43 fun x48 => S85_170 ih x7 x28 x3 x15 x0 x48 h44))
noncomputable def S85_172 (h32 : Hp) (x15 : IV) (ih : Handler) (x0 : IV) (x28 : IV) (x7 : IV) (x3 : IV) : Option (IV × Hp) :=
  loadA 3 x15 h32 fun x35 r36 => chkS [] r36 [] (isoS [] false false ih 79 [x0, .fv (.int .i64 1), x35] h32 fun x37 h38 r39 w40 => chkS [] r39 w40 (loadA 3 x28 h38 fun x41 r42 => S85_171 r42 r39 w40 r36 ih h38 x37 x41 x7 x28 x3 x15 x0))
noncomputable def S85_173 (h19 : Hp) (x22 : IV) (x15 : IV) (ih : Handler) (x0 : IV) (x7 : IV) (x3 : IV) : Option (IV × Hp) :=
  load1 x22 h19 fun x23 _ => ixS 3 x23 (.fv (.int .i64 0)) fun x25 => loadA 3 x25 h19 fun x26 _ => newS 89131012 (.row [.fv (.int .i64 0), .fv (.int .i64 0), .nils] false) (.ptr (.own 89131012) 0) h19 fun x28 h29 _ _ => storeA 3 x28 x26 h29 fun h32 _ _ => S85_172 h32 x15 ih x0 x28 x7 x3
noncomputable def S85 (ih : Handler) (n : Nat) (x0 : IV) (x1 : IV) (h2 : Hp) : Option (IV × Hp) :=
  boxS 89128960 x1 h2 fun x3 h4 _ _ => newS 89128961 (.row [.fv (.int .i64 0), .fv (.int .i64 0), .nils] false) (.ptr (.own 89128961) 0) h4 fun x7 h8 _ _ => isoS [] false false ih 24 [.fv (.int .i64 10), .nils] h8 fun x11 h12 _ _ => newS 89129985 (.row [.fv (.int .i64 0), .fv (.int .i64 0), .nils] false) (.ptr (.own 89129985) 0) h12 fun x15 h16 _ _ => storeA 3 x15 x11 h16 fun h19 _ _ => faddrS 2 x3 fun x22 => S85_173 h19 x22 x15 ih x0 x7 x3
theorem S85_ok (ih : Handler) (n : Nat) (x0 : IV) (x1 : IV) (h2 : Hp) : funS EE ih ft.get n 85 [x0, x1] h2 = S85 ih n x0 x1 h2 := by kernel_rfl
end Idl
end Go.Proofs.Ytkfecngimlcfoaa

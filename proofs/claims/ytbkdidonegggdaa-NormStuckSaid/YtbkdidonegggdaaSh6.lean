/-
  THE SHALLOW FORM OF THE SEAT'S FUNCTIONS, a part; each is what its code's shallow run is. Printed by a program of mine (gen-sh). No statement is proved here.
-/
import Derived.Test.YtbkdidonegggdaaTab
import Derived.Test.YtbkdidonegggdaaIdl31
set_option maxRecDepth 100000
set_option linter.unusedVariables false
namespace Go.Proofs.Ytbkdidonegggdaa
namespace Idl
/-! Function 47. -/
noncomputable def S47_53 (x12 : IV) (x43 : IV) (x13 : IV) (q7 : List IV → Hp → Option (IV × Hp)) (h44 : Hp) (x10 : IV) (x11 : IV) : Option (IV × Hp) :=
  addS EE 3 x12 x43 fun x47 => addS EE 3 x13 (.fv (.int .i64 1)) fun x48 => q7 [x10, x11, x47, x48] h44
noncomputable def S47_54 (h32 : Hp) (x36 : IV) (x13 : IV) (x10 : IV) (x12 : IV) (ih : Handler) (q7 : List IV → Hp → Option (IV × Hp)) (x11 : IV) : Option (IV × Hp) :=
  load1 x36 h32 fun x37 _ => ixS 3 x37 x13 fun x39 => loadA 3 x39 h32 fun x40 _ => subS EE 3 x10 x12 fun x42 => isoS [] false false ih 47 [x40, x42] h32 fun x43 h44 _ _ => S47_53 x12 x43 x13 q7 h44 x10 x11
noncomputable def S47_55 (h26 : Hp) (x18 : IV) (x20 : IV) (x25 : IV) (x11 : IV) (x13 : IV) (x10 : IV) (x12 : IV) (ih : Handler) (q7 : List IV → Hp → Option (IV × Hp)) : Option (IV × Hp) :=
  guardS x18 true h26 (fun k29 => ltS EE 3 x20 x25 fun x30 => k29 x30 h26 [] []) fun x31 h32 _ _ => pickS x18 x31 (.fv (.bool false)) fun x35 => condS x35 (faddrS 2 x11 fun x36 => S47_54 h32 x36 x13 x10 x12 ih q7 x11) (outS1 [x12] h32)
noncomputable def S47_56 (h9 : Hp) (x14 : IV) (x13 : IV) (x12 : IV) (x10 : IV) (x11 : IV) (ih : Handler) (q7 : List IV → Hp → Option (IV × Hp)) : Option (IV × Hp) :=
  load1 x14 h9 fun x15 _ => lenS x15 fun x17 => ltS EE 3 x13 x17 fun x18 => guardS x18 true h9 (fun k19 => k19 x12 h9 [] []) fun x20 h21 _ _ => guardS x18 true h21 (fun k24 => k24 x10 h21 [] []) fun x25 h26 _ _ => S47_55 h26 x18 x20 x25 x11 x13 x10 x12 ih q7
noncomputable def S47_57 (l8 : List IV) (h9 : Hp) (ih : Handler) (q7 : List IV → Hp → Option (IV × Hp)) : Option (IV × Hp) :=
  uncS l8 fun x10 l49 => uncS l49 fun x11 l50 => uncS l50 fun x12 l51 => uncS l51 fun x13 _ => faddrS 2 x11 fun x14 => S47_56 h9 x14 x13 x12 x10 x11 ih q7
noncomputable def S47 (ih : Handler) (n : Nat) (x0 : IV) (x1 : IV) (h2 : Hp) : Option (IV × Hp) :=
  boxS 49283072 x0 h2 fun x3 h4 _ _ => loopS n (fun q7 l8 h9 => S47_57 l8 h9 ih q7) [x1, x3, .fv (.int .i64 1), .fv (.int .i64 0)] h4
theorem S47_ok (ih : Handler) (n : Nat) (x0 : IV) (x1 : IV) (h2 : Hp) : funS EE ih ft.get n 47 [x0, x1] h2 = S47 ih n x0 x1 h2 := by kernel_rfl
/-! Function 48. -/
noncomputable def S48_264 (h20 : Hp) (x5 : IV) : Option (IV × Hp) :=
  bldS [.fv (.int .i64 0), .fv (.int .i64 0), .nils] [] fun x26 => storeA 3 x5 x26 h20 fun h27 _ _ => cellS true 3 x5 h27 fun x30 => outS1 [x30] h27
noncomputable def S48_265 (ih : Handler) (h20 : Hp) (x41 : IV) (x5 : IV) : Option (IV × Hp) :=
  isoS [] false false ih 34 [x41] h20 fun x42 h43 _ _ => storeA 3 x5 x42 h43 fun h46 _ _ => cellS true 3 x5 h46 fun x49 => outS1 [x49] h46
noncomputable def S48_266 (x2 : IV) (x1 : IV) (h20 : Hp) (ih : Handler) (x5 : IV) : Option (IV × Hp) :=
  subS EE 3 x2 (.fv (.int .i64 1)) fun x36 => nilS x1 fun x37 => faddrS 1 x37 fun x38 => load1 x38 h20 fun x39 _ => subS EE 3 x36 x39 fun x41 => S48_265 ih h20 x41 x5
noncomputable def S48_267 (h4 : Hp) (h126 : Hp) (x98 : IV) (x99 : IV) (x100 : IV) (x101 : IV) (x102 : IV) (x103 : IV) (x129 : IV) (q66 : List IV → Hp → Option (IV × Hp)) : Option (IV × Hp) :=
  dropS (h4.own.map (·.1)) [50351109, 50353163] [x98, x99, x100, x101, x102, x103, x129] h126 fun h130 => q66 [x98, x99, x100, x101, x102, x103, x129] h130
noncomputable def S48_268 (r123 : List Ref) (w124 : List Ref) (x103 : IV) (h122 : Hp) (x121 : IV) (x104 : IV) (h4 : Hp) (x98 : IV) (x99 : IV) (x100 : IV) (x101 : IV) (x102 : IV) (q66 : List IV → Hp → Option (IV × Hp)) : Option (IV × Hp) :=
  chkS [] r123 w124 (faddrS 2 x103 fun x125 => store1 x125 x121 h122 fun h126 r127 w128 => chkS [] r127 w128 (addS EE 3 x104 (.fv (.int .i64 1)) fun x129 => S48_267 h4 h126 x98 x99 x100 x101 x102 x103 x129 q66))
noncomputable def S48_269 (ih : Handler) (h107 : Hp) (x98 : IV) (x106 : IV) (x111 : IV) (x112 : IV) (r110 : List Ref) (x109 : IV) (x103 : IV) (x104 : IV) (h4 : Hp) (x99 : IV) (x100 : IV) (x101 : IV) (x102 : IV) (q66 : List IV → Hp → Option (IV × Hp)) : Option (IV × Hp) :=
  isoS [true, false, false, false] false false ih 48 [x98, x106, x111, x112] h107 fun x113 h114 r115 w116 => chkS [(r110, [])] r115 w116 (genS (pcBuildSlice EE 29 1 [(0, x113)]) 50353162 h114 fun x117 h118 r119 w120 => chkS [(r110, [])] r119 w120 (genS (builtinR EE 50353163 false .append [29, 29] [x109, x117]) 50353163 h118 fun x121 h122 r123 w124 => S48_268 r123 w124 x103 h122 x121 x104 h4 x98 x99 x100 x101 x102 q66))
noncomputable def S48_270 (x103 : IV) (h107 : Hp) (x100 : IV) (x105 : IV) (x101 : IV) (ih : Handler) (x98 : IV) (x106 : IV) (x104 : IV) (h4 : Hp) (x99 : IV) (x102 : IV) (q66 : List IV → Hp → Option (IV × Hp)) : Option (IV × Hp) :=
  faddrS 2 x103 fun x108 => load1 x108 h107 fun x109 r110 => chkS [] r110 [] (addS EE 3 x100 x105 fun x111 => addS EE 3 x101 (.fv (.int .i64 1)) fun x112 => S48_269 ih h107 x98 x106 x111 x112 r110 x109 x103 x104 h4 x99 x100 x101 x102 q66)
noncomputable def S48_271 (h4 : Hp) (h162 : Hp) (x139 : IV) (x140 : IV) (x141 : IV) (x142 : IV) (x143 : IV) (x144 : IV) (x145 : IV) (x146 : IV) (x147 : IV) (x161 : IV) (x165 : IV) (q136 : List IV → Hp → Option (IV × Hp)) : Option (IV × Hp) :=
  dropS (h4.own.map (·.1)) [50351109] [x139, x140, x141, x142, x143, x144, x145, x146, x147, x161, x165] h162 fun h166 => q136 [x139, x140, x141, x142, x143, x144, x145, x146, x147, x161, x165] h166
noncomputable def S48_272 (x151 : IV) (h138 : Hp) (ih : Handler) (x148 : IV) (x149 : IV) (h4 : Hp) (x139 : IV) (x140 : IV) (x141 : IV) (x142 : IV) (x143 : IV) (x144 : IV) (x145 : IV) (x146 : IV) (x147 : IV) (q136 : List IV → Hp → Option (IV × Hp)) : Option (IV × Hp) :=
  bldS [.fv (.int .i64 0), .fv (.int .i64 0), .nils, .nils, .fv (.int .i64 0), .fv (.int .i64 0), .nils] [(0, 1, .fv (.int .i64 1)), (1, 1, x151)] fun x152 => fzS (pcBox true 50351109 x152) 50351109 x152 h138 fun x153 h154 _ _ => genS (pcBuildSlice EE 93 1 [(0, x153)]) 50351110 h154 fun x157 h158 _ _ => isoS [] false false ih 69 [x148, x157] h158 fun x161 h162 _ _ => addS EE 3 x149 (.fv (.int .i64 1)) fun x165 => S48_271 h4 h162 x139 x140 x141 x142 x143 x144 x145 x146 x147 x161 x165 q136
noncomputable def S48_273 (x167 : IV) (h138 : Hp) (ih : Handler) (x139 : IV) (x148 : IV) (j9_97 : IV → IV → IV → IV → IV → IV → IV → IV → IV → Hp → Option (IV × Hp)) (x140 : IV) (x141 : IV) (x142 : IV) (x143 : IV) (x144 : IV) (x145 : IV) (x146 : IV) : Option (IV × Hp) :=
  faddrS 4 x167 fun x168 => loadA 3 x168 h138 fun x169 _ => isoS [true, false, false] false false ih 49 [x139, x169, x148] h138 fun x171 h172 _ _ => j9_97 x139 x140 x141 x142 x143 x144 x145 x146 x171 h172
noncomputable def S48_274 (l184 : List IV) (x146 : IV) (x141 : IV) (h138 : Hp) (ih : Handler) (x148 : IV) (h4 : Hp) (x139 : IV) (x140 : IV) (x142 : IV) (x143 : IV) (x144 : IV) (x145 : IV) (x147 : IV) (q136 : List IV → Hp → Option (IV × Hp)) (j9_97 : IV → IV → IV → IV → IV → IV → IV → IV → IV → Hp → Option (IV × Hp)) : Option (IV × Hp) :=
  uncS l184 fun x149 _ => ltS EE 3 x149 x146 fun x150 => condS x150 (addS EE 3 x141 x149 fun x151 => S48_272 x151 h138 ih x148 x149 h4 x139 x140 x141 x142 x143 x144 x145 x146 x147 q136) (nilS x147 fun x167 => S48_273 x167 h138 ih x139 x148 j9_97 x140 x141 x142 x143 x144 x145 x146)
noncomputable def S48_275 (l179 : List IV) (x141 : IV) (h138 : Hp) (ih : Handler) (h4 : Hp) (x139 : IV) (x140 : IV) (x142 : IV) (x143 : IV) (q136 : List IV → Hp → Option (IV × Hp)) (j9_97 : IV → IV → IV → IV → IV → IV → IV → IV → IV → Hp → Option (IV × Hp)) : Option (IV × Hp) :=
  uncS l179 fun x144 l180 => uncS l180 fun x145 l181 => uncS l181 fun x146 l182 => uncS l182 fun x147 l183 => uncS l183 fun x148 l184 => S48_274 l184 x146 x141 h138 ih x148 h4 x139 x140 x142 x143 x144 x145 x147 q136 j9_97
noncomputable def S48_276 (l137 : List IV) (h138 : Hp) (ih : Handler) (h4 : Hp) (q136 : List IV → Hp → Option (IV × Hp)) (j9_97 : IV → IV → IV → IV → IV → IV → IV → IV → IV → Hp → Option (IV × Hp)) : Option (IV × Hp) :=
  uncS l137 fun x139 l175 => uncS l175 fun x140 l176 => uncS l176 fun x141 l177 => uncS l177 fun x142 l178 => uncS l178 fun x143 l179 => S48_275 l179 x141 h138 ih h4 x139 x140 x142 x143 q136 j9_97
noncomputable def S48_277 (h87 : Hp) (x133 : IV) (h4 : Hp) (x69 : IV) (x70 : IV) (x71 : IV) (x72 : IV) (x73 : IV) (x74 : IV) (x75 : IV) (x86 : IV) (x95 : IV) (n : Nat) (ih : Handler) (j9_97 : IV → IV → IV → IV → IV → IV → IV → IV → IV → Hp → Option (IV × Hp)) : Option (IV × Hp) :=
  load1 x133 h87 fun x134 _ => dropS (h4.own.map (·.1)) [50351109] [x69, x70, x71, x72, x73, x74, x75, x86, x95, x134, .fv (.int .i64 0)] h87 fun h186 => loopS n (fun q136 l137 h138 => S48_276 l137 h138 ih h4 q136 j9_97) [x69, x70, x71, x72, x73, x74, x75, x86, x95, x134, .fv (.int .i64 0)] h186
noncomputable def S48_278 (x131 : IV) (x95 : IV) (h87 : Hp) (h4 : Hp) (x69 : IV) (x70 : IV) (x71 : IV) (x72 : IV) (x73 : IV) (x74 : IV) (x75 : IV) (x86 : IV) (n : Nat) (ih : Handler) (j9_97 : IV → IV → IV → IV → IV → IV → IV → IV → IV → Hp → Option (IV × Hp)) : Option (IV × Hp) :=
  condS x131 (nilS x95 fun x132 => faddrS 3 x132 fun x133 => S48_277 h87 x133 h4 x69 x70 x71 x72 x73 x74 x75 x86 x95 n ih j9_97) (j9_97 x69 x70 x71 x72 x73 x74 x75 x86 x95 h87)
noncomputable def S48_279 (h87 : Hp) (x91 : IV) (x75 : IV) (ih : Handler) (h4 : Hp) (q66 : List IV → Hp → Option (IV × Hp)) (x86 : IV) (x69 : IV) (x70 : IV) (x71 : IV) (x72 : IV) (x73 : IV) (x74 : IV) (n : Nat) : Option (IV × Hp) :=
  load1 x91 h87 fun x92 _ => ixS 1 x92 x75 fun x94 => load1 x94 h87 fun x95 _ => (fun (j9_97 : IV → IV → IV → IV → IV → IV → IV → IV → IV → Hp → Option (IV × Hp)) => gtS EE 3 x86 (.fv (.int .i64 0)) fun x131 => S48_278 x131 x95 h87 h4 x69 x70 x71 x72 x73 x74 x75 x86 n ih j9_97) fun x98 x99 x100 x101 x102 x103 x104 x105 x106 h107 => S48_270 x103 h107 x100 x105 x101 ih x98 x106 x104 h4 x99 x102 q66
noncomputable def S48_280 (x82 : IV) (h68 : Hp) (ih : Handler) (x75 : IV) (x70 : IV) (h4 : Hp) (q66 : List IV → Hp → Option (IV × Hp)) (x69 : IV) (x71 : IV) (x72 : IV) (x73 : IV) (x74 : IV) (n : Nat) : Option (IV × Hp) :=
  faddrS 0 x82 fun x83 => load1 x83 h68 fun x84 _ => isoS [] false false ih 63 [x84, x75] h68 fun x86 h87 _ _ => nilS x70 fun x90 => faddrS 2 x90 fun x91 => S48_279 h87 x91 x75 ih h4 q66 x86 x69 x70 x71 x72 x73 x74 n
noncomputable def S48_281 (h68 : Hp) (x73 : IV) (x187 : IV) : Option (IV × Hp) :=
  storeA 3 x73 x187 h68 fun h189 _ _ => cellS true 3 x73 h189 fun x192 => outS1 [x192] h189
noncomputable def S48_282 (x78 : IV) (x75 : IV) (x70 : IV) (h68 : Hp) (ih : Handler) (h4 : Hp) (q66 : List IV → Hp → Option (IV × Hp)) (x69 : IV) (x71 : IV) (x72 : IV) (x73 : IV) (x74 : IV) (n : Nat) : Option (IV × Hp) :=
  lenS x78 fun x80 => ltS EE 3 x75 x80 fun x81 => condS x81 (nilS x70 fun x82 => S48_280 x82 h68 ih x75 x70 h4 q66 x69 x71 x72 x73 x74 n) (loadA 3 x74 h68 fun x187 _ => S48_281 h68 x73 x187)
noncomputable def S48_283 (l197 : List IV) (x70 : IV) (h68 : Hp) (ih : Handler) (h4 : Hp) (q66 : List IV → Hp → Option (IV × Hp)) (x69 : IV) (x71 : IV) (x72 : IV) (x73 : IV) (n : Nat) : Option (IV × Hp) :=
  uncS l197 fun x74 l198 => uncS l198 fun x75 _ => nilS x70 fun x76 => faddrS 2 x76 fun x77 => load1 x77 h68 fun x78 _ => S48_282 x78 x75 x70 h68 ih h4 q66 x69 x71 x72 x73 x74 n
noncomputable def S48_284 (l67 : List IV) (h68 : Hp) (ih : Handler) (h4 : Hp) (q66 : List IV → Hp → Option (IV × Hp)) (n : Nat) : Option (IV × Hp) :=
  uncS l67 fun x69 l193 => uncS l193 fun x70 l194 => uncS l194 fun x71 l195 => uncS l195 fun x72 l196 => uncS l196 fun x73 l197 => S48_283 l197 x70 h68 ih h4 q66 x69 x71 x72 x73 n
noncomputable def S48_285 (r61 : List Ref) (w62 : List Ref) (r57 : List Ref) (r53 : List Ref) (h60 : Hp) (x59 : IV) (x58 : IV) (h4 : Hp) (x0 : IV) (x1 : IV) (x2 : IV) (x3 : IV) (x5 : IV) (n : Nat) (ih : Handler) : Option (IV × Hp) :=
  chkS [(r57, []), (r53, [])] r61 w62 (storeA 3 x59 x58 h60 fun h63 r64 w65 => chkS [] r64 w65 (dropS (h4.own.map (·.1)) [50351109, 50353163] [x0, x1, x2, x3, x5, x59, .fv (.int .i64 0)] h63 fun h200 => loopS n (fun q66 l67 h68 => S48_284 l67 h68 ih h4 q66 n) [x0, x1, x2, x3, x5, x59, .fv (.int .i64 0)] h200))
noncomputable def S48_286 (x54 : IV) (h20 : Hp) (r53 : List Ref) (x52 : IV) (h4 : Hp) (x0 : IV) (x1 : IV) (x2 : IV) (x3 : IV) (x5 : IV) (n : Nat) (ih : Handler) : Option (IV × Hp) :=
  faddrS 1 x54 fun x55 => load1 x55 h20 fun x56 r57 => chkS [(r53, [])] r57 [] (bldS [.fv (.int .i64 0), .fv (.int .i64 0), .nils] [(0, 1, x52), (1, 1, x56)] fun x58 => newS 50339849 (.row [.fv (.int .i64 0), .fv (.int .i64 0), .nils] false) (.ptr (.own 50339849) 0) h20 fun x59 h60 r61 w62 => S48_285 r61 w62 r57 r53 h60 x59 x58 h4 x0 x1 x2 x3 x5 n ih)
noncomputable def S48_287 (x1 : IV) (h20 : Hp) (h4 : Hp) (x0 : IV) (x2 : IV) (x3 : IV) (x5 : IV) (n : Nat) (ih : Handler) : Option (IV × Hp) :=
  nilS x1 fun x50 => faddrS 0 x50 fun x51 => load1 x51 h20 fun x52 r53 => chkS [] r53 [] (nilS x1 fun x54 => S48_286 x54 h20 r53 x52 h4 x0 x1 x2 x3 x5 n ih)
noncomputable def S48_288 (x1 : IV) (h20 : Hp) (x2 : IV) (ih : Handler) (x5 : IV) (h4 : Hp) (x0 : IV) (x3 : IV) (n : Nat) : Option (IV × Hp) :=
  nilS x1 fun x31 => faddrS 0 x31 fun x32 => load1 x32 h20 fun x33 _ => eqS EE 3 x33 (.fv (.int .i64 1)) fun x35 => condS x35 (S48_266 x2 x1 h20 ih x5) (S48_287 x1 h20 h4 x0 x2 x3 x5 n ih)
noncomputable def S48_289 (x0 : IV) (h20 : Hp) (x5 : IV) (x1 : IV) (x2 : IV) (ih : Handler) (h4 : Hp) (x3 : IV) (n : Nat) : Option (IV × Hp) :=
  nilS x0 fun x21 => faddrS 2 x21 fun x22 => load1 x22 h20 fun x23 _ => neS EE 3 x23 (.fv (.int .i64 0)) fun x25 => condS x25 (S48_264 h20 x5) (S48_288 x1 h20 x2 ih x5 h4 x0 x3 n)
noncomputable def S48_290 (x259 : IV) (h255 : Hp) (j0_19 : Hp → Option (IV × Hp)) : Option (IV × Hp) :=
  faddrS 2 x259 fun x260 => store1 x260 (.fv (.int .i64 5)) h255 fun h261 _ _ => j0_19 h261
noncomputable def S48_291 (h249 : Hp) (x205 : IV) (x237 : IV) (x248 : IV) (x0 : IV) (j0_19 : Hp → Option (IV × Hp)) : Option (IV × Hp) :=
  guardS x205 true h249 (fun k252 => pickS x237 (.fv (.bool true)) x248 fun x253 => k252 x253 h249 [] []) fun x254 h255 _ _ => pickS x205 x254 (.fv (.bool false)) fun x258 => condS x258 (nilS x0 fun x259 => S48_290 x259 h255 j0_19) (j0_19 h255)
noncomputable def S48_292 (h220 : Hp) (x205 : IV) (x219 : IV) (x3 : IV) (x0 : IV) (j0_19 : Hp → Option (IV × Hp)) : Option (IV × Hp) :=
  guardS x205 true h220 (fun k223 => load1 x219 h220 fun x224 r225 => k223 x224 h220 r225 []) fun x226 h227 _ _ => guardS x205 true h227 (fun k230 => gtS EE 3 x226 (.fv (.int .i64 3000)) fun x231 => k230 x231 h227 [] []) fun x232 h233 _ _ => guardS x205 true h233 (fun k236 => k236 x232 h233 [] []) fun x237 h238 _ _ => guardS x237 false h238 (fun k241 => k241 x3 h238 [] []) fun x242 h243 _ _ => guardS x237 false h243 (fun k246 => gtS EE 3 x242 (.fv (.int .i64 120)) fun x247 => k246 x247 h243 [] []) fun x248 h249 _ _ => S48_291 h249 x205 x237 x248 x0 j0_19
noncomputable def S48_293 (h16 : Hp) (x202 : IV) (x0 : IV) (x3 : IV) (j0_19 : Hp → Option (IV × Hp)) : Option (IV × Hp) :=
  load1 x202 h16 fun x203 _ => eqS EE 3 x203 (.fv (.int .i64 0)) fun x205 => guardS x205 true h16 (fun k206 => k206 x0 h16 [] []) fun x207 h208 _ _ => guardS x205 true h208 (fun k211 => nilS x207 fun x212 => k211 x212 h208 [] []) fun x213 h214 _ _ => guardS x205 true h214 (fun k217 => faddrS 1 x213 fun x218 => k217 x218 h214 [] []) fun x219 h220 _ _ => S48_292 h220 x205 x219 x3 x0 j0_19
noncomputable def S48_294 (x14 : IV) (h6 : Hp) (x13 : IV) (x0 : IV) (x5 : IV) (x1 : IV) (x2 : IV) (ih : Handler) (h4 : Hp) (x3 : IV) (n : Nat) : Option (IV × Hp) :=
  faddrS 1 x14 fun x15 => store1 x15 x13 h6 fun h16 _ _ => (fun (j0_19 : Hp → Option (IV × Hp)) => nilS x0 fun x201 => faddrS 2 x201 fun x202 => S48_293 h16 x202 x0 x3 j0_19) fun h20 => S48_289 x0 h20 x5 x1 x2 ih h4 x3 n
noncomputable def S48 (ih : Handler) (n : Nat) (x0 : IV) (x1 : IV) (x2 : IV) (x3 : IV) (h4 : Hp) : Option (IV × Hp) :=
  newS 50331648 (.row [.fv (.int .i64 0), .fv (.int .i64 0), .nils] false) (.ptr (.own 50331648) 0) h4 fun x5 h6 _ _ => nilS x0 fun x9 => faddrS 1 x9 fun x10 => load1 x10 h6 fun x11 _ => addS EE 3 x11 (.fv (.int .i64 1)) fun x13 => nilS x0 fun x14 => S48_294 x14 h6 x13 x0 x5 x1 x2 ih h4 x3 n
theorem S48_ok (ih : Handler) (n : Nat) (x0 : IV) (x1 : IV) (x2 : IV) (x3 : IV) (h4 : Hp) : funS EE ih ft.get n 48 [x0, x1, x2, x3] h4 = S48 ih n x0 x1 x2 x3 h4 := by kernel_rfl
/-! Function 49. -/
noncomputable def S49_148 (h5 : Hp) : Option (IV × Hp) :=
  bldS [.fv (.int .i64 0), .fv (.int .i64 0), .nils, .nils, .fv (.int .i64 0), .fv (.int .i64 0), .nils] [(0, 1, .fv (.int .i64 11))] fun x13 => boxS 51382273 x13 h5 fun x14 h15 _ _ => outS1 [x14] h15
noncomputable def S49_149 (h5 : Hp) (x33 : IV) : Option (IV × Hp) :=
  load1 x33 h5 fun x34 _ => outS1 [x34] h5
noncomputable def S49_150 (x27 : IV) (x4 : IV) (h5 : Hp) (x2 : IV) : Option (IV × Hp) :=
  subS EE 3 x27 (.fv (.int .i64 1)) fun x28 => faddrS 1 x4 fun x29 => load1 x29 h5 fun x30 _ => subS EE 3 x28 x30 fun x32 => ixS 1 x2 x32 fun x33 => S49_149 h5 x33
noncomputable def S49_151 (h5 : Hp) (x42 : IV) : Option (IV × Hp) :=
  boxS 51386375 x42 h5 fun x43 h44 _ _ => outS1 [x43] h44
noncomputable def S49_152 (x36 : IV) (x4 : IV) (h5 : Hp) : Option (IV × Hp) :=
  subS EE 3 x36 (.fv (.int .i64 1)) fun x37 => faddrS 1 x4 fun x38 => load1 x38 h5 fun x39 _ => subS EE 3 x37 x39 fun x41 => bldS [.fv (.int .i64 0), .fv (.int .i64 0), .nils, .nils, .fv (.int .i64 0), .fv (.int .i64 0), .nils] [(0, 1, .fv (.int .i64 1)), (1, 1, x41)] fun x42 => S49_151 h5 x42
noncomputable def S49_153 (h5 : Hp) (x22 : IV) (x2 : IV) (x4 : IV) : Option (IV × Hp) :=
  load1 x22 h5 fun x23 _ => lenS x2 fun x25 => ltS EE 3 x23 x25 fun x26 => condS x26 (lenS x2 fun x27 => S49_150 x27 x4 h5 x2) (lenS x2 fun x36 => S49_152 x36 x4 h5)
noncomputable def S49_154 (x65 : IV) (h3 : Hp) (h72 : Hp) (x61 : IV) (x62 : IV) (x63 : IV) (x64 : IV) (q58 : List IV → Hp → Option (IV × Hp)) : Option (IV × Hp) :=
  addS EE 3 x65 (.fv (.int .i64 1)) fun x73 => dropS (h3.own.map (·.1)) [51392524, 51392526, 51393550] [x61, x62, x63, x64, x73] h72 fun h74 => q58 [x61, x62, x63, x64, x73] h74
noncomputable def S49_155 (x64 : IV) (h103 : Hp) (x102 : IV) (j0_71 : Hp → Option (IV × Hp)) : Option (IV × Hp) :=
  nilS x64 fun x106 => faddrS 2 x106 fun x107 => store1 x107 x102 h103 fun h108 r109 w110 => chkS [] r109 w110 (j0_71 h108)
noncomputable def S49_156 (r96 : List Ref) (w97 : List Ref) (r86 : List Ref) (h95 : Hp) (x94 : IV) (x85 : IV) (x64 : IV) (j0_71 : Hp → Option (IV × Hp)) : Option (IV × Hp) :=
  chkS [(r86, [])] r96 w97 (genS (pcBuildSlice EE 93 1 [(0, x94)]) 51392525 h95 fun x98 h99 r100 w101 => chkS [(r86, [])] r100 w101 (genS (builtinR EE 51392526 false .append [93, 93] [x85, x98]) 51392526 h99 fun x102 h103 r104 w105 => chkS [] r104 w105 (S49_155 x64 h103 x102 j0_71)))
noncomputable def S49_157 (x88 : IV) (x65 : IV) (h79 : Hp) (r86 : List Ref) (x62 : IV) (x85 : IV) (x64 : IV) (j0_71 : Hp → Option (IV × Hp)) : Option (IV × Hp) :=
  ixS 3 x88 x65 fun x90 => loadA 3 x90 h79 fun x91 r92 => chkS [(r86, [])] r92 [] (bldS [.fv (.int .i64 0), .fv (.int .i64 0), .nils, .nils, .fv (.int .i64 0), .fv (.int .i64 0), .nils] [(3, 1, x62), (4, 3, x91)] fun x93 => boxS 51392524 x93 h79 fun x94 h95 r96 w97 => S49_156 r96 w97 r86 h95 x94 x85 x64 j0_71)
noncomputable def S49_158 (h79 : Hp) (x84 : IV) (x63 : IV) (x65 : IV) (x62 : IV) (x64 : IV) (j0_71 : Hp → Option (IV × Hp)) : Option (IV × Hp) :=
  load1 x84 h79 fun x85 r86 => chkS [] r86 [] (faddrS 2 x63 fun x87 => load1 x87 h79 fun x88 r89 => chkS [(r86, [])] r89 [] (S49_157 x88 x65 h79 r86 x62 x85 x64 j0_71))
noncomputable def S49_159 (x133 : IV) (h130 : Hp) (x129 : IV) (j0_71 : Hp → Option (IV × Hp)) : Option (IV × Hp) :=
  faddrS 2 x133 fun x134 => store1 x134 x129 h130 fun h135 r136 w137 => chkS [] r136 w137 (j0_71 h135)
noncomputable def S49_160 (h122 : Hp) (x121 : IV) (r114 : List Ref) (x113 : IV) (x64 : IV) (j0_71 : Hp → Option (IV × Hp)) : Option (IV × Hp) :=
  genS (pcBuildSlice EE 93 1 [(0, x121)]) 51393549 h122 fun x125 h126 r127 w128 => chkS [(r114, [])] r127 w128 (genS (builtinR EE 51393550 false .append [93, 93] [x113, x125]) 51393550 h126 fun x129 h130 r131 w132 => chkS [] r131 w132 (nilS x64 fun x133 => S49_159 x133 h130 x129 j0_71))
noncomputable def S49_161 (x116 : IV) (x65 : IV) (h79 : Hp) (r114 : List Ref) (ih : Handler) (x61 : IV) (x62 : IV) (x113 : IV) (x64 : IV) (j0_71 : Hp → Option (IV × Hp)) : Option (IV × Hp) :=
  ixS 3 x116 x65 fun x118 => loadA 3 x118 h79 fun x119 r120 => chkS [(r114, [])] r120 [] (isoS [true, false, false] false false ih 49 [x61, x119, x62] h79 fun x121 h122 r123 w124 => chkS [(r114, [])] r123 w124 (S49_160 h122 x121 r114 x113 x64 j0_71))
noncomputable def S49_162 (h79 : Hp) (x112 : IV) (x63 : IV) (x65 : IV) (ih : Handler) (x61 : IV) (x62 : IV) (x64 : IV) (j0_71 : Hp → Option (IV × Hp)) : Option (IV × Hp) :=
  load1 x112 h79 fun x113 r114 => chkS [] r114 [] (faddrS 2 x63 fun x115 => load1 x115 h79 fun x116 r117 => chkS [(r114, [])] r117 [] (S49_161 x116 x65 h79 r114 ih x61 x62 x113 x64 j0_71))
noncomputable def S49_163 (x82 : IV) (x64 : IV) (h79 : Hp) (x63 : IV) (x65 : IV) (x62 : IV) (j0_71 : Hp → Option (IV × Hp)) (ih : Handler) (x61 : IV) : Option (IV × Hp) :=
  condS x82 (nilS x64 fun x83 => faddrS 2 x83 fun x84 => S49_158 h79 x84 x63 x65 x62 x64 j0_71) (nilS x64 fun x111 => faddrS 2 x111 fun x112 => S49_162 h79 x112 x63 x65 ih x61 x62 x64 j0_71)
noncomputable def S49_164 (x65 : IV) (h3 : Hp) (x61 : IV) (x62 : IV) (x63 : IV) (x64 : IV) (q58 : List IV → Hp → Option (IV × Hp)) (h60 : Hp) (ih : Handler) : Option (IV × Hp) :=
  (fun (j0_71 : Hp → Option (IV × Hp)) => faddrS 0 x63 fun x75 => load1 x75 h60 fun x76 _ => isoS [] false false ih 63 [x76, x65] h60 fun x78 h79 _ _ => gtS EE 3 x78 (.fv (.int .i64 0)) fun x82 => S49_163 x82 x64 h79 x63 x65 x62 j0_71 ih x61) fun h72 => S49_154 x65 h3 h72 x61 x62 x63 x64 q58
noncomputable def S49_165 (ih : Handler) (h60 : Hp) (x61 : IV) (x64 : IV) : Option (IV × Hp) :=
  isoS [true, false] false false ih 70 [x61, x64] h60 fun x138 h139 _ _ => outS1 [x138] h139
noncomputable def S49_166 (x63 : IV) (h60 : Hp) (x65 : IV) (h3 : Hp) (x61 : IV) (x62 : IV) (x64 : IV) (q58 : List IV → Hp → Option (IV × Hp)) (ih : Handler) : Option (IV × Hp) :=
  faddrS 2 x63 fun x66 => load1 x66 h60 fun x67 _ => lenS x67 fun x69 => ltS EE 3 x65 x69 fun x70 => condS x70 (S49_164 x65 h3 x61 x62 x63 x64 q58 h60 ih) (S49_165 ih h60 x61 x64)
noncomputable def S49_167 (l59 : List IV) (h60 : Hp) (h3 : Hp) (q58 : List IV → Hp → Option (IV × Hp)) (ih : Handler) : Option (IV × Hp) :=
  uncS l59 fun x61 l142 => uncS l142 fun x62 l143 => uncS l143 fun x63 l144 => uncS l144 fun x64 l145 => uncS l145 fun x65 _ => S49_166 x63 h60 x65 h3 x61 x62 x64 q58 ih
noncomputable def S49_168 (h3 : Hp) (h55 : Hp) (x0 : IV) (x2 : IV) (x4 : IV) (x54 : IV) (n : Nat) (ih : Handler) : Option (IV × Hp) :=
  dropS (h3.own.map (·.1)) [51392524, 51392526, 51393550] [x0, x2, x4, x54, .fv (.int .i64 0)] h55 fun h147 => loopS n (fun q58 l59 h60 => S49_167 l59 h60 h3 q58 ih) [x0, x2, x4, x54, .fv (.int .i64 0)] h147
noncomputable def S49_169 (h5 : Hp) (x47 : IV) (x4 : IV) (h3 : Hp) (x0 : IV) (x2 : IV) (n : Nat) (ih : Handler) : Option (IV × Hp) :=
  load1 x47 h5 fun x48 _ => faddrS 1 x4 fun x50 => load1 x50 h5 fun x51 _ => bldS [.fv (.int .i64 0), .fv (.int .i64 0), .nils, .nils, .fv (.int .i64 0), .fv (.int .i64 0), .nils] [(0, 1, x48), (1, 1, x51)] fun x53 => boxS 51387397 x53 h5 fun x54 h55 _ _ => S49_168 h3 h55 x0 x2 x4 x54 n ih
noncomputable def S49_170 (x4 : IV) (h5 : Hp) (x2 : IV) (h3 : Hp) (x0 : IV) (n : Nat) (ih : Handler) : Option (IV × Hp) :=
  faddrS 0 x4 fun x18 => load1 x18 h5 fun x19 _ => eqS EE 3 x19 (.fv (.int .i64 1)) fun x21 => condS x21 (faddrS 1 x4 fun x22 => S49_153 h5 x22 x2 x4) (faddrS 0 x4 fun x47 => S49_169 h5 x47 x4 h3 x0 x2 n ih)
noncomputable def S49 (ih : Handler) (n : Nat) (x0 : IV) (x1 : IV) (x2 : IV) (h3 : Hp) : Option (IV × Hp) :=
  boxS 51380224 x1 h3 fun x4 h5 _ _ => nilS x0 fun x8 => faddrS 2 x8 fun x9 => load1 x9 h5 fun x10 _ => neS EE 3 x10 (.fv (.int .i64 0)) fun x12 => condS x12 (S49_148 h5) (S49_170 x4 h5 x2 h3 x0 n ih)
theorem S49_ok (ih : Handler) (n : Nat) (x0 : IV) (x1 : IV) (x2 : IV) (h3 : Hp) : funS EE ih ft.get n 49 [x0, x1, x2] h3 = S49 ih n x0 x1 x2 h3 := by kernel_rfl
/-! Function 50. -/
noncomputable def S50_129 (h1 : Hp) (h119 : Hp) (x102 : IV) (x103 : IV) (x123 : IV) (q99 : List IV → Hp → Option (IV × Hp)) : Option (IV × Hp) :=
  dropS (h1.own.map (·.1)) [52434946] [x102, x103, x123] h119 fun h124 => q99 [x102, x103, x123] h124
noncomputable def S50_130 (ih : Handler) (h113 : Hp) (x116 : IV) (x104 : IV) (h1 : Hp) (x102 : IV) (x103 : IV) (q99 : List IV → Hp → Option (IV × Hp)) : Option (IV × Hp) :=
  isoS [] false false ih 50 [x116] h113 fun x118 h119 _ _ => optS (unR .not x118) fun x122 => condS x122 (outS1 [.fv (.bool false)] h119) (addS EE 3 x104 (.fv (.int .i64 1)) fun x123 => S50_129 h1 h119 x102 x103 x123 q99)
noncomputable def S50_131 (x102 : IV) (x104 : IV) (h101 : Hp) (ih : Handler) (h1 : Hp) (x103 : IV) (q99 : List IV → Hp → Option (IV × Hp)) : Option (IV × Hp) :=
  ixS 3 x102 x104 fun x106 => loadA 3 x106 h101 fun x107 _ => newS 52434946 (.row [.fv (.int .i64 0), .fv (.int .i64 0), .nils] false) (.ptr (.own 52434946) 0) h101 fun x109 h110 _ _ => storeA 3 x109 x107 h110 fun h113 _ _ => loadA 3 x109 h113 fun x116 _ => S50_130 ih h113 x116 x104 h1 x102 x103 q99
noncomputable def S50_132 (l100 : List IV) (h101 : Hp) (ih : Handler) (h1 : Hp) (q99 : List IV → Hp → Option (IV × Hp)) : Option (IV × Hp) :=
  uncS l100 fun x102 l125 => uncS l125 fun x103 l126 => uncS l126 fun x104 _ => ltS EE 3 x104 x103 fun x105 => condS x105 (S50_131 x102 x104 h101 ih h1 x103 q99) (outS1 [.fv (.bool true)] h101)
noncomputable def S50_133 (x2 : IV) (h91 : Hp) (h1 : Hp) (n : Nat) (ih : Handler) : Option (IV × Hp) :=
  faddrS 2 x2 fun x95 => load1 x95 h91 fun x96 _ => lenS x96 fun x98 => dropS (h1.own.map (·.1)) [52434946] [x96, x98, .fv (.int .i64 0)] h91 fun h128 => loopS n (fun q99 l100 h101 => S50_132 l100 h101 ih h1 q99) [x96, x98, .fv (.int .i64 0)] h128
noncomputable def S50_134 (h72 : Hp) (x65 : IV) (x71 : IV) (x44 : IV) (x2 : IV) (h1 : Hp) (n : Nat) (ih : Handler) : Option (IV × Hp) :=
  guardS x65 true h72 (fun k75 => load1 x71 h72 fun x76 r77 => k75 x76 h72 r77 []) fun x78 h79 _ _ => guardS x65 true h79 (fun k82 => ltS EE 3 x78 (.fv (.int .i64 0)) fun x83 => k82 x83 h79 [] []) fun x84 h85 _ _ => guardS x44 false h85 (fun k88 => pickS x65 x84 (.fv (.bool false)) fun x89 => k88 x89 h85 [] []) fun x90 h91 _ _ => pickS x44 (.fv (.bool true)) x90 fun x94 => condS x94 (outS1 [.fv (.bool false)] h91) (S50_133 x2 h91 h1 n ih)
noncomputable def S50_135 (h41 : Hp) (x44 : IV) (x2 : IV) (h1 : Hp) (n : Nat) (ih : Handler) : Option (IV × Hp) :=
  guardS x44 false h41 (fun k45 => faddrS 0 x2 fun x46 => k45 x46 h41 [] []) fun x47 h48 _ _ => guardS x44 false h48 (fun k51 => load1 x47 h48 fun x52 r53 => k51 x52 h48 r53 []) fun x54 h55 _ _ => guardS x44 false h55 (fun k58 => eqS EE 3 x54 (.fv (.int .i64 1)) fun x59 => k58 x59 h55 [] []) fun x60 h61 _ _ => guardS x44 false h61 (fun k64 => k64 x60 h61 [] []) fun x65 h66 _ _ => guardS x65 true h66 (fun k69 => faddrS 1 x2 fun x70 => k69 x70 h66 [] []) fun x71 h72 _ _ => S50_134 h72 x65 x71 x44 x2 h1 n ih
noncomputable def S50_136 (h16 : Hp) (x13 : IV) (x2 : IV) (x15 : IV) (h1 : Hp) (n : Nat) (ih : Handler) : Option (IV × Hp) :=
  guardS x13 true h16 (fun k19 => faddrS 2 x2 fun x20 => k19 x20 h16 [] []) fun x21 h22 _ _ => guardS x13 true h22 (fun k25 => load1 x21 h22 fun x26 r27 => k25 x26 h22 r27 []) fun x28 h29 _ _ => guardS x13 true h29 (fun k32 => lenS x28 fun x33 => k32 x33 h29 [] []) fun x34 h35 _ _ => guardS x13 true h35 (fun k38 => neS EE 3 x15 x34 fun x39 => k38 x39 h35 [] []) fun x40 h41 _ _ => pickS x13 x40 (.fv (.bool false)) fun x44 => S50_135 h41 x44 x2 h1 n ih
noncomputable def S50 (ih : Handler) (n : Nat) (x0 : IV) (h1 : Hp) : Option (IV × Hp) :=
  boxS 52428800 x0 h1 fun x2 h3 _ _ => faddrS 0 x2 fun x6 => load1 x6 h3 fun x7 _ => isoS [] false false ih 71 [x7] h3 fun x9 h10 _ _ => geS EE 3 x9 (.fv (.int .i64 0)) fun x13 => guardS x13 true h10 (fun k14 => k14 x9 h10 [] []) fun x15 h16 _ _ => S50_136 h16 x13 x2 x15 h1 n ih
theorem S50_ok (ih : Handler) (n : Nat) (x0 : IV) (h1 : Hp) : funS EE ih ft.get n 50 [x0] h1 = S50 ih n x0 h1 := by kernel_rfl
/-! Function 51. -/
noncomputable def S51_69 (x2 : IV) (h61 : Hp) (x6 : IV) : Option (IV × Hp) :=
  nilS x2 fun x64 => faddrS 4 x64 fun x65 => store1 x65 x6 h61 fun h66 _ _ => outS1 [x2] h66
noncomputable def S51_70 (x46 : IV) (h47 : Hp) (x6 : IV) (x2 : IV) : Option (IV × Hp) :=
  bldS [.fv (.nilf)] [(0, 1, x46)] fun x50 => genS (pcInsert EE 78 x6 (.fv (.int .i64 30)) x50) 53479445 h47 fun _ h52 _ _ => genS (val (mkFunc (.func 76) [x2] [])) 53479447 h52 fun x55 h56 _ _ => bldS [.fv (.nilf)] [(0, 1, x55)] fun x59 => genS (pcInsert EE 78 x6 (.fv (.int .i64 19)) x59) 53479449 h56 fun _ h61 _ _ => S51_69 x2 h61 x6
noncomputable def S51_71 (h29 : Hp) (x6 : IV) (x32 : IV) (x2 : IV) : Option (IV × Hp) :=
  genS (pcInsert EE 78 x6 (.fv (.int .i64 9)) x32) 53479437 h29 fun _ h34 _ _ => genS (val (mkFunc (.func 74) [x2] [])) 53479439 h34 fun x37 h38 _ _ => bldS [.fv (.nilf)] [(0, 1, x37)] fun x41 => genS (pcInsert EE 78 x6 (.fv (.int .i64 13)) x41) 53479441 h38 fun _ h43 _ _ => genS (val (mkFunc (.func 75) [x2] [])) 53479443 h43 fun x46 h47 _ _ => S51_70 x46 h47 x6 x2
noncomputable def S51_72 (h16 : Hp) (x2 : IV) (x6 : IV) : Option (IV × Hp) :=
  genS (val (mkFunc (.func 73) [x2] [])) 53479431 h16 fun x19 h20 _ _ => bldS [.fv (.nilf)] [(0, 1, x19)] fun x23 => genS (pcInsert EE 78 x6 (.fv (.int .i64 8)) x23) 53479433 h20 fun _ h25 _ _ => genS (val (mkFunc (.func 73) [x2] [])) 53479435 h25 fun x28 h29 _ _ => bldS [.fv (.nilf)] [(0, 1, x28)] fun x32 => S51_71 h29 x6 x32 x2
noncomputable def S51 (ih : Handler) (n : Nat) (h0 : Hp) : Option (IV × Hp) :=
  bldS [.fv (.int .i64 0), .fv (.int .i64 0), .fv (.int .i64 0), .fv (.int .i64 0), .dead] [(0, 1, .fv (.int .i64 100000)), (1, 1, .fv (.int .i64 5000000))] fun x1 => boxS 53478401 x1 h0 fun x2 h3 _ _ => genS (pcMakeMap 53479425) 53479425 h3 fun x6 h7 _ _ => genS (val (mkFunc (.func 72) [x2] [])) 53479427 h7 fun x10 h11 _ _ => bldS [.fv (.nilf)] [(0, 1, x10)] fun x14 => genS (pcInsert EE 78 x6 (.fv (.int .i64 5)) x14) 53479429 h11 fun _ h16 _ _ => S51_72 h16 x2 x6
theorem S51_ok (ih : Handler) (n : Nat) (h0 : Hp) : funS EE ih ft.get n 51 [] h0 = S51 ih n h0 := by kernel_rfl
/-! Function 52. -/
noncomputable def S52_117 (x4 : IV) (h9 : Hp) (ih : Handler) (x1 : IV) : Option (IV × Hp) :=
  faddrS 1 x4 fun x16 => load1 x16 h9 fun x17 _ => isoS [] false false ih 78 [x1, x17] h9 fun x19 h20 _ _ => outS1 [x19] h20
noncomputable def S52_118 (x62 : IV) (h3 : Hp) (h65 : Hp) (x56 : IV) (x57 : IV) (x58 : IV) (x59 : IV) (x60 : IV) (x61 : IV) (q53 : List IV → Hp → Option (IV × Hp)) : Option (IV × Hp) :=
  addS EE 3 x62 (.fv (.int .i64 1)) fun x66 => dropS (h3.own.map (·.1)) [54535171] [x56, x57, x58, x59, x60, x61, x66] h65 fun h67 => q53 [x56, x57, x58, x59, x60, x61, x66] h67
noncomputable def S52_119 (ih : Handler) (h82 : Hp) (x56 : IV) (x57 : IV) (x90 : IV) (r89 : List Ref) (x88 : IV) (x62 : IV) (j0_64 : Hp → Option (IV × Hp)) : Option (IV × Hp) :=
  isoS [true, false, false] false false ih 52 [x56, x57, x90] h82 fun x92 h93 r94 w95 => chkS [(r89, [])] r94 w95 (ixS 1 x88 x62 fun x96 => store1 x96 x92 h93 fun h97 r98 w99 => chkS [] r98 w99 (j0_64 h97))
noncomputable def S52_120 (x86 : IV) (h82 : Hp) (x71 : IV) (ih : Handler) (x56 : IV) (x57 : IV) (x62 : IV) (j0_64 : Hp → Option (IV × Hp)) : Option (IV × Hp) :=
  faddrS 2 x86 fun x87 => load1 x87 h82 fun x88 r89 => chkS [] r89 [] (loadA 3 x71 h82 fun x90 r91 => chkS [(r89, [])] r91 [] (S52_119 ih h82 x56 x57 x90 r89 x88 x62 j0_64))
noncomputable def S52_121 (h75 : Hp) (x78 : IV) (ih : Handler) (x62 : IV) (x59 : IV) (x71 : IV) (x56 : IV) (x57 : IV) (j0_64 : Hp → Option (IV × Hp)) : Option (IV × Hp) :=
  load1 x78 h75 fun x79 _ => isoS [] false false ih 79 [x79, x62] h75 fun x81 h82 _ _ => eqS EE 3 x81 (.fv (.int .i64 0)) fun x85 => condS x85 (nilS x59 fun x86 => S52_120 x86 h82 x71 ih x56 x57 x62 j0_64) (j0_64 h82)
noncomputable def S52_122 (x60 : IV) (x62 : IV) (h55 : Hp) (x58 : IV) (ih : Handler) (x59 : IV) (x56 : IV) (x57 : IV) (j0_64 : Hp → Option (IV × Hp)) : Option (IV × Hp) :=
  ixS 3 x60 x62 fun x68 => loadA 3 x68 h55 fun x69 _ => newS 54535171 (.row [.fv (.int .i64 0), .fv (.int .i64 0), .nils] false) (.ptr (.own 54535171) 0) h55 fun x71 h72 _ _ => storeA 3 x71 x69 h72 fun h75 _ _ => faddrS 0 x58 fun x78 => S52_121 h75 x78 ih x62 x59 x71 x56 x57 j0_64
noncomputable def S52_123 (x100 : IV) (h55 : Hp) (x59 : IV) (ih : Handler) (x56 : IV) : Option (IV × Hp) :=
  faddrS 3 x100 fun x101 => load1 x101 h55 fun x102 _ => neS EE 37 x102 (.fv (.int .i64 0)) fun x104 => condS x104 (outS1 [x59] h55) (isoS [true, false] false false ih 80 [x56, x59] h55 fun x105 h106 _ _ => outS1 [x105] h106)
noncomputable def S52_124 (l113 : List IV) (h3 : Hp) (x56 : IV) (x57 : IV) (x58 : IV) (x59 : IV) (x60 : IV) (q53 : List IV → Hp → Option (IV × Hp)) (h55 : Hp) (ih : Handler) : Option (IV × Hp) :=
  uncS l113 fun x61 l114 => uncS l114 fun x62 _ => ltS EE 3 x62 x61 fun x63 => condS x63 ((fun (j0_64 : Hp → Option (IV × Hp)) => S52_122 x60 x62 h55 x58 ih x59 x56 x57 j0_64) fun h65 => S52_118 x62 h3 h65 x56 x57 x58 x59 x60 x61 q53) (nilS x56 fun x100 => S52_123 x100 h55 x59 ih x56)
noncomputable def S52_125 (l54 : List IV) (h3 : Hp) (q53 : List IV → Hp → Option (IV × Hp)) (h55 : Hp) (ih : Handler) : Option (IV × Hp) :=
  uncS l54 fun x56 l109 => uncS l109 fun x57 l110 => uncS l110 fun x58 l111 => uncS l111 fun x59 l112 => uncS l112 fun x60 l113 => S52_124 l113 h3 x56 x57 x58 x59 x60 q53 h55 ih
noncomputable def S52_126 (x50 : IV) (h3 : Hp) (h41 : Hp) (x0 : IV) (x1 : IV) (x4 : IV) (x40 : IV) (n : Nat) (ih : Handler) : Option (IV × Hp) :=
  lenS x50 fun x52 => dropS (h3.own.map (·.1)) [54535171] [x0, x1, x4, x40, x50, x52, .fv (.int .i64 0)] h41 fun h116 => loopS n (fun q53 l54 h55 => S52_125 l54 h3 q53 h55 ih) [x0, x1, x4, x40, x50, x52, .fv (.int .i64 0)] h116
noncomputable def S52_127 (x46 : IV) (h41 : Hp) (x40 : IV) (x4 : IV) (h3 : Hp) (x0 : IV) (x1 : IV) (n : Nat) (ih : Handler) : Option (IV × Hp) :=
  neS EE 37 x46 (.fv (.int .i64 0)) fun x48 => condS x48 (outS1 [x40] h41) (faddrS 2 x4 fun x49 => load1 x49 h41 fun x50 _ => S52_126 x50 h3 h41 x0 x1 x4 x40 n ih)
noncomputable def S52_128 (h34 : Hp) (x39 : IV) (x0 : IV) (x4 : IV) (h3 : Hp) (x1 : IV) (n : Nat) (ih : Handler) : Option (IV × Hp) :=
  boxS 54530059 x39 h34 fun x40 h41 r42 w43 => chkS [] r42 w43 (nilS x0 fun x44 => faddrS 3 x44 fun x45 => load1 x45 h41 fun x46 _ => S52_127 x46 h41 x40 x4 h3 x0 x1 n ih)
noncomputable def S52_129 (h9 : Hp) (x32 : IV) (r28 : List Ref) (r25 : List Ref) (x4 : IV) (r31 : List Ref) (x24 : IV) (x27 : IV) (x1 : IV) (x0 : IV) (h3 : Hp) (n : Nat) (ih : Handler) : Option (IV × Hp) :=
  genS (pcMakeSlice EE 54530055 104 x32 x32) 54530055 h9 fun x33 h34 r35 w36 => chkS [(r28, []), (r25, [])] r35 w36 (loadA 3 x4 h34 fun x37 r38 => chkS [(r35, w36), (r31, []), (r28, []), (r25, [])] r38 [] (bldS [.fv (.int .i64 0), .fv (.int .i64 0), .nils, .fv (.int .i64 0), .fv (.int .i64 0), .nils, .fv (.nilp)] [(0, 1, x24), (1, 1, x27), (2, 1, x33), (3, 3, x37), (6, 1, x1)] fun x39 => S52_128 h34 x39 x0 x4 h3 x1 n ih))
noncomputable def S52_130 (r28 : List Ref) (r25 : List Ref) (x4 : IV) (h9 : Hp) (x24 : IV) (x27 : IV) (x1 : IV) (x0 : IV) (h3 : Hp) (n : Nat) (ih : Handler) : Option (IV × Hp) :=
  chkS [(r25, [])] r28 [] (faddrS 2 x4 fun x29 => load1 x29 h9 fun x30 r31 => chkS [(r28, []), (r25, [])] r31 [] (lenS x30 fun x32 => S52_129 h9 x32 r28 r25 x4 r31 x24 x27 x1 x0 h3 n ih))
noncomputable def S52_131 (x4 : IV) (h9 : Hp) (x1 : IV) (x0 : IV) (h3 : Hp) (n : Nat) (ih : Handler) : Option (IV × Hp) :=
  faddrS 0 x4 fun x23 => load1 x23 h9 fun x24 r25 => chkS [] r25 [] (faddrS 1 x4 fun x26 => load1 x26 h9 fun x27 r28 => S52_130 r28 r25 x4 h9 x24 x27 x1 x0 h3 n ih)
noncomputable def S52 (ih : Handler) (n : Nat) (x0 : IV) (x1 : IV) (x2 : IV) (h3 : Hp) : Option (IV × Hp) :=
  boxS 54525952 x2 h3 fun x4 h5 _ _ => isoS [true] false false ih 77 [x0] h5 fun _ h9 _ _ => faddrS 0 x4 fun x12 => load1 x12 h9 fun x13 _ => eqS EE 3 x13 (.fv (.int .i64 1)) fun x15 => condS x15 (S52_117 x4 h9 ih x1) (S52_131 x4 h9 x1 x0 h3 n ih)
theorem S52_ok (ih : Handler) (n : Nat) (x0 : IV) (x1 : IV) (x2 : IV) (h3 : Hp) : funS EE ih ft.get n 52 [x0, x1, x2] h3 = S52 ih n x0 x1 x2 h3 := by kernel_rfl
/-! Function 53. -/
noncomputable def S53_261 (h21 : Hp) (x5 : IV) : Option (IV × Hp) :=
  cellS true 3 x5 h21 fun x24 => outS1 [x24] h21
noncomputable def S53_262 (h12 : Hp) (x5 : IV) (x36 : IV) : Option (IV × Hp) :=
  storeA 3 x5 x36 h12 fun h37 _ _ => cellS true 3 x5 h37 fun x40 => outS1 [x40] h37
noncomputable def S53_263 (x1 : IV) (h12 : Hp) (x30 : IV) (x5 : IV) : Option (IV × Hp) :=
  nilS x1 fun x31 => faddrS 1 x31 fun x32 => load1 x32 h12 fun x33 _ => subS EE 3 x30 x33 fun x35 => bldS [.fv (.int .i64 0), .fv (.int .i64 0), .nils] [(0, 1, .fv (.int .i64 1)), (1, 1, x35)] fun x36 => S53_262 h12 x5 x36
noncomputable def S53_264 (h90 : Hp) (x83 : IV) : Option (IV × Hp) :=
  bldS [.fv (.int .i64 0), .fv (.int .i64 0), .nils] [] fun x96 => storeA 3 x83 x96 h90 fun h97 _ _ => cellS true 3 x83 h97 fun x100 => outS1 [x100] h97
noncomputable def S53_265 (x89 : IV) (h4 : Hp) (h108 : Hp) (x79 : IV) (x80 : IV) (x81 : IV) (x82 : IV) (x83 : IV) (x84 : IV) (x88 : IV) (q51 : List IV → Hp → Option (IV × Hp)) : Option (IV × Hp) :=
  addS EE 3 x89 (.fv (.int .i64 1)) fun x111 => dropS (h4.own.map (·.1)) [55589889, 55593990] [x79, x80, x81, x82, x83, x84, x88, x111] h108 fun h112 => q51 [x79, x80, x81, x82, x83, x84, x88, x111] h112
noncomputable def S53_266 (x81 : IV) (x87 : IV) (x82 : IV) (ih : Handler) (h90 : Hp) (x79 : IV) (x86 : IV) (x84 : IV) (x85 : IV) (x89 : IV) (h4 : Hp) (x80 : IV) (x83 : IV) (x88 : IV) (q51 : List IV → Hp → Option (IV × Hp)) : Option (IV × Hp) :=
  addS EE 3 x81 x87 fun x101 => addS EE 3 x82 (.fv (.int .i64 1)) fun x102 => isoS [true, false, false, false] false false ih 53 [x79, x86, x101, x102] h90 fun x103 h104 _ _ => ixS 3 x84 x85 fun x107 => storeA 3 x107 x103 h104 fun h108 _ _ => S53_265 x89 h4 h108 x79 x80 x81 x82 x83 x84 x88 q51
noncomputable def S53_267 (x79 : IV) (h90 : Hp) (x83 : IV) (x81 : IV) (x87 : IV) (x82 : IV) (ih : Handler) (x86 : IV) (x84 : IV) (x85 : IV) (x89 : IV) (h4 : Hp) (x80 : IV) (x88 : IV) (q51 : List IV → Hp → Option (IV × Hp)) : Option (IV × Hp) :=
  nilS x79 fun x91 => faddrS 3 x91 fun x92 => load1 x92 h90 fun x93 _ => neS EE 37 x93 (.fv (.int .i64 0)) fun x95 => condS x95 (S53_264 h90 x83) (S53_266 x81 x87 x82 ih h90 x79 x86 x84 x85 x89 h4 x80 x83 x88 q51)
noncomputable def S53_268 (x134 : IV) (h4 : Hp) (h143 : Hp) (x122 : IV) (x123 : IV) (x124 : IV) (x125 : IV) (x126 : IV) (x127 : IV) (x128 : IV) (x129 : IV) (x130 : IV) (x131 : IV) (x132 : IV) (x133 : IV) (q119 : List IV → Hp → Option (IV × Hp)) : Option (IV × Hp) :=
  addS EE 3 x134 (.fv (.int .i64 1)) fun x146 => dropS (h4.own.map (·.1)) [55593990] [x122, x123, x124, x125, x126, x127, x128, x129, x130, x131, x132, x133, x146] h143 fun h147 => q119 [x122, x123, x124, x125, x126, x127, x128, x129, x130, x131, x132, x133, x146] h147
noncomputable def S53_269 (x124 : IV) (x134 : IV) (h121 : Hp) (x130 : IV) (h4 : Hp) (x122 : IV) (x123 : IV) (x125 : IV) (x126 : IV) (x127 : IV) (x128 : IV) (x129 : IV) (x131 : IV) (x132 : IV) (x133 : IV) (q119 : List IV → Hp → Option (IV × Hp)) : Option (IV × Hp) :=
  addS EE 3 x124 x134 fun x136 => bldS [.fv (.int .i64 0), .fv (.int .i64 0), .nils, .fv (.int .i64 0), .fv (.int .i64 0), .nils, .fv (.nilp)] [(0, 1, .fv (.int .i64 1)), (1, 1, x136)] fun x137 => fzS (pcBox true 55593990 x137) 55593990 x137 h121 fun x138 h139 _ _ => ixS 1 x130 x134 fun x142 => store1 x142 x138 h139 fun h143 _ _ => S53_268 x134 h4 h143 x122 x123 x124 x125 x126 x127 x128 x129 x130 x131 x132 x133 q119
noncomputable def S53_270 (ih : Handler) (h121 : Hp) (x122 : IV) (x123 : IV) (x128 : IV) (x130 : IV) (j11_78 : IV → IV → IV → IV → IV → IV → IV → IV → IV → IV → IV → Hp → Option (IV × Hp)) (x124 : IV) (x125 : IV) (x126 : IV) (x127 : IV) (x129 : IV) (x131 : IV) (x132 : IV) : Option (IV × Hp) :=
  isoS [true, false, false, false] false false ih 81 [x122, x123, x128, x130] h121 fun x148 h149 _ _ => j11_78 x122 x123 x124 x125 x126 x127 x128 x148 x129 x131 x132 h149
noncomputable def S53_271 (l161 : List IV) (x124 : IV) (h121 : Hp) (x130 : IV) (h4 : Hp) (x122 : IV) (x123 : IV) (x125 : IV) (x126 : IV) (x127 : IV) (x128 : IV) (x129 : IV) (x131 : IV) (q119 : List IV → Hp → Option (IV × Hp)) (ih : Handler) (j11_78 : IV → IV → IV → IV → IV → IV → IV → IV → IV → IV → IV → Hp → Option (IV × Hp)) : Option (IV × Hp) :=
  uncS l161 fun x132 l162 => uncS l162 fun x133 l163 => uncS l163 fun x134 _ => ltS EE 3 x134 x133 fun x135 => condS x135 (S53_269 x124 x134 h121 x130 h4 x122 x123 x125 x126 x127 x128 x129 x131 x132 x133 q119) (S53_270 ih h121 x122 x123 x128 x130 j11_78 x124 x125 x126 x127 x129 x131 x132)
noncomputable def S53_272 (l156 : List IV) (x124 : IV) (h121 : Hp) (h4 : Hp) (x122 : IV) (x123 : IV) (x125 : IV) (x126 : IV) (q119 : List IV → Hp → Option (IV × Hp)) (ih : Handler) (j11_78 : IV → IV → IV → IV → IV → IV → IV → IV → IV → IV → IV → Hp → Option (IV × Hp)) : Option (IV × Hp) :=
  uncS l156 fun x127 l157 => uncS l157 fun x128 l158 => uncS l158 fun x129 l159 => uncS l159 fun x130 l160 => uncS l160 fun x131 l161 => S53_271 l161 x124 h121 x130 h4 x122 x123 x125 x126 x127 x128 x129 x131 q119 ih j11_78
noncomputable def S53_273 (l120 : List IV) (h121 : Hp) (h4 : Hp) (q119 : List IV → Hp → Option (IV × Hp)) (ih : Handler) (j11_78 : IV → IV → IV → IV → IV → IV → IV → IV → IV → IV → IV → Hp → Option (IV × Hp)) : Option (IV × Hp) :=
  uncS l120 fun x122 l152 => uncS l152 fun x123 l153 => uncS l153 fun x124 l154 => uncS l154 fun x125 l155 => uncS l155 fun x126 l156 => S53_272 l156 x124 h121 h4 x122 x123 x125 x126 q119 ih j11_78
noncomputable def S53_274 (h4 : Hp) (h115 : Hp) (x54 : IV) (x55 : IV) (x56 : IV) (x57 : IV) (x58 : IV) (x59 : IV) (x61 : IV) (x74 : IV) (x114 : IV) (x60 : IV) (x118 : IV) (n : Nat) (ih : Handler) (j11_78 : IV → IV → IV → IV → IV → IV → IV → IV → IV → IV → IV → Hp → Option (IV × Hp)) : Option (IV × Hp) :=
  dropS (h4.own.map (·.1)) [55593990] [x54, x55, x56, x57, x58, x59, x61, x74, x114, x60, x61, x118, .fv (.int .i64 0)] h115 fun h165 => loopS n (fun q119 l120 h121 => S53_273 l120 h121 h4 q119 ih j11_78) [x54, x55, x56, x57, x58, x59, x61, x74, x114, x60, x61, x118, .fv (.int .i64 0)] h165
noncomputable def S53_275 (x113 : IV) (h75 : Hp) (x74 : IV) (h4 : Hp) (x54 : IV) (x55 : IV) (x56 : IV) (x57 : IV) (x58 : IV) (x59 : IV) (x61 : IV) (x60 : IV) (n : Nat) (ih : Handler) (j11_78 : IV → IV → IV → IV → IV → IV → IV → IV → IV → IV → IV → Hp → Option (IV × Hp)) (x68 : IV) : Option (IV × Hp) :=
  condS x113 (genS (pcMakeSlice EE 55589889 104 x74 x74) 55589889 h75 fun x114 h115 _ _ => lenS x114 fun x118 => S53_274 h4 h115 x54 x55 x56 x57 x58 x59 x61 x74 x114 x60 x118 n ih j11_78) (j11_78 x54 x55 x56 x57 x58 x59 x61 x68 x74 x60 x61 h75)
noncomputable def S53_276 (r73 : List Ref) (r69 : List Ref) (r66 : List Ref) (ih : Handler) (h53 : Hp) (x72 : IV) (x61 : IV) (h4 : Hp) (q51 : List IV → Hp → Option (IV × Hp)) (x54 : IV) (x55 : IV) (x56 : IV) (x57 : IV) (x58 : IV) (x59 : IV) (x60 : IV) (n : Nat) (x68 : IV) : Option (IV × Hp) :=
  chkS [(r69, []), (r66, [])] r73 [] (isoS [] false false ih 79 [x72, x61] h53 fun x74 h75 r76 w77 => chkS [(r69, []), (r66, [])] r76 w77 ((fun (j11_78 : IV → IV → IV → IV → IV → IV → IV → IV → IV → IV → IV → Hp → Option (IV × Hp)) => gtS EE 3 x74 (.fv (.int .i64 0)) fun x113 => S53_275 x113 h75 x74 h4 x54 x55 x56 x57 x58 x59 x61 x60 n ih j11_78 x68) fun x79 x80 x81 x82 x83 x84 x85 x86 x87 x88 x89 h90 => S53_267 x79 h90 x83 x81 x87 x82 ih x86 x84 x85 x89 h4 x80 x88 q51))
noncomputable def S53_277 (h53 : Hp) (x67 : IV) (x55 : IV) (r66 : List Ref) (ih : Handler) (x61 : IV) (h4 : Hp) (q51 : List IV → Hp → Option (IV × Hp)) (x54 : IV) (x56 : IV) (x57 : IV) (x58 : IV) (x59 : IV) (x60 : IV) (n : Nat) : Option (IV × Hp) :=
  load1 x67 h53 fun x68 r69 => chkS [] r69 [] (nilS x55 fun x70 => faddrS 0 x70 fun x71 => load1 x71 h53 fun x72 r73 => S53_276 r73 r69 r66 ih h53 x72 x61 h4 q51 x54 x55 x56 x57 x58 x59 x60 n x68)
noncomputable def S53_278 (x55 : IV) (h53 : Hp) (x61 : IV) (ih : Handler) (h4 : Hp) (q51 : List IV → Hp → Option (IV × Hp)) (x54 : IV) (x56 : IV) (x57 : IV) (x58 : IV) (x59 : IV) (x60 : IV) (n : Nat) : Option (IV × Hp) :=
  nilS x55 fun x63 => faddrS 2 x63 fun x64 => load1 x64 h53 fun x65 r66 => chkS [] r66 [] (ixS 1 x65 x61 fun x67 => S53_277 h53 x67 x55 r66 ih x61 h4 q51 x54 x56 x57 x58 x59 x60 n)
noncomputable def S53_279 (r176 : List Ref) (w177 : List Ref) (h175 : Hp) (x58 : IV) : Option (IV × Hp) :=
  chkS [] r176 w177 (cellS true 3 x58 h175 fun x178 => outS1 [x178] h175)
noncomputable def S53_280 (x170 : IV) (h53 : Hp) (r169 : List Ref) (x168 : IV) (x59 : IV) (x58 : IV) : Option (IV × Hp) :=
  faddrS 1 x170 fun x171 => load1 x171 h53 fun x172 r173 => chkS [(r169, [])] r173 [] (bldS [.fv (.int .i64 0), .fv (.int .i64 0), .nils] [(0, 1, x168), (1, 1, x172), (2, 1, x59)] fun x174 => storeA 3 x58 x174 h53 fun h175 r176 w177 => S53_279 r176 w177 h175 x58)
noncomputable def S53_281 (x55 : IV) (h53 : Hp) (x59 : IV) (x58 : IV) : Option (IV × Hp) :=
  nilS x55 fun x166 => faddrS 0 x166 fun x167 => load1 x167 h53 fun x168 r169 => chkS [] r169 [] (nilS x55 fun x170 => S53_280 x170 h53 r169 x168 x59 x58)
noncomputable def S53_282 (l183 : List IV) (x55 : IV) (h53 : Hp) (ih : Handler) (h4 : Hp) (q51 : List IV → Hp → Option (IV × Hp)) (x54 : IV) (x56 : IV) (x57 : IV) (x58 : IV) (n : Nat) : Option (IV × Hp) :=
  uncS l183 fun x59 l184 => uncS l184 fun x60 l185 => uncS l185 fun x61 _ => ltS EE 3 x61 x60 fun x62 => condS x62 (S53_278 x55 h53 x61 ih h4 q51 x54 x56 x57 x58 x59 x60 n) (S53_281 x55 h53 x59 x58)
noncomputable def S53_283 (l52 : List IV) (h53 : Hp) (ih : Handler) (h4 : Hp) (q51 : List IV → Hp → Option (IV × Hp)) (n : Nat) : Option (IV × Hp) :=
  uncS l52 fun x54 l179 => uncS l179 fun x55 l180 => uncS l180 fun x56 l181 => uncS l181 fun x57 l182 => uncS l182 fun x58 l183 => S53_282 l183 x55 h53 ih h4 q51 x54 x56 x57 x58 n
noncomputable def S53_284 (h4 : Hp) (h47 : Hp) (x0 : IV) (x1 : IV) (x2 : IV) (x3 : IV) (x5 : IV) (x46 : IV) (x50 : IV) (n : Nat) (ih : Handler) : Option (IV × Hp) :=
  dropS (h4.own.map (·.1)) [55589889, 55593990] [x0, x1, x2, x3, x5, x46, x50, .fv (.int .i64 0)] h47 fun h187 => loopS n (fun q51 l52 h53 => S53_283 l52 h53 ih h4 q51 n) [x0, x1, x2, x3, x5, x46, x50, .fv (.int .i64 0)] h187
noncomputable def S53_285 (x41 : IV) (h12 : Hp) (h4 : Hp) (x0 : IV) (x1 : IV) (x2 : IV) (x3 : IV) (x5 : IV) (n : Nat) (ih : Handler) : Option (IV × Hp) :=
  faddrS 2 x41 fun x42 => load1 x42 h12 fun x43 _ => lenS x43 fun x45 => genS (pcMakeSlice EE 55583749 29 x45 x45) 55583749 h12 fun x46 h47 _ _ => lenS x46 fun x50 => S53_284 h4 h47 x0 x1 x2 x3 x5 x46 x50 n ih
noncomputable def S53_286 (h12 : Hp) (x26 : IV) (x2 : IV) (x1 : IV) (x5 : IV) (h4 : Hp) (x0 : IV) (x3 : IV) (n : Nat) (ih : Handler) : Option (IV × Hp) :=
  load1 x26 h12 fun x27 _ => eqS EE 3 x27 (.fv (.int .i64 1)) fun x29 => condS x29 (subS EE 3 x2 (.fv (.int .i64 1)) fun x30 => S53_263 x1 h12 x30 x5) (nilS x1 fun x41 => S53_285 x41 h12 h4 x0 x1 x2 x3 x5 n ih)
noncomputable def S53_287 (x19 : IV) (h12 : Hp) (x5 : IV) (x1 : IV) (x2 : IV) (h4 : Hp) (x0 : IV) (x3 : IV) (n : Nat) (ih : Handler) : Option (IV × Hp) :=
  condS x19 (bldS [.fv (.int .i64 0), .fv (.int .i64 0), .nils] [] fun x20 => storeA 3 x5 x20 h12 fun h21 _ _ => S53_261 h21 x5) (nilS x1 fun x25 => faddrS 0 x25 fun x26 => S53_286 h12 x26 x2 x1 x5 h4 x0 x3 n ih)
noncomputable def S53_288 (ih : Handler) (h10 : Hp) (x0 : IV) (x5 : IV) (x1 : IV) (x2 : IV) (h4 : Hp) (x3 : IV) (n : Nat) : Option (IV × Hp) :=
  isoS [true] false false ih 77 [x0] h10 fun _ h12 _ _ => nilS x0 fun x15 => faddrS 3 x15 fun x16 => load1 x16 h12 fun x17 _ => neS EE 37 x17 (.fv (.int .i64 0)) fun x19 => S53_287 x19 h12 x5 x1 x2 h4 x0 x3 n ih
noncomputable def S53_289 (x256 : IV) (h252 : Hp) (j0_9 : Hp → Option (IV × Hp)) : Option (IV × Hp) :=
  faddrS 3 x256 fun x257 => store1 x257 (.fv (.int .i64 5)) h252 fun h258 _ _ => j0_9 h258
noncomputable def S53_290 (h246 : Hp) (x202 : IV) (x234 : IV) (x245 : IV) (x0 : IV) (j0_9 : Hp → Option (IV × Hp)) : Option (IV × Hp) :=
  guardS x202 true h246 (fun k249 => pickS x234 (.fv (.bool true)) x245 fun x250 => k249 x250 h246 [] []) fun x251 h252 _ _ => pickS x202 x251 (.fv (.bool false)) fun x255 => condS x255 (nilS x0 fun x256 => S53_289 x256 h252 j0_9) (j0_9 h252)
noncomputable def S53_291 (h217 : Hp) (x202 : IV) (x216 : IV) (x3 : IV) (x0 : IV) (j0_9 : Hp → Option (IV × Hp)) : Option (IV × Hp) :=
  guardS x202 true h217 (fun k220 => load1 x216 h217 fun x221 r222 => k220 x221 h217 r222 []) fun x223 h224 _ _ => guardS x202 true h224 (fun k227 => gtS EE 3 x223 (.fv (.int .i64 3000)) fun x228 => k227 x228 h224 [] []) fun x229 h230 _ _ => guardS x202 true h230 (fun k233 => k233 x229 h230 [] []) fun x234 h235 _ _ => guardS x234 false h235 (fun k238 => k238 x3 h235 [] []) fun x239 h240 _ _ => guardS x234 false h240 (fun k243 => gtS EE 3 x239 (.fv (.int .i64 120)) fun x244 => k243 x244 h240 [] []) fun x245 h246 _ _ => S53_290 h246 x202 x234 x245 x0 j0_9
noncomputable def S53_292 (h195 : Hp) (x199 : IV) (x0 : IV) (x3 : IV) (j0_9 : Hp → Option (IV × Hp)) : Option (IV × Hp) :=
  load1 x199 h195 fun x200 _ => eqS EE 37 x200 (.fv (.int .i64 0)) fun x202 => guardS x202 true h195 (fun k203 => k203 x0 h195 [] []) fun x204 h205 _ _ => guardS x202 true h205 (fun k208 => nilS x204 fun x209 => k208 x209 h205 [] []) fun x210 h211 _ _ => guardS x202 true h211 (fun k214 => faddrS 2 x210 fun x215 => k214 x215 h211 [] []) fun x216 h217 _ _ => S53_291 h217 x202 x216 x3 x0 j0_9
noncomputable def S53_293 (x0 : IV) (h6 : Hp) (x192 : IV) (x3 : IV) (j0_9 : Hp → Option (IV × Hp)) : Option (IV × Hp) :=
  nilS x0 fun x193 => faddrS 2 x193 fun x194 => store1 x194 x192 h6 fun h195 _ _ => nilS x0 fun x198 => faddrS 3 x198 fun x199 => S53_292 h195 x199 x0 x3 j0_9
noncomputable def S53 (ih : Handler) (n : Nat) (x0 : IV) (x1 : IV) (x2 : IV) (x3 : IV) (h4 : Hp) : Option (IV × Hp) :=
  newS 55574528 (.row [.fv (.int .i64 0), .fv (.int .i64 0), .nils] false) (.ptr (.own 55574528) 0) h4 fun x5 h6 _ _ => (fun (j0_9 : Hp → Option (IV × Hp)) => nilS x0 fun x188 => faddrS 2 x188 fun x189 => load1 x189 h6 fun x190 _ => addS EE 3 x190 (.fv (.int .i64 1)) fun x192 => S53_293 x0 h6 x192 x3 j0_9) fun h10 => S53_288 ih h10 x0 x5 x1 x2 h4 x3 n
theorem S53_ok (ih : Handler) (n : Nat) (x0 : IV) (x1 : IV) (x2 : IV) (x3 : IV) (h4 : Hp) : funS EE ih ft.get n 53 [x0, x1, x2, x3] h4 = S53 ih n x0 x1 x2 x3 h4 := by kernel_rfl
/-! Function 54. -/
noncomputable def S54_156 (ih : Handler) (h59 : Hp) (x23 : IV) (x67 : IV) (x69 : IV) (x26 : IV) (q20 : List IV → Hp → Option (IV × Hp)) (x24 : IV) (x25 : IV) : Option (IV × Hp) :=
  isoS [true, false, false] false false ih 54 [x23, x67, x69] h59 fun _ h71 _ _ => addS EE 3 x26 (.fv (.int .i64 1)) fun x74 => q20 [x23, x24, x25, x74] h71
noncomputable def S54_157 (x25 : IV) (h59 : Hp) (x26 : IV) (x24 : IV) (ih : Handler) (x23 : IV) (q20 : List IV → Hp → Option (IV × Hp)) : Option (IV × Hp) :=
  faddrS 2 x25 fun x63 => load1 x63 h59 fun x64 _ => ixS 3 x64 x26 fun x66 => loadA 3 x66 h59 fun x67 _ => addS EE 3 x24 (.fv (.int .i64 1)) fun x69 => S54_156 ih h59 x23 x67 x69 x26 q20 x24 x25
noncomputable def S54_158 (h40 : Hp) (x31 : IV) (x39 : IV) (x25 : IV) (x26 : IV) (x24 : IV) (ih : Handler) (x23 : IV) (q20 : List IV → Hp → Option (IV × Hp)) : Option (IV × Hp) :=
  guardS x31 true h40 (fun k43 => faddrS 1 x39 fun x44 => k43 x44 h40 [] []) fun x45 h46 _ _ => guardS x31 true h46 (fun k49 => load1 x45 h46 fun x50 r51 => k49 x50 h46 r51 []) fun x52 h53 _ _ => guardS x31 true h53 (fun k56 => eqS EE 3 x52 (.fv (.int .i64 0)) fun x57 => k56 x57 h53 [] []) fun x58 h59 _ _ => pickS x31 x58 (.fv (.bool false)) fun x62 => condS x62 (S54_157 x25 h59 x26 x24 ih x23 q20) (outS1 [] h59)
noncomputable def S54_159 (h22 : Hp) (x27 : IV) (x26 : IV) (x23 : IV) (x25 : IV) (x24 : IV) (ih : Handler) (q20 : List IV → Hp → Option (IV × Hp)) : Option (IV × Hp) :=
  load1 x27 h22 fun x28 _ => lenS x28 fun x30 => ltS EE 3 x26 x30 fun x31 => guardS x31 true h22 (fun k32 => k32 x23 h22 [] []) fun x33 h34 _ _ => guardS x31 true h34 (fun k37 => nilS x33 fun x38 => k37 x38 h34 [] []) fun x39 h40 _ _ => S54_158 h40 x31 x39 x25 x26 x24 ih x23 q20
noncomputable def S54_160 (l21 : List IV) (h22 : Hp) (ih : Handler) (q20 : List IV → Hp → Option (IV × Hp)) : Option (IV × Hp) :=
  uncS l21 fun x23 l75 => uncS l75 fun x24 l76 => uncS l76 fun x25 l77 => uncS l77 fun x26 _ => faddrS 2 x25 fun x27 => S54_159 h22 x27 x26 x23 x25 x24 ih q20
noncomputable def S54_161 (n : Nat) (h19 : Hp) (x0 : IV) (x2 : IV) (x4 : IV) (ih : Handler) : Option (IV × Hp) :=
  loopS n (fun q20 l21 h22 => S54_160 l21 h22 ih q20) [x0, x2, x4, .fv (.int .i64 0)] h19
noncomputable def S54_162 (h92 : Hp) (x97 : IV) (j0_18 : Hp → Option (IV × Hp)) : Option (IV × Hp) :=
  store1 x97 (.fv (.int .i64 5)) h92 fun h98 _ _ => j0_18 h98
noncomputable def S54_163 (x151 : IV) (h147 : Hp) (j0_18 : Hp → Option (IV × Hp)) : Option (IV × Hp) :=
  faddrS 1 x151 fun x152 => store1 x152 (.fv (.int .i64 1)) h147 fun h153 _ _ => j0_18 h153
noncomputable def S54_164 (r142 : List Ref) (w143 : List Ref) (h141 : Hp) (x112 : IV) (x140 : IV) (x0 : IV) (j0_18 : Hp → Option (IV × Hp)) : Option (IV × Hp) :=
  chkS [] r142 w143 (guardS x112 false h141 (fun k144 => optS (unR .not x140) fun x145 => k144 x145 h141 [] []) fun x146 h147 _ _ => pickS x112 (.fv (.bool true)) x146 fun x150 => condS x150 (nilS x0 fun x151 => S54_163 x151 h147 j0_18) (j0_18 h147))
noncomputable def S54_165 (r124 : List Ref) (w125 : List Ref) (h123 : Hp) (x112 : IV) (x4 : IV) (ih : Handler) (x122 : IV) (x0 : IV) (j0_18 : Hp → Option (IV × Hp)) : Option (IV × Hp) :=
  chkS [] r124 w125 (guardS x112 false h123 (fun k126 => faddrS 1 x4 fun x127 => k126 x127 h123 [] []) fun x128 h129 _ _ => guardS x112 false h129 (fun k132 => load1 x128 h129 fun x133 r134 => k132 x133 h129 r134 []) fun x135 h136 r137 w138 => chkS [(r124, w125)] r137 w138 (guardS x112 false h136 (fun k139 => isoS [] false false ih 83 [x122, x135] h136 k139) fun x140 h141 r142 w143 => S54_164 r142 w143 h141 x112 x140 x0 j0_18))
noncomputable def S54_166 (r110 : List Ref) (r106 : List Ref) (w107 : List Ref) (r103 : List Ref) (x109 : IV) (x104 : IV) (h105 : Hp) (x4 : IV) (ih : Handler) (x0 : IV) (j0_18 : Hp → Option (IV × Hp)) : Option (IV × Hp) :=
  chkS [(r106, w107), (r103, [])] r110 [] (lenS x109 fun x111 => neS EE 3 x104 x111 fun x112 => guardS x112 false h105 (fun k113 => faddrS 0 x4 fun x114 => k113 x114 h105 [] []) fun x115 h116 _ _ => guardS x112 false h116 (fun k119 => load1 x115 h116 fun x120 r121 => k119 x120 h116 r121 []) fun x122 h123 r124 w125 => S54_165 r124 w125 h123 x112 x4 ih x122 x0 j0_18)
noncomputable def S54_167 (r103 : List Ref) (ih : Handler) (h92 : Hp) (x102 : IV) (x4 : IV) (x0 : IV) (j0_18 : Hp → Option (IV × Hp)) : Option (IV × Hp) :=
  chkS [] r103 [] (isoS [] false false ih 82 [x102] h92 fun x104 h105 r106 w107 => chkS [] r106 w107 (faddrS 2 x4 fun x108 => load1 x108 h105 fun x109 r110 => S54_166 r110 r106 w107 r103 x109 x104 h105 x4 ih x0 j0_18))
noncomputable def S54_168 (x95 : IV) (x0 : IV) (h92 : Hp) (j0_18 : Hp → Option (IV × Hp)) (x4 : IV) (ih : Handler) : Option (IV × Hp) :=
  condS x95 (nilS x0 fun x96 => faddrS 1 x96 fun x97 => S54_162 h92 x97 j0_18) (faddrS 0 x4 fun x101 => load1 x101 h92 fun x102 r103 => S54_167 r103 ih h92 x102 x4 x0 j0_18)
noncomputable def S54_169 (h15 : Hp) (x80 : IV) (x2 : IV) (x0 : IV) (j0_18 : Hp → Option (IV × Hp)) (x4 : IV) (ih : Handler) : Option (IV × Hp) :=
  load1 x80 h15 fun x81 _ => gtS EE 3 x81 (.fv (.int .i64 3000)) fun x83 => guardS x83 false h15 (fun k84 => k84 x2 h15 [] []) fun x85 h86 _ _ => guardS x83 false h86 (fun k89 => gtS EE 3 x85 (.fv (.int .i64 120)) fun x90 => k89 x90 h86 [] []) fun x91 h92 _ _ => pickS x83 (.fv (.bool true)) x91 fun x95 => S54_168 x95 x0 h92 j0_18 x4 ih
noncomputable def S54_170 (x13 : IV) (h5 : Hp) (x12 : IV) (n : Nat) (x0 : IV) (x2 : IV) (x4 : IV) (ih : Handler) : Option (IV × Hp) :=
  faddrS 0 x13 fun x14 => store1 x14 x12 h5 fun h15 _ _ => (fun (j0_18 : Hp → Option (IV × Hp)) => nilS x0 fun x79 => faddrS 0 x79 fun x80 => S54_169 h15 x80 x2 x0 j0_18 x4 ih) fun h19 => S54_161 n h19 x0 x2 x4 ih
noncomputable def S54 (ih : Handler) (n : Nat) (x0 : IV) (x1 : IV) (x2 : IV) (h3 : Hp) : Option (IV × Hp) :=
  boxS 56623104 x1 h3 fun x4 h5 _ _ => nilS x0 fun x8 => faddrS 0 x8 fun x9 => load1 x9 h5 fun x10 _ => addS EE 3 x10 (.fv (.int .i64 1)) fun x12 => nilS x0 fun x13 => S54_170 x13 h5 x12 n x0 x2 x4 ih
theorem S54_ok (ih : Handler) (n : Nat) (x0 : IV) (x1 : IV) (x2 : IV) (h3 : Hp) : funS EE ih ft.get n 54 [x0, x1, x2] h3 = S54 ih n x0 x1 x2 h3 := by kernel_rfl
/-! Function 55. -/
noncomputable def S55 (ih : Handler) (n : Nat) (x0 : IV) (x1 : IV) (h2 : Hp) : Option (IV × Hp) :=
  binS EE 3 .rem x0 x1 fun x3 => (fun (j1_4 : IV → Hp → Option (IV × Hp)) => ltS EE 3 x3 (.fv (.int .i64 0)) fun x7 => condS x7 (addS EE 3 x3 x1 fun x8 => j1_4 x8 h2) (j1_4 x3 h2)) fun x5 h6 => outS1 [x5] h6
theorem S55_ok (ih : Handler) (n : Nat) (x0 : IV) (x1 : IV) (h2 : Hp) : funS EE ih ft.get n 55 [x0, x1] h2 = S55 ih n x0 x1 h2 := by kernel_rfl
/-! Function 56. -/
noncomputable def S56 (ih : Handler) (n : Nat) (h0 : Hp) : Option (IV × Hp) :=
  newS 58720256 (.row [.fv (.int .i64 0), .fv (.int .i64 0), .nils] false) (.ptr (.own 58720256) 0) h0 fun x1 h2 _ _ => isoS [] false false ih 27 [.fv (.int .i64 10), .nils] h2 fun x5 h6 _ _ => storeA 3 x1 x5 h6 fun h9 _ _ => cellS true 3 x1 h9 fun x12 => outS1 [x12] h9
theorem S56_ok (ih : Handler) (n : Nat) (h0 : Hp) : funS EE ih ft.get n 56 [] h0 = S56 ih n h0 := by kernel_rfl
/-! Function 57. -/
noncomputable def S57 (ih : Handler) (n : Nat) (x0 : IV) (h1 : Hp) : Option (IV × Hp) :=
  newS 59768832 (.row [.fv (.int .i64 0), .fv (.int .i64 0), .nils] false) (.ptr (.own 59768832) 0) h1 fun x2 h3 _ _ => bldS [.fv (.int .i64 0), .fv (.int .i64 0), .nils] [(0, 1, .fv (.int .i64 2)), (1, 1, x0)] fun x6 => storeA 3 x2 x6 h3 fun h7 _ _ => cellS true 3 x2 h7 fun x10 => outS1 [x10] h7
theorem S57_ok (ih : Handler) (n : Nat) (x0 : IV) (h1 : Hp) : funS EE ih ft.get n 57 [x0] h1 = S57 ih n x0 h1 := by kernel_rfl
end Idl
end Go.Proofs.Ytbkdidonegggdaa

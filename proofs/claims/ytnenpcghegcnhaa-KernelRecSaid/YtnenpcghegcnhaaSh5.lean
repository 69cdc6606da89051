/-
  THE SHALLOW FORM OF THE SEAT'S FUNCTIONS, a part; each is what its code's shallow run is. Printed by a program of mine (gen-sh). No statement is proved here.
-/
import Derived.Test.YtnenpcghegcnhaaTab
import Derived.Test.YtnenpcghegcnhaaIdl31
set_option maxRecDepth 100000
set_option linter.unusedVariables false
namespace Go.Proofs.Ytnenpcghegcnhaa
namespace Idl
/-! Function 45. -/
noncomputable def S45_117 (x4 : IV) (h9 : Hp) (ih : Handler) (x1 : IV) : Option (IV × Hp) :=
  faddrS 1 x4 fun x16 => load1 x16 h9 fun x17 _ => isoS [] false false ih 74 [x1, x17] h9 fun x19 h20 _ _ => outS1 [x19] h20
noncomputable def S45_118 (x62 : IV) (h3 : Hp) (h65 : Hp) (x56 : IV) (x57 : IV) (x58 : IV) (x59 : IV) (x60 : IV) (x61 : IV) (q53 : List IV → Hp → Option (IV × Hp)) : Option (IV × Hp) :=
  addS EE 3 x62 (.fv (.int .i64 1)) fun x66 => dropS (h3.own.map (·.1)) [47195139] [x56, x57, x58, x59, x60, x61, x66] h65 fun h67 => q53 [x56, x57, x58, x59, x60, x61, x66] h67
noncomputable def S45_119 (ih : Handler) (h82 : Hp) (x56 : IV) (x57 : IV) (x90 : IV) (r89 : List Ref) (x88 : IV) (x62 : IV) (j0_64 : Hp → Option (IV × Hp)) : Option (IV × Hp) :=
  isoS [true, false, false] false false ih 45 [x56, x57, x90] h82 fun x92 h93 r94 w95 => chkS [(r89, [])] r94 w95 (ixS 1 x88 x62 fun x96 => store1 x96 x92 h93 fun h97 r98 w99 => chkS [] r98 w99 (j0_64 h97))
noncomputable def S45_120 (x86 : IV) (h82 : Hp) (x71 : IV) (ih : Handler) (x56 : IV) (x57 : IV) (x62 : IV) (j0_64 : Hp → Option (IV × Hp)) : Option (IV × Hp) :=
  faddrS 2 x86 fun x87 => load1 x87 h82 fun x88 r89 => chkS [] r89 [] (loadA 3 x71 h82 fun x90 r91 => chkS [(r89, [])] r91 [] (S45_119 ih h82 x56 x57 x90 r89 x88 x62 j0_64))
noncomputable def S45_121 (h75 : Hp) (x78 : IV) (ih : Handler) (x62 : IV) (x59 : IV) (x71 : IV) (x56 : IV) (x57 : IV) (j0_64 : Hp → Option (IV × Hp)) : Option (IV × Hp) :=
  load1 x78 h75 fun x79 _ => isoS [] false false ih 75 [x79, x62] h75 fun x81 h82 _ _ => eqS EE 3 x81 (.fv (.int .i64 0)) fun x85 => condS x85 (nilS x59 fun x86 => S45_120 x86 h82 x71 ih x56 x57 x62 j0_64) (j0_64 h82)
noncomputable def S45_122 (x60 : IV) (x62 : IV) (h55 : Hp) (x58 : IV) (ih : Handler) (x59 : IV) (x56 : IV) (x57 : IV) (j0_64 : Hp → Option (IV × Hp)) : Option (IV × Hp) :=
  ixS 3 x60 x62 fun x68 => loadA 3 x68 h55 fun x69 _ => newS 47195139 (.row [.fv (.int .i64 0), .fv (.int .i64 0), .nils] false) (.ptr (.own 47195139) 0) h55 fun x71 h72 _ _ => storeA 3 x71 x69 h72 fun h75 _ _ => faddrS 0 x58 fun x78 => S45_121 h75 x78 ih x62 x59 x71 x56 x57 j0_64
noncomputable def S45_123 (x100 : IV) (h55 : Hp) (x59 : IV) (ih : Handler) (x56 : IV) : Option (IV × Hp) :=
  faddrS 3 x100 fun x101 => load1 x101 h55 fun x102 _ => neS EE 39 x102 (.fv (.int .i64 0)) fun x104 => condS x104 (outS1 [x59] h55) (isoS [true, false] false false ih 76 [x56, x59] h55 fun x105 h106 _ _ => outS1 [x105] h106)
noncomputable def S45_124 (l113 : List IV) (h3 : Hp) (x56 : IV) (x57 : IV) (x58 : IV) (x59 : IV) (x60 : IV) (q53 : List IV → Hp → Option (IV × Hp)) (h55 : Hp) (ih : Handler) : Option (IV × Hp) :=
  uncS l113 fun x61 l114 => uncS l114 fun x62 _ => ltS EE 3 x62 x61 fun x63 => condS x63 ((fun (j0_64 : Hp → Option (IV × Hp)) => S45_122 x60 x62 h55 x58 ih x59 x56 x57 j0_64) fun h65 => S45_118 x62 h3 h65 x56 x57 x58 x59 x60 x61 q53) (nilS x56 fun x100 => S45_123 x100 h55 x59 ih x56)
noncomputable def S45_125 (l54 : List IV) (h3 : Hp) (q53 : List IV → Hp → Option (IV × Hp)) (h55 : Hp) (ih : Handler) : Option (IV × Hp) :=
  uncS l54 fun x56 l109 => uncS l109 fun x57 l110 => uncS l110 fun x58 l111 => uncS l111 fun x59 l112 => uncS l112 fun x60 l113 => S45_124 l113 h3 x56 x57 x58 x59 x60 q53 h55 ih
noncomputable def S45_126 (x50 : IV) (h3 : Hp) (h41 : Hp) (x0 : IV) (x1 : IV) (x4 : IV) (x40 : IV) (n : Nat) (ih : Handler) : Option (IV × Hp) :=
  lenS x50 fun x52 => dropS (h3.own.map (·.1)) [47195139] [x0, x1, x4, x40, x50, x52, .fv (.int .i64 0)] h41 fun h116 => loopS n (fun q53 l54 h55 => S45_125 l54 h3 q53 h55 ih) [x0, x1, x4, x40, x50, x52, .fv (.int .i64 0)] h116
noncomputable def S45_127 (x46 : IV) (h41 : Hp) (x40 : IV) (x4 : IV) (h3 : Hp) (x0 : IV) (x1 : IV) (n : Nat) (ih : Handler) : Option (IV × Hp) :=
  neS EE 39 x46 (.fv (.int .i64 0)) fun x48 => condS x48 (outS1 [x40] h41) (faddrS 2 x4 fun x49 => load1 x49 h41 fun x50 _ => S45_126 x50 h3 h41 x0 x1 x4 x40 n ih)
noncomputable def S45_128 (h34 : Hp) (x39 : IV) (x0 : IV) (x4 : IV) (h3 : Hp) (x1 : IV) (n : Nat) (ih : Handler) : Option (IV × Hp) :=
  boxS 47190027 x39 h34 fun x40 h41 r42 w43 => chkS [] r42 w43 (nilS x0 fun x44 => faddrS 3 x44 fun x45 => load1 x45 h41 fun x46 _ => S45_127 x46 h41 x40 x4 h3 x0 x1 n ih)
noncomputable def S45_129 (h9 : Hp) (x32 : IV) (r28 : List Ref) (r25 : List Ref) (x4 : IV) (r31 : List Ref) (x24 : IV) (x27 : IV) (x1 : IV) (x0 : IV) (h3 : Hp) (n : Nat) (ih : Handler) : Option (IV × Hp) :=
  genS (pcMakeSlice EE 47190023 94 x32 x32) 47190023 h9 fun x33 h34 r35 w36 => chkS [(r28, []), (r25, [])] r35 w36 (loadA 3 x4 h34 fun x37 r38 => chkS [(r35, w36), (r31, []), (r28, []), (r25, [])] r38 [] (bldS [.fv (.int .i64 0), .fv (.int .i64 0), .nils, .fv (.int .i64 0), .fv (.int .i64 0), .nils, .fv (.nilp)] [(0, 1, x24), (1, 1, x27), (2, 1, x33), (3, 3, x37), (6, 1, x1)] fun x39 => S45_128 h34 x39 x0 x4 h3 x1 n ih))
noncomputable def S45_130 (r28 : List Ref) (r25 : List Ref) (x4 : IV) (h9 : Hp) (x24 : IV) (x27 : IV) (x1 : IV) (x0 : IV) (h3 : Hp) (n : Nat) (ih : Handler) : Option (IV × Hp) :=
  chkS [(r25, [])] r28 [] (faddrS 2 x4 fun x29 => load1 x29 h9 fun x30 r31 => chkS [(r28, []), (r25, [])] r31 [] (lenS x30 fun x32 => S45_129 h9 x32 r28 r25 x4 r31 x24 x27 x1 x0 h3 n ih))
noncomputable def S45_131 (x4 : IV) (h9 : Hp) (x1 : IV) (x0 : IV) (h3 : Hp) (n : Nat) (ih : Handler) : Option (IV × Hp) :=
  faddrS 0 x4 fun x23 => load1 x23 h9 fun x24 r25 => chkS [] r25 [] (faddrS 1 x4 fun x26 => load1 x26 h9 fun x27 r28 => S45_130 r28 r25 x4 h9 x24 x27 x1 x0 h3 n ih)
noncomputable def S45 (ih : Handler) (n : Nat) (x0 : IV) (x1 : IV) (x2 : IV) (h3 : Hp) : Option (IV × Hp) :=
  boxS 47185920 x2 h3 fun x4 h5 _ _ => isoS [true] false false ih 73 [x0] h5 fun _ h9 _ _ => faddrS 0 x4 fun x12 => load1 x12 h9 fun x13 _ => eqS EE 3 x13 (.fv (.int .i64 1)) fun x15 => condS x15 (S45_117 x4 h9 ih x1) (S45_131 x4 h9 x1 x0 h3 n ih)
theorem S45_ok (ih : Handler) (n : Nat) (x0 : IV) (x1 : IV) (x2 : IV) (h3 : Hp) : funS EE ih ft.get n 45 [x0, x1, x2] h3 = S45 ih n x0 x1 x2 h3 := by kernel_rfl
/-! Function 46. -/
noncomputable def S46_261 (h21 : Hp) (x5 : IV) : Option (IV × Hp) :=
  cellS true 3 x5 h21 fun x24 => outS1 [x24] h21
noncomputable def S46_262 (h12 : Hp) (x5 : IV) (x36 : IV) : Option (IV × Hp) :=
  storeA 3 x5 x36 h12 fun h37 _ _ => cellS true 3 x5 h37 fun x40 => outS1 [x40] h37
noncomputable def S46_263 (x1 : IV) (h12 : Hp) (x30 : IV) (x5 : IV) : Option (IV × Hp) :=
  nilS x1 fun x31 => faddrS 1 x31 fun x32 => load1 x32 h12 fun x33 _ => subS EE 3 x30 x33 fun x35 => bldS [.fv (.int .i64 0), .fv (.int .i64 0), .nils] [(0, 1, .fv (.int .i64 1)), (1, 1, x35)] fun x36 => S46_262 h12 x5 x36
noncomputable def S46_264 (h90 : Hp) (x83 : IV) : Option (IV × Hp) :=
  bldS [.fv (.int .i64 0), .fv (.int .i64 0), .nils] [] fun x96 => storeA 3 x83 x96 h90 fun h97 _ _ => cellS true 3 x83 h97 fun x100 => outS1 [x100] h97
noncomputable def S46_265 (x89 : IV) (h4 : Hp) (h108 : Hp) (x79 : IV) (x80 : IV) (x81 : IV) (x82 : IV) (x83 : IV) (x84 : IV) (x88 : IV) (q51 : List IV → Hp → Option (IV × Hp)) : Option (IV × Hp) :=
  addS EE 3 x89 (.fv (.int .i64 1)) fun x111 => dropS (h4.own.map (·.1)) [48249857, 48253958] [x79, x80, x81, x82, x83, x84, x88, x111] h108 fun h112 => q51 [x79, x80, x81, x82, x83, x84, x88, x111] h112
noncomputable def S46_266 (x81 : IV) (x87 : IV) (x82 : IV) (ih : Handler) (h90 : Hp) (x79 : IV) (x86 : IV) (x84 : IV) (x85 : IV) (x89 : IV) (h4 : Hp) (x80 : IV) (x83 : IV) (x88 : IV) (q51 : List IV → Hp → Option (IV × Hp)) : Option (IV × Hp) :=
  addS EE 3 x81 x87 fun x101 => addS EE 3 x82 (.fv (.int .i64 1)) fun x102 => isoS [true, false, false, false] false false ih 46 [x79, x86, x101, x102] h90 fun x103 h104 _ _ => ixS 3 x84 x85 fun x107 => storeA 3 x107 x103 h104 fun h108 _ _ => S46_265 x89 h4 h108 x79 x80 x81 x82 x83 x84 x88 q51
noncomputable def S46_267 (x79 : IV) (h90 : Hp) (x83 : IV) (x81 : IV) (x87 : IV) (x82 : IV) (ih : Handler) (x86 : IV) (x84 : IV) (x85 : IV) (x89 : IV) (h4 : Hp) (x80 : IV) (x88 : IV) (q51 : List IV → Hp → Option (IV × Hp)) : Option (IV × Hp) :=
  nilS x79 fun x91 => faddrS 3 x91 fun x92 => load1 x92 h90 fun x93 _ => neS EE 39 x93 (.fv (.int .i64 0)) fun x95 => condS x95 (S46_264 h90 x83) (S46_266 x81 x87 x82 ih h90 x79 x86 x84 x85 x89 h4 x80 x83 x88 q51)
noncomputable def S46_268 (x134 : IV) (h4 : Hp) (h143 : Hp) (x122 : IV) (x123 : IV) (x124 : IV) (x125 : IV) (x126 : IV) (x127 : IV) (x128 : IV) (x129 : IV) (x130 : IV) (x131 : IV) (x132 : IV) (x133 : IV) (q119 : List IV → Hp → Option (IV × Hp)) : Option (IV × Hp) :=
  addS EE 3 x134 (.fv (.int .i64 1)) fun x146 => dropS (h4.own.map (·.1)) [48253958] [x122, x123, x124, x125, x126, x127, x128, x129, x130, x131, x132, x133, x146] h143 fun h147 => q119 [x122, x123, x124, x125, x126, x127, x128, x129, x130, x131, x132, x133, x146] h147
noncomputable def S46_269 (x124 : IV) (x134 : IV) (h121 : Hp) (x130 : IV) (h4 : Hp) (x122 : IV) (x123 : IV) (x125 : IV) (x126 : IV) (x127 : IV) (x128 : IV) (x129 : IV) (x131 : IV) (x132 : IV) (x133 : IV) (q119 : List IV → Hp → Option (IV × Hp)) : Option (IV × Hp) :=
  addS EE 3 x124 x134 fun x136 => bldS [.fv (.int .i64 0), .fv (.int .i64 0), .nils, .fv (.int .i64 0), .fv (.int .i64 0), .nils, .fv (.nilp)] [(0, 1, .fv (.int .i64 1)), (1, 1, x136)] fun x137 => fzS (pcBox true 48253958 x137) 48253958 x137 h121 fun x138 h139 _ _ => ixS 1 x130 x134 fun x142 => store1 x142 x138 h139 fun h143 _ _ => S46_268 x134 h4 h143 x122 x123 x124 x125 x126 x127 x128 x129 x130 x131 x132 x133 q119
noncomputable def S46_270 (ih : Handler) (h121 : Hp) (x122 : IV) (x123 : IV) (x128 : IV) (x130 : IV) (j11_78 : IV → IV → IV → IV → IV → IV → IV → IV → IV → IV → IV → Hp → Option (IV × Hp)) (x124 : IV) (x125 : IV) (x126 : IV) (x127 : IV) (x129 : IV) (x131 : IV) (x132 : IV) : Option (IV × Hp) :=
  isoS [true, false, false, false] false false ih 77 [x122, x123, x128, x130] h121 fun x148 h149 _ _ => j11_78 x122 x123 x124 x125 x126 x127 x128 x148 x129 x131 x132 h149
noncomputable def S46_271 (l161 : List IV) (x124 : IV) (h121 : Hp) (x130 : IV) (h4 : Hp) (x122 : IV) (x123 : IV) (x125 : IV) (x126 : IV) (x127 : IV) (x128 : IV) (x129 : IV) (x131 : IV) (q119 : List IV → Hp → Option (IV × Hp)) (ih : Handler) (j11_78 : IV → IV → IV → IV → IV → IV → IV → IV → IV → IV → IV → Hp → Option (IV × Hp)) : Option (IV × Hp) :=
  uncS l161 fun x132 l162 => uncS l162 fun x133 l163 => uncS l163 fun x134 _ => ltS EE 3 x134 x133 fun x135 => condS x135 (S46_269 x124 x134 h121 x130 h4 x122 x123 x125 x126 x127 x128 x129 x131 x132 x133 q119) (S46_270 ih h121 x122 x123 x128 x130 j11_78 x124 x125 x126 x127 x129 x131 x132)
noncomputable def S46_272 (l156 : List IV) (x124 : IV) (h121 : Hp) (h4 : Hp) (x122 : IV) (x123 : IV) (x125 : IV) (x126 : IV) (q119 : List IV → Hp → Option (IV × Hp)) (ih : Handler) (j11_78 : IV → IV → IV → IV → IV → IV → IV → IV → IV → IV → IV → Hp → Option (IV × Hp)) : Option (IV × Hp) :=
  uncS l156 fun x127 l157 => uncS l157 fun x128 l158 => uncS l158 fun x129 l159 => uncS l159 fun x130 l160 => uncS l160 fun x131 l161 => S46_271 l161 x124 h121 x130 h4 x122 x123 x125 x126 x127 x128 x129 x131 q119 ih j11_78
noncomputable def S46_273 (l120 : List IV) (h121 : Hp) (h4 : Hp) (q119 : List IV → Hp → Option (IV × Hp)) (ih : Handler) (j11_78 : IV → IV → IV → IV → IV → IV → IV → IV → IV → IV → IV → Hp → Option (IV × Hp)) : Option (IV × Hp) :=
  uncS l120 fun x122 l152 => uncS l152 fun x123 l153 => uncS l153 fun x124 l154 => uncS l154 fun x125 l155 => uncS l155 fun x126 l156 => S46_272 l156 x124 h121 h4 x122 x123 x125 x126 q119 ih j11_78
noncomputable def S46_274 (h4 : Hp) (h115 : Hp) (x54 : IV) (x55 : IV) (x56 : IV) (x57 : IV) (x58 : IV) (x59 : IV) (x61 : IV) (x74 : IV) (x114 : IV) (x60 : IV) (x118 : IV) (n : Nat) (ih : Handler) (j11_78 : IV → IV → IV → IV → IV → IV → IV → IV → IV → IV → IV → Hp → Option (IV × Hp)) : Option (IV × Hp) :=
  dropS (h4.own.map (·.1)) [48253958] [x54, x55, x56, x57, x58, x59, x61, x74, x114, x60, x61, x118, .fv (.int .i64 0)] h115 fun h165 => loopS n (fun q119 l120 h121 => S46_273 l120 h121 h4 q119 ih j11_78) [x54, x55, x56, x57, x58, x59, x61, x74, x114, x60, x61, x118, .fv (.int .i64 0)] h165
noncomputable def S46_275 (x113 : IV) (h75 : Hp) (x74 : IV) (h4 : Hp) (x54 : IV) (x55 : IV) (x56 : IV) (x57 : IV) (x58 : IV) (x59 : IV) (x61 : IV) (x60 : IV) (n : Nat) (ih : Handler) (j11_78 : IV → IV → IV → IV → IV → IV → IV → IV → IV → IV → IV → Hp → Option (IV × Hp)) (x68 : IV) : Option (IV × Hp) :=
  condS x113 (genS (pcMakeSlice EE 48249857 94 x74 x74) 48249857 h75 fun x114 h115 _ _ => lenS x114 fun x118 => S46_274 h4 h115 x54 x55 x56 x57 x58 x59 x61 x74 x114 x60 x118 n ih j11_78) (j11_78 x54 x55 x56 x57 x58 x59 x61 x68 x74 x60 x61 h75)
noncomputable def S46_276 (r73 : List Ref) (r69 : List Ref) (r66 : List Ref) (ih : Handler) (h53 : Hp) (x72 : IV) (x61 : IV) (h4 : Hp) (q51 : List IV → Hp → Option (IV × Hp)) (x54 : IV) (x55 : IV) (x56 : IV) (x57 : IV) (x58 : IV) (x59 : IV) (x60 : IV) (n : Nat) (x68 : IV) : Option (IV × Hp) :=
  chkS [(r69, []), (r66, [])] r73 [] (isoS [] false false ih 75 [x72, x61] h53 fun x74 h75 r76 w77 => chkS [(r69, []), (r66, [])] r76 w77 ((fun (j11_78 : IV → IV → IV → IV → IV → IV → IV → IV → IV → IV → IV → Hp → Option (IV × Hp)) => gtS EE 3 x74 (.fv (.int .i64 0)) fun x113 => S46_275 x113 h75 x74 h4 x54 x55 x56 x57 x58 x59 x61 x60 n ih j11_78 x68) fun x79 x80 x81 x82 x83 x84 x85 x86 x87 x88 x89 h90 => S46_267 x79 h90 x83 x81 x87 x82 ih x86 x84 x85 x89 h4 x80 x88 q51))
noncomputable def S46_277 (h53 : Hp) (x67 : IV) (x55 : IV) (r66 : List Ref) (ih : Handler) (x61 : IV) (h4 : Hp) (q51 : List IV → Hp → Option (IV × Hp)) (x54 : IV) (x56 : IV) (x57 : IV) (x58 : IV) (x59 : IV) (x60 : IV) (n : Nat) : Option (IV × Hp) :=
  load1 x67 h53 fun x68 r69 => chkS [] r69 [] (nilS x55 fun x70 => faddrS 0 x70 fun x71 => load1 x71 h53 fun x72 r73 => S46_276 r73 r69 r66 ih h53 x72 x61 h4 q51 x54 x55 x56 x57 x58 x59 x60 n x68)
noncomputable def S46_278 (x55 : IV) (h53 : Hp) (x61 : IV) (ih : Handler) (h4 : Hp) (q51 : List IV → Hp → Option (IV × Hp)) (x54 : IV) (x56 : IV) (x57 : IV) (x58 : IV) (x59 : IV) (x60 : IV) (n : Nat) : Option (IV × Hp) :=
  nilS x55 fun x63 => faddrS 2 x63 fun x64 => load1 x64 h53 fun x65 r66 => chkS [] r66 [] (ixS 1 x65 x61 fun x67 => S46_277 h53 x67 x55 r66 ih x61 h4 q51 x54 x56 x57 x58 x59 x60 n)
noncomputable def S46_279 (r176 : List Ref) (w177 : List Ref) (h175 : Hp) (x58 : IV) : Option (IV × Hp) :=
  chkS [] r176 w177 (cellS true 3 x58 h175 fun x178 => outS1 [x178] h175)
noncomputable def S46_280 (x170 : IV) (h53 : Hp) (r169 : List Ref) (x168 : IV) (x59 : IV) (x58 : IV) : Option (IV × Hp) :=
  faddrS 1 x170 fun x171 => load1 x171 h53 fun x172 r173 => chkS [(r169, [])] r173 [] (bldS [.fv (.int .i64 0), .fv (.int .i64 0), .nils] [(0, 1, x168), (1, 1, x172), (2, 1, x59)] fun x174 => storeA 3 x58 x174 h53 fun h175 r176 w177 => S46_279 r176 w177 h175 x58)
noncomputable def S46_281 (x55 : IV) (h53 : Hp) (x59 : IV) (x58 : IV) : Option (IV × Hp) :=
  nilS x55 fun x166 => faddrS 0 x166 fun x167 => load1 x167 h53 fun x168 r169 => chkS [] r169 [] (nilS x55 fun x170 => S46_280 x170 h53 r169 x168 x59 x58)
noncomputable def S46_282 (l183 : List IV) (x55 : IV) (h53 : Hp) (ih : Handler) (h4 : Hp) (q51 : List IV → Hp → Option (IV × Hp)) (x54 : IV) (x56 : IV) (x57 : IV) (x58 : IV) (n : Nat) : Option (IV × Hp) :=
  uncS l183 fun x59 l184 => uncS l184 fun x60 l185 => uncS l185 fun x61 _ => ltS EE 3 x61 x60 fun x62 => condS x62 (S46_278 x55 h53 x61 ih h4 q51 x54 x56 x57 x58 x59 x60 n) (S46_281 x55 h53 x59 x58)
noncomputable def S46_283 (l52 : List IV) (h53 : Hp) (ih : Handler) (h4 : Hp) (q51 : List IV → Hp → Option (IV × Hp)) (n : Nat) : Option (IV × Hp) :=
  uncS l52 fun x54 l179 => uncS l179 fun x55 l180 => uncS l180 fun x56 l181 => uncS l181 fun x57 l182 => uncS l182 fun x58 l183 => S46_282 l183 x55 h53 ih h4 q51 x54 x56 x57 x58 n
noncomputable def S46_284 (h4 : Hp) (h47 : Hp) (x0 : IV) (x1 : IV) (x2 : IV) (x3 : IV) (x5 : IV) (x46 : IV) (x50 : IV) (n : Nat) (ih : Handler) : Option (IV × Hp) :=
  dropS (h4.own.map (·.1)) [48249857, 48253958] [x0, x1, x2, x3, x5, x46, x50, .fv (.int .i64 0)] h47 fun h187 => loopS n (fun q51 l52 h53 => S46_283 l52 h53 ih h4 q51 n) [x0, x1, x2, x3, x5, x46, x50, .fv (.int .i64 0)] h187
noncomputable def S46_285 (x41 : IV) (h12 : Hp) (h4 : Hp) (x0 : IV) (x1 : IV) (x2 : IV) (x3 : IV) (x5 : IV) (n : Nat) (ih : Handler) : Option (IV × Hp) :=
  faddrS 2 x41 fun x42 => load1 x42 h12 fun x43 _ => lenS x43 fun x45 => genS (pcMakeSlice EE 48243717 23 x45 x45) 48243717 h12 fun x46 h47 _ _ => lenS x46 fun x50 => S46_284 h4 h47 x0 x1 x2 x3 x5 x46 x50 n ih
noncomputable def S46_286 (h12 : Hp) (x26 : IV) (x2 : IV) (x1 : IV) (x5 : IV) (h4 : Hp) (x0 : IV) (x3 : IV) (n : Nat) (ih : Handler) : Option (IV × Hp) :=
  load1 x26 h12 fun x27 _ => eqS EE 3 x27 (.fv (.int .i64 1)) fun x29 => condS x29 (subS EE 3 x2 (.fv (.int .i64 1)) fun x30 => S46_263 x1 h12 x30 x5) (nilS x1 fun x41 => S46_285 x41 h12 h4 x0 x1 x2 x3 x5 n ih)
noncomputable def S46_287 (x19 : IV) (h12 : Hp) (x5 : IV) (x1 : IV) (x2 : IV) (h4 : Hp) (x0 : IV) (x3 : IV) (n : Nat) (ih : Handler) : Option (IV × Hp) :=
  condS x19 (bldS [.fv (.int .i64 0), .fv (.int .i64 0), .nils] [] fun x20 => storeA 3 x5 x20 h12 fun h21 _ _ => S46_261 h21 x5) (nilS x1 fun x25 => faddrS 0 x25 fun x26 => S46_286 h12 x26 x2 x1 x5 h4 x0 x3 n ih)
noncomputable def S46_288 (ih : Handler) (h10 : Hp) (x0 : IV) (x5 : IV) (x1 : IV) (x2 : IV) (h4 : Hp) (x3 : IV) (n : Nat) : Option (IV × Hp) :=
  isoS [true] false false ih 73 [x0] h10 fun _ h12 _ _ => nilS x0 fun x15 => faddrS 3 x15 fun x16 => load1 x16 h12 fun x17 _ => neS EE 39 x17 (.fv (.int .i64 0)) fun x19 => S46_287 x19 h12 x5 x1 x2 h4 x0 x3 n ih
noncomputable def S46_289 (x256 : IV) (h252 : Hp) (j0_9 : Hp → Option (IV × Hp)) : Option (IV × Hp) :=
  faddrS 3 x256 fun x257 => store1 x257 (.fv (.int .i64 5)) h252 fun h258 _ _ => j0_9 h258
noncomputable def S46_290 (h246 : Hp) (x202 : IV) (x234 : IV) (x245 : IV) (x0 : IV) (j0_9 : Hp → Option (IV × Hp)) : Option (IV × Hp) :=
  guardS x202 true h246 (fun k249 => pickS x234 (.fv (.bool true)) x245 fun x250 => k249 x250 h246 [] []) fun x251 h252 _ _ => pickS x202 x251 (.fv (.bool false)) fun x255 => condS x255 (nilS x0 fun x256 => S46_289 x256 h252 j0_9) (j0_9 h252)
noncomputable def S46_291 (h217 : Hp) (x202 : IV) (x216 : IV) (x3 : IV) (x0 : IV) (j0_9 : Hp → Option (IV × Hp)) : Option (IV × Hp) :=
  guardS x202 true h217 (fun k220 => load1 x216 h217 fun x221 r222 => k220 x221 h217 r222 []) fun x223 h224 _ _ => guardS x202 true h224 (fun k227 => gtS EE 3 x223 (.fv (.int .i64 3000)) fun x228 => k227 x228 h224 [] []) fun x229 h230 _ _ => guardS x202 true h230 (fun k233 => k233 x229 h230 [] []) fun x234 h235 _ _ => guardS x234 false h235 (fun k238 => k238 x3 h235 [] []) fun x239 h240 _ _ => guardS x234 false h240 (fun k243 => gtS EE 3 x239 (.fv (.int .i64 120)) fun x244 => k243 x244 h240 [] []) fun x245 h246 _ _ => S46_290 h246 x202 x234 x245 x0 j0_9
noncomputable def S46_292 (h195 : Hp) (x199 : IV) (x0 : IV) (x3 : IV) (j0_9 : Hp → Option (IV × Hp)) : Option (IV × Hp) :=
  load1 x199 h195 fun x200 _ => eqS EE 39 x200 (.fv (.int .i64 0)) fun x202 => guardS x202 true h195 (fun k203 => k203 x0 h195 [] []) fun x204 h205 _ _ => guardS x202 true h205 (fun k208 => nilS x204 fun x209 => k208 x209 h205 [] []) fun x210 h211 _ _ => guardS x202 true h211 (fun k214 => faddrS 2 x210 fun x215 => k214 x215 h211 [] []) fun x216 h217 _ _ => S46_291 h217 x202 x216 x3 x0 j0_9
noncomputable def S46_293 (x0 : IV) (h6 : Hp) (x192 : IV) (x3 : IV) (j0_9 : Hp → Option (IV × Hp)) : Option (IV × Hp) :=
  nilS x0 fun x193 => faddrS 2 x193 fun x194 => store1 x194 x192 h6 fun h195 _ _ => nilS x0 fun x198 => faddrS 3 x198 fun x199 => S46_292 h195 x199 x0 x3 j0_9
noncomputable def S46 (ih : Handler) (n : Nat) (x0 : IV) (x1 : IV) (x2 : IV) (x3 : IV) (h4 : Hp) : Option (IV × Hp) :=
  newS 48234496 (.row [.fv (.int .i64 0), .fv (.int .i64 0), .nils] false) (.ptr (.own 48234496) 0) h4 fun x5 h6 _ _ => (fun (j0_9 : Hp → Option (IV × Hp)) => nilS x0 fun x188 => faddrS 2 x188 fun x189 => load1 x189 h6 fun x190 _ => addS EE 3 x190 (.fv (.int .i64 1)) fun x192 => S46_293 x0 h6 x192 x3 j0_9) fun h10 => S46_288 ih h10 x0 x5 x1 x2 h4 x3 n
theorem S46_ok (ih : Handler) (n : Nat) (x0 : IV) (x1 : IV) (x2 : IV) (x3 : IV) (h4 : Hp) : funS EE ih ft.get n 46 [x0, x1, x2, x3] h4 = S46 ih n x0 x1 x2 x3 h4 := by kernel_rfl
/-! Function 47. -/
noncomputable def S47_34 (ih : Handler) (h23 : Hp) (x20 : IV) (x22 : IV) (x16 : IV) : Option (IV × Hp) :=
  isoS [] false false ih 78 [x20, .fv (.int .i64 0), x22] h23 fun x26 h27 _ _ => storeA 3 x16 x26 h27 fun h30 _ _ => cellS true 3 x16 h30 fun x33 => outS1 [x33] h30
noncomputable def S47 (ih : Handler) (n : Nat) (x0 : IV) (x1 : IV) (x2 : IV) (h3 : Hp) : Option (IV × Hp) :=
  boxS 49283072 x0 h3 fun x4 h5 _ _ => boxS 49283073 x1 h5 fun x8 h9 _ _ => boxS 49283074 x2 h9 fun x12 h13 _ _ => newS 49283075 (.row [.fv (.int .i64 0), .fv (.int .i64 0), .nils] false) (.ptr (.own 49283075) 0) h13 fun x16 h17 _ _ => loadA 3 x4 h17 fun x20 _ => genS (val (mkFunc (.func 79) [] [x12, x8])) 49284097 h17 fun x22 h23 _ _ => S47_34 ih h23 x20 x22 x16
theorem S47_ok (ih : Handler) (n : Nat) (x0 : IV) (x1 : IV) (x2 : IV) (h3 : Hp) : funS EE ih ft.get n 47 [x0, x1, x2] h3 = S47 ih n x0 x1 x2 h3 := by kernel_rfl
/-! Function 48. -/
noncomputable def S48 (ih : Handler) (n : Nat) (x0 : IV) (x1 : IV) (h2 : Hp) : Option (IV × Hp) :=
  newS 50331648 (.row [.fv (.int .i64 0), .fv (.int .i64 0), .nils] false) (.ptr (.own 50331648) 0) h2 fun x3 h4 _ _ => bldS [.fv (.int .i64 0), .fv (.int .i64 0), .nils] [(0, 1, x0), (2, 1, x1)] fun x7 => storeA 3 x3 x7 h4 fun h8 _ _ => cellS true 3 x3 h8 fun x11 => outS1 [x11] h8
theorem S48_ok (ih : Handler) (n : Nat) (x0 : IV) (x1 : IV) (h2 : Hp) : funS EE ih ft.get n 48 [x0, x1] h2 = S48 ih n x0 x1 h2 := by kernel_rfl
/-! Function 49. -/
noncomputable def S49_77 (h23 : Hp) (x12 : IV) (x22 : IV) : Option (IV × Hp) :=
  bldS [.fv (.int .i64 0), .fv (.int .i64 0), .nils] [] fun x27 => storeA 3 x12 x27 h23 fun h28 _ _ => cellS true 3 x12 h28 fun x31 => outS1 [x31, x22] h28
noncomputable def S49_78 (h46 : Hp) (x12 : IV) (x50 : IV) (x41 : IV) : Option (IV × Hp) :=
  storeA 3 x12 x50 h46 fun h51 _ _ => cellS true 3 x12 h51 fun x54 => outS1 [x54, x41] h51
noncomputable def S49_79 (x67 : IV) (h68 : Hp) (x12 : IV) (x71 : IV) : Option (IV × Hp) :=
  extS 1 x67 fun x72 => storeA 3 x12 x71 h68 fun h73 _ _ => cellS true 3 x12 h73 fun x76 => outS1 [x76, x72] h73
noncomputable def S49_80 (h46 : Hp) (x42 : IV) (x55 : IV) (ih : Handler) (x12 : IV) : Option (IV × Hp) :=
  loadA 3 x42 h46 fun x57 _ => genS (pcBuildSlice EE 23 2 [(0, x55), (1, x57)]) 51387394 h46 fun x59 h60 _ _ => isoS [] false false ih 48 [.fv (.int .i64 16), x59] h60 fun x63 h64 _ _ => isoS [] false false ih 36 [x63] h64 fun x67 h68 _ _ => extS 0 x67 fun x71 => S49_79 x67 h68 x12 x71
noncomputable def S49_81 (h37 : Hp) (x40 : IV) (x41 : IV) (x12 : IV) (x4 : IV) (ih : Handler) : Option (IV × Hp) :=
  newS 51384327 (.row [.fv (.int .i64 0), .fv (.int .i64 0), .nils] false) (.ptr (.own 51384327) 0) h37 fun x42 h43 _ _ => storeA 3 x42 x40 h43 fun h46 _ _ => neS EE 39 x41 (.fv (.int .i64 0)) fun x49 => condS x49 (bldS [.fv (.int .i64 0), .fv (.int .i64 0), .nils] [] fun x50 => S49_78 h46 x12 x50 x41) (loadA 3 x4 h46 fun x55 _ => S49_80 h46 x42 x55 ih x12)
noncomputable def S49_82 (h23 : Hp) (x4 : IV) (x8 : IV) (ih : Handler) (x0 : IV) (x12 : IV) : Option (IV × Hp) :=
  loadA 3 x4 h23 fun x32 _ => loadA 3 x8 h23 fun x34 _ => isoS [] false false ih 56 [x0, x32, x34] h23 fun x36 h37 _ _ => extS 0 x36 fun x40 => extS 1 x36 fun x41 => S49_81 h37 x40 x41 x12 x4 ih
noncomputable def S49_83 (r20 : List Ref) (w21 : List Ref) (r17 : List Ref) (ih : Handler) (h19 : Hp) (x0 : IV) (x16 : IV) (x18 : IV) (x12 : IV) (x4 : IV) (x8 : IV) : Option (IV × Hp) :=
  chkS [(r17, [])] r20 w21 (isoS [] false false ih 51 [x0, .fv (.int .i64 1), x16, x18] h19 fun x22 h23 r24 w25 => chkS [] r24 w25 (neS EE 39 x22 (.fv (.int .i64 0)) fun x26 => condS x26 (S49_77 h23 x12 x22) (S49_82 h23 x4 x8 ih x0 x12)))
noncomputable def S49 (ih : Handler) (n : Nat) (x0 : IV) (x1 : IV) (x2 : IV) (h3 : Hp) : Option (IV × Hp) :=
  boxS 51380224 x1 h3 fun x4 h5 _ _ => boxS 51380225 x2 h5 fun x8 h9 _ _ => newS 51380226 (.row [.fv (.int .i64 0), .fv (.int .i64 0), .nils] false) (.ptr (.own 51380226) 0) h9 fun x12 h13 _ _ => loadA 3 x4 h13 fun x16 r17 => chkS [] r17 [] (isoS [] false false ih 48 [.fv (.int .i64 14), .nils] h13 fun x18 h19 r20 w21 => S49_83 r20 w21 r17 ih h19 x0 x16 x18 x12 x4 x8)
theorem S49_ok (ih : Handler) (n : Nat) (x0 : IV) (x1 : IV) (x2 : IV) (h3 : Hp) : funS EE ih ft.get n 49 [x0, x1, x2] h3 = S49 ih n x0 x1 x2 h3 := by kernel_rfl
/-! Function 50. -/
noncomputable def S50_49 (h25 : Hp) (x9 : IV) (x29 : IV) (x20 : IV) : Option (IV × Hp) :=
  storeA 3 x9 x29 h25 fun h30 _ _ => cellS true 3 x9 h30 fun x33 => outS1 [x33, x20] h30
noncomputable def S50_50 (h25 : Hp) (x9 : IV) (x38 : IV) : Option (IV × Hp) :=
  storeA 3 x9 x38 h25 fun h39 _ _ => cellS true 3 x9 h39 fun x42 => outS1 [x42, .fv (.int .i64 12)] h39
noncomputable def S50_51 (h25 : Hp) (x9 : IV) (x43 : IV) : Option (IV × Hp) :=
  storeA 3 x9 x43 h25 fun h45 _ _ => cellS true 3 x9 h45 fun x48 => outS1 [x48, .fv (.int .i64 0)] h45
noncomputable def S50_52 (h25 : Hp) (x34 : IV) (x3 : IV) (x9 : IV) (x21 : IV) : Option (IV × Hp) :=
  load1 x34 h25 fun x35 _ => neS EE 3 x35 x3 fun x37 => condS x37 (bldS [.fv (.int .i64 0), .fv (.int .i64 0), .nils] [] fun x38 => S50_50 h25 x9 x38) (loadA 3 x21 h25 fun x43 _ => S50_51 h25 x9 x43)
noncomputable def S50_53 (h16 : Hp) (x19 : IV) (x20 : IV) (x9 : IV) (x3 : IV) : Option (IV × Hp) :=
  newS 52429831 (.row [.fv (.int .i64 0), .fv (.int .i64 0), .nils] false) (.ptr (.own 52429831) 0) h16 fun x21 h22 _ _ => storeA 3 x21 x19 h22 fun h25 _ _ => neS EE 39 x20 (.fv (.int .i64 0)) fun x28 => condS x28 (bldS [.fv (.int .i64 0), .fv (.int .i64 0), .nils] [] fun x29 => S50_49 h25 x9 x29 x20) (faddrS 0 x21 fun x34 => S50_52 h25 x34 x3 x9 x21)
noncomputable def S50 (ih : Handler) (n : Nat) (x0 : IV) (x1 : IV) (x2 : IV) (x3 : IV) (h4 : Hp) : Option (IV × Hp) :=
  boxS 52428800 x2 h4 fun x5 h6 _ _ => newS 52428801 (.row [.fv (.int .i64 0), .fv (.int .i64 0), .nils] false) (.ptr (.own 52428801) 0) h6 fun x9 h10 _ _ => loadA 3 x5 h10 fun x13 _ => isoS [] false false ih 29 [x0, x1, x13] h10 fun x15 h16 _ _ => extS 0 x15 fun x19 => extS 1 x15 fun x20 => S50_53 h16 x19 x20 x9 x3
theorem S50_ok (ih : Handler) (n : Nat) (x0 : IV) (x1 : IV) (x2 : IV) (x3 : IV) (h4 : Hp) : funS EE ih ft.get n 50 [x0, x1, x2, x3] h4 = S50 ih n x0 x1 x2 x3 h4 := by kernel_rfl
/-! Function 51. -/
noncomputable def S51_37 (h25 : Hp) (x9 : IV) (ih : Handler) (x29 : IV) : Option (IV × Hp) :=
  loadA 3 x9 h25 fun x31 _ => isoS [] false false ih 30 [x29, x31] h25 fun x33 h34 _ _ => outS1 [x33] h34
noncomputable def S51_38 (h16 : Hp) (x19 : IV) (x20 : IV) (x9 : IV) (ih : Handler) : Option (IV × Hp) :=
  newS 53478407 (.row [.fv (.int .i64 0), .fv (.int .i64 0), .nils] false) (.ptr (.own 53478407) 0) h16 fun x21 h22 _ _ => storeA 3 x21 x19 h22 fun h25 _ _ => neS EE 39 x20 (.fv (.int .i64 0)) fun x28 => condS x28 (outS1 [x20] h25) (loadA 3 x21 h25 fun x29 _ => S51_37 h25 x9 ih x29)
noncomputable def S51 (ih : Handler) (n : Nat) (x0 : IV) (x1 : IV) (x2 : IV) (x3 : IV) (h4 : Hp) : Option (IV × Hp) :=
  boxS 53477376 x2 h4 fun x5 h6 _ _ => boxS 53477377 x3 h6 fun x9 h10 _ _ => loadA 3 x5 h10 fun x13 _ => isoS [] false false ih 29 [x0, x1, x13] h10 fun x15 h16 _ _ => extS 0 x15 fun x19 => extS 1 x15 fun x20 => S51_38 h16 x19 x20 x9 ih
theorem S51_ok (ih : Handler) (n : Nat) (x0 : IV) (x1 : IV) (x2 : IV) (x3 : IV) (h4 : Hp) : funS EE ih ft.get n 51 [x0, x1, x2, x3] h4 = S51 ih n x0 x1 x2 x3 h4 := by kernel_rfl
/-! Function 52. -/
noncomputable def S52_31 (x17 : IV) (x1 : IV) (h8 : Hp) (x7 : IV) : Option (IV × Hp) :=
  ixS 3 x17 x1 fun x19 => loadA 3 x19 h8 fun x20 _ => storeA 3 x7 x20 h8 fun h22 _ _ => cellS true 3 x7 h22 fun x25 => outS1 [x25] h22
noncomputable def S52_32 (h27 : Hp) (x7 : IV) : Option (IV × Hp) :=
  cellS true 3 x7 h27 fun x30 => outS1 [x30] h27
noncomputable def S52_33 (x15 : IV) (x3 : IV) (h8 : Hp) (x1 : IV) (x7 : IV) : Option (IV × Hp) :=
  condS x15 (faddrS 2 x3 fun x16 => load1 x16 h8 fun x17 _ => S52_31 x17 x1 h8 x7) (bldS [.fv (.int .i64 0), .fv (.int .i64 0), .nils] [] fun x26 => storeA 3 x7 x26 h8 fun h27 _ _ => S52_32 h27 x7)
noncomputable def S52 (ih : Handler) (n : Nat) (x0 : IV) (x1 : IV) (h2 : Hp) : Option (IV × Hp) :=
  boxS 54525952 x0 h2 fun x3 h4 _ _ => newS 54525953 (.row [.fv (.int .i64 0), .fv (.int .i64 0), .nils] false) (.ptr (.own 54525953) 0) h4 fun x7 h8 _ _ => faddrS 2 x3 fun x11 => load1 x11 h8 fun x12 _ => lenS x12 fun x14 => ltS EE 3 x1 x14 fun x15 => S52_33 x15 x3 h8 x1 x7
theorem S52_ok (ih : Handler) (n : Nat) (x0 : IV) (x1 : IV) (h2 : Hp) : funS EE ih ft.get n 52 [x0, x1] h2 = S52 ih n x0 x1 h2 := by kernel_rfl
/-! Function 53. -/
noncomputable def S53_80 (h28 : Hp) (x12 : IV) (x23 : IV) : Option (IV × Hp) :=
  bldS [.fv (.int .i64 0), .fv (.int .i64 0), .nils] [] fun x32 => storeA 3 x12 x32 h28 fun h33 _ _ => cellS true 3 x12 h33 fun x36 => outS1 [x36, x23] h33
noncomputable def S53_81 (h49 : Hp) (x12 : IV) (x53 : IV) (x44 : IV) : Option (IV × Hp) :=
  storeA 3 x12 x53 h49 fun h54 _ _ => cellS true 3 x12 h54 fun x57 => outS1 [x57, x44] h54
noncomputable def S53_82 (x70 : IV) (h71 : Hp) (x12 : IV) (x74 : IV) : Option (IV × Hp) :=
  extS 1 x70 fun x75 => storeA 3 x12 x74 h71 fun h76 _ _ => cellS true 3 x12 h76 fun x79 => outS1 [x79, x75] h76
noncomputable def S53_83 (h49 : Hp) (x45 : IV) (x58 : IV) (ih : Handler) (x12 : IV) : Option (IV × Hp) :=
  loadA 3 x45 h49 fun x60 _ => genS (pcBuildSlice EE 23 2 [(0, x58), (1, x60)]) 55581698 h49 fun x62 h63 _ _ => isoS [] false false ih 48 [.fv (.int .i64 17), x62] h63 fun x66 h67 _ _ => isoS [] false false ih 36 [x66] h67 fun x70 h71 _ _ => extS 0 x70 fun x74 => S53_82 x70 h71 x12 x74
noncomputable def S53_84 (h46 : Hp) (x45 : IV) (x43 : IV) (x44 : IV) (x12 : IV) (x24 : IV) (ih : Handler) : Option (IV × Hp) :=
  storeA 3 x45 x43 h46 fun h49 _ _ => neS EE 39 x44 (.fv (.int .i64 0)) fun x52 => condS x52 (bldS [.fv (.int .i64 0), .fv (.int .i64 0), .nils] [] fun x53 => S53_81 h49 x12 x53 x44) (loadA 3 x24 h49 fun x58 _ => S53_83 h49 x45 x58 ih x12)
noncomputable def S53_85 (h28 : Hp) (x8 : IV) (ih : Handler) (x0 : IV) (x12 : IV) (x24 : IV) : Option (IV × Hp) :=
  loadA 3 x8 h28 fun x37 _ => isoS [] false false ih 29 [x0, .fv (.int .i64 0), x37] h28 fun x39 h40 _ _ => extS 0 x39 fun x43 => extS 1 x39 fun x44 => newS 55578630 (.row [.fv (.int .i64 0), .fv (.int .i64 0), .nils] false) (.ptr (.own 55578630) 0) h40 fun x45 h46 _ _ => S53_84 h46 x45 x43 x44 x12 x24 ih
noncomputable def S53_86 (x18 : IV) (h19 : Hp) (x22 : IV) (x12 : IV) (x8 : IV) (ih : Handler) (x0 : IV) : Option (IV × Hp) :=
  extS 1 x18 fun x23 => newS 55575558 (.row [.fv (.int .i64 0), .fv (.int .i64 0), .nils] false) (.ptr (.own 55575558) 0) h19 fun x24 h25 _ _ => storeA 3 x24 x22 h25 fun h28 _ _ => neS EE 39 x23 (.fv (.int .i64 0)) fun x31 => condS x31 (S53_80 h28 x12 x23) (S53_85 h28 x8 ih x0 x12 x24)
noncomputable def S53 (ih : Handler) (n : Nat) (x0 : IV) (x1 : IV) (x2 : IV) (h3 : Hp) : Option (IV × Hp) :=
  boxS 55574528 x1 h3 fun x4 h5 _ _ => boxS 55574529 x2 h5 fun x8 h9 _ _ => newS 55574530 (.row [.fv (.int .i64 0), .fv (.int .i64 0), .nils] false) (.ptr (.own 55574530) 0) h9 fun x12 h13 _ _ => loadA 3 x4 h13 fun x16 _ => isoS [] false false ih 29 [x0, .fv (.int .i64 0), x16] h13 fun x18 h19 _ _ => extS 0 x18 fun x22 => S53_86 x18 h19 x22 x12 x8 ih x0
theorem S53_ok (ih : Handler) (n : Nat) (x0 : IV) (x1 : IV) (x2 : IV) (h3 : Hp) : funS EE ih ft.get n 53 [x0, x1, x2] h3 = S53 ih n x0 x1 x2 h3 := by kernel_rfl
/-! Function 54. -/
noncomputable def S54_52 (h4 : Hp) (h39 : Hp) (x17 : IV) (x18 : IV) (x19 : IV) (x20 : IV) (x21 : IV) (x43 : IV) (q14 : List IV → Hp → Option (IV × Hp)) : Option (IV × Hp) :=
  dropS (h4.own.map (·.1)) [56627202] [x17, x18, x19, x20, x21, x43] h39 fun h44 => q14 [x17, x18, x19, x20, x21, x43] h44
noncomputable def S54_53 (ih : Handler) (h31 : Hp) (x19 : IV) (x17 : IV) (x34 : IV) (x36 : IV) (x22 : IV) (h4 : Hp) (x18 : IV) (x20 : IV) (x21 : IV) (q14 : List IV → Hp → Option (IV × Hp)) : Option (IV × Hp) :=
  dynS EE ih x19 [x17, x34, x36] h31 fun x38 h39 _ _ => neS EE 39 x38 (.fv (.int .i64 0)) fun x42 => condS x42 (outS1 [x38] h39) (addS EE 3 x22 (.fv (.int .i64 1)) fun x43 => S54_52 h4 h39 x17 x18 x19 x20 x21 x43 q14)
noncomputable def S54_54 (h16 : Hp) (x24 : IV) (x18 : IV) (ih : Handler) (x19 : IV) (x17 : IV) (x22 : IV) (h4 : Hp) (x20 : IV) (x21 : IV) (q14 : List IV → Hp → Option (IV × Hp)) : Option (IV × Hp) :=
  loadA 3 x24 h16 fun x25 _ => newS 56627202 (.row [.fv (.int .i64 0), .fv (.int .i64 0), .nils] false) (.ptr (.own 56627202) 0) h16 fun x27 h28 _ _ => storeA 3 x27 x25 h28 fun h31 _ _ => loadA 3 x27 h31 fun x34 _ => loadA 3 x18 h31 fun x36 _ => S54_53 ih h31 x19 x17 x34 x36 x22 h4 x18 x20 x21 q14
noncomputable def S54_55 (l49 : List IV) (x21 : IV) (x20 : IV) (h16 : Hp) (x18 : IV) (ih : Handler) (x19 : IV) (x17 : IV) (h4 : Hp) (q14 : List IV → Hp → Option (IV × Hp)) : Option (IV × Hp) :=
  uncS l49 fun x22 _ => ltS EE 3 x22 x21 fun x23 => condS x23 (ixS 3 x20 x22 fun x24 => S54_54 h16 x24 x18 ih x19 x17 x22 h4 x20 x21 q14) (outS1 [.fv (.int .i64 0)] h16)
noncomputable def S54_56 (l15 : List IV) (h16 : Hp) (ih : Handler) (h4 : Hp) (q14 : List IV → Hp → Option (IV × Hp)) : Option (IV × Hp) :=
  uncS l15 fun x17 l45 => uncS l45 fun x18 l46 => uncS l46 fun x19 l47 => uncS l47 fun x20 l48 => uncS l48 fun x21 l49 => S54_55 l49 x21 x20 h16 x18 ih x19 x17 h4 q14
noncomputable def S54 (ih : Handler) (n : Nat) (x0 : IV) (x1 : IV) (x2 : IV) (x3 : IV) (h4 : Hp) : Option (IV × Hp) :=
  boxS 56623104 x2 h4 fun x5 h6 _ _ => genS (val (mkFunc (.func 51) [x0] [])) 56624129 h6 fun x9 h10 _ _ => lenS x3 fun x13 => dropS (h4.own.map (·.1)) [56627202] [x1, x5, x9, x3, x13, .fv (.int .i64 0)] h10 fun h51 => loopS n (fun q14 l15 h16 => S54_56 l15 h16 ih h4 q14) [x1, x5, x9, x3, x13, .fv (.int .i64 0)] h51
theorem S54_ok (ih : Handler) (n : Nat) (x0 : IV) (x1 : IV) (x2 : IV) (x3 : IV) (h4 : Hp) : funS EE ih ft.get n 54 [x0, x1, x2, x3] h4 = S54 ih n x0 x1 x2 x3 h4 := by kernel_rfl
/-! Function 55. -/
noncomputable def S55_76 (h33 : Hp) (x17 : IV) (x27 : IV) : Option (IV × Hp) :=
  cellS true 3 x17 h33 fun x36 => outS1 [x36, x27] h33
noncomputable def S55_77 (h57 : Hp) (x17 : IV) (x53 : IV) : Option (IV × Hp) :=
  cellS true 3 x17 h57 fun x60 => outS1 [x60, x53] h57
noncomputable def S55_78 (h63 : Hp) (x17 : IV) : Option (IV × Hp) :=
  cellS true 3 x17 h63 fun x66 => outS1 [x66, .fv (.int .i64 0)] h63
noncomputable def S55_79 (x53 : IV) (h54 : Hp) (x17 : IV) (x45 : IV) : Option (IV × Hp) :=
  neS EE 39 x53 (.fv (.int .i64 0)) fun x55 => condS x55 (bldS [.fv (.int .i64 0), .fv (.int .i64 0), .nils] [] fun x56 => storeA 3 x17 x56 h54 fun h57 _ _ => S55_77 h57 x17 x53) (loadA 3 x45 h54 fun x61 _ => storeA 3 x17 x61 h54 fun h63 _ _ => S55_78 h63 x17)
noncomputable def S55_80 (ih : Handler) (h49 : Hp) (x0 : IV) (x68 : IV) (x70 : IV) (j1_52 : IV → Hp → Option (IV × Hp)) : Option (IV × Hp) :=
  isoS [] false false ih 51 [x0, .fv (.int .i64 0), x68, x70] h49 fun x72 h73 _ _ => j1_52 x72 h73
noncomputable def S55_81 (x44 : IV) (h49 : Hp) (x13 : IV) (x45 : IV) (ih : Handler) (x0 : IV) (j1_52 : IV → Hp → Option (IV × Hp)) : Option (IV × Hp) :=
  eqS EE 39 x44 (.fv (.int .i64 0)) fun x67 => condS x67 (loadA 3 x13 h49 fun x68 _ => loadA 3 x45 h49 fun x70 _ => S55_80 ih h49 x0 x68 x70 j1_52) (j1_52 x44 h49)
noncomputable def S55_82 (x39 : IV) (h40 : Hp) (x17 : IV) (x13 : IV) (ih : Handler) (x0 : IV) : Option (IV × Hp) :=
  extS 0 x39 fun x43 => extS 1 x39 fun x44 => newS 57675782 (.row [.fv (.int .i64 0), .fv (.int .i64 0), .nils] false) (.ptr (.own 57675782) 0) h40 fun x45 h46 _ _ => storeA 3 x45 x43 h46 fun h49 _ _ => (fun (j1_52 : IV → Hp → Option (IV × Hp)) => S55_81 x44 h49 x13 x45 ih x0 j1_52) fun x53 h54 => S55_79 x53 h54 x17 x45
noncomputable def S55_83 (x31 : IV) (h28 : Hp) (x17 : IV) (x27 : IV) (x9 : IV) (ih : Handler) (x0 : IV) (x13 : IV) : Option (IV × Hp) :=
  condS x31 (bldS [.fv (.int .i64 0), .fv (.int .i64 0), .nils] [] fun x32 => storeA 3 x17 x32 h28 fun h33 _ _ => S55_76 h33 x17 x27) (loadA 3 x9 h28 fun x37 _ => isoS [] false false ih 29 [x0, .fv (.int .i64 0), x37] h28 fun x39 h40 _ _ => S55_82 x39 h40 x17 x13 ih x0)
noncomputable def S55_84 (ih : Handler) (h18 : Hp) (r22 : List Ref) (x0 : IV) (x21 : IV) (x17 : IV) (x9 : IV) (x13 : IV) : Option (IV × Hp) :=
  isoS [] false false ih 48 [.fv (.int .i64 15), .nils] h18 fun x23 h24 r25 w26 => chkS [(r22, [])] r25 w26 (isoS [] false false ih 51 [x0, .fv (.int .i64 0), x21, x23] h24 fun x27 h28 r29 w30 => chkS [] r29 w30 (neS EE 39 x27 (.fv (.int .i64 0)) fun x31 => S55_83 x31 h28 x17 x27 x9 ih x0 x13))
noncomputable def S55 (ih : Handler) (n : Nat) (x0 : IV) (x1 : IV) (x2 : IV) (x3 : IV) (h4 : Hp) : Option (IV × Hp) :=
  boxS 57671680 x1 h4 fun x5 h6 _ _ => boxS 57671681 x2 h6 fun x9 h10 _ _ => boxS 57671682 x3 h10 fun x13 h14 _ _ => newS 57671683 (.row [.fv (.int .i64 0), .fv (.int .i64 0), .nils] false) (.ptr (.own 57671683) 0) h14 fun x17 h18 _ _ => loadA 3 x5 h18 fun x21 r22 => chkS [] r22 [] (S55_84 ih h18 r22 x0 x21 x17 x9 x13)
theorem S55_ok (ih : Handler) (n : Nat) (x0 : IV) (x1 : IV) (x2 : IV) (x3 : IV) (h4 : Hp) : funS EE ih ft.get n 55 [x0, x1, x2, x3] h4 = S55 ih n x0 x1 x2 x3 h4 := by kernel_rfl
/-! Function 56. -/
noncomputable def S56_68 (h34 : Hp) (x12 : IV) (x38 : IV) (x29 : IV) : Option (IV × Hp) :=
  storeA 3 x12 x38 h34 fun h39 _ _ => cellS true 3 x12 h39 fun x42 => outS1 [x42, x29] h39
noncomputable def S56_69 (h50 : Hp) (x12 : IV) : Option (IV × Hp) :=
  cellS true 3 x12 h50 fun x53 => outS1 [x53, .fv (.int .i64 14)] h50
noncomputable def S56_70 (r65 : List Ref) (w66 : List Ref) (h64 : Hp) (x12 : IV) : Option (IV × Hp) :=
  chkS [] r65 w66 (cellS true 3 x12 h64 fun x67 => outS1 [x67, .fv (.int .i64 0)] h64)
noncomputable def S56_71 (ih : Handler) (h46 : Hp) (r55 : List Ref) (x54 : IV) (x12 : IV) : Option (IV × Hp) :=
  isoS [] false false ih 48 [.fv (.int .i64 11), .nils] h46 fun x56 h57 r58 w59 => chkS [(r55, [])] r58 w59 (isoS [] false false ih 83 [x54, .fv (.int .i64 0), x56] h57 fun x60 h61 r62 w63 => chkS [] r62 w63 (storeA 3 x12 x60 h61 fun h64 r65 w66 => S56_70 r65 w66 h64 x12))
noncomputable def S56_72 (ih : Handler) (h34 : Hp) (x43 : IV) (x12 : IV) (x30 : IV) : Option (IV × Hp) :=
  isoS [] false false ih 82 [x43, .fv (.int .i64 0)] h34 fun x45 h46 _ _ => condS x45 (bldS [.fv (.int .i64 0), .fv (.int .i64 0), .nils] [] fun x49 => storeA 3 x12 x49 h46 fun h50 _ _ => S56_69 h50 x12) (loadA 3 x30 h46 fun x54 r55 => chkS [] r55 [] (S56_71 ih h46 r55 x54 x12))
noncomputable def S56_73 (r35 : List Ref) (w36 : List Ref) (x29 : IV) (h34 : Hp) (x12 : IV) (x30 : IV) (ih : Handler) : Option (IV × Hp) :=
  chkS [] r35 w36 (neS EE 39 x29 (.fv (.int .i64 0)) fun x37 => condS x37 (bldS [.fv (.int .i64 0), .fv (.int .i64 0), .nils] [] fun x38 => S56_68 h34 x12 x38 x29) (loadA 3 x30 h34 fun x43 _ => S56_72 ih h34 x43 x12 x30))
noncomputable def S56_74 (x24 : IV) (h25 : Hp) (r26 : List Ref) (w27 : List Ref) (r23 : List Ref) (r20 : List Ref) (w21 : List Ref) (r17 : List Ref) (x12 : IV) (ih : Handler) : Option (IV × Hp) :=
  extS 0 x24 fun x28 => extS 1 x24 fun x29 => newS 58721288 (.row [.fv (.int .i64 0), .fv (.int .i64 0), .nils] false) (.ptr (.own 58721288) 0) h25 fun x30 h31 r32 w33 => chkS [(r26, w27), (r23, []), (r20, w21), (r17, [])] r32 w33 (storeA 3 x30 x28 h31 fun h34 r35 w36 => S56_73 r35 w36 x29 h34 x12 x30 ih)
noncomputable def S56_75 (r20 : List Ref) (w21 : List Ref) (h19 : Hp) (x8 : IV) (r17 : List Ref) (ih : Handler) (x18 : IV) (x12 : IV) : Option (IV × Hp) :=
  chkS [] r20 w21 (loadA 3 x8 h19 fun x22 r23 => chkS [(r20, w21), (r17, [])] r23 [] (isoS [] false false ih 29 [x18, .fv (.int .i64 0), x22] h19 fun x24 h25 r26 w27 => chkS [] r26 w27 (S56_74 x24 h25 r26 w27 r23 r20 w21 r17 x12 ih)))
noncomputable def S56 (ih : Handler) (n : Nat) (x0 : IV) (x1 : IV) (x2 : IV) (h3 : Hp) : Option (IV × Hp) :=
  boxS 58720256 x1 h3 fun x4 h5 _ _ => boxS 58720257 x2 h5 fun x8 h9 _ _ => newS 58720258 (.row [.fv (.int .i64 0), .fv (.int .i64 0), .nils] false) (.ptr (.own 58720258) 0) h9 fun x12 h13 _ _ => loadA 3 x4 h13 fun x16 r17 => chkS [] r17 [] (isoS [] false false ih 81 [x0, .fv (.int .i64 0), x16] h13 fun x18 h19 r20 w21 => S56_75 r20 w21 h19 x8 r17 ih x18 x12)
theorem S56_ok (ih : Handler) (n : Nat) (x0 : IV) (x1 : IV) (x2 : IV) (h3 : Hp) : funS EE ih ft.get n 56 [x0, x1, x2] h3 = S56 ih n x0 x1 x2 h3 := by kernel_rfl
/-! Function 57. -/
noncomputable def S57_68 (h23 : Hp) (x12 : IV) (x22 : IV) : Option (IV × Hp) :=
  bldS [.fv (.int .i64 0), .fv (.int .i64 0), .nils] [] fun x27 => storeA 3 x12 x27 h23 fun h28 _ _ => cellS true 3 x12 h28 fun x31 => outS1 [x31, x22] h28
noncomputable def S57_69 (h47 : Hp) (x12 : IV) (x51 : IV) (x46 : IV) : Option (IV × Hp) :=
  storeA 3 x12 x51 h47 fun h52 _ _ => cellS true 3 x12 h52 fun x55 => outS1 [x55, x46] h52
noncomputable def S57_70 (ih : Handler) (h47 : Hp) (x56 : IV) (x12 : IV) : Option (IV × Hp) :=
  isoS [] false false ih 36 [x56] h47 fun x58 h59 _ _ => extS 0 x58 fun x62 => extS 1 x58 fun x63 => storeA 3 x12 x62 h59 fun h64 _ _ => cellS true 3 x12 h64 fun x67 => outS1 [x67, x63] h64
noncomputable def S57_71 (ih : Handler) (h43 : Hp) (x34 : IV) (x38 : IV) (x42 : IV) (x12 : IV) (x4 : IV) : Option (IV × Hp) :=
  isoS [] false false ih 51 [x34, .fv (.int .i64 0), x38, x42] h43 fun x46 h47 r48 w49 => chkS [] r48 w49 (neS EE 39 x46 (.fv (.int .i64 0)) fun x50 => condS x50 (bldS [.fv (.int .i64 0), .fv (.int .i64 0), .nils] [] fun x51 => S57_69 h47 x12 x51 x46) (loadA 3 x4 h47 fun x56 _ => S57_70 ih h47 x56 x12))
noncomputable def S57_72 (r39 : List Ref) (r36 : List Ref) (w37 : List Ref) (r33 : List Ref) (h35 : Hp) (x4 : IV) (ih : Handler) (x34 : IV) (x38 : IV) (x12 : IV) : Option (IV × Hp) :=
  chkS [(r36, w37), (r33, [])] r39 [] (loadA 3 x4 h35 fun x40 r41 => chkS [(r39, []), (r36, w37), (r33, [])] r41 [] (isoS [] false false ih 47 [x40, .fv (.int .i64 1), .fv (.int .i64 0)] h35 fun x42 h43 r44 w45 => chkS [(r39, [])] r44 w45 (S57_71 ih h43 x34 x38 x42 x12 x4)))
noncomputable def S57_73 (h23 : Hp) (x4 : IV) (ih : Handler) (x0 : IV) (x8 : IV) (x12 : IV) : Option (IV × Hp) :=
  loadA 3 x4 h23 fun x32 r33 => chkS [] r33 [] (isoS [] false false ih 81 [x0, .fv (.int .i64 0), x32] h23 fun x34 h35 r36 w37 => chkS [] r36 w37 (loadA 3 x8 h35 fun x38 r39 => S57_72 r39 r36 w37 r33 h35 x4 ih x34 x38 x12))
noncomputable def S57_74 (r20 : List Ref) (w21 : List Ref) (r17 : List Ref) (ih : Handler) (h19 : Hp) (x0 : IV) (x16 : IV) (x18 : IV) (x12 : IV) (x4 : IV) (x8 : IV) : Option (IV × Hp) :=
  chkS [(r17, [])] r20 w21 (isoS [] false false ih 51 [x0, .fv (.int .i64 1), x16, x18] h19 fun x22 h23 r24 w25 => chkS [] r24 w25 (neS EE 39 x22 (.fv (.int .i64 0)) fun x26 => condS x26 (S57_68 h23 x12 x22) (S57_73 h23 x4 ih x0 x8 x12)))
noncomputable def S57 (ih : Handler) (n : Nat) (x0 : IV) (x1 : IV) (x2 : IV) (h3 : Hp) : Option (IV × Hp) :=
  boxS 59768832 x1 h3 fun x4 h5 _ _ => boxS 59768833 x2 h5 fun x8 h9 _ _ => newS 59768834 (.row [.fv (.int .i64 0), .fv (.int .i64 0), .nils] false) (.ptr (.own 59768834) 0) h9 fun x12 h13 _ _ => loadA 3 x4 h13 fun x16 r17 => chkS [] r17 [] (isoS [] false false ih 48 [.fv (.int .i64 14), .nils] h13 fun x18 h19 r20 w21 => S57_74 r20 w21 r17 ih h19 x0 x16 x18 x12 x4 x8)
theorem S57_ok (ih : Handler) (n : Nat) (x0 : IV) (x1 : IV) (x2 : IV) (h3 : Hp) : funS EE ih ft.get n 57 [x0, x1, x2] h3 = S57 ih n x0 x1 x2 h3 := by kernel_rfl
/-! Function 58. -/
noncomputable def S58_59 (h19 : Hp) (x12 : IV) (x25 : IV) (x23 : IV) : Option (IV × Hp) :=
  storeA 3 x12 x25 h19 fun h26 _ _ => cellS true 3 x12 h26 fun x29 => outS1 [x29, x23] h26
noncomputable def S58_60 (h46 : Hp) (x12 : IV) (x43 : IV) : Option (IV × Hp) :=
  cellS true 3 x12 h46 fun x49 => outS1 [x49, x43] h46
noncomputable def S58_61 (h51 : Hp) (x12 : IV) (x54 : IV) : Option (IV × Hp) :=
  storeA 3 x12 x54 h51 fun h55 _ _ => cellS true 3 x12 h55 fun x58 => outS1 [x58, .fv (.int .i64 0)] h55
noncomputable def S58_62 (x44 : IV) (h39 : Hp) (x12 : IV) (x43 : IV) (x22 : IV) (x42 : IV) : Option (IV × Hp) :=
  condS x44 (bldS [.fv (.int .i64 0), .fv (.int .i64 0), .nils] [] fun x45 => storeA 3 x12 x45 h39 fun h46 _ _ => S58_60 h46 x12 x43) (genS (builtinR EE 60824578 false .max [3, 3] [x22, x42]) 60824578 h39 fun x50 h51 _ _ => bldS [.fv (.int .i64 0), .fv (.int .i64 0), .nils] [(0, 1, .fv (.int .i64 2)), (1, 1, x50)] fun x54 => S58_61 h51 x12 x54)
noncomputable def S58_63 (ih : Handler) (h33 : Hp) (x32 : IV) (x36 : IV) (x12 : IV) (x22 : IV) : Option (IV × Hp) :=
  isoS [] false false ih 84 [x32, x36] h33 fun x38 h39 r40 w41 => chkS [] r40 w41 (extS 0 x38 fun x42 => extS 1 x38 fun x43 => neS EE 39 x43 (.fv (.int .i64 0)) fun x44 => S58_62 x44 h39 x12 x43 x22 x42)
noncomputable def S58_64 (r31 : List Ref) (ih : Handler) (h19 : Hp) (x0 : IV) (x30 : IV) (x8 : IV) (x12 : IV) (x22 : IV) : Option (IV × Hp) :=
  chkS [] r31 [] (isoS [] false false ih 81 [x0, .fv (.int .i64 1), x30] h19 fun x32 h33 r34 w35 => chkS [] r34 w35 (loadA 3 x8 h33 fun x36 r37 => chkS [(r34, w35), (r31, [])] r37 [] (S58_63 ih h33 x32 x36 x12 x22)))
noncomputable def S58_65 (x18 : IV) (h19 : Hp) (x12 : IV) (x4 : IV) (ih : Handler) (x0 : IV) (x8 : IV) (x22 : IV) : Option (IV × Hp) :=
  extS 1 x18 fun x23 => neS EE 39 x23 (.fv (.int .i64 0)) fun x24 => condS x24 (bldS [.fv (.int .i64 0), .fv (.int .i64 0), .nils] [] fun x25 => S58_59 h19 x12 x25 x23) (loadA 3 x4 h19 fun x30 r31 => S58_64 r31 ih h19 x0 x30 x8 x12 x22)
noncomputable def S58 (ih : Handler) (n : Nat) (x0 : IV) (x1 : IV) (x2 : IV) (h3 : Hp) : Option (IV × Hp) :=
  boxS 60817408 x1 h3 fun x4 h5 _ _ => boxS 60817409 x2 h5 fun x8 h9 _ _ => newS 60817410 (.row [.fv (.int .i64 0), .fv (.int .i64 0), .nils] false) (.ptr (.own 60817410) 0) h9 fun x12 h13 _ _ => loadA 3 x4 h13 fun x16 _ => isoS [] false false ih 84 [x0, x16] h13 fun x18 h19 _ _ => extS 0 x18 fun x22 => S58_65 x18 h19 x12 x4 ih x0 x8 x22
theorem S58_ok (ih : Handler) (n : Nat) (x0 : IV) (x1 : IV) (x2 : IV) (h3 : Hp) : funS EE ih ft.get n 58 [x0, x1, x2] h3 = S58 ih n x0 x1 x2 h3 := by kernel_rfl
/-! Function 59. -/
noncomputable def S59_79 (h19 : Hp) (x12 : IV) (x25 : IV) (x23 : IV) : Option (IV × Hp) :=
  storeA 3 x12 x25 h19 fun h26 _ _ => cellS true 3 x12 h26 fun x29 => outS1 [x29, x23] h26
noncomputable def S59_80 (h48 : Hp) (x12 : IV) (x43 : IV) : Option (IV × Hp) :=
  bldS [.fv (.int .i64 0), .fv (.int .i64 0), .nils] [] fun x52 => storeA 3 x12 x52 h48 fun h53 _ _ => cellS true 3 x12 h53 fun x56 => outS1 [x56, x43] h53
noncomputable def S59_81 (x69 : IV) (h70 : Hp) (x12 : IV) : Option (IV × Hp) :=
  extS 0 x69 fun x73 => extS 1 x69 fun x74 => storeA 3 x12 x73 h70 fun h75 _ _ => cellS true 3 x12 h75 fun x78 => outS1 [x78, x74] h75
noncomputable def S59_82 (h48 : Hp) (x4 : IV) (x44 : IV) (ih : Handler) (x12 : IV) : Option (IV × Hp) :=
  loadA 3 x4 h48 fun x57 _ => loadA 3 x44 h48 fun x59 _ => genS (pcBuildSlice EE 23 2 [(0, x57), (1, x59)]) 61873154 h48 fun x61 h62 _ _ => isoS [] false false ih 48 [.fv (.int .i64 3), x61] h62 fun x65 h66 _ _ => isoS [] false false ih 36 [x65] h66 fun x69 h70 _ _ => S59_81 x69 h70 x12
noncomputable def S59_83 (r46 : List Ref) (w47 : List Ref) (r40 : List Ref) (w41 : List Ref) (r37 : List Ref) (r34 : List Ref) (w35 : List Ref) (r31 : List Ref) (h45 : Hp) (x44 : IV) (x42 : IV) (x43 : IV) (x12 : IV) (x4 : IV) (ih : Handler) : Option (IV × Hp) :=
  chkS [(r40, w41), (r37, []), (r34, w35), (r31, [])] r46 w47 (storeA 3 x44 x42 h45 fun h48 r49 w50 => chkS [] r49 w50 (neS EE 39 x43 (.fv (.int .i64 0)) fun x51 => condS x51 (S59_80 h48 x12 x43) (S59_82 h48 x4 x44 ih x12)))
noncomputable def S59_84 (ih : Handler) (h33 : Hp) (x32 : IV) (x36 : IV) (r37 : List Ref) (r34 : List Ref) (w35 : List Ref) (r31 : List Ref) (x12 : IV) (x4 : IV) : Option (IV × Hp) :=
  isoS [] false false ih 29 [x32, .fv (.int .i64 1), x36] h33 fun x38 h39 r40 w41 => chkS [] r40 w41 (extS 0 x38 fun x42 => extS 1 x38 fun x43 => newS 61870088 (.row [.fv (.int .i64 0), .fv (.int .i64 0), .nils] false) (.ptr (.own 61870088) 0) h39 fun x44 h45 r46 w47 => S59_83 r46 w47 r40 w41 r37 r34 w35 r31 h45 x44 x42 x43 x12 x4 ih)
noncomputable def S59_85 (r31 : List Ref) (ih : Handler) (h19 : Hp) (x0 : IV) (x30 : IV) (x8 : IV) (x12 : IV) (x4 : IV) : Option (IV × Hp) :=
  chkS [] r31 [] (isoS [] false false ih 81 [x0, .fv (.int .i64 1), x30] h19 fun x32 h33 r34 w35 => chkS [] r34 w35 (loadA 3 x8 h33 fun x36 r37 => chkS [(r34, w35), (r31, [])] r37 [] (S59_84 ih h33 x32 x36 r37 r34 w35 r31 x12 x4)))
noncomputable def S59_86 (x18 : IV) (h19 : Hp) (x12 : IV) (x4 : IV) (ih : Handler) (x0 : IV) (x8 : IV) : Option (IV × Hp) :=
  extS 1 x18 fun x23 => neS EE 39 x23 (.fv (.int .i64 0)) fun x24 => condS x24 (bldS [.fv (.int .i64 0), .fv (.int .i64 0), .nils] [] fun x25 => S59_79 h19 x12 x25 x23) (loadA 3 x4 h19 fun x30 r31 => S59_85 r31 ih h19 x0 x30 x8 x12 x4)
noncomputable def S59 (ih : Handler) (n : Nat) (x0 : IV) (x1 : IV) (x2 : IV) (h3 : Hp) : Option (IV × Hp) :=
  boxS 61865984 x1 h3 fun x4 h5 _ _ => boxS 61865985 x2 h5 fun x8 h9 _ _ => newS 61865986 (.row [.fv (.int .i64 0), .fv (.int .i64 0), .nils] false) (.ptr (.own 61865986) 0) h9 fun x12 h13 _ _ => loadA 3 x4 h13 fun x16 _ => isoS [] false false ih 84 [x0, x16] h13 fun x18 h19 _ _ => extS 0 x18 fun _ => S59_86 x18 h19 x12 x4 ih x0 x8
theorem S59_ok (ih : Handler) (n : Nat) (x0 : IV) (x1 : IV) (x2 : IV) (h3 : Hp) : funS EE ih ft.get n 59 [x0, x1, x2] h3 = S59 ih n x0 x1 x2 h3 := by kernel_rfl
/-! Function 60. -/
noncomputable def S60_71 (h36 : Hp) (x12 : IV) (x32 : IV) : Option (IV × Hp) :=
  cellS true 3 x12 h36 fun x39 => outS1 [x39, x32] h36
noncomputable def S60_72 (h49 : Hp) (x12 : IV) (x52 : IV) (x53 : IV) : Option (IV × Hp) :=
  storeA 3 x12 x52 h49 fun h54 r55 w56 => chkS [] r55 w56 (cellS true 3 x12 h54 fun x57 => outS1 [x57, x53] h54)
noncomputable def S60_73 (r47 : List Ref) (r45 : List Ref) (r42 : List Ref) (ih : Handler) (h33 : Hp) (x44 : IV) (x46 : IV) (x12 : IV) : Option (IV × Hp) :=
  chkS [(r45, []), (r42, [])] r47 [] (isoS [] false false ih 85 [x44, x46] h33 fun x48 h49 r50 w51 => chkS [] r50 w51 (extS 0 x48 fun x52 => extS 1 x48 fun x53 => S60_72 h49 x12 x52 x53))
noncomputable def S60_74 (r42 : List Ref) (x41 : IV) (h33 : Hp) (x8 : IV) (ih : Handler) (x12 : IV) : Option (IV × Hp) :=
  chkS [] r42 [] (ixS 3 x41 (.fv (.int .i64 1)) fun x43 => loadA 3 x43 h33 fun x44 r45 => chkS [] r45 [] (loadA 3 x8 h33 fun x46 r47 => S60_73 r47 r45 r42 ih h33 x44 x46 x12))
noncomputable def S60_75 (x32 : IV) (h33 : Hp) (x12 : IV) (x24 : IV) (x8 : IV) (ih : Handler) : Option (IV × Hp) :=
  neS EE 39 x32 (.fv (.int .i64 0)) fun x34 => condS x34 (bldS [.fv (.int .i64 0), .fv (.int .i64 0), .nils] [] fun x35 => storeA 3 x12 x35 h33 fun h36 _ _ => S60_71 h36 x12 x32) (faddrS 2 x24 fun x40 => load1 x40 h33 fun x41 r42 => S60_74 r42 x41 h33 x8 ih x12)
noncomputable def S60_76 (r69 : List Ref) (w70 : List Ref) (j1_31 : IV → Hp → Option (IV × Hp)) (h68 : Hp) (x67 : IV) : Option (IV × Hp) :=
  chkS [] r69 w70 (j1_31 x67 h68)
noncomputable def S60_77 (h28 : Hp) (x24 : IV) (r60 : List Ref) (ih : Handler) (x0 : IV) (x59 : IV) (j1_31 : IV → Hp → Option (IV × Hp)) : Option (IV × Hp) :=
  loadA 3 x24 h28 fun x61 r62 => chkS [(r60, [])] r62 [] (isoS [] false false ih 52 [x61, .fv (.int .i64 0)] h28 fun x63 h64 r65 w66 => chkS [(r60, [])] r65 w66 (isoS [] false false ih 51 [x0, .fv (.int .i64 1), x59, x63] h64 fun x67 h68 r69 w70 => S60_76 r69 w70 j1_31 h68 x67))
noncomputable def S60_78 (x58 : IV) (h28 : Hp) (x8 : IV) (x24 : IV) (ih : Handler) (x0 : IV) (j1_31 : IV → Hp → Option (IV × Hp)) (x23 : IV) : Option (IV × Hp) :=
  condS x58 (loadA 3 x8 h28 fun x59 r60 => chkS [] r60 [] (S60_77 h28 x24 r60 ih x0 x59 j1_31)) (j1_31 x23 h28)
noncomputable def S60_79 (x18 : IV) (h19 : Hp) (x22 : IV) (x12 : IV) (x8 : IV) (ih : Handler) (x0 : IV) : Option (IV × Hp) :=
  extS 1 x18 fun x23 => newS 62915590 (.row [.fv (.int .i64 0), .fv (.int .i64 0), .nils] false) (.ptr (.own 62915590) 0) h19 fun x24 h25 _ _ => storeA 3 x24 x22 h25 fun h28 _ _ => (fun (j1_31 : IV → Hp → Option (IV × Hp)) => eqS EE 39 x23 (.fv (.int .i64 0)) fun x58 => S60_78 x58 h28 x8 x24 ih x0 j1_31 x23) fun x32 h33 => S60_75 x32 h33 x12 x24 x8 ih
noncomputable def S60 (ih : Handler) (n : Nat) (x0 : IV) (x1 : IV) (x2 : IV) (h3 : Hp) : Option (IV × Hp) :=
  boxS 62914560 x1 h3 fun x4 h5 _ _ => boxS 62914561 x2 h5 fun x8 h9 _ _ => newS 62914562 (.row [.fv (.int .i64 0), .fv (.int .i64 0), .nils] false) (.ptr (.own 62914562) 0) h9 fun x12 h13 _ _ => loadA 3 x4 h13 fun x16 _ => isoS [] false false ih 50 [x0, .fv (.int .i64 1), x16, .fv (.int .i64 3)] h13 fun x18 h19 _ _ => extS 0 x18 fun x22 => S60_79 x18 h19 x22 x12 x8 ih x0
theorem S60_ok (ih : Handler) (n : Nat) (x0 : IV) (x1 : IV) (x2 : IV) (h3 : Hp) : funS EE ih ft.get n 60 [x0, x1, x2] h3 = S60 ih n x0 x1 x2 h3 := by kernel_rfl
/-! Function 61. -/
noncomputable def S61_124 (h24 : Hp) (x17 : IV) (x30 : IV) (x28 : IV) : Option (IV × Hp) :=
  storeA 3 x17 x30 h24 fun h31 _ _ => cellS true 3 x17 h31 fun x34 => outS1 [x34, x28] h31
noncomputable def S61_125 (h48 : Hp) (x17 : IV) (x42 : IV) : Option (IV × Hp) :=
  cellS true 3 x17 h48 fun x51 => outS1 [x51, x42] h48
noncomputable def S61_126 (h57 : Hp) (x17 : IV) : Option (IV × Hp) :=
  cellS true 3 x17 h57 fun x60 => outS1 [x60, .fv (.int .i64 12)] h57
noncomputable def S61_127 (h70 : Hp) (x17 : IV) (x69 : IV) : Option (IV × Hp) :=
  bldS [.fv (.int .i64 0), .fv (.int .i64 0), .nils] [] fun x74 => storeA 3 x17 x74 h70 fun h75 _ _ => cellS true 3 x17 h75 fun x78 => outS1 [x78, x69] h75
noncomputable def S61_128 (h105 : Hp) (x17 : IV) (x101 : IV) : Option (IV × Hp) :=
  cellS true 3 x17 h105 fun x108 => outS1 [x108, x101] h105
noncomputable def S61_129 (h111 : Hp) (x17 : IV) : Option (IV × Hp) :=
  cellS true 3 x17 h111 fun x114 => outS1 [x114, .fv (.int .i64 0)] h111
noncomputable def S61_130 (x101 : IV) (h102 : Hp) (x17 : IV) (x5 : IV) : Option (IV × Hp) :=
  neS EE 39 x101 (.fv (.int .i64 0)) fun x103 => condS x103 (bldS [.fv (.int .i64 0), .fv (.int .i64 0), .nils] [] fun x104 => storeA 3 x17 x104 h102 fun h105 _ _ => S61_128 h105 x17 x101) (loadA 3 x5 h102 fun x109 _ => storeA 3 x17 x109 h102 fun h111 _ _ => S61_129 h111 x17)
noncomputable def S61_131 (h97 : Hp) (x93 : IV) (ih : Handler) (x0 : IV) (x116 : IV) (j1_100 : IV → Hp → Option (IV × Hp)) : Option (IV × Hp) :=
  loadA 3 x93 h97 fun x118 _ => isoS [] false false ih 51 [x0, .fv (.int .i64 1), x116, x118] h97 fun x120 h121 _ _ => j1_100 x120 h121
noncomputable def S61_132 (r98 : List Ref) (w99 : List Ref) (x17 : IV) (x5 : IV) (x92 : IV) (h97 : Hp) (x13 : IV) (x93 : IV) (ih : Handler) (x0 : IV) : Option (IV × Hp) :=
  chkS [] r98 w99 ((fun (j1_100 : IV → Hp → Option (IV × Hp)) => eqS EE 39 x92 (.fv (.int .i64 0)) fun x115 => condS x115 (loadA 3 x13 h97 fun x116 _ => S61_131 h97 x93 ih x0 x116 j1_100) (j1_100 x92 h97)) fun x101 h102 => S61_130 x101 h102 x17 x5)
noncomputable def S61_133 (x87 : IV) (h88 : Hp) (r89 : List Ref) (w90 : List Ref) (r86 : List Ref) (r84 : List Ref) (r81 : List Ref) (x17 : IV) (x5 : IV) (x13 : IV) (ih : Handler) (x0 : IV) : Option (IV × Hp) :=
  extS 0 x87 fun x91 => extS 1 x87 fun x92 => newS 63975433 (.row [.fv (.int .i64 0), .fv (.int .i64 0), .nils] false) (.ptr (.own 63975433) 0) h88 fun x93 h94 r95 w96 => chkS [(r89, w90), (r86, []), (r84, []), (r81, [])] r95 w96 (storeA 3 x93 x91 h94 fun h97 r98 w99 => S61_132 r98 w99 x17 x5 x92 h97 x13 x93 ih x0)
noncomputable def S61_134 (r84 : List Ref) (h70 : Hp) (x9 : IV) (r81 : List Ref) (ih : Handler) (x83 : IV) (x17 : IV) (x5 : IV) (x13 : IV) (x0 : IV) : Option (IV × Hp) :=
  chkS [] r84 [] (loadA 3 x9 h70 fun x85 r86 => chkS [(r84, []), (r81, [])] r86 [] (isoS [] false false ih 85 [x83, x85] h70 fun x87 h88 r89 w90 => chkS [] r89 w90 (S61_133 x87 h88 r89 w90 r86 r84 r81 x17 x5 x13 ih x0)))
noncomputable def S61_135 (x5 : IV) (h70 : Hp) (x9 : IV) (ih : Handler) (x17 : IV) (x13 : IV) (x0 : IV) : Option (IV × Hp) :=
  faddrS 2 x5 fun x79 => load1 x79 h70 fun x80 r81 => chkS [] r81 [] (ixS 3 x80 (.fv (.int .i64 1)) fun x82 => loadA 3 x82 h70 fun x83 r84 => S61_134 r84 h70 x9 r81 ih x83 x17 x5 x13 x0)
noncomputable def S61_136 (r68 : List Ref) (r62 : List Ref) (ih : Handler) (h43 : Hp) (x0 : IV) (x61 : IV) (x67 : IV) (x17 : IV) (x5 : IV) (x9 : IV) (x13 : IV) : Option (IV × Hp) :=
  chkS [(r62, [])] r68 [] (isoS [] false false ih 51 [x0, .fv (.int .i64 1), x61, x67] h43 fun x69 h70 r71 w72 => chkS [] r71 w72 (neS EE 39 x69 (.fv (.int .i64 0)) fun x73 => condS x73 (S61_127 h70 x17 x69) (S61_135 x5 h70 x9 ih x17 x13 x0)))
noncomputable def S61_137 (x5 : IV) (h43 : Hp) (r62 : List Ref) (ih : Handler) (x0 : IV) (x61 : IV) (x17 : IV) (x9 : IV) (x13 : IV) : Option (IV × Hp) :=
  faddrS 2 x5 fun x63 => load1 x63 h43 fun x64 r65 => chkS [(r62, [])] r65 [] (ixS 3 x64 (.fv (.int .i64 0)) fun x66 => loadA 3 x66 h43 fun x67 r68 => S61_136 r68 r62 ih h43 x0 x61 x67 x17 x5 x9 x13)
noncomputable def S61_138 (x53 : IV) (h43 : Hp) (x17 : IV) (x9 : IV) (x5 : IV) (ih : Handler) (x0 : IV) (x13 : IV) : Option (IV × Hp) :=
  neS EE 3 x53 (.fv (.int .i64 6)) fun x55 => condS x55 (bldS [.fv (.int .i64 0), .fv (.int .i64 0), .nils] [] fun x56 => storeA 3 x17 x56 h43 fun h57 _ _ => S61_126 h57 x17) (loadA 3 x9 h43 fun x61 r62 => chkS [] r62 [] (S61_137 x5 h43 r62 ih x0 x61 x17 x9 x13))
noncomputable def S61_139 (x46 : IV) (h43 : Hp) (x17 : IV) (x42 : IV) (x5 : IV) (x9 : IV) (ih : Handler) (x0 : IV) (x13 : IV) : Option (IV × Hp) :=
  condS x46 (bldS [.fv (.int .i64 0), .fv (.int .i64 0), .nils] [] fun x47 => storeA 3 x17 x47 h43 fun h48 _ _ => S61_125 h48 x17 x42) (faddrS 0 x5 fun x52 => load1 x52 h43 fun x53 _ => S61_138 x53 h43 x17 x9 x5 ih x0 x13)
noncomputable def S61_140 (ih : Handler) (h24 : Hp) (x35 : IV) (x5 : IV) (x17 : IV) (x9 : IV) (x0 : IV) (x13 : IV) : Option (IV × Hp) :=
  isoS [] false false ih 36 [x35] h24 fun x37 h38 _ _ => extS 0 x37 fun x41 => extS 1 x37 fun x42 => storeA 3 x5 x41 h38 fun h43 _ _ => neS EE 39 x42 (.fv (.int .i64 0)) fun x46 => S61_139 x46 h43 x17 x42 x5 x9 ih x0 x13
noncomputable def S61_141 (x23 : IV) (h24 : Hp) (x17 : IV) (x5 : IV) (ih : Handler) (x9 : IV) (x0 : IV) (x13 : IV) : Option (IV × Hp) :=
  extS 0 x23 fun _ => extS 1 x23 fun x28 => neS EE 39 x28 (.fv (.int .i64 0)) fun x29 => condS x29 (bldS [.fv (.int .i64 0), .fv (.int .i64 0), .nils] [] fun x30 => S61_124 h24 x17 x30 x28) (loadA 3 x5 h24 fun x35 _ => S61_140 ih h24 x35 x5 x17 x9 x0 x13)
noncomputable def S61 (ih : Handler) (n : Nat) (x0 : IV) (x1 : IV) (x2 : IV) (x3 : IV) (h4 : Hp) : Option (IV × Hp) :=
  boxS 63963136 x1 h4 fun x5 h6 _ _ => boxS 63963137 x2 h6 fun x9 h10 _ _ => boxS 63963138 x3 h10 fun x13 h14 _ _ => newS 63963139 (.row [.fv (.int .i64 0), .fv (.int .i64 0), .nils] false) (.ptr (.own 63963139) 0) h14 fun x17 h18 _ _ => loadA 3 x5 h18 fun x21 _ => isoS [] false false ih 84 [x0, x21] h18 fun x23 h24 _ _ => S61_141 x23 h24 x17 x5 ih x9 x0 x13
theorem S61_ok (ih : Handler) (n : Nat) (x0 : IV) (x1 : IV) (x2 : IV) (x3 : IV) (h4 : Hp) : funS EE ih ft.get n 61 [x0, x1, x2, x3] h4 = S61 ih n x0 x1 x2 x3 h4 := by kernel_rfl
end Idl
end Go.Proofs.Ytnenpcghegcnhaa

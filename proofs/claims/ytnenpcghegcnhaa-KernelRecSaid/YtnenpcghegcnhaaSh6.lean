/-
  THE SHALLOW FORM OF THE SEAT'S FUNCTIONS, a part; each is what its code's shallow run is. Printed by a program of mine (gen-sh). No statement is proved here.
-/
import Derived.Test.YtnenpcghegcnhaaTab
import Derived.Test.YtnenpcghegcnhaaIdl31
set_option maxRecDepth 100000
set_option linter.unusedVariables false
namespace Go.Proofs.Ytnenpcghegcnhaa
namespace Idl
/-! Function 62. -/
noncomputable def S62_80 (h32 : Hp) (x7 : IV) (x22 : IV) : Option (IV × Hp) :=
  cellS true 3 x7 h32 fun x35 => outS1 [x35, x22] h32
noncomputable def S62_81 (x41 : IV) (h27 : Hp) (x7 : IV) : Option (IV × Hp) :=
  ixS 3 x41 (.fv (.int .i64 0)) fun x43 => loadA 3 x43 h27 fun x44 _ => storeA 3 x7 x44 h27 fun h46 _ _ => cellS true 3 x7 h46 fun x49 => outS1 [x49, .fv (.int .i64 0)] h46
noncomputable def S62_82 (h76 : Hp) (x7 : IV) (x75 : IV) : Option (IV × Hp) :=
  cellS true 3 x7 h76 fun x79 => outS1 [x79, x75] h76
noncomputable def S62_83 (r72 : List Ref) (w73 : List Ref) (x70 : IV) (h71 : Hp) (x7 : IV) : Option (IV × Hp) :=
  chkS [] r72 w73 (extS 0 x70 fun x74 => extS 1 x70 fun x75 => storeA 3 x7 x74 h71 fun h76 r77 w78 => chkS [] r77 w78 (S62_82 h76 x7 x75))
noncomputable def S62_84 (h27 : Hp) (x60 : IV) (r55 : List Ref) (r52 : List Ref) (ih : Handler) (x54 : IV) (x7 : IV) : Option (IV × Hp) :=
  genS (pcBuildSlice EE 23 1 [(0, x60)]) 65017864 h27 fun x62 h63 r64 w65 => chkS [(r55, []), (r52, [])] r64 w65 (isoS [] false false ih 48 [.fv (.int .i64 8), x62] h63 fun x66 h67 r68 w69 => chkS [(r55, []), (r52, [])] r68 w69 (isoS [] false false ih 85 [x54, x66] h67 fun x70 h71 r72 w73 => S62_83 r72 w73 x70 h71 x7))
noncomputable def S62_85 (h27 : Hp) (x56 : IV) (r55 : List Ref) (r52 : List Ref) (ih : Handler) (x54 : IV) (x7 : IV) : Option (IV × Hp) :=
  load1 x56 h27 fun x57 r58 => chkS [(r55, []), (r52, [])] r58 [] (ixS 3 x57 (.fv (.int .i64 0)) fun x59 => loadA 3 x59 h27 fun x60 r61 => chkS [(r55, []), (r52, [])] r61 [] (S62_84 h27 x60 r55 r52 ih x54 x7))
noncomputable def S62_86 (r52 : List Ref) (x51 : IV) (h27 : Hp) (x3 : IV) (ih : Handler) (x7 : IV) : Option (IV × Hp) :=
  chkS [] r52 [] (ixS 3 x51 (.fv (.int .i64 1)) fun x53 => loadA 3 x53 h27 fun x54 r55 => chkS [] r55 [] (faddrS 2 x3 fun x56 => S62_85 h27 x56 r55 r52 ih x54 x7))
noncomputable def S62_87 (x37 : IV) (x23 : IV) (h27 : Hp) (x7 : IV) (x3 : IV) (ih : Handler) : Option (IV × Hp) :=
  eqS EE 3 x37 (.fv (.int .i64 8)) fun x39 => condS x39 (faddrS 2 x23 fun x40 => load1 x40 h27 fun x41 _ => S62_81 x41 h27 x7) (faddrS 2 x23 fun x50 => load1 x50 h27 fun x51 r52 => S62_86 r52 x51 h27 x3 ih x7)
noncomputable def S62_88 (x22 : IV) (h27 : Hp) (x7 : IV) (x3 : IV) (x23 : IV) (ih : Handler) : Option (IV × Hp) :=
  neS EE 39 x22 (.fv (.int .i64 0)) fun x30 => condS x30 (bldS [.fv (.int .i64 0), .fv (.int .i64 0), .nils] [] fun x31 => storeA 3 x7 x31 h27 fun h32 _ _ => S62_80 h32 x7 x22) (faddrS 0 x3 fun x36 => load1 x36 h27 fun x37 _ => S62_87 x37 x23 h27 x7 x3 ih)
noncomputable def S62_89 (ih : Handler) (h8 : Hp) (x0 : IV) (x15 : IV) (x7 : IV) (x3 : IV) : Option (IV × Hp) :=
  isoS [] false false ih 50 [x0, .fv (.int .i64 1), x15, .fv (.int .i64 6)] h8 fun x17 h18 _ _ => extS 0 x17 fun x21 => extS 1 x17 fun x22 => newS 65012745 (.row [.fv (.int .i64 0), .fv (.int .i64 0), .nils] false) (.ptr (.own 65012745) 0) h18 fun x23 h24 _ _ => storeA 3 x23 x21 h24 fun h27 _ _ => S62_88 x22 h27 x7 x3 x23 ih
noncomputable def S62 (ih : Handler) (n : Nat) (x0 : IV) (x1 : IV) (h2 : Hp) : Option (IV × Hp) :=
  boxS 65011712 x1 h2 fun x3 h4 _ _ => newS 65011713 (.row [.fv (.int .i64 0), .fv (.int .i64 0), .nils] false) (.ptr (.own 65011713) 0) h4 fun x7 h8 _ _ => faddrS 2 x3 fun x11 => load1 x11 h8 fun x12 _ => ixS 3 x12 (.fv (.int .i64 0)) fun x14 => loadA 3 x14 h8 fun x15 _ => S62_89 ih h8 x0 x15 x7 x3
theorem S62_ok (ih : Handler) (n : Nat) (x0 : IV) (x1 : IV) (h2 : Hp) : funS EE ih ft.get n 62 [x0, x1] h2 = S62 ih n x0 x1 h2 := by kernel_rfl
/-! Function 63. -/
noncomputable def S63_172 (h46 : Hp) (x22 : IV) (x50 : IV) : Option (IV × Hp) :=
  bldS [.fv (.int .i64 0), .fv (.int .i64 0), .nils] [] fun x52 => storeA 3 x22 x52 h46 fun h53 _ _ => cellS true 3 x22 h53 fun x56 => outS1 [x56, x50] h53
noncomputable def S63_173 (h81 : Hp) (x22 : IV) (x77 : IV) : Option (IV × Hp) :=
  cellS true 3 x22 h81 fun x84 => outS1 [x84, x77] h81
noncomputable def S63_174 (h121 : Hp) (x22 : IV) (x117 : IV) : Option (IV × Hp) :=
  cellS true 3 x22 h121 fun x124 => outS1 [x124, x117] h121
noncomputable def S63_175 (ih : Handler) (h118 : Hp) (x125 : IV) (x127 : IV) (x22 : IV) : Option (IV × Hp) :=
  isoS [] false false ih 85 [x125, x127] h118 fun x129 h130 _ _ => extS 0 x129 fun x133 => extS 1 x129 fun x134 => storeA 3 x22 x133 h130 fun h135 _ _ => cellS true 3 x22 h135 fun x138 => outS1 [x138, x134] h135
noncomputable def S63_176 (x117 : IV) (h118 : Hp) (x22 : IV) (x6 : IV) (x18 : IV) (ih : Handler) : Option (IV × Hp) :=
  neS EE 39 x117 (.fv (.int .i64 0)) fun x119 => condS x119 (bldS [.fv (.int .i64 0), .fv (.int .i64 0), .nils] [] fun x120 => storeA 3 x22 x120 h118 fun h121 _ _ => S63_174 h121 x22 x117) (loadA 3 x6 h118 fun x125 _ => loadA 3 x18 h118 fun x127 _ => S63_175 ih h118 x125 x127 x22)
noncomputable def S63_177 (h115 : Hp) (x30 : IV) (ih : Handler) (x0 : IV) (x140 : IV) (j1_116 : IV → Hp → Option (IV × Hp)) : Option (IV × Hp) :=
  loadA 3 x30 h115 fun x142 _ => isoS [] false false ih 51 [x0, .fv (.int .i64 1), x140, x142] h115 fun x144 h145 _ _ => j1_116 x144 h145
noncomputable def S63_178 (x22 : IV) (x6 : IV) (x18 : IV) (ih : Handler) (x114 : IV) (h115 : Hp) (x30 : IV) (x0 : IV) : Option (IV × Hp) :=
  (fun (j1_116 : IV → Hp → Option (IV × Hp)) => eqS EE 39 x114 (.fv (.int .i64 0)) fun x139 => condS x139 (loadA 3 x18 h115 fun x140 _ => S63_177 h115 x30 ih x0 x140 j1_116) (j1_116 x114 h115)) fun x117 h118 => S63_176 x117 h118 x22 x6 x18 ih
noncomputable def S63_179 (r158 : List Ref) (r156 : List Ref) (r153 : List Ref) (w154 : List Ref) (r150 : List Ref) (ih : Handler) (h152 : Hp) (x151 : IV) (x155 : IV) (x157 : IV) (j1_113 : IV → Hp → Option (IV × Hp)) : Option (IV × Hp) :=
  chkS [(r156, []), (r153, w154), (r150, [])] r158 [] (isoS [] false false ih 51 [x151, .fv (.int .i64 1), x155, x157] h152 fun x159 h160 r161 w162 => chkS [] r161 w162 (j1_113 x159 h160))
noncomputable def S63_180 (ih : Handler) (h110 : Hp) (x39 : IV) (x149 : IV) (x14 : IV) (r150 : List Ref) (x106 : IV) (j1_113 : IV → Hp → Option (IV × Hp)) : Option (IV × Hp) :=
  isoS [] false false ih 81 [x39, .fv (.int .i64 1), x149] h110 fun x151 h152 r153 w154 => chkS [] r153 w154 (loadA 3 x14 h152 fun x155 r156 => chkS [(r153, w154), (r150, [])] r156 [] (loadA 3 x106 h152 fun x157 r158 => S63_179 r158 r156 r153 w154 r150 ih h152 x151 x155 x157 j1_113))
noncomputable def S63_181 (x148 : IV) (h110 : Hp) (x6 : IV) (ih : Handler) (x39 : IV) (x14 : IV) (x106 : IV) (j1_113 : IV → Hp → Option (IV × Hp)) (x105 : IV) : Option (IV × Hp) :=
  condS x148 (loadA 3 x6 h110 fun x149 r150 => chkS [] r150 [] (S63_180 ih h110 x39 x149 x14 r150 x106 j1_113)) (j1_113 x105 h110)
noncomputable def S63_182 (x100 : IV) (h101 : Hp) (x104 : IV) (x22 : IV) (x6 : IV) (x18 : IV) (ih : Handler) (x30 : IV) (x0 : IV) (x39 : IV) (x14 : IV) : Option (IV × Hp) :=
  extS 1 x100 fun x105 => newS 66071561 (.row [.fv (.int .i64 0), .fv (.int .i64 0), .nils] false) (.ptr (.own 66071561) 0) h101 fun x106 h107 _ _ => storeA 3 x106 x104 h107 fun h110 _ _ => (fun (j1_113 : IV → Hp → Option (IV × Hp)) => eqS EE 39 x105 (.fv (.int .i64 0)) fun x148 => S63_181 x148 h110 x6 ih x39 x14 x106 j1_113 x105) fun x114 h115 => S63_178 x22 x6 x18 ih x114 h115 x30 x0
noncomputable def S63_183 (h88 : Hp) (ih : Handler) (x87 : IV) (x22 : IV) (x6 : IV) (x18 : IV) (x30 : IV) (x0 : IV) (x39 : IV) (x14 : IV) : Option (IV × Hp) :=
  bldS [.fv (.int .i64 0), .fv (.int .i64 0), .nils] [(0, 1, .fv (.int .i64 1)), (1, 1, .fv (.int .i64 1))] fun x91 => genS (pcBuildSlice EE 23 1 [(0, x91)]) 66071555 h88 fun x92 h93 _ _ => isoS [] false false ih 48 [.fv (.int .i64 12), x92] h93 fun x96 h97 _ _ => isoS [] false false ih 85 [x87, x96] h97 fun x100 h101 _ _ => extS 0 x100 fun x104 => S63_182 x100 h101 x104 x22 x6 x18 ih x30 x0 x39 x14
noncomputable def S63_184 (x77 : IV) (h78 : Hp) (x22 : IV) (x6 : IV) (ih : Handler) (x18 : IV) (x30 : IV) (x0 : IV) (x39 : IV) (x14 : IV) : Option (IV × Hp) :=
  neS EE 39 x77 (.fv (.int .i64 0)) fun x79 => condS x79 (bldS [.fv (.int .i64 0), .fv (.int .i64 0), .nils] [] fun x80 => storeA 3 x22 x80 h78 fun h81 _ _ => S63_173 h81 x22 x77) (loadA 3 x6 h78 fun x85 _ => isoS [] false false ih 47 [x85, .fv (.int .i64 2), .fv (.int .i64 1)] h78 fun x87 h88 _ _ => S63_183 h88 ih x87 x22 x6 x18 x30 x0 x39 x14)
noncomputable def S63_185 (h73 : Hp) (x10 : IV) (x69 : IV) (ih : Handler) (x0 : IV) (j1_76 : IV → Hp → Option (IV × Hp)) : Option (IV × Hp) :=
  loadA 3 x10 h73 fun x164 _ => loadA 3 x69 h73 fun x166 _ => isoS [] false false ih 51 [x0, .fv (.int .i64 1), x164, x166] h73 fun x168 h169 _ _ => j1_76 x168 h169
noncomputable def S63_186 (h70 : Hp) (x69 : IV) (x67 : IV) (x22 : IV) (x6 : IV) (ih : Handler) (x18 : IV) (x30 : IV) (x0 : IV) (x39 : IV) (x14 : IV) (x68 : IV) (x10 : IV) : Option (IV × Hp) :=
  storeA 3 x69 x67 h70 fun h73 r74 w75 => chkS [] r74 w75 ((fun (j1_76 : IV → Hp → Option (IV × Hp)) => eqS EE 39 x68 (.fv (.int .i64 0)) fun x163 => condS x163 (S63_185 h73 x10 x69 ih x0 j1_76) (j1_76 x68 h73)) fun x77 h78 => S63_184 x77 h78 x22 x6 ih x18 x30 x0 x39 x14)
noncomputable def S63_187 (r65 : List Ref) (w66 : List Ref) (x63 : IV) (h64 : Hp) (r61 : List Ref) (w62 : List Ref) (r58 : List Ref) (x22 : IV) (x6 : IV) (ih : Handler) (x18 : IV) (x30 : IV) (x0 : IV) (x39 : IV) (x14 : IV) (x10 : IV) : Option (IV × Hp) :=
  chkS [] r65 w66 (extS 0 x63 fun x67 => extS 1 x63 fun x68 => newS 66066438 (.row [.fv (.int .i64 0), .fv (.int .i64 0), .nils] false) (.ptr (.own 66066438) 0) h64 fun x69 h70 r71 w72 => chkS [(r65, w66), (r61, w62), (r58, [])] r71 w72 (S63_186 h70 x69 x67 x22 x6 ih x18 x30 x0 x39 x14 x68 x10))
noncomputable def S63_188 (h46 : Hp) (x6 : IV) (ih : Handler) (x22 : IV) (x18 : IV) (x30 : IV) (x0 : IV) (x39 : IV) (x14 : IV) (x10 : IV) : Option (IV × Hp) :=
  loadA 3 x6 h46 fun x57 r58 => chkS [] r58 [] (isoS [] false false ih 48 [.fv (.int .i64 11), .nils] h46 fun x59 h60 r61 w62 => chkS [(r58, [])] r61 w62 (isoS [] false false ih 85 [x57, x59] h60 fun x63 h64 r65 w66 => S63_187 r65 w66 x63 h64 r61 w62 r58 x22 x6 ih x18 x30 x0 x39 x14 x10))
noncomputable def S63_189 (ih : Handler) (h40 : Hp) (x39 : IV) (x43 : IV) (x22 : IV) (x6 : IV) (x18 : IV) (x30 : IV) (x0 : IV) (x14 : IV) (x10 : IV) : Option (IV × Hp) :=
  isoS [] false false ih 84 [x39, x43] h40 fun x45 h46 _ _ => extS 0 x45 fun _ => extS 1 x45 fun x50 => neS EE 39 x50 (.fv (.int .i64 0)) fun x51 => condS x51 (S63_172 h46 x22 x50) (S63_188 h46 x6 ih x22 x18 x30 x0 x39 x14 x10)
noncomputable def S63_190 (h27 : Hp) (x26 : IV) (ih : Handler) (x0 : IV) (x6 : IV) (x22 : IV) (x18 : IV) (x14 : IV) (x10 : IV) : Option (IV × Hp) :=
  newS 66061313 (.row [.fv (.int .i64 0), .fv (.int .i64 0), .nils] false) (.ptr (.own 66061313) 0) h27 fun x30 h31 _ _ => storeA 3 x30 x26 h31 fun h34 _ _ => loadA 3 x30 h34 fun x37 _ => isoS [] false false ih 81 [x0, .fv (.int .i64 1), x37] h34 fun x39 h40 _ _ => loadA 3 x6 h40 fun x43 _ => S63_189 ih h40 x39 x43 x22 x6 x18 x30 x0 x14 x10
noncomputable def S63 (ih : Handler) (n : Nat) (x0 : IV) (x1 : IV) (x2 : IV) (x3 : IV) (x4 : IV) (h5 : Hp) : Option (IV × Hp) :=
  boxS 66060288 x1 h5 fun x6 h7 _ _ => boxS 66060289 x2 h7 fun x10 h11 _ _ => boxS 66060290 x3 h11 fun x14 h15 _ _ => boxS 66060291 x4 h15 fun x18 h19 _ _ => newS 66060292 (.row [.fv (.int .i64 0), .fv (.int .i64 0), .nils] false) (.ptr (.own 66060292) 0) h19 fun x22 h23 _ _ => isoS [] false false ih 48 [.fv (.int .i64 10), .nils] h23 fun x26 h27 _ _ => S63_190 h27 x26 ih x0 x6 x22 x18 x14 x10
theorem S63_ok (ih : Handler) (n : Nat) (x0 : IV) (x1 : IV) (x2 : IV) (x3 : IV) (x4 : IV) (h5 : Hp) : funS EE ih ft.get n 63 [x0, x1, x2, x3, x4] h5 = S63 ih n x0 x1 x2 x3 x4 h5 := by kernel_rfl
/-! Function 64. -/
noncomputable def S64_151 (h58 : Hp) (x7 : IV) (x54 : IV) : Option (IV × Hp) :=
  cellS true 3 x7 h58 fun x61 => outS1 [x61, x54] h58
noncomputable def S64_152 (h64 : Hp) (x7 : IV) : Option (IV × Hp) :=
  cellS true 3 x7 h64 fun x67 => outS1 [x67, .fv (.int .i64 0)] h64
noncomputable def S64_153 (x54 : IV) (h55 : Hp) (x7 : IV) (x46 : IV) : Option (IV × Hp) :=
  neS EE 39 x54 (.fv (.int .i64 0)) fun x56 => condS x56 (bldS [.fv (.int .i64 0), .fv (.int .i64 0), .nils] [] fun x57 => storeA 3 x7 x57 h55 fun h58 _ _ => S64_151 h58 x7 x54) (loadA 3 x46 h55 fun x62 _ => storeA 3 x7 x62 h55 fun h64 _ _ => S64_152 h64 x7)
noncomputable def S64_154 (h50 : Hp) (x46 : IV) (x72 : IV) (j1_53 : IV → Hp → Option (IV × Hp)) : Option (IV × Hp) :=
  storeA 3 x46 x72 h50 fun h74 _ _ => j1_53 (.fv (.int .i64 0)) h74
noncomputable def S64_155 (ih : Handler) (h50 : Hp) (x0 : IV) (x80 : IV) (x83 : IV) (r79 : List Ref) (x46 : IV) (x78 : IV) (j1_53 : IV → Hp → Option (IV × Hp)) : Option (IV × Hp) :=
  isoS [] false false ih 54 [x0, .fv (.int .i64 1), x80, x83] h50 fun x85 h86 r87 w88 => chkS [(r79, [])] r87 w88 (storeA 3 x46 x78 h86 fun h89 r90 w91 => chkS [] r90 w91 (j1_53 x85 h89))
noncomputable def S64_156 (h50 : Hp) (x23 : IV) (r79 : List Ref) (x3 : IV) (ih : Handler) (x0 : IV) (x46 : IV) (x78 : IV) (j1_53 : IV → Hp → Option (IV × Hp)) : Option (IV × Hp) :=
  loadA 3 x23 h50 fun x80 r81 => chkS [(r79, [])] r81 [] (faddrS 2 x3 fun x82 => load1 x82 h50 fun x83 r84 => chkS [(r81, []), (r79, [])] r84 [] (S64_155 ih h50 x0 x80 x83 r79 x46 x78 j1_53))
noncomputable def S64_157 (ih : Handler) (h94 : Hp) (x0 : IV) (x97 : IV) (x100 : IV) (r96 : List Ref) (x46 : IV) (x95 : IV) (j1_53 : IV → Hp → Option (IV × Hp)) : Option (IV × Hp) :=
  isoS [] false false ih 54 [x0, .fv (.int .i64 1), x97, x100] h94 fun x102 h103 r104 w105 => chkS [(r96, [])] r104 w105 (storeA 3 x46 x95 h103 fun h106 r107 w108 => chkS [] r107 w108 (j1_53 x102 h106))
noncomputable def S64_158 (h94 : Hp) (x27 : IV) (r96 : List Ref) (x3 : IV) (ih : Handler) (x0 : IV) (x46 : IV) (x95 : IV) (j1_53 : IV → Hp → Option (IV × Hp)) : Option (IV × Hp) :=
  loadA 3 x27 h94 fun x97 r98 => chkS [(r96, [])] r98 [] (faddrS 2 x3 fun x99 => load1 x99 h94 fun x100 r101 => chkS [(r98, []), (r96, [])] r101 [] (S64_157 ih h94 x0 x97 x100 r96 x46 x95 j1_53))
noncomputable def S64_159 (h94 : Hp) (x27 : IV) (x3 : IV) (ih : Handler) (x0 : IV) (j1_53 : IV → Hp → Option (IV × Hp)) : Option (IV × Hp) :=
  loadA 3 x27 h94 fun x110 _ => faddrS 2 x3 fun x112 => load1 x112 h94 fun x113 _ => isoS [] false false ih 54 [x0, .fv (.int .i64 1), x110, x113] h94 fun x115 h116 _ _ => j1_53 x115 h116
noncomputable def S64_160 (h127 : Hp) (x46 : IV) (x130 : IV) (ih : Handler) (j1_53 : IV → Hp → Option (IV × Hp)) (x131 : IV) : Option (IV × Hp) :=
  storeA 3 x46 x130 h127 fun h132 _ _ => loadA 3 x46 h132 fun x135 _ => genS (pcBuildSlice EE 23 1 [(0, x135)]) 67125249 h132 fun x137 h138 _ _ => isoS [] false false ih 48 [.fv (.int .i64 18), x137] h138 fun x141 h142 _ _ => storeA 3 x46 x141 h142 fun h145 _ _ => j1_53 x131 h145
noncomputable def S64_161 (x121 : IV) (h94 : Hp) (ih : Handler) (x0 : IV) (x46 : IV) (j1_53 : IV → Hp → Option (IV × Hp)) : Option (IV × Hp) :=
  ixS 3 x121 (.fv (.int .i64 0)) fun x123 => loadA 3 x123 h94 fun x124 _ => isoS [] false false ih 29 [x0, .fv (.int .i64 0), x124] h94 fun x126 h127 _ _ => extS 0 x126 fun x130 => extS 1 x126 fun x131 => S64_160 h127 x46 x130 ih j1_53 x131
noncomputable def S64_162 (x69 : IV) (x3 : IV) (h94 : Hp) (ih : Handler) (x0 : IV) (x46 : IV) (j1_53 : IV → Hp → Option (IV × Hp)) : Option (IV × Hp) :=
  eqS EE 3 x69 (.fv (.int .i64 19)) fun x119 => condS x119 (faddrS 2 x3 fun x120 => load1 x120 h94 fun x121 _ => S64_161 x121 h94 ih x0 x46 j1_53) (j1_53 (.fv (.int .i64 0)) h94)
noncomputable def S64_163 (x93 : IV) (h94 : Hp) (x27 : IV) (x3 : IV) (ih : Handler) (x0 : IV) (x46 : IV) (j1_53 : IV → Hp → Option (IV × Hp)) (x69 : IV) : Option (IV × Hp) :=
  condS x93 (loadA 3 x27 h94 fun x95 r96 => chkS [] r96 [] (S64_158 h94 x27 r96 x3 ih x0 x46 x95 j1_53)) (eqS EE 3 x69 (.fv (.int .i64 18)) fun x109 => condS x109 (S64_159 h94 x27 x3 ih x0 j1_53) (S64_162 x69 x3 h94 ih x0 x46 j1_53))
noncomputable def S64_164 (x69 : IV) (j1_92 : IV → Hp → Option (IV × Hp)) (h50 : Hp) : Option (IV × Hp) :=
  eqS EE 3 x69 (.fv (.int .i64 17)) fun x150 => j1_92 x150 h50
noncomputable def S64_165 (x148 : IV) (j1_92 : IV → Hp → Option (IV × Hp)) (h50 : Hp) (x69 : IV) : Option (IV × Hp) :=
  condS x148 (j1_92 x148 h50) (eqS EE 3 x69 (.fv (.int .i64 16)) fun x149 => condS x149 (j1_92 x149 h50) (S64_164 x69 j1_92 h50))
noncomputable def S64_166 (x77 : IV) (h50 : Hp) (x23 : IV) (x3 : IV) (ih : Handler) (x0 : IV) (x46 : IV) (j1_53 : IV → Hp → Option (IV × Hp)) (x27 : IV) (x69 : IV) : Option (IV × Hp) :=
  condS x77 (loadA 3 x23 h50 fun x78 r79 => chkS [] r79 [] (S64_156 h50 x23 r79 x3 ih x0 x46 x78 j1_53)) ((fun (j1_92 : IV → Hp → Option (IV × Hp)) => eqS EE 3 x69 (.fv (.int .i64 15)) fun x148 => S64_165 x148 j1_92 h50 x69) fun x93 h94 => S64_163 x93 h94 x27 x3 ih x0 x46 j1_53 x69)
noncomputable def S64_167 (h50 : Hp) (x68 : IV) (x23 : IV) (x46 : IV) (j1_53 : IV → Hp → Option (IV × Hp)) (x3 : IV) (ih : Handler) (x0 : IV) (x27 : IV) : Option (IV × Hp) :=
  load1 x68 h50 fun x69 _ => eqS EE 3 x69 (.fv (.int .i64 11)) fun x71 => condS x71 (loadA 3 x23 h50 fun x72 _ => S64_154 h50 x46 x72 j1_53) (eqS EE 3 x69 (.fv (.int .i64 12)) fun x77 => S64_166 x77 h50 x23 x3 ih x0 x46 j1_53 x27 x69)
noncomputable def S64_168 (h41 : Hp) (x31 : IV) (x7 : IV) (x3 : IV) (x23 : IV) (ih : Handler) (x0 : IV) (x27 : IV) : Option (IV × Hp) :=
  loadA 3 x31 h41 fun x44 _ => newS 67110913 (.row [.fv (.int .i64 0), .fv (.int .i64 0), .nils] false) (.ptr (.own 67110913) 0) h41 fun x46 h47 _ _ => storeA 3 x46 x44 h47 fun h50 _ _ => (fun (j1_53 : IV → Hp → Option (IV × Hp)) => faddrS 0 x3 fun x68 => S64_167 h50 x68 x23 x46 j1_53 x3 ih x0 x27) fun x54 h55 => S64_153 x54 h55 x7 x46
noncomputable def S64_169 (h24 : Hp) (x23 : IV) (x11 : IV) (x15 : IV) (x19 : IV) (x7 : IV) (x3 : IV) (ih : Handler) (x0 : IV) : Option (IV × Hp) :=
  newS 67109892 (.row [.fv (.int .i64 0), .fv (.int .i64 0), .nils] false) (.ptr (.own 67109892) 0) h24 fun x27 h28 _ _ => newS 67109893 (.row [.fv (.int .i64 0), .fv (.int .i64 0), .nils] false) (.ptr (.own 67109893) 0) h28 fun x31 h32 _ _ => storeA 3 x23 x11 h32 fun h35 _ _ => storeA 3 x27 x15 h35 fun h38 _ _ => storeA 3 x31 x19 h38 fun h41 _ _ => S64_168 h41 x31 x7 x3 x23 ih x0 x27
noncomputable def S64 (ih : Handler) (n : Nat) (x0 : IV) (x1 : IV) (h2 : Hp) : Option (IV × Hp) :=
  boxS 67108864 x1 h2 fun x3 h4 _ _ => newS 67108865 (.row [.fv (.int .i64 0), .fv (.int .i64 0), .nils] false) (.ptr (.own 67108865) 0) h4 fun x7 h8 _ _ => isoS [] false false ih 48 [.fv (.int .i64 10), .nils] h8 fun x11 h12 _ _ => isoS [] false false ih 48 [.fv (.int .i64 14), .nils] h12 fun x15 h16 _ _ => isoS [] false false ih 48 [.fv (.int .i64 2), .nils] h16 fun x19 h20 _ _ => newS 67109891 (.row [.fv (.int .i64 0), .fv (.int .i64 0), .nils] false) (.ptr (.own 67109891) 0) h20 fun x23 h24 _ _ => S64_169 h24 x23 x11 x15 x19 x7 x3 ih x0
theorem S64_ok (ih : Handler) (n : Nat) (x0 : IV) (x1 : IV) (h2 : Hp) : funS EE ih ft.get n 64 [x0, x1] h2 = S64 ih n x0 x1 h2 := by kernel_rfl
/-! Function 65. -/
noncomputable def S65_42 (h22 : Hp) (x6 : IV) (x26 : IV) : Option (IV × Hp) :=
  storeA 4 x6 x26 h22 fun h27 _ _ => cellS true 4 x6 h27 fun x30 => outS1 [x30] h27
noncomputable def S65_43 (ih : Handler) (h22 : Hp) (x31 : IV) (x6 : IV) : Option (IV × Hp) :=
  isoS [] false false ih 86 [x31] h22 fun x33 h34 _ _ => bldS [.fv (.int .i64 0), .fv (.int .i64 0), .nils, .fv (.int .i64 0)] [(0, 3, x33)] fun x37 => storeA 4 x6 x37 h34 fun h38 _ _ => cellS true 4 x6 h38 fun x41 => outS1 [x41] h38
noncomputable def S65_44 (h13 : Hp) (x16 : IV) (x17 : IV) (x6 : IV) (ih : Handler) : Option (IV × Hp) :=
  newS 68158469 (.row [.fv (.int .i64 0), .fv (.int .i64 0), .nils] false) (.ptr (.own 68158469) 0) h13 fun x18 h19 _ _ => storeA 3 x18 x16 h19 fun h22 _ _ => neS EE 39 x17 (.fv (.int .i64 0)) fun x25 => condS x25 (bldS [.fv (.int .i64 0), .fv (.int .i64 0), .nils, .fv (.int .i64 0)] [(3, 1, x17)] fun x26 => S65_42 h22 x6 x26) (loadA 3 x18 h22 fun x31 _ => S65_43 ih h22 x31 x6)
noncomputable def S65 (ih : Handler) (n : Nat) (x0 : IV) (h1 : Hp) : Option (IV × Hp) :=
  boxS 68157440 x0 h1 fun x2 h3 _ _ => newS 68157441 (.row [.fv (.int .i64 0), .fv (.int .i64 0), .nils, .fv (.int .i64 0)] false) (.ptr (.own 68157441) 0) h3 fun x6 h7 _ _ => loadA 3 x2 h7 fun x10 _ => isoS [] false false ih 36 [x10] h7 fun x12 h13 _ _ => extS 0 x12 fun x16 => extS 1 x12 fun x17 => S65_44 h13 x16 x17 x6 ih
theorem S65_ok (ih : Handler) (n : Nat) (x0 : IV) (h1 : Hp) : funS EE ih ft.get n 65 [x0] h1 = S65 ih n x0 h1 := by kernel_rfl
/-! Function 66. -/
noncomputable def S66_21 (ih : Handler) (h8 : Hp) (x12 : IV) (x15 : IV) : Option (IV × Hp) :=
  isoS [] false false ih 87 [x12, x15] h8 fun x17 h18 _ _ => outS1 [x17] h18
noncomputable def S66 (ih : Handler) (n : Nat) (x0 : IV) (x1 : IV) (h2 : Hp) : Option (IV × Hp) :=
  boxS 69206016 x0 h2 fun x3 h4 _ _ => boxS 69206017 x1 h4 fun x7 h8 _ _ => faddrS 0 x3 fun x11 => loadA 3 x11 h8 fun x12 _ => faddrS 0 x7 fun x14 => loadA 3 x14 h8 fun x15 _ => S66_21 ih h8 x12 x15
theorem S66_ok (ih : Handler) (n : Nat) (x0 : IV) (x1 : IV) (h2 : Hp) : funS EE ih ft.get n 66 [x0, x1] h2 = S66 ih n x0 x1 h2 := by kernel_rfl
/-! Function 67. -/
noncomputable def S67_17 (x0 : IV) (h7 : Hp) : Option (IV × Hp) :=
  eqS EE 3 x0 (.fv (.int .i64 13)) fun x9 => condS x9 (outS1 [.fv (.int .i64 4)] h7) (outS1 [.fv (.int .i64 (-1))] h7)
noncomputable def S67_18 (x6 : IV) (h7 : Hp) (x0 : IV) : Option (IV × Hp) :=
  condS x6 (outS1 [.fv (.int .i64 2)] h7) (eqS EE 3 x0 (.fv (.int .i64 7)) fun x8 => condS x8 (outS1 [.fv (.int .i64 3)] h7) (S67_17 x0 h7))
noncomputable def S67_19 (x10 : IV) (j1_5 : IV → Hp → Option (IV × Hp)) (h4 : Hp) (x0 : IV) : Option (IV × Hp) :=
  condS x10 (j1_5 x10 h4) (eqS EE 3 x0 (.fv (.int .i64 5)) fun x11 => j1_5 x11 h4)
noncomputable def S67_20 (x3 : IV) (h4 : Hp) (x0 : IV) : Option (IV × Hp) :=
  condS x3 (outS1 [.fv (.int .i64 1)] h4) ((fun (j1_5 : IV → Hp → Option (IV × Hp)) => eqS EE 3 x0 (.fv (.int .i64 4)) fun x10 => S67_19 x10 j1_5 h4 x0) fun x6 h7 => S67_18 x6 h7 x0)
noncomputable def S67_21 (x0 : IV) (j1_2 : IV → Hp → Option (IV × Hp)) (h1 : Hp) : Option (IV × Hp) :=
  eqS EE 3 x0 (.fv (.int .i64 30)) fun x16 => j1_2 x16 h1
noncomputable def S67_22 (x0 : IV) (j1_2 : IV → Hp → Option (IV × Hp)) (h1 : Hp) : Option (IV × Hp) :=
  eqS EE 3 x0 (.fv (.int .i64 12)) fun x14 => condS x14 (j1_2 x14 h1) (eqS EE 3 x0 (.fv (.int .i64 19)) fun x15 => condS x15 (j1_2 x15 h1) (S67_21 x0 j1_2 h1))
noncomputable def S67 (ih : Handler) (n : Nat) (x0 : IV) (h1 : Hp) : Option (IV × Hp) :=
  (fun (j1_2 : IV → Hp → Option (IV × Hp)) => eqS EE 3 x0 (.fv (.int .i64 8)) fun x12 => condS x12 (j1_2 x12 h1) (eqS EE 3 x0 (.fv (.int .i64 9)) fun x13 => condS x13 (j1_2 x13 h1) (S67_22 x0 j1_2 h1))) fun x3 h4 => S67_20 x3 h4 x0
theorem S67_ok (ih : Handler) (n : Nat) (x0 : IV) (h1 : Hp) : funS EE ih ft.get n 67 [x0] h1 = S67 ih n x0 h1 := by kernel_rfl
/-! Function 68. -/
noncomputable def S68_30 (ih : Handler) (h23 : Hp) (x0 : IV) (x8 : IV) (x22 : IV) : Option (IV × Hp) :=
  isoS [true, false, false, false] false false ih 77 [x0, x8, .fv (.int .i64 1), x22] h23 fun x26 h27 _ _ => outS1 [x26] h27
noncomputable def S68_31 (x15 : IV) (h2 : Hp) (ih : Handler) (x0 : IV) (x8 : IV) : Option (IV × Hp) :=
  faddrS 2 x15 fun x16 => load1 x16 h2 fun x17 _ => ixS 1 x17 (.fv (.int .i64 1)) fun x19 => load1 x19 h2 fun x20 _ => genS (pcBuildSlice EE 94 1 [(0, x20)]) 71306248 h2 fun x22 h23 _ _ => S68_30 ih h23 x0 x8 x22
noncomputable def S68_32 (x10 : IV) (h2 : Hp) (x1 : IV) (ih : Handler) (x0 : IV) (x8 : IV) : Option (IV × Hp) :=
  faddrS 0 x10 fun x11 => load1 x11 h2 fun x12 _ => eqS EE 3 x12 (.fv (.int .i64 4)) fun x14 => condS x14 (nilS x1 fun x15 => S68_31 x15 h2 ih x0 x8) (outS1 [.fv .nilp] h2)
noncomputable def S68 (ih : Handler) (n : Nat) (x0 : IV) (x1 : IV) (h2 : Hp) : Option (IV × Hp) :=
  nilS x1 fun x3 => faddrS 2 x3 fun x4 => load1 x4 h2 fun x5 _ => ixS 1 x5 (.fv (.int .i64 0)) fun x7 => load1 x7 h2 fun x8 _ => nilS x8 fun x10 => S68_32 x10 h2 x1 ih x0 x8
theorem S68_ok (ih : Handler) (n : Nat) (x0 : IV) (x1 : IV) (h2 : Hp) : funS EE ih ft.get n 68 [x0, x1] h2 = S68 ih n x0 x1 h2 := by kernel_rfl
/-! Function 69. -/
noncomputable def S69_34 (x20 : IV) (h2 : Hp) : Option (IV × Hp) :=
  faddrS 2 x20 fun x21 => load1 x21 h2 fun x22 _ => ixS 1 x22 (.fv (.int .i64 1)) fun x24 => load1 x24 h2 fun x25 _ => outS1 [x25] h2
noncomputable def S69_35 (x27 : IV) (h2 : Hp) : Option (IV × Hp) :=
  faddrS 2 x27 fun x28 => load1 x28 h2 fun x29 _ => ixS 1 x29 (.fv (.int .i64 2)) fun x31 => load1 x31 h2 fun x32 _ => outS1 [x32] h2
noncomputable def S69_36 (x15 : IV) (h2 : Hp) (x8 : IV) : Option (IV × Hp) :=
  faddrS 0 x15 fun x16 => load1 x16 h2 fun x17 _ => eqS EE 3 x17 (.fv (.int .i64 8)) fun x19 => condS x19 (nilS x8 fun x20 => S69_34 x20 h2) (nilS x8 fun x27 => S69_35 x27 h2)
noncomputable def S69_37 (x10 : IV) (h2 : Hp) (x1 : IV) (x8 : IV) : Option (IV × Hp) :=
  faddrS 0 x10 fun x11 => load1 x11 h2 fun x12 _ => neS EE 3 x12 (.fv (.int .i64 7)) fun x14 => condS x14 (outS1 [.fv .nilp] h2) (nilS x1 fun x15 => S69_36 x15 h2 x8)
noncomputable def S69 (ih : Handler) (n : Nat) (x0 : IV) (x1 : IV) (h2 : Hp) : Option (IV × Hp) :=
  nilS x1 fun x3 => faddrS 2 x3 fun x4 => load1 x4 h2 fun x5 _ => ixS 1 x5 (.fv (.int .i64 0)) fun x7 => load1 x7 h2 fun x8 _ => nilS x8 fun x10 => S69_37 x10 h2 x1 x8
theorem S69_ok (ih : Handler) (n : Nat) (x0 : IV) (x1 : IV) (h2 : Hp) : funS EE ih ft.get n 69 [x0, x1] h2 = S69 ih n x0 x1 h2 := by kernel_rfl
/-! Function 70. -/
noncomputable def S70_74 (x15 : IV) (h2 : Hp) : Option (IV × Hp) :=
  faddrS 2 x15 fun x16 => load1 x16 h2 fun x17 _ => ixS 1 x17 (.fv (.int .i64 1)) fun x19 => load1 x19 h2 fun x20 _ => outS1 [x20] h2
noncomputable def S70_75 (h63 : Hp) (x60 : IV) (x62 : IV) (ih : Handler) (x0 : IV) (x1 : IV) : Option (IV × Hp) :=
  genS (pcBuildSlice EE 94 2 [(0, x60), (1, x62)]) 73408522 h63 fun x66 h67 r68 w69 => chkS [] r68 w69 (isoS [true, false, false, false] false false ih 77 [x0, x1, .fv (.int .i64 2), x66] h67 fun x70 h71 r72 w73 => chkS [] r72 w73 (outS1 [x70] h71))
noncomputable def S70_76 (x57 : IV) (h52 : Hp) (ih : Handler) (x0 : IV) (x26 : IV) (r58 : List Ref) (x1 : IV) : Option (IV × Hp) :=
  ixS 1 x57 (.fv (.int .i64 0)) fun x59 => load1 x59 h52 fun x60 r61 => chkS [] r61 [] (isoS [true, false] false false ih 76 [x0, x26] h52 fun x62 h63 r64 w65 => chkS [(r61, []), (r58, [])] r64 w65 (S70_75 h63 x60 x62 ih x0 x1))
noncomputable def S70_77 (r53 : List Ref) (w54 : List Ref) (x8 : IV) (h52 : Hp) (ih : Handler) (x0 : IV) (x26 : IV) (x1 : IV) : Option (IV × Hp) :=
  chkS [] r53 w54 (nilS x8 fun x55 => faddrS 2 x55 fun x56 => load1 x56 h52 fun x57 r58 => chkS [] r58 [] (S70_76 x57 h52 ih x0 x26 r58 x1))
noncomputable def S70_78 (r46 : List Ref) (r39 : List Ref) (r36 : List Ref) (h30 : Hp) (x38 : IV) (x45 : IV) (x26 : IV) (x8 : IV) (ih : Handler) (x0 : IV) (x1 : IV) : Option (IV × Hp) :=
  chkS [(r39, []), (r36, [])] r46 [] (genS (pcBuildSlice EE 94 4 [(0, .fv .nilp), (1, x38), (2, .fv .nilp), (3, x45)]) 73407500 h30 fun x47 h48 r49 w50 => chkS [] r49 w50 (faddrS 2 x26 fun x51 => store1 x51 x47 h48 fun h52 r53 w54 => S70_77 r53 w54 x8 h52 ih x0 x26 x1))
noncomputable def S70_79 (x40 : IV) (h30 : Hp) (r39 : List Ref) (r36 : List Ref) (x38 : IV) (x26 : IV) (x8 : IV) (ih : Handler) (x0 : IV) (x1 : IV) : Option (IV × Hp) :=
  faddrS 2 x40 fun x41 => load1 x41 h30 fun x42 r43 => chkS [(r39, []), (r36, [])] r43 [] (ixS 1 x42 (.fv (.int .i64 0)) fun x44 => load1 x44 h30 fun x45 r46 => S70_78 r46 r39 r36 h30 x38 x45 x26 x8 ih x0 x1)
noncomputable def S70_80 (r36 : List Ref) (x35 : IV) (h30 : Hp) (x8 : IV) (x26 : IV) (ih : Handler) (x0 : IV) (x1 : IV) : Option (IV × Hp) :=
  chkS [] r36 [] (ixS 1 x35 (.fv (.int .i64 1)) fun x37 => load1 x37 h30 fun x38 r39 => chkS [] r39 [] (nilS x8 fun x40 => S70_79 x40 h30 r39 r36 x38 x26 x8 ih x0 x1))
noncomputable def S70_81 (h2 : Hp) (x24 : IV) (x1 : IV) (x8 : IV) (ih : Handler) (x0 : IV) : Option (IV × Hp) :=
  newS 73406467 (.row [.fv (.int .i64 0), .fv (.int .i64 0), .nils, .fv (.int .i64 0), .fv (.int .i64 0), .nils, .fv (.nilp)] false) (.ptr (.own 73406467) 0) h2 fun x26 h27 _ _ => storeA 7 x26 x24 h27 fun h30 _ _ => nilS x1 fun x33 => faddrS 2 x33 fun x34 => load1 x34 h30 fun x35 r36 => S70_80 r36 x35 h30 x8 x26 ih x0 x1
noncomputable def S70_82 (x22 : IV) (x1 : IV) (h2 : Hp) (x8 : IV) (ih : Handler) (x0 : IV) : Option (IV × Hp) :=
  condS x22 (nilS x1 fun x23 => loadA 7 x23 h2 fun x24 _ => S70_81 h2 x24 x1 x8 ih x0) (outS1 [.fv .nilp] h2)
noncomputable def S70_83 (x10 : IV) (h2 : Hp) (x1 : IV) (x8 : IV) (ih : Handler) (x0 : IV) : Option (IV × Hp) :=
  faddrS 0 x10 fun x11 => load1 x11 h2 fun x12 _ => eqS EE 3 x12 (.fv (.int .i64 11)) fun x14 => condS x14 (nilS x1 fun x15 => S70_74 x15 h2) (eqS EE 3 x12 (.fv (.int .i64 12)) fun x22 => S70_82 x22 x1 h2 x8 ih x0)
noncomputable def S70 (ih : Handler) (n : Nat) (x0 : IV) (x1 : IV) (h2 : Hp) : Option (IV × Hp) :=
  nilS x1 fun x3 => faddrS 2 x3 fun x4 => load1 x4 h2 fun x5 _ => ixS 1 x5 (.fv (.int .i64 3)) fun x7 => load1 x7 h2 fun x8 _ => nilS x8 fun x10 => S70_83 x10 h2 x1 x8 ih x0
theorem S70_ok (ih : Handler) (n : Nat) (x0 : IV) (x1 : IV) (h2 : Hp) : funS EE ih ft.get n 70 [x0, x1] h2 = S70 ih n x0 x1 h2 := by kernel_rfl
/-! Function 71. -/
noncomputable def S71 (ih : Handler) (n : Nat) (x0 : IV) (x1 : IV) (h2 : Hp) : Option (IV × Hp) :=
  isoS [] false false ih 88 [x1, .fv (.int .i64 19)] h2 fun x3 h4 _ _ => outS1 [x3] h4
theorem S71_ok (ih : Handler) (n : Nat) (x0 : IV) (x1 : IV) (h2 : Hp) : funS EE ih ft.get n 71 [x0, x1] h2 = S71 ih n x0 x1 h2 := by kernel_rfl
/-! Function 72. -/
noncomputable def S72 (ih : Handler) (n : Nat) (x0 : IV) (x1 : IV) (h2 : Hp) : Option (IV × Hp) :=
  isoS [] false false ih 88 [x1, .fv (.int .i64 30)] h2 fun x3 h4 _ _ => outS1 [x3] h4
theorem S72_ok (ih : Handler) (n : Nat) (x0 : IV) (x1 : IV) (h2 : Hp) : funS EE ih ft.get n 72 [x0, x1] h2 = S72 ih n x0 x1 h2 := by kernel_rfl
/-! Function 73. -/
noncomputable def S73_53 (h44 : Hp) (x49 : IV) : Option (IV × Hp) :=
  store1 x49 (.fv (.int .i64 17)) h44 fun h50 _ _ => outS1 [] h50
noncomputable def S73_54 (x16 : IV) (x43 : IV) (x0 : IV) (h44 : Hp) : Option (IV × Hp) :=
  pickS x16 x43 (.fv (.bool false)) fun x47 => condS x47 (nilS x0 fun x48 => faddrS 3 x48 fun x49 => S73_53 h44 x49) (outS1 [] h44)
noncomputable def S73_55 (h9 : Hp) (x16 : IV) (x0 : IV) : Option (IV × Hp) :=
  guardS x16 true h9 (fun k17 => k17 x0 h9 [] []) fun x18 h19 _ _ => guardS x16 true h19 (fun k22 => nilS x18 fun x23 => k22 x23 h19 [] []) fun x24 h25 _ _ => guardS x16 true h25 (fun k28 => faddrS 3 x24 fun x29 => k28 x29 h25 [] []) fun x30 h31 _ _ => guardS x16 true h31 (fun k34 => load1 x30 h31 fun x35 r36 => k34 x35 h31 r36 []) fun x37 h38 _ _ => guardS x16 true h38 (fun k41 => eqS EE 39 x37 (.fv (.int .i64 0)) fun x42 => k41 x42 h38 [] []) fun x43 h44 _ _ => S73_54 x16 x43 x0 h44
noncomputable def S73_56 (h1 : Hp) (x8 : IV) (x6 : IV) (x0 : IV) : Option (IV × Hp) :=
  store1 x8 x6 h1 fun h9 _ _ => nilS x0 fun x12 => faddrS 1 x12 fun x13 => load1 x13 h9 fun x14 _ => ltS EE 3 x14 (.fv (.int .i64 0)) fun x16 => S73_55 h9 x16 x0
noncomputable def S73 (ih : Handler) (n : Nat) (x0 : IV) (h1 : Hp) : Option (IV × Hp) :=
  nilS x0 fun x2 => faddrS 1 x2 fun x3 => load1 x3 h1 fun x4 _ => subS EE 3 x4 (.fv (.int .i64 1)) fun x6 => nilS x0 fun x7 => faddrS 1 x7 fun x8 => S73_56 h1 x8 x6 x0
theorem S73_ok (ih : Handler) (n : Nat) (x0 : IV) (h1 : Hp) : funS EE ih ft.get n 73 [x0] h1 = S73 ih n x0 h1 := by kernel_rfl
/-! Function 74. -/
noncomputable def S74_27 (h5 : Hp) (x11 : IV) : Option (IV × Hp) :=
  load1 x11 h5 fun x12 _ => outS1 [x12] h5
noncomputable def S74_28 (x15 : IV) (h5 : Hp) (q3 : List IV → Hp → Option (IV × Hp)) (x14 : IV) : Option (IV × Hp) :=
  faddrS 1 x15 fun x16 => load1 x16 h5 fun x17 _ => q3 [x17, x14] h5
noncomputable def S74_29 (x9 : IV) (x6 : IV) (h5 : Hp) (x7 : IV) (q3 : List IV → Hp → Option (IV × Hp)) : Option (IV × Hp) :=
  condS x9 (nilS x6 fun x10 => faddrS 0 x10 fun x11 => S74_27 h5 x11) (subS EE 3 x7 (.fv (.int .i64 1)) fun x14 => nilS x6 fun x15 => S74_28 x15 h5 q3 x14)
noncomputable def S74_30 (x19 : IV) (h5 : Hp) : Option (IV × Hp) :=
  bldS [.fv (.int .i64 0), .fv (.int .i64 0), .nils, .fv (.int .i64 0), .fv (.int .i64 0), .nils, .fv (.nilp)] [(0, 1, .fv (.int .i64 1)), (1, 1, x19)] fun x20 => boxS 77600771 x20 h5 fun x21 h22 _ _ => outS1 [x21] h22
noncomputable def S74_31 (l4 : List IV) (h5 : Hp) (q3 : List IV → Hp → Option (IV × Hp)) : Option (IV × Hp) :=
  uncS l4 fun x6 l25 => uncS l25 fun x7 _ => neS EE 92 x6 (.fv .nilp) fun x8 => condS x8 (eqS EE 3 x7 (.fv (.int .i64 0)) fun x9 => S74_29 x9 x6 h5 x7 q3) (subS EE 3 (.fv (.int .i64 (-1))) x7 fun x19 => S74_30 x19 h5)
noncomputable def S74 (ih : Handler) (n : Nat) (x0 : IV) (x1 : IV) (h2 : Hp) : Option (IV × Hp) :=
  loopS n (fun q3 l4 h5 => S74_31 l4 h5 q3) [x0, x1] h2
theorem S74_ok (ih : Handler) (n : Nat) (x0 : IV) (x1 : IV) (h2 : Hp) : funS EE ih ft.get n 74 [x0, x1] h2 = S74 ih n x0 x1 h2 := by kernel_rfl
/-! Function 75. -/
noncomputable def S75 (ih : Handler) (n : Nat) (x0 : IV) (x1 : IV) (h2 : Hp) : Option (IV × Hp) :=
  dynS EE ih (.fv (.func (.func 89) [] [])) [x0, x1] h2 fun x3 h4 _ _ => outS1 [x3] h4
theorem S75_ok (ih : Handler) (n : Nat) (x0 : IV) (x1 : IV) (h2 : Hp) : funS EE ih ft.get n 75 [x0, x1] h2 = S75 ih n x0 x1 h2 := by kernel_rfl
/-! Function 76. -/
noncomputable def S76_126 (h113 : Hp) (x122 : IV) (j0_104 : Hp → Option (IV × Hp)) : Option (IV × Hp) :=
  store1 x122 (.fv (.int .i64 17)) h113 fun h123 _ _ => j0_104 h123
noncomputable def S76_127 (x120 : IV) (x0 : IV) (h113 : Hp) (j0_104 : Hp → Option (IV × Hp)) : Option (IV × Hp) :=
  condS x120 (nilS x0 fun x121 => faddrS 3 x121 fun x122 => S76_126 h113 x122 j0_104) (j0_104 h113)
noncomputable def S76_128 (h100 : Hp) (x112 : IV) (x110 : IV) (x0 : IV) (j0_104 : Hp → Option (IV × Hp)) : Option (IV × Hp) :=
  store1 x112 x110 h100 fun h113 _ _ => nilS x0 fun x116 => faddrS 0 x116 fun x117 => load1 x117 h113 fun x118 _ => ltS EE 3 x118 (.fv (.int .i64 0)) fun x120 => S76_127 x120 x0 h113 j0_104
noncomputable def S76_129 (x106 : IV) (h100 : Hp) (x0 : IV) (j0_104 : Hp → Option (IV × Hp)) : Option (IV × Hp) :=
  faddrS 0 x106 fun x107 => load1 x107 h100 fun x108 _ => subS EE 3 x108 (.fv (.int .i64 1)) fun x110 => nilS x0 fun x111 => faddrS 0 x111 fun x112 => S76_128 h100 x112 x110 x0 j0_104
noncomputable def S76_130 (x103 : IV) (h100 : Hp) (x1 : IV) (x68 : IV) (x0 : IV) : Option (IV × Hp) :=
  condS x103 (outS1 [x1] h100) ((fun (j0_104 : Hp → Option (IV × Hp)) => nilS x0 fun x106 => S76_129 x106 h100 x0 j0_104) fun h105 => outS1 [x68] h105)
noncomputable def S76_131 (h75 : Hp) (x72 : IV) (x74 : IV) (x1 : IV) (x68 : IV) (x0 : IV) : Option (IV × Hp) :=
  guardS x72 false h75 (fun k78 => nilS x74 fun x79 => k78 x79 h75 [] []) fun x80 h81 _ _ => guardS x72 false h81 (fun k84 => faddrS 3 x80 fun x85 => k84 x85 h81 [] []) fun x86 h87 _ _ => guardS x72 false h87 (fun k90 => load1 x86 h87 fun x91 r92 => k90 x91 h87 r92 []) fun x93 h94 _ _ => guardS x72 false h94 (fun k97 => neS EE 39 x93 (.fv (.int .i64 0)) fun x98 => k97 x98 h94 [] []) fun x99 h100 _ _ => pickS x72 (.fv (.bool true)) x99 fun x103 => S76_130 x103 h100 x1 x68 x0
noncomputable def S76_132 (x17 : IV) (h57 : Hp) (ih : Handler) (x1 : IV) (x0 : IV) : Option (IV × Hp) :=
  faddrS 0 x17 fun x65 => load1 x65 h57 fun x66 _ => dynS EE ih x66 [x1] h57 fun x68 h69 _ _ => eqS EE 68 x68 (.fv .nilp) fun x72 => guardS x72 false h69 (fun k73 => k73 x0 h69 [] []) fun x74 h75 _ _ => S76_131 h75 x72 x74 x1 x68 x0
noncomputable def S76_133 (x0 : IV) (h57 : Hp) (x1 : IV) (x17 : IV) (ih : Handler) : Option (IV × Hp) :=
  nilS x0 fun x60 => faddrS 3 x60 fun x61 => load1 x61 h57 fun x62 _ => neS EE 39 x62 (.fv (.int .i64 0)) fun x64 => condS x64 (outS1 [x1] h57) (S76_132 x17 h57 ih x1 x0)
noncomputable def S76_134 (h46 : Hp) (x24 : IV) (x45 : IV) (x1 : IV) (ih : Handler) (x0 : IV) (x17 : IV) : Option (IV × Hp) :=
  guardS x24 false h46 (fun k49 => neS EE 39 x45 (.fv (.int .i64 0)) fun x50 => k49 x50 h46 [] []) fun x51 h52 _ _ => pickS x24 (.fv (.bool true)) x51 fun x55 => condS x55 (outS1 [x1] h52) (isoS [true] false false ih 73 [x0] h52 fun _ h57 _ _ => S76_133 x0 h57 x1 x17 ih)
noncomputable def S76_135 (x16 : IV) (h21 : Hp) (x0 : IV) (x1 : IV) (ih : Handler) (x17 : IV) : Option (IV × Hp) :=
  optS (unR .not x16) fun x24 => guardS x24 false h21 (fun k25 => k25 x0 h21 [] []) fun x26 h27 _ _ => guardS x24 false h27 (fun k30 => nilS x26 fun x31 => k30 x31 h27 [] []) fun x32 h33 _ _ => guardS x24 false h33 (fun k36 => faddrS 3 x32 fun x37 => k36 x37 h33 [] []) fun x38 h39 _ _ => guardS x24 false h39 (fun k42 => load1 x38 h39 fun x43 r44 => k42 x43 h39 r44 []) fun x45 h46 _ _ => S76_134 h46 x24 x45 x1 ih x0 x17
noncomputable def S76_136 (x11 : IV) (h12 : Hp) (r13 : List Ref) (w14 : List Ref) (r10 : List Ref) (r6 : List Ref) (x15 : IV) (x0 : IV) (x1 : IV) (ih : Handler) : Option (IV × Hp) :=
  extS 1 x11 fun x16 => newS 79692812 (.row [.fv (.nilf)] false) (.ptr (.own 79692812) 0) h12 fun x17 h18 r19 w20 => chkS [(r13, w14), (r10, []), (r6, [])] r19 w20 (store1 x17 x15 h18 fun h21 r22 w23 => chkS [] r22 w23 (S76_135 x16 h21 x0 x1 ih x17))
noncomputable def S76_137 (h2 : Hp) (x8 : IV) (r6 : List Ref) (x5 : IV) (x0 : IV) (x1 : IV) (ih : Handler) : Option (IV × Hp) :=
  load1 x8 h2 fun x9 r10 => chkS [(r6, [])] r10 [] (genS (pcLookup EE 70 x5 x9 true) 79692808 h2 fun x11 h12 r13 w14 => chkS [] r13 w14 (extS 0 x11 fun x15 => S76_136 x11 h12 r13 w14 r10 r6 x15 x0 x1 ih))
noncomputable def S76 (ih : Handler) (n : Nat) (x0 : IV) (x1 : IV) (h2 : Hp) : Option (IV × Hp) :=
  nilS x0 fun x3 => faddrS 4 x3 fun x4 => load1 x4 h2 fun x5 r6 => chkS [] r6 [] (nilS x1 fun x7 => faddrS 0 x7 fun x8 => S76_137 h2 x8 r6 x5 x0 x1 ih)
theorem S76_ok (ih : Handler) (n : Nat) (x0 : IV) (x1 : IV) (h2 : Hp) : funS EE ih ft.get n 76 [x0, x1] h2 = S76 ih n x0 x1 h2 := by kernel_rfl
/-! Function 77. -/
noncomputable def S77_25 (x16 : IV) (x2 : IV) (h10 : Hp) (r11 : List Ref) (w12 : List Ref) (r8 : List Ref) (ih : Handler) (x0 : IV) (x9 : IV) : Option (IV × Hp) :=
  ixS 3 x16 x2 fun x18 => loadA 3 x18 h10 fun x19 r20 => chkS [(r11, w12), (r8, [])] r20 [] (isoS [true, false, false] false false ih 45 [x0, x9, x19] h10 fun x21 h22 r23 w24 => chkS [] r23 w24 (outS1 [x21] h22))
noncomputable def S77_26 (x1 : IV) (h10 : Hp) (r11 : List Ref) (w12 : List Ref) (r8 : List Ref) (x2 : IV) (ih : Handler) (x0 : IV) (x9 : IV) : Option (IV × Hp) :=
  nilS x1 fun x13 => faddrS 3 x13 fun x14 => faddrS 2 x14 fun x15 => load1 x15 h10 fun x16 r17 => chkS [(r11, w12), (r8, [])] r17 [] (S77_25 x16 x2 h10 r11 w12 r8 ih x0 x9)
noncomputable def S77 (ih : Handler) (n : Nat) (x0 : IV) (x1 : IV) (x2 : IV) (x3 : IV) (h4 : Hp) : Option (IV × Hp) :=
  nilS x1 fun x5 => faddrS 6 x5 fun x6 => load1 x6 h4 fun x7 r8 => chkS [] r8 [] (isoS [] false false ih 90 [x7, x3] h4 fun x9 h10 r11 w12 => chkS [] r11 w12 (S77_26 x1 h10 r11 w12 r8 x2 ih x0 x9))
theorem S77_ok (ih : Handler) (n : Nat) (x0 : IV) (x1 : IV) (x2 : IV) (x3 : IV) (h4 : Hp) : funS EE ih ft.get n 77 [x0, x1, x2, x3] h4 = S77 ih n x0 x1 x2 x3 h4 := by kernel_rfl
/-! Function 78. -/
noncomputable def S78_100 (h9 : Hp) (x4 : IV) (ih : Handler) (x2 : IV) (x1 : IV) (x8 : IV) : Option (IV × Hp) :=
  loadA 3 x4 h9 fun x16 _ => dynS EE ih x2 [x16, x1] h9 fun x18 h19 _ _ => storeA 3 x8 x18 h19 fun h22 _ _ => cellS true 3 x8 h22 fun x25 => outS1 [x25] h22
noncomputable def S78_101 (h71 : Hp) (x74 : IV) (x70 : IV) (x48 : IV) (h3 : Hp) (x41 : IV) (x42 : IV) (x43 : IV) (x44 : IV) (x45 : IV) (x46 : IV) (x47 : IV) (q38 : List IV → Hp → Option (IV × Hp)) : Option (IV × Hp) :=
  storeA 3 x74 x70 h71 fun h75 r76 w77 => chkS [] r76 w77 (addS EE 3 x48 (.fv (.int .i64 1)) fun x78 => dropS (h3.own.map (·.1)) [81795075] [x41, x42, x43, x44, x45, x46, x47, x78] h75 fun h79 => q38 [x41, x42, x43, x44, x45, x46, x47, x78] h79)
noncomputable def S78_102 (r67 : List Ref) (w68 : List Ref) (r61 : List Ref) (x41 : IV) (x65 : IV) (ih : Handler) (h66 : Hp) (x60 : IV) (x42 : IV) (x45 : IV) (x48 : IV) (h3 : Hp) (x43 : IV) (x44 : IV) (x46 : IV) (x47 : IV) (q38 : List IV → Hp → Option (IV × Hp)) : Option (IV × Hp) :=
  chkS [(r61, [])] r67 w68 (addS EE 3 x41 x65 fun x69 => isoS [] false false ih 78 [x60, x69, x42] h66 fun x70 h71 r72 w73 => chkS [] r72 w73 (ixS 3 x45 x48 fun x74 => S78_101 h71 x74 x70 x48 h3 x41 x42 x43 x44 x45 x46 x47 q38))
noncomputable def S78_103 (r61 : List Ref) (x43 : IV) (h57 : Hp) (ih : Handler) (x48 : IV) (x41 : IV) (x60 : IV) (x42 : IV) (x45 : IV) (h3 : Hp) (x44 : IV) (x46 : IV) (x47 : IV) (q38 : List IV → Hp → Option (IV × Hp)) : Option (IV × Hp) :=
  chkS [] r61 [] (faddrS 0 x43 fun x62 => load1 x62 h57 fun x63 r64 => chkS [(r61, [])] r64 [] (isoS [] false false ih 75 [x63, x48] h57 fun x65 h66 r67 w68 => S78_102 r67 w68 r61 x41 x65 ih h66 x60 x42 x45 x48 h3 x43 x44 x46 x47 q38))
noncomputable def S78_104 (x46 : IV) (x48 : IV) (h40 : Hp) (x43 : IV) (ih : Handler) (x41 : IV) (x42 : IV) (x45 : IV) (h3 : Hp) (x44 : IV) (x47 : IV) (q38 : List IV → Hp → Option (IV × Hp)) : Option (IV × Hp) :=
  ixS 3 x46 x48 fun x50 => loadA 3 x50 h40 fun x51 _ => newS 81795075 (.row [.fv (.int .i64 0), .fv (.int .i64 0), .nils] false) (.ptr (.own 81795075) 0) h40 fun x53 h54 _ _ => storeA 3 x53 x51 h54 fun h57 _ _ => loadA 3 x53 h57 fun x60 r61 => S78_103 r61 x43 h57 ih x48 x41 x60 x42 x45 h3 x44 x46 x47 q38
noncomputable def S78_105 (h40 : Hp) (x44 : IV) (x86 : IV) : Option (IV × Hp) :=
  storeA 3 x44 x86 h40 fun h87 _ _ => cellS true 3 x44 h87 fun x90 => outS1 [x90] h87
noncomputable def S78_106 (x43 : IV) (h40 : Hp) (x45 : IV) (x44 : IV) : Option (IV × Hp) :=
  faddrS 0 x43 fun x80 => load1 x80 h40 fun x81 _ => faddrS 1 x43 fun x83 => load1 x83 h40 fun x84 _ => bldS [.fv (.int .i64 0), .fv (.int .i64 0), .nils] [(0, 1, x81), (1, 1, x84), (2, 1, x45)] fun x86 => S78_105 h40 x44 x86
noncomputable def S78_107 (l95 : List IV) (h40 : Hp) (x43 : IV) (ih : Handler) (x41 : IV) (x42 : IV) (x45 : IV) (h3 : Hp) (x44 : IV) (q38 : List IV → Hp → Option (IV × Hp)) : Option (IV × Hp) :=
  uncS l95 fun x46 l96 => uncS l96 fun x47 l97 => uncS l97 fun x48 _ => ltS EE 3 x48 x47 fun x49 => condS x49 (S78_104 x46 x48 h40 x43 ih x41 x42 x45 h3 x44 x47 q38) (S78_106 x43 h40 x45 x44)
noncomputable def S78_108 (l39 : List IV) (h40 : Hp) (ih : Handler) (h3 : Hp) (q38 : List IV → Hp → Option (IV × Hp)) : Option (IV × Hp) :=
  uncS l39 fun x41 l91 => uncS l91 fun x42 l92 => uncS l92 fun x43 l93 => uncS l93 fun x44 l94 => uncS l94 fun x45 l95 => S78_107 l95 h40 x43 ih x41 x42 x45 h3 x44 q38
noncomputable def S78_109 (h31 : Hp) (x34 : IV) (h3 : Hp) (x1 : IV) (x2 : IV) (x4 : IV) (x8 : IV) (x30 : IV) (n : Nat) (ih : Handler) : Option (IV × Hp) :=
  load1 x34 h31 fun x35 _ => lenS x35 fun x37 => dropS (h3.own.map (·.1)) [81795075] [x1, x2, x4, x8, x30, x35, x37, .fv (.int .i64 0)] h31 fun h99 => loopS n (fun q38 l39 h40 => S78_108 l39 h40 ih h3 q38) [x1, x2, x4, x8, x30, x35, x37, .fv (.int .i64 0)] h99
noncomputable def S78_110 (x4 : IV) (h9 : Hp) (h3 : Hp) (x1 : IV) (x2 : IV) (x8 : IV) (n : Nat) (ih : Handler) : Option (IV × Hp) :=
  faddrS 2 x4 fun x26 => load1 x26 h9 fun x27 _ => lenS x27 fun x29 => genS (pcMakeSlice EE 81792003 23 x29 x29) 81792003 h9 fun x30 h31 _ _ => faddrS 2 x4 fun x34 => S78_109 h31 x34 h3 x1 x2 x4 x8 x30 n ih
noncomputable def S78 (ih : Handler) (n : Nat) (x0 : IV) (x1 : IV) (x2 : IV) (h3 : Hp) : Option (IV × Hp) :=
  boxS 81788928 x0 h3 fun x4 h5 _ _ => newS 81788929 (.row [.fv (.int .i64 0), .fv (.int .i64 0), .nils] false) (.ptr (.own 81788929) 0) h5 fun x8 h9 _ _ => faddrS 0 x4 fun x12 => load1 x12 h9 fun x13 _ => eqS EE 3 x13 (.fv (.int .i64 1)) fun x15 => condS x15 (S78_100 h9 x4 ih x2 x1 x8) (S78_110 x4 h9 h3 x1 x2 x8 n ih)
theorem S78_ok (ih : Handler) (n : Nat) (x0 : IV) (x1 : IV) (x2 : IV) (h3 : Hp) : funS EE ih ft.get n 78 [x0, x1, x2] h3 = S78 ih n x0 x1 x2 h3 := by kernel_rfl
/-! Function 79. -/
noncomputable def S79_42 (ih : Handler) (h10 : Hp) (x20 : IV) (x22 : IV) (x9 : IV) : Option (IV × Hp) :=
  isoS [] false false ih 80 [x20, x22] h10 fun x24 h25 _ _ => storeA 3 x9 x24 h25 fun h28 _ _ => cellS true 3 x9 h28 fun x31 => outS1 [x31] h28
noncomputable def S79_43 (h35 : Hp) (x9 : IV) (x34 : IV) : Option (IV × Hp) :=
  storeA 3 x9 x34 h35 fun h38 _ _ => cellS true 3 x9 h38 fun x41 => outS1 [x41] h38
noncomputable def S79_44 (x16 : IV) (x17 : IV) (h10 : Hp) (x5 : IV) (x3 : IV) (ih : Handler) (x9 : IV) : Option (IV × Hp) :=
  geS EE 3 x16 x17 fun x19 => condS x19 (loadA 3 x5 h10 fun x20 _ => load1 x3 h10 fun x22 _ => S79_42 ih h10 x20 x22 x9) (loadA 3 x5 h10 fun x32 _ => isoS [] false false ih 80 [x32, .fv (.int .i64 0)] h10 fun x34 h35 _ _ => S79_43 h35 x9 x34)
noncomputable def S79 (ih : Handler) (n : Nat) (x0 : IV) (x1 : IV) (x2 : IV) (x3 : IV) (h4 : Hp) : Option (IV × Hp) :=
  boxS 82837504 x0 h4 fun x5 h6 _ _ => newS 82837505 (.row [.fv (.int .i64 0), .fv (.int .i64 0), .nils] false) (.ptr (.own 82837505) 0) h6 fun x9 h10 _ _ => faddrS 1 x5 fun x13 => load1 x13 h10 fun x14 _ => subS EE 3 x14 x1 fun x16 => load1 x2 h10 fun x17 _ => S79_44 x16 x17 h10 x5 x3 ih x9
theorem S79_ok (ih : Handler) (n : Nat) (x0 : IV) (x1 : IV) (x2 : IV) (x3 : IV) (h4 : Hp) : funS EE ih ft.get n 79 [x0, x1, x2, x3] h4 = S79 ih n x0 x1 x2 x3 h4 := by kernel_rfl
/-! Function 80. -/
noncomputable def S80_20 (h8 : Hp) (x7 : IV) (x15 : IV) : Option (IV × Hp) :=
  storeA 3 x7 x15 h8 fun h16 _ _ => cellS true 3 x7 h16 fun x19 => outS1 [x19] h16
noncomputable def S80 (ih : Handler) (n : Nat) (x0 : IV) (x1 : IV) (h2 : Hp) : Option (IV × Hp) :=
  boxS 83886080 x0 h2 fun x3 h4 _ _ => newS 83886081 (.row [.fv (.int .i64 0), .fv (.int .i64 0), .nils] false) (.ptr (.own 83886081) 0) h4 fun x7 h8 _ _ => faddrS 1 x3 fun x11 => load1 x11 h8 fun x12 _ => addS EE 3 x12 x1 fun x14 => bldS [.fv (.int .i64 0), .fv (.int .i64 0), .nils] [(0, 1, .fv (.int .i64 1)), (1, 1, x14)] fun x15 => S80_20 h8 x7 x15
theorem S80_ok (ih : Handler) (n : Nat) (x0 : IV) (x1 : IV) (h2 : Hp) : funS EE ih ft.get n 80 [x0, x1] h2 = S80 ih n x0 x1 h2 := by kernel_rfl
/-! Function 81. -/
noncomputable def S81_27 (r25 : List Ref) (w26 : List Ref) (h24 : Hp) (x23 : IV) : Option (IV × Hp) :=
  chkS [] r25 w26 (outS1 [x23] h24)
noncomputable def S81_28 (r17 : List Ref) (r14 : List Ref) (w15 : List Ref) (r10 : List Ref) (w11 : List Ref) (x1 : IV) (x16 : IV) (h13 : Hp) (x12 : IV) : Option (IV × Hp) :=
  chkS [(r14, w15), (r10, w11)] r17 [] (bldS [.fv (.int .i64 0), .fv (.int .i64 0), .fv (.int .i64 0), .nils] [(0, 1, x1), (1, 3, x16)] fun x18 => genS (pcBuildSlice EE 50 1 [(0, x18)]) 84935686 h13 fun x19 h20 r21 w22 => chkS [(r14, w15), (r10, w11)] r21 w22 (genS (builtinR EE 84935687 false .append [50, 50] [x12, x19]) 84935687 h20 fun x23 h24 r25 w26 => S81_27 r25 w26 h24 x23))
noncomputable def S81 (ih : Handler) (n : Nat) (x0 : IV) (x1 : IV) (x2 : IV) (h3 : Hp) : Option (IV × Hp) :=
  boxS 84934656 x2 h3 fun x4 h5 _ _ => isoS [] true false ih 92 [x0] h5 fun x8 h9 r10 w11 => chkS [] r10 w11 (isoS [] false true ih 91 [x8] h9 fun x12 h13 r14 w15 => chkS [] r14 w15 (loadA 3 x4 h13 fun x16 r17 => S81_28 r17 r14 w15 r10 w11 x1 x16 h13 x12))
theorem S81_ok (ih : Handler) (n : Nat) (x0 : IV) (x1 : IV) (x2 : IV) (h3 : Hp) : funS EE ih ft.get n 81 [x0, x1, x2] h3 = S81 ih n x0 x1 x2 h3 := by kernel_rfl
/-! Function 82. -/
noncomputable def S82 (ih : Handler) (n : Nat) (x0 : IV) (x1 : IV) (h2 : Hp) : Option (IV × Hp) :=
  boxS 85983232 x0 h2 fun x3 h4 _ _ => boxS 85983233 x1 h4 fun x7 h8 _ _ => loadA 3 x3 h8 fun x11 _ => genS (val (mkFunc (.func 94) [] [x7])) 85984257 h8 fun x13 h14 _ _ => isoS [] false false ih 93 [x11, .fv (.int .i64 0), x13] h14 fun x17 h18 _ _ => outS1 [x17] h18
theorem S82_ok (ih : Handler) (n : Nat) (x0 : IV) (x1 : IV) (h2 : Hp) : funS EE ih ft.get n 82 [x0, x1] h2 = S82 ih n x0 x1 h2 := by kernel_rfl
/-! Function 83. -/
noncomputable def S83_34 (ih : Handler) (h23 : Hp) (x20 : IV) (x22 : IV) (x16 : IV) : Option (IV × Hp) :=
  isoS [] false false ih 78 [x20, .fv (.int .i64 0), x22] h23 fun x26 h27 _ _ => storeA 3 x16 x26 h27 fun h30 _ _ => cellS true 3 x16 h30 fun x33 => outS1 [x33] h30
noncomputable def S83 (ih : Handler) (n : Nat) (x0 : IV) (x1 : IV) (x2 : IV) (h3 : Hp) : Option (IV × Hp) :=
  boxS 87031808 x0 h3 fun x4 h5 _ _ => boxS 87031809 x1 h5 fun x8 h9 _ _ => boxS 87031810 x2 h9 fun x12 h13 _ _ => newS 87031811 (.row [.fv (.int .i64 0), .fv (.int .i64 0), .nils] false) (.ptr (.own 87031811) 0) h13 fun x16 h17 _ _ => loadA 3 x4 h17 fun x20 _ => genS (val (mkFunc (.func 95) [] [x8, x12])) 87032833 h17 fun x22 h23 _ _ => S83_34 ih h23 x20 x22 x16
theorem S83_ok (ih : Handler) (n : Nat) (x0 : IV) (x1 : IV) (x2 : IV) (h3 : Hp) : funS EE ih ft.get n 83 [x0, x1, x2] h3 = S83 ih n x0 x1 x2 h3 := by kernel_rfl
/-! Function 84. -/
noncomputable def S84_30 (h19 : Hp) (x27 : IV) : Option (IV × Hp) :=
  load1 x27 h19 fun x28 _ => outS1 [x28, .fv (.int .i64 0)] h19
noncomputable def S84_31 (h19 : Hp) (x23 : IV) (x15 : IV) : Option (IV × Hp) :=
  load1 x23 h19 fun x24 _ => neS EE 3 x24 (.fv (.int .i64 2)) fun x26 => condS x26 (outS1 [.fv (.int .i64 0), .fv (.int .i64 12)] h19) (faddrS 1 x15 fun x27 => S84_30 h19 x27)
noncomputable def S84_32 (h16 : Hp) (x15 : IV) (x13 : IV) (x14 : IV) : Option (IV × Hp) :=
  storeA 3 x15 x13 h16 fun h19 _ _ => neS EE 39 x14 (.fv (.int .i64 0)) fun x22 => condS x22 (outS1 [.fv (.int .i64 0), x14] h19) (faddrS 0 x15 fun x23 => S84_31 h19 x23 x15)
noncomputable def S84 (ih : Handler) (n : Nat) (x0 : IV) (x1 : IV) (h2 : Hp) : Option (IV × Hp) :=
  boxS 88080384 x1 h2 fun x3 h4 _ _ => loadA 3 x3 h4 fun x7 _ => isoS [] false false ih 29 [x0, .fv (.int .i64 1), x7] h4 fun x9 h10 _ _ => extS 0 x9 fun x13 => extS 1 x9 fun x14 => newS 88081414 (.row [.fv (.int .i64 0), .fv (.int .i64 0), .nils] false) (.ptr (.own 88081414) 0) h10 fun x15 h16 _ _ => S84_32 h16 x15 x13 x14
theorem S84_ok (ih : Handler) (n : Nat) (x0 : IV) (x1 : IV) (h2 : Hp) : funS EE ih ft.get n 84 [x0, x1] h2 = S84 ih n x0 x1 h2 := by kernel_rfl
/-! Function 85. -/
noncomputable def S85_33 (ih : Handler) (h20 : Hp) (x19 : IV) (x11 : IV) : Option (IV × Hp) :=
  isoS [] false false ih 36 [x19] h20 fun x23 h24 _ _ => extS 0 x23 fun x27 => extS 1 x23 fun x28 => storeA 3 x11 x27 h24 fun h29 _ _ => cellS true 3 x11 h29 fun x32 => outS1 [x32, x28] h29
noncomputable def S85 (ih : Handler) (n : Nat) (x0 : IV) (x1 : IV) (h2 : Hp) : Option (IV × Hp) :=
  boxS 89128960 x0 h2 fun x3 h4 _ _ => boxS 89128961 x1 h4 fun x7 h8 _ _ => newS 89128962 (.row [.fv (.int .i64 0), .fv (.int .i64 0), .nils] false) (.ptr (.own 89128962) 0) h8 fun x11 h12 _ _ => loadA 3 x3 h12 fun x15 _ => loadA 3 x7 h12 fun x17 _ => isoS [] false false ih 83 [x15, .fv (.int .i64 0), x17] h12 fun x19 h20 _ _ => S85_33 ih h20 x19 x11
theorem S85_ok (ih : Handler) (n : Nat) (x0 : IV) (x1 : IV) (h2 : Hp) : funS EE ih ft.get n 85 [x0, x1] h2 = S85 ih n x0 x1 h2 := by kernel_rfl
/-! Function 86. -/
noncomputable def S86_37 (h13 : Hp) (x2 : IV) (ih : Handler) (x6 : IV) : Option (IV × Hp) :=
  loadA 3 x2 h13 fun x17 _ => isoS [] false false ih 96 [x17] h13 fun x19 h20 _ _ => storeA 3 x6 x19 h20 fun h23 _ _ => cellS true 3 x6 h23 fun x26 => outS1 [x26] h23
noncomputable def S86_38 (h13 : Hp) (x2 : IV) (ih : Handler) (x6 : IV) : Option (IV × Hp) :=
  loadA 3 x2 h13 fun x27 _ => isoS [] false false ih 97 [x27] h13 fun x29 h30 _ _ => storeA 3 x6 x29 h30 fun h33 _ _ => cellS true 3 x6 h33 fun x36 => outS1 [x36] h33
noncomputable def S86 (ih : Handler) (n : Nat) (x0 : IV) (h1 : Hp) : Option (IV × Hp) :=
  boxS 90177536 x0 h1 fun x2 h3 _ _ => newS 90177537 (.row [.fv (.int .i64 0), .fv (.int .i64 0), .nils] false) (.ptr (.own 90177537) 0) h3 fun x6 h7 _ _ => loadA 3 x2 h7 fun x10 _ => isoS [] false false ih 43 [x10] h7 fun x12 h13 _ _ => optS (unR .not x12) fun x16 => condS x16 (S86_37 h13 x2 ih x6) (S86_38 h13 x2 ih x6)
theorem S86_ok (ih : Handler) (n : Nat) (x0 : IV) (h1 : Hp) : funS EE ih ft.get n 86 [x0] h1 = S86 ih n x0 h1 := by kernel_rfl
/-! Function 87. -/
noncomputable def S87_83 (h67 : Hp) (x50 : IV) (x66 : IV) (ih : Handler) (x60 : IV) : Option (IV × Hp) :=
  guardS x50 true h67 (fun k70 => load1 x66 h67 fun x71 r72 => k70 x71 h67 r72 []) fun x73 h74 _ _ => guardS x50 true h74 (fun k77 => isoS [] false false ih 98 [x60, x73, .fv (.func (.func 87) [] [])] h74 k77) fun x78 h79 _ _ => pickS x50 x78 (.fv (.bool false)) fun x82 => outS1 [x82] h79
noncomputable def S87_84 (h41 : Hp) (x17 : IV) (x27 : IV) (x40 : IV) (x3 : IV) (x7 : IV) (ih : Handler) : Option (IV × Hp) :=
  guardS x17 true h41 (fun k44 => eqS EE 3 x27 x40 fun x45 => k44 x45 h41 [] []) fun x46 h47 _ _ => pickS x17 x46 (.fv (.bool false)) fun x50 => guardS x50 true h47 (fun k51 => faddrS 2 x3 fun x52 => k51 x52 h47 [] []) fun x53 h54 _ _ => guardS x50 true h54 (fun k57 => load1 x53 h54 fun x58 r59 => k57 x58 h54 r59 []) fun x60 h61 _ _ => guardS x50 true h61 (fun k64 => faddrS 2 x7 fun x65 => k64 x65 h61 [] []) fun x66 h67 _ _ => S87_83 h67 x50 x66 ih x60
noncomputable def S87_85 (x12 : IV) (x15 : IV) (h8 : Hp) (x3 : IV) (x7 : IV) (ih : Handler) : Option (IV × Hp) :=
  eqS EE 3 x12 x15 fun x17 => guardS x17 true h8 (fun k18 => faddrS 1 x3 fun x19 => k18 x19 h8 [] []) fun x20 h21 _ _ => guardS x17 true h21 (fun k24 => load1 x20 h21 fun x25 r26 => k24 x25 h21 r26 []) fun x27 h28 _ _ => guardS x17 true h28 (fun k31 => faddrS 1 x7 fun x32 => k31 x32 h28 [] []) fun x33 h34 _ _ => guardS x17 true h34 (fun k37 => load1 x33 h34 fun x38 r39 => k37 x38 h34 r39 []) fun x40 h41 _ _ => S87_84 h41 x17 x27 x40 x3 x7 ih
noncomputable def S87 (ih : Handler) (n : Nat) (x0 : IV) (x1 : IV) (h2 : Hp) : Option (IV × Hp) :=
  boxS 91226112 x0 h2 fun x3 h4 _ _ => boxS 91226113 x1 h4 fun x7 h8 _ _ => faddrS 0 x3 fun x11 => load1 x11 h8 fun x12 _ => faddrS 0 x7 fun x14 => load1 x14 h8 fun x15 _ => S87_85 x12 x15 h8 x3 x7 ih
theorem S87_ok (ih : Handler) (n : Nat) (x0 : IV) (x1 : IV) (h2 : Hp) : funS EE ih ft.get n 87 [x0, x1] h2 = S87 ih n x0 x1 h2 := by kernel_rfl
/-! Function 88. -/
noncomputable def S88_29 (x22 : IV) (h2 : Hp) : Option (IV × Hp) :=
  faddrS 2 x22 fun x23 => load1 x23 h2 fun x24 _ => ixS 1 x24 (.fv (.int .i64 0)) fun x26 => load1 x26 h2 fun x27 _ => outS1 [x27] h2
noncomputable def S88_30 (x15 : IV) (h2 : Hp) : Option (IV × Hp) :=
  faddrS 2 x15 fun x16 => load1 x16 h2 fun x17 _ => ixS 1 x17 (.fv (.int .i64 0)) fun x19 => load1 x19 h2 fun x20 _ => nilS x20 fun x22 => S88_29 x22 h2
noncomputable def S88_31 (x10 : IV) (h2 : Hp) (x1 : IV) (x0 : IV) : Option (IV × Hp) :=
  faddrS 0 x10 fun x11 => load1 x11 h2 fun x12 _ => neS EE 3 x12 x1 fun x14 => condS x14 (outS1 [.fv .nilp] h2) (nilS x0 fun x15 => S88_30 x15 h2)
noncomputable def S88 (ih : Handler) (n : Nat) (x0 : IV) (x1 : IV) (h2 : Hp) : Option (IV × Hp) :=
  nilS x0 fun x3 => faddrS 2 x3 fun x4 => load1 x4 h2 fun x5 _ => ixS 1 x5 (.fv (.int .i64 0)) fun x7 => load1 x7 h2 fun x8 _ => nilS x8 fun x10 => S88_31 x10 h2 x1 x0
theorem S88_ok (ih : Handler) (n : Nat) (x0 : IV) (x1 : IV) (h2 : Hp) : funS EE ih ft.get n 88 [x0, x1] h2 = S88 ih n x0 x1 h2 := by kernel_rfl
/-! Function 89. -/
noncomputable def S89_18 (x1 : IV) (h7 : Hp) (j0_3 : Hp → Option (IV × Hp)) : Option (IV × Hp) :=
  eqS EE 3 x1 (.fv (.int .i64 0)) fun x10 => condS x10 (outS1 [.fv (.int .i64 1)] h7) (eqS EE 3 x1 (.fv (.int .i64 2)) fun x11 => condS x11 (outS1 [.fv (.int .i64 2)] h7) (j0_3 h7))
noncomputable def S89_19 (x6 : IV) (x1 : IV) (h7 : Hp) (j0_3 : Hp → Option (IV × Hp)) (x0 : IV) : Option (IV × Hp) :=
  condS x6 (eqS EE 3 x1 (.fv (.int .i64 1)) fun x8 => condS x8 (outS1 [.fv (.int .i64 1)] h7) (j0_3 h7)) (eqS EE 3 x0 (.fv (.int .i64 13)) fun x9 => condS x9 (S89_18 x1 h7 j0_3) (j0_3 h7))
noncomputable def S89_20 (x0 : IV) (j1_5 : IV → Hp → Option (IV × Hp)) (h2 : Hp) : Option (IV × Hp) :=
  eqS EE 3 x0 (.fv (.int .i64 29)) fun x17 => j1_5 x17 h2
noncomputable def S89_21 (x0 : IV) (j1_5 : IV → Hp → Option (IV × Hp)) (h2 : Hp) : Option (IV × Hp) :=
  eqS EE 3 x0 (.fv (.int .i64 20)) fun x15 => condS x15 (j1_5 x15 h2) (eqS EE 3 x0 (.fv (.int .i64 28)) fun x16 => condS x16 (j1_5 x16 h2) (S89_20 x0 j1_5 h2))
noncomputable def S89_22 (x13 : IV) (j1_5 : IV → Hp → Option (IV × Hp)) (h2 : Hp) (x0 : IV) : Option (IV × Hp) :=
  condS x13 (j1_5 x13 h2) (eqS EE 3 x0 (.fv (.int .i64 6)) fun x14 => condS x14 (j1_5 x14 h2) (S89_21 x0 j1_5 h2))
noncomputable def S89 (ih : Handler) (n : Nat) (x0 : IV) (x1 : IV) (h2 : Hp) : Option (IV × Hp) :=
  (fun (j0_3 : Hp → Option (IV × Hp)) => (fun (j1_5 : IV → Hp → Option (IV × Hp)) => eqS EE 3 x0 (.fv (.int .i64 3)) fun x12 => condS x12 (j1_5 x12 h2) (eqS EE 3 x0 (.fv (.int .i64 4)) fun x13 => S89_22 x13 j1_5 h2 x0)) fun x6 h7 => S89_19 x6 x1 h7 j0_3 x0) fun h4 => outS1 [.fv (.int .i64 0)] h4
theorem S89_ok (ih : Handler) (n : Nat) (x0 : IV) (x1 : IV) (h2 : Hp) : funS EE ih ft.get n 89 [x0, x1] h2 = S89 ih n x0 x1 h2 := by kernel_rfl
/-! Function 90. -/
noncomputable def S90_27 (x13 : IV) (x7 : IV) (h6 : Hp) (x10 : IV) (h2 : Hp) (x8 : IV) (x9 : IV) (q4 : List IV → Hp → Option (IV × Hp)) : Option (IV × Hp) :=
  bldS [.fv (.nilp), .fv (.nilp)] [(0, 1, x13), (1, 1, x7)] fun x15 => fzS (pcBox true 94375939 x15) 94375939 x15 h6 fun x16 h17 _ _ => addS EE 3 x10 (.fv (.int .i64 1)) fun x20 => dropS (h2.own.map (·.1)) [94375939] [x16, x8, x9, x20] h17 fun h21 => q4 [x16, x8, x9, x20] h21
noncomputable def S90_28 (x11 : IV) (x8 : IV) (x10 : IV) (h6 : Hp) (x7 : IV) (h2 : Hp) (x9 : IV) (q4 : List IV → Hp → Option (IV × Hp)) : Option (IV × Hp) :=
  condS x11 (ixS 1 x8 x10 fun x12 => load1 x12 h6 fun x13 _ => S90_27 x13 x7 h6 x10 h2 x8 x9 q4) (outS1 [x7] h6)
noncomputable def S90_29 (l5 : List IV) (h6 : Hp) (h2 : Hp) (q4 : List IV → Hp → Option (IV × Hp)) : Option (IV × Hp) :=
  uncS l5 fun x7 l22 => uncS l22 fun x8 l23 => uncS l23 fun x9 l24 => uncS l24 fun x10 _ => ltS EE 3 x10 x9 fun x11 => S90_28 x11 x8 x10 h6 x7 h2 x9 q4
noncomputable def S90 (ih : Handler) (n : Nat) (x0 : IV) (x1 : IV) (h2 : Hp) : Option (IV × Hp) :=
  lenS x1 fun x3 => dropS (h2.own.map (·.1)) [94375939] [x0, x1, x3, .fv (.int .i64 0)] h2 fun h26 => loopS n (fun q4 l5 h6 => S90_29 l5 h6 h2 q4) [x0, x1, x3, .fv (.int .i64 0)] h26
theorem S90_ok (ih : Handler) (n : Nat) (x0 : IV) (x1 : IV) (h2 : Hp) : funS EE ih ft.get n 90 [x0, x1] h2 = S90 ih n x0 x1 h2 := by kernel_rfl
/-! Function 91. -/
noncomputable def S91 (ih : Handler) (n : Nat) (x0 : IV) (h1 : Hp) : Option (IV × Hp) :=
  lenS x0 fun x2 => lenS x0 fun x3 => genS (sliceR EE 50 x0 none (some x2) (some x3)) 95421445 h1 fun x4 h5 _ _ => outS1 [x4] h5
theorem S91_ok (ih : Handler) (n : Nat) (x0 : IV) (h1 : Hp) : funS EE ih ft.get n 91 [x0] h1 = S91 ih n x0 h1 := by kernel_rfl
/-! Function 92. -/
noncomputable def S92 (ih : Handler) (n : Nat) (x0 : IV) (h1 : Hp) : Option (IV × Hp) :=
  eqS EE 50 x0 .nils fun x2 => condS x2 (outS1 [.nils] h1) (genS (pcBuildSlice EE 50 0 []) 96472064 h1 fun x3 h4 _ _ => genS (builtinR EE 96472066 false .append [50, 50] [x3, x0]) 96472066 h4 fun x7 h8 _ _ => outS1 [x7] h8)
theorem S92_ok (ih : Handler) (n : Nat) (x0 : IV) (h1 : Hp) : funS EE ih ft.get n 92 [x0] h1 = S92 ih n x0 h1 := by kernel_rfl
end Idl
end Go.Proofs.Ytnenpcghegcnhaa

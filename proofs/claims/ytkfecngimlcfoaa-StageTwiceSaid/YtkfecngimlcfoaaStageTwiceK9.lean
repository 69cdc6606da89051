/-
  Texts of a proof, part 9: an ideal semantics of the program, its functions in shallow form, contracts of them. No statement of the seat is proved here.
-/
import Derived.Test.YtkfecngimlcfoaaStageTwiceK8
set_option linter.all false
set_option maxRecDepth 100000
set_option linter.unusedVariables false
namespace Go.Proofs.Ytkfecngimlcfoaa
namespace Idl
noncomputable def S52_44 (x12 : IV) (h13 : Hp) (x0 : IV) : Option (IV × Hp) :=
  condS x12 (outS1 [.fv (.int .i64 3)] h13) (eqS EE 3 x0 (.fv (.int .i64 13)) fun x14 => condS x14 (outS1 [.fv (.int .i64 4)] h13) (outS1 [.fv (.int .i64 (-1))] h13))
noncomputable def S52_45 (x15 : IV) (j1_11 : IV → Hp → Option (IV × Hp)) (h10 : Hp) (x0 : IV) : Option (IV × Hp) :=
  condS x15 (j1_11 x15 h10) (eqS EE 3 x0 (.fv (.int .i64 27)) fun x16 => j1_11 x16 h10)
noncomputable def S52_46 (x9 : IV) (h10 : Hp) (x0 : IV) : Option (IV × Hp) :=
  condS x9 (outS1 [.fv (.int .i64 2)] h10) ((fun (j1_11 : IV → Hp → Option (IV × Hp)) => eqS EE 3 x0 (.fv (.int .i64 7)) fun x15 => S52_45 x15 j1_11 h10 x0) fun x12 h13 => S52_44 x12 h13 x0)
noncomputable def S52_47 (x0 : IV) (j1_8 : IV → Hp → Option (IV × Hp)) (h7 : Hp) : Option (IV × Hp) :=
  eqS EE 3 x0 (.fv (.int .i64 28)) fun x27 => condS x27 (j1_8 x27 h7) (eqS EE 3 x0 (.fv (.int .i64 29)) fun x28 => j1_8 x28 h7)
noncomputable def S52_48 (x0 : IV) (j1_8 : IV → Hp → Option (IV × Hp)) (h7 : Hp) : Option (IV × Hp) :=
  eqS EE 3 x0 (.fv (.int .i64 22)) fun x25 => condS x25 (j1_8 x25 h7) (eqS EE 3 x0 (.fv (.int .i64 26)) fun x26 => condS x26 (j1_8 x26 h7) (S52_47 x0 j1_8 h7))
noncomputable def S52_49 (x0 : IV) (j1_8 : IV → Hp → Option (IV × Hp)) (h7 : Hp) : Option (IV × Hp) :=
  eqS EE 3 x0 (.fv (.int .i64 20)) fun x23 => condS x23 (j1_8 x23 h7) (eqS EE 3 x0 (.fv (.int .i64 21)) fun x24 => condS x24 (j1_8 x24 h7) (S52_48 x0 j1_8 h7))
noncomputable def S52_50 (x0 : IV) (j1_8 : IV → Hp → Option (IV × Hp)) (h7 : Hp) : Option (IV × Hp) :=
  eqS EE 3 x0 (.fv (.int .i64 16)) fun x21 => condS x21 (j1_8 x21 h7) (eqS EE 3 x0 (.fv (.int .i64 17)) fun x22 => condS x22 (j1_8 x22 h7) (S52_49 x0 j1_8 h7))
noncomputable def S52_51 (x0 : IV) (j1_8 : IV → Hp → Option (IV × Hp)) (h7 : Hp) : Option (IV × Hp) :=
  eqS EE 3 x0 (.fv (.int .i64 5)) fun x19 => condS x19 (j1_8 x19 h7) (eqS EE 3 x0 (.fv (.int .i64 6)) fun x20 => condS x20 (j1_8 x20 h7) (S52_50 x0 j1_8 h7))
noncomputable def S52_52 (x17 : IV) (j1_8 : IV → Hp → Option (IV × Hp)) (h7 : Hp) (x0 : IV) : Option (IV × Hp) :=
  condS x17 (j1_8 x17 h7) (eqS EE 3 x0 (.fv (.int .i64 4)) fun x18 => condS x18 (j1_8 x18 h7) (S52_51 x0 j1_8 h7))
noncomputable def S52_53 (x6 : IV) (h7 : Hp) (x0 : IV) : Option (IV × Hp) :=
  condS x6 (outS1 [.fv (.int .i64 1)] h7) ((fun (j1_8 : IV → Hp → Option (IV × Hp)) => eqS EE 3 x0 (.fv (.int .i64 3)) fun x17 => S52_52 x17 j1_8 h7 x0) fun x9 h10 => S52_46 x9 h10 x0)
noncomputable def S52_54 (x0 : IV) (j1_5 : IV → Hp → Option (IV × Hp)) (h4 : Hp) : Option (IV × Hp) :=
  eqS EE 3 x0 (.fv (.int .i64 24)) fun x35 => condS x35 (j1_5 x35 h4) (eqS EE 3 x0 (.fv (.int .i64 30)) fun x36 => j1_5 x36 h4)
noncomputable def S52_55 (x0 : IV) (j1_5 : IV → Hp → Option (IV × Hp)) (h4 : Hp) : Option (IV × Hp) :=
  eqS EE 3 x0 (.fv (.int .i64 19)) fun x33 => condS x33 (j1_5 x33 h4) (eqS EE 3 x0 (.fv (.int .i64 23)) fun x34 => condS x34 (j1_5 x34 h4) (S52_54 x0 j1_5 h4))
noncomputable def S52_56 (x0 : IV) (j1_5 : IV → Hp → Option (IV × Hp)) (h4 : Hp) : Option (IV × Hp) :=
  eqS EE 3 x0 (.fv (.int .i64 12)) fun x31 => condS x31 (j1_5 x31 h4) (eqS EE 3 x0 (.fv (.int .i64 18)) fun x32 => condS x32 (j1_5 x32 h4) (S52_55 x0 j1_5 h4))
noncomputable def S52_57 (x29 : IV) (j1_5 : IV → Hp → Option (IV × Hp)) (h4 : Hp) (x0 : IV) : Option (IV × Hp) :=
  condS x29 (j1_5 x29 h4) (eqS EE 3 x0 (.fv (.int .i64 9)) fun x30 => condS x30 (j1_5 x30 h4) (S52_56 x0 j1_5 h4))
noncomputable def S52_58 (x3 : IV) (h4 : Hp) (x0 : IV) : Option (IV × Hp) :=
  condS x3 (outS1 [.fv (.int .i64 0)] h4) ((fun (j1_5 : IV → Hp → Option (IV × Hp)) => eqS EE 3 x0 (.fv (.int .i64 8)) fun x29 => S52_57 x29 j1_5 h4 x0) fun x6 h7 => S52_53 x6 h7 x0)
noncomputable def S52_59 (x0 : IV) (j1_2 : IV → Hp → Option (IV × Hp)) (h1 : Hp) : Option (IV × Hp) :=
  eqS EE 3 x0 (.fv (.int .i64 25)) fun x43 => j1_2 x43 h1
noncomputable def S52_60 (x0 : IV) (j1_2 : IV → Hp → Option (IV × Hp)) (h1 : Hp) : Option (IV × Hp) :=
  eqS EE 3 x0 (.fv (.int .i64 14)) fun x41 => condS x41 (j1_2 x41 h1) (eqS EE 3 x0 (.fv (.int .i64 15)) fun x42 => condS x42 (j1_2 x42 h1) (S52_59 x0 j1_2 h1))
noncomputable def S52_61 (x0 : IV) (j1_2 : IV → Hp → Option (IV × Hp)) (h1 : Hp) : Option (IV × Hp) :=
  eqS EE 3 x0 (.fv (.int .i64 10)) fun x39 => condS x39 (j1_2 x39 h1) (eqS EE 3 x0 (.fv (.int .i64 11)) fun x40 => condS x40 (j1_2 x40 h1) (S52_60 x0 j1_2 h1))
noncomputable def S52 (ih : Handler) (n : Nat) (x0 : IV) (h1 : Hp) : Option (IV × Hp) :=
  (fun (j1_2 : IV → Hp → Option (IV × Hp)) => eqS EE 3 x0 (.fv (.int .i64 1)) fun x37 => condS x37 (j1_2 x37 h1) (eqS EE 3 x0 (.fv (.int .i64 2)) fun x38 => condS x38 (j1_2 x38 h1) (S52_61 x0 j1_2 h1))) fun x3 h4 => S52_58 x3 h4 x0
theorem S52_ok (ih : Handler) (n : Nat) (x0 : IV) (h1 : Hp) : funS EE ih ft.get n 52 [x0] h1 = S52 ih n x0 h1 := by kernel_rfl
noncomputable def S54_18 (x1 : IV) (h7 : Hp) (j0_3 : Hp → Option (IV × Hp)) : Option (IV × Hp) :=
  eqS EE 3 x1 (.fv (.int .i64 0)) fun x10 => condS x10 (outS1 [.fv (.int .i64 1)] h7) (eqS EE 3 x1 (.fv (.int .i64 2)) fun x11 => condS x11 (outS1 [.fv (.int .i64 2)] h7) (j0_3 h7))
noncomputable def S54_19 (x6 : IV) (x1 : IV) (h7 : Hp) (j0_3 : Hp → Option (IV × Hp)) (x0 : IV) : Option (IV × Hp) :=
  condS x6 (eqS EE 3 x1 (.fv (.int .i64 1)) fun x8 => condS x8 (outS1 [.fv (.int .i64 1)] h7) (j0_3 h7)) (eqS EE 3 x0 (.fv (.int .i64 13)) fun x9 => condS x9 (S54_18 x1 h7 j0_3) (j0_3 h7))
noncomputable def S54_20 (x0 : IV) (j1_5 : IV → Hp → Option (IV × Hp)) (h2 : Hp) : Option (IV × Hp) :=
  eqS EE 3 x0 (.fv (.int .i64 29)) fun x17 => j1_5 x17 h2
noncomputable def S54_21 (x0 : IV) (j1_5 : IV → Hp → Option (IV × Hp)) (h2 : Hp) : Option (IV × Hp) :=
  eqS EE 3 x0 (.fv (.int .i64 20)) fun x15 => condS x15 (j1_5 x15 h2) (eqS EE 3 x0 (.fv (.int .i64 28)) fun x16 => condS x16 (j1_5 x16 h2) (S54_20 x0 j1_5 h2))
noncomputable def S54_22 (x13 : IV) (j1_5 : IV → Hp → Option (IV × Hp)) (h2 : Hp) (x0 : IV) : Option (IV × Hp) :=
  condS x13 (j1_5 x13 h2) (eqS EE 3 x0 (.fv (.int .i64 6)) fun x14 => condS x14 (j1_5 x14 h2) (S54_21 x0 j1_5 h2))
noncomputable def S54 (ih : Handler) (n : Nat) (x0 : IV) (x1 : IV) (h2 : Hp) : Option (IV × Hp) :=
  (fun (j0_3 : Hp → Option (IV × Hp)) => (fun (j1_5 : IV → Hp → Option (IV × Hp)) => eqS EE 3 x0 (.fv (.int .i64 3)) fun x12 => condS x12 (j1_5 x12 h2) (eqS EE 3 x0 (.fv (.int .i64 4)) fun x13 => S54_22 x13 j1_5 h2 x0)) fun x6 h7 => S54_19 x6 x1 h7 j0_3 x0) fun h4 => outS1 [.fv (.int .i64 0)] h4
theorem S54_ok (ih : Handler) (n : Nat) (x0 : IV) (x1 : IV) (h2 : Hp) : funS EE ih ft.get n 54 [x0, x1] h2 = S54 ih n x0 x1 h2 := by kernel_rfl
noncomputable def S55 (ih : Handler) (n : Nat) (x0 : IV) (x1 : IV) (h2 : Hp) : Option (IV × Hp) :=
  binS EE 3 .rem x0 x1 fun x3 => (fun (j1_4 : IV → Hp → Option (IV × Hp)) => ltS EE 3 x3 (.fv (.int .i64 0)) fun x7 => condS x7 (addS EE 3 x3 x1 fun x8 => j1_4 x8 h2) (j1_4 x3 h2)) fun x5 h6 => outS1 [x5] h6
theorem S55_ok (ih : Handler) (n : Nat) (x0 : IV) (x1 : IV) (h2 : Hp) : funS EE ih ft.get n 55 [x0, x1] h2 = S55 ih n x0 x1 h2 := by kernel_rfl
noncomputable def S56_42 (x17 : IV) (x1 : IV) (h8 : Hp) (x7 : IV) : Option (IV × Hp) :=
  ixS 3 x17 x1 fun x19 => loadA 3 x19 h8 fun x20 _ => storeA 3 x7 x20 h8 fun h22 _ _ => cellS true 3 x7 h22 fun x25 => outS1 [x25] h22
noncomputable def S56_43 (x1 : IV) (x34 : IV) (x30 : IV) (h8 : Hp) (x7 : IV) : Option (IV × Hp) :=
  binS EE 3 .mul (.fv (.int .i64 7)) x1 fun x35 => addS EE 3 x34 x35 fun x36 => bldS [.fv (.int .i64 0), .fv (.int .i64 0), .nils] [(0, 1, x30), (1, 1, x36)] fun x37 => storeA 3 x7 x37 h8 fun h38 _ _ => cellS true 3 x7 h38 fun x41 => outS1 [x41] h38
noncomputable def S56_44 (x27 : IV) (x1 : IV) (x3 : IV) (h8 : Hp) (x7 : IV) : Option (IV × Hp) :=
  binS EE 3 .quo x27 (.fv (.int .i64 3)) fun x29 => addS EE 3 x29 x1 fun x30 => faddrS 1 x3 fun x31 => load1 x31 h8 fun x32 _ => binS EE 3 .quo x32 (.fv (.int .i64 5)) fun x34 => S56_43 x1 x34 x30 h8 x7
noncomputable def S56_45 (x15 : IV) (x3 : IV) (h8 : Hp) (x1 : IV) (x7 : IV) : Option (IV × Hp) :=
  condS x15 (faddrS 2 x3 fun x16 => load1 x16 h8 fun x17 _ => S56_42 x17 x1 h8 x7) (faddrS 0 x3 fun x26 => load1 x26 h8 fun x27 _ => S56_44 x27 x1 x3 h8 x7)
noncomputable def S56 (ih : Handler) (n : Nat) (x0 : IV) (x1 : IV) (h2 : Hp) : Option (IV × Hp) :=
  boxS 58720256 x0 h2 fun x3 h4 _ _ => newS 58720257 (.row [.fv (.int .i64 0), .fv (.int .i64 0), .nils] false) (.ptr (.own 58720257) 0) h4 fun x7 h8 _ _ => faddrS 2 x3 fun x11 => load1 x11 h8 fun x12 _ => lenS x12 fun x14 => ltS EE 3 x1 x14 fun x15 => S56_45 x15 x3 h8 x1 x7
theorem S56_ok (ih : Handler) (n : Nat) (x0 : IV) (x1 : IV) (h2 : Hp) : funS EE ih ft.get n 56 [x0, x1] h2 = S56 ih n x0 x1 h2 := by kernel_rfl
noncomputable def S58_133 (x22 : IV) (h4 : Hp) (h27 : Hp) (x16 : IV) (x17 : IV) (x18 : IV) (x19 : IV) (x20 : IV) (x26 : IV) (q13 : List IV → Hp → Option (IV × Hp)) : Option (IV × Hp) :=
  addS EE 3 x22 (.fv (.int .i64 1)) fun x28 => dropS (h4.own.map (·.1)) [60823568, 60825603] [x16, x17, x18, x19, x20, x26, x28] h27 fun h29 => q13 [x16, x17, x18, x19, x20, x26, x28] h29
noncomputable def S58_134 (h90 : Hp) (x22 : IV) (x21 : IV) (j1_25 : IV → Hp → Option (IV × Hp)) : Option (IV × Hp) :=
  genS (pcBuildSlice EE 75 1 [(0, x22)]) 60825602 h90 fun x94 h95 _ _ => genS (builtinR EE 60825603 false .append [75, 75] [x21, x94]) 60825603 h95 fun x98 h99 _ _ => j1_25 x98 h99
noncomputable def S58_135 (r86 : List Ref) (w87 : List Ref) (h85 : Hp) (x63 : IV) (ih : Handler) (x72 : IV) (x84 : IV) (x22 : IV) (x21 : IV) (j1_25 : IV → Hp → Option (IV × Hp)) : Option (IV × Hp) :=
  chkS [] r86 w87 (guardS x63 true h85 (fun k88 => isoS [] false false ih 17 [x72, x84] h85 k88) fun x89 h90 r91 w92 => chkS [] r91 w92 (pickS x63 x89 (.fv (.bool false)) fun x93 => condS x93 (S58_134 h90 x22 x21 j1_25) (j1_25 x21 h90)))
noncomputable def S58_136 (h68 : Hp) (x63 : IV) (ih : Handler) (x67 : IV) (x19 : IV) (r69 : List Ref) (w70 : List Ref) (x22 : IV) (x21 : IV) (j1_25 : IV → Hp → Option (IV × Hp)) : Option (IV × Hp) :=
  guardS x63 true h68 (fun k71 => isoS [] false false ih 86 [x67] h68 k71) fun x72 h73 r74 w75 => chkS [] r74 w75 (guardS x63 true h73 (fun k76 => loadA 3 x19 h73 fun x77 r78 => k76 x77 h73 r78 []) fun x79 h80 r81 w82 => chkS [(r74, w75), (r69, w70)] r81 w82 (guardS x63 true h80 (fun k83 => isoS [] false false ih 86 [x79] h80 k83) fun x84 h85 r86 w87 => S58_135 r86 w87 h85 x63 ih x72 x84 x22 x21 j1_25))
noncomputable def S58_137 (h51 : Hp) (x54 : IV) (x55 : IV) (ih : Handler) (x19 : IV) (x22 : IV) (x21 : IV) (j1_25 : IV → Hp → Option (IV × Hp)) : Option (IV × Hp) :=
  newS 60823568 (.row [.fv (.int .i64 0), .fv (.int .i64 0), .nils] false) (.ptr (.own 60823568) 0) h51 fun x56 h57 _ _ => storeA 3 x56 x54 h57 fun h60 _ _ => eqS EE 3 x55 (.fv (.int .i64 0)) fun x63 => guardS x63 true h60 (fun k64 => loadA 3 x56 h60 fun x65 r66 => k64 x65 h60 r66 []) fun x67 h68 r69 w70 => chkS [] r69 w70 (S58_136 h68 x63 ih x67 x19 r69 w70 x22 x21 j1_25)
noncomputable def S58_138 (x22 : IV) (ih : Handler) (h15 : Hp) (x43 : IV) (x19 : IV) (x21 : IV) (j1_25 : IV → Hp → Option (IV × Hp)) : Option (IV × Hp) :=
  addS EE 3 x22 (.fv (.int .i64 1)) fun x45 => isoS [] false false ih 45 [x43, x45, .fv (.int .i64 0)] h15 fun x46 h47 _ _ => isoS [] false false ih 34 [x46] h47 fun x50 h51 _ _ => extS 0 x50 fun x54 => extS 1 x50 fun x55 => S58_137 h51 x54 x55 ih x19 x22 x21 j1_25
noncomputable def S58_139 (x38 : IV) (x22 : IV) (x16 : IV) (h15 : Hp) (ih : Handler) (x19 : IV) (x21 : IV) (j1_25 : IV → Hp → Option (IV × Hp)) : Option (IV × Hp) :=
  subS EE 3 x38 (.fv (.int .i64 1)) fun x39 => subS EE 3 x39 x22 fun x40 => ixS 4 x16 x40 fun x41 => faddrS 1 x41 fun x42 => loadA 3 x42 h15 fun x43 _ => S58_138 x22 ih h15 x43 x19 x21 j1_25
noncomputable def S58_140 (x33 : IV) (h15 : Hp) (x17 : IV) (j1_25 : IV → Hp → Option (IV × Hp)) (x21 : IV) (x16 : IV) (x22 : IV) (ih : Handler) (x19 : IV) : Option (IV × Hp) :=
  faddrS 0 x33 fun x34 => load1 x34 h15 fun x35 _ => neS EE 3 x35 x17 fun x37 => condS x37 (j1_25 x21 h15) (lenS x16 fun x38 => S58_139 x38 x22 x16 h15 ih x19 x21 j1_25)
noncomputable def S58_141 (x22 : IV) (h4 : Hp) (x16 : IV) (x17 : IV) (x18 : IV) (x19 : IV) (x20 : IV) (q13 : List IV → Hp → Option (IV × Hp)) (h15 : Hp) (x21 : IV) (ih : Handler) : Option (IV × Hp) :=
  (fun (j1_25 : IV → Hp → Option (IV × Hp)) => lenS x16 fun x30 => subS EE 3 x30 (.fv (.int .i64 1)) fun x31 => subS EE 3 x31 x22 fun x32 => ixS 4 x16 x32 fun x33 => S58_140 x33 h15 x17 j1_25 x21 x16 x22 ih x19) fun x26 h27 => S58_133 x22 h4 h27 x16 x17 x18 x19 x20 x26 q13
noncomputable def S58_142 (h15 : Hp) (x20 : IV) (x104 : IV) : Option (IV × Hp) :=
  storeA 3 x20 x104 h15 fun h105 _ _ => cellS true 3 x20 h105 fun x108 => outS1 [x108, .fv (.bool false)] h105
noncomputable def S58_143 (h121 : Hp) (x20 : IV) : Option (IV × Hp) :=
  cellS true 3 x20 h121 fun x124 => outS1 [x124, .fv (.bool true)] h121
noncomputable def S58_144 (ih : Handler) (h15 : Hp) (x18 : IV) (x109 : IV) (x21 : IV) (x20 : IV) : Option (IV × Hp) :=
  isoS [] false false ih 55 [x18, x109] h15 fun x110 h111 _ _ => ixS 1 x21 x110 fun x114 => load1 x114 h111 fun x115 _ => isoS [] false false ih 25 [x115] h111 fun x117 h118 _ _ => storeA 3 x20 x117 h118 fun h121 _ _ => S58_143 h121 x20
noncomputable def S58_145 (x21 : IV) (h15 : Hp) (x20 : IV) (ih : Handler) (x18 : IV) : Option (IV × Hp) :=
  lenS x21 fun x102 => eqS EE 3 x102 (.fv (.int .i64 0)) fun x103 => condS x103 (bldS [.fv (.int .i64 0), .fv (.int .i64 0), .nils] [] fun x104 => S58_142 h15 x20 x104) (lenS x21 fun x109 => S58_144 ih h15 x18 x109 x21 x20)
noncomputable def S58_146 (l129 : List IV) (x16 : IV) (h4 : Hp) (x17 : IV) (x18 : IV) (x19 : IV) (x20 : IV) (q13 : List IV → Hp → Option (IV × Hp)) (h15 : Hp) (ih : Handler) : Option (IV × Hp) :=
  uncS l129 fun x21 l130 => uncS l130 fun x22 _ => lenS x16 fun x23 => ltS EE 3 x22 x23 fun x24 => condS x24 (S58_141 x22 h4 x16 x17 x18 x19 x20 q13 h15 x21 ih) (S58_145 x21 h15 x20 ih x18)
noncomputable def S58_147 (l14 : List IV) (h4 : Hp) (q13 : List IV → Hp → Option (IV × Hp)) (h15 : Hp) (ih : Handler) : Option (IV × Hp) :=
  uncS l14 fun x16 l125 => uncS l125 fun x17 l126 => uncS l126 fun x18 l127 => uncS l127 fun x19 l128 => uncS l128 fun x20 l129 => S58_146 l129 x16 h4 x17 x18 x19 x20 q13 h15 ih
noncomputable def S58 (ih : Handler) (n : Nat) (x0 : IV) (x1 : IV) (x2 : IV) (x3 : IV) (h4 : Hp) : Option (IV × Hp) :=
  boxS 60817408 x2 h4 fun x5 h6 _ _ => newS 60817409 (.row [.fv (.int .i64 0), .fv (.int .i64 0), .nils] false) (.ptr (.own 60817409) 0) h6 fun x9 h10 _ _ => dropS (h4.own.map (·.1)) [60823568, 60825603] [x0, x1, x3, x5, x9, .nils, .fv (.int .i64 0)] h10 fun h132 => loopS n (fun q13 l14 h15 => S58_147 l14 h4 q13 h15 ih) [x0, x1, x3, x5, x9, .nils, .fv (.int .i64 0)] h132
theorem S58_ok (ih : Handler) (n : Nat) (x0 : IV) (x1 : IV) (x2 : IV) (x3 : IV) (h4 : Hp) : funS EE ih ft.get n 58 [x0, x1, x2, x3] h4 = S58 ih n x0 x1 x2 x3 h4 := by kernel_rfl
noncomputable def S59_498 (h128 : Hp) (x13 : IV) (x127 : IV) : Option (IV × Hp) :=
  cellS true 3 x13 h128 fun x131 => outS1 [x131, x127] h128
noncomputable def S59_499 (h113 : Hp) (x50 : IV) (x72 : IV) (x94 : IV) (x13 : IV) (x112 : IV) : Option (IV × Hp) :=
  guardS x50 true h113 (fun k116 => k116 x72 h113 [] []) fun x117 h118 _ _ => pickS x50 x117 (.fv (.bool false)) fun x121 => guardS x121 true h118 (fun k122 => k122 x94 h118 [] []) fun x123 h124 _ _ => pickS x121 x123 (.fv (.bool false)) fun x127 => storeA 3 x13 x112 h124 fun h128 _ _ => S59_498 h128 x13 x127
noncomputable def S59_500 (h99 : Hp) (x51 : IV) (x73 : IV) (x95 : IV) (ih : Handler) (x50 : IV) (x72 : IV) (x94 : IV) (x13 : IV) : Option (IV × Hp) :=
  loadA 3 x51 h99 fun x102 _ => loadA 3 x73 h99 fun x104 _ => loadA 3 x95 h99 fun x106 _ => genS (pcBuildSlice EE 28 3 [(0, x102), (1, x104), (2, x106)]) 61873155 h99 fun x108 h109 _ _ => isoS [] false false ih 24 [.fv (.int .i64 27), x108] h109 fun x112 h113 _ _ => S59_499 h113 x50 x72 x94 x13 x112
noncomputable def S59_501 (x89 : IV) (h90 : Hp) (r91 : List Ref) (w92 : List Ref) (r86 : List Ref) (w87 : List Ref) (r83 : List Ref) (r81 : List Ref) (x93 : IV) (x51 : IV) (x73 : IV) (ih : Handler) (x50 : IV) (x72 : IV) (x13 : IV) : Option (IV × Hp) :=
  extS 1 x89 fun x94 => newS 61872138 (.row [.fv (.int .i64 0), .fv (.int .i64 0), .nils] false) (.ptr (.own 61872138) 0) h90 fun x95 h96 r97 w98 => chkS [(r91, w92), (r86, w87), (r83, []), (r81, [])] r97 w98 (storeA 3 x95 x93 h96 fun h99 r100 w101 => chkS [] r100 w101 (S59_500 h99 x51 x73 x95 ih x50 x72 x94 x13))
noncomputable def S59_502 (r86 : List Ref) (w87 : List Ref) (r81 : List Ref) (x3 : IV) (ih : Handler) (h85 : Hp) (x0 : IV) (x80 : IV) (x84 : IV) (r83 : List Ref) (x51 : IV) (x73 : IV) (x50 : IV) (x72 : IV) (x13 : IV) : Option (IV × Hp) :=
  chkS [(r81, [])] r86 w87 (subS EE 3 x3 (.fv (.int .i64 2)) fun x88 => isoS [] false false ih 33 [x0, x80, x84, x88] h85 fun x89 h90 r91 w92 => chkS [] r91 w92 (extS 0 x89 fun x93 => S59_501 x89 h90 r91 w92 r86 w87 r83 r81 x93 x51 x73 ih x50 x72 x13))
noncomputable def S59_503 (h77 : Hp) (x5 : IV) (x9 : IV) (ih : Handler) (x3 : IV) (x0 : IV) (x51 : IV) (x73 : IV) (x50 : IV) (x72 : IV) (x13 : IV) : Option (IV × Hp) :=
  loadA 3 x5 h77 fun x80 r81 => chkS [] r81 [] (loadA 3 x9 h77 fun x82 r83 => chkS [(r81, [])] r83 [] (isoS [] false false ih 56 [x82, .fv (.int .i64 2)] h77 fun x84 h85 r86 w87 => S59_502 r86 w87 r81 x3 ih h85 x0 x80 x84 r83 x51 x73 x50 x72 x13))
noncomputable def S59_504 (x67 : IV) (h68 : Hp) (r69 : List Ref) (w70 : List Ref) (r64 : List Ref) (w65 : List Ref) (r61 : List Ref) (r59 : List Ref) (x71 : IV) (x5 : IV) (x9 : IV) (ih : Handler) (x3 : IV) (x0 : IV) (x51 : IV) (x50 : IV) (x13 : IV) : Option (IV × Hp) :=
  extS 1 x67 fun x72 => newS 61871114 (.row [.fv (.int .i64 0), .fv (.int .i64 0), .nils] false) (.ptr (.own 61871114) 0) h68 fun x73 h74 r75 w76 => chkS [(r69, w70), (r64, w65), (r61, []), (r59, [])] r75 w76 (storeA 3 x73 x71 h74 fun h77 r78 w79 => chkS [] r78 w79 (S59_503 h77 x5 x9 ih x3 x0 x51 x73 x50 x72 x13))
noncomputable def S59_505 (r64 : List Ref) (w65 : List Ref) (r59 : List Ref) (x3 : IV) (ih : Handler) (h63 : Hp) (x0 : IV) (x58 : IV) (x62 : IV) (r61 : List Ref) (x5 : IV) (x9 : IV) (x51 : IV) (x50 : IV) (x13 : IV) : Option (IV × Hp) :=
  chkS [(r59, [])] r64 w65 (subS EE 3 x3 (.fv (.int .i64 2)) fun x66 => isoS [] false false ih 33 [x0, x58, x62, x66] h63 fun x67 h68 r69 w70 => chkS [] r69 w70 (extS 0 x67 fun x71 => S59_504 x67 h68 r69 w70 r64 w65 r61 r59 x71 x5 x9 ih x3 x0 x51 x50 x13))
noncomputable def S59_506 (h55 : Hp) (x5 : IV) (x9 : IV) (ih : Handler) (x3 : IV) (x0 : IV) (x51 : IV) (x50 : IV) (x13 : IV) : Option (IV × Hp) :=
  loadA 3 x5 h55 fun x58 r59 => chkS [] r59 [] (loadA 3 x9 h55 fun x60 r61 => chkS [(r59, [])] r61 [] (isoS [] false false ih 56 [x60, .fv (.int .i64 1)] h55 fun x62 h63 r64 w65 => S59_505 r64 w65 r59 x3 ih h63 x0 x58 x62 r61 x5 x9 x51 x50 x13))
noncomputable def S59_507 (x45 : IV) (h46 : Hp) (r47 : List Ref) (w48 : List Ref) (r42 : List Ref) (w43 : List Ref) (r39 : List Ref) (r37 : List Ref) (x49 : IV) (x5 : IV) (x9 : IV) (ih : Handler) (x3 : IV) (x0 : IV) (x13 : IV) : Option (IV × Hp) :=
  extS 1 x45 fun x50 => newS 61870090 (.row [.fv (.int .i64 0), .fv (.int .i64 0), .nils] false) (.ptr (.own 61870090) 0) h46 fun x51 h52 r53 w54 => chkS [(r47, w48), (r42, w43), (r39, []), (r37, [])] r53 w54 (storeA 3 x51 x49 h52 fun h55 r56 w57 => chkS [] r56 w57 (S59_506 h55 x5 x9 ih x3 x0 x51 x50 x13))
noncomputable def S59_508 (r42 : List Ref) (w43 : List Ref) (r37 : List Ref) (x3 : IV) (ih : Handler) (h41 : Hp) (x0 : IV) (x36 : IV) (x40 : IV) (r39 : List Ref) (x5 : IV) (x9 : IV) (x13 : IV) : Option (IV × Hp) :=
  chkS [(r37, [])] r42 w43 (subS EE 3 x3 (.fv (.int .i64 2)) fun x44 => isoS [] false false ih 33 [x0, x36, x40, x44] h41 fun x45 h46 r47 w48 => chkS [] r47 w48 (extS 0 x45 fun x49 => S59_507 x45 h46 r47 w48 r42 w43 r39 r37 x49 x5 x9 ih x3 x0 x13))
noncomputable def S59_509 (h32 : Hp) (x21 : IV) (x9 : IV) (ih : Handler) (x3 : IV) (x0 : IV) (x5 : IV) (x13 : IV) : Option (IV × Hp) :=
  loadA 3 x21 h32 fun x36 r37 => chkS [] r37 [] (loadA 3 x9 h32 fun x38 r39 => chkS [(r37, [])] r39 [] (isoS [] false false ih 56 [x38, .fv (.int .i64 0)] h32 fun x40 h41 r42 w43 => S59_508 r42 w43 r37 x3 ih h41 x0 x36 x40 r39 x5 x9 x13))
noncomputable def S59_510 (h218 : Hp) (x13 : IV) (x212 : IV) (x221 : IV) : Option (IV × Hp) :=
  storeA 3 x13 x212 h218 fun h222 _ _ => cellS true 3 x13 h222 fun x225 => outS1 [x225, x221] h222
noncomputable def S59_511 (h201 : Hp) (x197 : IV) (x204 : IV) (ih : Handler) (x164 : IV) (x196 : IV) (x13 : IV) : Option (IV × Hp) :=
  loadA 3 x197 h201 fun x206 _ => genS (pcBuildSlice EE 28 2 [(0, x204), (1, x206)]) 61878274 h201 fun x208 h209 _ _ => isoS [] false false ih 24 [.fv (.int .i64 28), x208] h209 fun x212 h213 _ _ => guardS x164 true h213 (fun k216 => k216 x196 h213 [] []) fun x217 h218 _ _ => pickS x164 x217 (.fv (.bool false)) fun x221 => S59_510 h218 x13 x212 x221
noncomputable def S59_512 (h192 : Hp) (r193 : List Ref) (w194 : List Ref) (r188 : List Ref) (w189 : List Ref) (r185 : List Ref) (r182 : List Ref) (w183 : List Ref) (r179 : List Ref) (r176 : List Ref) (w177 : List Ref) (r173 : List Ref) (x195 : IV) (x165 : IV) (ih : Handler) (x164 : IV) (x196 : IV) (x13 : IV) : Option (IV × Hp) :=
  newS 61877261 (.row [.fv (.int .i64 0), .fv (.int .i64 0), .nils] false) (.ptr (.own 61877261) 0) h192 fun x197 h198 r199 w200 => chkS [(r193, w194), (r188, w189), (r185, []), (r182, w183), (r179, []), (r176, w177), (r173, [])] r199 w200 (storeA 3 x197 x195 h198 fun h201 r202 w203 => chkS [] r202 w203 (loadA 3 x165 h201 fun x204 _ => S59_511 h201 x197 x204 ih x164 x196 x13))
noncomputable def S59_513 (x3 : IV) (ih : Handler) (h187 : Hp) (x174 : IV) (x180 : IV) (x186 : IV) (r188 : List Ref) (w189 : List Ref) (r185 : List Ref) (r182 : List Ref) (w183 : List Ref) (r179 : List Ref) (r176 : List Ref) (w177 : List Ref) (r173 : List Ref) (x165 : IV) (x164 : IV) (x13 : IV) : Option (IV × Hp) :=
  subS EE 3 x3 (.fv (.int .i64 2)) fun x190 => isoS [] false false ih 33 [x174, x180, x186, x190] h187 fun x191 h192 r193 w194 => chkS [] r193 w194 (extS 0 x191 fun x195 => extS 1 x191 fun x196 => S59_512 h192 r193 w194 r188 w189 r185 r182 w183 r179 r176 w177 r173 x195 x165 ih x164 x196 x13)
noncomputable def S59_514 (r182 : List Ref) (w183 : List Ref) (h181 : Hp) (x9 : IV) (r179 : List Ref) (r176 : List Ref) (w177 : List Ref) (r173 : List Ref) (ih : Handler) (x3 : IV) (x174 : IV) (x180 : IV) (x165 : IV) (x164 : IV) (x13 : IV) : Option (IV × Hp) :=
  chkS [] r182 w183 (loadA 3 x9 h181 fun x184 r185 => chkS [(r182, w183), (r179, []), (r176, w177), (r173, [])] r185 [] (isoS [] false false ih 56 [x184, .fv (.int .i64 2)] h181 fun x186 h187 r188 w189 => chkS [] r188 w189 (S59_513 x3 ih h187 x174 x180 x186 r188 w189 r185 r182 w183 r179 r176 w177 r173 x165 x164 x13)))
noncomputable def S59_515 (ih : Handler) (h169 : Hp) (x0 : IV) (x172 : IV) (x5 : IV) (r173 : List Ref) (x9 : IV) (x3 : IV) (x165 : IV) (x164 : IV) (x13 : IV) : Option (IV × Hp) :=
  isoS [] false false ih 60 [x0, .fv (.int .i64 0), x172] h169 fun x174 h175 r176 w177 => chkS [] r176 w177 (loadA 3 x5 h175 fun x178 r179 => chkS [(r176, w177), (r173, [])] r179 [] (isoS [] false false ih 45 [x178, .fv (.int .i64 1), .fv (.int .i64 0)] h175 fun x180 h181 r182 w183 => S59_514 r182 w183 h181 x9 r179 r176 w177 r173 ih x3 x174 x180 x165 x164 x13))
noncomputable def S59_516 (r167 : List Ref) (w168 : List Ref) (r161 : List Ref) (w162 : List Ref) (r156 : List Ref) (w157 : List Ref) (r153 : List Ref) (r151 : List Ref) (h166 : Hp) (x165 : IV) (x163 : IV) (x143 : IV) (ih : Handler) (x0 : IV) (x5 : IV) (x9 : IV) (x3 : IV) (x164 : IV) (x13 : IV) : Option (IV × Hp) :=
  chkS [(r161, w162), (r156, w157), (r153, []), (r151, [])] r167 w168 (storeA 3 x165 x163 h166 fun h169 r170 w171 => chkS [] r170 w171 (loadA 3 x143 h169 fun x172 r173 => chkS [] r173 [] (S59_515 ih h169 x0 x172 x5 r173 x9 x3 x165 x164 x13)))
noncomputable def S59_517 (ih : Handler) (h155 : Hp) (x0 : IV) (x150 : IV) (x154 : IV) (x158 : IV) (r156 : List Ref) (w157 : List Ref) (r153 : List Ref) (r151 : List Ref) (x143 : IV) (x5 : IV) (x9 : IV) (x3 : IV) (x13 : IV) : Option (IV × Hp) :=
  isoS [] false false ih 33 [x0, x150, x154, x158] h155 fun x159 h160 r161 w162 => chkS [] r161 w162 (extS 0 x159 fun x163 => extS 1 x159 fun x164 => newS 61876234 (.row [.fv (.int .i64 0), .fv (.int .i64 0), .nils] false) (.ptr (.own 61876234) 0) h160 fun x165 h166 r167 w168 => S59_516 r167 w168 r161 w162 r156 w157 r153 r151 h166 x165 x163 x143 ih x0 x5 x9 x3 x164 x13)
noncomputable def S59_518 (h147 : Hp) (x9 : IV) (r151 : List Ref) (ih : Handler) (x3 : IV) (x0 : IV) (x150 : IV) (x143 : IV) (x5 : IV) (x13 : IV) : Option (IV × Hp) :=
  loadA 3 x9 h147 fun x152 r153 => chkS [(r151, [])] r153 [] (isoS [] false false ih 56 [x152, .fv (.int .i64 1)] h147 fun x154 h155 r156 w157 => chkS [(r151, [])] r156 w157 (subS EE 3 x3 (.fv (.int .i64 2)) fun x158 => S59_517 ih h155 x0 x150 x154 x158 r156 w157 r153 r151 x143 x5 x9 x3 x13))
noncomputable def S59_519 (ih : Handler) (h136 : Hp) (x135 : IV) (x9 : IV) (x3 : IV) (x0 : IV) (x5 : IV) (x13 : IV) : Option (IV × Hp) :=
  isoS [] false false ih 28 [x135, .fv (.int .i64 1)] h136 fun x139 h140 _ _ => newS 61875203 (.row [.fv (.int .i64 0), .fv (.int .i64 0), .nils] false) (.ptr (.own 61875203) 0) h140 fun x143 h144 _ _ => storeA 3 x143 x139 h144 fun h147 _ _ => loadA 3 x143 h147 fun x150 r151 => chkS [] r151 [] (S59_518 h147 x9 r151 ih x3 x0 x150 x143 x5 x13)
noncomputable def S59_520 (h317 : Hp) (x258 : IV) (x290 : IV) (x13 : IV) (x316 : IV) : Option (IV × Hp) :=
  guardS x258 true h317 (fun k320 => k320 x290 h317 [] []) fun x321 h322 _ _ => pickS x258 x321 (.fv (.bool false)) fun x325 => storeA 3 x13 x316 h322 fun h326 r327 w328 => chkS [] r327 w328 (cellS true 3 x13 h326 fun x329 => outS1 [x329, x325] h326)
noncomputable def S59_521 (r311 : List Ref) (r308 : List Ref) (w309 : List Ref) (r304 : List Ref) (w305 : List Ref) (r301 : List Ref) (r299 : List Ref) (h307 : Hp) (x306 : IV) (x310 : IV) (ih : Handler) (x258 : IV) (x290 : IV) (x13 : IV) : Option (IV × Hp) :=
  chkS [(r308, w309), (r304, w305), (r301, []), (r299, [])] r311 [] (genS (pcBuildSlice EE 28 2 [(0, x306), (1, x310)]) 61883397 h307 fun x312 h313 r314 w315 => chkS [] r314 w315 (isoS [] false false ih 24 [.fv (.int .i64 21), x312] h313 fun x316 h317 r318 w319 => chkS [] r318 w319 (S59_520 h317 x258 x290 x13 x316)))
noncomputable def S59_522 (h295 : Hp) (x298 : IV) (x300 : IV) (ih : Handler) (x259 : IV) (r301 : List Ref) (r299 : List Ref) (x258 : IV) (x290 : IV) (x13 : IV) : Option (IV × Hp) :=
  genS (pcBuildSlice EE 28 2 [(0, x298), (1, x300)]) 61883394 h295 fun x302 h303 r304 w305 => chkS [] r304 w305 (isoS [] false false ih 24 [.fv (.int .i64 20), x302] h303 fun x306 h307 r308 w309 => chkS [] r308 w309 (loadA 3 x259 h307 fun x310 r311 => S59_521 r311 r308 w309 r304 w305 r301 r299 h307 x306 x310 ih x258 x290 x13))
noncomputable def S59_523 (r296 : List Ref) (w297 : List Ref) (h295 : Hp) (x237 : IV) (x291 : IV) (ih : Handler) (x259 : IV) (x258 : IV) (x290 : IV) (x13 : IV) : Option (IV × Hp) :=
  chkS [] r296 w297 (loadA 3 x237 h295 fun x298 r299 => chkS [] r299 [] (loadA 3 x291 h295 fun x300 r301 => chkS [(r299, [])] r301 [] (S59_522 h295 x298 x300 ih x259 r301 r299 x258 x290 x13)))
noncomputable def S59_524 (x285 : IV) (h286 : Hp) (r287 : List Ref) (w288 : List Ref) (r282 : List Ref) (w283 : List Ref) (r279 : List Ref) (r276 : List Ref) (w277 : List Ref) (r273 : List Ref) (r270 : List Ref) (w271 : List Ref) (r267 : List Ref) (x237 : IV) (ih : Handler) (x259 : IV) (x258 : IV) (x13 : IV) : Option (IV × Hp) :=
  extS 0 x285 fun x289 => extS 1 x285 fun x290 => newS 61882381 (.row [.fv (.int .i64 0), .fv (.int .i64 0), .nils] false) (.ptr (.own 61882381) 0) h286 fun x291 h292 r293 w294 => chkS [(r287, w288), (r282, w283), (r279, []), (r276, w277), (r273, []), (r270, w271), (r267, [])] r293 w294 (storeA 3 x291 x289 h292 fun h295 r296 w297 => S59_523 r296 w297 h295 x237 x291 ih x259 x258 x290 x13)
noncomputable def S59_525 (ih : Handler) (h275 : Hp) (x278 : IV) (x3 : IV) (x268 : IV) (x274 : IV) (r279 : List Ref) (r276 : List Ref) (w277 : List Ref) (r273 : List Ref) (r270 : List Ref) (w271 : List Ref) (r267 : List Ref) (x237 : IV) (x259 : IV) (x258 : IV) (x13 : IV) : Option (IV × Hp) :=
  isoS [] false false ih 56 [x278, .fv (.int .i64 2)] h275 fun x280 h281 r282 w283 => chkS [] r282 w283 (subS EE 3 x3 (.fv (.int .i64 2)) fun x284 => isoS [] false false ih 33 [x268, x274, x280, x284] h281 fun x285 h286 r287 w288 => chkS [] r287 w288 (S59_524 x285 h286 r287 w288 r282 w283 r279 r276 w277 r273 r270 w271 r267 x237 ih x259 x258 x13))
noncomputable def S59_526 (r273 : List Ref) (r270 : List Ref) (w271 : List Ref) (r267 : List Ref) (ih : Handler) (h269 : Hp) (x272 : IV) (x9 : IV) (x3 : IV) (x268 : IV) (x237 : IV) (x259 : IV) (x258 : IV) (x13 : IV) : Option (IV × Hp) :=
  chkS [(r270, w271), (r267, [])] r273 [] (isoS [] false false ih 45 [x272, .fv (.int .i64 1), .fv (.int .i64 0)] h269 fun x274 h275 r276 w277 => chkS [] r276 w277 (loadA 3 x9 h275 fun x278 r279 => chkS [(r276, w277), (r273, []), (r270, w271), (r267, [])] r279 [] (S59_525 ih h275 x278 x3 x268 x274 r279 r276 w277 r273 r270 w271 r267 x237 x259 x258 x13)))
noncomputable def S59_527 (h263 : Hp) (x237 : IV) (ih : Handler) (x0 : IV) (x5 : IV) (x9 : IV) (x3 : IV) (x259 : IV) (x258 : IV) (x13 : IV) : Option (IV × Hp) :=
  loadA 3 x237 h263 fun x266 r267 => chkS [] r267 [] (isoS [] false false ih 60 [x0, .fv (.int .i64 0), x266] h263 fun x268 h269 r270 w271 => chkS [] r270 w271 (loadA 3 x5 h269 fun x272 r273 => S59_526 r273 r270 w271 r267 ih h269 x272 x9 x3 x268 x237 x259 x258 x13))
noncomputable def S59_528 (x253 : IV) (h254 : Hp) (r255 : List Ref) (w256 : List Ref) (r250 : List Ref) (w251 : List Ref) (r247 : List Ref) (r245 : List Ref) (x257 : IV) (x237 : IV) (ih : Handler) (x0 : IV) (x5 : IV) (x9 : IV) (x3 : IV) (x13 : IV) : Option (IV × Hp) :=
  extS 1 x253 fun x258 => newS 61881354 (.row [.fv (.int .i64 0), .fv (.int .i64 0), .nils] false) (.ptr (.own 61881354) 0) h254 fun x259 h260 r261 w262 => chkS [(r255, w256), (r250, w251), (r247, []), (r245, [])] r261 w262 (storeA 3 x259 x257 h260 fun h263 r264 w265 => chkS [] r264 w265 (S59_527 h263 x237 ih x0 x5 x9 x3 x259 x258 x13))
noncomputable def S59_529 (r250 : List Ref) (w251 : List Ref) (r245 : List Ref) (x3 : IV) (ih : Handler) (h249 : Hp) (x0 : IV) (x244 : IV) (x248 : IV) (r247 : List Ref) (x237 : IV) (x5 : IV) (x9 : IV) (x13 : IV) : Option (IV × Hp) :=
  chkS [(r245, [])] r250 w251 (subS EE 3 x3 (.fv (.int .i64 2)) fun x252 => isoS [] false false ih 33 [x0, x244, x248, x252] h249 fun x253 h254 r255 w256 => chkS [] r255 w256 (extS 0 x253 fun x257 => S59_528 x253 h254 r255 w256 r250 w251 r247 r245 x257 x237 ih x0 x5 x9 x3 x13))
noncomputable def S59_530 (h241 : Hp) (x237 : IV) (x9 : IV) (ih : Handler) (x3 : IV) (x0 : IV) (x5 : IV) (x13 : IV) : Option (IV × Hp) :=
  loadA 3 x237 h241 fun x244 r245 => chkS [] r245 [] (loadA 3 x9 h241 fun x246 r247 => chkS [(r245, [])] r247 [] (isoS [] false false ih 56 [x246, .fv (.int .i64 1)] h241 fun x248 h249 r250 w251 => S59_529 r250 w251 r245 x3 ih h249 x0 x244 x248 r247 x237 x5 x9 x13))
noncomputable def S59_531 (h32 : Hp) (x9 : IV) (ih : Handler) (x3 : IV) (x0 : IV) (x5 : IV) (x13 : IV) : Option (IV × Hp) :=
  loadA 3 x9 h32 fun x227 _ => isoS [] false false ih 56 [x227, .fv (.int .i64 0)] h32 fun x229 h230 _ _ => isoS [] false false ih 28 [x229, .fv (.int .i64 1)] h230 fun x233 h234 _ _ => newS 61880323 (.row [.fv (.int .i64 0), .fv (.int .i64 0), .nils] false) (.ptr (.own 61880323) 0) h234 fun x237 h238 _ _ => storeA 3 x237 x233 h238 fun h241 _ _ => S59_530 h241 x237 x9 ih x3 x0 x5 x13
noncomputable def S59_532 (x345 : IV) (x396 : IV) (h397 : Hp) (x13 : IV) (x391 : IV) : Option (IV × Hp) :=
  pickS x345 x396 (.fv (.bool false)) fun x400 => storeA 3 x13 x391 h397 fun h401 _ _ => cellS true 3 x13 h401 fun x404 => outS1 [x404, x400] h401
noncomputable def S59_533 (h372 : Hp) (x375 : IV) (x377 : IV) (ih : Handler) (x345 : IV) (x367 : IV) (x13 : IV) : Option (IV × Hp) :=
  genS (pcBuildSlice EE 28 2 [(0, x375), (1, x377)]) 61887490 h372 fun x379 h380 _ _ => isoS [] false false ih 24 [.fv (.int .i64 22), x379] h380 fun x383 h384 _ _ => genS (pcBuildSlice EE 28 1 [(0, x383)]) 61887492 h384 fun x387 h388 _ _ => isoS [] false false ih 24 [.fv (.int .i64 23), x387] h388 fun x391 h392 _ _ => guardS x345 true h392 (fun k395 => k395 x367 h392 [] []) fun x396 h397 _ _ => S59_532 x345 x396 h397 x13 x391
noncomputable def S59_534 (r370 : List Ref) (w371 : List Ref) (r364 : List Ref) (w365 : List Ref) (r359 : List Ref) (w360 : List Ref) (r356 : List Ref) (r354 : List Ref) (h369 : Hp) (x368 : IV) (x366 : IV) (x346 : IV) (ih : Handler) (x345 : IV) (x367 : IV) (x13 : IV) : Option (IV × Hp) :=
  chkS [(r364, w365), (r359, w360), (r356, []), (r354, [])] r370 w371 (storeA 3 x368 x366 h369 fun h372 r373 w374 => chkS [] r373 w374 (loadA 3 x346 h372 fun x375 _ => loadA 3 x368 h372 fun x377 _ => S59_533 h372 x375 x377 ih x345 x367 x13))
noncomputable def S59_535 (ih : Handler) (h358 : Hp) (x0 : IV) (x353 : IV) (x357 : IV) (x361 : IV) (r359 : List Ref) (w360 : List Ref) (r356 : List Ref) (r354 : List Ref) (x346 : IV) (x345 : IV) (x13 : IV) : Option (IV × Hp) :=
  isoS [] false false ih 33 [x0, x353, x357, x361] h358 fun x362 h363 r364 w365 => chkS [] r364 w365 (extS 0 x362 fun x366 => extS 1 x362 fun x367 => newS 61886474 (.row [.fv (.int .i64 0), .fv (.int .i64 0), .nils] false) (.ptr (.own 61886474) 0) h363 fun x368 h369 r370 w371 => S59_534 r370 w371 r364 w365 r359 w360 r356 r354 h369 x368 x366 x346 ih x345 x367 x13)
noncomputable def S59_536 (h350 : Hp) (x9 : IV) (r354 : List Ref) (ih : Handler) (x3 : IV) (x0 : IV) (x353 : IV) (x346 : IV) (x345 : IV) (x13 : IV) : Option (IV × Hp) :=
  loadA 3 x9 h350 fun x355 r356 => chkS [(r354, [])] r356 [] (isoS [] false false ih 56 [x355, .fv (.int .i64 1)] h350 fun x357 h358 r359 w360 => chkS [(r354, [])] r359 w360 (subS EE 3 x3 (.fv (.int .i64 2)) fun x361 => S59_535 ih h358 x0 x353 x357 x361 r359 w360 r356 r354 x346 x345 x13))
noncomputable def S59_537 (r348 : List Ref) (w349 : List Ref) (r342 : List Ref) (w343 : List Ref) (r337 : List Ref) (w338 : List Ref) (r334 : List Ref) (r332 : List Ref) (h347 : Hp) (x346 : IV) (x344 : IV) (x21 : IV) (x9 : IV) (ih : Handler) (x3 : IV) (x0 : IV) (x345 : IV) (x13 : IV) : Option (IV × Hp) :=
  chkS [(r342, w343), (r337, w338), (r334, []), (r332, [])] r348 w349 (storeA 3 x346 x344 h347 fun h350 r351 w352 => chkS [] r351 w352 (loadA 3 x21 h350 fun x353 r354 => chkS [] r354 [] (S59_536 h350 x9 r354 ih x3 x0 x353 x346 x345 x13)))
noncomputable def S59_538 (ih : Handler) (h336 : Hp) (x0 : IV) (x331 : IV) (x335 : IV) (x339 : IV) (r337 : List Ref) (w338 : List Ref) (r334 : List Ref) (r332 : List Ref) (x21 : IV) (x9 : IV) (x3 : IV) (x13 : IV) : Option (IV × Hp) :=
  isoS [] false false ih 33 [x0, x331, x335, x339] h336 fun x340 h341 r342 w343 => chkS [] r342 w343 (extS 0 x340 fun x344 => extS 1 x340 fun x345 => newS 61885450 (.row [.fv (.int .i64 0), .fv (.int .i64 0), .nils] false) (.ptr (.own 61885450) 0) h341 fun x346 h347 r348 w349 => S59_537 r348 w349 r342 w343 r337 w338 r334 r332 h347 x346 x344 x21 x9 ih x3 x0 x345 x13)
noncomputable def S59_539 (h32 : Hp) (x9 : IV) (r332 : List Ref) (ih : Handler) (x3 : IV) (x0 : IV) (x331 : IV) (x21 : IV) (x13 : IV) : Option (IV × Hp) :=
  loadA 3 x9 h32 fun x333 r334 => chkS [(r332, [])] r334 [] (isoS [] false false ih 56 [x333, .fv (.int .i64 0)] h32 fun x335 h336 r337 w338 => chkS [(r332, [])] r337 w338 (subS EE 3 x3 (.fv (.int .i64 2)) fun x339 => S59_538 ih h336 x0 x331 x335 x339 r337 w338 r334 r332 x21 x9 x3 x13))
noncomputable def S59_540 (h447 : Hp) (x13 : IV) (x446 : IV) (x430 : IV) : Option (IV × Hp) :=
  storeA 3 x13 x446 h447 fun h450 _ _ => cellS true 3 x13 h450 fun x453 => outS1 [x453, x430] h450
noncomputable def S59_541 (r436 : List Ref) (w437 : List Ref) (h435 : Hp) (x5 : IV) (x431 : IV) (ih : Handler) (x13 : IV) (x430 : IV) : Option (IV × Hp) :=
  chkS [] r436 w437 (loadA 3 x5 h435 fun x438 _ => loadA 3 x431 h435 fun x440 _ => genS (pcBuildSlice EE 28 2 [(0, x438), (1, x440)]) 61890562 h435 fun x442 h443 _ _ => isoS [] false false ih 24 [.fv (.int .i64 29), x442] h443 fun x446 h447 _ _ => S59_540 h447 x13 x446 x430)
noncomputable def S59_542 (x425 : IV) (h426 : Hp) (r427 : List Ref) (w428 : List Ref) (r422 : List Ref) (w423 : List Ref) (r419 : List Ref) (r416 : List Ref) (w417 : List Ref) (r413 : List Ref) (r410 : List Ref) (w411 : List Ref) (r407 : List Ref) (x5 : IV) (ih : Handler) (x13 : IV) : Option (IV × Hp) :=
  extS 0 x425 fun x429 => extS 1 x425 fun x430 => newS 61889549 (.row [.fv (.int .i64 0), .fv (.int .i64 0), .nils] false) (.ptr (.own 61889549) 0) h426 fun x431 h432 r433 w434 => chkS [(r427, w428), (r422, w423), (r419, []), (r416, w417), (r413, []), (r410, w411), (r407, [])] r433 w434 (storeA 3 x431 x429 h432 fun h435 r436 w437 => S59_541 r436 w437 h435 x5 x431 ih x13 x430)
noncomputable def S59_543 (ih : Handler) (h415 : Hp) (x418 : IV) (x3 : IV) (x408 : IV) (x414 : IV) (r419 : List Ref) (r416 : List Ref) (w417 : List Ref) (r413 : List Ref) (r410 : List Ref) (w411 : List Ref) (r407 : List Ref) (x5 : IV) (x13 : IV) : Option (IV × Hp) :=
  isoS [] false false ih 56 [x418, .fv (.int .i64 0)] h415 fun x420 h421 r422 w423 => chkS [] r422 w423 (subS EE 3 x3 (.fv (.int .i64 2)) fun x424 => isoS [] false false ih 33 [x408, x414, x420, x424] h421 fun x425 h426 r427 w428 => chkS [] r427 w428 (S59_542 x425 h426 r427 w428 r422 w423 r419 r416 w417 r413 r410 w411 r407 x5 ih x13))
noncomputable def S59_544 (r413 : List Ref) (r410 : List Ref) (w411 : List Ref) (r407 : List Ref) (ih : Handler) (h409 : Hp) (x412 : IV) (x9 : IV) (x3 : IV) (x408 : IV) (x5 : IV) (x13 : IV) : Option (IV × Hp) :=
  chkS [(r410, w411), (r407, [])] r413 [] (isoS [] false false ih 45 [x412, .fv (.int .i64 1), .fv (.int .i64 0)] h409 fun x414 h415 r416 w417 => chkS [] r416 w417 (loadA 3 x9 h415 fun x418 r419 => chkS [(r416, w417), (r413, []), (r410, w411), (r407, [])] r419 [] (S59_543 ih h415 x418 x3 x408 x414 r419 r416 w417 r413 r410 w411 r407 x5 x13)))
noncomputable def S59_545 (h32 : Hp) (x5 : IV) (ih : Handler) (x0 : IV) (x9 : IV) (x3 : IV) (x13 : IV) : Option (IV × Hp) :=
  loadA 3 x5 h32 fun x406 r407 => chkS [] r407 [] (isoS [] false false ih 60 [x0, .fv (.int .i64 0), x406] h32 fun x408 h409 r410 w411 => chkS [] r410 w411 (loadA 3 x5 h409 fun x412 r413 => S59_544 r413 r410 w411 r407 ih h409 x412 x9 x3 x408 x5 x13))
noncomputable def S59_546 (h481 : Hp) (x484 : IV) (ih : Handler) (x13 : IV) (x476 : IV) : Option (IV × Hp) :=
  genS (pcBuildSlice EE 28 1 [(0, x484)]) 61892609 h481 fun x486 h487 _ _ => isoS [] false false ih 24 [.fv (.int .i64 30), x486] h487 fun x490 h491 _ _ => storeA 3 x13 x490 h491 fun h494 _ _ => cellS true 3 x13 h494 fun x497 => outS1 [x497, x476] h494
noncomputable def S59_547 (h472 : Hp) (r473 : List Ref) (w474 : List Ref) (r468 : List Ref) (w469 : List Ref) (r465 : List Ref) (r462 : List Ref) (w463 : List Ref) (r458 : List Ref) (w459 : List Ref) (r455 : List Ref) (x475 : IV) (ih : Handler) (x13 : IV) (x476 : IV) : Option (IV × Hp) :=
  newS 61891596 (.row [.fv (.int .i64 0), .fv (.int .i64 0), .nils] false) (.ptr (.own 61891596) 0) h472 fun x477 h478 r479 w480 => chkS [(r473, w474), (r468, w469), (r465, []), (r462, w463), (r458, w459), (r455, [])] r479 w480 (storeA 3 x477 x475 h478 fun h481 r482 w483 => chkS [] r482 w483 (loadA 3 x477 h481 fun x484 _ => S59_546 h481 x484 ih x13 x476))
noncomputable def S59_548 (x3 : IV) (ih : Handler) (h467 : Hp) (x0 : IV) (x460 : IV) (x466 : IV) (r468 : List Ref) (w469 : List Ref) (r465 : List Ref) (r462 : List Ref) (w463 : List Ref) (r458 : List Ref) (w459 : List Ref) (r455 : List Ref) (x13 : IV) : Option (IV × Hp) :=
  subS EE 3 x3 (.fv (.int .i64 1)) fun x470 => isoS [] false false ih 39 [x0, x460, x466, x470] h467 fun x471 h472 r473 w474 => chkS [] r473 w474 (extS 0 x471 fun x475 => extS 1 x471 fun x476 => S59_547 h472 r473 w474 r468 w469 r465 r462 w463 r458 w459 r455 x475 ih x13 x476)
noncomputable def S59_549 (r462 : List Ref) (w463 : List Ref) (h461 : Hp) (x9 : IV) (r458 : List Ref) (w459 : List Ref) (r455 : List Ref) (ih : Handler) (x3 : IV) (x0 : IV) (x460 : IV) (x13 : IV) : Option (IV × Hp) :=
  chkS [] r462 w463 (loadA 3 x9 h461 fun x464 r465 => chkS [(r462, w463), (r458, w459), (r455, [])] r465 [] (isoS [] false false ih 56 [x464, .fv (.int .i64 0)] h461 fun x466 h467 r468 w469 => chkS [] r468 w469 (S59_548 x3 ih h467 x0 x460 x466 r468 w469 r465 r462 w463 r458 w459 r455 x13)))
noncomputable def S59_550 (h32 : Hp) (x5 : IV) (ih : Handler) (x9 : IV) (x3 : IV) (x0 : IV) (x13 : IV) : Option (IV × Hp) :=
  loadA 3 x5 h32 fun x454 r455 => chkS [] r455 [] (genS (pcBuildSlice EE 28 1 [(0, x454)]) 61891586 h32 fun x456 h457 r458 w459 => chkS [] r458 w459 (isoS [] false false ih 24 [.fv (.int .i64 18), x456] h457 fun x460 h461 r462 w463 => S59_549 r462 w463 h461 x9 r458 w459 r455 ih x3 x0 x460 x13))
noncomputable def S59_551 (x31 : IV) (h32 : Hp) (x5 : IV) (x9 : IV) (ih : Handler) (x3 : IV) (x0 : IV) (x21 : IV) (x13 : IV) : Option (IV × Hp) :=
  eqS EE 3 x31 (.fv (.int .i64 3)) fun x330 => condS x330 (loadA 3 x5 h32 fun x331 r332 => chkS [] r332 [] (S59_539 h32 x9 r332 ih x3 x0 x331 x21 x13)) (eqS EE 3 x31 (.fv (.int .i64 4)) fun x405 => condS x405 (S59_545 h32 x5 ih x0 x9 x3 x13) (S59_550 h32 x5 ih x9 x3 x0 x13))
noncomputable def S59_552 (x31 : IV) (h32 : Hp) (x9 : IV) (ih : Handler) (x3 : IV) (x0 : IV) (x5 : IV) (x13 : IV) (x21 : IV) : Option (IV × Hp) :=
  eqS EE 3 x31 (.fv (.int .i64 1)) fun x132 => condS x132 (loadA 3 x9 h32 fun x133 _ => isoS [] false false ih 56 [x133, .fv (.int .i64 0)] h32 fun x135 h136 _ _ => S59_519 ih h136 x135 x9 x3 x0 x5 x13) (eqS EE 3 x31 (.fv (.int .i64 2)) fun x226 => condS x226 (S59_531 h32 x9 ih x3 x0 x5 x13) (S59_551 x31 h32 x5 x9 ih x3 x0 x21 x13))
noncomputable def S59_553 (x9 : IV) (h25 : Hp) (ih : Handler) (x21 : IV) (x3 : IV) (x0 : IV) (x5 : IV) (x13 : IV) : Option (IV × Hp) :=
  faddrS 1 x9 fun x28 => load1 x28 h25 fun x29 _ => isoS [] false false ih 55 [x29, .fv (.int .i64 7)] h25 fun x31 h32 _ _ => eqS EE 3 x31 (.fv (.int .i64 0)) fun x35 => condS x35 (S59_509 h32 x21 x9 ih x3 x0 x5 x13) (S59_552 x31 h32 x9 ih x3 x0 x5 x13 x21)
noncomputable def S59 (ih : Handler) (n : Nat) (x0 : IV) (x1 : IV) (x2 : IV) (x3 : IV) (h4 : Hp) : Option (IV × Hp) :=
  boxS 61865984 x1 h4 fun x5 h6 _ _ => boxS 61865985 x2 h6 fun x9 h10 _ _ => newS 61865986 (.row [.fv (.int .i64 0), .fv (.int .i64 0), .nils] false) (.ptr (.own 61865986) 0) h10 fun x13 h14 _ _ => isoS [] false false ih 24 [.fv (.int .i64 15), .nils] h14 fun x17 h18 _ _ => newS 61867009 (.row [.fv (.int .i64 0), .fv (.int .i64 0), .nils] false) (.ptr (.own 61867009) 0) h18 fun x21 h22 _ _ => storeA 3 x21 x17 h22 fun h25 _ _ => S59_553 x9 h25 ih x21 x3 x0 x5 x13
theorem S59_ok (ih : Handler) (n : Nat) (x0 : IV) (x1 : IV) (x2 : IV) (x3 : IV) (h4 : Hp) : funS EE ih ft.get n 59 [x0, x1, x2, x3] h4 = S59 ih n x0 x1 x2 x3 h4 := by kernel_rfl
noncomputable def S60_27 (r25 : List Ref) (w26 : List Ref) (h24 : Hp) (x23 : IV) : Option (IV × Hp) :=
  chkS [] r25 w26 (outS1 [x23] h24)
noncomputable def S60_28 (r17 : List Ref) (r14 : List Ref) (w15 : List Ref) (r10 : List Ref) (w11 : List Ref) (x1 : IV) (x16 : IV) (h13 : Hp) (x12 : IV) : Option (IV × Hp) :=
  chkS [(r14, w15), (r10, w11)] r17 [] (bldS [.fv (.int .i64 0), .fv (.int .i64 0), .fv (.int .i64 0), .nils] [(0, 1, x1), (1, 3, x16)] fun x18 => genS (pcBuildSlice EE 27 1 [(0, x18)]) 62915590 h13 fun x19 h20 r21 w22 => chkS [(r14, w15), (r10, w11)] r21 w22 (genS (builtinR EE 62915591 false .append [27, 27] [x12, x19]) 62915591 h20 fun x23 h24 r25 w26 => S60_27 r25 w26 h24 x23))
noncomputable def S60 (ih : Handler) (n : Nat) (x0 : IV) (x1 : IV) (x2 : IV) (h3 : Hp) : Option (IV × Hp) :=
  boxS 62914560 x2 h3 fun x4 h5 _ _ => genS (pcBuildSlice EE 27 0 []) 62915584 h5 fun x8 h9 r10 w11 => chkS [] r10 w11 (genS (builtinR EE 62915586 false .append [27, 27] [x8, x0]) 62915586 h9 fun x12 h13 r14 w15 => chkS [] r14 w15 (loadA 3 x4 h13 fun x16 r17 => S60_28 r17 r14 w15 r10 w11 x1 x16 h13 x12))
theorem S60_ok (ih : Handler) (n : Nat) (x0 : IV) (x1 : IV) (x2 : IV) (h3 : Hp) : funS EE ih ft.get n 60 [x0, x1, x2] h3 = S60 ih n x0 x1 x2 h3 := by kernel_rfl
noncomputable def S61_264 (h20 : Hp) (x5 : IV) : Option (IV × Hp) :=
  bldS [.fv (.int .i64 0), .fv (.int .i64 0), .nils] [] fun x26 => storeA 3 x5 x26 h20 fun h27 _ _ => cellS true 3 x5 h27 fun x30 => outS1 [x30] h27
noncomputable def S61_265 (ih : Handler) (h20 : Hp) (x41 : IV) (x5 : IV) : Option (IV × Hp) :=
  isoS [] false false ih 25 [x41] h20 fun x42 h43 _ _ => storeA 3 x5 x42 h43 fun h46 _ _ => cellS true 3 x5 h46 fun x49 => outS1 [x49] h46
noncomputable def S61_266 (x2 : IV) (x1 : IV) (h20 : Hp) (ih : Handler) (x5 : IV) : Option (IV × Hp) :=
  subS EE 3 x2 (.fv (.int .i64 1)) fun x36 => nilS x1 fun x37 => faddrS 1 x37 fun x38 => load1 x38 h20 fun x39 _ => subS EE 3 x36 x39 fun x41 => S61_265 ih h20 x41 x5
noncomputable def S61_267 (h4 : Hp) (h126 : Hp) (x98 : IV) (x99 : IV) (x100 : IV) (x101 : IV) (x102 : IV) (x103 : IV) (x129 : IV) (q66 : List IV → Hp → Option (IV × Hp)) : Option (IV × Hp) :=
  dropS (h4.own.map (·.1)) [63982597, 63984651] [x98, x99, x100, x101, x102, x103, x129] h126 fun h130 => q66 [x98, x99, x100, x101, x102, x103, x129] h130
noncomputable def S61_268 (r123 : List Ref) (w124 : List Ref) (x103 : IV) (h122 : Hp) (x121 : IV) (x104 : IV) (h4 : Hp) (x98 : IV) (x99 : IV) (x100 : IV) (x101 : IV) (x102 : IV) (q66 : List IV → Hp → Option (IV × Hp)) : Option (IV × Hp) :=
  chkS [] r123 w124 (faddrS 2 x103 fun x125 => store1 x125 x121 h122 fun h126 r127 w128 => chkS [] r127 w128 (addS EE 3 x104 (.fv (.int .i64 1)) fun x129 => S61_267 h4 h126 x98 x99 x100 x101 x102 x103 x129 q66))
noncomputable def S61_269 (ih : Handler) (h107 : Hp) (x98 : IV) (x106 : IV) (x111 : IV) (x112 : IV) (r110 : List Ref) (x109 : IV) (x103 : IV) (x104 : IV) (h4 : Hp) (x99 : IV) (x100 : IV) (x101 : IV) (x102 : IV) (q66 : List IV → Hp → Option (IV × Hp)) : Option (IV × Hp) :=
  isoS [true, false, false, false] false false ih 61 [x98, x106, x111, x112] h107 fun x113 h114 r115 w116 => chkS [(r110, [])] r115 w116 (genS (pcBuildSlice EE 28 1 [(0, x113)]) 63984650 h114 fun x117 h118 r119 w120 => chkS [(r110, [])] r119 w120 (genS (builtinR EE 63984651 false .append [28, 28] [x109, x117]) 63984651 h118 fun x121 h122 r123 w124 => S61_268 r123 w124 x103 h122 x121 x104 h4 x98 x99 x100 x101 x102 q66))
noncomputable def S61_270 (x103 : IV) (h107 : Hp) (x100 : IV) (x105 : IV) (x101 : IV) (ih : Handler) (x98 : IV) (x106 : IV) (x104 : IV) (h4 : Hp) (x99 : IV) (x102 : IV) (q66 : List IV → Hp → Option (IV × Hp)) : Option (IV × Hp) :=
  faddrS 2 x103 fun x108 => load1 x108 h107 fun x109 r110 => chkS [] r110 [] (addS EE 3 x100 x105 fun x111 => addS EE 3 x101 (.fv (.int .i64 1)) fun x112 => S61_269 ih h107 x98 x106 x111 x112 r110 x109 x103 x104 h4 x99 x100 x101 x102 q66)
noncomputable def S61_271 (h4 : Hp) (h162 : Hp) (x139 : IV) (x140 : IV) (x141 : IV) (x142 : IV) (x143 : IV) (x144 : IV) (x145 : IV) (x146 : IV) (x147 : IV) (x161 : IV) (x165 : IV) (q136 : List IV → Hp → Option (IV × Hp)) : Option (IV × Hp) :=
  dropS (h4.own.map (·.1)) [63982597] [x139, x140, x141, x142, x143, x144, x145, x146, x147, x161, x165] h162 fun h166 => q136 [x139, x140, x141, x142, x143, x144, x145, x146, x147, x161, x165] h166
noncomputable def S61_272 (x151 : IV) (h138 : Hp) (ih : Handler) (x148 : IV) (x149 : IV) (h4 : Hp) (x139 : IV) (x140 : IV) (x141 : IV) (x142 : IV) (x143 : IV) (x144 : IV) (x145 : IV) (x146 : IV) (x147 : IV) (q136 : List IV → Hp → Option (IV × Hp)) : Option (IV × Hp) :=
  bldS [.fv (.int .i64 0), .fv (.int .i64 0), .nils, .nils, .fv (.int .i64 0), .fv (.int .i64 0), .nils] [(0, 1, .fv (.int .i64 1)), (1, 1, x151)] fun x152 => fzS (pcBox true 63982597 x152) 63982597 x152 h138 fun x153 h154 _ _ => genS (pcBuildSlice EE 114 1 [(0, x153)]) 63982598 h154 fun x157 h158 _ _ => isoS [] false false ih 87 [x148, x157] h158 fun x161 h162 _ _ => addS EE 3 x149 (.fv (.int .i64 1)) fun x165 => S61_271 h4 h162 x139 x140 x141 x142 x143 x144 x145 x146 x147 x161 x165 q136
noncomputable def S61_273 (x167 : IV) (h138 : Hp) (ih : Handler) (x139 : IV) (x148 : IV) (j9_97 : IV → IV → IV → IV → IV → IV → IV → IV → IV → Hp → Option (IV × Hp)) (x140 : IV) (x141 : IV) (x142 : IV) (x143 : IV) (x144 : IV) (x145 : IV) (x146 : IV) : Option (IV × Hp) :=
  faddrS 4 x167 fun x168 => loadA 3 x168 h138 fun x169 _ => isoS [true, false, false] false false ih 62 [x139, x169, x148] h138 fun x171 h172 _ _ => j9_97 x139 x140 x141 x142 x143 x144 x145 x146 x171 h172
noncomputable def S61_274 (l184 : List IV) (x146 : IV) (x141 : IV) (h138 : Hp) (ih : Handler) (x148 : IV) (h4 : Hp) (x139 : IV) (x140 : IV) (x142 : IV) (x143 : IV) (x144 : IV) (x145 : IV) (x147 : IV) (q136 : List IV → Hp → Option (IV × Hp)) (j9_97 : IV → IV → IV → IV → IV → IV → IV → IV → IV → Hp → Option (IV × Hp)) : Option (IV × Hp) :=
  uncS l184 fun x149 _ => ltS EE 3 x149 x146 fun x150 => condS x150 (addS EE 3 x141 x149 fun x151 => S61_272 x151 h138 ih x148 x149 h4 x139 x140 x141 x142 x143 x144 x145 x146 x147 q136) (nilS x147 fun x167 => S61_273 x167 h138 ih x139 x148 j9_97 x140 x141 x142 x143 x144 x145 x146)
noncomputable def S61_275 (l179 : List IV) (x141 : IV) (h138 : Hp) (ih : Handler) (h4 : Hp) (x139 : IV) (x140 : IV) (x142 : IV) (x143 : IV) (q136 : List IV → Hp → Option (IV × Hp)) (j9_97 : IV → IV → IV → IV → IV → IV → IV → IV → IV → Hp → Option (IV × Hp)) : Option (IV × Hp) :=
  uncS l179 fun x144 l180 => uncS l180 fun x145 l181 => uncS l181 fun x146 l182 => uncS l182 fun x147 l183 => uncS l183 fun x148 l184 => S61_274 l184 x146 x141 h138 ih x148 h4 x139 x140 x142 x143 x144 x145 x147 q136 j9_97
noncomputable def S61_276 (l137 : List IV) (h138 : Hp) (ih : Handler) (h4 : Hp) (q136 : List IV → Hp → Option (IV × Hp)) (j9_97 : IV → IV → IV → IV → IV → IV → IV → IV → IV → Hp → Option (IV × Hp)) : Option (IV × Hp) :=
  uncS l137 fun x139 l175 => uncS l175 fun x140 l176 => uncS l176 fun x141 l177 => uncS l177 fun x142 l178 => uncS l178 fun x143 l179 => S61_275 l179 x141 h138 ih h4 x139 x140 x142 x143 q136 j9_97
noncomputable def S61_277 (h87 : Hp) (x133 : IV) (h4 : Hp) (x69 : IV) (x70 : IV) (x71 : IV) (x72 : IV) (x73 : IV) (x74 : IV) (x75 : IV) (x86 : IV) (x95 : IV) (n : Nat) (ih : Handler) (j9_97 : IV → IV → IV → IV → IV → IV → IV → IV → IV → Hp → Option (IV × Hp)) : Option (IV × Hp) :=
  load1 x133 h87 fun x134 _ => dropS (h4.own.map (·.1)) [63982597] [x69, x70, x71, x72, x73, x74, x75, x86, x95, x134, .fv (.int .i64 0)] h87 fun h186 => loopS n (fun q136 l137 h138 => S61_276 l137 h138 ih h4 q136 j9_97) [x69, x70, x71, x72, x73, x74, x75, x86, x95, x134, .fv (.int .i64 0)] h186
noncomputable def S61_278 (x131 : IV) (x95 : IV) (h87 : Hp) (h4 : Hp) (x69 : IV) (x70 : IV) (x71 : IV) (x72 : IV) (x73 : IV) (x74 : IV) (x75 : IV) (x86 : IV) (n : Nat) (ih : Handler) (j9_97 : IV → IV → IV → IV → IV → IV → IV → IV → IV → Hp → Option (IV × Hp)) : Option (IV × Hp) :=
  condS x131 (nilS x95 fun x132 => faddrS 3 x132 fun x133 => S61_277 h87 x133 h4 x69 x70 x71 x72 x73 x74 x75 x86 x95 n ih j9_97) (j9_97 x69 x70 x71 x72 x73 x74 x75 x86 x95 h87)
noncomputable def S61_279 (h87 : Hp) (x91 : IV) (x75 : IV) (ih : Handler) (h4 : Hp) (q66 : List IV → Hp → Option (IV × Hp)) (x86 : IV) (x69 : IV) (x70 : IV) (x71 : IV) (x72 : IV) (x73 : IV) (x74 : IV) (n : Nat) : Option (IV × Hp) :=
  load1 x91 h87 fun x92 _ => ixS 1 x92 x75 fun x94 => load1 x94 h87 fun x95 _ => (fun (j9_97 : IV → IV → IV → IV → IV → IV → IV → IV → IV → Hp → Option (IV × Hp)) => gtS EE 3 x86 (.fv (.int .i64 0)) fun x131 => S61_278 x131 x95 h87 h4 x69 x70 x71 x72 x73 x74 x75 x86 n ih j9_97) fun x98 x99 x100 x101 x102 x103 x104 x105 x106 h107 => S61_270 x103 h107 x100 x105 x101 ih x98 x106 x104 h4 x99 x102 q66
noncomputable def S61_280 (x82 : IV) (h68 : Hp) (ih : Handler) (x75 : IV) (x70 : IV) (h4 : Hp) (q66 : List IV → Hp → Option (IV × Hp)) (x69 : IV) (x71 : IV) (x72 : IV) (x73 : IV) (x74 : IV) (n : Nat) : Option (IV × Hp) :=
  faddrS 0 x82 fun x83 => load1 x83 h68 fun x84 _ => isoS [] false false ih 54 [x84, x75] h68 fun x86 h87 _ _ => nilS x70 fun x90 => faddrS 2 x90 fun x91 => S61_279 h87 x91 x75 ih h4 q66 x86 x69 x70 x71 x72 x73 x74 n
noncomputable def S61_281 (h68 : Hp) (x73 : IV) (x187 : IV) : Option (IV × Hp) :=
  storeA 3 x73 x187 h68 fun h189 _ _ => cellS true 3 x73 h189 fun x192 => outS1 [x192] h189
noncomputable def S61_282 (x78 : IV) (x75 : IV) (x70 : IV) (h68 : Hp) (ih : Handler) (h4 : Hp) (q66 : List IV → Hp → Option (IV × Hp)) (x69 : IV) (x71 : IV) (x72 : IV) (x73 : IV) (x74 : IV) (n : Nat) : Option (IV × Hp) :=
  lenS x78 fun x80 => ltS EE 3 x75 x80 fun x81 => condS x81 (nilS x70 fun x82 => S61_280 x82 h68 ih x75 x70 h4 q66 x69 x71 x72 x73 x74 n) (loadA 3 x74 h68 fun x187 _ => S61_281 h68 x73 x187)
noncomputable def S61_283 (l197 : List IV) (x70 : IV) (h68 : Hp) (ih : Handler) (h4 : Hp) (q66 : List IV → Hp → Option (IV × Hp)) (x69 : IV) (x71 : IV) (x72 : IV) (x73 : IV) (n : Nat) : Option (IV × Hp) :=
  uncS l197 fun x74 l198 => uncS l198 fun x75 _ => nilS x70 fun x76 => faddrS 2 x76 fun x77 => load1 x77 h68 fun x78 _ => S61_282 x78 x75 x70 h68 ih h4 q66 x69 x71 x72 x73 x74 n
noncomputable def S61_284 (l67 : List IV) (h68 : Hp) (ih : Handler) (h4 : Hp) (q66 : List IV → Hp → Option (IV × Hp)) (n : Nat) : Option (IV × Hp) :=
  uncS l67 fun x69 l193 => uncS l193 fun x70 l194 => uncS l194 fun x71 l195 => uncS l195 fun x72 l196 => uncS l196 fun x73 l197 => S61_283 l197 x70 h68 ih h4 q66 x69 x71 x72 x73 n
noncomputable def S61_285 (r61 : List Ref) (w62 : List Ref) (r57 : List Ref) (r53 : List Ref) (h60 : Hp) (x59 : IV) (x58 : IV) (h4 : Hp) (x0 : IV) (x1 : IV) (x2 : IV) (x3 : IV) (x5 : IV) (n : Nat) (ih : Handler) : Option (IV × Hp) :=
  chkS [(r57, []), (r53, [])] r61 w62 (storeA 3 x59 x58 h60 fun h63 r64 w65 => chkS [] r64 w65 (dropS (h4.own.map (·.1)) [63982597, 63984651] [x0, x1, x2, x3, x5, x59, .fv (.int .i64 0)] h63 fun h200 => loopS n (fun q66 l67 h68 => S61_284 l67 h68 ih h4 q66 n) [x0, x1, x2, x3, x5, x59, .fv (.int .i64 0)] h200))
noncomputable def S61_286 (x54 : IV) (h20 : Hp) (r53 : List Ref) (x52 : IV) (h4 : Hp) (x0 : IV) (x1 : IV) (x2 : IV) (x3 : IV) (x5 : IV) (n : Nat) (ih : Handler) : Option (IV × Hp) :=
  faddrS 1 x54 fun x55 => load1 x55 h20 fun x56 r57 => chkS [(r53, [])] r57 [] (bldS [.fv (.int .i64 0), .fv (.int .i64 0), .nils] [(0, 1, x52), (1, 1, x56)] fun x58 => newS 63971337 (.row [.fv (.int .i64 0), .fv (.int .i64 0), .nils] false) (.ptr (.own 63971337) 0) h20 fun x59 h60 r61 w62 => S61_285 r61 w62 r57 r53 h60 x59 x58 h4 x0 x1 x2 x3 x5 n ih)
noncomputable def S61_287 (x1 : IV) (h20 : Hp) (h4 : Hp) (x0 : IV) (x2 : IV) (x3 : IV) (x5 : IV) (n : Nat) (ih : Handler) : Option (IV × Hp) :=
  nilS x1 fun x50 => faddrS 0 x50 fun x51 => load1 x51 h20 fun x52 r53 => chkS [] r53 [] (nilS x1 fun x54 => S61_286 x54 h20 r53 x52 h4 x0 x1 x2 x3 x5 n ih)
noncomputable def S61_288 (x1 : IV) (h20 : Hp) (x2 : IV) (ih : Handler) (x5 : IV) (h4 : Hp) (x0 : IV) (x3 : IV) (n : Nat) : Option (IV × Hp) :=
  nilS x1 fun x31 => faddrS 0 x31 fun x32 => load1 x32 h20 fun x33 _ => eqS EE 3 x33 (.fv (.int .i64 1)) fun x35 => condS x35 (S61_266 x2 x1 h20 ih x5) (S61_287 x1 h20 h4 x0 x2 x3 x5 n ih)
noncomputable def S61_289 (x0 : IV) (h20 : Hp) (x5 : IV) (x1 : IV) (x2 : IV) (ih : Handler) (h4 : Hp) (x3 : IV) (n : Nat) : Option (IV × Hp) :=
  nilS x0 fun x21 => faddrS 2 x21 fun x22 => load1 x22 h20 fun x23 _ => neS EE 3 x23 (.fv (.int .i64 0)) fun x25 => condS x25 (S61_264 h20 x5) (S61_288 x1 h20 x2 ih x5 h4 x0 x3 n)
noncomputable def S61_290 (x259 : IV) (h255 : Hp) (j0_19 : Hp → Option (IV × Hp)) : Option (IV × Hp) :=
  faddrS 2 x259 fun x260 => store1 x260 (.fv (.int .i64 5)) h255 fun h261 _ _ => j0_19 h261
noncomputable def S61_291 (h249 : Hp) (x205 : IV) (x237 : IV) (x248 : IV) (x0 : IV) (j0_19 : Hp → Option (IV × Hp)) : Option (IV × Hp) :=
  guardS x205 true h249 (fun k252 => pickS x237 (.fv (.bool true)) x248 fun x253 => k252 x253 h249 [] []) fun x254 h255 _ _ => pickS x205 x254 (.fv (.bool false)) fun x258 => condS x258 (nilS x0 fun x259 => S61_290 x259 h255 j0_19) (j0_19 h255)
noncomputable def S61_292 (h220 : Hp) (x205 : IV) (x219 : IV) (x3 : IV) (x0 : IV) (j0_19 : Hp → Option (IV × Hp)) : Option (IV × Hp) :=
  guardS x205 true h220 (fun k223 => load1 x219 h220 fun x224 r225 => k223 x224 h220 r225 []) fun x226 h227 _ _ => guardS x205 true h227 (fun k230 => gtS EE 3 x226 (.fv (.int .i64 3000)) fun x231 => k230 x231 h227 [] []) fun x232 h233 _ _ => guardS x205 true h233 (fun k236 => k236 x232 h233 [] []) fun x237 h238 _ _ => guardS x237 false h238 (fun k241 => k241 x3 h238 [] []) fun x242 h243 _ _ => guardS x237 false h243 (fun k246 => gtS EE 3 x242 (.fv (.int .i64 120)) fun x247 => k246 x247 h243 [] []) fun x248 h249 _ _ => S61_291 h249 x205 x237 x248 x0 j0_19
noncomputable def S61_293 (h16 : Hp) (x202 : IV) (x0 : IV) (x3 : IV) (j0_19 : Hp → Option (IV × Hp)) : Option (IV × Hp) :=
  load1 x202 h16 fun x203 _ => eqS EE 3 x203 (.fv (.int .i64 0)) fun x205 => guardS x205 true h16 (fun k206 => k206 x0 h16 [] []) fun x207 h208 _ _ => guardS x205 true h208 (fun k211 => nilS x207 fun x212 => k211 x212 h208 [] []) fun x213 h214 _ _ => guardS x205 true h214 (fun k217 => faddrS 1 x213 fun x218 => k217 x218 h214 [] []) fun x219 h220 _ _ => S61_292 h220 x205 x219 x3 x0 j0_19
noncomputable def S61_294 (x14 : IV) (h6 : Hp) (x13 : IV) (x0 : IV) (x5 : IV) (x1 : IV) (x2 : IV) (ih : Handler) (h4 : Hp) (x3 : IV) (n : Nat) : Option (IV × Hp) :=
  faddrS 1 x14 fun x15 => store1 x15 x13 h6 fun h16 _ _ => (fun (j0_19 : Hp → Option (IV × Hp)) => nilS x0 fun x201 => faddrS 2 x201 fun x202 => S61_293 h16 x202 x0 x3 j0_19) fun h20 => S61_289 x0 h20 x5 x1 x2 ih h4 x3 n
noncomputable def S61 (ih : Handler) (n : Nat) (x0 : IV) (x1 : IV) (x2 : IV) (x3 : IV) (h4 : Hp) : Option (IV × Hp) :=
  newS 63963136 (.row [.fv (.int .i64 0), .fv (.int .i64 0), .nils] false) (.ptr (.own 63963136) 0) h4 fun x5 h6 _ _ => nilS x0 fun x9 => faddrS 1 x9 fun x10 => load1 x10 h6 fun x11 _ => addS EE 3 x11 (.fv (.int .i64 1)) fun x13 => nilS x0 fun x14 => S61_294 x14 h6 x13 x0 x5 x1 x2 ih h4 x3 n
theorem S61_ok (ih : Handler) (n : Nat) (x0 : IV) (x1 : IV) (x2 : IV) (x3 : IV) (h4 : Hp) : funS EE ih ft.get n 61 [x0, x1, x2, x3] h4 = S61 ih n x0 x1 x2 x3 h4 := by kernel_rfl
noncomputable def S62_148 (h5 : Hp) : Option (IV × Hp) :=
  bldS [.fv (.int .i64 0), .fv (.int .i64 0), .nils, .nils, .fv (.int .i64 0), .fv (.int .i64 0), .nils] [(0, 1, .fv (.int .i64 11))] fun x13 => boxS 65013761 x13 h5 fun x14 h15 _ _ => outS1 [x14] h15
noncomputable def S62_149 (h5 : Hp) (x33 : IV) : Option (IV × Hp) :=
  load1 x33 h5 fun x34 _ => outS1 [x34] h5
noncomputable def S62_150 (x27 : IV) (x4 : IV) (h5 : Hp) (x2 : IV) : Option (IV × Hp) :=
  subS EE 3 x27 (.fv (.int .i64 1)) fun x28 => faddrS 1 x4 fun x29 => load1 x29 h5 fun x30 _ => subS EE 3 x28 x30 fun x32 => ixS 1 x2 x32 fun x33 => S62_149 h5 x33
noncomputable def S62_151 (h5 : Hp) (x42 : IV) : Option (IV × Hp) :=
  boxS 65017863 x42 h5 fun x43 h44 _ _ => outS1 [x43] h44
noncomputable def S62_152 (x36 : IV) (x4 : IV) (h5 : Hp) : Option (IV × Hp) :=
  subS EE 3 x36 (.fv (.int .i64 1)) fun x37 => faddrS 1 x4 fun x38 => load1 x38 h5 fun x39 _ => subS EE 3 x37 x39 fun x41 => bldS [.fv (.int .i64 0), .fv (.int .i64 0), .nils, .nils, .fv (.int .i64 0), .fv (.int .i64 0), .nils] [(0, 1, .fv (.int .i64 1)), (1, 1, x41)] fun x42 => S62_151 h5 x42
noncomputable def S62_153 (h5 : Hp) (x22 : IV) (x2 : IV) (x4 : IV) : Option (IV × Hp) :=
  load1 x22 h5 fun x23 _ => lenS x2 fun x25 => ltS EE 3 x23 x25 fun x26 => condS x26 (lenS x2 fun x27 => S62_150 x27 x4 h5 x2) (lenS x2 fun x36 => S62_152 x36 x4 h5)
noncomputable def S62_154 (x65 : IV) (h3 : Hp) (h72 : Hp) (x61 : IV) (x62 : IV) (x63 : IV) (x64 : IV) (q58 : List IV → Hp → Option (IV × Hp)) : Option (IV × Hp) :=
  addS EE 3 x65 (.fv (.int .i64 1)) fun x73 => dropS (h3.own.map (·.1)) [65024012, 65024014, 65025038] [x61, x62, x63, x64, x73] h72 fun h74 => q58 [x61, x62, x63, x64, x73] h74
noncomputable def S62_155 (x64 : IV) (h103 : Hp) (x102 : IV) (j0_71 : Hp → Option (IV × Hp)) : Option (IV × Hp) :=
  nilS x64 fun x106 => faddrS 2 x106 fun x107 => store1 x107 x102 h103 fun h108 r109 w110 => chkS [] r109 w110 (j0_71 h108)
noncomputable def S62_156 (r96 : List Ref) (w97 : List Ref) (r86 : List Ref) (h95 : Hp) (x94 : IV) (x85 : IV) (x64 : IV) (j0_71 : Hp → Option (IV × Hp)) : Option (IV × Hp) :=
  chkS [(r86, [])] r96 w97 (genS (pcBuildSlice EE 114 1 [(0, x94)]) 65024013 h95 fun x98 h99 r100 w101 => chkS [(r86, [])] r100 w101 (genS (builtinR EE 65024014 false .append [114, 114] [x85, x98]) 65024014 h99 fun x102 h103 r104 w105 => chkS [] r104 w105 (S62_155 x64 h103 x102 j0_71)))
noncomputable def S62_157 (x88 : IV) (x65 : IV) (h79 : Hp) (r86 : List Ref) (x62 : IV) (x85 : IV) (x64 : IV) (j0_71 : Hp → Option (IV × Hp)) : Option (IV × Hp) :=
  ixS 3 x88 x65 fun x90 => loadA 3 x90 h79 fun x91 r92 => chkS [(r86, [])] r92 [] (bldS [.fv (.int .i64 0), .fv (.int .i64 0), .nils, .nils, .fv (.int .i64 0), .fv (.int .i64 0), .nils] [(3, 1, x62), (4, 3, x91)] fun x93 => boxS 65024012 x93 h79 fun x94 h95 r96 w97 => S62_156 r96 w97 r86 h95 x94 x85 x64 j0_71)
noncomputable def S62_158 (h79 : Hp) (x84 : IV) (x63 : IV) (x65 : IV) (x62 : IV) (x64 : IV) (j0_71 : Hp → Option (IV × Hp)) : Option (IV × Hp) :=
  load1 x84 h79 fun x85 r86 => chkS [] r86 [] (faddrS 2 x63 fun x87 => load1 x87 h79 fun x88 r89 => chkS [(r86, [])] r89 [] (S62_157 x88 x65 h79 r86 x62 x85 x64 j0_71))
noncomputable def S62_159 (x133 : IV) (h130 : Hp) (x129 : IV) (j0_71 : Hp → Option (IV × Hp)) : Option (IV × Hp) :=
  faddrS 2 x133 fun x134 => store1 x134 x129 h130 fun h135 r136 w137 => chkS [] r136 w137 (j0_71 h135)
noncomputable def S62_160 (h122 : Hp) (x121 : IV) (r114 : List Ref) (x113 : IV) (x64 : IV) (j0_71 : Hp → Option (IV × Hp)) : Option (IV × Hp) :=
  genS (pcBuildSlice EE 114 1 [(0, x121)]) 65025037 h122 fun x125 h126 r127 w128 => chkS [(r114, [])] r127 w128 (genS (builtinR EE 65025038 false .append [114, 114] [x113, x125]) 65025038 h126 fun x129 h130 r131 w132 => chkS [] r131 w132 (nilS x64 fun x133 => S62_159 x133 h130 x129 j0_71))
noncomputable def S62_161 (x116 : IV) (x65 : IV) (h79 : Hp) (r114 : List Ref) (ih : Handler) (x61 : IV) (x62 : IV) (x113 : IV) (x64 : IV) (j0_71 : Hp → Option (IV × Hp)) : Option (IV × Hp) :=
  ixS 3 x116 x65 fun x118 => loadA 3 x118 h79 fun x119 r120 => chkS [(r114, [])] r120 [] (isoS [true, false, false] false false ih 62 [x61, x119, x62] h79 fun x121 h122 r123 w124 => chkS [(r114, [])] r123 w124 (S62_160 h122 x121 r114 x113 x64 j0_71))
noncomputable def S62_162 (h79 : Hp) (x112 : IV) (x63 : IV) (x65 : IV) (ih : Handler) (x61 : IV) (x62 : IV) (x64 : IV) (j0_71 : Hp → Option (IV × Hp)) : Option (IV × Hp) :=
  load1 x112 h79 fun x113 r114 => chkS [] r114 [] (faddrS 2 x63 fun x115 => load1 x115 h79 fun x116 r117 => chkS [(r114, [])] r117 [] (S62_161 x116 x65 h79 r114 ih x61 x62 x113 x64 j0_71))
noncomputable def S62_163 (x82 : IV) (x64 : IV) (h79 : Hp) (x63 : IV) (x65 : IV) (x62 : IV) (j0_71 : Hp → Option (IV × Hp)) (ih : Handler) (x61 : IV) : Option (IV × Hp) :=
  condS x82 (nilS x64 fun x83 => faddrS 2 x83 fun x84 => S62_158 h79 x84 x63 x65 x62 x64 j0_71) (nilS x64 fun x111 => faddrS 2 x111 fun x112 => S62_162 h79 x112 x63 x65 ih x61 x62 x64 j0_71)
noncomputable def S62_164 (x65 : IV) (h3 : Hp) (x61 : IV) (x62 : IV) (x63 : IV) (x64 : IV) (q58 : List IV → Hp → Option (IV × Hp)) (h60 : Hp) (ih : Handler) : Option (IV × Hp) :=
  (fun (j0_71 : Hp → Option (IV × Hp)) => faddrS 0 x63 fun x75 => load1 x75 h60 fun x76 _ => isoS [] false false ih 54 [x76, x65] h60 fun x78 h79 _ _ => gtS EE 3 x78 (.fv (.int .i64 0)) fun x82 => S62_163 x82 x64 h79 x63 x65 x62 j0_71 ih x61) fun h72 => S62_154 x65 h3 h72 x61 x62 x63 x64 q58
noncomputable def S62_165 (ih : Handler) (h60 : Hp) (x61 : IV) (x64 : IV) : Option (IV × Hp) :=
  isoS [true, false] false false ih 88 [x61, x64] h60 fun x138 h139 _ _ => outS1 [x138] h139
noncomputable def S62_166 (x63 : IV) (h60 : Hp) (x65 : IV) (h3 : Hp) (x61 : IV) (x62 : IV) (x64 : IV) (q58 : List IV → Hp → Option (IV × Hp)) (ih : Handler) : Option (IV × Hp) :=
  faddrS 2 x63 fun x66 => load1 x66 h60 fun x67 _ => lenS x67 fun x69 => ltS EE 3 x65 x69 fun x70 => condS x70 (S62_164 x65 h3 x61 x62 x63 x64 q58 h60 ih) (S62_165 ih h60 x61 x64)
noncomputable def S62_167 (l59 : List IV) (h60 : Hp) (h3 : Hp) (q58 : List IV → Hp → Option (IV × Hp)) (ih : Handler) : Option (IV × Hp) :=
  uncS l59 fun x61 l142 => uncS l142 fun x62 l143 => uncS l143 fun x63 l144 => uncS l144 fun x64 l145 => uncS l145 fun x65 _ => S62_166 x63 h60 x65 h3 x61 x62 x64 q58 ih
noncomputable def S62_168 (h3 : Hp) (h55 : Hp) (x0 : IV) (x2 : IV) (x4 : IV) (x54 : IV) (n : Nat) (ih : Handler) : Option (IV × Hp) :=
  dropS (h3.own.map (·.1)) [65024012, 65024014, 65025038] [x0, x2, x4, x54, .fv (.int .i64 0)] h55 fun h147 => loopS n (fun q58 l59 h60 => S62_167 l59 h60 h3 q58 ih) [x0, x2, x4, x54, .fv (.int .i64 0)] h147
noncomputable def S62_169 (h5 : Hp) (x47 : IV) (x4 : IV) (h3 : Hp) (x0 : IV) (x2 : IV) (n : Nat) (ih : Handler) : Option (IV × Hp) :=
  load1 x47 h5 fun x48 _ => faddrS 1 x4 fun x50 => load1 x50 h5 fun x51 _ => bldS [.fv (.int .i64 0), .fv (.int .i64 0), .nils, .nils, .fv (.int .i64 0), .fv (.int .i64 0), .nils] [(0, 1, x48), (1, 1, x51)] fun x53 => boxS 65018885 x53 h5 fun x54 h55 _ _ => S62_168 h3 h55 x0 x2 x4 x54 n ih
noncomputable def S62_170 (x4 : IV) (h5 : Hp) (x2 : IV) (h3 : Hp) (x0 : IV) (n : Nat) (ih : Handler) : Option (IV × Hp) :=
  faddrS 0 x4 fun x18 => load1 x18 h5 fun x19 _ => eqS EE 3 x19 (.fv (.int .i64 1)) fun x21 => condS x21 (faddrS 1 x4 fun x22 => S62_153 h5 x22 x2 x4) (faddrS 0 x4 fun x47 => S62_169 h5 x47 x4 h3 x0 x2 n ih)
noncomputable def S62 (ih : Handler) (n : Nat) (x0 : IV) (x1 : IV) (x2 : IV) (h3 : Hp) : Option (IV × Hp) :=
  boxS 65011712 x1 h3 fun x4 h5 _ _ => nilS x0 fun x8 => faddrS 2 x8 fun x9 => load1 x9 h5 fun x10 _ => neS EE 3 x10 (.fv (.int .i64 0)) fun x12 => condS x12 (S62_148 h5) (S62_170 x4 h5 x2 h3 x0 n ih)
theorem S62_ok (ih : Handler) (n : Nat) (x0 : IV) (x1 : IV) (x2 : IV) (h3 : Hp) : funS EE ih ft.get n 62 [x0, x1, x2] h3 = S62 ih n x0 x1 x2 h3 := by kernel_rfl
noncomputable def S63_156 (ih : Handler) (h59 : Hp) (x23 : IV) (x67 : IV) (x69 : IV) (x26 : IV) (q20 : List IV → Hp → Option (IV × Hp)) (x24 : IV) (x25 : IV) : Option (IV × Hp) :=
  isoS [true, false, false] false false ih 63 [x23, x67, x69] h59 fun _ h71 _ _ => addS EE 3 x26 (.fv (.int .i64 1)) fun x74 => q20 [x23, x24, x25, x74] h71
noncomputable def S63_157 (x25 : IV) (h59 : Hp) (x26 : IV) (x24 : IV) (ih : Handler) (x23 : IV) (q20 : List IV → Hp → Option (IV × Hp)) : Option (IV × Hp) :=
  faddrS 2 x25 fun x63 => load1 x63 h59 fun x64 _ => ixS 3 x64 x26 fun x66 => loadA 3 x66 h59 fun x67 _ => addS EE 3 x24 (.fv (.int .i64 1)) fun x69 => S63_156 ih h59 x23 x67 x69 x26 q20 x24 x25
noncomputable def S63_158 (h40 : Hp) (x31 : IV) (x39 : IV) (x25 : IV) (x26 : IV) (x24 : IV) (ih : Handler) (x23 : IV) (q20 : List IV → Hp → Option (IV × Hp)) : Option (IV × Hp) :=
  guardS x31 true h40 (fun k43 => faddrS 1 x39 fun x44 => k43 x44 h40 [] []) fun x45 h46 _ _ => guardS x31 true h46 (fun k49 => load1 x45 h46 fun x50 r51 => k49 x50 h46 r51 []) fun x52 h53 _ _ => guardS x31 true h53 (fun k56 => eqS EE 3 x52 (.fv (.int .i64 0)) fun x57 => k56 x57 h53 [] []) fun x58 h59 _ _ => pickS x31 x58 (.fv (.bool false)) fun x62 => condS x62 (S63_157 x25 h59 x26 x24 ih x23 q20) (outS1 [] h59)
noncomputable def S63_159 (h22 : Hp) (x27 : IV) (x26 : IV) (x23 : IV) (x25 : IV) (x24 : IV) (ih : Handler) (q20 : List IV → Hp → Option (IV × Hp)) : Option (IV × Hp) :=
  load1 x27 h22 fun x28 _ => lenS x28 fun x30 => ltS EE 3 x26 x30 fun x31 => guardS x31 true h22 (fun k32 => k32 x23 h22 [] []) fun x33 h34 _ _ => guardS x31 true h34 (fun k37 => nilS x33 fun x38 => k37 x38 h34 [] []) fun x39 h40 _ _ => S63_158 h40 x31 x39 x25 x26 x24 ih x23 q20
noncomputable def S63_160 (l21 : List IV) (h22 : Hp) (ih : Handler) (q20 : List IV → Hp → Option (IV × Hp)) : Option (IV × Hp) :=
  uncS l21 fun x23 l75 => uncS l75 fun x24 l76 => uncS l76 fun x25 l77 => uncS l77 fun x26 _ => faddrS 2 x25 fun x27 => S63_159 h22 x27 x26 x23 x25 x24 ih q20
noncomputable def S63_161 (n : Nat) (h19 : Hp) (x0 : IV) (x2 : IV) (x4 : IV) (ih : Handler) : Option (IV × Hp) :=
  loopS n (fun q20 l21 h22 => S63_160 l21 h22 ih q20) [x0, x2, x4, .fv (.int .i64 0)] h19
noncomputable def S63_162 (h92 : Hp) (x97 : IV) (j0_18 : Hp → Option (IV × Hp)) : Option (IV × Hp) :=
  store1 x97 (.fv (.int .i64 5)) h92 fun h98 _ _ => j0_18 h98
noncomputable def S63_163 (x151 : IV) (h147 : Hp) (j0_18 : Hp → Option (IV × Hp)) : Option (IV × Hp) :=
  faddrS 1 x151 fun x152 => store1 x152 (.fv (.int .i64 1)) h147 fun h153 _ _ => j0_18 h153
noncomputable def S63_164 (r142 : List Ref) (w143 : List Ref) (h141 : Hp) (x112 : IV) (x140 : IV) (x0 : IV) (j0_18 : Hp → Option (IV × Hp)) : Option (IV × Hp) :=
  chkS [] r142 w143 (guardS x112 false h141 (fun k144 => optS (unR .not x140) fun x145 => k144 x145 h141 [] []) fun x146 h147 _ _ => pickS x112 (.fv (.bool true)) x146 fun x150 => condS x150 (nilS x0 fun x151 => S63_163 x151 h147 j0_18) (j0_18 h147))
noncomputable def S63_165 (r124 : List Ref) (w125 : List Ref) (h123 : Hp) (x112 : IV) (x4 : IV) (ih : Handler) (x122 : IV) (x0 : IV) (j0_18 : Hp → Option (IV × Hp)) : Option (IV × Hp) :=
  chkS [] r124 w125 (guardS x112 false h123 (fun k126 => faddrS 1 x4 fun x127 => k126 x127 h123 [] []) fun x128 h129 _ _ => guardS x112 false h129 (fun k132 => load1 x128 h129 fun x133 r134 => k132 x133 h129 r134 []) fun x135 h136 r137 w138 => chkS [(r124, w125)] r137 w138 (guardS x112 false h136 (fun k139 => isoS [] false false ih 89 [x122, x135] h136 k139) fun x140 h141 r142 w143 => S63_164 r142 w143 h141 x112 x140 x0 j0_18))
noncomputable def S63_166 (r110 : List Ref) (r106 : List Ref) (w107 : List Ref) (r103 : List Ref) (x109 : IV) (x104 : IV) (h105 : Hp) (x4 : IV) (ih : Handler) (x0 : IV) (j0_18 : Hp → Option (IV × Hp)) : Option (IV × Hp) :=
  chkS [(r106, w107), (r103, [])] r110 [] (lenS x109 fun x111 => neS EE 3 x104 x111 fun x112 => guardS x112 false h105 (fun k113 => faddrS 0 x4 fun x114 => k113 x114 h105 [] []) fun x115 h116 _ _ => guardS x112 false h116 (fun k119 => load1 x115 h116 fun x120 r121 => k119 x120 h116 r121 []) fun x122 h123 r124 w125 => S63_165 r124 w125 h123 x112 x4 ih x122 x0 j0_18)
noncomputable def S63_167 (r103 : List Ref) (ih : Handler) (h92 : Hp) (x102 : IV) (x4 : IV) (x0 : IV) (j0_18 : Hp → Option (IV × Hp)) : Option (IV × Hp) :=
  chkS [] r103 [] (isoS [] false false ih 52 [x102] h92 fun x104 h105 r106 w107 => chkS [] r106 w107 (faddrS 2 x4 fun x108 => load1 x108 h105 fun x109 r110 => S63_166 r110 r106 w107 r103 x109 x104 h105 x4 ih x0 j0_18))
noncomputable def S63_168 (x95 : IV) (x0 : IV) (h92 : Hp) (j0_18 : Hp → Option (IV × Hp)) (x4 : IV) (ih : Handler) : Option (IV × Hp) :=
  condS x95 (nilS x0 fun x96 => faddrS 1 x96 fun x97 => S63_162 h92 x97 j0_18) (faddrS 0 x4 fun x101 => load1 x101 h92 fun x102 r103 => S63_167 r103 ih h92 x102 x4 x0 j0_18)
noncomputable def S63_169 (h15 : Hp) (x80 : IV) (x2 : IV) (x0 : IV) (j0_18 : Hp → Option (IV × Hp)) (x4 : IV) (ih : Handler) : Option (IV × Hp) :=
  load1 x80 h15 fun x81 _ => gtS EE 3 x81 (.fv (.int .i64 3000)) fun x83 => guardS x83 false h15 (fun k84 => k84 x2 h15 [] []) fun x85 h86 _ _ => guardS x83 false h86 (fun k89 => gtS EE 3 x85 (.fv (.int .i64 120)) fun x90 => k89 x90 h86 [] []) fun x91 h92 _ _ => pickS x83 (.fv (.bool true)) x91 fun x95 => S63_168 x95 x0 h92 j0_18 x4 ih
noncomputable def S63_170 (x13 : IV) (h5 : Hp) (x12 : IV) (n : Nat) (x0 : IV) (x2 : IV) (x4 : IV) (ih : Handler) : Option (IV × Hp) :=
  faddrS 0 x13 fun x14 => store1 x14 x12 h5 fun h15 _ _ => (fun (j0_18 : Hp → Option (IV × Hp)) => nilS x0 fun x79 => faddrS 0 x79 fun x80 => S63_169 h15 x80 x2 x0 j0_18 x4 ih) fun h19 => S63_161 n h19 x0 x2 x4 ih
noncomputable def S63 (ih : Handler) (n : Nat) (x0 : IV) (x1 : IV) (x2 : IV) (h3 : Hp) : Option (IV × Hp) :=
  boxS 66060288 x1 h3 fun x4 h5 _ _ => nilS x0 fun x8 => faddrS 0 x8 fun x9 => load1 x9 h5 fun x10 _ => addS EE 3 x10 (.fv (.int .i64 1)) fun x12 => nilS x0 fun x13 => S63_170 x13 h5 x12 n x0 x2 x4 ih
theorem S63_ok (ih : Handler) (n : Nat) (x0 : IV) (x1 : IV) (x2 : IV) (h3 : Hp) : funS EE ih ft.get n 63 [x0, x1, x2] h3 = S63 ih n x0 x1 x2 h3 := by kernel_rfl
noncomputable def S64 (ih : Handler) (n : Nat) (h0 : Hp) : Option (IV × Hp) :=
  newS 67108864 (.row [.fv (.int .i64 0), .fv (.int .i64 0), .nils] false) (.ptr (.own 67108864) 0) h0 fun x1 h2 _ _ => isoS [] false false ih 24 [.fv (.int .i64 10), .nils] h2 fun x5 h6 _ _ => storeA 3 x1 x5 h6 fun h9 _ _ => cellS true 3 x1 h9 fun x12 => outS1 [x12] h9
theorem S64_ok (ih : Handler) (n : Nat) (h0 : Hp) : funS EE ih ft.get n 64 [] h0 = S64 ih n h0 := by kernel_rfl
noncomputable def S65_205 (x48 : IV) (x132 : IV) (h133 : Hp) (x13 : IV) (x127 : IV) : Option (IV × Hp) :=
  pickS x48 x132 (.fv (.bool false)) fun x136 => storeA 3 x13 x127 h133 fun h137 _ _ => cellS true 3 x13 h137 fun x140 => outS1 [x140, x136] h137
noncomputable def S65_206 (h106 : Hp) (x109 : IV) (x111 : IV) (x113 : IV) (ih : Handler) (x48 : IV) (x78 : IV) (x13 : IV) : Option (IV × Hp) :=
  genS (pcBuildSlice EE 28 3 [(0, x109), (1, x111), (2, x113)]) 68163587 h106 fun x115 h116 _ _ => isoS [] false false ih 24 [.fv (.int .i64 7), x115] h116 fun x119 h120 _ _ => genS (pcBuildSlice EE 28 1 [(0, x119)]) 68163589 h120 fun x123 h124 _ _ => isoS [] false false ih 24 [.fv (.int .i64 8), x123] h124 fun x127 h128 _ _ => guardS x48 true h128 (fun k131 => k131 x78 h128 [] []) fun x132 h133 _ _ => S65_205 x48 x132 h133 x13 x127
noncomputable def S65_207 (h103 : Hp) (x102 : IV) (x98 : IV) (x79 : IV) (x49 : IV) (ih : Handler) (x48 : IV) (x78 : IV) (x13 : IV) : Option (IV × Hp) :=
  storeA 3 x102 x98 h103 fun h106 r107 w108 => chkS [] r107 w108 (loadA 3 x102 h106 fun x109 _ => loadA 3 x79 h106 fun x111 _ => loadA 3 x49 h106 fun x113 _ => S65_206 h106 x109 x111 x113 ih x48 x78 x13)
noncomputable def S65_208 (r96 : List Ref) (w97 : List Ref) (ih : Handler) (h95 : Hp) (x94 : IV) (r92 : List Ref) (w93 : List Ref) (r89 : List Ref) (r87 : List Ref) (x79 : IV) (x49 : IV) (x48 : IV) (x78 : IV) (x13 : IV) : Option (IV × Hp) :=
  chkS [] r96 w97 (isoS [] false false ih 24 [.fv (.int .i64 6), x94] h95 fun x98 h99 r100 w101 => chkS [] r100 w101 (newS 68162565 (.row [.fv (.int .i64 0), .fv (.int .i64 0), .nils] false) (.ptr (.own 68162565) 0) h99 fun x102 h103 r104 w105 => chkS [(r100, w101), (r96, w97), (r92, w93), (r89, []), (r87, [])] r104 w105 (S65_207 h103 x102 x98 x79 x49 ih x48 x78 x13)))
noncomputable def S65_209 (h83 : Hp) (x27 : IV) (r87 : List Ref) (ih : Handler) (x86 : IV) (x79 : IV) (x49 : IV) (x48 : IV) (x78 : IV) (x13 : IV) : Option (IV × Hp) :=
  loadA 3 x27 h83 fun x88 r89 => chkS [(r87, [])] r89 [] (isoS [] false false ih 45 [x88, .fv (.int .i64 1), .fv (.int .i64 0)] h83 fun x90 h91 r92 w93 => chkS [(r87, [])] r92 w93 (genS (pcBuildSlice EE 28 2 [(0, x86), (1, x90)]) 68162563 h91 fun x94 h95 r96 w97 => S65_208 r96 w97 ih h95 x94 r92 w93 r89 r87 x79 x49 x48 x78 x13))
noncomputable def S65_210 (r81 : List Ref) (w82 : List Ref) (r75 : List Ref) (w76 : List Ref) (r70 : List Ref) (w71 : List Ref) (r67 : List Ref) (r65 : List Ref) (h80 : Hp) (x79 : IV) (x77 : IV) (x5 : IV) (x27 : IV) (ih : Handler) (x49 : IV) (x48 : IV) (x78 : IV) (x13 : IV) : Option (IV × Hp) :=
  chkS [(r75, w76), (r70, w71), (r67, []), (r65, [])] r81 w82 (storeA 3 x79 x77 h80 fun h83 r84 w85 => chkS [] r84 w85 (loadA 3 x5 h83 fun x86 r87 => chkS [] r87 [] (S65_209 h83 x27 r87 ih x86 x79 x49 x48 x78 x13)))
noncomputable def S65_211 (ih : Handler) (h69 : Hp) (x0 : IV) (x64 : IV) (x68 : IV) (x72 : IV) (r70 : List Ref) (w71 : List Ref) (r67 : List Ref) (r65 : List Ref) (x5 : IV) (x27 : IV) (x49 : IV) (x48 : IV) (x13 : IV) : Option (IV × Hp) :=
  isoS [] false false ih 39 [x0, x64, x68, x72] h69 fun x73 h74 r75 w76 => chkS [] r75 w76 (extS 0 x73 fun x77 => extS 1 x73 fun x78 => newS 68161546 (.row [.fv (.int .i64 0), .fv (.int .i64 0), .nils] false) (.ptr (.own 68161546) 0) h74 fun x79 h80 r81 w82 => S65_210 r81 w82 r75 w76 r70 w71 r67 r65 h80 x79 x77 x5 x27 ih x49 x48 x78 x13)
noncomputable def S65_212 (h60 : Hp) (x9 : IV) (r65 : List Ref) (ih : Handler) (x3 : IV) (x0 : IV) (x64 : IV) (x5 : IV) (x27 : IV) (x49 : IV) (x48 : IV) (x13 : IV) : Option (IV × Hp) :=
  loadA 3 x9 h60 fun x66 r67 => chkS [(r65, [])] r67 [] (isoS [] false false ih 56 [x66, .fv (.int .i64 2)] h60 fun x68 h69 r70 w71 => chkS [(r65, [])] r70 w71 (subS EE 3 x3 (.fv (.int .i64 2)) fun x72 => S65_211 ih h69 x0 x64 x68 x72 r70 w71 r67 r65 x5 x27 x49 x48 x13))
noncomputable def S65_213 (h197 : Hp) (x13 : IV) (x191 : IV) (x200 : IV) : Option (IV × Hp) :=
  storeA 3 x13 x191 h197 fun h201 r202 w203 => chkS [] r202 w203 (cellS true 3 x13 h201 fun x204 => outS1 [x204, x200] h201)
noncomputable def S65_214 (r189 : List Ref) (w190 : List Ref) (ih : Handler) (h188 : Hp) (x187 : IV) (x48 : IV) (x165 : IV) (x13 : IV) : Option (IV × Hp) :=
  chkS [] r189 w190 (isoS [] false false ih 24 [.fv (.int .i64 5), x187] h188 fun x191 h192 r193 w194 => chkS [] r193 w194 (guardS x48 true h192 (fun k195 => k195 x165 h192 [] []) fun x196 h197 _ _ => pickS x48 x196 (.fv (.bool false)) fun x200 => S65_213 h197 x13 x191 x200))
noncomputable def S65_215 (ih : Handler) (h178 : Hp) (x177 : IV) (x49 : IV) (r179 : List Ref) (w180 : List Ref) (r176 : List Ref) (r174 : List Ref) (x48 : IV) (x165 : IV) (x13 : IV) : Option (IV × Hp) :=
  isoS [] false false ih 24 [.fv (.int .i64 4), x177] h178 fun x181 h182 r183 w184 => chkS [] r183 w184 (loadA 3 x49 h182 fun x185 r186 => chkS [(r183, w184), (r179, w180), (r176, []), (r174, [])] r186 [] (genS (pcBuildSlice EE 28 2 [(0, x181), (1, x185)]) 68165637 h182 fun x187 h188 r189 w190 => S65_214 r189 w190 ih h188 x187 x48 x165 x13))
noncomputable def S65_216 (r174 : List Ref) (h170 : Hp) (x166 : IV) (x173 : IV) (ih : Handler) (x49 : IV) (x48 : IV) (x165 : IV) (x13 : IV) : Option (IV × Hp) :=
  chkS [] r174 [] (loadA 3 x166 h170 fun x175 r176 => chkS [(r174, [])] r176 [] (genS (pcBuildSlice EE 28 2 [(0, x173), (1, x175)]) 68165634 h170 fun x177 h178 r179 w180 => chkS [] r179 w180 (S65_215 ih h178 x177 x49 r179 w180 r176 r174 x48 x165 x13)))
noncomputable def S65_217 (h161 : Hp) (r162 : List Ref) (w163 : List Ref) (r157 : List Ref) (w158 : List Ref) (r154 : List Ref) (r151 : List Ref) (w152 : List Ref) (r148 : List Ref) (r145 : List Ref) (w146 : List Ref) (r142 : List Ref) (x164 : IV) (x27 : IV) (ih : Handler) (x49 : IV) (x48 : IV) (x165 : IV) (x13 : IV) : Option (IV × Hp) :=
  newS 68164621 (.row [.fv (.int .i64 0), .fv (.int .i64 0), .nils] false) (.ptr (.own 68164621) 0) h161 fun x166 h167 r168 w169 => chkS [(r162, w163), (r157, w158), (r154, []), (r151, w152), (r148, []), (r145, w146), (r142, [])] r168 w169 (storeA 3 x166 x164 h167 fun h170 r171 w172 => chkS [] r171 w172 (loadA 3 x27 h170 fun x173 r174 => S65_216 r174 h170 x166 x173 ih x49 x48 x165 x13))
noncomputable def S65_218 (x3 : IV) (ih : Handler) (h156 : Hp) (x143 : IV) (x149 : IV) (x155 : IV) (r157 : List Ref) (w158 : List Ref) (r154 : List Ref) (r151 : List Ref) (w152 : List Ref) (r148 : List Ref) (r145 : List Ref) (w146 : List Ref) (r142 : List Ref) (x27 : IV) (x49 : IV) (x48 : IV) (x13 : IV) : Option (IV × Hp) :=
  subS EE 3 x3 (.fv (.int .i64 2)) fun x159 => isoS [] false false ih 39 [x143, x149, x155, x159] h156 fun x160 h161 r162 w163 => chkS [] r162 w163 (extS 0 x160 fun x164 => extS 1 x160 fun x165 => S65_217 h161 r162 w163 r157 w158 r154 r151 w152 r148 r145 w146 r142 x164 x27 ih x49 x48 x165 x13)
noncomputable def S65_219 (r151 : List Ref) (w152 : List Ref) (h150 : Hp) (x9 : IV) (r148 : List Ref) (r145 : List Ref) (w146 : List Ref) (r142 : List Ref) (ih : Handler) (x3 : IV) (x143 : IV) (x149 : IV) (x27 : IV) (x49 : IV) (x48 : IV) (x13 : IV) : Option (IV × Hp) :=
  chkS [] r151 w152 (loadA 3 x9 h150 fun x153 r154 => chkS [(r151, w152), (r148, []), (r145, w146), (r142, [])] r154 [] (isoS [] false false ih 56 [x153, .fv (.int .i64 2)] h150 fun x155 h156 r157 w158 => chkS [] r157 w158 (S65_218 x3 ih h156 x143 x149 x155 r157 w158 r154 r151 w152 r148 r145 w146 r142 x27 x49 x48 x13)))
noncomputable def S65_220 (ih : Handler) (h60 : Hp) (x0 : IV) (x141 : IV) (x5 : IV) (r142 : List Ref) (x9 : IV) (x3 : IV) (x27 : IV) (x49 : IV) (x48 : IV) (x13 : IV) : Option (IV × Hp) :=
  isoS [] false false ih 60 [x0, .fv (.int .i64 1), x141] h60 fun x143 h144 r145 w146 => chkS [] r145 w146 (loadA 3 x5 h144 fun x147 r148 => chkS [(r145, w146), (r142, [])] r148 [] (isoS [] false false ih 45 [x147, .fv (.int .i64 1), .fv (.int .i64 0)] h144 fun x149 h150 r151 w152 => S65_219 r151 w152 h150 x9 r148 r145 w146 r142 ih x3 x143 x149 x27 x49 x48 x13))
noncomputable def S65_221 (x59 : IV) (h60 : Hp) (x5 : IV) (x9 : IV) (ih : Handler) (x3 : IV) (x0 : IV) (x27 : IV) (x49 : IV) (x48 : IV) (x13 : IV) : Option (IV × Hp) :=
  eqS EE 3 x59 (.fv (.int .i64 0)) fun x63 => condS x63 (loadA 3 x5 h60 fun x64 r65 => chkS [] r65 [] (S65_212 h60 x9 r65 ih x3 x0 x64 x5 x27 x49 x48 x13)) (loadA 3 x27 h60 fun x141 r142 => chkS [] r142 [] (S65_220 ih h60 x0 x141 x5 r142 x9 x3 x27 x49 x48 x13))
noncomputable def S65_222 (h50 : Hp) (x49 : IV) (x47 : IV) (x9 : IV) (ih : Handler) (x5 : IV) (x3 : IV) (x0 : IV) (x27 : IV) (x48 : IV) (x13 : IV) : Option (IV × Hp) :=
  storeA 3 x49 x47 h50 fun h53 r54 w55 => chkS [] r54 w55 (faddrS 1 x9 fun x56 => load1 x56 h53 fun x57 _ => isoS [] false false ih 55 [x57, .fv (.int .i64 3)] h53 fun x59 h60 _ _ => S65_221 x59 h60 x5 x9 ih x3 x0 x27 x49 x48 x13)
noncomputable def S65_223 (r45 : List Ref) (w46 : List Ref) (x43 : IV) (h44 : Hp) (r40 : List Ref) (w41 : List Ref) (r37 : List Ref) (r35 : List Ref) (x9 : IV) (ih : Handler) (x5 : IV) (x3 : IV) (x0 : IV) (x27 : IV) (x13 : IV) : Option (IV × Hp) :=
  chkS [] r45 w46 (extS 0 x43 fun x47 => extS 1 x43 fun x48 => newS 68159498 (.row [.fv (.int .i64 0), .fv (.int .i64 0), .nils] false) (.ptr (.own 68159498) 0) h44 fun x49 h50 r51 w52 => chkS [(r45, w46), (r40, w41), (r37, []), (r35, [])] r51 w52 (S65_222 h50 x49 x47 x9 ih x5 x3 x0 x27 x48 x13))
noncomputable def S65_224 (r37 : List Ref) (r35 : List Ref) (ih : Handler) (h31 : Hp) (x36 : IV) (x3 : IV) (x0 : IV) (x34 : IV) (x9 : IV) (x5 : IV) (x27 : IV) (x13 : IV) : Option (IV × Hp) :=
  chkS [(r35, [])] r37 [] (isoS [] false false ih 56 [x36, .fv (.int .i64 1)] h31 fun x38 h39 r40 w41 => chkS [(r35, [])] r40 w41 (subS EE 3 x3 (.fv (.int .i64 2)) fun x42 => isoS [] false false ih 39 [x0, x34, x38, x42] h39 fun x43 h44 r45 w46 => S65_223 r45 w46 x43 h44 r40 w41 r37 r35 x9 ih x5 x3 x0 x27 x13))
noncomputable def S65_225 (h24 : Hp) (x23 : IV) (x9 : IV) (ih : Handler) (x3 : IV) (x0 : IV) (x5 : IV) (x13 : IV) : Option (IV × Hp) :=
  newS 68158468 (.row [.fv (.int .i64 0), .fv (.int .i64 0), .nils] false) (.ptr (.own 68158468) 0) h24 fun x27 h28 _ _ => storeA 3 x27 x23 h28 fun h31 _ _ => loadA 3 x27 h31 fun x34 r35 => chkS [] r35 [] (loadA 3 x9 h31 fun x36 r37 => S65_224 r37 r35 ih h31 x36 x3 x0 x34 x9 x5 x27 x13)
noncomputable def S65 (ih : Handler) (n : Nat) (x0 : IV) (x1 : IV) (x2 : IV) (x3 : IV) (h4 : Hp) : Option (IV × Hp) :=
  boxS 68157440 x1 h4 fun x5 h6 _ _ => boxS 68157441 x2 h6 fun x9 h10 _ _ => newS 68157442 (.row [.fv (.int .i64 0), .fv (.int .i64 0), .nils] false) (.ptr (.own 68157442) 0) h10 fun x13 h14 _ _ => loadA 3 x9 h14 fun x17 _ => isoS [] false false ih 56 [x17, .fv (.int .i64 0)] h14 fun x19 h20 _ _ => isoS [] false false ih 38 [x0, x19, .fv (.int .i64 1)] h20 fun x23 h24 _ _ => S65_225 h24 x23 x9 ih x3 x0 x5 x13
theorem S65_ok (ih : Handler) (n : Nat) (x0 : IV) (x1 : IV) (x2 : IV) (x3 : IV) (h4 : Hp) : funS EE ih ft.get n 65 [x0, x1, x2, x3] h4 = S65 ih n x0 x1 x2 x3 h4 := by kernel_rfl
noncomputable def S66_533 (r186 : List Ref) (w187 : List Ref) (h185 : Hp) (x13 : IV) (x184 : IV) : Option (IV × Hp) :=
  chkS [] r186 w187 (cellS true 3 x13 h185 fun x188 => outS1 [x188, x184] h185)
noncomputable def S66_534 (h170 : Hp) (x79 : IV) (x101 : IV) (x145 : IV) (x13 : IV) (x169 : IV) : Option (IV × Hp) :=
  guardS x79 true h170 (fun k173 => k173 x101 h170 [] []) fun x174 h175 _ _ => pickS x79 x174 (.fv (.bool false)) fun x178 => guardS x178 true h175 (fun k179 => k179 x145 h175 [] []) fun x180 h181 _ _ => pickS x178 x180 (.fv (.bool false)) fun x184 => storeA 3 x13 x169 h181 fun h185 r186 w187 => S66_533 r186 w187 h185 x13 x184
noncomputable def S66_535 (r164 : List Ref) (r162 : List Ref) (r160 : List Ref) (r157 : List Ref) (w158 : List Ref) (r154 : List Ref) (h156 : Hp) (x155 : IV) (x159 : IV) (x161 : IV) (x163 : IV) (ih : Handler) (x79 : IV) (x101 : IV) (x145 : IV) (x13 : IV) : Option (IV × Hp) :=
  chkS [(r162, []), (r160, []), (r157, w158), (r154, [])] r164 [] (genS (pcBuildSlice EE 28 4 [(0, x155), (1, x159), (2, x161), (3, x163)]) 69211141 h156 fun x165 h166 r167 w168 => chkS [] r167 w168 (isoS [] false false ih 24 [.fv (.int .i64 13), x165] h166 fun x169 h170 r171 w172 => chkS [] r171 w172 (S66_534 h170 x79 x101 x145 x13 x169)))
noncomputable def S66_536 (h156 : Hp) (x102 : IV) (r157 : List Ref) (w158 : List Ref) (r154 : List Ref) (x146 : IV) (x80 : IV) (x155 : IV) (ih : Handler) (x79 : IV) (x101 : IV) (x145 : IV) (x13 : IV) : Option (IV × Hp) :=
  loadA 3 x102 h156 fun x159 r160 => chkS [(r157, w158), (r154, [])] r160 [] (loadA 3 x146 h156 fun x161 r162 => chkS [(r160, []), (r157, w158), (r154, [])] r162 [] (loadA 3 x80 h156 fun x163 r164 => S66_535 r164 r162 r160 r157 w158 r154 h156 x155 x159 x161 x163 ih x79 x101 x145 x13))
noncomputable def S66_537 (r151 : List Ref) (w152 : List Ref) (h150 : Hp) (x5 : IV) (ih : Handler) (x102 : IV) (x146 : IV) (x80 : IV) (x79 : IV) (x101 : IV) (x145 : IV) (x13 : IV) : Option (IV × Hp) :=
  chkS [] r151 w152 (loadA 3 x5 h150 fun x153 r154 => chkS [] r154 [] (isoS [] false false ih 45 [x153, .fv (.int .i64 1), .fv (.int .i64 0)] h150 fun x155 h156 r157 w158 => chkS [] r157 w158 (S66_536 h156 x102 r157 w158 r154 x146 x80 x155 ih x79 x101 x145 x13)))
noncomputable def S66_538 (x140 : IV) (h141 : Hp) (r142 : List Ref) (w143 : List Ref) (r137 : List Ref) (w138 : List Ref) (r134 : List Ref) (r131 : List Ref) (w132 : List Ref) (r128 : List Ref) (r125 : List Ref) (w126 : List Ref) (r121 : List Ref) (w122 : List Ref) (r118 : List Ref) (r115 : List Ref) (w116 : List Ref) (r111 : List Ref) (w112 : List Ref) (x5 : IV) (ih : Handler) (x102 : IV) (x80 : IV) (x79 : IV) (x101 : IV) (x13 : IV) : Option (IV × Hp) :=
  extS 0 x140 fun x144 => extS 1 x140 fun x145 => newS 69210128 (.row [.fv (.int .i64 0), .fv (.int .i64 0), .nils] false) (.ptr (.own 69210128) 0) h141 fun x146 h147 r148 w149 => chkS [(r142, w143), (r137, w138), (r134, []), (r131, w132), (r128, []), (r125, w126), (r121, w122), (r118, []), (r115, w116), (r111, w112)] r148 w149 (storeA 3 x146 x144 h147 fun h150 r151 w152 => S66_537 r151 w152 h150 x5 ih x102 x146 x80 x79 x101 x145 x13)
noncomputable def S66_539 (ih : Handler) (h130 : Hp) (x133 : IV) (x3 : IV) (x123 : IV) (x129 : IV) (r134 : List Ref) (r131 : List Ref) (w132 : List Ref) (r128 : List Ref) (r125 : List Ref) (w126 : List Ref) (r121 : List Ref) (w122 : List Ref) (r118 : List Ref) (r115 : List Ref) (w116 : List Ref) (r111 : List Ref) (w112 : List Ref) (x5 : IV) (x102 : IV) (x80 : IV) (x79 : IV) (x101 : IV) (x13 : IV) : Option (IV × Hp) :=
  isoS [] false false ih 56 [x133, .fv (.int .i64 2)] h130 fun x135 h136 r137 w138 => chkS [] r137 w138 (subS EE 3 x3 (.fv (.int .i64 2)) fun x139 => isoS [] false false ih 39 [x123, x129, x135, x139] h136 fun x140 h141 r142 w143 => chkS [] r142 w143 (S66_538 x140 h141 r142 w143 r137 w138 r134 r131 w132 r128 r125 w126 r121 w122 r118 r115 w116 r111 w112 x5 ih x102 x80 x79 x101 x13))
noncomputable def S66_540 (r128 : List Ref) (r125 : List Ref) (w126 : List Ref) (r121 : List Ref) (w122 : List Ref) (r118 : List Ref) (r115 : List Ref) (w116 : List Ref) (r111 : List Ref) (w112 : List Ref) (ih : Handler) (h124 : Hp) (x127 : IV) (x9 : IV) (x3 : IV) (x123 : IV) (x5 : IV) (x102 : IV) (x80 : IV) (x79 : IV) (x101 : IV) (x13 : IV) : Option (IV × Hp) :=
  chkS [(r125, w126), (r121, w122), (r118, []), (r115, w116), (r111, w112)] r128 [] (isoS [] false false ih 45 [x127, .fv (.int .i64 2), .fv (.int .i64 0)] h124 fun x129 h130 r131 w132 => chkS [] r131 w132 (loadA 3 x9 h130 fun x133 r134 => chkS [(r131, w132), (r128, []), (r125, w126), (r121, w122), (r118, []), (r115, w116), (r111, w112)] r134 [] (S66_539 ih h130 x133 x3 x123 x129 r134 r131 w132 r128 r125 w126 r121 w122 r118 r115 w116 r111 w112 x5 x102 x80 x79 x101 x13)))
noncomputable def S66_541 (ih : Handler) (h114 : Hp) (x117 : IV) (x113 : IV) (x5 : IV) (r118 : List Ref) (r115 : List Ref) (w116 : List Ref) (r111 : List Ref) (w112 : List Ref) (x9 : IV) (x3 : IV) (x102 : IV) (x80 : IV) (x79 : IV) (x101 : IV) (x13 : IV) : Option (IV × Hp) :=
  isoS [] false false ih 45 [x117, .fv (.int .i64 1), .fv (.int .i64 0)] h114 fun x119 h120 r121 w122 => chkS [] r121 w122 (isoS [] false false ih 60 [x113, .fv (.int .i64 1), x119] h120 fun x123 h124 r125 w126 => chkS [] r125 w126 (loadA 3 x5 h124 fun x127 r128 => S66_540 r128 r125 w126 r121 w122 r118 r115 w116 r111 w112 ih h124 x127 x9 x3 x123 x5 x102 x80 x79 x101 x13))
noncomputable def S66_542 (r111 : List Ref) (w112 : List Ref) (ih : Handler) (h110 : Hp) (x0 : IV) (x109 : IV) (x5 : IV) (x9 : IV) (x3 : IV) (x102 : IV) (x80 : IV) (x79 : IV) (x101 : IV) (x13 : IV) : Option (IV × Hp) :=
  chkS [] r111 w112 (isoS [] false false ih 60 [x0, .fv (.int .i64 1), x109] h110 fun x113 h114 r115 w116 => chkS [] r115 w116 (loadA 3 x5 h114 fun x117 r118 => chkS [(r115, w116), (r111, w112)] r118 [] (S66_541 ih h114 x117 x113 x5 r118 r115 w116 r111 w112 x9 x3 x102 x80 x79 x101 x13)))
noncomputable def S66_543 (h97 : Hp) (r98 : List Ref) (w99 : List Ref) (r93 : List Ref) (w94 : List Ref) (r90 : List Ref) (r88 : List Ref) (x100 : IV) (ih : Handler) (x0 : IV) (x5 : IV) (x9 : IV) (x3 : IV) (x80 : IV) (x79 : IV) (x101 : IV) (x13 : IV) : Option (IV × Hp) :=
  newS 69209098 (.row [.fv (.int .i64 0), .fv (.int .i64 0), .nils] false) (.ptr (.own 69209098) 0) h97 fun x102 h103 r104 w105 => chkS [(r98, w99), (r93, w94), (r90, []), (r88, [])] r104 w105 (storeA 3 x102 x100 h103 fun h106 r107 w108 => chkS [] r107 w108 (isoS [] false false ih 64 [] h106 fun x109 h110 r111 w112 => S66_542 r111 w112 ih h110 x0 x109 x5 x9 x3 x102 x80 x79 x101 x13))
noncomputable def S66_544 (x3 : IV) (ih : Handler) (h92 : Hp) (x0 : IV) (x87 : IV) (x91 : IV) (r93 : List Ref) (w94 : List Ref) (r90 : List Ref) (r88 : List Ref) (x5 : IV) (x9 : IV) (x80 : IV) (x79 : IV) (x13 : IV) : Option (IV × Hp) :=
  subS EE 3 x3 (.fv (.int .i64 2)) fun x95 => isoS [] false false ih 39 [x0, x87, x91, x95] h92 fun x96 h97 r98 w99 => chkS [] r98 w99 (extS 0 x96 fun x100 => extS 1 x96 fun x101 => S66_543 h97 r98 w99 r93 w94 r90 r88 x100 ih x0 x5 x9 x3 x80 x79 x101 x13)
noncomputable def S66_545 (r88 : List Ref) (h84 : Hp) (x9 : IV) (ih : Handler) (x3 : IV) (x0 : IV) (x87 : IV) (x5 : IV) (x80 : IV) (x79 : IV) (x13 : IV) : Option (IV × Hp) :=
  chkS [] r88 [] (loadA 3 x9 h84 fun x89 r90 => chkS [(r88, [])] r90 [] (isoS [] false false ih 56 [x89, .fv (.int .i64 1)] h84 fun x91 h92 r93 w94 => chkS [(r88, [])] r93 w94 (S66_544 x3 ih h92 x0 x87 x91 r93 w94 r90 r88 x5 x9 x80 x79 x13)))
noncomputable def S66_546 (h75 : Hp) (r76 : List Ref) (w77 : List Ref) (r71 : List Ref) (w72 : List Ref) (r68 : List Ref) (r65 : List Ref) (w66 : List Ref) (x78 : IV) (x5 : IV) (x9 : IV) (ih : Handler) (x3 : IV) (x0 : IV) (x79 : IV) (x13 : IV) : Option (IV × Hp) :=
  newS 69208074 (.row [.fv (.int .i64 0), .fv (.int .i64 0), .nils] false) (.ptr (.own 69208074) 0) h75 fun x80 h81 r82 w83 => chkS [(r76, w77), (r71, w72), (r68, []), (r65, w66)] r82 w83 (storeA 3 x80 x78 h81 fun h84 r85 w86 => chkS [] r85 w86 (loadA 3 x5 h84 fun x87 r88 => S66_545 r88 h84 x9 ih x3 x0 x87 x5 x80 x79 x13))
noncomputable def S66_547 (x3 : IV) (ih : Handler) (h70 : Hp) (x0 : IV) (x63 : IV) (x69 : IV) (r71 : List Ref) (w72 : List Ref) (r68 : List Ref) (r65 : List Ref) (w66 : List Ref) (x5 : IV) (x9 : IV) (x13 : IV) : Option (IV × Hp) :=
  subS EE 3 x3 (.fv (.int .i64 2)) fun x73 => isoS [] false false ih 39 [x0, x63, x69, x73] h70 fun x74 h75 r76 w77 => chkS [] r76 w77 (extS 0 x74 fun x78 => extS 1 x74 fun x79 => S66_546 h75 r76 w77 r71 w72 r68 r65 w66 x78 x5 x9 ih x3 x0 x79 x13)
noncomputable def S66_548 (r65 : List Ref) (w66 : List Ref) (h64 : Hp) (x9 : IV) (ih : Handler) (x3 : IV) (x0 : IV) (x63 : IV) (x5 : IV) (x13 : IV) : Option (IV × Hp) :=
  chkS [] r65 w66 (loadA 3 x9 h64 fun x67 r68 => chkS [(r65, w66)] r68 [] (isoS [] false false ih 56 [x67, .fv (.int .i64 0)] h64 fun x69 h70 r71 w72 => chkS [] r71 w72 (S66_547 x3 ih h70 x0 x63 x69 r71 w72 r68 r65 w66 x5 x9 x13)))
noncomputable def S66_549 (ih : Handler) (h244 : Hp) (x243 : IV) (x13 : IV) (x233 : IV) : Option (IV × Hp) :=
  isoS [] false false ih 24 [.fv (.int .i64 12), x243] h244 fun x247 h248 _ _ => storeA 3 x13 x247 h248 fun h251 _ _ => cellS true 3 x13 h251 fun x254 => outS1 [x254, x233] h251
noncomputable def S66_550 (r236 : List Ref) (w237 : List Ref) (r230 : List Ref) (w231 : List Ref) (r225 : List Ref) (w226 : List Ref) (r222 : List Ref) (r220 : List Ref) (h235 : Hp) (x234 : IV) (x232 : IV) (ih : Handler) (x13 : IV) (x233 : IV) : Option (IV × Hp) :=
  chkS [(r230, w231), (r225, w226), (r222, []), (r220, [])] r236 w237 (storeA 3 x234 x232 h235 fun h238 r239 w240 => chkS [] r239 w240 (loadA 3 x234 h238 fun x241 _ => genS (pcBuildSlice EE 28 1 [(0, x241)]) 69216257 h238 fun x243 h244 _ _ => S66_549 ih h244 x243 x13 x233))
noncomputable def S66_551 (ih : Handler) (h224 : Hp) (x0 : IV) (x219 : IV) (x223 : IV) (x227 : IV) (r225 : List Ref) (w226 : List Ref) (r222 : List Ref) (r220 : List Ref) (x13 : IV) : Option (IV × Hp) :=
  isoS [] false false ih 39 [x0, x219, x223, x227] h224 fun x228 h229 r230 w231 => chkS [] r230 w231 (extS 0 x228 fun x232 => extS 1 x228 fun x233 => newS 69215242 (.row [.fv (.int .i64 0), .fv (.int .i64 0), .nils] false) (.ptr (.own 69215242) 0) h229 fun x234 h235 r236 w237 => S66_550 r236 w237 r230 w231 r225 w226 r222 r220 h235 x234 x232 ih x13 x233)
noncomputable def S66_552 (h215 : Hp) (x9 : IV) (r220 : List Ref) (ih : Handler) (x3 : IV) (x0 : IV) (x219 : IV) (x13 : IV) : Option (IV × Hp) :=
  loadA 3 x9 h215 fun x221 r222 => chkS [(r220, [])] r222 [] (isoS [] false false ih 56 [x221, .fv (.int .i64 0)] h215 fun x223 h224 r225 w226 => chkS [(r220, [])] r225 w226 (subS EE 3 x3 (.fv (.int .i64 1)) fun x227 => S66_551 ih h224 x0 x219 x223 x227 r225 w226 r222 r220 x13))
noncomputable def S66_553 (ih : Handler) (h215 : Hp) (x256 : IV) (x13 : IV) : Option (IV × Hp) :=
  isoS [] false false ih 55 [x256, .fv (.int .i64 4)] h215 fun x258 h259 _ _ => isoS [] false false ih 27 [x258] h259 fun x262 h263 _ _ => storeA 3 x13 x262 h263 fun h266 _ _ => cellS true 3 x13 h266 fun x269 => outS1 [x269, .fv (.bool true)] h266
noncomputable def S66_554 (x218 : IV) (h215 : Hp) (x5 : IV) (x9 : IV) (ih : Handler) (x3 : IV) (x0 : IV) (x13 : IV) : Option (IV × Hp) :=
  condS x218 (loadA 3 x5 h215 fun x219 r220 => chkS [] r220 [] (S66_552 h215 x9 r220 ih x3 x0 x219 x13)) (faddrS 1 x9 fun x255 => load1 x255 h215 fun x256 _ => S66_553 ih h215 x256 x13)
noncomputable def S66_555 (h59 : Hp) (x193 : IV) (x9 : IV) (ih : Handler) (x5 : IV) (x3 : IV) (x0 : IV) (x13 : IV) : Option (IV × Hp) :=
  guardS x193 true h59 (fun k194 => faddrS 0 x9 fun x195 => k194 x195 h59 [] []) fun x196 h197 _ _ => guardS x193 true h197 (fun k200 => load1 x196 h197 fun x201 r202 => k200 x201 h197 r202 []) fun x203 h204 _ _ => guardS x193 true h204 (fun k207 => isoS [] false false ih 55 [x203, .fv (.int .i64 2)] h204 k207) fun x208 h209 _ _ => guardS x193 true h209 (fun k212 => eqS EE 3 x208 (.fv (.int .i64 1)) fun x213 => k212 x213 h209 [] []) fun x214 h215 _ _ => pickS x193 x214 (.fv (.bool false)) fun x218 => S66_554 x218 h215 x5 x9 ih x3 x0 x13
noncomputable def S66_556 (x311 : IV) (x362 : IV) (h363 : Hp) (x13 : IV) (x357 : IV) : Option (IV × Hp) :=
  pickS x311 x362 (.fv (.bool false)) fun x366 => storeA 3 x13 x357 h363 fun h367 r368 w369 => chkS [] r368 w369 (cellS true 3 x13 h367 fun x370 => outS1 [x370, x366] h367)
noncomputable def S66_557 (h345 : Hp) (x349 : IV) (x351 : IV) (r346 : List Ref) (w347 : List Ref) (r343 : List Ref) (ih : Handler) (x348 : IV) (x311 : IV) (x333 : IV) (x13 : IV) : Option (IV × Hp) :=
  genS (pcBuildSlice EE 28 2 [(0, x349), (1, x351)]) 69222406 h345 fun x353 h354 r355 w356 => chkS [(r346, w347), (r343, [])] r355 w356 (isoS [] false false ih 24 [x348, x353] h354 fun x357 h358 r359 w360 => chkS [] r359 w360 (guardS x311 true h358 (fun k361 => k361 x333 h358 [] []) fun x362 h363 _ _ => S66_556 x311 x362 h363 x13 x357))
noncomputable def S66_558 (x344 : IV) (h345 : Hp) (x312 : IV) (r346 : List Ref) (w347 : List Ref) (r343 : List Ref) (x334 : IV) (ih : Handler) (x311 : IV) (x333 : IV) (x13 : IV) : Option (IV × Hp) :=
  addS EE 3 (.fv (.int .i64 16)) x344 fun x348 => loadA 3 x312 h345 fun x349 r350 => chkS [(r346, w347), (r343, [])] r350 [] (loadA 3 x334 h345 fun x351 r352 => chkS [(r350, []), (r346, w347), (r343, [])] r352 [] (S66_557 h345 x349 x351 r346 w347 r343 ih x348 x311 x333 x13))
noncomputable def S66_559 (x9 : IV) (h338 : Hp) (ih : Handler) (x312 : IV) (x334 : IV) (x311 : IV) (x333 : IV) (x13 : IV) : Option (IV × Hp) :=
  faddrS 1 x9 fun x341 => load1 x341 h338 fun x342 r343 => chkS [] r343 [] (isoS [] false false ih 55 [x342, .fv (.int .i64 2)] h338 fun x344 h345 r346 w347 => chkS [] r346 w347 (S66_558 x344 h345 x312 r346 w347 r343 x334 ih x311 x333 x13))
noncomputable def S66_560 (x328 : IV) (h329 : Hp) (r330 : List Ref) (w331 : List Ref) (r325 : List Ref) (w326 : List Ref) (r322 : List Ref) (r320 : List Ref) (x332 : IV) (x9 : IV) (ih : Handler) (x312 : IV) (x311 : IV) (x13 : IV) : Option (IV × Hp) :=
  extS 1 x328 fun x333 => newS 69221386 (.row [.fv (.int .i64 0), .fv (.int .i64 0), .nils] false) (.ptr (.own 69221386) 0) h329 fun x334 h335 r336 w337 => chkS [(r330, w331), (r325, w326), (r322, []), (r320, [])] r336 w337 (storeA 3 x334 x332 h335 fun h338 r339 w340 => chkS [] r339 w340 (S66_559 x9 h338 ih x312 x334 x311 x333 x13))
noncomputable def S66_561 (r325 : List Ref) (w326 : List Ref) (r320 : List Ref) (x3 : IV) (ih : Handler) (h324 : Hp) (x0 : IV) (x319 : IV) (x323 : IV) (r322 : List Ref) (x9 : IV) (x312 : IV) (x311 : IV) (x13 : IV) : Option (IV × Hp) :=
  chkS [(r320, [])] r325 w326 (subS EE 3 x3 (.fv (.int .i64 1)) fun x327 => isoS [] false false ih 39 [x0, x319, x323, x327] h324 fun x328 h329 r330 w331 => chkS [] r330 w331 (extS 0 x328 fun x332 => S66_560 x328 h329 r330 w331 r325 w326 r322 r320 x332 x9 ih x312 x311 x13))
noncomputable def S66_562 (h316 : Hp) (x5 : IV) (x9 : IV) (ih : Handler) (x3 : IV) (x0 : IV) (x312 : IV) (x311 : IV) (x13 : IV) : Option (IV × Hp) :=
  loadA 3 x5 h316 fun x319 r320 => chkS [] r320 [] (loadA 3 x9 h316 fun x321 r322 => chkS [(r320, [])] r322 [] (isoS [] false false ih 56 [x321, .fv (.int .i64 1)] h316 fun x323 h324 r325 w326 => S66_561 r325 w326 r320 x3 ih h324 x0 x319 x323 r322 x9 x312 x311 x13))
noncomputable def S66_563 (x306 : IV) (h307 : Hp) (r308 : List Ref) (w309 : List Ref) (r303 : List Ref) (w304 : List Ref) (r300 : List Ref) (r298 : List Ref) (x310 : IV) (x5 : IV) (x9 : IV) (ih : Handler) (x3 : IV) (x0 : IV) (x13 : IV) : Option (IV × Hp) :=
  extS 1 x306 fun x311 => newS 69220362 (.row [.fv (.int .i64 0), .fv (.int .i64 0), .nils] false) (.ptr (.own 69220362) 0) h307 fun x312 h313 r314 w315 => chkS [(r308, w309), (r303, w304), (r300, []), (r298, [])] r314 w315 (storeA 3 x312 x310 h313 fun h316 r317 w318 => chkS [] r317 w318 (S66_562 h316 x5 x9 ih x3 x0 x312 x311 x13))
noncomputable def S66_564 (r303 : List Ref) (w304 : List Ref) (r298 : List Ref) (x3 : IV) (ih : Handler) (h302 : Hp) (x0 : IV) (x297 : IV) (x301 : IV) (r300 : List Ref) (x5 : IV) (x9 : IV) (x13 : IV) : Option (IV × Hp) :=
  chkS [(r298, [])] r303 w304 (subS EE 3 x3 (.fv (.int .i64 1)) fun x305 => isoS [] false false ih 39 [x0, x297, x301, x305] h302 fun x306 h307 r308 w309 => chkS [] r308 w309 (extS 0 x306 fun x310 => S66_563 x306 h307 r308 w309 r303 w304 r300 r298 x310 x5 x9 ih x3 x0 x13))
noncomputable def S66_565 (h293 : Hp) (x5 : IV) (x9 : IV) (ih : Handler) (x3 : IV) (x0 : IV) (x13 : IV) : Option (IV × Hp) :=
  loadA 3 x5 h293 fun x297 r298 => chkS [] r298 [] (loadA 3 x9 h293 fun x299 r300 => chkS [(r298, [])] r300 [] (isoS [] false false ih 56 [x299, .fv (.int .i64 0)] h293 fun x301 h302 r303 w304 => S66_564 r303 w304 r298 x3 ih h302 x0 x297 x301 r300 x5 x9 x13))
noncomputable def S66_566 (ih : Handler) (h293 : Hp) (x13 : IV) : Option (IV × Hp) :=
  isoS [] false false ih 24 [.fv (.int .i64 15), .nils] h293 fun x371 h372 _ _ => storeA 3 x13 x371 h372 fun h375 _ _ => cellS true 3 x13 h375 fun x378 => outS1 [x378, .fv (.bool true)] h375
noncomputable def S66_567 (h275 : Hp) (x271 : IV) (x274 : IV) (ih : Handler) (x5 : IV) (x9 : IV) (x3 : IV) (x0 : IV) (x13 : IV) : Option (IV × Hp) :=
  guardS x271 true h275 (fun k278 => load1 x274 h275 fun x279 r280 => k278 x279 h275 r280 []) fun x281 h282 _ _ => guardS x271 true h282 (fun k285 => isoS [] false false ih 55 [x281, .fv (.int .i64 5)] h282 k285) fun x286 h287 _ _ => guardS x271 true h287 (fun k290 => gtS EE 3 x286 (.fv (.int .i64 1)) fun x291 => k290 x291 h287 [] []) fun x292 h293 _ _ => pickS x271 x292 (.fv (.bool false)) fun x296 => condS x296 (S66_565 h293 x5 x9 ih x3 x0 x13) (S66_566 ih h293 x13)
noncomputable def S66_568 (x384 : IV) (ih : Handler) (h59 : Hp) (x13 : IV) : Option (IV × Hp) :=
  subS EE 3 x384 (.fv (.int .i64 1)) fun x386 => isoS [] false false ih 47 [x386] h59 fun x387 h388 _ _ => storeA 3 x13 x387 h388 fun h391 _ _ => cellS true 3 x13 h391 fun x394 => outS1 [x394, .fv (.bool true)] h391
noncomputable def S66_569 (h491 : Hp) (x13 : IV) (x490 : IV) : Option (IV × Hp) :=
  cellS true 3 x13 h491 fun x494 => outS1 [x494, x490] h491
noncomputable def S66_570 (r483 : List Ref) (w484 : List Ref) (h482 : Hp) (x429 : IV) (x457 : IV) (x13 : IV) (x481 : IV) : Option (IV × Hp) :=
  chkS [] r483 w484 (guardS x429 true h482 (fun k485 => k485 x457 h482 [] []) fun x486 h487 _ _ => pickS x429 x486 (.fv (.bool false)) fun x490 => storeA 3 x13 x481 h487 fun h491 r492 w493 => chkS [] r492 w493 (S66_569 h491 x13 x490))
noncomputable def S66_571 (h466 : Hp) (x458 : IV) (r474 : List Ref) (r472 : List Ref) (r467 : List Ref) (w468 : List Ref) (x473 : IV) (ih : Handler) (x471 : IV) (x429 : IV) (x457 : IV) (x13 : IV) : Option (IV × Hp) :=
  loadA 3 x458 h466 fun x475 r476 => chkS [(r474, []), (r472, []), (r467, w468)] r476 [] (genS (pcBuildSlice EE 28 2 [(0, x473), (1, x475)]) 69230599 h466 fun x477 h478 r479 w480 => chkS [(r472, []), (r467, w468)] r479 w480 (isoS [] false false ih 24 [x471, x477] h478 fun x481 h482 r483 w484 => S66_570 r483 w484 h482 x429 x457 x13 x481))
noncomputable def S66_572 (x465 : IV) (x469 : IV) (h466 : Hp) (x430 : IV) (r467 : List Ref) (w468 : List Ref) (x458 : IV) (ih : Handler) (x429 : IV) (x457 : IV) (x13 : IV) : Option (IV × Hp) :=
  ixS 1 x465 x469 fun x470 => load1 x470 h466 fun x471 r472 => chkS [] r472 [] (loadA 3 x430 h466 fun x473 r474 => chkS [(r472, []), (r467, w468)] r474 [] (S66_571 h466 x458 r474 r472 r467 w468 x473 ih x471 x429 x457 x13))
noncomputable def S66_573 (h459 : Hp) (x458 : IV) (x456 : IV) (x398 : IV) (x430 : IV) (ih : Handler) (x429 : IV) (x457 : IV) (x13 : IV) : Option (IV × Hp) :=
  storeA 3 x458 x456 h459 fun h462 r463 w464 => chkS [] r463 w464 (genS (pcBuildSlice EE 75 2 [(0, .fv (.int .i64 3)), (1, .fv (.int .i64 6))]) 69230592 h462 fun x465 h466 r467 w468 => chkS [] r467 w468 (subS EE 3 x398 (.fv (.int .i64 2)) fun x469 => S66_572 x465 x469 h466 x430 r467 w468 x458 ih x429 x457 x13))
noncomputable def S66_574 (r454 : List Ref) (w455 : List Ref) (x452 : IV) (h453 : Hp) (r449 : List Ref) (w450 : List Ref) (r446 : List Ref) (r444 : List Ref) (r441 : List Ref) (w442 : List Ref) (r438 : List Ref) (x398 : IV) (x430 : IV) (ih : Handler) (x429 : IV) (x13 : IV) : Option (IV × Hp) :=
  chkS [] r454 w455 (extS 0 x452 fun x456 => extS 1 x452 fun x457 => newS 69229580 (.row [.fv (.int .i64 0), .fv (.int .i64 0), .nils] false) (.ptr (.own 69229580) 0) h453 fun x458 h459 r460 w461 => chkS [(r454, w455), (r449, w450), (r446, []), (r444, []), (r441, w442), (r438, [])] r460 w461 (S66_573 h459 x458 x456 x398 x430 ih x429 x457 x13))
noncomputable def S66_575 (r446 : List Ref) (r444 : List Ref) (r441 : List Ref) (w442 : List Ref) (r438 : List Ref) (ih : Handler) (h440 : Hp) (x445 : IV) (x3 : IV) (x439 : IV) (x443 : IV) (x398 : IV) (x430 : IV) (x429 : IV) (x13 : IV) : Option (IV × Hp) :=
  chkS [(r444, []), (r441, w442), (r438, [])] r446 [] (isoS [] false false ih 56 [x445, .fv (.int .i64 1)] h440 fun x447 h448 r449 w450 => chkS [(r444, [])] r449 w450 (subS EE 3 x3 (.fv (.int .i64 1)) fun x451 => isoS [] false false ih 39 [x439, x443, x447, x451] h448 fun x452 h453 r454 w455 => S66_574 r454 w455 x452 h453 r449 w450 r446 r444 r441 w442 r438 x398 x430 ih x429 x13))
noncomputable def S66_576 (ih : Handler) (h434 : Hp) (x0 : IV) (x437 : IV) (x5 : IV) (r438 : List Ref) (x9 : IV) (x3 : IV) (x398 : IV) (x430 : IV) (x429 : IV) (x13 : IV) : Option (IV × Hp) :=
  isoS [] false false ih 60 [x0, .fv (.int .i64 1), x437] h434 fun x439 h440 r441 w442 => chkS [] r441 w442 (loadA 3 x5 h440 fun x443 r444 => chkS [(r441, w442), (r438, [])] r444 [] (loadA 3 x9 h440 fun x445 r446 => S66_575 r446 r444 r441 w442 r438 ih h440 x445 x3 x439 x443 x398 x430 x429 x13))
noncomputable def S66_577 (r432 : List Ref) (w433 : List Ref) (r426 : List Ref) (w427 : List Ref) (r421 : List Ref) (w422 : List Ref) (r418 : List Ref) (r416 : List Ref) (h431 : Hp) (x430 : IV) (x428 : IV) (ih : Handler) (x0 : IV) (x5 : IV) (x9 : IV) (x3 : IV) (x398 : IV) (x429 : IV) (x13 : IV) : Option (IV × Hp) :=
  chkS [(r426, w427), (r421, w422), (r418, []), (r416, [])] r432 w433 (storeA 3 x430 x428 h431 fun h434 r435 w436 => chkS [] r435 w436 (loadA 3 x430 h434 fun x437 r438 => chkS [] r438 [] (S66_576 ih h434 x0 x437 x5 r438 x9 x3 x398 x430 x429 x13)))
noncomputable def S66_578 (ih : Handler) (h420 : Hp) (x0 : IV) (x415 : IV) (x419 : IV) (x423 : IV) (r421 : List Ref) (w422 : List Ref) (r418 : List Ref) (r416 : List Ref) (x5 : IV) (x9 : IV) (x3 : IV) (x398 : IV) (x13 : IV) : Option (IV × Hp) :=
  isoS [] false false ih 39 [x0, x415, x419, x423] h420 fun x424 h425 r426 w427 => chkS [] r426 w427 (extS 0 x424 fun x428 => extS 1 x424 fun x429 => newS 69228554 (.row [.fv (.int .i64 0), .fv (.int .i64 0), .nils] false) (.ptr (.own 69228554) 0) h425 fun x430 h431 r432 w433 => S66_577 r432 w433 r426 w427 r421 w422 r418 r416 h431 x430 x428 ih x0 x5 x9 x3 x398 x429 x13)
noncomputable def S66_579 (h411 : Hp) (x9 : IV) (r416 : List Ref) (ih : Handler) (x3 : IV) (x0 : IV) (x415 : IV) (x5 : IV) (x398 : IV) (x13 : IV) : Option (IV × Hp) :=
  loadA 3 x9 h411 fun x417 r418 => chkS [(r416, [])] r418 [] (isoS [] false false ih 56 [x417, .fv (.int .i64 0)] h411 fun x419 h420 r421 w422 => chkS [(r416, [])] r421 w422 (subS EE 3 x3 (.fv (.int .i64 1)) fun x423 => S66_578 ih h420 x0 x415 x419 x423 r421 w422 r418 r416 x5 x9 x3 x398 x13))
noncomputable def S66_580 (h529 : Hp) (x13 : IV) : Option (IV × Hp) :=
  cellS true 3 x13 h529 fun x532 => outS1 [x532, .fv (.bool true)] h529
noncomputable def S66_581 (x515 : IV) (x522 : IV) (h523 : Hp) (x13 : IV) : Option (IV × Hp) :=
  ixS 3 x515 x522 fun x526 => loadA 3 x526 h523 fun x527 r528 => chkS [] r528 [] (storeA 3 x13 x527 h523 fun h529 r530 w531 => chkS [] r530 w531 (S66_580 h529 x13))
noncomputable def S66_582 (x9 : IV) (h516 : Hp) (r517 : List Ref) (w518 : List Ref) (r513 : List Ref) (w514 : List Ref) (r509 : List Ref) (w510 : List Ref) (r505 : List Ref) (w506 : List Ref) (r501 : List Ref) (w502 : List Ref) (r497 : List Ref) (w498 : List Ref) (ih : Handler) (x515 : IV) (x13 : IV) : Option (IV × Hp) :=
  faddrS 1 x9 fun x519 => load1 x519 h516 fun x520 r521 => chkS [(r517, w518), (r513, w514), (r509, w510), (r505, w506), (r501, w502), (r497, w498)] r521 [] (isoS [] false false ih 55 [x520, .fv (.int .i64 3)] h516 fun x522 h523 r524 w525 => chkS [(r517, w518)] r524 w525 (S66_581 x515 x522 h523 x13))
noncomputable def S66_583 (r509 : List Ref) (w510 : List Ref) (ih : Handler) (h508 : Hp) (x507 : IV) (x495 : IV) (x499 : IV) (x9 : IV) (r505 : List Ref) (w506 : List Ref) (r501 : List Ref) (w502 : List Ref) (r497 : List Ref) (w498 : List Ref) (x13 : IV) : Option (IV × Hp) :=
  chkS [] r509 w510 (isoS [] false false ih 24 [.fv (.int .i64 18), x507] h508 fun x511 h512 r513 w514 => chkS [] r513 w514 (genS (pcBuildSlice EE 28 3 [(0, x495), (1, x499), (2, x511)]) 69231621 h512 fun x515 h516 r517 w518 => chkS [] r517 w518 (S66_582 x9 h516 r517 w518 r513 w514 r509 w510 r505 w506 r501 w502 r497 w498 ih x515 x13)))
noncomputable def S66_584 (ih : Handler) (h496 : Hp) (x495 : IV) (x9 : IV) (r497 : List Ref) (w498 : List Ref) (x13 : IV) : Option (IV × Hp) :=
  isoS [] false false ih 24 [.fv (.int .i64 14), .nils] h496 fun x499 h500 r501 w502 => chkS [] r501 w502 (isoS [] false false ih 24 [.fv (.int .i64 15), .nils] h500 fun x503 h504 r505 w506 => chkS [] r505 w506 (genS (pcBuildSlice EE 28 1 [(0, x503)]) 69231619 h504 fun x507 h508 r509 w510 => S66_583 r509 w510 ih h508 x507 x495 x499 x9 r505 w506 r501 w502 r497 w498 x13))
noncomputable def S66_585 (x414 : IV) (h411 : Hp) (x5 : IV) (x9 : IV) (ih : Handler) (x3 : IV) (x0 : IV) (x398 : IV) (x13 : IV) : Option (IV × Hp) :=
  condS x414 (loadA 3 x5 h411 fun x415 r416 => chkS [] r416 [] (S66_579 h411 x9 r416 ih x3 x0 x415 x5 x398 x13)) (isoS [] false false ih 64 [] h411 fun x495 h496 r497 w498 => chkS [] r497 w498 (S66_584 ih h496 x495 x9 r497 w498 x13))
noncomputable def S66_586 (ih : Handler) (h59 : Hp) (x396 : IV) (x3 : IV) (x5 : IV) (x9 : IV) (x0 : IV) (x13 : IV) : Option (IV × Hp) :=
  isoS [] false false ih 55 [x396, .fv (.int .i64 4)] h59 fun x398 h399 _ _ => gtS EE 3 x3 (.fv (.int .i64 0)) fun x402 => guardS x402 true h399 (fun k403 => k403 x398 h399 [] []) fun x404 h405 _ _ => guardS x402 true h405 (fun k408 => gtS EE 3 x404 (.fv (.int .i64 1)) fun x409 => k408 x409 h405 [] []) fun x410 h411 _ _ => pickS x402 x410 (.fv (.bool false)) fun x414 => S66_585 x414 h411 x5 x9 ih x3 x0 x398 x13
noncomputable def S66_587 (x380 : IV) (x5 : IV) (h59 : Hp) (ih : Handler) (x13 : IV) (x9 : IV) (x3 : IV) (x0 : IV) : Option (IV × Hp) :=
  gtS EE 3 x380 (.fv (.int .i64 0)) fun x382 => condS x382 (faddrS 1 x5 fun x383 => load1 x383 h59 fun x384 _ => S66_568 x384 ih h59 x13) (faddrS 0 x9 fun x395 => load1 x395 h59 fun x396 _ => S66_586 ih h59 x396 x3 x5 x9 x0 x13)
noncomputable def S66_588 (x270 : IV) (x3 : IV) (h59 : Hp) (x9 : IV) (ih : Handler) (x5 : IV) (x0 : IV) (x13 : IV) : Option (IV × Hp) :=
  condS x270 (gtS EE 3 x3 (.fv (.int .i64 0)) fun x271 => guardS x271 true h59 (fun k272 => faddrS 0 x9 fun x273 => k272 x273 h59 [] []) fun x274 h275 _ _ => S66_567 h275 x271 x274 ih x5 x9 x3 x0 x13) (faddrS 1 x5 fun x379 => load1 x379 h59 fun x380 _ => S66_587 x380 x5 h59 ih x13 x9 x3 x0)
noncomputable def S66_589 (h59 : Hp) (x189 : IV) (x3 : IV) (x9 : IV) (ih : Handler) (x5 : IV) (x0 : IV) (x13 : IV) : Option (IV × Hp) :=
  load1 x189 h59 fun x190 _ => eqS EE 3 x190 (.fv (.int .i64 10)) fun x192 => condS x192 (gtS EE 3 x3 (.fv (.int .i64 0)) fun x193 => S66_555 h59 x193 x9 ih x5 x3 x0 x13) (eqS EE 3 x190 (.fv (.int .i64 14)) fun x270 => S66_588 x270 x3 h59 x9 ih x5 x0 x13)
noncomputable def S66_590 (h53 : Hp) (x42 : IV) (x52 : IV) (ih : Handler) (x9 : IV) (x3 : IV) (x0 : IV) (x5 : IV) (x13 : IV) : Option (IV × Hp) :=
  guardS x42 true h53 (fun k56 => neS EE 3 x52 (.fv (.int .i64 2)) fun x57 => k56 x57 h53 [] []) fun x58 h59 _ _ => pickS x42 x58 (.fv (.bool false)) fun x62 => condS x62 (isoS [] false false ih 64 [] h59 fun x63 h64 r65 w66 => S66_548 r65 w66 h64 x9 ih x3 x0 x63 x5 x13) (faddrS 0 x5 fun x189 => S66_589 h59 x189 x3 x9 ih x5 x0 x13)
noncomputable def S66_591 (h28 : Hp) (x17 : IV) (ih : Handler) (x27 : IV) (x5 : IV) (x9 : IV) (x3 : IV) (x0 : IV) (x13 : IV) : Option (IV × Hp) :=
  guardS x17 true h28 (fun k31 => isoS [] false false ih 55 [x27, .fv (.int .i64 5)] h28 k31) fun x32 h33 _ _ => guardS x17 true h33 (fun k36 => eqS EE 3 x32 (.fv (.int .i64 4)) fun x37 => k36 x37 h33 [] []) fun x38 h39 _ _ => pickS x17 x38 (.fv (.bool false)) fun x42 => guardS x42 true h39 (fun k43 => faddrS 0 x5 fun x44 => k43 x44 h39 [] []) fun x45 h46 _ _ => guardS x42 true h46 (fun k49 => load1 x45 h46 fun x50 r51 => k49 x50 h46 r51 []) fun x52 h53 _ _ => S66_590 h53 x42 x52 ih x9 x3 x0 x5 x13
noncomputable def S66 (ih : Handler) (n : Nat) (x0 : IV) (x1 : IV) (x2 : IV) (x3 : IV) (h4 : Hp) : Option (IV × Hp) :=
  boxS 69206016 x1 h4 fun x5 h6 _ _ => boxS 69206017 x2 h6 fun x9 h10 _ _ => newS 69206018 (.row [.fv (.int .i64 0), .fv (.int .i64 0), .nils] false) (.ptr (.own 69206018) 0) h10 fun x13 h14 _ _ => gtS EE 3 x3 (.fv (.int .i64 0)) fun x17 => guardS x17 true h14 (fun k18 => faddrS 0 x9 fun x19 => k18 x19 h14 [] []) fun x20 h21 _ _ => guardS x17 true h21 (fun k24 => load1 x20 h21 fun x25 r26 => k24 x25 h21 r26 []) fun x27 h28 _ _ => S66_591 h28 x17 ih x27 x5 x9 x3 x0 x13
theorem S66_ok (ih : Handler) (n : Nat) (x0 : IV) (x1 : IV) (x2 : IV) (x3 : IV) (h4 : Hp) : funS EE ih ft.get n 66 [x0, x1, x2, x3] h4 = S66 ih n x0 x1 x2 x3 h4 := by kernel_rfl
noncomputable def S67_28 (h21 : Hp) (x12 : IV) (x20 : IV) : Option (IV × Hp) :=
  storeA 3 x12 x20 h21 fun h24 _ _ => cellS true 3 x12 h24 fun x27 => outS1 [x27] h24
noncomputable def S67 (ih : Handler) (n : Nat) (x0 : IV) (x1 : IV) (x2 : IV) (h3 : Hp) : Option (IV × Hp) :=
  boxS 70254592 x0 h3 fun x4 h5 _ _ => boxS 70254593 x2 h5 fun x8 h9 _ _ => newS 70254594 (.row [.fv (.int .i64 0), .fv (.int .i64 0), .nils] false) (.ptr (.own 70254594) 0) h9 fun x12 h13 _ _ => loadA 3 x4 h13 fun x16 _ => loadA 3 x8 h13 fun x18 _ => isoS [] false false ih 90 [x16, x1, .fv (.int .i64 0), x18] h13 fun x20 h21 _ _ => S67_28 h21 x12 x20
theorem S67_ok (ih : Handler) (n : Nat) (x0 : IV) (x1 : IV) (x2 : IV) (h3 : Hp) : funS EE ih ft.get n 67 [x0, x1, x2] h3 = S67 ih n x0 x1 x2 h3 := by kernel_rfl
noncomputable def S68_121 (x108 : IV) (h109 : Hp) (x93 : IV) (h3 : Hp) (x89 : IV) (x90 : IV) (x91 : IV) (x92 : IV) (q86 : List IV → Hp → Option (IV × Hp)) : Option (IV × Hp) :=
  neS EE 36 x108 (.fv (.int .i64 0)) fun x112 => condS x112 (outS1 [x108] h109) (addS EE 3 x93 (.fv (.int .i64 1)) fun x113 => dropS (h3.own.map (·.1)) [71311362] [x89, x90, x91, x92, x113] h109 fun h114 => q86 [x89, x90, x91, x92, x113] h114)
noncomputable def S68_122 (h88 : Hp) (x96 : IV) (x90 : IV) (ih : Handler) (x89 : IV) (x93 : IV) (h3 : Hp) (x91 : IV) (x92 : IV) (q86 : List IV → Hp → Option (IV × Hp)) : Option (IV × Hp) :=
  newS 71311362 (.row [.fv (.int .i64 0), .fv (.int .i64 0), .nils] false) (.ptr (.own 71311362) 0) h88 fun x98 h99 _ _ => storeA 3 x98 x96 h99 fun h102 _ _ => loadA 3 x98 h102 fun x105 _ => addS EE 3 x90 (.fv (.int .i64 1)) fun x107 => isoS [false, true, false] false false ih 68 [x105, x89, x107] h102 fun x108 h109 _ _ => S68_121 x108 h109 x93 h3 x89 x90 x91 x92 q86
noncomputable def S68_123 (x93 : IV) (x92 : IV) (x91 : IV) (h88 : Hp) (x90 : IV) (ih : Handler) (x89 : IV) (h3 : Hp) (q86 : List IV → Hp → Option (IV × Hp)) : Option (IV × Hp) :=
  ltS EE 3 x93 x92 fun x94 => condS x94 (ixS 3 x91 x93 fun x95 => loadA 3 x95 h88 fun x96 _ => S68_122 h88 x96 x90 ih x89 x93 h3 x91 x92 q86) (outS1 [.fv (.int .i64 0)] h88)
noncomputable def S68_124 (l87 : List IV) (h88 : Hp) (ih : Handler) (h3 : Hp) (q86 : List IV → Hp → Option (IV × Hp)) : Option (IV × Hp) :=
  uncS l87 fun x89 l115 => uncS l115 fun x90 l116 => uncS l116 fun x91 l117 => uncS l117 fun x92 l118 => uncS l118 fun x93 _ => S68_123 x93 x92 x91 h88 x90 ih x89 h3 q86
noncomputable def S68_125 (h78 : Hp) (x82 : IV) (h3 : Hp) (x1 : IV) (x2 : IV) (n : Nat) (ih : Handler) : Option (IV × Hp) :=
  load1 x82 h78 fun x83 _ => lenS x83 fun x85 => dropS (h3.own.map (·.1)) [71311362] [x1, x2, x83, x85, .fv (.int .i64 0)] h78 fun h120 => loopS n (fun q86 l87 h88 => S68_124 l87 h88 ih h3 q86) [x1, x2, x83, x85, .fv (.int .i64 0)] h120
noncomputable def S68_126 (r73 : List Ref) (w74 : List Ref) (h72 : Hp) (x43 : IV) (x71 : IV) (x4 : IV) (h3 : Hp) (x1 : IV) (x2 : IV) (n : Nat) (ih : Handler) : Option (IV × Hp) :=
  chkS [] r73 w74 (guardS x43 false h72 (fun k75 => optS (unR .not x71) fun x76 => k75 x76 h72 [] []) fun x77 h78 _ _ => pickS x43 (.fv (.bool true)) x77 fun x81 => condS x81 (outS1 [.fv (.int .i64 1)] h78) (faddrS 2 x4 fun x82 => S68_125 h78 x82 h3 x1 x2 n ih))
noncomputable def S68_127 (r55 : List Ref) (w56 : List Ref) (h54 : Hp) (x43 : IV) (x4 : IV) (ih : Handler) (x53 : IV) (h3 : Hp) (x1 : IV) (x2 : IV) (n : Nat) : Option (IV × Hp) :=
  chkS [] r55 w56 (guardS x43 false h54 (fun k57 => faddrS 1 x4 fun x58 => k57 x58 h54 [] []) fun x59 h60 _ _ => guardS x43 false h60 (fun k63 => load1 x59 h60 fun x64 r65 => k63 x64 h60 r65 []) fun x66 h67 r68 w69 => chkS [(r55, w56)] r68 w69 (guardS x43 false h67 (fun k70 => isoS [] false false ih 92 [x53, x66] h67 k70) fun x71 h72 r73 w74 => S68_126 r73 w74 h72 x43 x71 x4 h3 x1 x2 n ih))
noncomputable def S68_128 (r41 : List Ref) (r37 : List Ref) (w38 : List Ref) (r34 : List Ref) (x40 : IV) (x35 : IV) (h36 : Hp) (x4 : IV) (ih : Handler) (h3 : Hp) (x1 : IV) (x2 : IV) (n : Nat) : Option (IV × Hp) :=
  chkS [(r37, w38), (r34, [])] r41 [] (lenS x40 fun x42 => neS EE 3 x35 x42 fun x43 => guardS x43 false h36 (fun k44 => faddrS 0 x4 fun x45 => k44 x45 h36 [] []) fun x46 h47 _ _ => guardS x43 false h47 (fun k50 => load1 x46 h47 fun x51 r52 => k50 x51 h47 r52 []) fun x53 h54 r55 w56 => S68_127 r55 w56 h54 x43 x4 ih x53 h3 x1 x2 n)
noncomputable def S68_129 (r34 : List Ref) (ih : Handler) (h28 : Hp) (x33 : IV) (x4 : IV) (h3 : Hp) (x1 : IV) (x2 : IV) (n : Nat) : Option (IV × Hp) :=
  chkS [] r34 [] (isoS [] false false ih 91 [x33] h28 fun x35 h36 r37 w38 => chkS [] r37 w38 (faddrS 2 x4 fun x39 => load1 x39 h36 fun x40 r41 => S68_128 r41 r37 w38 r34 x40 x35 h36 x4 ih h3 x1 x2 n))
noncomputable def S68_130 (x19 : IV) (x27 : IV) (h28 : Hp) (x4 : IV) (ih : Handler) (h3 : Hp) (x1 : IV) (x2 : IV) (n : Nat) : Option (IV × Hp) :=
  pickS x19 (.fv (.bool true)) x27 fun x31 => condS x31 (outS1 [.fv (.int .i64 5)] h28) (faddrS 0 x4 fun x32 => load1 x32 h28 fun x33 r34 => S68_129 r34 ih h28 x33 x4 h3 x1 x2 n)
noncomputable def S68_131 (x1 : IV) (h13 : Hp) (x2 : IV) (x4 : IV) (ih : Handler) (h3 : Hp) (n : Nat) : Option (IV × Hp) :=
  nilS x1 fun x16 => load1 x16 h13 fun x17 _ => gtS EE 3 x17 (.fv (.int .i64 3000)) fun x19 => guardS x19 false h13 (fun k20 => k20 x2 h13 [] []) fun x21 h22 _ _ => guardS x19 false h22 (fun k25 => gtS EE 3 x21 (.fv (.int .i64 120)) fun x26 => k25 x26 h22 [] []) fun x27 h28 _ _ => S68_130 x19 x27 h28 x4 ih h3 x1 x2 n
noncomputable def S68 (ih : Handler) (n : Nat) (x0 : IV) (x1 : IV) (x2 : IV) (h3 : Hp) : Option (IV × Hp) :=
  boxS 71303168 x0 h3 fun x4 h5 _ _ => nilS x1 fun x8 => load1 x8 h5 fun x9 _ => addS EE 3 x9 (.fv (.int .i64 1)) fun x11 => nilS x1 fun x12 => store1 x12 x11 h5 fun h13 _ _ => S68_131 x1 h13 x2 x4 ih h3 n
theorem S68_ok (ih : Handler) (n : Nat) (x0 : IV) (x1 : IV) (x2 : IV) (h3 : Hp) : funS EE ih ft.get n 68 [x0, x1, x2] h3 = S68 ih n x0 x1 x2 h3 := by kernel_rfl
noncomputable def S69_129 (h1 : Hp) (h119 : Hp) (x102 : IV) (x103 : IV) (x123 : IV) (q99 : List IV → Hp → Option (IV × Hp)) : Option (IV × Hp) :=
  dropS (h1.own.map (·.1)) [72357890] [x102, x103, x123] h119 fun h124 => q99 [x102, x103, x123] h124
noncomputable def S69_130 (ih : Handler) (h113 : Hp) (x116 : IV) (x104 : IV) (h1 : Hp) (x102 : IV) (x103 : IV) (q99 : List IV → Hp → Option (IV × Hp)) : Option (IV × Hp) :=
  isoS [] false false ih 69 [x116] h113 fun x118 h119 _ _ => optS (unR .not x118) fun x122 => condS x122 (outS1 [.fv (.bool false)] h119) (addS EE 3 x104 (.fv (.int .i64 1)) fun x123 => S69_129 h1 h119 x102 x103 x123 q99)
noncomputable def S69_131 (x102 : IV) (x104 : IV) (h101 : Hp) (ih : Handler) (h1 : Hp) (x103 : IV) (q99 : List IV → Hp → Option (IV × Hp)) : Option (IV × Hp) :=
  ixS 3 x102 x104 fun x106 => loadA 3 x106 h101 fun x107 _ => newS 72357890 (.row [.fv (.int .i64 0), .fv (.int .i64 0), .nils] false) (.ptr (.own 72357890) 0) h101 fun x109 h110 _ _ => storeA 3 x109 x107 h110 fun h113 _ _ => loadA 3 x109 h113 fun x116 _ => S69_130 ih h113 x116 x104 h1 x102 x103 q99
noncomputable def S69_132 (l100 : List IV) (h101 : Hp) (ih : Handler) (h1 : Hp) (q99 : List IV → Hp → Option (IV × Hp)) : Option (IV × Hp) :=
  uncS l100 fun x102 l125 => uncS l125 fun x103 l126 => uncS l126 fun x104 _ => ltS EE 3 x104 x103 fun x105 => condS x105 (S69_131 x102 x104 h101 ih h1 x103 q99) (outS1 [.fv (.bool true)] h101)
noncomputable def S69_133 (x2 : IV) (h91 : Hp) (h1 : Hp) (n : Nat) (ih : Handler) : Option (IV × Hp) :=
  faddrS 2 x2 fun x95 => load1 x95 h91 fun x96 _ => lenS x96 fun x98 => dropS (h1.own.map (·.1)) [72357890] [x96, x98, .fv (.int .i64 0)] h91 fun h128 => loopS n (fun q99 l100 h101 => S69_132 l100 h101 ih h1 q99) [x96, x98, .fv (.int .i64 0)] h128
noncomputable def S69_134 (h72 : Hp) (x65 : IV) (x71 : IV) (x44 : IV) (x2 : IV) (h1 : Hp) (n : Nat) (ih : Handler) : Option (IV × Hp) :=
  guardS x65 true h72 (fun k75 => load1 x71 h72 fun x76 r77 => k75 x76 h72 r77 []) fun x78 h79 _ _ => guardS x65 true h79 (fun k82 => ltS EE 3 x78 (.fv (.int .i64 0)) fun x83 => k82 x83 h79 [] []) fun x84 h85 _ _ => guardS x44 false h85 (fun k88 => pickS x65 x84 (.fv (.bool false)) fun x89 => k88 x89 h85 [] []) fun x90 h91 _ _ => pickS x44 (.fv (.bool true)) x90 fun x94 => condS x94 (outS1 [.fv (.bool false)] h91) (S69_133 x2 h91 h1 n ih)
noncomputable def S69_135 (h41 : Hp) (x44 : IV) (x2 : IV) (h1 : Hp) (n : Nat) (ih : Handler) : Option (IV × Hp) :=
  guardS x44 false h41 (fun k45 => faddrS 0 x2 fun x46 => k45 x46 h41 [] []) fun x47 h48 _ _ => guardS x44 false h48 (fun k51 => load1 x47 h48 fun x52 r53 => k51 x52 h48 r53 []) fun x54 h55 _ _ => guardS x44 false h55 (fun k58 => eqS EE 3 x54 (.fv (.int .i64 1)) fun x59 => k58 x59 h55 [] []) fun x60 h61 _ _ => guardS x44 false h61 (fun k64 => k64 x60 h61 [] []) fun x65 h66 _ _ => guardS x65 true h66 (fun k69 => faddrS 1 x2 fun x70 => k69 x70 h66 [] []) fun x71 h72 _ _ => S69_134 h72 x65 x71 x44 x2 h1 n ih
noncomputable def S69_136 (h16 : Hp) (x13 : IV) (x2 : IV) (x15 : IV) (h1 : Hp) (n : Nat) (ih : Handler) : Option (IV × Hp) :=
  guardS x13 true h16 (fun k19 => faddrS 2 x2 fun x20 => k19 x20 h16 [] []) fun x21 h22 _ _ => guardS x13 true h22 (fun k25 => load1 x21 h22 fun x26 r27 => k25 x26 h22 r27 []) fun x28 h29 _ _ => guardS x13 true h29 (fun k32 => lenS x28 fun x33 => k32 x33 h29 [] []) fun x34 h35 _ _ => guardS x13 true h35 (fun k38 => neS EE 3 x15 x34 fun x39 => k38 x39 h35 [] []) fun x40 h41 _ _ => pickS x13 x40 (.fv (.bool false)) fun x44 => S69_135 h41 x44 x2 h1 n ih
noncomputable def S69 (ih : Handler) (n : Nat) (x0 : IV) (h1 : Hp) : Option (IV × Hp) :=
  boxS 72351744 x0 h1 fun x2 h3 _ _ => faddrS 0 x2 fun x6 => load1 x6 h3 fun x7 _ => isoS [] false false ih 93 [x7] h3 fun x9 h10 _ _ => geS EE 3 x9 (.fv (.int .i64 0)) fun x13 => guardS x13 true h10 (fun k14 => k14 x9 h10 [] []) fun x15 h16 _ _ => S69_136 h16 x13 x2 x15 h1 n ih
theorem S69_ok (ih : Handler) (n : Nat) (x0 : IV) (h1 : Hp) : funS EE ih ft.get n 69 [x0] h1 = S69 ih n x0 h1 := by kernel_rfl
noncomputable def S70_69 (x2 : IV) (h61 : Hp) (x6 : IV) : Option (IV × Hp) :=
  nilS x2 fun x64 => faddrS 4 x64 fun x65 => store1 x65 x6 h61 fun h66 _ _ => outS1 [x2] h66
noncomputable def S70_70 (x46 : IV) (h47 : Hp) (x6 : IV) (x2 : IV) : Option (IV × Hp) :=
  bldS [.fv (.nilf)] [(0, 1, x46)] fun x50 => genS (pcInsert EE 98 x6 (.fv (.int .i64 30)) x50) 73402389 h47 fun _ h52 _ _ => genS (val (mkFunc (.func 98) [x2] [])) 73402391 h52 fun x55 h56 _ _ => bldS [.fv (.nilf)] [(0, 1, x55)] fun x59 => genS (pcInsert EE 98 x6 (.fv (.int .i64 19)) x59) 73402393 h56 fun _ h61 _ _ => S70_69 x2 h61 x6
noncomputable def S70_71 (h29 : Hp) (x6 : IV) (x32 : IV) (x2 : IV) : Option (IV × Hp) :=
  genS (pcInsert EE 98 x6 (.fv (.int .i64 9)) x32) 73402381 h29 fun _ h34 _ _ => genS (val (mkFunc (.func 96) [x2] [])) 73402383 h34 fun x37 h38 _ _ => bldS [.fv (.nilf)] [(0, 1, x37)] fun x41 => genS (pcInsert EE 98 x6 (.fv (.int .i64 13)) x41) 73402385 h38 fun _ h43 _ _ => genS (val (mkFunc (.func 97) [x2] [])) 73402387 h43 fun x46 h47 _ _ => S70_70 x46 h47 x6 x2
noncomputable def S70_72 (h16 : Hp) (x2 : IV) (x6 : IV) : Option (IV × Hp) :=
  genS (val (mkFunc (.func 95) [x2] [])) 73402375 h16 fun x19 h20 _ _ => bldS [.fv (.nilf)] [(0, 1, x19)] fun x23 => genS (pcInsert EE 98 x6 (.fv (.int .i64 8)) x23) 73402377 h20 fun _ h25 _ _ => genS (val (mkFunc (.func 95) [x2] [])) 73402379 h25 fun x28 h29 _ _ => bldS [.fv (.nilf)] [(0, 1, x28)] fun x32 => S70_71 h29 x6 x32 x2
noncomputable def S70 (ih : Handler) (n : Nat) (h0 : Hp) : Option (IV × Hp) :=
  bldS [.fv (.int .i64 0), .fv (.int .i64 0), .fv (.int .i64 0), .fv (.int .i64 0), .dead] [(0, 1, .fv (.int .i64 100000)), (1, 1, .fv (.int .i64 5000000))] fun x1 => boxS 73401345 x1 h0 fun x2 h3 _ _ => genS (pcMakeMap 73402369) 73402369 h3 fun x6 h7 _ _ => genS (val (mkFunc (.func 94) [x2] [])) 73402371 h7 fun x10 h11 _ _ => bldS [.fv (.nilf)] [(0, 1, x10)] fun x14 => genS (pcInsert EE 98 x6 (.fv (.int .i64 5)) x14) 73402373 h11 fun _ h16 _ _ => S70_72 h16 x2 x6
theorem S70_ok (ih : Handler) (n : Nat) (h0 : Hp) : funS EE ih ft.get n 70 [] h0 = S70 ih n h0 := by kernel_rfl
noncomputable def S71_117 (x4 : IV) (h9 : Hp) (ih : Handler) (x1 : IV) : Option (IV × Hp) :=
  faddrS 1 x4 fun x16 => load1 x16 h9 fun x17 _ => isoS [] false false ih 100 [x1, x17] h9 fun x19 h20 _ _ => outS1 [x19] h20
noncomputable def S71_118 (x62 : IV) (h3 : Hp) (h65 : Hp) (x56 : IV) (x57 : IV) (x58 : IV) (x59 : IV) (x60 : IV) (x61 : IV) (q53 : List IV → Hp → Option (IV × Hp)) : Option (IV × Hp) :=
  addS EE 3 x62 (.fv (.int .i64 1)) fun x66 => dropS (h3.own.map (·.1)) [74458115] [x56, x57, x58, x59, x60, x61, x66] h65 fun h67 => q53 [x56, x57, x58, x59, x60, x61, x66] h67
noncomputable def S71_119 (ih : Handler) (h82 : Hp) (x56 : IV) (x57 : IV) (x90 : IV) (r89 : List Ref) (x88 : IV) (x62 : IV) (j0_64 : Hp → Option (IV × Hp)) : Option (IV × Hp) :=
  isoS [true, false, false] false false ih 71 [x56, x57, x90] h82 fun x92 h93 r94 w95 => chkS [(r89, [])] r94 w95 (ixS 1 x88 x62 fun x96 => store1 x96 x92 h93 fun h97 r98 w99 => chkS [] r98 w99 (j0_64 h97))
noncomputable def S71_120 (x86 : IV) (h82 : Hp) (x71 : IV) (ih : Handler) (x56 : IV) (x57 : IV) (x62 : IV) (j0_64 : Hp → Option (IV × Hp)) : Option (IV × Hp) :=
  faddrS 2 x86 fun x87 => load1 x87 h82 fun x88 r89 => chkS [] r89 [] (loadA 3 x71 h82 fun x90 r91 => chkS [(r89, [])] r91 [] (S71_119 ih h82 x56 x57 x90 r89 x88 x62 j0_64))
noncomputable def S71_121 (h75 : Hp) (x78 : IV) (ih : Handler) (x62 : IV) (x59 : IV) (x71 : IV) (x56 : IV) (x57 : IV) (j0_64 : Hp → Option (IV × Hp)) : Option (IV × Hp) :=
  load1 x78 h75 fun x79 _ => isoS [] false false ih 101 [x79, x62] h75 fun x81 h82 _ _ => eqS EE 3 x81 (.fv (.int .i64 0)) fun x85 => condS x85 (nilS x59 fun x86 => S71_120 x86 h82 x71 ih x56 x57 x62 j0_64) (j0_64 h82)
noncomputable def S71_122 (x60 : IV) (x62 : IV) (h55 : Hp) (x58 : IV) (ih : Handler) (x59 : IV) (x56 : IV) (x57 : IV) (j0_64 : Hp → Option (IV × Hp)) : Option (IV × Hp) :=
  ixS 3 x60 x62 fun x68 => loadA 3 x68 h55 fun x69 _ => newS 74458115 (.row [.fv (.int .i64 0), .fv (.int .i64 0), .nils] false) (.ptr (.own 74458115) 0) h55 fun x71 h72 _ _ => storeA 3 x71 x69 h72 fun h75 _ _ => faddrS 0 x58 fun x78 => S71_121 h75 x78 ih x62 x59 x71 x56 x57 j0_64
noncomputable def S71_123 (x100 : IV) (h55 : Hp) (x59 : IV) (ih : Handler) (x56 : IV) : Option (IV × Hp) :=
  faddrS 3 x100 fun x101 => load1 x101 h55 fun x102 _ => neS EE 36 x102 (.fv (.int .i64 0)) fun x104 => condS x104 (outS1 [x59] h55) (isoS [true, false] false false ih 102 [x56, x59] h55 fun x105 h106 _ _ => outS1 [x105] h106)
noncomputable def S71_124 (l113 : List IV) (h3 : Hp) (x56 : IV) (x57 : IV) (x58 : IV) (x59 : IV) (x60 : IV) (q53 : List IV → Hp → Option (IV × Hp)) (h55 : Hp) (ih : Handler) : Option (IV × Hp) :=
  uncS l113 fun x61 l114 => uncS l114 fun x62 _ => ltS EE 3 x62 x61 fun x63 => condS x63 ((fun (j0_64 : Hp → Option (IV × Hp)) => S71_122 x60 x62 h55 x58 ih x59 x56 x57 j0_64) fun h65 => S71_118 x62 h3 h65 x56 x57 x58 x59 x60 x61 q53) (nilS x56 fun x100 => S71_123 x100 h55 x59 ih x56)
noncomputable def S71_125 (l54 : List IV) (h3 : Hp) (q53 : List IV → Hp → Option (IV × Hp)) (h55 : Hp) (ih : Handler) : Option (IV × Hp) :=
  uncS l54 fun x56 l109 => uncS l109 fun x57 l110 => uncS l110 fun x58 l111 => uncS l111 fun x59 l112 => uncS l112 fun x60 l113 => S71_124 l113 h3 x56 x57 x58 x59 x60 q53 h55 ih
noncomputable def S71_126 (x50 : IV) (h3 : Hp) (h41 : Hp) (x0 : IV) (x1 : IV) (x4 : IV) (x40 : IV) (n : Nat) (ih : Handler) : Option (IV × Hp) :=
  lenS x50 fun x52 => dropS (h3.own.map (·.1)) [74458115] [x0, x1, x4, x40, x50, x52, .fv (.int .i64 0)] h41 fun h116 => loopS n (fun q53 l54 h55 => S71_125 l54 h3 q53 h55 ih) [x0, x1, x4, x40, x50, x52, .fv (.int .i64 0)] h116
noncomputable def S71_127 (x46 : IV) (h41 : Hp) (x40 : IV) (x4 : IV) (h3 : Hp) (x0 : IV) (x1 : IV) (n : Nat) (ih : Handler) : Option (IV × Hp) :=
  neS EE 36 x46 (.fv (.int .i64 0)) fun x48 => condS x48 (outS1 [x40] h41) (faddrS 2 x4 fun x49 => load1 x49 h41 fun x50 _ => S71_126 x50 h3 h41 x0 x1 x4 x40 n ih)
noncomputable def S71_128 (h34 : Hp) (x39 : IV) (x0 : IV) (x4 : IV) (h3 : Hp) (x1 : IV) (n : Nat) (ih : Handler) : Option (IV × Hp) :=
  boxS 74453003 x39 h34 fun x40 h41 r42 w43 => chkS [] r42 w43 (nilS x0 fun x44 => faddrS 3 x44 fun x45 => load1 x45 h41 fun x46 _ => S71_127 x46 h41 x40 x4 h3 x0 x1 n ih)
noncomputable def S71_129 (h9 : Hp) (x32 : IV) (r28 : List Ref) (r25 : List Ref) (x4 : IV) (r31 : List Ref) (x24 : IV) (x27 : IV) (x1 : IV) (x0 : IV) (h3 : Hp) (n : Nat) (ih : Handler) : Option (IV × Hp) :=
  genS (pcMakeSlice EE 74452999 127 x32 x32) 74452999 h9 fun x33 h34 r35 w36 => chkS [(r28, []), (r25, [])] r35 w36 (loadA 3 x4 h34 fun x37 r38 => chkS [(r35, w36), (r31, []), (r28, []), (r25, [])] r38 [] (bldS [.fv (.int .i64 0), .fv (.int .i64 0), .nils, .fv (.int .i64 0), .fv (.int .i64 0), .nils, .fv (.nilp)] [(0, 1, x24), (1, 1, x27), (2, 1, x33), (3, 3, x37), (6, 1, x1)] fun x39 => S71_128 h34 x39 x0 x4 h3 x1 n ih))
noncomputable def S71_130 (r28 : List Ref) (r25 : List Ref) (x4 : IV) (h9 : Hp) (x24 : IV) (x27 : IV) (x1 : IV) (x0 : IV) (h3 : Hp) (n : Nat) (ih : Handler) : Option (IV × Hp) :=
  chkS [(r25, [])] r28 [] (faddrS 2 x4 fun x29 => load1 x29 h9 fun x30 r31 => chkS [(r28, []), (r25, [])] r31 [] (lenS x30 fun x32 => S71_129 h9 x32 r28 r25 x4 r31 x24 x27 x1 x0 h3 n ih))
noncomputable def S71_131 (x4 : IV) (h9 : Hp) (x1 : IV) (x0 : IV) (h3 : Hp) (n : Nat) (ih : Handler) : Option (IV × Hp) :=
  faddrS 0 x4 fun x23 => load1 x23 h9 fun x24 r25 => chkS [] r25 [] (faddrS 1 x4 fun x26 => load1 x26 h9 fun x27 r28 => S71_130 r28 r25 x4 h9 x24 x27 x1 x0 h3 n ih)
noncomputable def S71 (ih : Handler) (n : Nat) (x0 : IV) (x1 : IV) (x2 : IV) (h3 : Hp) : Option (IV × Hp) :=
  boxS 74448896 x2 h3 fun x4 h5 _ _ => isoS [true] false false ih 99 [x0] h5 fun _ h9 _ _ => faddrS 0 x4 fun x12 => load1 x12 h9 fun x13 _ => eqS EE 3 x13 (.fv (.int .i64 1)) fun x15 => condS x15 (S71_117 x4 h9 ih x1) (S71_131 x4 h9 x1 x0 h3 n ih)
theorem S71_ok (ih : Handler) (n : Nat) (x0 : IV) (x1 : IV) (x2 : IV) (h3 : Hp) : funS EE ih ft.get n 71 [x0, x1, x2] h3 = S71 ih n x0 x1 x2 h3 := by kernel_rfl
noncomputable def S72_261 (h21 : Hp) (x5 : IV) : Option (IV × Hp) :=
  cellS true 3 x5 h21 fun x24 => outS1 [x24] h21
noncomputable def S72_262 (h12 : Hp) (x5 : IV) (x36 : IV) : Option (IV × Hp) :=
  storeA 3 x5 x36 h12 fun h37 _ _ => cellS true 3 x5 h37 fun x40 => outS1 [x40] h37
noncomputable def S72_263 (x1 : IV) (h12 : Hp) (x30 : IV) (x5 : IV) : Option (IV × Hp) :=
  nilS x1 fun x31 => faddrS 1 x31 fun x32 => load1 x32 h12 fun x33 _ => subS EE 3 x30 x33 fun x35 => bldS [.fv (.int .i64 0), .fv (.int .i64 0), .nils] [(0, 1, .fv (.int .i64 1)), (1, 1, x35)] fun x36 => S72_262 h12 x5 x36
noncomputable def S72_264 (h90 : Hp) (x83 : IV) : Option (IV × Hp) :=
  bldS [.fv (.int .i64 0), .fv (.int .i64 0), .nils] [] fun x96 => storeA 3 x83 x96 h90 fun h97 _ _ => cellS true 3 x83 h97 fun x100 => outS1 [x100] h97
noncomputable def S72_265 (x89 : IV) (h4 : Hp) (h108 : Hp) (x79 : IV) (x80 : IV) (x81 : IV) (x82 : IV) (x83 : IV) (x84 : IV) (x88 : IV) (q51 : List IV → Hp → Option (IV × Hp)) : Option (IV × Hp) :=
  addS EE 3 x89 (.fv (.int .i64 1)) fun x111 => dropS (h4.own.map (·.1)) [75512833, 75516934] [x79, x80, x81, x82, x83, x84, x88, x111] h108 fun h112 => q51 [x79, x80, x81, x82, x83, x84, x88, x111] h112
noncomputable def S72_266 (x81 : IV) (x87 : IV) (x82 : IV) (ih : Handler) (h90 : Hp) (x79 : IV) (x86 : IV) (x84 : IV) (x85 : IV) (x89 : IV) (h4 : Hp) (x80 : IV) (x83 : IV) (x88 : IV) (q51 : List IV → Hp → Option (IV × Hp)) : Option (IV × Hp) :=
  addS EE 3 x81 x87 fun x101 => addS EE 3 x82 (.fv (.int .i64 1)) fun x102 => isoS [true, false, false, false] false false ih 72 [x79, x86, x101, x102] h90 fun x103 h104 _ _ => ixS 3 x84 x85 fun x107 => storeA 3 x107 x103 h104 fun h108 _ _ => S72_265 x89 h4 h108 x79 x80 x81 x82 x83 x84 x88 q51
noncomputable def S72_267 (x79 : IV) (h90 : Hp) (x83 : IV) (x81 : IV) (x87 : IV) (x82 : IV) (ih : Handler) (x86 : IV) (x84 : IV) (x85 : IV) (x89 : IV) (h4 : Hp) (x80 : IV) (x88 : IV) (q51 : List IV → Hp → Option (IV × Hp)) : Option (IV × Hp) :=
  nilS x79 fun x91 => faddrS 3 x91 fun x92 => load1 x92 h90 fun x93 _ => neS EE 36 x93 (.fv (.int .i64 0)) fun x95 => condS x95 (S72_264 h90 x83) (S72_266 x81 x87 x82 ih h90 x79 x86 x84 x85 x89 h4 x80 x83 x88 q51)
noncomputable def S72_268 (x134 : IV) (h4 : Hp) (h143 : Hp) (x122 : IV) (x123 : IV) (x124 : IV) (x125 : IV) (x126 : IV) (x127 : IV) (x128 : IV) (x129 : IV) (x130 : IV) (x131 : IV) (x132 : IV) (x133 : IV) (q119 : List IV → Hp → Option (IV × Hp)) : Option (IV × Hp) :=
  addS EE 3 x134 (.fv (.int .i64 1)) fun x146 => dropS (h4.own.map (·.1)) [75516934] [x122, x123, x124, x125, x126, x127, x128, x129, x130, x131, x132, x133, x146] h143 fun h147 => q119 [x122, x123, x124, x125, x126, x127, x128, x129, x130, x131, x132, x133, x146] h147
noncomputable def S72_269 (x124 : IV) (x134 : IV) (h121 : Hp) (x130 : IV) (h4 : Hp) (x122 : IV) (x123 : IV) (x125 : IV) (x126 : IV) (x127 : IV) (x128 : IV) (x129 : IV) (x131 : IV) (x132 : IV) (x133 : IV) (q119 : List IV → Hp → Option (IV × Hp)) : Option (IV × Hp) :=
  addS EE 3 x124 x134 fun x136 => bldS [.fv (.int .i64 0), .fv (.int .i64 0), .nils, .fv (.int .i64 0), .fv (.int .i64 0), .nils, .fv (.nilp)] [(0, 1, .fv (.int .i64 1)), (1, 1, x136)] fun x137 => fzS (pcBox true 75516934 x137) 75516934 x137 h121 fun x138 h139 _ _ => ixS 1 x130 x134 fun x142 => store1 x142 x138 h139 fun h143 _ _ => S72_268 x134 h4 h143 x122 x123 x124 x125 x126 x127 x128 x129 x130 x131 x132 x133 q119
noncomputable def S72_270 (ih : Handler) (h121 : Hp) (x122 : IV) (x123 : IV) (x128 : IV) (x130 : IV) (j11_78 : IV → IV → IV → IV → IV → IV → IV → IV → IV → IV → IV → Hp → Option (IV × Hp)) (x124 : IV) (x125 : IV) (x126 : IV) (x127 : IV) (x129 : IV) (x131 : IV) (x132 : IV) : Option (IV × Hp) :=
  isoS [true, false, false, false] false false ih 103 [x122, x123, x128, x130] h121 fun x148 h149 _ _ => j11_78 x122 x123 x124 x125 x126 x127 x128 x148 x129 x131 x132 h149
noncomputable def S72_271 (l161 : List IV) (x124 : IV) (h121 : Hp) (x130 : IV) (h4 : Hp) (x122 : IV) (x123 : IV) (x125 : IV) (x126 : IV) (x127 : IV) (x128 : IV) (x129 : IV) (x131 : IV) (q119 : List IV → Hp → Option (IV × Hp)) (ih : Handler) (j11_78 : IV → IV → IV → IV → IV → IV → IV → IV → IV → IV → IV → Hp → Option (IV × Hp)) : Option (IV × Hp) :=
  uncS l161 fun x132 l162 => uncS l162 fun x133 l163 => uncS l163 fun x134 _ => ltS EE 3 x134 x133 fun x135 => condS x135 (S72_269 x124 x134 h121 x130 h4 x122 x123 x125 x126 x127 x128 x129 x131 x132 x133 q119) (S72_270 ih h121 x122 x123 x128 x130 j11_78 x124 x125 x126 x127 x129 x131 x132)
noncomputable def S72_272 (l156 : List IV) (x124 : IV) (h121 : Hp) (h4 : Hp) (x122 : IV) (x123 : IV) (x125 : IV) (x126 : IV) (q119 : List IV → Hp → Option (IV × Hp)) (ih : Handler) (j11_78 : IV → IV → IV → IV → IV → IV → IV → IV → IV → IV → IV → Hp → Option (IV × Hp)) : Option (IV × Hp) :=
  uncS l156 fun x127 l157 => uncS l157 fun x128 l158 => uncS l158 fun x129 l159 => uncS l159 fun x130 l160 => uncS l160 fun x131 l161 => S72_271 l161 x124 h121 x130 h4 x122 x123 x125 x126 x127 x128 x129 x131 q119 ih j11_78
noncomputable def S72_273 (l120 : List IV) (h121 : Hp) (h4 : Hp) (q119 : List IV → Hp → Option (IV × Hp)) (ih : Handler) (j11_78 : IV → IV → IV → IV → IV → IV → IV → IV → IV → IV → IV → Hp → Option (IV × Hp)) : Option (IV × Hp) :=
  uncS l120 fun x122 l152 => uncS l152 fun x123 l153 => uncS l153 fun x124 l154 => uncS l154 fun x125 l155 => uncS l155 fun x126 l156 => S72_272 l156 x124 h121 h4 x122 x123 x125 x126 q119 ih j11_78
noncomputable def S72_274 (h4 : Hp) (h115 : Hp) (x54 : IV) (x55 : IV) (x56 : IV) (x57 : IV) (x58 : IV) (x59 : IV) (x61 : IV) (x74 : IV) (x114 : IV) (x60 : IV) (x118 : IV) (n : Nat) (ih : Handler) (j11_78 : IV → IV → IV → IV → IV → IV → IV → IV → IV → IV → IV → Hp → Option (IV × Hp)) : Option (IV × Hp) :=
  dropS (h4.own.map (·.1)) [75516934] [x54, x55, x56, x57, x58, x59, x61, x74, x114, x60, x61, x118, .fv (.int .i64 0)] h115 fun h165 => loopS n (fun q119 l120 h121 => S72_273 l120 h121 h4 q119 ih j11_78) [x54, x55, x56, x57, x58, x59, x61, x74, x114, x60, x61, x118, .fv (.int .i64 0)] h165
noncomputable def S72_275 (x113 : IV) (h75 : Hp) (x74 : IV) (h4 : Hp) (x54 : IV) (x55 : IV) (x56 : IV) (x57 : IV) (x58 : IV) (x59 : IV) (x61 : IV) (x60 : IV) (n : Nat) (ih : Handler) (j11_78 : IV → IV → IV → IV → IV → IV → IV → IV → IV → IV → IV → Hp → Option (IV × Hp)) (x68 : IV) : Option (IV × Hp) :=
  condS x113 (genS (pcMakeSlice EE 75512833 127 x74 x74) 75512833 h75 fun x114 h115 _ _ => lenS x114 fun x118 => S72_274 h4 h115 x54 x55 x56 x57 x58 x59 x61 x74 x114 x60 x118 n ih j11_78) (j11_78 x54 x55 x56 x57 x58 x59 x61 x68 x74 x60 x61 h75)
noncomputable def S72_276 (r73 : List Ref) (r69 : List Ref) (r66 : List Ref) (ih : Handler) (h53 : Hp) (x72 : IV) (x61 : IV) (h4 : Hp) (q51 : List IV → Hp → Option (IV × Hp)) (x54 : IV) (x55 : IV) (x56 : IV) (x57 : IV) (x58 : IV) (x59 : IV) (x60 : IV) (n : Nat) (x68 : IV) : Option (IV × Hp) :=
  chkS [(r69, []), (r66, [])] r73 [] (isoS [] false false ih 101 [x72, x61] h53 fun x74 h75 r76 w77 => chkS [(r69, []), (r66, [])] r76 w77 ((fun (j11_78 : IV → IV → IV → IV → IV → IV → IV → IV → IV → IV → IV → Hp → Option (IV × Hp)) => gtS EE 3 x74 (.fv (.int .i64 0)) fun x113 => S72_275 x113 h75 x74 h4 x54 x55 x56 x57 x58 x59 x61 x60 n ih j11_78 x68) fun x79 x80 x81 x82 x83 x84 x85 x86 x87 x88 x89 h90 => S72_267 x79 h90 x83 x81 x87 x82 ih x86 x84 x85 x89 h4 x80 x88 q51))
noncomputable def S72_277 (h53 : Hp) (x67 : IV) (x55 : IV) (r66 : List Ref) (ih : Handler) (x61 : IV) (h4 : Hp) (q51 : List IV → Hp → Option (IV × Hp)) (x54 : IV) (x56 : IV) (x57 : IV) (x58 : IV) (x59 : IV) (x60 : IV) (n : Nat) : Option (IV × Hp) :=
  load1 x67 h53 fun x68 r69 => chkS [] r69 [] (nilS x55 fun x70 => faddrS 0 x70 fun x71 => load1 x71 h53 fun x72 r73 => S72_276 r73 r69 r66 ih h53 x72 x61 h4 q51 x54 x55 x56 x57 x58 x59 x60 n x68)
noncomputable def S72_278 (x55 : IV) (h53 : Hp) (x61 : IV) (ih : Handler) (h4 : Hp) (q51 : List IV → Hp → Option (IV × Hp)) (x54 : IV) (x56 : IV) (x57 : IV) (x58 : IV) (x59 : IV) (x60 : IV) (n : Nat) : Option (IV × Hp) :=
  nilS x55 fun x63 => faddrS 2 x63 fun x64 => load1 x64 h53 fun x65 r66 => chkS [] r66 [] (ixS 1 x65 x61 fun x67 => S72_277 h53 x67 x55 r66 ih x61 h4 q51 x54 x56 x57 x58 x59 x60 n)
noncomputable def S72_279 (r176 : List Ref) (w177 : List Ref) (h175 : Hp) (x58 : IV) : Option (IV × Hp) :=
  chkS [] r176 w177 (cellS true 3 x58 h175 fun x178 => outS1 [x178] h175)
noncomputable def S72_280 (x170 : IV) (h53 : Hp) (r169 : List Ref) (x168 : IV) (x59 : IV) (x58 : IV) : Option (IV × Hp) :=
  faddrS 1 x170 fun x171 => load1 x171 h53 fun x172 r173 => chkS [(r169, [])] r173 [] (bldS [.fv (.int .i64 0), .fv (.int .i64 0), .nils] [(0, 1, x168), (1, 1, x172), (2, 1, x59)] fun x174 => storeA 3 x58 x174 h53 fun h175 r176 w177 => S72_279 r176 w177 h175 x58)
noncomputable def S72_281 (x55 : IV) (h53 : Hp) (x59 : IV) (x58 : IV) : Option (IV × Hp) :=
  nilS x55 fun x166 => faddrS 0 x166 fun x167 => load1 x167 h53 fun x168 r169 => chkS [] r169 [] (nilS x55 fun x170 => S72_280 x170 h53 r169 x168 x59 x58)
noncomputable def S72_282 (l183 : List IV) (x55 : IV) (h53 : Hp) (ih : Handler) (h4 : Hp) (q51 : List IV → Hp → Option (IV × Hp)) (x54 : IV) (x56 : IV) (x57 : IV) (x58 : IV) (n : Nat) : Option (IV × Hp) :=
  uncS l183 fun x59 l184 => uncS l184 fun x60 l185 => uncS l185 fun x61 _ => ltS EE 3 x61 x60 fun x62 => condS x62 (S72_278 x55 h53 x61 ih h4 q51 x54 x56 x57 x58 x59 x60 n) (S72_281 x55 h53 x59 x58)
noncomputable def S72_283 (l52 : List IV) (h53 : Hp) (ih : Handler) (h4 : Hp) (q51 : List IV → Hp → Option (IV × Hp)) (n : Nat) : Option (IV × Hp) :=
  uncS l52 fun x54 l179 => uncS l179 fun x55 l180 => uncS l180 fun x56 l181 => uncS l181 fun x57 l182 => uncS l182 fun x58 l183 => S72_282 l183 x55 h53 ih h4 q51 x54 x56 x57 x58 n
noncomputable def S72_284 (h4 : Hp) (h47 : Hp) (x0 : IV) (x1 : IV) (x2 : IV) (x3 : IV) (x5 : IV) (x46 : IV) (x50 : IV) (n : Nat) (ih : Handler) : Option (IV × Hp) :=
  dropS (h4.own.map (·.1)) [75512833, 75516934] [x0, x1, x2, x3, x5, x46, x50, .fv (.int .i64 0)] h47 fun h187 => loopS n (fun q51 l52 h53 => S72_283 l52 h53 ih h4 q51 n) [x0, x1, x2, x3, x5, x46, x50, .fv (.int .i64 0)] h187
noncomputable def S72_285 (x41 : IV) (h12 : Hp) (h4 : Hp) (x0 : IV) (x1 : IV) (x2 : IV) (x3 : IV) (x5 : IV) (n : Nat) (ih : Handler) : Option (IV × Hp) :=
  faddrS 2 x41 fun x42 => load1 x42 h12 fun x43 _ => lenS x43 fun x45 => genS (pcMakeSlice EE 75506693 28 x45 x45) 75506693 h12 fun x46 h47 _ _ => lenS x46 fun x50 => S72_284 h4 h47 x0 x1 x2 x3 x5 x46 x50 n ih
noncomputable def S72_286 (h12 : Hp) (x26 : IV) (x2 : IV) (x1 : IV) (x5 : IV) (h4 : Hp) (x0 : IV) (x3 : IV) (n : Nat) (ih : Handler) : Option (IV × Hp) :=
  load1 x26 h12 fun x27 _ => eqS EE 3 x27 (.fv (.int .i64 1)) fun x29 => condS x29 (subS EE 3 x2 (.fv (.int .i64 1)) fun x30 => S72_263 x1 h12 x30 x5) (nilS x1 fun x41 => S72_285 x41 h12 h4 x0 x1 x2 x3 x5 n ih)
noncomputable def S72_287 (x19 : IV) (h12 : Hp) (x5 : IV) (x1 : IV) (x2 : IV) (h4 : Hp) (x0 : IV) (x3 : IV) (n : Nat) (ih : Handler) : Option (IV × Hp) :=
  condS x19 (bldS [.fv (.int .i64 0), .fv (.int .i64 0), .nils] [] fun x20 => storeA 3 x5 x20 h12 fun h21 _ _ => S72_261 h21 x5) (nilS x1 fun x25 => faddrS 0 x25 fun x26 => S72_286 h12 x26 x2 x1 x5 h4 x0 x3 n ih)
noncomputable def S72_288 (ih : Handler) (h10 : Hp) (x0 : IV) (x5 : IV) (x1 : IV) (x2 : IV) (h4 : Hp) (x3 : IV) (n : Nat) : Option (IV × Hp) :=
  isoS [true] false false ih 99 [x0] h10 fun _ h12 _ _ => nilS x0 fun x15 => faddrS 3 x15 fun x16 => load1 x16 h12 fun x17 _ => neS EE 36 x17 (.fv (.int .i64 0)) fun x19 => S72_287 x19 h12 x5 x1 x2 h4 x0 x3 n ih
noncomputable def S72_289 (x256 : IV) (h252 : Hp) (j0_9 : Hp → Option (IV × Hp)) : Option (IV × Hp) :=
  faddrS 3 x256 fun x257 => store1 x257 (.fv (.int .i64 5)) h252 fun h258 _ _ => j0_9 h258
noncomputable def S72_290 (h246 : Hp) (x202 : IV) (x234 : IV) (x245 : IV) (x0 : IV) (j0_9 : Hp → Option (IV × Hp)) : Option (IV × Hp) :=
  guardS x202 true h246 (fun k249 => pickS x234 (.fv (.bool true)) x245 fun x250 => k249 x250 h246 [] []) fun x251 h252 _ _ => pickS x202 x251 (.fv (.bool false)) fun x255 => condS x255 (nilS x0 fun x256 => S72_289 x256 h252 j0_9) (j0_9 h252)
noncomputable def S72_291 (h217 : Hp) (x202 : IV) (x216 : IV) (x3 : IV) (x0 : IV) (j0_9 : Hp → Option (IV × Hp)) : Option (IV × Hp) :=
  guardS x202 true h217 (fun k220 => load1 x216 h217 fun x221 r222 => k220 x221 h217 r222 []) fun x223 h224 _ _ => guardS x202 true h224 (fun k227 => gtS EE 3 x223 (.fv (.int .i64 3000)) fun x228 => k227 x228 h224 [] []) fun x229 h230 _ _ => guardS x202 true h230 (fun k233 => k233 x229 h230 [] []) fun x234 h235 _ _ => guardS x234 false h235 (fun k238 => k238 x3 h235 [] []) fun x239 h240 _ _ => guardS x234 false h240 (fun k243 => gtS EE 3 x239 (.fv (.int .i64 120)) fun x244 => k243 x244 h240 [] []) fun x245 h246 _ _ => S72_290 h246 x202 x234 x245 x0 j0_9
noncomputable def S72_292 (h195 : Hp) (x199 : IV) (x0 : IV) (x3 : IV) (j0_9 : Hp → Option (IV × Hp)) : Option (IV × Hp) :=
  load1 x199 h195 fun x200 _ => eqS EE 36 x200 (.fv (.int .i64 0)) fun x202 => guardS x202 true h195 (fun k203 => k203 x0 h195 [] []) fun x204 h205 _ _ => guardS x202 true h205 (fun k208 => nilS x204 fun x209 => k208 x209 h205 [] []) fun x210 h211 _ _ => guardS x202 true h211 (fun k214 => faddrS 2 x210 fun x215 => k214 x215 h211 [] []) fun x216 h217 _ _ => S72_291 h217 x202 x216 x3 x0 j0_9
noncomputable def S72_293 (x0 : IV) (h6 : Hp) (x192 : IV) (x3 : IV) (j0_9 : Hp → Option (IV × Hp)) : Option (IV × Hp) :=
  nilS x0 fun x193 => faddrS 2 x193 fun x194 => store1 x194 x192 h6 fun h195 _ _ => nilS x0 fun x198 => faddrS 3 x198 fun x199 => S72_292 h195 x199 x0 x3 j0_9
noncomputable def S72 (ih : Handler) (n : Nat) (x0 : IV) (x1 : IV) (x2 : IV) (x3 : IV) (h4 : Hp) : Option (IV × Hp) :=
  newS 75497472 (.row [.fv (.int .i64 0), .fv (.int .i64 0), .nils] false) (.ptr (.own 75497472) 0) h4 fun x5 h6 _ _ => (fun (j0_9 : Hp → Option (IV × Hp)) => nilS x0 fun x188 => faddrS 2 x188 fun x189 => load1 x189 h6 fun x190 _ => addS EE 3 x190 (.fv (.int .i64 1)) fun x192 => S72_293 x0 h6 x192 x3 j0_9) fun h10 => S72_288 ih h10 x0 x5 x1 x2 h4 x3 n
theorem S72_ok (ih : Handler) (n : Nat) (x0 : IV) (x1 : IV) (x2 : IV) (x3 : IV) (h4 : Hp) : funS EE ih ft.get n 72 [x0, x1, x2, x3] h4 = S72 ih n x0 x1 x2 x3 h4 := by kernel_rfl
noncomputable def S73 (ih : Handler) (n : Nat) (x0 : IV) (x1 : IV) (h2 : Hp) : Option (IV × Hp) :=
  isoS [] false false ih 104 [x0, x1] h2 fun x3 h4 _ _ => geS EE 3 x3 (.fv (.int .i64 0)) fun x7 => outS1 [x7] h4
theorem S73_ok (ih : Handler) (n : Nat) (x0 : IV) (x1 : IV) (h2 : Hp) : funS EE ih ft.get n 73 [x0, x1] h2 = S73 ih n x0 x1 h2 := by kernel_rfl
noncomputable def S74 (ih : Handler) (n : Nat) (x0 : IV) (x1 : IV) (h2 : Hp) : Option (IV × Hp) :=
  boxS 77594624 x0 h2 fun x3 h4 _ _ => load1 x1 h4 fun x7 _ => loadA 3 x3 h4 fun x9 _ => dynS EE ih x7 [x9] h4 fun x11 h12 _ _ => optS (unR .not x11) fun x15 => outS1 [x15] h12
theorem S74_ok (ih : Handler) (n : Nat) (x0 : IV) (x1 : IV) (h2 : Hp) : funS EE ih ft.get n 74 [x0, x1] h2 = S74 ih n x0 x1 h2 := by kernel_rfl
noncomputable def S75_57 (h35 : Hp) (x30 : IV) (x20 : IV) (ih : Handler) (x34 : IV) (j1_27 : IV → Hp → Option (IV × Hp)) (x19 : IV) : Option (IV × Hp) :=
  guardS x30 true h35 (fun k38 => loadA 3 x20 h35 fun x39 r40 => k38 x39 h35 r40 []) fun x41 h42 _ _ => guardS x30 true h42 (fun k45 => isoS [] false false ih 17 [x34, x41] h42 k45) fun x46 h47 _ _ => guardS x30 true h47 (fun k50 => optS (unR .not x46) fun x51 => k50 x51 h47 [] []) fun x52 h53 _ _ => pickS x30 x52 (.fv (.bool false)) fun x56 => condS x56 (j1_27 (.fv (.int .i64 11)) h53) (j1_27 x19 h53)
noncomputable def S75_58 (h15 : Hp) (x18 : IV) (x19 : IV) (x8 : IV) (ih : Handler) : Option (IV × Hp) :=
  newS 78644230 (.row [.fv (.int .i64 0), .fv (.int .i64 0), .nils] false) (.ptr (.own 78644230) 0) h15 fun x20 h21 _ _ => storeA 3 x20 x18 h21 fun h24 _ _ => (fun (j1_27 : IV → Hp → Option (IV × Hp)) => eqS EE 3 x19 (.fv (.int .i64 0)) fun x30 => guardS x30 true h24 (fun k31 => loadA 3 x8 h24 fun x32 r33 => k31 x32 h24 r33 []) fun x34 h35 _ _ => S75_57 h35 x30 x20 ih x34 j1_27 x19) fun x28 h29 => outS1 [x28] h29
noncomputable def S75 (ih : Handler) (n : Nat) (x0 : IV) (x1 : IV) (x2 : IV) (h3 : Hp) : Option (IV × Hp) :=
  boxS 78643200 x1 h3 fun x4 h5 _ _ => boxS 78643201 x2 h5 fun x8 h9 _ _ => loadA 3 x4 h9 fun x12 _ => isoS [] false false ih 19 [x0, x12] h9 fun x14 h15 _ _ => extS 0 x14 fun x18 => extS 1 x14 fun x19 => S75_58 h15 x18 x19 x8 ih
theorem S75_ok (ih : Handler) (n : Nat) (x0 : IV) (x1 : IV) (x2 : IV) (h3 : Hp) : funS EE ih ft.get n 75 [x0, x1, x2] h3 = S75 ih n x0 x1 x2 h3 := by kernel_rfl
noncomputable def S76_25 (r16 : List Ref) (r13 : List Ref) (w14 : List Ref) (r9 : List Ref) (w10 : List Ref) (h12 : Hp) (x15 : IV) (x11 : IV) : Option (IV × Hp) :=
  chkS [(r13, w14), (r9, w10)] r16 [] (genS (pcBuildSlice EE 28 1 [(0, x15)]) 79692804 h12 fun x17 h18 r19 w20 => chkS [(r13, w14), (r9, w10)] r19 w20 (genS (builtinR EE 79692805 false .append [28, 28] [x11, x17]) 79692805 h18 fun x21 h22 r23 w24 => chkS [] r23 w24 (outS1 [x21] h22)))
noncomputable def S76 (ih : Handler) (n : Nat) (x0 : IV) (x1 : IV) (h2 : Hp) : Option (IV × Hp) :=
  boxS 79691776 x1 h2 fun x3 h4 _ _ => genS (pcBuildSlice EE 28 0 []) 79692800 h4 fun x7 h8 r9 w10 => chkS [] r9 w10 (genS (builtinR EE 79692802 false .append [28, 28] [x7, x0]) 79692802 h8 fun x11 h12 r13 w14 => chkS [] r13 w14 (loadA 3 x3 h12 fun x15 r16 => S76_25 r16 r13 w14 r9 w10 h12 x15 x11))
theorem S76_ok (ih : Handler) (n : Nat) (x0 : IV) (x1 : IV) (h2 : Hp) : funS EE ih ft.get n 76 [x0, x1] h2 = S76 ih n x0 x1 h2 := by kernel_rfl
noncomputable def S77_27 (h13 : Hp) (x3 : IV) (x7 : IV) (x12 : IV) : Option (IV × Hp) :=
  loadA 3 x3 h13 fun x14 _ => storeA 3 x7 x14 h13 fun h16 _ _ => cellS true 3 x7 h16 fun x19 => outS1 [x19, x12] h16
noncomputable def S77_28 (ih : Handler) (h8 : Hp) (x21 : IV) (j1_11 : IV → Hp → Option (IV × Hp)) : Option (IV × Hp) :=
  isoS [] false false ih 35 [x21] h8 fun x23 h24 _ _ => j1_11 x23 h24
noncomputable def S77 (ih : Handler) (n : Nat) (x0 : IV) (x1 : IV) (h2 : Hp) : Option (IV × Hp) :=
  boxS 80740352 x0 h2 fun x3 h4 _ _ => newS 80740353 (.row [.fv (.int .i64 0), .fv (.int .i64 0), .nils] false) (.ptr (.own 80740353) 0) h4 fun x7 h8 _ _ => (fun (j1_11 : IV → Hp → Option (IV × Hp)) => eqS EE 3 x1 (.fv (.int .i64 0)) fun x20 => condS x20 (loadA 3 x3 h8 fun x21 _ => S77_28 ih h8 x21 j1_11) (j1_11 x1 h8)) fun x12 h13 => S77_27 h13 x3 x7 x12
theorem S77_ok (ih : Handler) (n : Nat) (x0 : IV) (x1 : IV) (h2 : Hp) : funS EE ih ft.get n 77 [x0, x1] h2 = S77 ih n x0 x1 h2 := by kernel_rfl
noncomputable def S78_60 (x38 : IV) (h39 : Hp) (x12 : IV) : Option (IV × Hp) :=
  extS 0 x38 fun x42 => extS 1 x38 fun x43 => storeA 3 x12 x42 h39 fun h44 _ _ => cellS true 3 x12 h44 fun x47 => outS1 [x47, x43] h44
noncomputable def S78_61 (ih : Handler) (h34 : Hp) (x48 : IV) (x12 : IV) : Option (IV × Hp) :=
  isoS [] false false ih 105 [x48] h34 fun x50 h51 _ _ => extS 0 x50 fun x54 => extS 1 x50 fun x55 => storeA 3 x12 x54 h51 fun h56 _ _ => cellS true 3 x12 h56 fun x59 => outS1 [x59, x55] h56
noncomputable def S78_62 (r35 : List Ref) (w36 : List Ref) (x29 : IV) (ih : Handler) (h34 : Hp) (x12 : IV) (x30 : IV) : Option (IV × Hp) :=
  chkS [] r35 w36 (neS EE 3 x29 (.fv (.int .i64 0)) fun x37 => condS x37 (isoS [] false false ih 44 [x29] h34 fun x38 h39 _ _ => S78_60 x38 h39 x12) (loadA 3 x30 h34 fun x48 _ => S78_61 ih h34 x48 x12))
noncomputable def S78_63 (x24 : IV) (h25 : Hp) (r26 : List Ref) (w27 : List Ref) (r23 : List Ref) (r20 : List Ref) (w21 : List Ref) (r17 : List Ref) (ih : Handler) (x12 : IV) : Option (IV × Hp) :=
  extS 0 x24 fun x28 => extS 1 x24 fun x29 => newS 81789960 (.row [.fv (.int .i64 0), .fv (.int .i64 0), .nils] false) (.ptr (.own 81789960) 0) h25 fun x30 h31 r32 w33 => chkS [(r26, w27), (r23, []), (r20, w21), (r17, [])] r32 w33 (storeA 3 x30 x28 h31 fun h34 r35 w36 => S78_62 r35 w36 x29 ih h34 x12 x30)
noncomputable def S78_64 (r20 : List Ref) (w21 : List Ref) (h19 : Hp) (x8 : IV) (r17 : List Ref) (ih : Handler) (x18 : IV) (x12 : IV) : Option (IV × Hp) :=
  chkS [] r20 w21 (loadA 3 x8 h19 fun x22 r23 => chkS [(r20, w21), (r17, [])] r23 [] (isoS [] false false ih 20 [x18, .fv (.int .i64 0), x22] h19 fun x24 h25 r26 w27 => chkS [] r26 w27 (S78_63 x24 h25 r26 w27 r23 r20 w21 r17 ih x12)))
noncomputable def S78 (ih : Handler) (n : Nat) (x0 : IV) (x1 : IV) (x2 : IV) (h3 : Hp) : Option (IV × Hp) :=
  boxS 81788928 x1 h3 fun x4 h5 _ _ => boxS 81788929 x2 h5 fun x8 h9 _ _ => newS 81788930 (.row [.fv (.int .i64 0), .fv (.int .i64 0), .nils] false) (.ptr (.own 81788930) 0) h9 fun x12 h13 _ _ => loadA 3 x4 h13 fun x16 r17 => chkS [] r17 [] (isoS [] false false ih 79 [x0, .fv (.int .i64 0), x16] h13 fun x18 h19 r20 w21 => S78_64 r20 w21 h19 x8 r17 ih x18 x12)
theorem S78_ok (ih : Handler) (n : Nat) (x0 : IV) (x1 : IV) (x2 : IV) (h3 : Hp) : funS EE ih ft.get n 78 [x0, x1, x2] h3 = S78 ih n x0 x1 x2 h3 := by kernel_rfl
noncomputable def S79_27 (r25 : List Ref) (w26 : List Ref) (h24 : Hp) (x23 : IV) : Option (IV × Hp) :=
  chkS [] r25 w26 (outS1 [x23] h24)
noncomputable def S79_28 (r17 : List Ref) (r14 : List Ref) (w15 : List Ref) (r10 : List Ref) (w11 : List Ref) (x1 : IV) (x16 : IV) (h13 : Hp) (x12 : IV) : Option (IV × Hp) :=
  chkS [(r14, w15), (r10, w11)] r17 [] (bldS [.fv (.int .i64 0), .fv (.int .i64 0), .fv (.int .i64 0), .nils] [(0, 1, x1), (1, 3, x16)] fun x18 => genS (pcBuildSlice EE 27 1 [(0, x18)]) 82838534 h13 fun x19 h20 r21 w22 => chkS [(r14, w15), (r10, w11)] r21 w22 (genS (builtinR EE 82838535 false .append [27, 27] [x12, x19]) 82838535 h20 fun x23 h24 r25 w26 => S79_27 r25 w26 h24 x23))
noncomputable def S79 (ih : Handler) (n : Nat) (x0 : IV) (x1 : IV) (x2 : IV) (h3 : Hp) : Option (IV × Hp) :=
  boxS 82837504 x2 h3 fun x4 h5 _ _ => genS (pcBuildSlice EE 27 0 []) 82838528 h5 fun x8 h9 r10 w11 => chkS [] r10 w11 (genS (builtinR EE 82838530 false .append [27, 27] [x8, x0]) 82838530 h9 fun x12 h13 r14 w15 => chkS [] r14 w15 (loadA 3 x4 h13 fun x16 r17 => S79_28 r17 r14 w15 r10 w11 x1 x16 h13 x12))
theorem S79_ok (ih : Handler) (n : Nat) (x0 : IV) (x1 : IV) (x2 : IV) (h3 : Hp) : funS EE ih ft.get n 79 [x0, x1, x2] h3 = S79 ih n x0 x1 x2 h3 := by kernel_rfl
noncomputable def S80_74 (x32 : IV) (h33 : Hp) (x9 : IV) (x36 : IV) : Option (IV × Hp) :=
  extS 1 x32 fun x37 => storeA 3 x9 x36 h33 fun h38 _ _ => cellS true 3 x9 h38 fun x41 => outS1 [x41, x37] h38
noncomputable def S80_75 (h44 : Hp) (x9 : IV) : Option (IV × Hp) :=
  cellS true 3 x9 h44 fun x47 => outS1 [x47, .fv (.int .i64 0)] h44
noncomputable def S80_76 (x29 : IV) (ih : Handler) (h30 : Hp) (x9 : IV) (x21 : IV) : Option (IV × Hp) :=
  neS EE 3 x29 (.fv (.int .i64 0)) fun x31 => condS x31 (isoS [] false false ih 44 [x29] h30 fun x32 h33 _ _ => extS 0 x32 fun x36 => S80_74 x32 h33 x9 x36) (loadA 3 x21 h30 fun x42 _ => storeA 3 x9 x42 h30 fun h44 _ _ => S80_75 h44 x9)
noncomputable def S80_77 (h52 : Hp) (x48 : IV) (x51 : IV) (x3 : IV) (j1_28 : IV → Hp → Option (IV × Hp)) (x20 : IV) : Option (IV × Hp) :=
  guardS x48 true h52 (fun k55 => load1 x51 h52 fun x56 r57 => k55 x56 h52 r57 []) fun x58 h59 _ _ => guardS x48 true h59 (fun k62 => k62 x3 h59 [] []) fun x63 h64 _ _ => guardS x48 true h64 (fun k67 => neS EE 3 x58 x63 fun x68 => k67 x68 h64 [] []) fun x69 h70 _ _ => pickS x48 x69 (.fv (.bool false)) fun x73 => condS x73 (j1_28 (.fv (.int .i64 12)) h70) (j1_28 x20 h70)
noncomputable def S80_78 (h16 : Hp) (x19 : IV) (ih : Handler) (x9 : IV) (x20 : IV) (x3 : IV) : Option (IV × Hp) :=
  newS 83887111 (.row [.fv (.int .i64 0), .fv (.int .i64 0), .nils] false) (.ptr (.own 83887111) 0) h16 fun x21 h22 _ _ => storeA 3 x21 x19 h22 fun h25 _ _ => (fun (j1_28 : IV → Hp → Option (IV × Hp)) => eqS EE 3 x20 (.fv (.int .i64 0)) fun x48 => guardS x48 true h25 (fun k49 => faddrS 0 x21 fun x50 => k49 x50 h25 [] []) fun x51 h52 _ _ => S80_77 h52 x48 x51 x3 j1_28 x20) fun x29 h30 => S80_76 x29 ih h30 x9 x21
noncomputable def S80 (ih : Handler) (n : Nat) (x0 : IV) (x1 : IV) (x2 : IV) (x3 : IV) (h4 : Hp) : Option (IV × Hp) :=
  boxS 83886080 x2 h4 fun x5 h6 _ _ => newS 83886081 (.row [.fv (.int .i64 0), .fv (.int .i64 0), .nils] false) (.ptr (.own 83886081) 0) h6 fun x9 h10 _ _ => loadA 3 x5 h10 fun x13 _ => isoS [] false false ih 20 [x0, x1, x13] h10 fun x15 h16 _ _ => extS 0 x15 fun x19 => extS 1 x15 fun x20 => S80_78 h16 x19 ih x9 x20 x3
theorem S80_ok (ih : Handler) (n : Nat) (x0 : IV) (x1 : IV) (x2 : IV) (x3 : IV) (h4 : Hp) : funS EE ih ft.get n 80 [x0, x1, x2, x3] h4 = S80 ih n x0 x1 x2 x3 h4 := by kernel_rfl
noncomputable def S81_259 (x38 : IV) (h39 : Hp) (x7 : IV) (x42 : IV) : Option (IV × Hp) :=
  extS 1 x38 fun x43 => storeA 3 x7 x42 h39 fun h44 _ _ => cellS true 3 x7 h44 fun x47 => outS1 [x47, x43] h44
noncomputable def S81_260 (x49 : IV) (h36 : Hp) (x7 : IV) : Option (IV × Hp) :=
  ixS 3 x49 (.fv (.int .i64 1)) fun x51 => loadA 3 x51 h36 fun x52 _ => storeA 3 x7 x52 h36 fun h54 _ _ => cellS true 3 x7 h54 fun x57 => outS1 [x57, .fv (.int .i64 0)] h54
noncomputable def S81_261 (x35 : IV) (ih : Handler) (h36 : Hp) (x7 : IV) (x27 : IV) : Option (IV × Hp) :=
  neS EE 3 x35 (.fv (.int .i64 0)) fun x37 => condS x37 (isoS [] false false ih 44 [x35] h36 fun x38 h39 _ _ => extS 0 x38 fun x42 => S81_259 x38 h39 x7 x42) (faddrS 2 x27 fun x48 => load1 x48 h36 fun x49 _ => S81_260 x49 h36 x7)
noncomputable def S81_262 (x63 : IV) (h31 : Hp) (r61 : List Ref) (ih : Handler) (x0 : IV) (x60 : IV) (j1_34 : IV → Hp → Option (IV × Hp)) : Option (IV × Hp) :=
  ixS 3 x63 (.fv (.int .i64 0)) fun x65 => loadA 3 x65 h31 fun x66 r67 => chkS [(r61, [])] r67 [] (isoS [] false false ih 48 [x0, .fv (.int .i64 0), x60, x66] h31 fun x68 h69 r70 w71 => chkS [] r70 w71 (j1_34 x68 h69))
noncomputable def S81_263 (h31 : Hp) (x59 : IV) (x27 : IV) (ih : Handler) (x0 : IV) (j1_34 : IV → Hp → Option (IV × Hp)) : Option (IV × Hp) :=
  loadA 3 x59 h31 fun x60 r61 => chkS [] r61 [] (faddrS 2 x27 fun x62 => load1 x62 h31 fun x63 r64 => chkS [(r61, [])] r64 [] (S81_262 x63 h31 r61 ih x0 x60 j1_34))
noncomputable def S81_264 (ih : Handler) (x7 : IV) (x27 : IV) (x26 : IV) (x12 : IV) (h31 : Hp) (x0 : IV) : Option (IV × Hp) :=
  (fun (j1_34 : IV → Hp → Option (IV × Hp)) => eqS EE 3 x26 (.fv (.int .i64 0)) fun x58 => condS x58 (ixS 3 x12 (.fv (.int .i64 1)) fun x59 => S81_263 h31 x59 x27 ih x0 j1_34) (j1_34 x26 h31)) fun x35 h36 => S81_261 x35 ih h36 x7 x27
noncomputable def S81_265 (ih : Handler) (h8 : Hp) (x0 : IV) (x19 : IV) (x7 : IV) (x12 : IV) : Option (IV × Hp) :=
  isoS [] false false ih 80 [x0, .fv (.int .i64 0), x19, .fv (.int .i64 16)] h8 fun x21 h22 _ _ => extS 0 x21 fun x25 => extS 1 x21 fun x26 => newS 84938760 (.row [.fv (.int .i64 0), .fv (.int .i64 0), .nils] false) (.ptr (.own 84938760) 0) h22 fun x27 h28 _ _ => storeA 3 x27 x25 h28 fun h31 _ _ => S81_264 ih x7 x27 x26 x12 h31 x0
noncomputable def S81_266 (x90 : IV) (h91 : Hp) (x7 : IV) : Option (IV × Hp) :=
  extS 0 x90 fun x94 => extS 1 x90 fun x95 => storeA 3 x7 x94 h91 fun h96 _ _ => cellS true 3 x7 h96 fun x99 => outS1 [x99, x95] h96
noncomputable def S81_267 (x117 : IV) (h118 : Hp) (x7 : IV) : Option (IV × Hp) :=
  extS 0 x117 fun x121 => extS 1 x117 fun x122 => storeA 3 x7 x121 h118 fun h123 _ _ => cellS true 3 x7 h123 fun x126 => outS1 [x126, x122] h123
noncomputable def S81_268 (x139 : IV) (h140 : Hp) (x7 : IV) (x143 : IV) : Option (IV × Hp) :=
  extS 1 x139 fun x144 => storeA 3 x7 x143 h140 fun h145 _ _ => cellS true 3 x7 h145 fun x148 => outS1 [x148, x144] h145
noncomputable def S81_269 (h113 : Hp) (x109 : IV) (x127 : IV) (ih : Handler) (x7 : IV) : Option (IV × Hp) :=
  loadA 3 x109 h113 fun x129 _ => genS (pcBuildSlice EE 28 2 [(0, x127), (1, x129)]) 84952066 h113 fun x131 h132 _ _ => isoS [] false false ih 24 [.fv (.int .i64 17), x131] h132 fun x135 h136 _ _ => isoS [] false false ih 34 [x135] h136 fun x139 h140 _ _ => extS 0 x139 fun x143 => S81_268 x139 h140 x7 x143
noncomputable def S81_270 (h110 : Hp) (x109 : IV) (x107 : IV) (x108 : IV) (ih : Handler) (x7 : IV) (x82 : IV) : Option (IV × Hp) :=
  storeA 3 x109 x107 h110 fun h113 _ _ => neS EE 3 x108 (.fv (.int .i64 0)) fun x116 => condS x116 (isoS [] false false ih 44 [x108] h113 fun x117 h118 _ _ => S81_267 x117 h118 x7) (loadA 3 x82 h113 fun x127 _ => S81_269 h113 x109 x127 ih x7)
noncomputable def S81_271 (h86 : Hp) (x100 : IV) (ih : Handler) (x0 : IV) (x7 : IV) (x82 : IV) : Option (IV × Hp) :=
  loadA 3 x100 h86 fun x101 _ => isoS [] false false ih 20 [x0, .fv (.int .i64 0), x101] h86 fun x103 h104 _ _ => extS 0 x103 fun x107 => extS 1 x103 fun x108 => newS 84949000 (.row [.fv (.int .i64 0), .fv (.int .i64 0), .nils] false) (.ptr (.own 84949000) 0) h104 fun x109 h110 _ _ => S81_270 h110 x109 x107 x108 ih x7 x82
noncomputable def S81_272 (h77 : Hp) (x80 : IV) (x81 : IV) (ih : Handler) (x7 : IV) (x12 : IV) (x0 : IV) : Option (IV × Hp) :=
  newS 84945928 (.row [.fv (.int .i64 0), .fv (.int .i64 0), .nils] false) (.ptr (.own 84945928) 0) h77 fun x82 h83 _ _ => storeA 3 x82 x80 h83 fun h86 _ _ => neS EE 3 x81 (.fv (.int .i64 0)) fun x89 => condS x89 (isoS [] false false ih 44 [x81] h86 fun x90 h91 _ _ => S81_266 x90 h91 x7) (ixS 3 x12 (.fv (.int .i64 1)) fun x100 => S81_271 h86 x100 ih x0 x7 x82)
noncomputable def S81_273 (x12 : IV) (h8 : Hp) (ih : Handler) (x0 : IV) (x7 : IV) : Option (IV × Hp) :=
  ixS 3 x12 (.fv (.int .i64 0)) fun x73 => loadA 3 x73 h8 fun x74 _ => isoS [] false false ih 20 [x0, .fv (.int .i64 0), x74] h8 fun x76 h77 _ _ => extS 0 x76 fun x80 => extS 1 x76 fun x81 => S81_272 h77 x80 x81 ih x7 x12 x0
noncomputable def S81_274 (x162 : IV) (h163 : Hp) (x7 : IV) (x166 : IV) : Option (IV × Hp) :=
  extS 1 x162 fun x167 => storeA 3 x7 x166 h163 fun h168 _ _ => cellS true 3 x7 h168 fun x171 => outS1 [x171, x167] h168
noncomputable def S81_275 (x192 : IV) (h193 : Hp) (x7 : IV) (x196 : IV) : Option (IV × Hp) :=
  extS 1 x192 fun x197 => storeA 3 x7 x196 h193 fun h198 _ _ => cellS true 3 x7 h198 fun x201 => outS1 [x201, x197] h198
noncomputable def S81_276 (h204 : Hp) (x7 : IV) : Option (IV × Hp) :=
  cellS true 3 x7 h204 fun x207 => outS1 [x207, .fv (.int .i64 0)] h204
noncomputable def S81_277 (x189 : IV) (ih : Handler) (h190 : Hp) (x7 : IV) (x181 : IV) : Option (IV × Hp) :=
  neS EE 3 x189 (.fv (.int .i64 0)) fun x191 => condS x191 (isoS [] false false ih 44 [x189] h190 fun x192 h193 _ _ => extS 0 x192 fun x196 => S81_275 x192 h193 x7 x196) (loadA 3 x181 h190 fun x202 _ => storeA 3 x7 x202 h190 fun h204 _ _ => S81_276 h204 x7)
noncomputable def S81_278 (r216 : List Ref) (w217 : List Ref) (j1_188 : IV → Hp → Option (IV × Hp)) (h215 : Hp) (x214 : IV) : Option (IV × Hp) :=
  chkS [] r216 w217 (j1_188 x214 h215)
noncomputable def S81_279 (h185 : Hp) (x209 : IV) (x181 : IV) (ih : Handler) (x0 : IV) (j1_188 : IV → Hp → Option (IV × Hp)) : Option (IV × Hp) :=
  loadA 3 x209 h185 fun x210 r211 => chkS [] r211 [] (loadA 3 x181 h185 fun x212 r213 => chkS [(r211, [])] r213 [] (isoS [] false false ih 48 [x0, .fv (.int .i64 0), x210, x212] h185 fun x214 h215 r216 w217 => S81_278 r216 w217 j1_188 h215 x214))
noncomputable def S81_280 (ih : Handler) (x7 : IV) (x181 : IV) (x180 : IV) (x12 : IV) (h185 : Hp) (x0 : IV) : Option (IV × Hp) :=
  (fun (j1_188 : IV → Hp → Option (IV × Hp)) => eqS EE 3 x180 (.fv (.int .i64 0)) fun x208 => condS x208 (ixS 3 x12 (.fv (.int .i64 2)) fun x209 => S81_279 h185 x209 x181 ih x0 j1_188) (j1_188 x180 h185)) fun x189 h190 => S81_277 x189 ih h190 x7 x181
noncomputable def S81_281 (ih : Handler) (h158 : Hp) (x0 : IV) (x173 : IV) (x7 : IV) (x12 : IV) : Option (IV × Hp) :=
  isoS [] false false ih 20 [x0, .fv (.int .i64 0), x173] h158 fun x175 h176 _ _ => extS 0 x175 fun x179 => extS 1 x175 fun x180 => newS 84957192 (.row [.fv (.int .i64 0), .fv (.int .i64 0), .nils] false) (.ptr (.own 84957192) 0) h176 fun x181 h182 _ _ => storeA 3 x181 x179 h182 fun h185 _ _ => S81_280 ih x7 x181 x180 x12 h185 x0
noncomputable def S81_282 (x157 : IV) (ih : Handler) (h158 : Hp) (x7 : IV) (x12 : IV) (x0 : IV) : Option (IV × Hp) :=
  neS EE 3 x157 (.fv (.int .i64 0)) fun x161 => condS x161 (isoS [] false false ih 44 [x157] h158 fun x162 h163 _ _ => extS 0 x162 fun x166 => S81_274 x162 h163 x7 x166) (ixS 3 x12 (.fv (.int .i64 1)) fun x172 => loadA 3 x172 h158 fun x173 _ => S81_281 ih h158 x0 x173 x7 x12)
noncomputable def S81_283 (r152 : List Ref) (ih : Handler) (h8 : Hp) (x0 : IV) (x151 : IV) (x7 : IV) (x12 : IV) : Option (IV × Hp) :=
  chkS [] r152 [] (isoS [] false false ih 24 [.fv (.int .i64 15), .nils] h8 fun x153 h154 r155 w156 => chkS [(r152, [])] r155 w156 (isoS [] false false ih 48 [x0, .fv (.int .i64 0), x151, x153] h154 fun x157 h158 r159 w160 => chkS [] r159 w160 (S81_282 x157 ih h158 x7 x12 x0)))
noncomputable def S81_284 (x235 : IV) (h236 : Hp) (x7 : IV) (x239 : IV) : Option (IV × Hp) :=
  extS 1 x235 fun x240 => storeA 3 x7 x239 h236 fun h241 _ _ => cellS true 3 x7 h241 fun x244 => outS1 [x244, x240] h241
noncomputable def S81_285 (h231 : Hp) (x7 : IV) (x253 : IV) : Option (IV × Hp) :=
  storeA 3 x7 x253 h231 fun h255 _ _ => cellS true 3 x7 h255 fun x258 => outS1 [x258, .fv (.int .i64 0)] h255
noncomputable def S81_286 (x3 : IV) (h231 : Hp) (x246 : IV) (x7 : IV) : Option (IV × Hp) :=
  faddrS 0 x3 fun x248 => load1 x248 h231 fun x249 _ => subS EE 3 x249 (.fv (.int .i64 23)) fun x251 => ixS 3 x246 x251 fun x252 => loadA 3 x252 h231 fun x253 _ => S81_285 h231 x7 x253
noncomputable def S81_287 (x226 : IV) (ih : Handler) (h231 : Hp) (x7 : IV) (x227 : IV) (x3 : IV) : Option (IV × Hp) :=
  neS EE 3 x226 (.fv (.int .i64 0)) fun x234 => condS x234 (isoS [] false false ih 44 [x226] h231 fun x235 h236 _ _ => extS 0 x235 fun x239 => S81_284 x235 h236 x7 x239) (faddrS 2 x227 fun x245 => load1 x245 h231 fun x246 _ => S81_286 x3 h231 x246 x7)
noncomputable def S81_288 (ih : Handler) (h8 : Hp) (x0 : IV) (x219 : IV) (x7 : IV) (x3 : IV) : Option (IV × Hp) :=
  isoS [] false false ih 80 [x0, .fv (.int .i64 0), x219, .fv (.int .i64 17)] h8 fun x221 h222 _ _ => extS 0 x221 fun x225 => extS 1 x221 fun x226 => newS 84963336 (.row [.fv (.int .i64 0), .fv (.int .i64 0), .nils] false) (.ptr (.own 84963336) 0) h222 fun x227 h228 _ _ => storeA 3 x227 x225 h228 fun h231 _ _ => S81_287 x226 ih h231 x7 x227 x3
noncomputable def S81_289 (x15 : IV) (x12 : IV) (h8 : Hp) (ih : Handler) (x0 : IV) (x7 : IV) (x3 : IV) : Option (IV × Hp) :=
  eqS EE 3 x15 (.fv (.int .i64 27)) fun x149 => condS x149 (ixS 3 x12 (.fv (.int .i64 0)) fun x150 => loadA 3 x150 h8 fun x151 r152 => S81_283 r152 ih h8 x0 x151 x7 x12) (ixS 3 x12 (.fv (.int .i64 0)) fun x218 => loadA 3 x218 h8 fun x219 _ => S81_288 ih h8 x0 x219 x7 x3)
noncomputable def S81_290 (x15 : IV) (x12 : IV) (h8 : Hp) (ih : Handler) (x0 : IV) (x7 : IV) (x3 : IV) : Option (IV × Hp) :=
  eqS EE 3 x15 (.fv (.int .i64 21)) fun x17 => condS x17 (ixS 3 x12 (.fv (.int .i64 0)) fun x18 => loadA 3 x18 h8 fun x19 _ => S81_265 ih h8 x0 x19 x7 x12) (eqS EE 3 x15 (.fv (.int .i64 22)) fun x72 => condS x72 (S81_273 x12 h8 ih x0 x7) (S81_289 x15 x12 h8 ih x0 x7 x3))
noncomputable def S81 (ih : Handler) (n : Nat) (x0 : IV) (x1 : IV) (h2 : Hp) : Option (IV × Hp) :=
  boxS 84934656 x1 h2 fun x3 h4 _ _ => newS 84934657 (.row [.fv (.int .i64 0), .fv (.int .i64 0), .nils] false) (.ptr (.own 84934657) 0) h4 fun x7 h8 _ _ => faddrS 2 x3 fun x11 => load1 x11 h8 fun x12 _ => faddrS 0 x3 fun x14 => load1 x14 h8 fun x15 _ => S81_290 x15 x12 h8 ih x0 x7 x3
theorem S81_ok (ih : Handler) (n : Nat) (x0 : IV) (x1 : IV) (h2 : Hp) : funS EE ih ft.get n 81 [x0, x1] h2 = S81 ih n x0 x1 h2 := by kernel_rfl
noncomputable def S82_59 (r53 : List Ref) (w54 : List Ref) (ih : Handler) (h52 : Hp) (x45 : IV) (x51 : IV) : Option (IV × Hp) :=
  chkS [] r53 w54 (isoS [] false false ih 17 [x45, x51] h52 fun x55 h56 r57 w58 => chkS [] r57 w58 (outS1 [x55, .fv (.int .i64 0)] h56))
noncomputable def S82_60 (ih : Handler) (h39 : Hp) (x43 : IV) (x35 : IV) (r44 : List Ref) : Option (IV × Hp) :=
  isoS [] false false ih 86 [x43] h39 fun x45 h46 r47 w48 => chkS [] r47 w48 (loadA 3 x35 h46 fun x49 r50 => chkS [(r47, w48), (r44, [])] r50 [] (isoS [] false false ih 86 [x49] h46 fun x51 h52 r53 w54 => S82_59 r53 w54 ih h52 x45 x51))
noncomputable def S82_61 (x34 : IV) (h39 : Hp) (x19 : IV) (ih : Handler) (x35 : IV) : Option (IV × Hp) :=
  neS EE 3 x34 (.fv (.int .i64 0)) fun x42 => condS x42 (outS1 [.fv (.bool false), x34] h39) (loadA 3 x19 h39 fun x43 r44 => chkS [] r44 [] (S82_60 ih h39 x43 x35 r44))
noncomputable def S82_62 (ih : Handler) (h23 : Hp) (x27 : IV) (x19 : IV) : Option (IV × Hp) :=
  isoS [] false false ih 34 [x27] h23 fun x29 h30 _ _ => extS 0 x29 fun x33 => extS 1 x29 fun x34 => newS 85987333 (.row [.fv (.int .i64 0), .fv (.int .i64 0), .nils] false) (.ptr (.own 85987333) 0) h30 fun x35 h36 _ _ => storeA 3 x35 x33 h36 fun h39 _ _ => S82_61 x34 h39 x19 ih x35
noncomputable def S82_63 (h14 : Hp) (x17 : IV) (x18 : IV) (x7 : IV) (ih : Handler) : Option (IV × Hp) :=
  newS 85984261 (.row [.fv (.int .i64 0), .fv (.int .i64 0), .nils] false) (.ptr (.own 85984261) 0) h14 fun x19 h20 _ _ => storeA 3 x19 x17 h20 fun h23 _ _ => neS EE 3 x18 (.fv (.int .i64 0)) fun x26 => condS x26 (outS1 [.fv (.bool false), x18] h23) (loadA 3 x7 h23 fun x27 _ => S82_62 ih h23 x27 x19)
noncomputable def S82 (ih : Handler) (n : Nat) (x0 : IV) (x1 : IV) (h2 : Hp) : Option (IV × Hp) :=
  boxS 85983232 x0 h2 fun x3 h4 _ _ => boxS 85983233 x1 h4 fun x7 h8 _ _ => loadA 3 x3 h8 fun x11 _ => isoS [] false false ih 34 [x11] h8 fun x13 h14 _ _ => extS 0 x13 fun x17 => extS 1 x13 fun x18 => S82_63 h14 x17 x18 x7 ih
theorem S82_ok (ih : Handler) (n : Nat) (x0 : IV) (x1 : IV) (h2 : Hp) : funS EE ih ft.get n 82 [x0, x1] h2 = S82 ih n x0 x1 h2 := by kernel_rfl
noncomputable def S83_30 (h19 : Hp) (x27 : IV) : Option (IV × Hp) :=
  load1 x27 h19 fun x28 _ => outS1 [x28, .fv (.int .i64 0)] h19
noncomputable def S83_31 (h19 : Hp) (x23 : IV) (x15 : IV) : Option (IV × Hp) :=
  load1 x23 h19 fun x24 _ => neS EE 3 x24 (.fv (.int .i64 2)) fun x26 => condS x26 (outS1 [.fv (.int .i64 0), .fv (.int .i64 12)] h19) (faddrS 1 x15 fun x27 => S83_30 h19 x27)
noncomputable def S83_32 (h16 : Hp) (x15 : IV) (x13 : IV) (x14 : IV) : Option (IV × Hp) :=
  storeA 3 x15 x13 h16 fun h19 _ _ => neS EE 3 x14 (.fv (.int .i64 0)) fun x22 => condS x22 (outS1 [.fv (.int .i64 0), x14] h19) (faddrS 0 x15 fun x23 => S83_31 h19 x23 x15)
noncomputable def S83 (ih : Handler) (n : Nat) (x0 : IV) (x1 : IV) (h2 : Hp) : Option (IV × Hp) :=
  boxS 87031808 x1 h2 fun x3 h4 _ _ => loadA 3 x3 h4 fun x7 _ => isoS [] false false ih 20 [x0, .fv (.int .i64 1), x7] h4 fun x9 h10 _ _ => extS 0 x9 fun x13 => extS 1 x9 fun x14 => newS 87032838 (.row [.fv (.int .i64 0), .fv (.int .i64 0), .nils] false) (.ptr (.own 87032838) 0) h10 fun x15 h16 _ _ => S83_32 h16 x15 x13 x14
theorem S83_ok (ih : Handler) (n : Nat) (x0 : IV) (x1 : IV) (h2 : Hp) : funS EE ih ft.get n 83 [x0, x1] h2 = S83 ih n x0 x1 h2 := by kernel_rfl
noncomputable def S84_151 (ih : Handler) (h18 : Hp) (x22 : IV) (x7 : IV) : Option (IV × Hp) :=
  isoS [] false false ih 44 [x22] h18 fun x24 h25 _ _ => extS 0 x24 fun x28 => extS 1 x24 fun x29 => storeA 3 x7 x28 h25 fun h30 _ _ => cellS true 3 x7 h30 fun x33 => outS1 [x33, x29] h30
noncomputable def S84_152 (x57 : IV) (h58 : Hp) (x7 : IV) (x61 : IV) : Option (IV × Hp) :=
  extS 1 x57 fun x62 => storeA 3 x7 x61 h58 fun h63 _ _ => cellS true 3 x7 h63 fun x66 => outS1 [x66, x62] h63
noncomputable def S84_153 (x87 : IV) (h88 : Hp) (x7 : IV) (x91 : IV) : Option (IV × Hp) :=
  extS 1 x87 fun x92 => storeA 3 x7 x91 h88 fun h93 _ _ => cellS true 3 x7 h93 fun x96 => outS1 [x96, x92] h93
noncomputable def S84_154 (h99 : Hp) (x7 : IV) : Option (IV × Hp) :=
  cellS true 3 x7 h99 fun x102 => outS1 [x102, .fv (.int .i64 0)] h99
noncomputable def S84_155 (x84 : IV) (ih : Handler) (h85 : Hp) (x7 : IV) (x46 : IV) : Option (IV × Hp) :=
  neS EE 3 x84 (.fv (.int .i64 0)) fun x86 => condS x86 (isoS [] false false ih 44 [x84] h85 fun x87 h88 _ _ => extS 0 x87 fun x91 => S84_153 x87 h88 x7 x91) (loadA 3 x46 h85 fun x97 _ => storeA 3 x7 x97 h85 fun h99 _ _ => S84_154 h99 x7)
noncomputable def S84_156 (ih : Handler) (h123 : Hp) (x0 : IV) (x108 : IV) (x122 : IV) (j1_83 : IV → Hp → Option (IV × Hp)) : Option (IV × Hp) :=
  isoS [] false false ih 48 [x0, .fv (.int .i64 1), x108, x122] h123 fun x126 h127 r128 w129 => chkS [] r128 w129 (j1_83 x126 h127)
noncomputable def S84_157 (x117 : IV) (h80 : Hp) (r115 : List Ref) (r112 : List Ref) (r109 : List Ref) (r106 : List Ref) (ih : Handler) (x114 : IV) (x0 : IV) (x108 : IV) (j1_83 : IV → Hp → Option (IV × Hp)) : Option (IV × Hp) :=
  ixS 3 x117 (.fv (.int .i64 1)) fun x119 => loadA 3 x119 h80 fun x120 r121 => chkS [(r115, []), (r112, []), (r109, []), (r106, [])] r121 [] (isoS [] false false ih 67 [x114, .fv (.int .i64 0), x120] h80 fun x122 h123 r124 w125 => chkS [(r109, []), (r106, [])] r124 w125 (S84_156 ih h123 x0 x108 x122 j1_83))
noncomputable def S84_158 (h80 : Hp) (x113 : IV) (r109 : List Ref) (r106 : List Ref) (x3 : IV) (r112 : List Ref) (ih : Handler) (x0 : IV) (x108 : IV) (j1_83 : IV → Hp → Option (IV × Hp)) : Option (IV × Hp) :=
  loadA 3 x113 h80 fun x114 r115 => chkS [(r109, []), (r106, [])] r115 [] (faddrS 2 x3 fun x116 => load1 x116 h80 fun x117 r118 => chkS [(r115, []), (r112, []), (r109, []), (r106, [])] r118 [] (S84_157 x117 h80 r115 r112 r109 r106 ih x114 x0 x108 j1_83))
noncomputable def S84_159 (r109 : List Ref) (x46 : IV) (h80 : Hp) (r106 : List Ref) (x3 : IV) (ih : Handler) (x0 : IV) (x108 : IV) (j1_83 : IV → Hp → Option (IV × Hp)) : Option (IV × Hp) :=
  chkS [] r109 [] (faddrS 2 x46 fun x110 => load1 x110 h80 fun x111 r112 => chkS [(r109, []), (r106, [])] r112 [] (ixS 3 x111 (.fv (.int .i64 1)) fun x113 => S84_158 h80 x113 r109 r106 x3 r112 ih x0 x108 j1_83))
noncomputable def S84_160 (x3 : IV) (h80 : Hp) (x46 : IV) (ih : Handler) (x0 : IV) (j1_83 : IV → Hp → Option (IV × Hp)) : Option (IV × Hp) :=
  faddrS 2 x3 fun x104 => load1 x104 h80 fun x105 r106 => chkS [] r106 [] (ixS 3 x105 (.fv (.int .i64 2)) fun x107 => loadA 3 x107 h80 fun x108 r109 => S84_159 r109 x46 h80 r106 x3 ih x0 x108 j1_83)
noncomputable def S84_161 (ih : Handler) (h55 : Hp) (x0 : IV) (x71 : IV) (x77 : IV) (x7 : IV) (x46 : IV) (x3 : IV) : Option (IV × Hp) :=
  isoS [] false false ih 48 [x0, .fv (.int .i64 1), x71, x77] h55 fun x79 h80 r81 w82 => chkS [] r81 w82 ((fun (j1_83 : IV → Hp → Option (IV × Hp)) => eqS EE 3 x79 (.fv (.int .i64 0)) fun x103 => condS x103 (S84_160 x3 h80 x46 ih x0 j1_83) (j1_83 x79 h80)) fun x84 h85 => S84_155 x84 ih h85 x7 x46)
noncomputable def S84_162 (h55 : Hp) (x73 : IV) (r72 : List Ref) (r69 : List Ref) (ih : Handler) (x0 : IV) (x71 : IV) (x7 : IV) (x46 : IV) (x3 : IV) : Option (IV × Hp) :=
  load1 x73 h55 fun x74 r75 => chkS [(r72, []), (r69, [])] r75 [] (ixS 3 x74 (.fv (.int .i64 0)) fun x76 => loadA 3 x76 h55 fun x77 r78 => chkS [(r72, []), (r69, [])] r78 [] (S84_161 ih h55 x0 x71 x77 x7 x46 x3))
noncomputable def S84_163 (r69 : List Ref) (x68 : IV) (h55 : Hp) (x46 : IV) (ih : Handler) (x0 : IV) (x7 : IV) (x3 : IV) : Option (IV × Hp) :=
  chkS [] r69 [] (ixS 3 x68 (.fv (.int .i64 1)) fun x70 => loadA 3 x70 h55 fun x71 r72 => chkS [] r72 [] (faddrS 2 x46 fun x73 => S84_162 h55 x73 r72 r69 ih x0 x71 x7 x46 x3))
noncomputable def S84_164 (x54 : IV) (ih : Handler) (h55 : Hp) (x7 : IV) (x3 : IV) (x46 : IV) (x0 : IV) : Option (IV × Hp) :=
  neS EE 3 x54 (.fv (.int .i64 0)) fun x56 => condS x56 (isoS [] false false ih 44 [x54] h55 fun x57 h58 _ _ => extS 0 x57 fun x61 => S84_152 x57 h58 x7 x61) (faddrS 2 x3 fun x67 => load1 x67 h55 fun x68 r69 => S84_163 r69 x68 h55 x46 ih x0 x7 x3)
noncomputable def S84_165 (x150 : IV) (j1_53 : IV → Hp → Option (IV × Hp)) (h147 : Hp) (x45 : IV) : Option (IV × Hp) :=
  condS x150 (j1_53 (.fv (.int .i64 12)) h147) (j1_53 x45 h147)
noncomputable def S84_166 (x45 : IV) (h50 : Hp) (x46 : IV) (j1_53 : IV → Hp → Option (IV × Hp)) : Option (IV × Hp) :=
  eqS EE 3 x45 (.fv (.int .i64 0)) fun x130 => guardS x130 true h50 (fun k131 => faddrS 0 x46 fun x132 => k131 x132 h50 [] []) fun x133 h134 _ _ => guardS x130 true h134 (fun k137 => load1 x133 h134 fun x138 r139 => k137 x138 h134 r139 []) fun x140 h141 _ _ => guardS x130 true h141 (fun k144 => neS EE 3 x140 (.fv (.int .i64 6)) fun x145 => k144 x145 h141 [] []) fun x146 h147 _ _ => pickS x130 x146 (.fv (.bool false)) fun x150 => S84_165 x150 j1_53 h147 x45
noncomputable def S84_167 (x40 : IV) (h41 : Hp) (ih : Handler) (x7 : IV) (x3 : IV) (x0 : IV) : Option (IV × Hp) :=
  extS 0 x40 fun x44 => extS 1 x40 fun x45 => newS 88084488 (.row [.fv (.int .i64 0), .fv (.int .i64 0), .nils] false) (.ptr (.own 88084488) 0) h41 fun x46 h47 _ _ => storeA 3 x46 x44 h47 fun h50 _ _ => (fun (j1_53 : IV → Hp → Option (IV × Hp)) => S84_166 x45 h50 x46 j1_53) fun x54 h55 => S84_164 x54 ih h55 x7 x3 x46 x0
noncomputable def S84_168 (x3 : IV) (h18 : Hp) (ih : Handler) (x7 : IV) (x0 : IV) : Option (IV × Hp) :=
  faddrS 2 x3 fun x34 => load1 x34 h18 fun x35 _ => ixS 3 x35 (.fv (.int .i64 0)) fun x37 => loadA 3 x37 h18 fun x38 _ => isoS [] false false ih 34 [x38] h18 fun x40 h41 _ _ => S84_167 x40 h41 ih x7 x3 x0
noncomputable def S84_169 (ih : Handler) (h8 : Hp) (x0 : IV) (x15 : IV) (x7 : IV) (x3 : IV) : Option (IV × Hp) :=
  isoS [] false false ih 83 [x0, x15] h8 fun x17 h18 _ _ => extS 0 x17 fun _ => extS 1 x17 fun x22 => neS EE 3 x22 (.fv (.int .i64 0)) fun x23 => condS x23 (S84_151 ih h18 x22 x7) (S84_168 x3 h18 ih x7 x0)
noncomputable def S84 (ih : Handler) (n : Nat) (x0 : IV) (x1 : IV) (h2 : Hp) : Option (IV × Hp) :=
  boxS 88080384 x1 h2 fun x3 h4 _ _ => newS 88080385 (.row [.fv (.int .i64 0), .fv (.int .i64 0), .nils] false) (.ptr (.own 88080385) 0) h4 fun x7 h8 _ _ => faddrS 2 x3 fun x11 => load1 x11 h8 fun x12 _ => ixS 3 x12 (.fv (.int .i64 0)) fun x14 => loadA 3 x14 h8 fun x15 _ => S84_169 ih h8 x0 x15 x7 x3
theorem S84_ok (ih : Handler) (n : Nat) (x0 : IV) (x1 : IV) (h2 : Hp) : funS EE ih ft.get n 84 [x0, x1] h2 = S84 ih n x0 x1 h2 := by kernel_rfl
noncomputable def S85_154 (x59 : IV) (h60 : Hp) (x7 : IV) (x63 : IV) : Option (IV × Hp) :=
  extS 1 x59 fun x64 => storeA 3 x7 x63 h60 fun h65 _ _ => cellS true 3 x7 h65 fun x68 => outS1 [x68, x64] h65
noncomputable def S85_155 (x81 : IV) (h82 : Hp) (x7 : IV) : Option (IV × Hp) :=
  extS 0 x81 fun x85 => extS 1 x81 fun x86 => storeA 3 x7 x85 h82 fun h87 r88 w89 => chkS [] r88 w89 (cellS true 3 x7 h87 fun x90 => outS1 [x90, x86] h87)
noncomputable def S85_156 (r76 : List Ref) (r70 : List Ref) (ih : Handler) (h57 : Hp) (x69 : IV) (x75 : IV) (x7 : IV) : Option (IV × Hp) :=
  chkS [(r70, [])] r76 [] (isoS [] false false ih 67 [x69, .fv (.int .i64 0), x75] h57 fun x77 h78 r79 w80 => chkS [] r79 w80 (isoS [] false false ih 34 [x77] h78 fun x81 h82 r83 w84 => chkS [] r83 w84 (S85_155 x81 h82 x7)))
noncomputable def S85_157 (x3 : IV) (h57 : Hp) (r70 : List Ref) (ih : Handler) (x69 : IV) (x7 : IV) : Option (IV × Hp) :=
  faddrS 2 x3 fun x71 => load1 x71 h57 fun x72 r73 => chkS [(r70, [])] r73 [] (ixS 3 x72 (.fv (.int .i64 3)) fun x74 => loadA 3 x74 h57 fun x75 r76 => S85_156 r76 r70 ih h57 x69 x75 x7)
noncomputable def S85_158 (x56 : IV) (ih : Handler) (h57 : Hp) (x7 : IV) (x28 : IV) (x3 : IV) : Option (IV × Hp) :=
  neS EE 3 x56 (.fv (.int .i64 0)) fun x58 => condS x58 (isoS [] false false ih 44 [x56] h57 fun x59 h60 _ _ => extS 0 x59 fun x63 => S85_154 x59 h60 x7 x63) (loadA 3 x28 h57 fun x69 r70 => chkS [] r70 [] (S85_157 x3 h57 r70 ih x69 x7))
noncomputable def S85_159 (h54 : Hp) (x15 : IV) (r97 : List Ref) (r94 : List Ref) (ih : Handler) (x0 : IV) (x96 : IV) (j1_55 : IV → Hp → Option (IV × Hp)) : Option (IV × Hp) :=
  loadA 3 x15 h54 fun x98 r99 => chkS [(r97, []), (r94, [])] r99 [] (isoS [] false false ih 48 [x0, .fv (.int .i64 1), x96, x98] h54 fun x100 h101 r102 w103 => chkS [] r102 w103 (j1_55 x100 h101))
noncomputable def S85_160 (h54 : Hp) (x92 : IV) (x15 : IV) (ih : Handler) (x0 : IV) (j1_55 : IV → Hp → Option (IV × Hp)) : Option (IV × Hp) :=
  load1 x92 h54 fun x93 r94 => chkS [] r94 [] (ixS 3 x93 (.fv (.int .i64 3)) fun x95 => loadA 3 x95 h54 fun x96 r97 => chkS [] r97 [] (S85_159 h54 x15 r97 r94 ih x0 x96 j1_55))
noncomputable def S85_161 (ih : Handler) (x7 : IV) (x28 : IV) (x3 : IV) (x53 : IV) (h54 : Hp) (x15 : IV) (x0 : IV) : Option (IV × Hp) :=
  (fun (j1_55 : IV → Hp → Option (IV × Hp)) => eqS EE 3 x53 (.fv (.int .i64 0)) fun x91 => condS x91 (faddrS 2 x3 fun x92 => S85_160 h54 x92 x15 ih x0 j1_55) (j1_55 x53 h54)) fun x56 h57 => S85_158 x56 ih h57 x7 x28 x3
noncomputable def S85_162 (ih : Handler) (h114 : Hp) (x123 : IV) (r122 : List Ref) (r119 : List Ref) (x113 : IV) (x121 : IV) (j1_52 : IV → Hp → Option (IV × Hp)) : Option (IV × Hp) :=
  isoS [] false false ih 106 [x123] h114 fun x125 h126 r127 w128 => chkS [(r122, []), (r119, [])] r127 w128 (isoS [] false false ih 48 [x113, .fv (.int .i64 1), x121, x125] h126 fun x129 h130 r131 w132 => chkS [] r131 w132 (j1_52 x129 h130))
noncomputable def S85_163 (x118 : IV) (h114 : Hp) (r115 : List Ref) (w116 : List Ref) (r112 : List Ref) (r109 : List Ref) (w110 : List Ref) (r106 : List Ref) (x28 : IV) (r119 : List Ref) (ih : Handler) (x113 : IV) (j1_52 : IV → Hp → Option (IV × Hp)) : Option (IV × Hp) :=
  ixS 3 x118 (.fv (.int .i64 2)) fun x120 => loadA 3 x120 h114 fun x121 r122 => chkS [(r115, w116), (r112, []), (r109, w110), (r106, [])] r122 [] (loadA 3 x28 h114 fun x123 r124 => chkS [(r122, []), (r119, []), (r115, w116), (r112, []), (r109, w110), (r106, [])] r124 [] (S85_162 ih h114 x123 r122 r119 x113 x121 j1_52))
noncomputable def S85_164 (ih : Handler) (h108 : Hp) (x107 : IV) (x111 : IV) (x3 : IV) (r112 : List Ref) (r109 : List Ref) (w110 : List Ref) (r106 : List Ref) (x28 : IV) (j1_52 : IV → Hp → Option (IV × Hp)) : Option (IV × Hp) :=
  isoS [] false false ih 79 [x107, .fv (.int .i64 1), x111] h108 fun x113 h114 r115 w116 => chkS [] r115 w116 (faddrS 2 x3 fun x117 => load1 x117 h114 fun x118 r119 => chkS [(r115, w116), (r112, []), (r109, w110), (r106, [])] r119 [] (S85_163 x118 h114 r115 w116 r112 r109 w110 r106 x28 r119 ih x113 j1_52))
noncomputable def S85_165 (r106 : List Ref) (ih : Handler) (h51 : Hp) (x0 : IV) (x105 : IV) (x28 : IV) (x3 : IV) (j1_52 : IV → Hp → Option (IV × Hp)) : Option (IV × Hp) :=
  chkS [] r106 [] (isoS [] false false ih 79 [x0, .fv (.int .i64 1), x105] h51 fun x107 h108 r109 w110 => chkS [] r109 w110 (loadA 3 x28 h108 fun x111 r112 => chkS [(r109, w110), (r106, [])] r112 [] (S85_164 ih h108 x107 x111 x3 r112 r109 w110 r106 x28 j1_52)))
noncomputable def S85_166 (ih : Handler) (x7 : IV) (x28 : IV) (x3 : IV) (x15 : IV) (x0 : IV) (x50 : IV) (h51 : Hp) : Option (IV × Hp) :=
  (fun (j1_52 : IV → Hp → Option (IV × Hp)) => eqS EE 3 x50 (.fv (.int .i64 0)) fun x104 => condS x104 (loadA 3 x15 h51 fun x105 r106 => S85_165 r106 ih h51 x0 x105 x28 x3 j1_52) (j1_52 x50 h51)) fun x53 h54 => S85_161 ih x7 x28 x3 x53 h54 x15 x0
noncomputable def S85_167 (r148 : List Ref) (w149 : List Ref) (r139 : List Ref) (r136 : List Ref) (ih : Handler) (h147 : Hp) (x0 : IV) (x138 : IV) (x146 : IV) (j1_49 : IV → Hp → Option (IV × Hp)) : Option (IV × Hp) :=
  chkS [(r139, []), (r136, [])] r148 w149 (isoS [] false false ih 48 [x0, .fv (.int .i64 1), x138, x146] h147 fun x150 h151 r152 w153 => chkS [] r152 w153 (j1_49 x150 h151))
noncomputable def S85_168 (h44 : Hp) (x28 : IV) (r139 : List Ref) (r136 : List Ref) (ih : Handler) (x0 : IV) (x138 : IV) (j1_49 : IV → Hp → Option (IV × Hp)) : Option (IV × Hp) :=
  loadA 3 x28 h44 fun x140 r141 => chkS [(r139, []), (r136, [])] r141 [] (isoS [] false false ih 24 [.fv (.int .i64 11), .nils] h44 fun x142 h143 r144 w145 => chkS [(r141, []), (r139, []), (r136, [])] r144 w145 (isoS [] false false ih 67 [x140, .fv (.int .i64 0), x142] h143 fun x146 h147 r148 w149 => S85_167 r148 w149 r139 r136 ih h147 x0 x138 x146 j1_49))
noncomputable def S85_169 (h44 : Hp) (x134 : IV) (x28 : IV) (ih : Handler) (x0 : IV) (j1_49 : IV → Hp → Option (IV × Hp)) : Option (IV × Hp) :=
  load1 x134 h44 fun x135 r136 => chkS [] r136 [] (ixS 3 x135 (.fv (.int .i64 1)) fun x137 => loadA 3 x137 h44 fun x138 r139 => chkS [] r139 [] (S85_168 h44 x28 r139 r136 ih x0 x138 j1_49))
noncomputable def S85_170 (ih : Handler) (x7 : IV) (x28 : IV) (x3 : IV) (x15 : IV) (x0 : IV) (x48 : IV) (h44 : Hp) : Option (IV × Hp) :=
  (fun (j1_49 : IV → Hp → Option (IV × Hp)) => eqS EE 3 x48 (.fv (.int .i64 0)) fun x133 => condS x133 (faddrS 2 x3 fun x134 => S85_169 h44 x134 x28 ih x0 j1_49) (j1_49 x48 h44)) fun x50 h51 => S85_166 ih x7 x28 x3 x15 x0 x50 h51
noncomputable def S85_171 (r42 : List Ref) (r39 : List Ref) (w40 : List Ref) (r36 : List Ref) (ih : Handler) (h38 : Hp) (x37 : IV) (x41 : IV) (x7 : IV) (x28 : IV) (x3 : IV) (x15 : IV) (x0 : IV) : Option (IV × Hp) :=
  chkS [(r39, w40), (r36, [])] r42 [] (isoS [] false false ih 83 [x37, x41] h38 fun x43 h44 r45 w46 => chkS [] r45 w46 (extS 0 x43 fun _ => extS 1 x43 fun x48 => S85_170 ih x7 x28 x3 x15 x0 x48 h44))
noncomputable def S85_172 (h32 : Hp) (x15 : IV) (ih : Handler) (x0 : IV) (x28 : IV) (x7 : IV) (x3 : IV) : Option (IV × Hp) :=
  loadA 3 x15 h32 fun x35 r36 => chkS [] r36 [] (isoS [] false false ih 79 [x0, .fv (.int .i64 1), x35] h32 fun x37 h38 r39 w40 => chkS [] r39 w40 (loadA 3 x28 h38 fun x41 r42 => S85_171 r42 r39 w40 r36 ih h38 x37 x41 x7 x28 x3 x15 x0))
noncomputable def S85_173 (h19 : Hp) (x22 : IV) (x15 : IV) (ih : Handler) (x0 : IV) (x7 : IV) (x3 : IV) : Option (IV × Hp) :=
  load1 x22 h19 fun x23 _ => ixS 3 x23 (.fv (.int .i64 0)) fun x25 => loadA 3 x25 h19 fun x26 _ => newS 89131012 (.row [.fv (.int .i64 0), .fv (.int .i64 0), .nils] false) (.ptr (.own 89131012) 0) h19 fun x28 h29 _ _ => storeA 3 x28 x26 h29 fun h32 _ _ => S85_172 h32 x15 ih x0 x28 x7 x3
noncomputable def S85 (ih : Handler) (n : Nat) (x0 : IV) (x1 : IV) (h2 : Hp) : Option (IV × Hp) :=
  boxS 89128960 x1 h2 fun x3 h4 _ _ => newS 89128961 (.row [.fv (.int .i64 0), .fv (.int .i64 0), .nils] false) (.ptr (.own 89128961) 0) h4 fun x7 h8 _ _ => isoS [] false false ih 24 [.fv (.int .i64 10), .nils] h8 fun x11 h12 _ _ => newS 89129985 (.row [.fv (.int .i64 0), .fv (.int .i64 0), .nils] false) (.ptr (.own 89129985) 0) h12 fun x15 h16 _ _ => storeA 3 x15 x11 h16 fun h19 _ _ => faddrS 2 x3 fun x22 => S85_173 h19 x22 x15 ih x0 x7 x3
theorem S85_ok (ih : Handler) (n : Nat) (x0 : IV) (x1 : IV) (h2 : Hp) : funS EE ih ft.get n 85 [x0, x1] h2 = S85 ih n x0 x1 h2 := by kernel_rfl
end Idl
end Go.Proofs.Ytkfecngimlcfoaa

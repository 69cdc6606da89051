/-
  THE SHALLOW FORM OF THE SEAT'S FUNCTIONS, a part; each is what its code's shallow run is. Printed by a program of mine (gen-sh). No statement is proved here.
-/
import Derived.Test.YtaifgaidaglblaaTab
import Derived.Test.YtaifgaidaglblaaIdl31
set_option maxRecDepth 100000
set_option linter.unusedVariables false
namespace Go.Proofs.Ytaifgaidaglblaa
namespace Idl
/-! Function 74. -/
noncomputable def S74_74 (x15 : IV) (h2 : Hp) : Option (IV × Hp) :=
  faddrS 2 x15 fun x16 => load1 x16 h2 fun x17 _ => ixS 1 x17 (.fv (.int .i64 1)) fun x19 => load1 x19 h2 fun x20 _ => outS1 [x20] h2
noncomputable def S74_75 (h63 : Hp) (x60 : IV) (x62 : IV) (ih : Handler) (x0 : IV) (x1 : IV) : Option (IV × Hp) :=
  genS (pcBuildSlice EE 110 2 [(0, x60), (1, x62)]) 77602826 h63 fun x66 h67 r68 w69 => chkS [] r68 w69 (isoS [true, false, false, false] false false ih 81 [x0, x1, .fv (.int .i64 2), x66] h67 fun x70 h71 r72 w73 => chkS [] r72 w73 (outS1 [x70] h71))
noncomputable def S74_76 (x57 : IV) (h52 : Hp) (ih : Handler) (x0 : IV) (x26 : IV) (r58 : List Ref) (x1 : IV) : Option (IV × Hp) :=
  ixS 1 x57 (.fv (.int .i64 0)) fun x59 => load1 x59 h52 fun x60 r61 => chkS [] r61 [] (isoS [true, false] false false ih 80 [x0, x26] h52 fun x62 h63 r64 w65 => chkS [(r61, []), (r58, [])] r64 w65 (S74_75 h63 x60 x62 ih x0 x1))
noncomputable def S74_77 (r53 : List Ref) (w54 : List Ref) (x8 : IV) (h52 : Hp) (ih : Handler) (x0 : IV) (x26 : IV) (x1 : IV) : Option (IV × Hp) :=
  chkS [] r53 w54 (nilS x8 fun x55 => faddrS 2 x55 fun x56 => load1 x56 h52 fun x57 r58 => chkS [] r58 [] (S74_76 x57 h52 ih x0 x26 r58 x1))
noncomputable def S74_78 (r46 : List Ref) (r39 : List Ref) (r36 : List Ref) (h30 : Hp) (x38 : IV) (x45 : IV) (x26 : IV) (x8 : IV) (ih : Handler) (x0 : IV) (x1 : IV) : Option (IV × Hp) :=
  chkS [(r39, []), (r36, [])] r46 [] (genS (pcBuildSlice EE 110 4 [(0, .fv .nilp), (1, x38), (2, .fv .nilp), (3, x45)]) 77601804 h30 fun x47 h48 r49 w50 => chkS [] r49 w50 (faddrS 2 x26 fun x51 => store1 x51 x47 h48 fun h52 r53 w54 => S74_77 r53 w54 x8 h52 ih x0 x26 x1))
noncomputable def S74_79 (x40 : IV) (h30 : Hp) (r39 : List Ref) (r36 : List Ref) (x38 : IV) (x26 : IV) (x8 : IV) (ih : Handler) (x0 : IV) (x1 : IV) : Option (IV × Hp) :=
  faddrS 2 x40 fun x41 => load1 x41 h30 fun x42 r43 => chkS [(r39, []), (r36, [])] r43 [] (ixS 1 x42 (.fv (.int .i64 0)) fun x44 => load1 x44 h30 fun x45 r46 => S74_78 r46 r39 r36 h30 x38 x45 x26 x8 ih x0 x1)
noncomputable def S74_80 (r36 : List Ref) (x35 : IV) (h30 : Hp) (x8 : IV) (x26 : IV) (ih : Handler) (x0 : IV) (x1 : IV) : Option (IV × Hp) :=
  chkS [] r36 [] (ixS 1 x35 (.fv (.int .i64 1)) fun x37 => load1 x37 h30 fun x38 r39 => chkS [] r39 [] (nilS x8 fun x40 => S74_79 x40 h30 r39 r36 x38 x26 x8 ih x0 x1))
noncomputable def S74_81 (h2 : Hp) (x24 : IV) (x1 : IV) (x8 : IV) (ih : Handler) (x0 : IV) : Option (IV × Hp) :=
  newS 77600771 (.row [.fv (.int .i64 0), .fv (.int .i64 0), .nils, .fv (.int .i64 0), .fv (.int .i64 0), .nils, .fv (.nilp)] false) (.ptr (.own 77600771) 0) h2 fun x26 h27 _ _ => storeA 7 x26 x24 h27 fun h30 _ _ => nilS x1 fun x33 => faddrS 2 x33 fun x34 => load1 x34 h30 fun x35 r36 => S74_80 r36 x35 h30 x8 x26 ih x0 x1
noncomputable def S74_82 (x22 : IV) (x1 : IV) (h2 : Hp) (x8 : IV) (ih : Handler) (x0 : IV) : Option (IV × Hp) :=
  condS x22 (nilS x1 fun x23 => loadA 7 x23 h2 fun x24 _ => S74_81 h2 x24 x1 x8 ih x0) (outS1 [.fv .nilp] h2)
noncomputable def S74_83 (x10 : IV) (h2 : Hp) (x1 : IV) (x8 : IV) (ih : Handler) (x0 : IV) : Option (IV × Hp) :=
  faddrS 0 x10 fun x11 => load1 x11 h2 fun x12 _ => eqS EE 3 x12 (.fv (.int .i64 11)) fun x14 => condS x14 (nilS x1 fun x15 => S74_74 x15 h2) (eqS EE 3 x12 (.fv (.int .i64 12)) fun x22 => S74_82 x22 x1 h2 x8 ih x0)
noncomputable def S74 (ih : Handler) (n : Nat) (x0 : IV) (x1 : IV) (h2 : Hp) : Option (IV × Hp) :=
  nilS x1 fun x3 => faddrS 2 x3 fun x4 => load1 x4 h2 fun x5 _ => ixS 1 x5 (.fv (.int .i64 3)) fun x7 => load1 x7 h2 fun x8 _ => nilS x8 fun x10 => S74_83 x10 h2 x1 x8 ih x0
theorem S74_ok (ih : Handler) (n : Nat) (x0 : IV) (x1 : IV) (h2 : Hp) : funS EE ih ft.get n 74 [x0, x1] h2 = S74 ih n x0 x1 h2 := by kernel_rfl
/-! Function 75. -/
noncomputable def S75 (ih : Handler) (n : Nat) (x0 : IV) (x1 : IV) (h2 : Hp) : Option (IV × Hp) :=
  isoS [] false false ih 84 [x1, .fv (.int .i64 19)] h2 fun x3 h4 _ _ => outS1 [x3] h4
theorem S75_ok (ih : Handler) (n : Nat) (x0 : IV) (x1 : IV) (h2 : Hp) : funS EE ih ft.get n 75 [x0, x1] h2 = S75 ih n x0 x1 h2 := by kernel_rfl
/-! Function 76. -/
noncomputable def S76 (ih : Handler) (n : Nat) (x0 : IV) (x1 : IV) (h2 : Hp) : Option (IV × Hp) :=
  isoS [] false false ih 84 [x1, .fv (.int .i64 30)] h2 fun x3 h4 _ _ => outS1 [x3] h4
theorem S76_ok (ih : Handler) (n : Nat) (x0 : IV) (x1 : IV) (h2 : Hp) : funS EE ih ft.get n 76 [x0, x1] h2 = S76 ih n x0 x1 h2 := by kernel_rfl
/-! Function 77. -/
noncomputable def S77_53 (h44 : Hp) (x49 : IV) : Option (IV × Hp) :=
  store1 x49 (.fv (.int .i64 17)) h44 fun h50 _ _ => outS1 [] h50
noncomputable def S77_54 (x16 : IV) (x43 : IV) (x0 : IV) (h44 : Hp) : Option (IV × Hp) :=
  pickS x16 x43 (.fv (.bool false)) fun x47 => condS x47 (nilS x0 fun x48 => faddrS 3 x48 fun x49 => S77_53 h44 x49) (outS1 [] h44)
noncomputable def S77_55 (h9 : Hp) (x16 : IV) (x0 : IV) : Option (IV × Hp) :=
  guardS x16 true h9 (fun k17 => k17 x0 h9 [] []) fun x18 h19 _ _ => guardS x16 true h19 (fun k22 => nilS x18 fun x23 => k22 x23 h19 [] []) fun x24 h25 _ _ => guardS x16 true h25 (fun k28 => faddrS 3 x24 fun x29 => k28 x29 h25 [] []) fun x30 h31 _ _ => guardS x16 true h31 (fun k34 => load1 x30 h31 fun x35 r36 => k34 x35 h31 r36 []) fun x37 h38 _ _ => guardS x16 true h38 (fun k41 => eqS EE 37 x37 (.fv (.int .i64 0)) fun x42 => k41 x42 h38 [] []) fun x43 h44 _ _ => S77_54 x16 x43 x0 h44
noncomputable def S77_56 (h1 : Hp) (x8 : IV) (x6 : IV) (x0 : IV) : Option (IV × Hp) :=
  store1 x8 x6 h1 fun h9 _ _ => nilS x0 fun x12 => faddrS 1 x12 fun x13 => load1 x13 h9 fun x14 _ => ltS EE 3 x14 (.fv (.int .i64 0)) fun x16 => S77_55 h9 x16 x0
noncomputable def S77 (ih : Handler) (n : Nat) (x0 : IV) (h1 : Hp) : Option (IV × Hp) :=
  nilS x0 fun x2 => faddrS 1 x2 fun x3 => load1 x3 h1 fun x4 _ => subS EE 3 x4 (.fv (.int .i64 1)) fun x6 => nilS x0 fun x7 => faddrS 1 x7 fun x8 => S77_56 h1 x8 x6 x0
theorem S77_ok (ih : Handler) (n : Nat) (x0 : IV) (h1 : Hp) : funS EE ih ft.get n 77 [x0] h1 = S77 ih n x0 h1 := by kernel_rfl
/-! Function 78. -/
noncomputable def S78_27 (h5 : Hp) (x11 : IV) : Option (IV × Hp) :=
  load1 x11 h5 fun x12 _ => outS1 [x12] h5
noncomputable def S78_28 (x15 : IV) (h5 : Hp) (q3 : List IV → Hp → Option (IV × Hp)) (x14 : IV) : Option (IV × Hp) :=
  faddrS 1 x15 fun x16 => load1 x16 h5 fun x17 _ => q3 [x17, x14] h5
noncomputable def S78_29 (x9 : IV) (x6 : IV) (h5 : Hp) (x7 : IV) (q3 : List IV → Hp → Option (IV × Hp)) : Option (IV × Hp) :=
  condS x9 (nilS x6 fun x10 => faddrS 0 x10 fun x11 => S78_27 h5 x11) (subS EE 3 x7 (.fv (.int .i64 1)) fun x14 => nilS x6 fun x15 => S78_28 x15 h5 q3 x14)
noncomputable def S78_30 (x19 : IV) (h5 : Hp) : Option (IV × Hp) :=
  bldS [.fv (.int .i64 0), .fv (.int .i64 0), .nils, .fv (.int .i64 0), .fv (.int .i64 0), .nils, .fv (.nilp)] [(0, 1, .fv (.int .i64 1)), (1, 1, x19)] fun x20 => boxS 81795075 x20 h5 fun x21 h22 _ _ => outS1 [x21] h22
noncomputable def S78_31 (l4 : List IV) (h5 : Hp) (q3 : List IV → Hp → Option (IV × Hp)) : Option (IV × Hp) :=
  uncS l4 fun x6 l25 => uncS l25 fun x7 _ => neS EE 108 x6 (.fv .nilp) fun x8 => condS x8 (eqS EE 3 x7 (.fv (.int .i64 0)) fun x9 => S78_29 x9 x6 h5 x7 q3) (subS EE 3 (.fv (.int .i64 (-1))) x7 fun x19 => S78_30 x19 h5)
noncomputable def S78 (ih : Handler) (n : Nat) (x0 : IV) (x1 : IV) (h2 : Hp) : Option (IV × Hp) :=
  loopS n (fun q3 l4 h5 => S78_31 l4 h5 q3) [x0, x1] h2
theorem S78_ok (ih : Handler) (n : Nat) (x0 : IV) (x1 : IV) (h2 : Hp) : funS EE ih ft.get n 78 [x0, x1] h2 = S78 ih n x0 x1 h2 := by kernel_rfl
/-! Function 79. -/
noncomputable def S79 (ih : Handler) (n : Nat) (x0 : IV) (x1 : IV) (h2 : Hp) : Option (IV × Hp) :=
  dynS EE ih (.fv (.func (.func 85) [] [])) [x0, x1] h2 fun x3 h4 _ _ => outS1 [x3] h4
theorem S79_ok (ih : Handler) (n : Nat) (x0 : IV) (x1 : IV) (h2 : Hp) : funS EE ih ft.get n 79 [x0, x1] h2 = S79 ih n x0 x1 h2 := by kernel_rfl
/-! Function 80. -/
noncomputable def S80_126 (h113 : Hp) (x122 : IV) (j0_104 : Hp → Option (IV × Hp)) : Option (IV × Hp) :=
  store1 x122 (.fv (.int .i64 17)) h113 fun h123 _ _ => j0_104 h123
noncomputable def S80_127 (x120 : IV) (x0 : IV) (h113 : Hp) (j0_104 : Hp → Option (IV × Hp)) : Option (IV × Hp) :=
  condS x120 (nilS x0 fun x121 => faddrS 3 x121 fun x122 => S80_126 h113 x122 j0_104) (j0_104 h113)
noncomputable def S80_128 (h100 : Hp) (x112 : IV) (x110 : IV) (x0 : IV) (j0_104 : Hp → Option (IV × Hp)) : Option (IV × Hp) :=
  store1 x112 x110 h100 fun h113 _ _ => nilS x0 fun x116 => faddrS 0 x116 fun x117 => load1 x117 h113 fun x118 _ => ltS EE 3 x118 (.fv (.int .i64 0)) fun x120 => S80_127 x120 x0 h113 j0_104
noncomputable def S80_129 (x106 : IV) (h100 : Hp) (x0 : IV) (j0_104 : Hp → Option (IV × Hp)) : Option (IV × Hp) :=
  faddrS 0 x106 fun x107 => load1 x107 h100 fun x108 _ => subS EE 3 x108 (.fv (.int .i64 1)) fun x110 => nilS x0 fun x111 => faddrS 0 x111 fun x112 => S80_128 h100 x112 x110 x0 j0_104
noncomputable def S80_130 (x103 : IV) (h100 : Hp) (x1 : IV) (x68 : IV) (x0 : IV) : Option (IV × Hp) :=
  condS x103 (outS1 [x1] h100) ((fun (j0_104 : Hp → Option (IV × Hp)) => nilS x0 fun x106 => S80_129 x106 h100 x0 j0_104) fun h105 => outS1 [x68] h105)
noncomputable def S80_131 (h75 : Hp) (x72 : IV) (x74 : IV) (x1 : IV) (x68 : IV) (x0 : IV) : Option (IV × Hp) :=
  guardS x72 false h75 (fun k78 => nilS x74 fun x79 => k78 x79 h75 [] []) fun x80 h81 _ _ => guardS x72 false h81 (fun k84 => faddrS 3 x80 fun x85 => k84 x85 h81 [] []) fun x86 h87 _ _ => guardS x72 false h87 (fun k90 => load1 x86 h87 fun x91 r92 => k90 x91 h87 r92 []) fun x93 h94 _ _ => guardS x72 false h94 (fun k97 => neS EE 37 x93 (.fv (.int .i64 0)) fun x98 => k97 x98 h94 [] []) fun x99 h100 _ _ => pickS x72 (.fv (.bool true)) x99 fun x103 => S80_130 x103 h100 x1 x68 x0
noncomputable def S80_132 (x17 : IV) (h57 : Hp) (ih : Handler) (x1 : IV) (x0 : IV) : Option (IV × Hp) :=
  faddrS 0 x17 fun x65 => load1 x65 h57 fun x66 _ => dynS EE ih x66 [x1] h57 fun x68 h69 _ _ => eqS EE 98 x68 (.fv .nilp) fun x72 => guardS x72 false h69 (fun k73 => k73 x0 h69 [] []) fun x74 h75 _ _ => S80_131 h75 x72 x74 x1 x68 x0
noncomputable def S80_133 (x0 : IV) (h57 : Hp) (x1 : IV) (x17 : IV) (ih : Handler) : Option (IV × Hp) :=
  nilS x0 fun x60 => faddrS 3 x60 fun x61 => load1 x61 h57 fun x62 _ => neS EE 37 x62 (.fv (.int .i64 0)) fun x64 => condS x64 (outS1 [x1] h57) (S80_132 x17 h57 ih x1 x0)
noncomputable def S80_134 (h46 : Hp) (x24 : IV) (x45 : IV) (x1 : IV) (ih : Handler) (x0 : IV) (x17 : IV) : Option (IV × Hp) :=
  guardS x24 false h46 (fun k49 => neS EE 37 x45 (.fv (.int .i64 0)) fun x50 => k49 x50 h46 [] []) fun x51 h52 _ _ => pickS x24 (.fv (.bool true)) x51 fun x55 => condS x55 (outS1 [x1] h52) (isoS [true] false false ih 77 [x0] h52 fun _ h57 _ _ => S80_133 x0 h57 x1 x17 ih)
noncomputable def S80_135 (x16 : IV) (h21 : Hp) (x0 : IV) (x1 : IV) (ih : Handler) (x17 : IV) : Option (IV × Hp) :=
  optS (unR .not x16) fun x24 => guardS x24 false h21 (fun k25 => k25 x0 h21 [] []) fun x26 h27 _ _ => guardS x24 false h27 (fun k30 => nilS x26 fun x31 => k30 x31 h27 [] []) fun x32 h33 _ _ => guardS x24 false h33 (fun k36 => faddrS 3 x32 fun x37 => k36 x37 h33 [] []) fun x38 h39 _ _ => guardS x24 false h39 (fun k42 => load1 x38 h39 fun x43 r44 => k42 x43 h39 r44 []) fun x45 h46 _ _ => S80_134 h46 x24 x45 x1 ih x0 x17
noncomputable def S80_136 (x11 : IV) (h12 : Hp) (r13 : List Ref) (w14 : List Ref) (r10 : List Ref) (r6 : List Ref) (x15 : IV) (x0 : IV) (x1 : IV) (ih : Handler) : Option (IV × Hp) :=
  extS 1 x11 fun x16 => newS 83887116 (.row [.fv (.nilf)] false) (.ptr (.own 83887116) 0) h12 fun x17 h18 r19 w20 => chkS [(r13, w14), (r10, []), (r6, [])] r19 w20 (store1 x17 x15 h18 fun h21 r22 w23 => chkS [] r22 w23 (S80_135 x16 h21 x0 x1 ih x17))
noncomputable def S80_137 (h2 : Hp) (x8 : IV) (r6 : List Ref) (x5 : IV) (x0 : IV) (x1 : IV) (ih : Handler) : Option (IV × Hp) :=
  load1 x8 h2 fun x9 r10 => chkS [(r6, [])] r10 [] (genS (pcLookup EE 100 x5 x9 true) 83887112 h2 fun x11 h12 r13 w14 => chkS [] r13 w14 (extS 0 x11 fun x15 => S80_136 x11 h12 r13 w14 r10 r6 x15 x0 x1 ih))
noncomputable def S80 (ih : Handler) (n : Nat) (x0 : IV) (x1 : IV) (h2 : Hp) : Option (IV × Hp) :=
  nilS x0 fun x3 => faddrS 4 x3 fun x4 => load1 x4 h2 fun x5 r6 => chkS [] r6 [] (nilS x1 fun x7 => faddrS 0 x7 fun x8 => S80_137 h2 x8 r6 x5 x0 x1 ih)
theorem S80_ok (ih : Handler) (n : Nat) (x0 : IV) (x1 : IV) (h2 : Hp) : funS EE ih ft.get n 80 [x0, x1] h2 = S80 ih n x0 x1 h2 := by kernel_rfl
/-! Function 81. -/
noncomputable def S81_25 (x16 : IV) (x2 : IV) (h10 : Hp) (r11 : List Ref) (w12 : List Ref) (r8 : List Ref) (ih : Handler) (x0 : IV) (x9 : IV) : Option (IV × Hp) :=
  ixS 3 x16 x2 fun x18 => loadA 3 x18 h10 fun x19 r20 => chkS [(r11, w12), (r8, [])] r20 [] (isoS [true, false, false] false false ih 65 [x0, x9, x19] h10 fun x21 h22 r23 w24 => chkS [] r23 w24 (outS1 [x21] h22))
noncomputable def S81_26 (x1 : IV) (h10 : Hp) (r11 : List Ref) (w12 : List Ref) (r8 : List Ref) (x2 : IV) (ih : Handler) (x0 : IV) (x9 : IV) : Option (IV × Hp) :=
  nilS x1 fun x13 => faddrS 3 x13 fun x14 => faddrS 2 x14 fun x15 => load1 x15 h10 fun x16 r17 => chkS [(r11, w12), (r8, [])] r17 [] (S81_25 x16 x2 h10 r11 w12 r8 ih x0 x9)
noncomputable def S81 (ih : Handler) (n : Nat) (x0 : IV) (x1 : IV) (x2 : IV) (x3 : IV) (h4 : Hp) : Option (IV × Hp) :=
  nilS x1 fun x5 => faddrS 6 x5 fun x6 => load1 x6 h4 fun x7 r8 => chkS [] r8 [] (isoS [] false false ih 86 [x7, x3] h4 fun x9 h10 r11 w12 => chkS [] r11 w12 (S81_26 x1 h10 r11 w12 r8 x2 ih x0 x9))
theorem S81_ok (ih : Handler) (n : Nat) (x0 : IV) (x1 : IV) (x2 : IV) (x3 : IV) (h4 : Hp) : funS EE ih ft.get n 81 [x0, x1, x2, x3] h4 = S81 ih n x0 x1 x2 x3 h4 := by kernel_rfl
/-! Function 82. -/
noncomputable def S82_158 (h139 : Hp) (x6 : IV) : Option (IV × Hp) :=
  cellS true 3 x6 h139 fun x142 => outS1 [x142] h139
noncomputable def S82_159 (h154 : Hp) (x6 : IV) : Option (IV × Hp) :=
  cellS true 3 x6 h154 fun x157 => outS1 [x157] h154
noncomputable def S82_160 (x144 : IV) (h133 : Hp) (ih : Handler) (x6 : IV) : Option (IV × Hp) :=
  ixS 3 x144 (.fv (.int .i64 0)) fun x146 => loadA 3 x146 h133 fun x147 _ => bldS [.fv (.int .i64 0), .fv (.int .i64 0), .nils] [(0, 1, .fv (.int .i64 11))] fun x149 => isoS [] false false ih 88 [x147, .fv (.int .i64 0), x149] h133 fun x150 h151 _ _ => storeA 3 x6 x150 h151 fun h154 _ _ => S82_159 h154 x6
noncomputable def S82_161 (x136 : IV) (h133 : Hp) (x2 : IV) (x6 : IV) (x16 : IV) (ih : Handler) : Option (IV × Hp) :=
  condS x136 (loadA 3 x2 h133 fun x137 _ => storeA 3 x6 x137 h133 fun h139 _ _ => S82_158 h139 x6) (faddrS 2 x16 fun x143 => load1 x143 h133 fun x144 _ => S82_160 x144 h133 ih x6)
noncomputable def S82_162 (h108 : Hp) (x104 : IV) (x107 : IV) (ih : Handler) (x2 : IV) (x6 : IV) (x16 : IV) : Option (IV × Hp) :=
  guardS x104 false h108 (fun k111 => load1 x107 h108 fun x112 r113 => k111 x112 h108 r113 []) fun x114 h115 _ _ => guardS x104 false h115 (fun k118 => ixS 3 x114 (.fv (.int .i64 0)) fun x119 => k118 x119 h115 [] []) fun x120 h121 _ _ => guardS x104 false h121 (fun k124 => loadA 3 x120 h121 fun x125 r126 => k124 x125 h121 r126 []) fun x127 h128 _ _ => guardS x104 false h128 (fun k131 => isoS [] false false ih 87 [x127, .fv (.int .i64 0)] h128 k131) fun x132 h133 _ _ => pickS x104 (.fv (.bool true)) x132 fun x136 => S82_161 x136 h133 x2 x6 x16 ih
noncomputable def S82_163 (h82 : Hp) (x65 : IV) (x81 : IV) (x16 : IV) (ih : Handler) (x2 : IV) (x6 : IV) : Option (IV × Hp) :=
  guardS x65 false h82 (fun k85 => faddrS 1 x81 fun x86 => k85 x86 h82 [] []) fun x87 h88 _ _ => guardS x65 false h88 (fun k91 => load1 x87 h88 fun x92 r93 => k91 x92 h88 r93 []) fun x94 h95 _ _ => guardS x65 false h95 (fun k98 => neS EE 3 x94 (.fv (.int .i64 0)) fun x99 => k98 x99 h95 [] []) fun x100 h101 _ _ => pickS x65 (.fv (.bool true)) x100 fun x104 => guardS x104 false h101 (fun k105 => faddrS 2 x16 fun x106 => k105 x106 h101 [] []) fun x107 h108 _ _ => S82_162 h108 x104 x107 ih x2 x6 x16
noncomputable def S82_164 (h56 : Hp) (x26 : IV) (x55 : IV) (x16 : IV) (ih : Handler) (x2 : IV) (x6 : IV) : Option (IV × Hp) :=
  guardS x26 false h56 (fun k59 => neS EE 3 x55 (.fv (.int .i64 1)) fun x60 => k59 x60 h56 [] []) fun x61 h62 _ _ => pickS x26 (.fv (.bool true)) x61 fun x65 => guardS x65 false h62 (fun k66 => faddrS 2 x16 fun x67 => k66 x67 h62 [] []) fun x68 h69 _ _ => guardS x65 false h69 (fun k72 => load1 x68 h69 fun x73 r74 => k72 x73 h69 r74 []) fun x75 h76 _ _ => guardS x65 false h76 (fun k79 => ixS 3 x75 (.fv (.int .i64 1)) fun x80 => k79 x80 h76 [] []) fun x81 h82 _ _ => S82_163 h82 x65 x81 x16 ih x2 x6
noncomputable def S82_165 (h20 : Hp) (x26 : IV) (x16 : IV) (ih : Handler) (x2 : IV) (x6 : IV) : Option (IV × Hp) :=
  guardS x26 false h20 (fun k27 => faddrS 2 x16 fun x28 => k27 x28 h20 [] []) fun x29 h30 _ _ => guardS x26 false h30 (fun k33 => load1 x29 h30 fun x34 r35 => k33 x34 h30 r35 []) fun x36 h37 _ _ => guardS x26 false h37 (fun k40 => ixS 3 x36 (.fv (.int .i64 1)) fun x41 => k40 x41 h37 [] []) fun x42 h43 _ _ => guardS x26 false h43 (fun k46 => faddrS 0 x42 fun x47 => k46 x47 h43 [] []) fun x48 h49 _ _ => guardS x26 false h49 (fun k52 => load1 x48 h49 fun x53 r54 => k52 x53 h49 r54 []) fun x55 h56 _ _ => S82_164 h56 x26 x55 x16 ih x2 x6
noncomputable def S82_166 (h7 : Hp) (x14 : IV) (ih : Handler) (x2 : IV) (x6 : IV) : Option (IV × Hp) :=
  newS 85984260 (.row [.fv (.int .i64 0), .fv (.int .i64 0), .nils] false) (.ptr (.own 85984260) 0) h7 fun x16 h17 _ _ => storeA 3 x16 x14 h17 fun h20 _ _ => faddrS 0 x16 fun x23 => load1 x23 h20 fun x24 _ => neS EE 3 x24 (.fv (.int .i64 5)) fun x26 => S82_165 h20 x26 x16 ih x2 x6
noncomputable def S82 (ih : Handler) (n : Nat) (x0 : IV) (h1 : Hp) : Option (IV × Hp) :=
  boxS 85983232 x0 h1 fun x2 h3 _ _ => newS 85983233 (.row [.fv (.int .i64 0), .fv (.int .i64 0), .nils] false) (.ptr (.own 85983233) 0) h3 fun x6 h7 _ _ => faddrS 2 x2 fun x10 => load1 x10 h7 fun x11 _ => ixS 3 x11 (.fv (.int .i64 1)) fun x13 => loadA 3 x13 h7 fun x14 _ => S82_166 h7 x14 ih x2 x6
theorem S82_ok (ih : Handler) (n : Nat) (x0 : IV) (h1 : Hp) : funS EE ih ft.get n 82 [x0] h1 = S82 ih n x0 h1 := by kernel_rfl
/-! Function 83. -/
noncomputable def S83_140 (h126 : Hp) (x6 : IV) : Option (IV × Hp) :=
  cellS true 3 x6 h126 fun x129 => outS1 [x129] h126
noncomputable def S83_141 (x131 : IV) (h120 : Hp) (x6 : IV) : Option (IV × Hp) :=
  ixS 3 x131 (.fv (.int .i64 0)) fun x133 => loadA 3 x133 h120 fun x134 _ => storeA 3 x6 x134 h120 fun h136 _ _ => cellS true 3 x6 h136 fun x139 => outS1 [x139] h136
noncomputable def S83_142 (x59 : IV) (x119 : IV) (h120 : Hp) (x2 : IV) (x6 : IV) (x22 : IV) : Option (IV × Hp) :=
  pickS x59 (.fv (.bool true)) x119 fun x123 => condS x123 (loadA 3 x2 h120 fun x124 _ => storeA 3 x6 x124 h120 fun h126 _ _ => S83_140 h126 x6) (faddrS 2 x22 fun x130 => load1 x130 h120 fun x131 _ => S83_141 x131 h120 x6)
noncomputable def S83_143 (h102 : Hp) (x59 : IV) (x101 : IV) (r84 : List Ref) (w85 : List Ref) (r71 : List Ref) (w72 : List Ref) (ih : Handler) (x82 : IV) (x2 : IV) (x6 : IV) (x22 : IV) : Option (IV × Hp) :=
  guardS x59 false h102 (fun k105 => loadA 3 x101 h102 fun x106 r107 => k105 x106 h102 r107 []) fun x108 h109 r110 w111 => chkS [(r84, w85), (r71, w72)] r110 w111 (guardS x59 false h109 (fun k112 => isoS [] false false ih 57 [x82, x108] h109 k112) fun x113 h114 r115 w116 => chkS [] r115 w116 (guardS x59 false h114 (fun k117 => optS (unR .not x113) fun x118 => k117 x118 h114 [] []) fun x119 h120 _ _ => S83_142 x59 x119 h120 x2 x6 x22))
noncomputable def S83_144 (r84 : List Ref) (w85 : List Ref) (h83 : Hp) (x59 : IV) (x26 : IV) (r71 : List Ref) (w72 : List Ref) (ih : Handler) (x82 : IV) (x2 : IV) (x6 : IV) (x22 : IV) : Option (IV × Hp) :=
  chkS [] r84 w85 (guardS x59 false h83 (fun k86 => faddrS 2 x26 fun x87 => k86 x87 h83 [] []) fun x88 h89 _ _ => guardS x59 false h89 (fun k92 => load1 x88 h89 fun x93 r94 => k92 x93 h89 r94 []) fun x95 h96 r97 w98 => chkS [(r84, w85), (r71, w72)] r97 w98 (guardS x59 false h96 (fun k99 => ixS 3 x95 (.fv (.int .i64 0)) fun x100 => k99 x100 h96 [] []) fun x101 h102 _ _ => S83_143 h102 x59 x101 r84 w85 r71 w72 ih x82 x2 x6 x22))
noncomputable def S83_145 (h56 : Hp) (x59 : IV) (x22 : IV) (x26 : IV) (ih : Handler) (x2 : IV) (x6 : IV) : Option (IV × Hp) :=
  guardS x59 false h56 (fun k60 => faddrS 2 x22 fun x61 => k60 x61 h56 [] []) fun x62 h63 _ _ => guardS x59 false h63 (fun k66 => load1 x62 h63 fun x67 r68 => k66 x67 h63 r68 []) fun x69 h70 r71 w72 => chkS [] r71 w72 (guardS x59 false h70 (fun k73 => ixS 3 x69 (.fv (.int .i64 0)) fun x74 => k73 x74 h70 [] []) fun x75 h76 _ _ => guardS x59 false h76 (fun k79 => loadA 3 x75 h76 fun x80 r81 => k79 x80 h76 r81 []) fun x82 h83 r84 w85 => S83_144 r84 w85 h83 x59 x26 r71 w72 ih x82 x2 x6 x22)
noncomputable def S83_146 (h33 : Hp) (x39 : IV) (x26 : IV) (x22 : IV) (ih : Handler) (x2 : IV) (x6 : IV) : Option (IV × Hp) :=
  guardS x39 false h33 (fun k40 => faddrS 0 x26 fun x41 => k40 x41 h33 [] []) fun x42 h43 _ _ => guardS x39 false h43 (fun k46 => load1 x42 h43 fun x47 r48 => k46 x47 h43 r48 []) fun x49 h50 r51 w52 => chkS [] r51 w52 (guardS x39 false h50 (fun k53 => neS EE 3 x49 (.fv (.int .i64 9)) fun x54 => k53 x54 h50 [] []) fun x55 h56 _ _ => pickS x39 (.fv (.bool true)) x55 fun x59 => S83_145 h56 x59 x22 x26 ih x2 x6)
noncomputable def S83_147 (r34 : List Ref) (w35 : List Ref) (x22 : IV) (h33 : Hp) (x26 : IV) (ih : Handler) (x2 : IV) (x6 : IV) : Option (IV × Hp) :=
  chkS [] r34 w35 (faddrS 0 x22 fun x36 => load1 x36 h33 fun x37 r38 => chkS [] r38 [] (neS EE 3 x37 (.fv (.int .i64 8)) fun x39 => S83_146 h33 x39 x26 x22 ih x2 x6))
noncomputable def S83_148 (h23 : Hp) (r24 : List Ref) (w25 : List Ref) (r21 : List Ref) (r18 : List Ref) (r15 : List Ref) (r12 : List Ref) (x22 : IV) (x14 : IV) (x20 : IV) (ih : Handler) (x2 : IV) (x6 : IV) : Option (IV × Hp) :=
  newS 87032841 (.row [.fv (.int .i64 0), .fv (.int .i64 0), .nils] false) (.ptr (.own 87032841) 0) h23 fun x26 h27 r28 w29 => chkS [(r24, w25), (r21, []), (r18, []), (r15, []), (r12, [])] r28 w29 (storeA 3 x22 x14 h27 fun h30 r31 w32 => chkS [(r21, []), (r18, [])] r31 w32 (storeA 3 x26 x20 h30 fun h33 r34 w35 => S83_147 r34 w35 x22 h33 x26 ih x2 x6))
noncomputable def S83_149 (x17 : IV) (h7 : Hp) (r15 : List Ref) (r12 : List Ref) (r18 : List Ref) (x14 : IV) (ih : Handler) (x2 : IV) (x6 : IV) : Option (IV × Hp) :=
  ixS 3 x17 (.fv (.int .i64 2)) fun x19 => loadA 3 x19 h7 fun x20 r21 => chkS [(r15, []), (r12, [])] r21 [] (newS 87032840 (.row [.fv (.int .i64 0), .fv (.int .i64 0), .nils] false) (.ptr (.own 87032840) 0) h7 fun x22 h23 r24 w25 => chkS [(r21, []), (r18, []), (r15, []), (r12, [])] r24 w25 (S83_148 h23 r24 w25 r21 r18 r15 r12 x22 x14 x20 ih x2 x6))
noncomputable def S83_150 (h7 : Hp) (x13 : IV) (x2 : IV) (r12 : List Ref) (ih : Handler) (x6 : IV) : Option (IV × Hp) :=
  loadA 3 x13 h7 fun x14 r15 => chkS [] r15 [] (faddrS 2 x2 fun x16 => load1 x16 h7 fun x17 r18 => chkS [(r15, []), (r12, [])] r18 [] (S83_149 x17 h7 r15 r12 r18 x14 ih x2 x6))
noncomputable def S83 (ih : Handler) (n : Nat) (x0 : IV) (h1 : Hp) : Option (IV × Hp) :=
  boxS 87031808 x0 h1 fun x2 h3 _ _ => newS 87031809 (.row [.fv (.int .i64 0), .fv (.int .i64 0), .nils] false) (.ptr (.own 87031809) 0) h3 fun x6 h7 _ _ => faddrS 2 x2 fun x10 => load1 x10 h7 fun x11 r12 => chkS [] r12 [] (ixS 3 x11 (.fv (.int .i64 1)) fun x13 => S83_150 h7 x13 x2 r12 ih x6)
theorem S83_ok (ih : Handler) (n : Nat) (x0 : IV) (h1 : Hp) : funS EE ih ft.get n 83 [x0] h1 = S83 ih n x0 h1 := by kernel_rfl
/-! Function 84. -/
noncomputable def S84_29 (x22 : IV) (h2 : Hp) : Option (IV × Hp) :=
  faddrS 2 x22 fun x23 => load1 x23 h2 fun x24 _ => ixS 1 x24 (.fv (.int .i64 0)) fun x26 => load1 x26 h2 fun x27 _ => outS1 [x27] h2
noncomputable def S84_30 (x15 : IV) (h2 : Hp) : Option (IV × Hp) :=
  faddrS 2 x15 fun x16 => load1 x16 h2 fun x17 _ => ixS 1 x17 (.fv (.int .i64 0)) fun x19 => load1 x19 h2 fun x20 _ => nilS x20 fun x22 => S84_29 x22 h2
noncomputable def S84_31 (x10 : IV) (h2 : Hp) (x1 : IV) (x0 : IV) : Option (IV × Hp) :=
  faddrS 0 x10 fun x11 => load1 x11 h2 fun x12 _ => neS EE 3 x12 x1 fun x14 => condS x14 (outS1 [.fv .nilp] h2) (nilS x0 fun x15 => S84_30 x15 h2)
noncomputable def S84 (ih : Handler) (n : Nat) (x0 : IV) (x1 : IV) (h2 : Hp) : Option (IV × Hp) :=
  nilS x0 fun x3 => faddrS 2 x3 fun x4 => load1 x4 h2 fun x5 _ => ixS 1 x5 (.fv (.int .i64 0)) fun x7 => load1 x7 h2 fun x8 _ => nilS x8 fun x10 => S84_31 x10 h2 x1 x0
theorem S84_ok (ih : Handler) (n : Nat) (x0 : IV) (x1 : IV) (h2 : Hp) : funS EE ih ft.get n 84 [x0, x1] h2 = S84 ih n x0 x1 h2 := by kernel_rfl
/-! Function 85. -/
noncomputable def S85_18 (x1 : IV) (h7 : Hp) (j0_3 : Hp → Option (IV × Hp)) : Option (IV × Hp) :=
  eqS EE 3 x1 (.fv (.int .i64 0)) fun x10 => condS x10 (outS1 [.fv (.int .i64 1)] h7) (eqS EE 3 x1 (.fv (.int .i64 2)) fun x11 => condS x11 (outS1 [.fv (.int .i64 2)] h7) (j0_3 h7))
noncomputable def S85_19 (x6 : IV) (x1 : IV) (h7 : Hp) (j0_3 : Hp → Option (IV × Hp)) (x0 : IV) : Option (IV × Hp) :=
  condS x6 (eqS EE 3 x1 (.fv (.int .i64 1)) fun x8 => condS x8 (outS1 [.fv (.int .i64 1)] h7) (j0_3 h7)) (eqS EE 3 x0 (.fv (.int .i64 13)) fun x9 => condS x9 (S85_18 x1 h7 j0_3) (j0_3 h7))
noncomputable def S85_20 (x0 : IV) (j1_5 : IV → Hp → Option (IV × Hp)) (h2 : Hp) : Option (IV × Hp) :=
  eqS EE 3 x0 (.fv (.int .i64 29)) fun x17 => j1_5 x17 h2
noncomputable def S85_21 (x0 : IV) (j1_5 : IV → Hp → Option (IV × Hp)) (h2 : Hp) : Option (IV × Hp) :=
  eqS EE 3 x0 (.fv (.int .i64 20)) fun x15 => condS x15 (j1_5 x15 h2) (eqS EE 3 x0 (.fv (.int .i64 28)) fun x16 => condS x16 (j1_5 x16 h2) (S85_20 x0 j1_5 h2))
noncomputable def S85_22 (x13 : IV) (j1_5 : IV → Hp → Option (IV × Hp)) (h2 : Hp) (x0 : IV) : Option (IV × Hp) :=
  condS x13 (j1_5 x13 h2) (eqS EE 3 x0 (.fv (.int .i64 6)) fun x14 => condS x14 (j1_5 x14 h2) (S85_21 x0 j1_5 h2))
noncomputable def S85 (ih : Handler) (n : Nat) (x0 : IV) (x1 : IV) (h2 : Hp) : Option (IV × Hp) :=
  (fun (j0_3 : Hp → Option (IV × Hp)) => (fun (j1_5 : IV → Hp → Option (IV × Hp)) => eqS EE 3 x0 (.fv (.int .i64 3)) fun x12 => condS x12 (j1_5 x12 h2) (eqS EE 3 x0 (.fv (.int .i64 4)) fun x13 => S85_22 x13 j1_5 h2 x0)) fun x6 h7 => S85_19 x6 x1 h7 j0_3 x0) fun h4 => outS1 [.fv (.int .i64 0)] h4
theorem S85_ok (ih : Handler) (n : Nat) (x0 : IV) (x1 : IV) (h2 : Hp) : funS EE ih ft.get n 85 [x0, x1] h2 = S85 ih n x0 x1 h2 := by kernel_rfl
/-! Function 86. -/
noncomputable def S86_27 (x13 : IV) (x7 : IV) (h6 : Hp) (x10 : IV) (h2 : Hp) (x8 : IV) (x9 : IV) (q4 : List IV → Hp → Option (IV × Hp)) : Option (IV × Hp) :=
  bldS [.fv (.nilp), .fv (.nilp)] [(0, 1, x13), (1, 1, x7)] fun x15 => fzS (pcBox true 90181635 x15) 90181635 x15 h6 fun x16 h17 _ _ => addS EE 3 x10 (.fv (.int .i64 1)) fun x20 => dropS (h2.own.map (·.1)) [90181635] [x16, x8, x9, x20] h17 fun h21 => q4 [x16, x8, x9, x20] h21
noncomputable def S86_28 (x11 : IV) (x8 : IV) (x10 : IV) (h6 : Hp) (x7 : IV) (h2 : Hp) (x9 : IV) (q4 : List IV → Hp → Option (IV × Hp)) : Option (IV × Hp) :=
  condS x11 (ixS 1 x8 x10 fun x12 => load1 x12 h6 fun x13 _ => S86_27 x13 x7 h6 x10 h2 x8 x9 q4) (outS1 [x7] h6)
noncomputable def S86_29 (l5 : List IV) (h6 : Hp) (h2 : Hp) (q4 : List IV → Hp → Option (IV × Hp)) : Option (IV × Hp) :=
  uncS l5 fun x7 l22 => uncS l22 fun x8 l23 => uncS l23 fun x9 l24 => uncS l24 fun x10 _ => ltS EE 3 x10 x9 fun x11 => S86_28 x11 x8 x10 h6 x7 h2 x9 q4
noncomputable def S86 (ih : Handler) (n : Nat) (x0 : IV) (x1 : IV) (h2 : Hp) : Option (IV × Hp) :=
  lenS x1 fun x3 => dropS (h2.own.map (·.1)) [90181635] [x0, x1, x3, .fv (.int .i64 0)] h2 fun h26 => loopS n (fun q4 l5 h6 => S86_29 l5 h6 h2 q4) [x0, x1, x3, .fv (.int .i64 0)] h26
theorem S86_ok (ih : Handler) (n : Nat) (x0 : IV) (x1 : IV) (h2 : Hp) : funS EE ih ft.get n 86 [x0, x1] h2 = S86 ih n x0 x1 h2 := by kernel_rfl
/-! Function 87. -/
noncomputable def S87 (ih : Handler) (n : Nat) (x0 : IV) (x1 : IV) (h2 : Hp) : Option (IV × Hp) :=
  boxS 91226112 x0 h2 fun x3 h4 _ _ => boxS 91226113 x1 h4 fun x7 h8 _ _ => loadA 3 x3 h8 fun x11 _ => genS (val (mkFunc (.func 90) [] [x7])) 91227137 h8 fun x13 h14 _ _ => isoS [] false false ih 89 [x11, .fv (.int .i64 0), x13] h14 fun x17 h18 _ _ => outS1 [x17] h18
theorem S87_ok (ih : Handler) (n : Nat) (x0 : IV) (x1 : IV) (h2 : Hp) : funS EE ih ft.get n 87 [x0, x1] h2 = S87 ih n x0 x1 h2 := by kernel_rfl
/-! Function 88. -/
noncomputable def S88_34 (ih : Handler) (h23 : Hp) (x20 : IV) (x22 : IV) (x16 : IV) : Option (IV × Hp) :=
  isoS [] false false ih 91 [x20, .fv (.int .i64 0), x22] h23 fun x26 h27 _ _ => storeA 3 x16 x26 h27 fun h30 _ _ => cellS true 3 x16 h30 fun x33 => outS1 [x33] h30
noncomputable def S88 (ih : Handler) (n : Nat) (x0 : IV) (x1 : IV) (x2 : IV) (h3 : Hp) : Option (IV × Hp) :=
  boxS 92274688 x0 h3 fun x4 h5 _ _ => boxS 92274689 x1 h5 fun x8 h9 _ _ => boxS 92274690 x2 h9 fun x12 h13 _ _ => newS 92274691 (.row [.fv (.int .i64 0), .fv (.int .i64 0), .nils] false) (.ptr (.own 92274691) 0) h13 fun x16 h17 _ _ => loadA 3 x4 h17 fun x20 _ => genS (val (mkFunc (.func 92) [] [x8, x12])) 92275713 h17 fun x22 h23 _ _ => S88_34 ih h23 x20 x22 x16
theorem S88_ok (ih : Handler) (n : Nat) (x0 : IV) (x1 : IV) (x2 : IV) (h3 : Hp) : funS EE ih ft.get n 88 [x0, x1, x2] h3 = S88 ih n x0 x1 x2 h3 := by kernel_rfl
/-! Function 89. -/
noncomputable def S89_66 (h5 : Hp) (x12 : IV) (ih : Handler) (x2 : IV) (x1 : IV) : Option (IV × Hp) :=
  load1 x12 h5 fun x13 _ => dynS EE ih x2 [x13, x1] h5 fun x15 h16 _ _ => outS1 [x15] h16
noncomputable def S89_67 (h3 : Hp) (h54 : Hp) (x26 : IV) (x27 : IV) (x28 : IV) (x29 : IV) (x30 : IV) (x57 : IV) (q23 : List IV → Hp → Option (IV × Hp)) : Option (IV × Hp) :=
  dropS (h3.own.map (·.1)) [93328387] [x26, x27, x28, x29, x30, x57] h54 fun h58 => q23 [x26, x27, x28, x29, x30, x57] h58
noncomputable def S89_68 (x26 : IV) (x48 : IV) (ih : Handler) (h49 : Hp) (x43 : IV) (x27 : IV) (x31 : IV) (h3 : Hp) (x28 : IV) (x29 : IV) (x30 : IV) (q23 : List IV → Hp → Option (IV × Hp)) : Option (IV × Hp) :=
  addS EE 3 x26 x48 fun x52 => isoS [] false false ih 89 [x43, x52, x27] h49 fun x53 h54 r55 w56 => chkS [] r55 w56 (condS x53 (outS1 [.fv (.bool true)] h54) (addS EE 3 x31 (.fv (.int .i64 1)) fun x57 => S89_67 h3 h54 x26 x27 x28 x29 x30 x57 q23))
noncomputable def S89_69 (x28 : IV) (h40 : Hp) (r44 : List Ref) (ih : Handler) (x31 : IV) (x26 : IV) (x43 : IV) (x27 : IV) (h3 : Hp) (x29 : IV) (x30 : IV) (q23 : List IV → Hp → Option (IV × Hp)) : Option (IV × Hp) :=
  faddrS 0 x28 fun x45 => load1 x45 h40 fun x46 r47 => chkS [(r44, [])] r47 [] (isoS [] false false ih 79 [x46, x31] h40 fun x48 h49 r50 w51 => chkS [(r44, [])] r50 w51 (S89_68 x26 x48 ih h49 x43 x27 x31 h3 x28 x29 x30 q23))
noncomputable def S89_70 (h25 : Hp) (x33 : IV) (x28 : IV) (ih : Handler) (x31 : IV) (x26 : IV) (x27 : IV) (h3 : Hp) (x29 : IV) (x30 : IV) (q23 : List IV → Hp → Option (IV × Hp)) : Option (IV × Hp) :=
  loadA 3 x33 h25 fun x34 _ => newS 93328387 (.row [.fv (.int .i64 0), .fv (.int .i64 0), .nils] false) (.ptr (.own 93328387) 0) h25 fun x36 h37 _ _ => storeA 3 x36 x34 h37 fun h40 _ _ => loadA 3 x36 h40 fun x43 r44 => chkS [] r44 [] (S89_69 x28 h40 r44 ih x31 x26 x43 x27 h3 x29 x30 q23)
noncomputable def S89_71 (l63 : List IV) (x30 : IV) (x29 : IV) (h25 : Hp) (x28 : IV) (ih : Handler) (x26 : IV) (x27 : IV) (h3 : Hp) (q23 : List IV → Hp → Option (IV × Hp)) : Option (IV × Hp) :=
  uncS l63 fun x31 _ => ltS EE 3 x31 x30 fun x32 => condS x32 (ixS 3 x29 x31 fun x33 => S89_70 h25 x33 x28 ih x31 x26 x27 h3 x29 x30 q23) (outS1 [.fv (.bool false)] h25)
noncomputable def S89_72 (l24 : List IV) (h25 : Hp) (ih : Handler) (h3 : Hp) (q23 : List IV → Hp → Option (IV × Hp)) : Option (IV × Hp) :=
  uncS l24 fun x26 l59 => uncS l59 fun x27 l60 => uncS l60 fun x28 l61 => uncS l61 fun x29 l62 => uncS l62 fun x30 l63 => S89_71 l63 x30 x29 h25 x28 ih x26 x27 h3 q23
noncomputable def S89_73 (h5 : Hp) (x19 : IV) (h3 : Hp) (x1 : IV) (x2 : IV) (x4 : IV) (n : Nat) (ih : Handler) : Option (IV × Hp) :=
  load1 x19 h5 fun x20 _ => lenS x20 fun x22 => dropS (h3.own.map (·.1)) [93328387] [x1, x2, x4, x20, x22, .fv (.int .i64 0)] h5 fun h65 => loopS n (fun q23 l24 h25 => S89_72 l24 h25 ih h3 q23) [x1, x2, x4, x20, x22, .fv (.int .i64 0)] h65
noncomputable def S89 (ih : Handler) (n : Nat) (x0 : IV) (x1 : IV) (x2 : IV) (h3 : Hp) : Option (IV × Hp) :=
  boxS 93323264 x0 h3 fun x4 h5 _ _ => faddrS 0 x4 fun x8 => load1 x8 h5 fun x9 _ => eqS EE 3 x9 (.fv (.int .i64 1)) fun x11 => condS x11 (faddrS 1 x4 fun x12 => S89_66 h5 x12 ih x2 x1) (faddrS 2 x4 fun x19 => S89_73 h5 x19 h3 x1 x2 x4 n ih)
theorem S89_ok (ih : Handler) (n : Nat) (x0 : IV) (x1 : IV) (x2 : IV) (h3 : Hp) : funS EE ih ft.get n 89 [x0, x1, x2] h3 = S89 ih n x0 x1 x2 h3 := by kernel_rfl
/-! Function 90. -/
noncomputable def S90_25 (x7 : IV) (x20 : IV) (h21 : Hp) : Option (IV × Hp) :=
  pickS x7 x20 (.fv (.bool false)) fun x24 => outS1 [x24] h21
noncomputable def S90 (ih : Handler) (n : Nat) (x0 : IV) (x1 : IV) (x2 : IV) (h3 : Hp) : Option (IV × Hp) :=
  subS EE 3 x0 x1 fun x4 => load1 x2 h3 fun x5 _ => eqS EE 3 x4 x5 fun x7 => guardS x7 true h3 (fun k8 => k8 x0 h3 [] []) fun x9 h10 _ _ => guardS x7 true h10 (fun k13 => k13 x1 h10 [] []) fun x14 h15 _ _ => guardS x7 true h15 (fun k18 => geS EE 3 x9 x14 fun x19 => k18 x19 h15 [] []) fun x20 h21 _ _ => S90_25 x7 x20 h21
theorem S90_ok (ih : Handler) (n : Nat) (x0 : IV) (x1 : IV) (x2 : IV) (h3 : Hp) : funS EE ih ft.get n 90 [x0, x1, x2] h3 = S90 ih n x0 x1 x2 h3 := by kernel_rfl
/-! Function 91. -/
noncomputable def S91_100 (h9 : Hp) (x4 : IV) (ih : Handler) (x2 : IV) (x1 : IV) (x8 : IV) : Option (IV × Hp) :=
  loadA 3 x4 h9 fun x16 _ => dynS EE ih x2 [x16, x1] h9 fun x18 h19 _ _ => storeA 3 x8 x18 h19 fun h22 _ _ => cellS true 3 x8 h22 fun x25 => outS1 [x25] h22
noncomputable def S91_101 (h71 : Hp) (x74 : IV) (x70 : IV) (x48 : IV) (h3 : Hp) (x41 : IV) (x42 : IV) (x43 : IV) (x44 : IV) (x45 : IV) (x46 : IV) (x47 : IV) (q38 : List IV → Hp → Option (IV × Hp)) : Option (IV × Hp) :=
  storeA 3 x74 x70 h71 fun h75 r76 w77 => chkS [] r76 w77 (addS EE 3 x48 (.fv (.int .i64 1)) fun x78 => dropS (h3.own.map (·.1)) [95426563] [x41, x42, x43, x44, x45, x46, x47, x78] h75 fun h79 => q38 [x41, x42, x43, x44, x45, x46, x47, x78] h79)
noncomputable def S91_102 (r67 : List Ref) (w68 : List Ref) (r61 : List Ref) (x41 : IV) (x65 : IV) (ih : Handler) (h66 : Hp) (x60 : IV) (x42 : IV) (x45 : IV) (x48 : IV) (h3 : Hp) (x43 : IV) (x44 : IV) (x46 : IV) (x47 : IV) (q38 : List IV → Hp → Option (IV × Hp)) : Option (IV × Hp) :=
  chkS [(r61, [])] r67 w68 (addS EE 3 x41 x65 fun x69 => isoS [] false false ih 91 [x60, x69, x42] h66 fun x70 h71 r72 w73 => chkS [] r72 w73 (ixS 3 x45 x48 fun x74 => S91_101 h71 x74 x70 x48 h3 x41 x42 x43 x44 x45 x46 x47 q38))
noncomputable def S91_103 (r61 : List Ref) (x43 : IV) (h57 : Hp) (ih : Handler) (x48 : IV) (x41 : IV) (x60 : IV) (x42 : IV) (x45 : IV) (h3 : Hp) (x44 : IV) (x46 : IV) (x47 : IV) (q38 : List IV → Hp → Option (IV × Hp)) : Option (IV × Hp) :=
  chkS [] r61 [] (faddrS 0 x43 fun x62 => load1 x62 h57 fun x63 r64 => chkS [(r61, [])] r64 [] (isoS [] false false ih 79 [x63, x48] h57 fun x65 h66 r67 w68 => S91_102 r67 w68 r61 x41 x65 ih h66 x60 x42 x45 x48 h3 x43 x44 x46 x47 q38))
noncomputable def S91_104 (x46 : IV) (x48 : IV) (h40 : Hp) (x43 : IV) (ih : Handler) (x41 : IV) (x42 : IV) (x45 : IV) (h3 : Hp) (x44 : IV) (x47 : IV) (q38 : List IV → Hp → Option (IV × Hp)) : Option (IV × Hp) :=
  ixS 3 x46 x48 fun x50 => loadA 3 x50 h40 fun x51 _ => newS 95426563 (.row [.fv (.int .i64 0), .fv (.int .i64 0), .nils] false) (.ptr (.own 95426563) 0) h40 fun x53 h54 _ _ => storeA 3 x53 x51 h54 fun h57 _ _ => loadA 3 x53 h57 fun x60 r61 => S91_103 r61 x43 h57 ih x48 x41 x60 x42 x45 h3 x44 x46 x47 q38
noncomputable def S91_105 (h40 : Hp) (x44 : IV) (x86 : IV) : Option (IV × Hp) :=
  storeA 3 x44 x86 h40 fun h87 _ _ => cellS true 3 x44 h87 fun x90 => outS1 [x90] h87
noncomputable def S91_106 (x43 : IV) (h40 : Hp) (x45 : IV) (x44 : IV) : Option (IV × Hp) :=
  faddrS 0 x43 fun x80 => load1 x80 h40 fun x81 _ => faddrS 1 x43 fun x83 => load1 x83 h40 fun x84 _ => bldS [.fv (.int .i64 0), .fv (.int .i64 0), .nils] [(0, 1, x81), (1, 1, x84), (2, 1, x45)] fun x86 => S91_105 h40 x44 x86
noncomputable def S91_107 (l95 : List IV) (h40 : Hp) (x43 : IV) (ih : Handler) (x41 : IV) (x42 : IV) (x45 : IV) (h3 : Hp) (x44 : IV) (q38 : List IV → Hp → Option (IV × Hp)) : Option (IV × Hp) :=
  uncS l95 fun x46 l96 => uncS l96 fun x47 l97 => uncS l97 fun x48 _ => ltS EE 3 x48 x47 fun x49 => condS x49 (S91_104 x46 x48 h40 x43 ih x41 x42 x45 h3 x44 x47 q38) (S91_106 x43 h40 x45 x44)
noncomputable def S91_108 (l39 : List IV) (h40 : Hp) (ih : Handler) (h3 : Hp) (q38 : List IV → Hp → Option (IV × Hp)) : Option (IV × Hp) :=
  uncS l39 fun x41 l91 => uncS l91 fun x42 l92 => uncS l92 fun x43 l93 => uncS l93 fun x44 l94 => uncS l94 fun x45 l95 => S91_107 l95 h40 x43 ih x41 x42 x45 h3 x44 q38
noncomputable def S91_109 (h31 : Hp) (x34 : IV) (h3 : Hp) (x1 : IV) (x2 : IV) (x4 : IV) (x8 : IV) (x30 : IV) (n : Nat) (ih : Handler) : Option (IV × Hp) :=
  load1 x34 h31 fun x35 _ => lenS x35 fun x37 => dropS (h3.own.map (·.1)) [95426563] [x1, x2, x4, x8, x30, x35, x37, .fv (.int .i64 0)] h31 fun h99 => loopS n (fun q38 l39 h40 => S91_108 l39 h40 ih h3 q38) [x1, x2, x4, x8, x30, x35, x37, .fv (.int .i64 0)] h99
noncomputable def S91_110 (x4 : IV) (h9 : Hp) (h3 : Hp) (x1 : IV) (x2 : IV) (x8 : IV) (n : Nat) (ih : Handler) : Option (IV × Hp) :=
  faddrS 2 x4 fun x26 => load1 x26 h9 fun x27 _ => lenS x27 fun x29 => genS (pcMakeSlice EE 95423491 29 x29 x29) 95423491 h9 fun x30 h31 _ _ => faddrS 2 x4 fun x34 => S91_109 h31 x34 h3 x1 x2 x4 x8 x30 n ih
noncomputable def S91 (ih : Handler) (n : Nat) (x0 : IV) (x1 : IV) (x2 : IV) (h3 : Hp) : Option (IV × Hp) :=
  boxS 95420416 x0 h3 fun x4 h5 _ _ => newS 95420417 (.row [.fv (.int .i64 0), .fv (.int .i64 0), .nils] false) (.ptr (.own 95420417) 0) h5 fun x8 h9 _ _ => faddrS 0 x4 fun x12 => load1 x12 h9 fun x13 _ => eqS EE 3 x13 (.fv (.int .i64 1)) fun x15 => condS x15 (S91_100 h9 x4 ih x2 x1 x8) (S91_110 x4 h9 h3 x1 x2 x8 n ih)
theorem S91_ok (ih : Handler) (n : Nat) (x0 : IV) (x1 : IV) (x2 : IV) (h3 : Hp) : funS EE ih ft.get n 91 [x0, x1, x2] h3 = S91 ih n x0 x1 x2 h3 := by kernel_rfl
/-! Function 92. -/
noncomputable def S92_53 (h23 : Hp) (x9 : IV) (x22 : IV) : Option (IV × Hp) :=
  storeA 3 x9 x22 h23 fun h26 _ _ => cellS true 3 x9 h26 fun x29 => outS1 [x29] h26
noncomputable def S92_54 (h36 : Hp) (x9 : IV) (x35 : IV) : Option (IV × Hp) :=
  storeA 3 x9 x35 h36 fun h39 _ _ => cellS true 3 x9 h39 fun x42 => outS1 [x42] h39
noncomputable def S92_55 (h46 : Hp) (x9 : IV) (x45 : IV) : Option (IV × Hp) :=
  storeA 3 x9 x45 h46 fun h49 _ _ => cellS true 3 x9 h49 fun x52 => outS1 [x52] h49
noncomputable def S92_56 (x32 : IV) (h10 : Hp) (x3 : IV) (ih : Handler) (x1 : IV) (x9 : IV) (x5 : IV) : Option (IV × Hp) :=
  condS x32 (loadA 3 x3 h10 fun x33 _ => isoS [] false false ih 94 [x33, x1, .fv (.int .i64 0)] h10 fun x35 h36 _ _ => S92_54 h36 x9 x35) (loadA 3 x5 h10 fun x43 _ => isoS [] false false ih 93 [x43, .fv (.int .i64 0)] h10 fun x45 h46 _ _ => S92_55 h46 x9 x45)
noncomputable def S92_57 (x16 : IV) (x17 : IV) (h10 : Hp) (x5 : IV) (ih : Handler) (x9 : IV) (x2 : IV) (x3 : IV) (x1 : IV) : Option (IV × Hp) :=
  gtS EE 3 x16 x17 fun x19 => condS x19 (loadA 3 x5 h10 fun x20 _ => isoS [] false false ih 93 [x20, .fv (.int .i64 (-1))] h10 fun x22 h23 _ _ => S92_53 h23 x9 x22) (load1 x2 h10 fun x30 _ => eqS EE 3 x16 x30 fun x32 => S92_56 x32 h10 x3 ih x1 x9 x5)
noncomputable def S92 (ih : Handler) (n : Nat) (x0 : IV) (x1 : IV) (x2 : IV) (x3 : IV) (h4 : Hp) : Option (IV × Hp) :=
  boxS 96468992 x0 h4 fun x5 h6 _ _ => newS 96468993 (.row [.fv (.int .i64 0), .fv (.int .i64 0), .nils] false) (.ptr (.own 96468993) 0) h6 fun x9 h10 _ _ => faddrS 1 x5 fun x13 => load1 x13 h10 fun x14 _ => subS EE 3 x14 x1 fun x16 => load1 x2 h10 fun x17 _ => S92_57 x16 x17 h10 x5 ih x9 x2 x3 x1
theorem S92_ok (ih : Handler) (n : Nat) (x0 : IV) (x1 : IV) (x2 : IV) (x3 : IV) (h4 : Hp) : funS EE ih ft.get n 92 [x0, x1, x2, x3] h4 = S92 ih n x0 x1 x2 x3 h4 := by kernel_rfl
/-! Function 93. -/
noncomputable def S93_20 (h8 : Hp) (x7 : IV) (x15 : IV) : Option (IV × Hp) :=
  storeA 3 x7 x15 h8 fun h16 _ _ => cellS true 3 x7 h16 fun x19 => outS1 [x19] h16
noncomputable def S93 (ih : Handler) (n : Nat) (x0 : IV) (x1 : IV) (h2 : Hp) : Option (IV × Hp) :=
  boxS 97517568 x0 h2 fun x3 h4 _ _ => newS 97517569 (.row [.fv (.int .i64 0), .fv (.int .i64 0), .nils] false) (.ptr (.own 97517569) 0) h4 fun x7 h8 _ _ => faddrS 1 x3 fun x11 => load1 x11 h8 fun x12 _ => addS EE 3 x12 x1 fun x14 => bldS [.fv (.int .i64 0), .fv (.int .i64 0), .nils] [(0, 1, .fv (.int .i64 1)), (1, 1, x14)] fun x15 => S93_20 h8 x7 x15
theorem S93_ok (ih : Handler) (n : Nat) (x0 : IV) (x1 : IV) (h2 : Hp) : funS EE ih ft.get n 93 [x0, x1] h2 = S93 ih n x0 x1 h2 := by kernel_rfl
/-! Function 94. -/
noncomputable def S94_34 (ih : Handler) (h23 : Hp) (x20 : IV) (x22 : IV) (x16 : IV) : Option (IV × Hp) :=
  isoS [] false false ih 91 [x20, .fv (.int .i64 0), x22] h23 fun x26 h27 _ _ => storeA 3 x16 x26 h27 fun h30 _ _ => cellS true 3 x16 h30 fun x33 => outS1 [x33] h30
noncomputable def S94 (ih : Handler) (n : Nat) (x0 : IV) (x1 : IV) (x2 : IV) (h3 : Hp) : Option (IV × Hp) :=
  boxS 98566144 x0 h3 fun x4 h5 _ _ => boxS 98566145 x1 h5 fun x8 h9 _ _ => boxS 98566146 x2 h9 fun x12 h13 _ _ => newS 98566147 (.row [.fv (.int .i64 0), .fv (.int .i64 0), .nils] false) (.ptr (.own 98566147) 0) h13 fun x16 h17 _ _ => loadA 3 x4 h17 fun x20 _ => genS (val (mkFunc (.func 95) [] [x12, x8])) 98567169 h17 fun x22 h23 _ _ => S94_34 ih h23 x20 x22 x16
theorem S94_ok (ih : Handler) (n : Nat) (x0 : IV) (x1 : IV) (x2 : IV) (h3 : Hp) : funS EE ih ft.get n 94 [x0, x1, x2] h3 = S94 ih n x0 x1 x2 h3 := by kernel_rfl
/-! Function 95. -/
noncomputable def S95_42 (ih : Handler) (h10 : Hp) (x20 : IV) (x22 : IV) (x9 : IV) : Option (IV × Hp) :=
  isoS [] false false ih 93 [x20, x22] h10 fun x24 h25 _ _ => storeA 3 x9 x24 h25 fun h28 _ _ => cellS true 3 x9 h28 fun x31 => outS1 [x31] h28
noncomputable def S95_43 (h35 : Hp) (x9 : IV) (x34 : IV) : Option (IV × Hp) :=
  storeA 3 x9 x34 h35 fun h38 _ _ => cellS true 3 x9 h38 fun x41 => outS1 [x41] h38
noncomputable def S95_44 (x16 : IV) (x17 : IV) (h10 : Hp) (x5 : IV) (x3 : IV) (ih : Handler) (x9 : IV) : Option (IV × Hp) :=
  geS EE 3 x16 x17 fun x19 => condS x19 (loadA 3 x5 h10 fun x20 _ => load1 x3 h10 fun x22 _ => S95_42 ih h10 x20 x22 x9) (loadA 3 x5 h10 fun x32 _ => isoS [] false false ih 93 [x32, .fv (.int .i64 0)] h10 fun x34 h35 _ _ => S95_43 h35 x9 x34)
noncomputable def S95 (ih : Handler) (n : Nat) (x0 : IV) (x1 : IV) (x2 : IV) (x3 : IV) (h4 : Hp) : Option (IV × Hp) :=
  boxS 99614720 x0 h4 fun x5 h6 _ _ => newS 99614721 (.row [.fv (.int .i64 0), .fv (.int .i64 0), .nils] false) (.ptr (.own 99614721) 0) h6 fun x9 h10 _ _ => faddrS 1 x5 fun x13 => load1 x13 h10 fun x14 _ => subS EE 3 x14 x1 fun x16 => load1 x2 h10 fun x17 _ => S95_44 x16 x17 h10 x5 x3 ih x9
theorem S95_ok (ih : Handler) (n : Nat) (x0 : IV) (x1 : IV) (x2 : IV) (x3 : IV) (h4 : Hp) : funS EE ih ft.get n 95 [x0, x1, x2, x3] h4 = S95 ih n x0 x1 x2 x3 h4 := by kernel_rfl
end Idl
end Go.Proofs.Ytaifgaidaglblaa

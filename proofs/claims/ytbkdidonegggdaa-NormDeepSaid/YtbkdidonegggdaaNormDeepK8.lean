/-
  Texts of a proof, part 8: an ideal semantics of the program, its functions in shallow form, contracts of them. No statement of the seat is proved here.
-/
import Derived.Test.YtbkdidonegggdaaNormDeepK7
set_option linter.all false
set_option maxRecDepth 100000
set_option linter.unusedVariables false
namespace Go.Proofs.Ytbkdidonegggdaa
namespace Idl
noncomputable def S6_169 (h104 : Hp) (x93 : IV) (x103 : IV) : Option (IV × Hp) :=
  guardS x93 true h104 (fun k107 => lenS x103 fun x108 => k107 x108 h104 [] []) fun x109 h110 _ _ => guardS x93 true h110 (fun k113 => eqS EE 3 x109 (.fv (.int .i64 0)) fun x114 => k113 x114 h110 [] []) fun x115 h116 _ _ => pickS x93 x115 (.fv (.bool false)) fun x119 => outS1 [x119] h116
noncomputable def S6_170 (h77 : Hp) (x73 : IV) (x76 : IV) (x53 : IV) : Option (IV × Hp) :=
  guardS x73 true h77 (fun k80 => load1 x76 h77 fun x81 r82 => k80 x81 h77 r82 []) fun x83 h84 _ _ => guardS x73 true h84 (fun k87 => eqS EE 3 x83 (.fv (.int .i64 0)) fun x88 => k87 x88 h84 [] []) fun x89 h90 _ _ => pickS x73 x89 (.fv (.bool false)) fun x93 => guardS x93 true h90 (fun k94 => faddrS 2 x53 fun x95 => k94 x95 h90 [] []) fun x96 h97 _ _ => guardS x93 true h97 (fun k100 => load1 x96 h97 fun x101 r102 => k100 x101 h97 r102 []) fun x103 h104 _ _ => S6_169 h104 x93 x103
noncomputable def S6_171 (x52 : IV) (h57 : Hp) (x53 : IV) : Option (IV × Hp) :=
  eqS EE 37 x52 (.fv (.int .i64 5)) fun x61 => guardS x61 false h57 (fun k62 => k62 x52 h57 [] []) fun x63 h64 _ _ => guardS x61 false h64 (fun k67 => eqS EE 37 x63 (.fv (.int .i64 17)) fun x68 => k67 x68 h64 [] []) fun x69 h70 _ _ => pickS x61 (.fv (.bool true)) x69 fun x73 => guardS x73 true h70 (fun k74 => faddrS 0 x53 fun x75 => k74 x75 h70 [] []) fun x76 h77 _ _ => S6_170 h77 x73 x76 x53
noncomputable def S6_172 (h141 : Hp) (x120 : IV) (x140 : IV) (x129 : IV) : Option (IV × Hp) :=
  guardS x120 true h141 (fun k144 => optS (convR EE 3 56 x140) fun x145 => k144 x145 h141 [] []) fun x146 h147 _ _ => guardS x120 true h147 (fun k150 => binS EE 3 .shl (.fv (.int .i64 1)) x146 fun x151 => k150 x151 h147 [] []) fun x152 h153 _ _ => guardS x120 true h153 (fun k156 => subS EE 3 x152 (.fv (.int .i64 1)) fun x157 => k156 x157 h153 [] []) fun x158 h159 _ _ => guardS x120 true h159 (fun k162 => eqS EE 3 x129 x158 fun x163 => k162 x163 h159 [] []) fun x164 h165 _ _ => pickS x120 x164 (.fv (.bool false)) fun x168 => outS1 [x168] h165
noncomputable def S6_173 (x52 : IV) (h57 : Hp) (x53 : IV) (ih : Handler) (x7 : IV) : Option (IV × Hp) :=
  eqS EE 37 x52 (.fv (.int .i64 0)) fun x120 => guardS x120 true h57 (fun k121 => loadA 3 x53 h57 fun x122 r123 => k121 x122 h57 r123 []) fun x124 h125 _ _ => guardS x120 true h125 (fun k128 => isoS [] false false ih 36 [x124] h125 k128) fun x129 h130 _ _ => guardS x120 true h130 (fun k133 => k133 x7 h130 [] []) fun x134 h135 _ _ => guardS x120 true h135 (fun k138 => addS EE 3 x134 (.fv (.int .i64 1)) fun x139 => k138 x139 h135 [] []) fun x140 h141 _ _ => S6_172 h141 x120 x140 x129
noncomputable def S6_174 (x47 : IV) (h48 : Hp) (x51 : IV) (x7 : IV) (ih : Handler) : Option (IV × Hp) :=
  extS 1 x47 fun x52 => newS 6295566 (.row [.fv (.int .i64 0), .fv (.int .i64 0), .nils] false) (.ptr (.own 6295566) 0) h48 fun x53 h54 _ _ => storeA 3 x53 x51 h54 fun h57 _ _ => gtS EE 3 x7 (.fv (.int .i64 10)) fun x60 => condS x60 (S6_171 x52 h57 x53) (S6_173 x52 h57 x53 ih x7)
noncomputable def S6_175 (ih : Handler) (h32 : Hp) (x7 : IV) (x11 : IV) (x15 : IV) (x31 : IV) : Option (IV × Hp) :=
  isoS [] false false ih 35 [x7] h32 fun x35 h36 _ _ => genS (pcBuildSlice EE 29 4 [(0, x11), (1, x15), (2, x31), (3, x35)]) 6295560 h36 fun x39 h40 _ _ => isoS [] false false ih 27 [.fv (.int .i64 13), x39] h40 fun x43 h44 _ _ => isoS [] false false ih 20 [x43] h44 fun x47 h48 _ _ => extS 0 x47 fun x51 => S6_174 x47 h48 x51 x7 ih
noncomputable def S6_176 (ih : Handler) (h12 : Hp) (x7 : IV) (x11 : IV) : Option (IV × Hp) :=
  isoS [] false false ih 27 [.fv (.int .i64 15), .nils] h12 fun x15 h16 _ _ => isoS [] false false ih 34 [.fv (.int .i64 0)] h16 fun x19 h20 _ _ => isoS [] false false ih 34 [.fv (.int .i64 0)] h20 fun x23 h24 _ _ => genS (pcBuildSlice EE 29 2 [(0, x19), (1, x23)]) 6295556 h24 fun x27 h28 _ _ => isoS [] false false ih 27 [.fv (.int .i64 16), x27] h28 fun x31 h32 _ _ => S6_175 ih h32 x7 x11 x15 x31
noncomputable def S6 (ih : Handler) (n : Nat) (x0 : IV) (h1 : Hp) : Option (IV × Hp) :=
  isoS [] false false ih 14 [] h1 fun x2 h3 _ _ => optS (unR .not x2) fun x6 => condS x6 (outS1 [.fv (.bool false)] h3) (isoS [] false false ih 28 [x0, .fv (.int .i64 40)] h3 fun x7 h8 _ _ => isoS [] false false ih 27 [.fv (.int .i64 14), .nils] h8 fun x11 h12 _ _ => S6_176 ih h12 x7 x11)
theorem S6_ok (ih : Handler) (n : Nat) (x0 : IV) (h1 : Hp) : funS EE ih ft.get n 6 [x0] h1 = S6 ih n x0 h1 := by kernel_rfl
noncomputable def S14_79 (h70 : Hp) (x60 : IV) (ih : Handler) (x64 : IV) (x69 : IV) : Option (IV × Hp) :=
  guardS x60 true h70 (fun k73 => isoS [] false false ih 21 [x64, x69] h70 k73) fun x74 h75 r76 w77 => chkS [] r76 w77 (pickS x60 x74 (.fv (.bool false)) fun x78 => outS1 [x78] h75)
noncomputable def S14_80 (x52 : IV) (h57 : Hp) (x53 : IV) (ih : Handler) : Option (IV × Hp) :=
  eqS EE 37 x52 (.fv (.int .i64 0)) fun x60 => guardS x60 true h57 (fun k61 => loadA 3 x53 h57 fun x62 r63 => k61 x62 h57 r63 []) fun x64 h65 r66 w67 => chkS [] r66 w67 (guardS x60 true h65 (fun k68 => isoS [] false false ih 35 [.fv (.int .i64 2)] h65 k68) fun x69 h70 r71 w72 => chkS [(r66, w67)] r71 w72 (S14_79 h70 x60 ih x64 x69))
noncomputable def S14_81 (x47 : IV) (h48 : Hp) (r49 : List Ref) (w50 : List Ref) (r45 : List Ref) (w46 : List Ref) (r41 : List Ref) (w42 : List Ref) (r37 : List Ref) (w38 : List Ref) (r33 : List Ref) (w34 : List Ref) (r30 : List Ref) (r27 : List Ref) (w28 : List Ref) (r24 : List Ref) (x51 : IV) (ih : Handler) : Option (IV × Hp) :=
  extS 1 x47 fun x52 => newS 14682123 (.row [.fv (.int .i64 0), .fv (.int .i64 0), .nils] false) (.ptr (.own 14682123) 0) h48 fun x53 h54 r55 w56 => chkS [(r49, w50), (r45, w46), (r41, w42), (r37, w38), (r33, w34), (r30, []), (r27, w28), (r24, [])] r55 w56 (storeA 3 x53 x51 h54 fun h57 r58 w59 => chkS [] r58 w59 (S14_80 x52 h57 x53 ih))
noncomputable def S14_82 (ih : Handler) (h40 : Hp) (x39 : IV) (r41 : List Ref) (w42 : List Ref) (r37 : List Ref) (w38 : List Ref) (r33 : List Ref) (w34 : List Ref) (r30 : List Ref) (r27 : List Ref) (w28 : List Ref) (r24 : List Ref) : Option (IV × Hp) :=
  isoS [] false false ih 27 [.fv (.int .i64 8), x39] h40 fun x43 h44 r45 w46 => chkS [] r45 w46 (isoS [] false false ih 20 [x43] h44 fun x47 h48 r49 w50 => chkS [] r49 w50 (extS 0 x47 fun x51 => S14_81 x47 h48 r49 w50 r45 w46 r41 w42 r37 w38 r33 w34 r30 r27 w28 r24 x51 ih))
noncomputable def S14_83 (r33 : List Ref) (w34 : List Ref) (ih : Handler) (h32 : Hp) (x31 : IV) (r30 : List Ref) (r27 : List Ref) (w28 : List Ref) (r24 : List Ref) : Option (IV × Hp) :=
  chkS [] r33 w34 (isoS [] false false ih 27 [.fv (.int .i64 7), x31] h32 fun x35 h36 r37 w38 => chkS [] r37 w38 (genS (pcBuildSlice EE 29 1 [(0, x35)]) 14682117 h36 fun x39 h40 r41 w42 => chkS [] r41 w42 (S14_82 ih h40 x39 r41 w42 r37 w38 r33 w34 r30 r27 w28 r24)))
noncomputable def S14_84 (ih : Handler) (h20 : Hp) (r24 : List Ref) (x9 : IV) (x23 : IV) : Option (IV × Hp) :=
  isoS [] false false ih 35 [.fv (.int .i64 2)] h20 fun x25 h26 r27 w28 => chkS [(r24, [])] r27 w28 (loadA 3 x9 h26 fun x29 r30 => chkS [(r27, w28), (r24, [])] r30 [] (genS (pcBuildSlice EE 29 3 [(0, x23), (1, x25), (2, x29)]) 14682115 h26 fun x31 h32 r33 w34 => S14_83 r33 w34 ih h32 x31 r30 r27 w28 r24))
noncomputable def S14_85 (h10 : Hp) (x9 : IV) (x1 : IV) (x8 : IV) (ih : Handler) : Option (IV × Hp) :=
  newS 14681094 (.row [.fv (.int .i64 0), .fv (.int .i64 0), .nils] false) (.ptr (.own 14681094) 0) h10 fun x13 h14 _ _ => storeA 3 x9 x1 h14 fun h17 _ _ => storeA 3 x13 x8 h17 fun h20 _ _ => loadA 3 x13 h20 fun x23 r24 => chkS [] r24 [] (S14_84 ih h20 r24 x9 x23)
noncomputable def S14 (ih : Handler) (n : Nat) (h0 : Hp) : Option (IV × Hp) :=
  bldS [.fv (.int .i64 0), .fv (.int .i64 0), .nils] [(0, 1, .fv (.int .i64 11))] fun x1 => bldS [.fv (.int .i64 0), .fv (.int .i64 0), .nils] [(0, 1, .fv (.int .i64 10))] fun x2 => bldS [.fv (.int .i64 0), .fv (.int .i64 0), .nils] [(0, 1, .fv (.int .i64 10))] fun x3 => genS (pcBuildSlice EE 29 2 [(0, x2), (1, x3)]) 14681091 h0 fun x4 h5 _ _ => bldS [.fv (.int .i64 0), .fv (.int .i64 0), .nils] [(0, 1, .fv (.int .i64 6)), (2, 1, x4)] fun x8 => newS 14681093 (.row [.fv (.int .i64 0), .fv (.int .i64 0), .nils] false) (.ptr (.own 14681093) 0) h5 fun x9 h10 _ _ => S14_85 h10 x9 x1 x8 ih
theorem S14_ok (ih : Handler) (n : Nat) (h0 : Hp) : funS EE ih ft.get n 14 [] h0 = S14 ih n h0 := by kernel_rfl
noncomputable def S20_77 (h13 : Hp) (x6 : IV) : Option (IV × Hp) :=
  bldS [.fv (.int .i64 0), .fv (.int .i64 0), .nils] [] fun x17 => storeA 3 x6 x17 h13 fun h18 _ _ => cellS true 3 x6 h18 fun x21 => outS1 [x21, .fv (.int .i64 1)] h18
noncomputable def S20_78 (r43 : List Ref) (w44 : List Ref) (r41 : List Ref) (h42 : Hp) (x6 : IV) (x40 : IV) : Option (IV × Hp) :=
  chkS [(r41, [])] r43 w44 (cellS true 3 x6 h42 fun x45 => outS1 [x45, x40] h42)
noncomputable def S20_79 (x22 : IV) (h29 : Hp) (x6 : IV) (x37 : IV) : Option (IV × Hp) :=
  nilS x22 fun x38 => faddrS 3 x38 fun x39 => load1 x39 h29 fun x40 r41 => chkS [] r41 [] (storeA 3 x6 x37 h29 fun h42 r43 w44 => S20_78 r43 w44 r41 h42 x6 x40)
noncomputable def S20_80 (h67 : Hp) (x6 : IV) (x65 : IV) : Option (IV × Hp) :=
  cellS true 3 x6 h67 fun x70 => outS1 [x70, x65] h67
noncomputable def S20_81 (x63 : IV) (h54 : Hp) (x6 : IV) (x62 : IV) : Option (IV × Hp) :=
  faddrS 3 x63 fun x64 => load1 x64 h54 fun x65 r66 => chkS [] r66 [] (storeA 3 x6 x62 h54 fun h67 r68 w69 => chkS [(r66, [])] r68 w69 (S20_80 h67 x6 x65))
noncomputable def S20_82 (h73 : Hp) (x6 : IV) : Option (IV × Hp) :=
  cellS true 3 x6 h73 fun x76 => outS1 [x76, .fv (.int .i64 0)] h73
noncomputable def S20_83 (x59 : IV) (x22 : IV) (h54 : Hp) (x6 : IV) (x50 : IV) : Option (IV × Hp) :=
  neS EE 37 x59 (.fv (.int .i64 0)) fun x61 => condS x61 (bldS [.fv (.int .i64 0), .fv (.int .i64 0), .nils] [] fun x62 => nilS x22 fun x63 => S20_81 x63 h54 x6 x62) (loadA 3 x50 h54 fun x71 _ => storeA 3 x6 x71 h54 fun h73 _ _ => S20_82 h73 x6)
noncomputable def S20_84 (h47 : Hp) (x46 : IV) (x22 : IV) (x6 : IV) : Option (IV × Hp) :=
  newS 20978691 (.row [.fv (.int .i64 0), .fv (.int .i64 0), .nils] false) (.ptr (.own 20978691) 0) h47 fun x50 h51 _ _ => storeA 3 x50 x46 h51 fun h54 _ _ => nilS x22 fun x57 => faddrS 3 x57 fun x58 => load1 x58 h54 fun x59 _ => S20_83 x59 x22 h54 x6 x50
noncomputable def S20_85 (h29 : Hp) (x33 : IV) (x22 : IV) (x6 : IV) (ih : Handler) (x28 : IV) : Option (IV × Hp) :=
  load1 x33 h29 fun x34 _ => neS EE 37 x34 (.fv (.int .i64 0)) fun x36 => condS x36 (bldS [.fv (.int .i64 0), .fv (.int .i64 0), .nils] [] fun x37 => S20_79 x22 h29 x6 x37) (isoS [true, false, false, false] false false ih 53 [x22, x28, .fv (.int .i64 0), .fv (.int .i64 1)] h29 fun x46 h47 _ _ => S20_84 h47 x46 x22 x6)
noncomputable def S20_86 (ih : Handler) (h13 : Hp) (x2 : IV) (x6 : IV) : Option (IV × Hp) :=
  inlS ih 51 [] h13 fun x22 h23 _ _ => loadA 3 x2 h23 fun x26 _ => isoS [true, false, false] false false ih 52 [x22, .fv .nilp, x26] h23 fun x28 h29 _ _ => nilS x22 fun x32 => faddrS 3 x32 fun x33 => S20_85 h29 x33 x22 x6 ih x28
noncomputable def S20 (ih : Handler) (n : Nat) (x0 : IV) (h1 : Hp) : Option (IV × Hp) :=
  boxS 20971520 x0 h1 fun x2 h3 _ _ => newS 20971521 (.row [.fv (.int .i64 0), .fv (.int .i64 0), .nils] false) (.ptr (.own 20971521) 0) h3 fun x6 h7 _ _ => loadA 3 x2 h7 fun x10 _ => isoS [] false false ih 50 [x10] h7 fun x12 h13 _ _ => optS (unR .not x12) fun x16 => condS x16 (S20_77 h13 x6) (S20_86 ih h13 x2 x6)
theorem S20_ok (ih : Handler) (n : Nat) (x0 : IV) (h1 : Hp) : funS EE ih ft.get n 20 [x0] h1 = S20 ih n x0 h1 := by kernel_rfl
noncomputable def S21_128 (x101 : IV) (q96 : List IV → Hp → Option (IV × Hp)) (h120 : Hp) (x99 : IV) (x100 : IV) : Option (IV × Hp) :=
  addS EE 3 x101 (.fv (.int .i64 1)) fun x124 => q96 [x99, x100, x124] h120
noncomputable def S21_129 (r118 : List Ref) (r112 : List Ref) (r109 : List Ref) (ih : Handler) (h98 : Hp) (x111 : IV) (x117 : IV) (x101 : IV) (q96 : List IV → Hp → Option (IV × Hp)) (x99 : IV) (x100 : IV) : Option (IV × Hp) :=
  chkS [(r112, []), (r109, [])] r118 [] (isoS [] false false ih 21 [x111, x117] h98 fun x119 h120 r121 w122 => chkS [] r121 w122 (optS (unR .not x119) fun x123 => condS x123 (outS1 [.fv (.bool false)] h120) (S21_128 x101 q96 h120 x99 x100)))
noncomputable def S21_130 (x100 : IV) (h98 : Hp) (r112 : List Ref) (r109 : List Ref) (x101 : IV) (ih : Handler) (x111 : IV) (q96 : List IV → Hp → Option (IV × Hp)) (x99 : IV) : Option (IV × Hp) :=
  faddrS 2 x100 fun x113 => load1 x113 h98 fun x114 r115 => chkS [(r112, []), (r109, [])] r115 [] (ixS 3 x114 x101 fun x116 => loadA 3 x116 h98 fun x117 r118 => S21_129 r118 r112 r109 ih h98 x111 x117 x101 q96 x99 x100)
noncomputable def S21_131 (h98 : Hp) (x107 : IV) (x101 : IV) (x100 : IV) (ih : Handler) (q96 : List IV → Hp → Option (IV × Hp)) (x99 : IV) : Option (IV × Hp) :=
  load1 x107 h98 fun x108 r109 => chkS [] r109 [] (ixS 3 x108 x101 fun x110 => loadA 3 x110 h98 fun x111 r112 => chkS [] r112 [] (S21_130 x100 h98 r112 r109 x101 ih x111 q96 x99))
noncomputable def S21_132 (x103 : IV) (x101 : IV) (x99 : IV) (h98 : Hp) (x100 : IV) (ih : Handler) (q96 : List IV → Hp → Option (IV × Hp)) : Option (IV × Hp) :=
  lenS x103 fun x105 => ltS EE 3 x101 x105 fun x106 => condS x106 (faddrS 2 x99 fun x107 => S21_131 h98 x107 x101 x100 ih q96 x99) (outS1 [.fv (.bool true)] h98)
noncomputable def S21_133 (l97 : List IV) (h98 : Hp) (ih : Handler) (q96 : List IV → Hp → Option (IV × Hp)) : Option (IV × Hp) :=
  uncS l97 fun x99 l125 => uncS l125 fun x100 l126 => uncS l126 fun x101 _ => faddrS 2 x99 fun x102 => load1 x102 h98 fun x103 _ => S21_132 x103 x101 x99 h98 x100 ih q96
noncomputable def S21_134 (x95 : IV) (h92 : Hp) (n : Nat) (x3 : IV) (x7 : IV) (ih : Handler) : Option (IV × Hp) :=
  condS x95 (outS1 [.fv (.bool false)] h92) (loopS n (fun q96 l97 h98 => S21_133 l97 h98 ih q96) [x3, x7, .fv (.int .i64 0)] h92)
noncomputable def S21_135 (h67 : Hp) (x50 : IV) (x7 : IV) (x66 : IV) (n : Nat) (x3 : IV) (ih : Handler) : Option (IV × Hp) :=
  guardS x50 false h67 (fun k70 => faddrS 2 x7 fun x71 => k70 x71 h67 [] []) fun x72 h73 _ _ => guardS x50 false h73 (fun k76 => load1 x72 h73 fun x77 r78 => k76 x77 h73 r78 []) fun x79 h80 _ _ => guardS x50 false h80 (fun k83 => lenS x79 fun x84 => k83 x84 h80 [] []) fun x85 h86 _ _ => guardS x50 false h86 (fun k89 => neS EE 3 x66 x85 fun x90 => k89 x90 h86 [] []) fun x91 h92 _ _ => pickS x50 (.fv (.bool true)) x91 fun x95 => S21_134 x95 h92 n x3 x7 ih
noncomputable def S21_136 (h41 : Hp) (x17 : IV) (x27 : IV) (x40 : IV) (x3 : IV) (x7 : IV) (n : Nat) (ih : Handler) : Option (IV × Hp) :=
  guardS x17 false h41 (fun k44 => neS EE 3 x27 x40 fun x45 => k44 x45 h41 [] []) fun x46 h47 _ _ => pickS x17 (.fv (.bool true)) x46 fun x50 => guardS x50 false h47 (fun k51 => faddrS 2 x3 fun x52 => k51 x52 h47 [] []) fun x53 h54 _ _ => guardS x50 false h54 (fun k57 => load1 x53 h54 fun x58 r59 => k57 x58 h54 r59 []) fun x60 h61 _ _ => guardS x50 false h61 (fun k64 => lenS x60 fun x65 => k64 x65 h61 [] []) fun x66 h67 _ _ => S21_135 h67 x50 x7 x66 n x3 ih
noncomputable def S21_137 (x12 : IV) (x15 : IV) (h8 : Hp) (x3 : IV) (x7 : IV) (n : Nat) (ih : Handler) : Option (IV × Hp) :=
  neS EE 3 x12 x15 fun x17 => guardS x17 false h8 (fun k18 => faddrS 1 x3 fun x19 => k18 x19 h8 [] []) fun x20 h21 _ _ => guardS x17 false h21 (fun k24 => load1 x20 h21 fun x25 r26 => k24 x25 h21 r26 []) fun x27 h28 _ _ => guardS x17 false h28 (fun k31 => faddrS 1 x7 fun x32 => k31 x32 h28 [] []) fun x33 h34 _ _ => guardS x17 false h34 (fun k37 => load1 x33 h34 fun x38 r39 => k37 x38 h34 r39 []) fun x40 h41 _ _ => S21_136 h41 x17 x27 x40 x3 x7 n ih
noncomputable def S21 (ih : Handler) (n : Nat) (x0 : IV) (x1 : IV) (h2 : Hp) : Option (IV × Hp) :=
  boxS 22020096 x0 h2 fun x3 h4 _ _ => boxS 22020097 x1 h4 fun x7 h8 _ _ => faddrS 0 x3 fun x11 => load1 x11 h8 fun x12 _ => faddrS 0 x7 fun x14 => load1 x14 h8 fun x15 _ => S21_137 x12 x15 h8 x3 x7 n ih
theorem S21_ok (ih : Handler) (n : Nat) (x0 : IV) (x1 : IV) (h2 : Hp) : funS EE ih ft.get n 21 [x0, x1] h2 = S21 ih n x0 x1 h2 := by kernel_rfl
noncomputable def S27 (ih : Handler) (n : Nat) (x0 : IV) (x1 : IV) (h2 : Hp) : Option (IV × Hp) :=
  newS 28311552 (.row [.fv (.int .i64 0), .fv (.int .i64 0), .nils] false) (.ptr (.own 28311552) 0) h2 fun x3 h4 _ _ => bldS [.fv (.int .i64 0), .fv (.int .i64 0), .nils] [(0, 1, x0), (2, 1, x1)] fun x7 => storeA 3 x3 x7 h4 fun h8 _ _ => cellS true 3 x3 h8 fun x11 => outS1 [x11] h8
theorem S27_ok (ih : Handler) (n : Nat) (x0 : IV) (x1 : IV) (h2 : Hp) : funS EE ih ft.get n 27 [x0, x1] h2 = S27 ih n x0 x1 h2 := by kernel_rfl
noncomputable def S28 (ih : Handler) (n : Nat) (x0 : IV) (x1 : IV) (h2 : Hp) : Option (IV × Hp) :=
  binS EE 3 .rem x0 x1 fun x3 => (fun (j1_4 : IV → Hp → Option (IV × Hp)) => ltS EE 3 x3 (.fv (.int .i64 0)) fun x7 => condS x7 (addS EE 3 x3 x1 fun x8 => j1_4 x8 h2) (j1_4 x3 h2)) fun x5 h6 => outS1 [x5] h6
theorem S28_ok (ih : Handler) (n : Nat) (x0 : IV) (x1 : IV) (h2 : Hp) : funS EE ih ft.get n 28 [x0, x1] h2 = S28 ih n x0 x1 h2 := by kernel_rfl
noncomputable def S30_28 (h21 : Hp) (x12 : IV) (x20 : IV) : Option (IV × Hp) :=
  storeA 3 x12 x20 h21 fun h24 _ _ => cellS true 3 x12 h24 fun x27 => outS1 [x27] h24
noncomputable def S30 (ih : Handler) (n : Nat) (x0 : IV) (x1 : IV) (x2 : IV) (h3 : Hp) : Option (IV × Hp) :=
  boxS 31457280 x0 h3 fun x4 h5 _ _ => boxS 31457281 x2 h5 fun x8 h9 _ _ => newS 31457282 (.row [.fv (.int .i64 0), .fv (.int .i64 0), .nils] false) (.ptr (.own 31457282) 0) h9 fun x12 h13 _ _ => loadA 3 x4 h13 fun x16 _ => loadA 3 x8 h13 fun x18 _ => isoS [] false false ih 62 [x16, x1, .fv (.int .i64 0), x18] h13 fun x20 h21 _ _ => S30_28 h21 x12 x20
theorem S30_ok (ih : Handler) (n : Nat) (x0 : IV) (x1 : IV) (x2 : IV) (h3 : Hp) : funS EE ih ft.get n 30 [x0, x1, x2] h3 = S30 ih n x0 x1 x2 h3 := by kernel_rfl
noncomputable def S31_127 (h68 : Hp) (x71 : IV) (x67 : IV) (x36 : IV) (h3 : Hp) (x31 : IV) (x32 : IV) (x33 : IV) (x34 : IV) (x35 : IV) (q28 : List IV → Hp → Option (IV × Hp)) : Option (IV × Hp) :=
  store1 x71 x67 h68 fun h72 r73 w74 => chkS [] r73 w74 (addS EE 3 x36 (.fv (.int .i64 1)) fun x75 => dropS (h3.own.map (·.1)) [32513040] [x31, x32, x33, x34, x35, x75] h72 fun h76 => q28 [x31, x32, x33, x34, x35, x75] h76)
noncomputable def S31_128 (h60 : Hp) (x59 : IV) (r44 : List Ref) (x43 : IV) (x35 : IV) (x36 : IV) (h3 : Hp) (x31 : IV) (x32 : IV) (x33 : IV) (x34 : IV) (q28 : List IV → Hp → Option (IV × Hp)) : Option (IV × Hp) :=
  genS (pcBuildSlice EE 29 1 [(0, x59)]) 32513039 h60 fun x63 h64 r65 w66 => chkS [(r44, [])] r65 w66 (genS (builtinR EE 32513040 false .append [29, 29] [x43, x63]) 32513040 h64 fun x67 h68 r69 w70 => chkS [] r69 w70 (faddrS 2 x35 fun x71 => S31_127 h68 x71 x67 x36 h3 x31 x32 x33 x34 x35 q28))
noncomputable def S31_129 (ih : Handler) (h30 : Hp) (x52 : IV) (x36 : IV) (r50 : List Ref) (r47 : List Ref) (r44 : List Ref) (x32 : IV) (x49 : IV) (x31 : IV) (x43 : IV) (x35 : IV) (h3 : Hp) (x33 : IV) (x34 : IV) (q28 : List IV → Hp → Option (IV × Hp)) : Option (IV × Hp) :=
  isoS [] false false ih 63 [x52, x36] h30 fun x54 h55 r56 w57 => chkS [(r50, []), (r47, []), (r44, [])] r56 w57 (addS EE 3 x32 x54 fun x58 => isoS [] false false ih 31 [x49, x31, x58] h55 fun x59 h60 r61 w62 => chkS [(r44, [])] r61 w62 (S31_128 h60 x59 r44 x43 x35 x36 h3 x31 x32 x33 x34 q28))
noncomputable def S31_130 (h30 : Hp) (x48 : IV) (r44 : List Ref) (x33 : IV) (r47 : List Ref) (ih : Handler) (x36 : IV) (x32 : IV) (x31 : IV) (x43 : IV) (x35 : IV) (h3 : Hp) (x34 : IV) (q28 : List IV → Hp → Option (IV × Hp)) : Option (IV × Hp) :=
  loadA 3 x48 h30 fun x49 r50 => chkS [(r44, [])] r50 [] (faddrS 0 x33 fun x51 => load1 x51 h30 fun x52 r53 => chkS [(r50, []), (r47, []), (r44, [])] r53 [] (S31_129 ih h30 x52 x36 r50 r47 r44 x32 x49 x31 x43 x35 h3 x33 x34 q28))
noncomputable def S31_131 (r44 : List Ref) (x33 : IV) (h30 : Hp) (x36 : IV) (ih : Handler) (x32 : IV) (x31 : IV) (x43 : IV) (x35 : IV) (h3 : Hp) (x34 : IV) (q28 : List IV → Hp → Option (IV × Hp)) : Option (IV × Hp) :=
  chkS [] r44 [] (faddrS 2 x33 fun x45 => load1 x45 h30 fun x46 r47 => chkS [(r44, [])] r47 [] (ixS 3 x46 x36 fun x48 => S31_130 h30 x48 r44 x33 r47 ih x36 x32 x31 x43 x35 h3 x34 q28))
noncomputable def S31_132 (h79 : Hp) (x34 : IV) : Option (IV × Hp) :=
  cellS true 3 x34 h79 fun x82 => outS1 [x82] h79
noncomputable def S31_133 (x41 : IV) (x35 : IV) (h30 : Hp) (x33 : IV) (x36 : IV) (ih : Handler) (x32 : IV) (x31 : IV) (h3 : Hp) (x34 : IV) (q28 : List IV → Hp → Option (IV × Hp)) : Option (IV × Hp) :=
  condS x41 (faddrS 2 x35 fun x42 => load1 x42 h30 fun x43 r44 => S31_131 r44 x33 h30 x36 ih x32 x31 x43 x35 h3 x34 q28) (loadA 3 x35 h30 fun x77 _ => storeA 3 x34 x77 h30 fun h79 _ _ => S31_132 h79 x34)
noncomputable def S31_134 (l87 : List IV) (x33 : IV) (h30 : Hp) (x35 : IV) (ih : Handler) (x32 : IV) (x31 : IV) (h3 : Hp) (x34 : IV) (q28 : List IV → Hp → Option (IV × Hp)) : Option (IV × Hp) :=
  uncS l87 fun x36 _ => faddrS 2 x33 fun x37 => load1 x37 h30 fun x38 _ => lenS x38 fun x40 => ltS EE 3 x36 x40 fun x41 => S31_133 x41 x35 h30 x33 x36 ih x32 x31 h3 x34 q28
noncomputable def S31_135 (l29 : List IV) (h30 : Hp) (ih : Handler) (h3 : Hp) (q28 : List IV → Hp → Option (IV × Hp)) : Option (IV × Hp) :=
  uncS l29 fun x31 l83 => uncS l83 fun x32 l84 => uncS l84 fun x33 l85 => uncS l85 fun x34 l86 => uncS l86 fun x35 l87 => S31_134 l87 x33 h30 x35 ih x32 x31 h3 x34 q28
noncomputable def S31_136 (h3 : Hp) (h27 : Hp) (x1 : IV) (x2 : IV) (x4 : IV) (x8 : IV) (x19 : IV) (n : Nat) (ih : Handler) : Option (IV × Hp) :=
  dropS (h3.own.map (·.1)) [32513040] [x1, x2, x4, x8, x19, .fv (.int .i64 0)] h27 fun h89 => loopS n (fun q28 l29 h30 => S31_135 l29 h30 ih h3 q28) [x1, x2, x4, x8, x19, .fv (.int .i64 0)] h89
noncomputable def S31_137 (h115 : Hp) (x119 : IV) (x1 : IV) (x19 : IV) (j0_26 : Hp → Option (IV × Hp)) : Option (IV × Hp) :=
  load1 x119 h115 fun x120 _ => addS EE 3 x120 x1 fun x122 => faddrS 1 x19 fun x123 => store1 x123 x122 h115 fun h124 _ _ => j0_26 h124
noncomputable def S31_138 (h109 : Hp) (x93 : IV) (x103 : IV) (x108 : IV) (x4 : IV) (x1 : IV) (x19 : IV) (j0_26 : Hp → Option (IV × Hp)) : Option (IV × Hp) :=
  guardS x93 true h109 (fun k112 => geS EE 3 x103 x108 fun x113 => k112 x113 h109 [] []) fun x114 h115 _ _ => pickS x93 x114 (.fv (.bool false)) fun x118 => condS x118 (faddrS 1 x4 fun x119 => S31_137 h115 x119 x1 x19 j0_26) (j0_26 h115)
noncomputable def S31_139 (h23 : Hp) (x90 : IV) (x4 : IV) (x2 : IV) (x1 : IV) (x19 : IV) (j0_26 : Hp → Option (IV × Hp)) : Option (IV × Hp) :=
  load1 x90 h23 fun x91 _ => eqS EE 3 x91 (.fv (.int .i64 1)) fun x93 => guardS x93 true h23 (fun k94 => faddrS 1 x4 fun x95 => k94 x95 h23 [] []) fun x96 h97 _ _ => guardS x93 true h97 (fun k100 => load1 x96 h97 fun x101 r102 => k100 x101 h97 r102 []) fun x103 h104 _ _ => guardS x93 true h104 (fun k107 => k107 x2 h104 [] []) fun x108 h109 _ _ => S31_138 h109 x93 x103 x108 x4 x1 x19 j0_26
noncomputable def S31_140 (x13 : IV) (x16 : IV) (h9 : Hp) (h3 : Hp) (x1 : IV) (x2 : IV) (x4 : IV) (x8 : IV) (n : Nat) (ih : Handler) : Option (IV × Hp) :=
  bldS [.fv (.int .i64 0), .fv (.int .i64 0), .nils] [(0, 1, x13), (1, 1, x16)] fun x18 => newS 32506885 (.row [.fv (.int .i64 0), .fv (.int .i64 0), .nils] false) (.ptr (.own 32506885) 0) h9 fun x19 h20 _ _ => storeA 3 x19 x18 h20 fun h23 _ _ => (fun (j0_26 : Hp → Option (IV × Hp)) => faddrS 0 x4 fun x90 => S31_139 h23 x90 x4 x2 x1 x19 j0_26) fun h27 => S31_136 h3 h27 x1 x2 x4 x8 x19 n ih
noncomputable def S31 (ih : Handler) (n : Nat) (x0 : IV) (x1 : IV) (x2 : IV) (h3 : Hp) : Option (IV × Hp) :=
  boxS 32505856 x0 h3 fun x4 h5 _ _ => newS 32505857 (.row [.fv (.int .i64 0), .fv (.int .i64 0), .nils] false) (.ptr (.own 32505857) 0) h5 fun x8 h9 _ _ => faddrS 0 x4 fun x12 => load1 x12 h9 fun x13 _ => faddrS 1 x4 fun x15 => load1 x15 h9 fun x16 _ => S31_140 x13 x16 h9 h3 x1 x2 x4 x8 n ih
theorem S31_ok (ih : Handler) (n : Nat) (x0 : IV) (x1 : IV) (x2 : IV) (h3 : Hp) : funS EE ih ft.get n 31 [x0, x1, x2] h3 = S31 ih n x0 x1 x2 h3 := by kernel_rfl
noncomputable def S34 (ih : Handler) (n : Nat) (x0 : IV) (h1 : Hp) : Option (IV × Hp) :=
  newS 35651584 (.row [.fv (.int .i64 0), .fv (.int .i64 0), .nils] false) (.ptr (.own 35651584) 0) h1 fun x2 h3 _ _ => bldS [.fv (.int .i64 0), .fv (.int .i64 0), .nils] [(0, 1, .fv (.int .i64 1)), (1, 1, x0)] fun x6 => storeA 3 x2 x6 h3 fun h7 _ _ => cellS true 3 x2 h7 fun x10 => outS1 [x10] h7
theorem S34_ok (ih : Handler) (n : Nat) (x0 : IV) (h1 : Hp) : funS EE ih ft.get n 34 [x0] h1 = S34 ih n x0 h1 := by kernel_rfl
noncomputable def S35_49 (ih : Handler) (h28 : Hp) (x27 : IV) (x22 : IV) (x23 : IV) (q17 : List IV → Hp → Option (IV × Hp)) (x20 : IV) (x21 : IV) : Option (IV × Hp) :=
  isoS [] false false ih 27 [.fv (.int .i64 12), x27] h28 fun x31 h32 _ _ => storeA 3 x22 x31 h32 fun h35 _ _ => addS EE 3 x23 (.fv (.int .i64 1)) fun x38 => q17 [x20, x21, x22, x38] h35
noncomputable def S35_50 (h41 : Hp) (x21 : IV) : Option (IV × Hp) :=
  cellS true 3 x21 h41 fun x44 => outS1 [x44] h41
noncomputable def S35_51 (x24 : IV) (h19 : Hp) (x22 : IV) (ih : Handler) (x23 : IV) (q17 : List IV → Hp → Option (IV × Hp)) (x20 : IV) (x21 : IV) : Option (IV × Hp) :=
  condS x24 (loadA 3 x22 h19 fun x25 _ => genS (pcBuildSlice EE 29 1 [(0, x25)]) 36705281 h19 fun x27 h28 _ _ => S35_49 ih h28 x27 x22 x23 q17 x20 x21) (loadA 3 x22 h19 fun x39 _ => storeA 3 x21 x39 h19 fun h41 _ _ => S35_50 h41 x21)
noncomputable def S35_52 (l18 : List IV) (h19 : Hp) (ih : Handler) (q17 : List IV → Hp → Option (IV × Hp)) : Option (IV × Hp) :=
  uncS l18 fun x20 l45 => uncS l45 fun x21 l46 => uncS l46 fun x22 l47 => uncS l47 fun x23 _ => ltS EE 3 x23 x20 fun x24 => S35_51 x24 h19 x22 ih x23 q17 x20 x21
noncomputable def S35 (ih : Handler) (n : Nat) (x0 : IV) (h1 : Hp) : Option (IV × Hp) :=
  newS 36700160 (.row [.fv (.int .i64 0), .fv (.int .i64 0), .nils] false) (.ptr (.own 36700160) 0) h1 fun x2 h3 _ _ => isoS [] false false ih 27 [.fv (.int .i64 11), .nils] h3 fun x6 h7 _ _ => newS 36701185 (.row [.fv (.int .i64 0), .fv (.int .i64 0), .nils] false) (.ptr (.own 36701185) 0) h7 fun x10 h11 _ _ => storeA 3 x10 x6 h11 fun h14 _ _ => loopS n (fun q17 l18 h19 => S35_52 l18 h19 ih q17) [x0, x2, x10, .fv (.int .i64 0)] h14
theorem S35_ok (ih : Handler) (n : Nat) (x0 : IV) (h1 : Hp) : funS EE ih ft.get n 35 [x0] h1 = S35 ih n x0 h1 := by kernel_rfl
noncomputable def S36_32 (x11 : IV) (q6 : List IV → Hp → Option (IV × Hp)) (h24 : Hp) (x9 : IV) (x27 : IV) : Option (IV × Hp) :=
  addS EE 3 x11 (.fv (.int .i64 1)) fun x28 => q6 [x9, x27, x28] h24
noncomputable def S36_33 (h8 : Hp) (x17 : IV) (x11 : IV) (ih : Handler) (x10 : IV) (q6 : List IV → Hp → Option (IV × Hp)) (x9 : IV) : Option (IV × Hp) :=
  load1 x17 h8 fun x18 _ => ixS 3 x18 x11 fun x20 => loadA 3 x20 h8 fun x21 _ => isoS [] false false ih 36 [x21] h8 fun x23 h24 _ _ => addS EE 3 x10 x23 fun x27 => S36_32 x11 q6 h24 x9 x27
noncomputable def S36_34 (x13 : IV) (x11 : IV) (x9 : IV) (h8 : Hp) (ih : Handler) (x10 : IV) (q6 : List IV → Hp → Option (IV × Hp)) : Option (IV × Hp) :=
  lenS x13 fun x15 => ltS EE 3 x11 x15 fun x16 => condS x16 (faddrS 2 x9 fun x17 => S36_33 h8 x17 x11 ih x10 q6 x9) (outS1 [x10] h8)
noncomputable def S36_35 (l7 : List IV) (h8 : Hp) (ih : Handler) (q6 : List IV → Hp → Option (IV × Hp)) : Option (IV × Hp) :=
  uncS l7 fun x9 l29 => uncS l29 fun x10 l30 => uncS l30 fun x11 _ => faddrS 2 x9 fun x12 => load1 x12 h8 fun x13 _ => S36_34 x13 x11 x9 h8 ih x10 q6
noncomputable def S36 (ih : Handler) (n : Nat) (x0 : IV) (h1 : Hp) : Option (IV × Hp) :=
  boxS 37748736 x0 h1 fun x2 h3 _ _ => loopS n (fun q6 l7 h8 => S36_35 l7 h8 ih q6) [x2, .fv (.int .i64 1), .fv (.int .i64 0)] h3
theorem S36_ok (ih : Handler) (n : Nat) (x0 : IV) (h1 : Hp) : funS EE ih ft.get n 36 [x0] h1 = S36 ih n x0 h1 := by kernel_rfl
noncomputable def S43 (ih : Handler) (n : Nat) (x0 : IV) (h1 : Hp) : Option (IV × Hp) :=
  newS 45088768 (.row [.fv (.int .i64 0), .fv (.int .i64 0), .nils] false) (.ptr (.own 45088768) 0) h1 fun x2 h3 _ _ => bldS [.fv (.int .i64 0), .fv (.int .i64 0), .nils] [(0, 1, .fv (.int .i64 25)), (1, 1, x0)] fun x6 => storeA 3 x2 x6 h3 fun h7 _ _ => cellS true 3 x2 h7 fun x10 => outS1 [x10] h7
theorem S43_ok (ih : Handler) (n : Nat) (x0 : IV) (h1 : Hp) : funS EE ih ft.get n 43 [x0] h1 = S43 ih n x0 h1 := by kernel_rfl
noncomputable def S48_264 (h20 : Hp) (x5 : IV) : Option (IV × Hp) :=
  bldS [.fv (.int .i64 0), .fv (.int .i64 0), .nils] [] fun x26 => storeA 3 x5 x26 h20 fun h27 _ _ => cellS true 3 x5 h27 fun x30 => outS1 [x30] h27
noncomputable def S48_265 (ih : Handler) (h20 : Hp) (x41 : IV) (x5 : IV) : Option (IV × Hp) :=
  isoS [] false false ih 34 [x41] h20 fun x42 h43 _ _ => storeA 3 x5 x42 h43 fun h46 _ _ => cellS true 3 x5 h46 fun x49 => outS1 [x49] h46
noncomputable def S48_266 (x2 : IV) (x1 : IV) (h20 : Hp) (ih : Handler) (x5 : IV) : Option (IV × Hp) :=
  subS EE 3 x2 (.fv (.int .i64 1)) fun x36 => nilS x1 fun x37 => faddrS 1 x37 fun x38 => load1 x38 h20 fun x39 _ => subS EE 3 x36 x39 fun x41 => S48_265 ih h20 x41 x5
noncomputable def S48_267 (h4 : Hp) (h126 : Hp) (x98 : IV) (x99 : IV) (x100 : IV) (x101 : IV) (x102 : IV) (x103 : IV) (x129 : IV) (q66 : List IV → Hp → Option (IV × Hp)) : Option (IV × Hp) :=
  dropS (h4.own.map (·.1)) [50351109, 50353163] [x98, x99, x100, x101, x102, x103, x129] h126 fun h130 => q66 [x98, x99, x100, x101, x102, x103, x129] h130
noncomputable def S48_268 (r123 : List Ref) (w124 : List Ref) (x103 : IV) (h122 : Hp) (x121 : IV) (x104 : IV) (h4 : Hp) (x98 : IV) (x99 : IV) (x100 : IV) (x101 : IV) (x102 : IV) (q66 : List IV → Hp → Option (IV × Hp)) : Option (IV × Hp) :=
  chkS [] r123 w124 (faddrS 2 x103 fun x125 => store1 x125 x121 h122 fun h126 r127 w128 => chkS [] r127 w128 (addS EE 3 x104 (.fv (.int .i64 1)) fun x129 => S48_267 h4 h126 x98 x99 x100 x101 x102 x103 x129 q66))
noncomputable def S48_269 (ih : Handler) (h107 : Hp) (x98 : IV) (x106 : IV) (x111 : IV) (x112 : IV) (r110 : List Ref) (x109 : IV) (x103 : IV) (x104 : IV) (h4 : Hp) (x99 : IV) (x100 : IV) (x101 : IV) (x102 : IV) (q66 : List IV → Hp → Option (IV × Hp)) : Option (IV × Hp) :=
  isoS [true, false, false, false] false false ih 48 [x98, x106, x111, x112] h107 fun x113 h114 r115 w116 => chkS [(r110, [])] r115 w116 (genS (pcBuildSlice EE 29 1 [(0, x113)]) 50353162 h114 fun x117 h118 r119 w120 => chkS [(r110, [])] r119 w120 (genS (builtinR EE 50353163 false .append [29, 29] [x109, x117]) 50353163 h118 fun x121 h122 r123 w124 => S48_268 r123 w124 x103 h122 x121 x104 h4 x98 x99 x100 x101 x102 q66))
noncomputable def S48_270 (x103 : IV) (h107 : Hp) (x100 : IV) (x105 : IV) (x101 : IV) (ih : Handler) (x98 : IV) (x106 : IV) (x104 : IV) (h4 : Hp) (x99 : IV) (x102 : IV) (q66 : List IV → Hp → Option (IV × Hp)) : Option (IV × Hp) :=
  faddrS 2 x103 fun x108 => load1 x108 h107 fun x109 r110 => chkS [] r110 [] (addS EE 3 x100 x105 fun x111 => addS EE 3 x101 (.fv (.int .i64 1)) fun x112 => S48_269 ih h107 x98 x106 x111 x112 r110 x109 x103 x104 h4 x99 x100 x101 x102 q66)
noncomputable def S48_271 (h4 : Hp) (h162 : Hp) (x139 : IV) (x140 : IV) (x141 : IV) (x142 : IV) (x143 : IV) (x144 : IV) (x145 : IV) (x146 : IV) (x147 : IV) (x161 : IV) (x165 : IV) (q136 : List IV → Hp → Option (IV × Hp)) : Option (IV × Hp) :=
  dropS (h4.own.map (·.1)) [50351109] [x139, x140, x141, x142, x143, x144, x145, x146, x147, x161, x165] h162 fun h166 => q136 [x139, x140, x141, x142, x143, x144, x145, x146, x147, x161, x165] h166
noncomputable def S48_272 (x151 : IV) (h138 : Hp) (ih : Handler) (x148 : IV) (x149 : IV) (h4 : Hp) (x139 : IV) (x140 : IV) (x141 : IV) (x142 : IV) (x143 : IV) (x144 : IV) (x145 : IV) (x146 : IV) (x147 : IV) (q136 : List IV → Hp → Option (IV × Hp)) : Option (IV × Hp) :=
  bldS [.fv (.int .i64 0), .fv (.int .i64 0), .nils, .nils, .fv (.int .i64 0), .fv (.int .i64 0), .nils] [(0, 1, .fv (.int .i64 1)), (1, 1, x151)] fun x152 => fzS (pcBox true 50351109 x152) 50351109 x152 h138 fun x153 h154 _ _ => genS (pcBuildSlice EE 93 1 [(0, x153)]) 50351110 h154 fun x157 h158 _ _ => isoS [] false false ih 69 [x148, x157] h158 fun x161 h162 _ _ => addS EE 3 x149 (.fv (.int .i64 1)) fun x165 => S48_271 h4 h162 x139 x140 x141 x142 x143 x144 x145 x146 x147 x161 x165 q136
noncomputable def S48_273 (x167 : IV) (h138 : Hp) (ih : Handler) (x139 : IV) (x148 : IV) (j9_97 : IV → IV → IV → IV → IV → IV → IV → IV → IV → Hp → Option (IV × Hp)) (x140 : IV) (x141 : IV) (x142 : IV) (x143 : IV) (x144 : IV) (x145 : IV) (x146 : IV) : Option (IV × Hp) :=
  faddrS 4 x167 fun x168 => loadA 3 x168 h138 fun x169 _ => isoS [true, false, false] false false ih 49 [x139, x169, x148] h138 fun x171 h172 _ _ => j9_97 x139 x140 x141 x142 x143 x144 x145 x146 x171 h172
noncomputable def S48_274 (l184 : List IV) (x146 : IV) (x141 : IV) (h138 : Hp) (ih : Handler) (x148 : IV) (h4 : Hp) (x139 : IV) (x140 : IV) (x142 : IV) (x143 : IV) (x144 : IV) (x145 : IV) (x147 : IV) (q136 : List IV → Hp → Option (IV × Hp)) (j9_97 : IV → IV → IV → IV → IV → IV → IV → IV → IV → Hp → Option (IV × Hp)) : Option (IV × Hp) :=
  uncS l184 fun x149 _ => ltS EE 3 x149 x146 fun x150 => condS x150 (addS EE 3 x141 x149 fun x151 => S48_272 x151 h138 ih x148 x149 h4 x139 x140 x141 x142 x143 x144 x145 x146 x147 q136) (nilS x147 fun x167 => S48_273 x167 h138 ih x139 x148 j9_97 x140 x141 x142 x143 x144 x145 x146)
noncomputable def S48_275 (l179 : List IV) (x141 : IV) (h138 : Hp) (ih : Handler) (h4 : Hp) (x139 : IV) (x140 : IV) (x142 : IV) (x143 : IV) (q136 : List IV → Hp → Option (IV × Hp)) (j9_97 : IV → IV → IV → IV → IV → IV → IV → IV → IV → Hp → Option (IV × Hp)) : Option (IV × Hp) :=
  uncS l179 fun x144 l180 => uncS l180 fun x145 l181 => uncS l181 fun x146 l182 => uncS l182 fun x147 l183 => uncS l183 fun x148 l184 => S48_274 l184 x146 x141 h138 ih x148 h4 x139 x140 x142 x143 x144 x145 x147 q136 j9_97
noncomputable def S48_276 (l137 : List IV) (h138 : Hp) (ih : Handler) (h4 : Hp) (q136 : List IV → Hp → Option (IV × Hp)) (j9_97 : IV → IV → IV → IV → IV → IV → IV → IV → IV → Hp → Option (IV × Hp)) : Option (IV × Hp) :=
  uncS l137 fun x139 l175 => uncS l175 fun x140 l176 => uncS l176 fun x141 l177 => uncS l177 fun x142 l178 => uncS l178 fun x143 l179 => S48_275 l179 x141 h138 ih h4 x139 x140 x142 x143 q136 j9_97
noncomputable def S48_277 (h87 : Hp) (x133 : IV) (h4 : Hp) (x69 : IV) (x70 : IV) (x71 : IV) (x72 : IV) (x73 : IV) (x74 : IV) (x75 : IV) (x86 : IV) (x95 : IV) (n : Nat) (ih : Handler) (j9_97 : IV → IV → IV → IV → IV → IV → IV → IV → IV → Hp → Option (IV × Hp)) : Option (IV × Hp) :=
  load1 x133 h87 fun x134 _ => dropS (h4.own.map (·.1)) [50351109] [x69, x70, x71, x72, x73, x74, x75, x86, x95, x134, .fv (.int .i64 0)] h87 fun h186 => loopS n (fun q136 l137 h138 => S48_276 l137 h138 ih h4 q136 j9_97) [x69, x70, x71, x72, x73, x74, x75, x86, x95, x134, .fv (.int .i64 0)] h186
noncomputable def S48_278 (x131 : IV) (x95 : IV) (h87 : Hp) (h4 : Hp) (x69 : IV) (x70 : IV) (x71 : IV) (x72 : IV) (x73 : IV) (x74 : IV) (x75 : IV) (x86 : IV) (n : Nat) (ih : Handler) (j9_97 : IV → IV → IV → IV → IV → IV → IV → IV → IV → Hp → Option (IV × Hp)) : Option (IV × Hp) :=
  condS x131 (nilS x95 fun x132 => faddrS 3 x132 fun x133 => S48_277 h87 x133 h4 x69 x70 x71 x72 x73 x74 x75 x86 x95 n ih j9_97) (j9_97 x69 x70 x71 x72 x73 x74 x75 x86 x95 h87)
noncomputable def S48_279 (h87 : Hp) (x91 : IV) (x75 : IV) (ih : Handler) (h4 : Hp) (q66 : List IV → Hp → Option (IV × Hp)) (x86 : IV) (x69 : IV) (x70 : IV) (x71 : IV) (x72 : IV) (x73 : IV) (x74 : IV) (n : Nat) : Option (IV × Hp) :=
  load1 x91 h87 fun x92 _ => ixS 1 x92 x75 fun x94 => load1 x94 h87 fun x95 _ => (fun (j9_97 : IV → IV → IV → IV → IV → IV → IV → IV → IV → Hp → Option (IV × Hp)) => gtS EE 3 x86 (.fv (.int .i64 0)) fun x131 => S48_278 x131 x95 h87 h4 x69 x70 x71 x72 x73 x74 x75 x86 n ih j9_97) fun x98 x99 x100 x101 x102 x103 x104 x105 x106 h107 => S48_270 x103 h107 x100 x105 x101 ih x98 x106 x104 h4 x99 x102 q66
noncomputable def S48_280 (x82 : IV) (h68 : Hp) (ih : Handler) (x75 : IV) (x70 : IV) (h4 : Hp) (q66 : List IV → Hp → Option (IV × Hp)) (x69 : IV) (x71 : IV) (x72 : IV) (x73 : IV) (x74 : IV) (n : Nat) : Option (IV × Hp) :=
  faddrS 0 x82 fun x83 => load1 x83 h68 fun x84 _ => isoS [] false false ih 63 [x84, x75] h68 fun x86 h87 _ _ => nilS x70 fun x90 => faddrS 2 x90 fun x91 => S48_279 h87 x91 x75 ih h4 q66 x86 x69 x70 x71 x72 x73 x74 n
noncomputable def S48_281 (h68 : Hp) (x73 : IV) (x187 : IV) : Option (IV × Hp) :=
  storeA 3 x73 x187 h68 fun h189 _ _ => cellS true 3 x73 h189 fun x192 => outS1 [x192] h189
noncomputable def S48_282 (x78 : IV) (x75 : IV) (x70 : IV) (h68 : Hp) (ih : Handler) (h4 : Hp) (q66 : List IV → Hp → Option (IV × Hp)) (x69 : IV) (x71 : IV) (x72 : IV) (x73 : IV) (x74 : IV) (n : Nat) : Option (IV × Hp) :=
  lenS x78 fun x80 => ltS EE 3 x75 x80 fun x81 => condS x81 (nilS x70 fun x82 => S48_280 x82 h68 ih x75 x70 h4 q66 x69 x71 x72 x73 x74 n) (loadA 3 x74 h68 fun x187 _ => S48_281 h68 x73 x187)
noncomputable def S48_283 (l197 : List IV) (x70 : IV) (h68 : Hp) (ih : Handler) (h4 : Hp) (q66 : List IV → Hp → Option (IV × Hp)) (x69 : IV) (x71 : IV) (x72 : IV) (x73 : IV) (n : Nat) : Option (IV × Hp) :=
  uncS l197 fun x74 l198 => uncS l198 fun x75 _ => nilS x70 fun x76 => faddrS 2 x76 fun x77 => load1 x77 h68 fun x78 _ => S48_282 x78 x75 x70 h68 ih h4 q66 x69 x71 x72 x73 x74 n
noncomputable def S48_284 (l67 : List IV) (h68 : Hp) (ih : Handler) (h4 : Hp) (q66 : List IV → Hp → Option (IV × Hp)) (n : Nat) : Option (IV × Hp) :=
  uncS l67 fun x69 l193 => uncS l193 fun x70 l194 => uncS l194 fun x71 l195 => uncS l195 fun x72 l196 => uncS l196 fun x73 l197 => S48_283 l197 x70 h68 ih h4 q66 x69 x71 x72 x73 n
noncomputable def S48_285 (r61 : List Ref) (w62 : List Ref) (r57 : List Ref) (r53 : List Ref) (h60 : Hp) (x59 : IV) (x58 : IV) (h4 : Hp) (x0 : IV) (x1 : IV) (x2 : IV) (x3 : IV) (x5 : IV) (n : Nat) (ih : Handler) : Option (IV × Hp) :=
  chkS [(r57, []), (r53, [])] r61 w62 (storeA 3 x59 x58 h60 fun h63 r64 w65 => chkS [] r64 w65 (dropS (h4.own.map (·.1)) [50351109, 50353163] [x0, x1, x2, x3, x5, x59, .fv (.int .i64 0)] h63 fun h200 => loopS n (fun q66 l67 h68 => S48_284 l67 h68 ih h4 q66 n) [x0, x1, x2, x3, x5, x59, .fv (.int .i64 0)] h200))
noncomputable def S48_286 (x54 : IV) (h20 : Hp) (r53 : List Ref) (x52 : IV) (h4 : Hp) (x0 : IV) (x1 : IV) (x2 : IV) (x3 : IV) (x5 : IV) (n : Nat) (ih : Handler) : Option (IV × Hp) :=
  faddrS 1 x54 fun x55 => load1 x55 h20 fun x56 r57 => chkS [(r53, [])] r57 [] (bldS [.fv (.int .i64 0), .fv (.int .i64 0), .nils] [(0, 1, x52), (1, 1, x56)] fun x58 => newS 50339849 (.row [.fv (.int .i64 0), .fv (.int .i64 0), .nils] false) (.ptr (.own 50339849) 0) h20 fun x59 h60 r61 w62 => S48_285 r61 w62 r57 r53 h60 x59 x58 h4 x0 x1 x2 x3 x5 n ih)
noncomputable def S48_287 (x1 : IV) (h20 : Hp) (h4 : Hp) (x0 : IV) (x2 : IV) (x3 : IV) (x5 : IV) (n : Nat) (ih : Handler) : Option (IV × Hp) :=
  nilS x1 fun x50 => faddrS 0 x50 fun x51 => load1 x51 h20 fun x52 r53 => chkS [] r53 [] (nilS x1 fun x54 => S48_286 x54 h20 r53 x52 h4 x0 x1 x2 x3 x5 n ih)
noncomputable def S48_288 (x1 : IV) (h20 : Hp) (x2 : IV) (ih : Handler) (x5 : IV) (h4 : Hp) (x0 : IV) (x3 : IV) (n : Nat) : Option (IV × Hp) :=
  nilS x1 fun x31 => faddrS 0 x31 fun x32 => load1 x32 h20 fun x33 _ => eqS EE 3 x33 (.fv (.int .i64 1)) fun x35 => condS x35 (S48_266 x2 x1 h20 ih x5) (S48_287 x1 h20 h4 x0 x2 x3 x5 n ih)
noncomputable def S48_289 (x0 : IV) (h20 : Hp) (x5 : IV) (x1 : IV) (x2 : IV) (ih : Handler) (h4 : Hp) (x3 : IV) (n : Nat) : Option (IV × Hp) :=
  nilS x0 fun x21 => faddrS 2 x21 fun x22 => load1 x22 h20 fun x23 _ => neS EE 3 x23 (.fv (.int .i64 0)) fun x25 => condS x25 (S48_264 h20 x5) (S48_288 x1 h20 x2 ih x5 h4 x0 x3 n)
noncomputable def S48_290 (x259 : IV) (h255 : Hp) (j0_19 : Hp → Option (IV × Hp)) : Option (IV × Hp) :=
  faddrS 2 x259 fun x260 => store1 x260 (.fv (.int .i64 5)) h255 fun h261 _ _ => j0_19 h261
noncomputable def S48_291 (h249 : Hp) (x205 : IV) (x237 : IV) (x248 : IV) (x0 : IV) (j0_19 : Hp → Option (IV × Hp)) : Option (IV × Hp) :=
  guardS x205 true h249 (fun k252 => pickS x237 (.fv (.bool true)) x248 fun x253 => k252 x253 h249 [] []) fun x254 h255 _ _ => pickS x205 x254 (.fv (.bool false)) fun x258 => condS x258 (nilS x0 fun x259 => S48_290 x259 h255 j0_19) (j0_19 h255)
noncomputable def S48_292 (h220 : Hp) (x205 : IV) (x219 : IV) (x3 : IV) (x0 : IV) (j0_19 : Hp → Option (IV × Hp)) : Option (IV × Hp) :=
  guardS x205 true h220 (fun k223 => load1 x219 h220 fun x224 r225 => k223 x224 h220 r225 []) fun x226 h227 _ _ => guardS x205 true h227 (fun k230 => gtS EE 3 x226 (.fv (.int .i64 3000)) fun x231 => k230 x231 h227 [] []) fun x232 h233 _ _ => guardS x205 true h233 (fun k236 => k236 x232 h233 [] []) fun x237 h238 _ _ => guardS x237 false h238 (fun k241 => k241 x3 h238 [] []) fun x242 h243 _ _ => guardS x237 false h243 (fun k246 => gtS EE 3 x242 (.fv (.int .i64 120)) fun x247 => k246 x247 h243 [] []) fun x248 h249 _ _ => S48_291 h249 x205 x237 x248 x0 j0_19
noncomputable def S48_293 (h16 : Hp) (x202 : IV) (x0 : IV) (x3 : IV) (j0_19 : Hp → Option (IV × Hp)) : Option (IV × Hp) :=
  load1 x202 h16 fun x203 _ => eqS EE 3 x203 (.fv (.int .i64 0)) fun x205 => guardS x205 true h16 (fun k206 => k206 x0 h16 [] []) fun x207 h208 _ _ => guardS x205 true h208 (fun k211 => nilS x207 fun x212 => k211 x212 h208 [] []) fun x213 h214 _ _ => guardS x205 true h214 (fun k217 => faddrS 1 x213 fun x218 => k217 x218 h214 [] []) fun x219 h220 _ _ => S48_292 h220 x205 x219 x3 x0 j0_19
noncomputable def S48_294 (x14 : IV) (h6 : Hp) (x13 : IV) (x0 : IV) (x5 : IV) (x1 : IV) (x2 : IV) (ih : Handler) (h4 : Hp) (x3 : IV) (n : Nat) : Option (IV × Hp) :=
  faddrS 1 x14 fun x15 => store1 x15 x13 h6 fun h16 _ _ => (fun (j0_19 : Hp → Option (IV × Hp)) => nilS x0 fun x201 => faddrS 2 x201 fun x202 => S48_293 h16 x202 x0 x3 j0_19) fun h20 => S48_289 x0 h20 x5 x1 x2 ih h4 x3 n
noncomputable def S48 (ih : Handler) (n : Nat) (x0 : IV) (x1 : IV) (x2 : IV) (x3 : IV) (h4 : Hp) : Option (IV × Hp) :=
  newS 50331648 (.row [.fv (.int .i64 0), .fv (.int .i64 0), .nils] false) (.ptr (.own 50331648) 0) h4 fun x5 h6 _ _ => nilS x0 fun x9 => faddrS 1 x9 fun x10 => load1 x10 h6 fun x11 _ => addS EE 3 x11 (.fv (.int .i64 1)) fun x13 => nilS x0 fun x14 => S48_294 x14 h6 x13 x0 x5 x1 x2 ih h4 x3 n
theorem S48_ok (ih : Handler) (n : Nat) (x0 : IV) (x1 : IV) (x2 : IV) (x3 : IV) (h4 : Hp) : funS EE ih ft.get n 48 [x0, x1, x2, x3] h4 = S48 ih n x0 x1 x2 x3 h4 := by kernel_rfl
noncomputable def S49_148 (h5 : Hp) : Option (IV × Hp) :=
  bldS [.fv (.int .i64 0), .fv (.int .i64 0), .nils, .nils, .fv (.int .i64 0), .fv (.int .i64 0), .nils] [(0, 1, .fv (.int .i64 11))] fun x13 => boxS 51382273 x13 h5 fun x14 h15 _ _ => outS1 [x14] h15
noncomputable def S49_149 (h5 : Hp) (x33 : IV) : Option (IV × Hp) :=
  load1 x33 h5 fun x34 _ => outS1 [x34] h5
noncomputable def S49_150 (x27 : IV) (x4 : IV) (h5 : Hp) (x2 : IV) : Option (IV × Hp) :=
  subS EE 3 x27 (.fv (.int .i64 1)) fun x28 => faddrS 1 x4 fun x29 => load1 x29 h5 fun x30 _ => subS EE 3 x28 x30 fun x32 => ixS 1 x2 x32 fun x33 => S49_149 h5 x33
noncomputable def S49_151 (h5 : Hp) (x42 : IV) : Option (IV × Hp) :=
  boxS 51386375 x42 h5 fun x43 h44 _ _ => outS1 [x43] h44
noncomputable def S49_152 (x36 : IV) (x4 : IV) (h5 : Hp) : Option (IV × Hp) :=
  subS EE 3 x36 (.fv (.int .i64 1)) fun x37 => faddrS 1 x4 fun x38 => load1 x38 h5 fun x39 _ => subS EE 3 x37 x39 fun x41 => bldS [.fv (.int .i64 0), .fv (.int .i64 0), .nils, .nils, .fv (.int .i64 0), .fv (.int .i64 0), .nils] [(0, 1, .fv (.int .i64 1)), (1, 1, x41)] fun x42 => S49_151 h5 x42
noncomputable def S49_153 (h5 : Hp) (x22 : IV) (x2 : IV) (x4 : IV) : Option (IV × Hp) :=
  load1 x22 h5 fun x23 _ => lenS x2 fun x25 => ltS EE 3 x23 x25 fun x26 => condS x26 (lenS x2 fun x27 => S49_150 x27 x4 h5 x2) (lenS x2 fun x36 => S49_152 x36 x4 h5)
noncomputable def S49_154 (x65 : IV) (h3 : Hp) (h72 : Hp) (x61 : IV) (x62 : IV) (x63 : IV) (x64 : IV) (q58 : List IV → Hp → Option (IV × Hp)) : Option (IV × Hp) :=
  addS EE 3 x65 (.fv (.int .i64 1)) fun x73 => dropS (h3.own.map (·.1)) [51392524, 51392526, 51393550] [x61, x62, x63, x64, x73] h72 fun h74 => q58 [x61, x62, x63, x64, x73] h74
noncomputable def S49_155 (x64 : IV) (h103 : Hp) (x102 : IV) (j0_71 : Hp → Option (IV × Hp)) : Option (IV × Hp) :=
  nilS x64 fun x106 => faddrS 2 x106 fun x107 => store1 x107 x102 h103 fun h108 r109 w110 => chkS [] r109 w110 (j0_71 h108)
noncomputable def S49_156 (r96 : List Ref) (w97 : List Ref) (r86 : List Ref) (h95 : Hp) (x94 : IV) (x85 : IV) (x64 : IV) (j0_71 : Hp → Option (IV × Hp)) : Option (IV × Hp) :=
  chkS [(r86, [])] r96 w97 (genS (pcBuildSlice EE 93 1 [(0, x94)]) 51392525 h95 fun x98 h99 r100 w101 => chkS [(r86, [])] r100 w101 (genS (builtinR EE 51392526 false .append [93, 93] [x85, x98]) 51392526 h99 fun x102 h103 r104 w105 => chkS [] r104 w105 (S49_155 x64 h103 x102 j0_71)))
noncomputable def S49_157 (x88 : IV) (x65 : IV) (h79 : Hp) (r86 : List Ref) (x62 : IV) (x85 : IV) (x64 : IV) (j0_71 : Hp → Option (IV × Hp)) : Option (IV × Hp) :=
  ixS 3 x88 x65 fun x90 => loadA 3 x90 h79 fun x91 r92 => chkS [(r86, [])] r92 [] (bldS [.fv (.int .i64 0), .fv (.int .i64 0), .nils, .nils, .fv (.int .i64 0), .fv (.int .i64 0), .nils] [(3, 1, x62), (4, 3, x91)] fun x93 => boxS 51392524 x93 h79 fun x94 h95 r96 w97 => S49_156 r96 w97 r86 h95 x94 x85 x64 j0_71)
noncomputable def S49_158 (h79 : Hp) (x84 : IV) (x63 : IV) (x65 : IV) (x62 : IV) (x64 : IV) (j0_71 : Hp → Option (IV × Hp)) : Option (IV × Hp) :=
  load1 x84 h79 fun x85 r86 => chkS [] r86 [] (faddrS 2 x63 fun x87 => load1 x87 h79 fun x88 r89 => chkS [(r86, [])] r89 [] (S49_157 x88 x65 h79 r86 x62 x85 x64 j0_71))
noncomputable def S49_159 (x133 : IV) (h130 : Hp) (x129 : IV) (j0_71 : Hp → Option (IV × Hp)) : Option (IV × Hp) :=
  faddrS 2 x133 fun x134 => store1 x134 x129 h130 fun h135 r136 w137 => chkS [] r136 w137 (j0_71 h135)
noncomputable def S49_160 (h122 : Hp) (x121 : IV) (r114 : List Ref) (x113 : IV) (x64 : IV) (j0_71 : Hp → Option (IV × Hp)) : Option (IV × Hp) :=
  genS (pcBuildSlice EE 93 1 [(0, x121)]) 51393549 h122 fun x125 h126 r127 w128 => chkS [(r114, [])] r127 w128 (genS (builtinR EE 51393550 false .append [93, 93] [x113, x125]) 51393550 h126 fun x129 h130 r131 w132 => chkS [] r131 w132 (nilS x64 fun x133 => S49_159 x133 h130 x129 j0_71))
noncomputable def S49_161 (x116 : IV) (x65 : IV) (h79 : Hp) (r114 : List Ref) (ih : Handler) (x61 : IV) (x62 : IV) (x113 : IV) (x64 : IV) (j0_71 : Hp → Option (IV × Hp)) : Option (IV × Hp) :=
  ixS 3 x116 x65 fun x118 => loadA 3 x118 h79 fun x119 r120 => chkS [(r114, [])] r120 [] (isoS [true, false, false] false false ih 49 [x61, x119, x62] h79 fun x121 h122 r123 w124 => chkS [(r114, [])] r123 w124 (S49_160 h122 x121 r114 x113 x64 j0_71))
noncomputable def S49_162 (h79 : Hp) (x112 : IV) (x63 : IV) (x65 : IV) (ih : Handler) (x61 : IV) (x62 : IV) (x64 : IV) (j0_71 : Hp → Option (IV × Hp)) : Option (IV × Hp) :=
  load1 x112 h79 fun x113 r114 => chkS [] r114 [] (faddrS 2 x63 fun x115 => load1 x115 h79 fun x116 r117 => chkS [(r114, [])] r117 [] (S49_161 x116 x65 h79 r114 ih x61 x62 x113 x64 j0_71))
noncomputable def S49_163 (x82 : IV) (x64 : IV) (h79 : Hp) (x63 : IV) (x65 : IV) (x62 : IV) (j0_71 : Hp → Option (IV × Hp)) (ih : Handler) (x61 : IV) : Option (IV × Hp) :=
  condS x82 (nilS x64 fun x83 => faddrS 2 x83 fun x84 => S49_158 h79 x84 x63 x65 x62 x64 j0_71) (nilS x64 fun x111 => faddrS 2 x111 fun x112 => S49_162 h79 x112 x63 x65 ih x61 x62 x64 j0_71)
noncomputable def S49_164 (x65 : IV) (h3 : Hp) (x61 : IV) (x62 : IV) (x63 : IV) (x64 : IV) (q58 : List IV → Hp → Option (IV × Hp)) (h60 : Hp) (ih : Handler) : Option (IV × Hp) :=
  (fun (j0_71 : Hp → Option (IV × Hp)) => faddrS 0 x63 fun x75 => load1 x75 h60 fun x76 _ => isoS [] false false ih 63 [x76, x65] h60 fun x78 h79 _ _ => gtS EE 3 x78 (.fv (.int .i64 0)) fun x82 => S49_163 x82 x64 h79 x63 x65 x62 j0_71 ih x61) fun h72 => S49_154 x65 h3 h72 x61 x62 x63 x64 q58
noncomputable def S49_165 (ih : Handler) (h60 : Hp) (x61 : IV) (x64 : IV) : Option (IV × Hp) :=
  isoS [true, false] false false ih 70 [x61, x64] h60 fun x138 h139 _ _ => outS1 [x138] h139
noncomputable def S49_166 (x63 : IV) (h60 : Hp) (x65 : IV) (h3 : Hp) (x61 : IV) (x62 : IV) (x64 : IV) (q58 : List IV → Hp → Option (IV × Hp)) (ih : Handler) : Option (IV × Hp) :=
  faddrS 2 x63 fun x66 => load1 x66 h60 fun x67 _ => lenS x67 fun x69 => ltS EE 3 x65 x69 fun x70 => condS x70 (S49_164 x65 h3 x61 x62 x63 x64 q58 h60 ih) (S49_165 ih h60 x61 x64)
noncomputable def S49_167 (l59 : List IV) (h60 : Hp) (h3 : Hp) (q58 : List IV → Hp → Option (IV × Hp)) (ih : Handler) : Option (IV × Hp) :=
  uncS l59 fun x61 l142 => uncS l142 fun x62 l143 => uncS l143 fun x63 l144 => uncS l144 fun x64 l145 => uncS l145 fun x65 _ => S49_166 x63 h60 x65 h3 x61 x62 x64 q58 ih
noncomputable def S49_168 (h3 : Hp) (h55 : Hp) (x0 : IV) (x2 : IV) (x4 : IV) (x54 : IV) (n : Nat) (ih : Handler) : Option (IV × Hp) :=
  dropS (h3.own.map (·.1)) [51392524, 51392526, 51393550] [x0, x2, x4, x54, .fv (.int .i64 0)] h55 fun h147 => loopS n (fun q58 l59 h60 => S49_167 l59 h60 h3 q58 ih) [x0, x2, x4, x54, .fv (.int .i64 0)] h147
noncomputable def S49_169 (h5 : Hp) (x47 : IV) (x4 : IV) (h3 : Hp) (x0 : IV) (x2 : IV) (n : Nat) (ih : Handler) : Option (IV × Hp) :=
  load1 x47 h5 fun x48 _ => faddrS 1 x4 fun x50 => load1 x50 h5 fun x51 _ => bldS [.fv (.int .i64 0), .fv (.int .i64 0), .nils, .nils, .fv (.int .i64 0), .fv (.int .i64 0), .nils] [(0, 1, x48), (1, 1, x51)] fun x53 => boxS 51387397 x53 h5 fun x54 h55 _ _ => S49_168 h3 h55 x0 x2 x4 x54 n ih
noncomputable def S49_170 (x4 : IV) (h5 : Hp) (x2 : IV) (h3 : Hp) (x0 : IV) (n : Nat) (ih : Handler) : Option (IV × Hp) :=
  faddrS 0 x4 fun x18 => load1 x18 h5 fun x19 _ => eqS EE 3 x19 (.fv (.int .i64 1)) fun x21 => condS x21 (faddrS 1 x4 fun x22 => S49_153 h5 x22 x2 x4) (faddrS 0 x4 fun x47 => S49_169 h5 x47 x4 h3 x0 x2 n ih)
noncomputable def S49 (ih : Handler) (n : Nat) (x0 : IV) (x1 : IV) (x2 : IV) (h3 : Hp) : Option (IV × Hp) :=
  boxS 51380224 x1 h3 fun x4 h5 _ _ => nilS x0 fun x8 => faddrS 2 x8 fun x9 => load1 x9 h5 fun x10 _ => neS EE 3 x10 (.fv (.int .i64 0)) fun x12 => condS x12 (S49_148 h5) (S49_170 x4 h5 x2 h3 x0 n ih)
theorem S49_ok (ih : Handler) (n : Nat) (x0 : IV) (x1 : IV) (x2 : IV) (h3 : Hp) : funS EE ih ft.get n 49 [x0, x1, x2] h3 = S49 ih n x0 x1 x2 h3 := by kernel_rfl
noncomputable def S50_129 (h1 : Hp) (h119 : Hp) (x102 : IV) (x103 : IV) (x123 : IV) (q99 : List IV → Hp → Option (IV × Hp)) : Option (IV × Hp) :=
  dropS (h1.own.map (·.1)) [52434946] [x102, x103, x123] h119 fun h124 => q99 [x102, x103, x123] h124
noncomputable def S50_130 (ih : Handler) (h113 : Hp) (x116 : IV) (x104 : IV) (h1 : Hp) (x102 : IV) (x103 : IV) (q99 : List IV → Hp → Option (IV × Hp)) : Option (IV × Hp) :=
  isoS [] false false ih 50 [x116] h113 fun x118 h119 _ _ => optS (unR .not x118) fun x122 => condS x122 (outS1 [.fv (.bool false)] h119) (addS EE 3 x104 (.fv (.int .i64 1)) fun x123 => S50_129 h1 h119 x102 x103 x123 q99)
noncomputable def S50_131 (x102 : IV) (x104 : IV) (h101 : Hp) (ih : Handler) (h1 : Hp) (x103 : IV) (q99 : List IV → Hp → Option (IV × Hp)) : Option (IV × Hp) :=
  ixS 3 x102 x104 fun x106 => loadA 3 x106 h101 fun x107 _ => newS 52434946 (.row [.fv (.int .i64 0), .fv (.int .i64 0), .nils] false) (.ptr (.own 52434946) 0) h101 fun x109 h110 _ _ => storeA 3 x109 x107 h110 fun h113 _ _ => loadA 3 x109 h113 fun x116 _ => S50_130 ih h113 x116 x104 h1 x102 x103 q99
noncomputable def S50_132 (l100 : List IV) (h101 : Hp) (ih : Handler) (h1 : Hp) (q99 : List IV → Hp → Option (IV × Hp)) : Option (IV × Hp) :=
  uncS l100 fun x102 l125 => uncS l125 fun x103 l126 => uncS l126 fun x104 _ => ltS EE 3 x104 x103 fun x105 => condS x105 (S50_131 x102 x104 h101 ih h1 x103 q99) (outS1 [.fv (.bool true)] h101)
noncomputable def S50_133 (x2 : IV) (h91 : Hp) (h1 : Hp) (n : Nat) (ih : Handler) : Option (IV × Hp) :=
  faddrS 2 x2 fun x95 => load1 x95 h91 fun x96 _ => lenS x96 fun x98 => dropS (h1.own.map (·.1)) [52434946] [x96, x98, .fv (.int .i64 0)] h91 fun h128 => loopS n (fun q99 l100 h101 => S50_132 l100 h101 ih h1 q99) [x96, x98, .fv (.int .i64 0)] h128
noncomputable def S50_134 (h72 : Hp) (x65 : IV) (x71 : IV) (x44 : IV) (x2 : IV) (h1 : Hp) (n : Nat) (ih : Handler) : Option (IV × Hp) :=
  guardS x65 true h72 (fun k75 => load1 x71 h72 fun x76 r77 => k75 x76 h72 r77 []) fun x78 h79 _ _ => guardS x65 true h79 (fun k82 => ltS EE 3 x78 (.fv (.int .i64 0)) fun x83 => k82 x83 h79 [] []) fun x84 h85 _ _ => guardS x44 false h85 (fun k88 => pickS x65 x84 (.fv (.bool false)) fun x89 => k88 x89 h85 [] []) fun x90 h91 _ _ => pickS x44 (.fv (.bool true)) x90 fun x94 => condS x94 (outS1 [.fv (.bool false)] h91) (S50_133 x2 h91 h1 n ih)
noncomputable def S50_135 (h41 : Hp) (x44 : IV) (x2 : IV) (h1 : Hp) (n : Nat) (ih : Handler) : Option (IV × Hp) :=
  guardS x44 false h41 (fun k45 => faddrS 0 x2 fun x46 => k45 x46 h41 [] []) fun x47 h48 _ _ => guardS x44 false h48 (fun k51 => load1 x47 h48 fun x52 r53 => k51 x52 h48 r53 []) fun x54 h55 _ _ => guardS x44 false h55 (fun k58 => eqS EE 3 x54 (.fv (.int .i64 1)) fun x59 => k58 x59 h55 [] []) fun x60 h61 _ _ => guardS x44 false h61 (fun k64 => k64 x60 h61 [] []) fun x65 h66 _ _ => guardS x65 true h66 (fun k69 => faddrS 1 x2 fun x70 => k69 x70 h66 [] []) fun x71 h72 _ _ => S50_134 h72 x65 x71 x44 x2 h1 n ih
noncomputable def S50_136 (h16 : Hp) (x13 : IV) (x2 : IV) (x15 : IV) (h1 : Hp) (n : Nat) (ih : Handler) : Option (IV × Hp) :=
  guardS x13 true h16 (fun k19 => faddrS 2 x2 fun x20 => k19 x20 h16 [] []) fun x21 h22 _ _ => guardS x13 true h22 (fun k25 => load1 x21 h22 fun x26 r27 => k25 x26 h22 r27 []) fun x28 h29 _ _ => guardS x13 true h29 (fun k32 => lenS x28 fun x33 => k32 x33 h29 [] []) fun x34 h35 _ _ => guardS x13 true h35 (fun k38 => neS EE 3 x15 x34 fun x39 => k38 x39 h35 [] []) fun x40 h41 _ _ => pickS x13 x40 (.fv (.bool false)) fun x44 => S50_135 h41 x44 x2 h1 n ih
noncomputable def S50 (ih : Handler) (n : Nat) (x0 : IV) (h1 : Hp) : Option (IV × Hp) :=
  boxS 52428800 x0 h1 fun x2 h3 _ _ => faddrS 0 x2 fun x6 => load1 x6 h3 fun x7 _ => isoS [] false false ih 71 [x7] h3 fun x9 h10 _ _ => geS EE 3 x9 (.fv (.int .i64 0)) fun x13 => guardS x13 true h10 (fun k14 => k14 x9 h10 [] []) fun x15 h16 _ _ => S50_136 h16 x13 x2 x15 h1 n ih
theorem S50_ok (ih : Handler) (n : Nat) (x0 : IV) (h1 : Hp) : funS EE ih ft.get n 50 [x0] h1 = S50 ih n x0 h1 := by kernel_rfl
noncomputable def S51_69 (x2 : IV) (h61 : Hp) (x6 : IV) : Option (IV × Hp) :=
  nilS x2 fun x64 => faddrS 4 x64 fun x65 => store1 x65 x6 h61 fun h66 _ _ => outS1 [x2] h66
noncomputable def S51_70 (x46 : IV) (h47 : Hp) (x6 : IV) (x2 : IV) : Option (IV × Hp) :=
  bldS [.fv (.nilf)] [(0, 1, x46)] fun x50 => genS (pcInsert EE 78 x6 (.fv (.int .i64 30)) x50) 53479445 h47 fun _ h52 _ _ => genS (val (mkFunc (.func 76) [x2] [])) 53479447 h52 fun x55 h56 _ _ => bldS [.fv (.nilf)] [(0, 1, x55)] fun x59 => genS (pcInsert EE 78 x6 (.fv (.int .i64 19)) x59) 53479449 h56 fun _ h61 _ _ => S51_69 x2 h61 x6
noncomputable def S51_71 (h29 : Hp) (x6 : IV) (x32 : IV) (x2 : IV) : Option (IV × Hp) :=
  genS (pcInsert EE 78 x6 (.fv (.int .i64 9)) x32) 53479437 h29 fun _ h34 _ _ => genS (val (mkFunc (.func 74) [x2] [])) 53479439 h34 fun x37 h38 _ _ => bldS [.fv (.nilf)] [(0, 1, x37)] fun x41 => genS (pcInsert EE 78 x6 (.fv (.int .i64 13)) x41) 53479441 h38 fun _ h43 _ _ => genS (val (mkFunc (.func 75) [x2] [])) 53479443 h43 fun x46 h47 _ _ => S51_70 x46 h47 x6 x2
noncomputable def S51_72 (h16 : Hp) (x2 : IV) (x6 : IV) : Option (IV × Hp) :=
  genS (val (mkFunc (.func 73) [x2] [])) 53479431 h16 fun x19 h20 _ _ => bldS [.fv (.nilf)] [(0, 1, x19)] fun x23 => genS (pcInsert EE 78 x6 (.fv (.int .i64 8)) x23) 53479433 h20 fun _ h25 _ _ => genS (val (mkFunc (.func 73) [x2] [])) 53479435 h25 fun x28 h29 _ _ => bldS [.fv (.nilf)] [(0, 1, x28)] fun x32 => S51_71 h29 x6 x32 x2
noncomputable def S51 (ih : Handler) (n : Nat) (h0 : Hp) : Option (IV × Hp) :=
  bldS [.fv (.int .i64 0), .fv (.int .i64 0), .fv (.int .i64 0), .fv (.int .i64 0), .dead] [(0, 1, .fv (.int .i64 100000)), (1, 1, .fv (.int .i64 5000000))] fun x1 => boxS 53478401 x1 h0 fun x2 h3 _ _ => genS (pcMakeMap 53479425) 53479425 h3 fun x6 h7 _ _ => genS (val (mkFunc (.func 72) [x2] [])) 53479427 h7 fun x10 h11 _ _ => bldS [.fv (.nilf)] [(0, 1, x10)] fun x14 => genS (pcInsert EE 78 x6 (.fv (.int .i64 5)) x14) 53479429 h11 fun _ h16 _ _ => S51_72 h16 x2 x6
theorem S51_ok (ih : Handler) (n : Nat) (h0 : Hp) : funS EE ih ft.get n 51 [] h0 = S51 ih n h0 := by kernel_rfl
noncomputable def S52_117 (x4 : IV) (h9 : Hp) (ih : Handler) (x1 : IV) : Option (IV × Hp) :=
  faddrS 1 x4 fun x16 => load1 x16 h9 fun x17 _ => isoS [] false false ih 78 [x1, x17] h9 fun x19 h20 _ _ => outS1 [x19] h20
noncomputable def S52_118 (x62 : IV) (h3 : Hp) (h65 : Hp) (x56 : IV) (x57 : IV) (x58 : IV) (x59 : IV) (x60 : IV) (x61 : IV) (q53 : List IV → Hp → Option (IV × Hp)) : Option (IV × Hp) :=
  addS EE 3 x62 (.fv (.int .i64 1)) fun x66 => dropS (h3.own.map (·.1)) [54535171] [x56, x57, x58, x59, x60, x61, x66] h65 fun h67 => q53 [x56, x57, x58, x59, x60, x61, x66] h67
noncomputable def S52_119 (ih : Handler) (h82 : Hp) (x56 : IV) (x57 : IV) (x90 : IV) (r89 : List Ref) (x88 : IV) (x62 : IV) (j0_64 : Hp → Option (IV × Hp)) : Option (IV × Hp) :=
  isoS [true, false, false] false false ih 52 [x56, x57, x90] h82 fun x92 h93 r94 w95 => chkS [(r89, [])] r94 w95 (ixS 1 x88 x62 fun x96 => store1 x96 x92 h93 fun h97 r98 w99 => chkS [] r98 w99 (j0_64 h97))
noncomputable def S52_120 (x86 : IV) (h82 : Hp) (x71 : IV) (ih : Handler) (x56 : IV) (x57 : IV) (x62 : IV) (j0_64 : Hp → Option (IV × Hp)) : Option (IV × Hp) :=
  faddrS 2 x86 fun x87 => load1 x87 h82 fun x88 r89 => chkS [] r89 [] (loadA 3 x71 h82 fun x90 r91 => chkS [(r89, [])] r91 [] (S52_119 ih h82 x56 x57 x90 r89 x88 x62 j0_64))
noncomputable def S52_121 (h75 : Hp) (x78 : IV) (ih : Handler) (x62 : IV) (x59 : IV) (x71 : IV) (x56 : IV) (x57 : IV) (j0_64 : Hp → Option (IV × Hp)) : Option (IV × Hp) :=
  load1 x78 h75 fun x79 _ => isoS [] false false ih 79 [x79, x62] h75 fun x81 h82 _ _ => eqS EE 3 x81 (.fv (.int .i64 0)) fun x85 => condS x85 (nilS x59 fun x86 => S52_120 x86 h82 x71 ih x56 x57 x62 j0_64) (j0_64 h82)
noncomputable def S52_122 (x60 : IV) (x62 : IV) (h55 : Hp) (x58 : IV) (ih : Handler) (x59 : IV) (x56 : IV) (x57 : IV) (j0_64 : Hp → Option (IV × Hp)) : Option (IV × Hp) :=
  ixS 3 x60 x62 fun x68 => loadA 3 x68 h55 fun x69 _ => newS 54535171 (.row [.fv (.int .i64 0), .fv (.int .i64 0), .nils] false) (.ptr (.own 54535171) 0) h55 fun x71 h72 _ _ => storeA 3 x71 x69 h72 fun h75 _ _ => faddrS 0 x58 fun x78 => S52_121 h75 x78 ih x62 x59 x71 x56 x57 j0_64
noncomputable def S52_123 (x100 : IV) (h55 : Hp) (x59 : IV) (ih : Handler) (x56 : IV) : Option (IV × Hp) :=
  faddrS 3 x100 fun x101 => load1 x101 h55 fun x102 _ => neS EE 37 x102 (.fv (.int .i64 0)) fun x104 => condS x104 (outS1 [x59] h55) (isoS [true, false] false false ih 80 [x56, x59] h55 fun x105 h106 _ _ => outS1 [x105] h106)
noncomputable def S52_124 (l113 : List IV) (h3 : Hp) (x56 : IV) (x57 : IV) (x58 : IV) (x59 : IV) (x60 : IV) (q53 : List IV → Hp → Option (IV × Hp)) (h55 : Hp) (ih : Handler) : Option (IV × Hp) :=
  uncS l113 fun x61 l114 => uncS l114 fun x62 _ => ltS EE 3 x62 x61 fun x63 => condS x63 ((fun (j0_64 : Hp → Option (IV × Hp)) => S52_122 x60 x62 h55 x58 ih x59 x56 x57 j0_64) fun h65 => S52_118 x62 h3 h65 x56 x57 x58 x59 x60 x61 q53) (nilS x56 fun x100 => S52_123 x100 h55 x59 ih x56)
noncomputable def S52_125 (l54 : List IV) (h3 : Hp) (q53 : List IV → Hp → Option (IV × Hp)) (h55 : Hp) (ih : Handler) : Option (IV × Hp) :=
  uncS l54 fun x56 l109 => uncS l109 fun x57 l110 => uncS l110 fun x58 l111 => uncS l111 fun x59 l112 => uncS l112 fun x60 l113 => S52_124 l113 h3 x56 x57 x58 x59 x60 q53 h55 ih
noncomputable def S52_126 (x50 : IV) (h3 : Hp) (h41 : Hp) (x0 : IV) (x1 : IV) (x4 : IV) (x40 : IV) (n : Nat) (ih : Handler) : Option (IV × Hp) :=
  lenS x50 fun x52 => dropS (h3.own.map (·.1)) [54535171] [x0, x1, x4, x40, x50, x52, .fv (.int .i64 0)] h41 fun h116 => loopS n (fun q53 l54 h55 => S52_125 l54 h3 q53 h55 ih) [x0, x1, x4, x40, x50, x52, .fv (.int .i64 0)] h116
noncomputable def S52_127 (x46 : IV) (h41 : Hp) (x40 : IV) (x4 : IV) (h3 : Hp) (x0 : IV) (x1 : IV) (n : Nat) (ih : Handler) : Option (IV × Hp) :=
  neS EE 37 x46 (.fv (.int .i64 0)) fun x48 => condS x48 (outS1 [x40] h41) (faddrS 2 x4 fun x49 => load1 x49 h41 fun x50 _ => S52_126 x50 h3 h41 x0 x1 x4 x40 n ih)
noncomputable def S52_128 (h34 : Hp) (x39 : IV) (x0 : IV) (x4 : IV) (h3 : Hp) (x1 : IV) (n : Nat) (ih : Handler) : Option (IV × Hp) :=
  boxS 54530059 x39 h34 fun x40 h41 r42 w43 => chkS [] r42 w43 (nilS x0 fun x44 => faddrS 3 x44 fun x45 => load1 x45 h41 fun x46 _ => S52_127 x46 h41 x40 x4 h3 x0 x1 n ih)
noncomputable def S52_129 (h9 : Hp) (x32 : IV) (r28 : List Ref) (r25 : List Ref) (x4 : IV) (r31 : List Ref) (x24 : IV) (x27 : IV) (x1 : IV) (x0 : IV) (h3 : Hp) (n : Nat) (ih : Handler) : Option (IV × Hp) :=
  genS (pcMakeSlice EE 54530055 104 x32 x32) 54530055 h9 fun x33 h34 r35 w36 => chkS [(r28, []), (r25, [])] r35 w36 (loadA 3 x4 h34 fun x37 r38 => chkS [(r35, w36), (r31, []), (r28, []), (r25, [])] r38 [] (bldS [.fv (.int .i64 0), .fv (.int .i64 0), .nils, .fv (.int .i64 0), .fv (.int .i64 0), .nils, .fv (.nilp)] [(0, 1, x24), (1, 1, x27), (2, 1, x33), (3, 3, x37), (6, 1, x1)] fun x39 => S52_128 h34 x39 x0 x4 h3 x1 n ih))
noncomputable def S52_130 (r28 : List Ref) (r25 : List Ref) (x4 : IV) (h9 : Hp) (x24 : IV) (x27 : IV) (x1 : IV) (x0 : IV) (h3 : Hp) (n : Nat) (ih : Handler) : Option (IV × Hp) :=
  chkS [(r25, [])] r28 [] (faddrS 2 x4 fun x29 => load1 x29 h9 fun x30 r31 => chkS [(r28, []), (r25, [])] r31 [] (lenS x30 fun x32 => S52_129 h9 x32 r28 r25 x4 r31 x24 x27 x1 x0 h3 n ih))
noncomputable def S52_131 (x4 : IV) (h9 : Hp) (x1 : IV) (x0 : IV) (h3 : Hp) (n : Nat) (ih : Handler) : Option (IV × Hp) :=
  faddrS 0 x4 fun x23 => load1 x23 h9 fun x24 r25 => chkS [] r25 [] (faddrS 1 x4 fun x26 => load1 x26 h9 fun x27 r28 => S52_130 r28 r25 x4 h9 x24 x27 x1 x0 h3 n ih)
noncomputable def S52 (ih : Handler) (n : Nat) (x0 : IV) (x1 : IV) (x2 : IV) (h3 : Hp) : Option (IV × Hp) :=
  boxS 54525952 x2 h3 fun x4 h5 _ _ => isoS [true] false false ih 77 [x0] h5 fun _ h9 _ _ => faddrS 0 x4 fun x12 => load1 x12 h9 fun x13 _ => eqS EE 3 x13 (.fv (.int .i64 1)) fun x15 => condS x15 (S52_117 x4 h9 ih x1) (S52_131 x4 h9 x1 x0 h3 n ih)
theorem S52_ok (ih : Handler) (n : Nat) (x0 : IV) (x1 : IV) (x2 : IV) (h3 : Hp) : funS EE ih ft.get n 52 [x0, x1, x2] h3 = S52 ih n x0 x1 x2 h3 := by kernel_rfl
noncomputable def S53_261 (h21 : Hp) (x5 : IV) : Option (IV × Hp) :=
  cellS true 3 x5 h21 fun x24 => outS1 [x24] h21
noncomputable def S53_262 (h12 : Hp) (x5 : IV) (x36 : IV) : Option (IV × Hp) :=
  storeA 3 x5 x36 h12 fun h37 _ _ => cellS true 3 x5 h37 fun x40 => outS1 [x40] h37
noncomputable def S53_263 (x1 : IV) (h12 : Hp) (x30 : IV) (x5 : IV) : Option (IV × Hp) :=
  nilS x1 fun x31 => faddrS 1 x31 fun x32 => load1 x32 h12 fun x33 _ => subS EE 3 x30 x33 fun x35 => bldS [.fv (.int .i64 0), .fv (.int .i64 0), .nils] [(0, 1, .fv (.int .i64 1)), (1, 1, x35)] fun x36 => S53_262 h12 x5 x36
noncomputable def S53_264 (h90 : Hp) (x83 : IV) : Option (IV × Hp) :=
  bldS [.fv (.int .i64 0), .fv (.int .i64 0), .nils] [] fun x96 => storeA 3 x83 x96 h90 fun h97 _ _ => cellS true 3 x83 h97 fun x100 => outS1 [x100] h97
noncomputable def S53_265 (x89 : IV) (h4 : Hp) (h108 : Hp) (x79 : IV) (x80 : IV) (x81 : IV) (x82 : IV) (x83 : IV) (x84 : IV) (x88 : IV) (q51 : List IV → Hp → Option (IV × Hp)) : Option (IV × Hp) :=
  addS EE 3 x89 (.fv (.int .i64 1)) fun x111 => dropS (h4.own.map (·.1)) [55589889, 55593990] [x79, x80, x81, x82, x83, x84, x88, x111] h108 fun h112 => q51 [x79, x80, x81, x82, x83, x84, x88, x111] h112
noncomputable def S53_266 (x81 : IV) (x87 : IV) (x82 : IV) (ih : Handler) (h90 : Hp) (x79 : IV) (x86 : IV) (x84 : IV) (x85 : IV) (x89 : IV) (h4 : Hp) (x80 : IV) (x83 : IV) (x88 : IV) (q51 : List IV → Hp → Option (IV × Hp)) : Option (IV × Hp) :=
  addS EE 3 x81 x87 fun x101 => addS EE 3 x82 (.fv (.int .i64 1)) fun x102 => isoS [true, false, false, false] false false ih 53 [x79, x86, x101, x102] h90 fun x103 h104 _ _ => ixS 3 x84 x85 fun x107 => storeA 3 x107 x103 h104 fun h108 _ _ => S53_265 x89 h4 h108 x79 x80 x81 x82 x83 x84 x88 q51
noncomputable def S53_267 (x79 : IV) (h90 : Hp) (x83 : IV) (x81 : IV) (x87 : IV) (x82 : IV) (ih : Handler) (x86 : IV) (x84 : IV) (x85 : IV) (x89 : IV) (h4 : Hp) (x80 : IV) (x88 : IV) (q51 : List IV → Hp → Option (IV × Hp)) : Option (IV × Hp) :=
  nilS x79 fun x91 => faddrS 3 x91 fun x92 => load1 x92 h90 fun x93 _ => neS EE 37 x93 (.fv (.int .i64 0)) fun x95 => condS x95 (S53_264 h90 x83) (S53_266 x81 x87 x82 ih h90 x79 x86 x84 x85 x89 h4 x80 x83 x88 q51)
noncomputable def S53_268 (x134 : IV) (h4 : Hp) (h143 : Hp) (x122 : IV) (x123 : IV) (x124 : IV) (x125 : IV) (x126 : IV) (x127 : IV) (x128 : IV) (x129 : IV) (x130 : IV) (x131 : IV) (x132 : IV) (x133 : IV) (q119 : List IV → Hp → Option (IV × Hp)) : Option (IV × Hp) :=
  addS EE 3 x134 (.fv (.int .i64 1)) fun x146 => dropS (h4.own.map (·.1)) [55593990] [x122, x123, x124, x125, x126, x127, x128, x129, x130, x131, x132, x133, x146] h143 fun h147 => q119 [x122, x123, x124, x125, x126, x127, x128, x129, x130, x131, x132, x133, x146] h147
noncomputable def S53_269 (x124 : IV) (x134 : IV) (h121 : Hp) (x130 : IV) (h4 : Hp) (x122 : IV) (x123 : IV) (x125 : IV) (x126 : IV) (x127 : IV) (x128 : IV) (x129 : IV) (x131 : IV) (x132 : IV) (x133 : IV) (q119 : List IV → Hp → Option (IV × Hp)) : Option (IV × Hp) :=
  addS EE 3 x124 x134 fun x136 => bldS [.fv (.int .i64 0), .fv (.int .i64 0), .nils, .fv (.int .i64 0), .fv (.int .i64 0), .nils, .fv (.nilp)] [(0, 1, .fv (.int .i64 1)), (1, 1, x136)] fun x137 => fzS (pcBox true 55593990 x137) 55593990 x137 h121 fun x138 h139 _ _ => ixS 1 x130 x134 fun x142 => store1 x142 x138 h139 fun h143 _ _ => S53_268 x134 h4 h143 x122 x123 x124 x125 x126 x127 x128 x129 x130 x131 x132 x133 q119
noncomputable def S53_270 (ih : Handler) (h121 : Hp) (x122 : IV) (x123 : IV) (x128 : IV) (x130 : IV) (j11_78 : IV → IV → IV → IV → IV → IV → IV → IV → IV → IV → IV → Hp → Option (IV × Hp)) (x124 : IV) (x125 : IV) (x126 : IV) (x127 : IV) (x129 : IV) (x131 : IV) (x132 : IV) : Option (IV × Hp) :=
  isoS [true, false, false, false] false false ih 81 [x122, x123, x128, x130] h121 fun x148 h149 _ _ => j11_78 x122 x123 x124 x125 x126 x127 x128 x148 x129 x131 x132 h149
noncomputable def S53_271 (l161 : List IV) (x124 : IV) (h121 : Hp) (x130 : IV) (h4 : Hp) (x122 : IV) (x123 : IV) (x125 : IV) (x126 : IV) (x127 : IV) (x128 : IV) (x129 : IV) (x131 : IV) (q119 : List IV → Hp → Option (IV × Hp)) (ih : Handler) (j11_78 : IV → IV → IV → IV → IV → IV → IV → IV → IV → IV → IV → Hp → Option (IV × Hp)) : Option (IV × Hp) :=
  uncS l161 fun x132 l162 => uncS l162 fun x133 l163 => uncS l163 fun x134 _ => ltS EE 3 x134 x133 fun x135 => condS x135 (S53_269 x124 x134 h121 x130 h4 x122 x123 x125 x126 x127 x128 x129 x131 x132 x133 q119) (S53_270 ih h121 x122 x123 x128 x130 j11_78 x124 x125 x126 x127 x129 x131 x132)
noncomputable def S53_272 (l156 : List IV) (x124 : IV) (h121 : Hp) (h4 : Hp) (x122 : IV) (x123 : IV) (x125 : IV) (x126 : IV) (q119 : List IV → Hp → Option (IV × Hp)) (ih : Handler) (j11_78 : IV → IV → IV → IV → IV → IV → IV → IV → IV → IV → IV → Hp → Option (IV × Hp)) : Option (IV × Hp) :=
  uncS l156 fun x127 l157 => uncS l157 fun x128 l158 => uncS l158 fun x129 l159 => uncS l159 fun x130 l160 => uncS l160 fun x131 l161 => S53_271 l161 x124 h121 x130 h4 x122 x123 x125 x126 x127 x128 x129 x131 q119 ih j11_78
noncomputable def S53_273 (l120 : List IV) (h121 : Hp) (h4 : Hp) (q119 : List IV → Hp → Option (IV × Hp)) (ih : Handler) (j11_78 : IV → IV → IV → IV → IV → IV → IV → IV → IV → IV → IV → Hp → Option (IV × Hp)) : Option (IV × Hp) :=
  uncS l120 fun x122 l152 => uncS l152 fun x123 l153 => uncS l153 fun x124 l154 => uncS l154 fun x125 l155 => uncS l155 fun x126 l156 => S53_272 l156 x124 h121 h4 x122 x123 x125 x126 q119 ih j11_78
noncomputable def S53_274 (h4 : Hp) (h115 : Hp) (x54 : IV) (x55 : IV) (x56 : IV) (x57 : IV) (x58 : IV) (x59 : IV) (x61 : IV) (x74 : IV) (x114 : IV) (x60 : IV) (x118 : IV) (n : Nat) (ih : Handler) (j11_78 : IV → IV → IV → IV → IV → IV → IV → IV → IV → IV → IV → Hp → Option (IV × Hp)) : Option (IV × Hp) :=
  dropS (h4.own.map (·.1)) [55593990] [x54, x55, x56, x57, x58, x59, x61, x74, x114, x60, x61, x118, .fv (.int .i64 0)] h115 fun h165 => loopS n (fun q119 l120 h121 => S53_273 l120 h121 h4 q119 ih j11_78) [x54, x55, x56, x57, x58, x59, x61, x74, x114, x60, x61, x118, .fv (.int .i64 0)] h165
noncomputable def S53_275 (x113 : IV) (h75 : Hp) (x74 : IV) (h4 : Hp) (x54 : IV) (x55 : IV) (x56 : IV) (x57 : IV) (x58 : IV) (x59 : IV) (x61 : IV) (x60 : IV) (n : Nat) (ih : Handler) (j11_78 : IV → IV → IV → IV → IV → IV → IV → IV → IV → IV → IV → Hp → Option (IV × Hp)) (x68 : IV) : Option (IV × Hp) :=
  condS x113 (genS (pcMakeSlice EE 55589889 104 x74 x74) 55589889 h75 fun x114 h115 _ _ => lenS x114 fun x118 => S53_274 h4 h115 x54 x55 x56 x57 x58 x59 x61 x74 x114 x60 x118 n ih j11_78) (j11_78 x54 x55 x56 x57 x58 x59 x61 x68 x74 x60 x61 h75)
noncomputable def S53_276 (r73 : List Ref) (r69 : List Ref) (r66 : List Ref) (ih : Handler) (h53 : Hp) (x72 : IV) (x61 : IV) (h4 : Hp) (q51 : List IV → Hp → Option (IV × Hp)) (x54 : IV) (x55 : IV) (x56 : IV) (x57 : IV) (x58 : IV) (x59 : IV) (x60 : IV) (n : Nat) (x68 : IV) : Option (IV × Hp) :=
  chkS [(r69, []), (r66, [])] r73 [] (isoS [] false false ih 79 [x72, x61] h53 fun x74 h75 r76 w77 => chkS [(r69, []), (r66, [])] r76 w77 ((fun (j11_78 : IV → IV → IV → IV → IV → IV → IV → IV → IV → IV → IV → Hp → Option (IV × Hp)) => gtS EE 3 x74 (.fv (.int .i64 0)) fun x113 => S53_275 x113 h75 x74 h4 x54 x55 x56 x57 x58 x59 x61 x60 n ih j11_78 x68) fun x79 x80 x81 x82 x83 x84 x85 x86 x87 x88 x89 h90 => S53_267 x79 h90 x83 x81 x87 x82 ih x86 x84 x85 x89 h4 x80 x88 q51))
noncomputable def S53_277 (h53 : Hp) (x67 : IV) (x55 : IV) (r66 : List Ref) (ih : Handler) (x61 : IV) (h4 : Hp) (q51 : List IV → Hp → Option (IV × Hp)) (x54 : IV) (x56 : IV) (x57 : IV) (x58 : IV) (x59 : IV) (x60 : IV) (n : Nat) : Option (IV × Hp) :=
  load1 x67 h53 fun x68 r69 => chkS [] r69 [] (nilS x55 fun x70 => faddrS 0 x70 fun x71 => load1 x71 h53 fun x72 r73 => S53_276 r73 r69 r66 ih h53 x72 x61 h4 q51 x54 x55 x56 x57 x58 x59 x60 n x68)
noncomputable def S53_278 (x55 : IV) (h53 : Hp) (x61 : IV) (ih : Handler) (h4 : Hp) (q51 : List IV → Hp → Option (IV × Hp)) (x54 : IV) (x56 : IV) (x57 : IV) (x58 : IV) (x59 : IV) (x60 : IV) (n : Nat) : Option (IV × Hp) :=
  nilS x55 fun x63 => faddrS 2 x63 fun x64 => load1 x64 h53 fun x65 r66 => chkS [] r66 [] (ixS 1 x65 x61 fun x67 => S53_277 h53 x67 x55 r66 ih x61 h4 q51 x54 x56 x57 x58 x59 x60 n)
noncomputable def S53_279 (r176 : List Ref) (w177 : List Ref) (h175 : Hp) (x58 : IV) : Option (IV × Hp) :=
  chkS [] r176 w177 (cellS true 3 x58 h175 fun x178 => outS1 [x178] h175)
noncomputable def S53_280 (x170 : IV) (h53 : Hp) (r169 : List Ref) (x168 : IV) (x59 : IV) (x58 : IV) : Option (IV × Hp) :=
  faddrS 1 x170 fun x171 => load1 x171 h53 fun x172 r173 => chkS [(r169, [])] r173 [] (bldS [.fv (.int .i64 0), .fv (.int .i64 0), .nils] [(0, 1, x168), (1, 1, x172), (2, 1, x59)] fun x174 => storeA 3 x58 x174 h53 fun h175 r176 w177 => S53_279 r176 w177 h175 x58)
noncomputable def S53_281 (x55 : IV) (h53 : Hp) (x59 : IV) (x58 : IV) : Option (IV × Hp) :=
  nilS x55 fun x166 => faddrS 0 x166 fun x167 => load1 x167 h53 fun x168 r169 => chkS [] r169 [] (nilS x55 fun x170 => S53_280 x170 h53 r169 x168 x59 x58)
noncomputable def S53_282 (l183 : List IV) (x55 : IV) (h53 : Hp) (ih : Handler) (h4 : Hp) (q51 : List IV → Hp → Option (IV × Hp)) (x54 : IV) (x56 : IV) (x57 : IV) (x58 : IV) (n : Nat) : Option (IV × Hp) :=
  uncS l183 fun x59 l184 => uncS l184 fun x60 l185 => uncS l185 fun x61 _ => ltS EE 3 x61 x60 fun x62 => condS x62 (S53_278 x55 h53 x61 ih h4 q51 x54 x56 x57 x58 x59 x60 n) (S53_281 x55 h53 x59 x58)
noncomputable def S53_283 (l52 : List IV) (h53 : Hp) (ih : Handler) (h4 : Hp) (q51 : List IV → Hp → Option (IV × Hp)) (n : Nat) : Option (IV × Hp) :=
  uncS l52 fun x54 l179 => uncS l179 fun x55 l180 => uncS l180 fun x56 l181 => uncS l181 fun x57 l182 => uncS l182 fun x58 l183 => S53_282 l183 x55 h53 ih h4 q51 x54 x56 x57 x58 n
noncomputable def S53_284 (h4 : Hp) (h47 : Hp) (x0 : IV) (x1 : IV) (x2 : IV) (x3 : IV) (x5 : IV) (x46 : IV) (x50 : IV) (n : Nat) (ih : Handler) : Option (IV × Hp) :=
  dropS (h4.own.map (·.1)) [55589889, 55593990] [x0, x1, x2, x3, x5, x46, x50, .fv (.int .i64 0)] h47 fun h187 => loopS n (fun q51 l52 h53 => S53_283 l52 h53 ih h4 q51 n) [x0, x1, x2, x3, x5, x46, x50, .fv (.int .i64 0)] h187
noncomputable def S53_285 (x41 : IV) (h12 : Hp) (h4 : Hp) (x0 : IV) (x1 : IV) (x2 : IV) (x3 : IV) (x5 : IV) (n : Nat) (ih : Handler) : Option (IV × Hp) :=
  faddrS 2 x41 fun x42 => load1 x42 h12 fun x43 _ => lenS x43 fun x45 => genS (pcMakeSlice EE 55583749 29 x45 x45) 55583749 h12 fun x46 h47 _ _ => lenS x46 fun x50 => S53_284 h4 h47 x0 x1 x2 x3 x5 x46 x50 n ih
noncomputable def S53_286 (h12 : Hp) (x26 : IV) (x2 : IV) (x1 : IV) (x5 : IV) (h4 : Hp) (x0 : IV) (x3 : IV) (n : Nat) (ih : Handler) : Option (IV × Hp) :=
  load1 x26 h12 fun x27 _ => eqS EE 3 x27 (.fv (.int .i64 1)) fun x29 => condS x29 (subS EE 3 x2 (.fv (.int .i64 1)) fun x30 => S53_263 x1 h12 x30 x5) (nilS x1 fun x41 => S53_285 x41 h12 h4 x0 x1 x2 x3 x5 n ih)
noncomputable def S53_287 (x19 : IV) (h12 : Hp) (x5 : IV) (x1 : IV) (x2 : IV) (h4 : Hp) (x0 : IV) (x3 : IV) (n : Nat) (ih : Handler) : Option (IV × Hp) :=
  condS x19 (bldS [.fv (.int .i64 0), .fv (.int .i64 0), .nils] [] fun x20 => storeA 3 x5 x20 h12 fun h21 _ _ => S53_261 h21 x5) (nilS x1 fun x25 => faddrS 0 x25 fun x26 => S53_286 h12 x26 x2 x1 x5 h4 x0 x3 n ih)
noncomputable def S53_288 (ih : Handler) (h10 : Hp) (x0 : IV) (x5 : IV) (x1 : IV) (x2 : IV) (h4 : Hp) (x3 : IV) (n : Nat) : Option (IV × Hp) :=
  isoS [true] false false ih 77 [x0] h10 fun _ h12 _ _ => nilS x0 fun x15 => faddrS 3 x15 fun x16 => load1 x16 h12 fun x17 _ => neS EE 37 x17 (.fv (.int .i64 0)) fun x19 => S53_287 x19 h12 x5 x1 x2 h4 x0 x3 n ih
noncomputable def S53_289 (x256 : IV) (h252 : Hp) (j0_9 : Hp → Option (IV × Hp)) : Option (IV × Hp) :=
  faddrS 3 x256 fun x257 => store1 x257 (.fv (.int .i64 5)) h252 fun h258 _ _ => j0_9 h258
noncomputable def S53_290 (h246 : Hp) (x202 : IV) (x234 : IV) (x245 : IV) (x0 : IV) (j0_9 : Hp → Option (IV × Hp)) : Option (IV × Hp) :=
  guardS x202 true h246 (fun k249 => pickS x234 (.fv (.bool true)) x245 fun x250 => k249 x250 h246 [] []) fun x251 h252 _ _ => pickS x202 x251 (.fv (.bool false)) fun x255 => condS x255 (nilS x0 fun x256 => S53_289 x256 h252 j0_9) (j0_9 h252)
noncomputable def S53_291 (h217 : Hp) (x202 : IV) (x216 : IV) (x3 : IV) (x0 : IV) (j0_9 : Hp → Option (IV × Hp)) : Option (IV × Hp) :=
  guardS x202 true h217 (fun k220 => load1 x216 h217 fun x221 r222 => k220 x221 h217 r222 []) fun x223 h224 _ _ => guardS x202 true h224 (fun k227 => gtS EE 3 x223 (.fv (.int .i64 3000)) fun x228 => k227 x228 h224 [] []) fun x229 h230 _ _ => guardS x202 true h230 (fun k233 => k233 x229 h230 [] []) fun x234 h235 _ _ => guardS x234 false h235 (fun k238 => k238 x3 h235 [] []) fun x239 h240 _ _ => guardS x234 false h240 (fun k243 => gtS EE 3 x239 (.fv (.int .i64 120)) fun x244 => k243 x244 h240 [] []) fun x245 h246 _ _ => S53_290 h246 x202 x234 x245 x0 j0_9
noncomputable def S53_292 (h195 : Hp) (x199 : IV) (x0 : IV) (x3 : IV) (j0_9 : Hp → Option (IV × Hp)) : Option (IV × Hp) :=
  load1 x199 h195 fun x200 _ => eqS EE 37 x200 (.fv (.int .i64 0)) fun x202 => guardS x202 true h195 (fun k203 => k203 x0 h195 [] []) fun x204 h205 _ _ => guardS x202 true h205 (fun k208 => nilS x204 fun x209 => k208 x209 h205 [] []) fun x210 h211 _ _ => guardS x202 true h211 (fun k214 => faddrS 2 x210 fun x215 => k214 x215 h211 [] []) fun x216 h217 _ _ => S53_291 h217 x202 x216 x3 x0 j0_9
noncomputable def S53_293 (x0 : IV) (h6 : Hp) (x192 : IV) (x3 : IV) (j0_9 : Hp → Option (IV × Hp)) : Option (IV × Hp) :=
  nilS x0 fun x193 => faddrS 2 x193 fun x194 => store1 x194 x192 h6 fun h195 _ _ => nilS x0 fun x198 => faddrS 3 x198 fun x199 => S53_292 h195 x199 x0 x3 j0_9
noncomputable def S53 (ih : Handler) (n : Nat) (x0 : IV) (x1 : IV) (x2 : IV) (x3 : IV) (h4 : Hp) : Option (IV × Hp) :=
  newS 55574528 (.row [.fv (.int .i64 0), .fv (.int .i64 0), .nils] false) (.ptr (.own 55574528) 0) h4 fun x5 h6 _ _ => (fun (j0_9 : Hp → Option (IV × Hp)) => nilS x0 fun x188 => faddrS 2 x188 fun x189 => load1 x189 h6 fun x190 _ => addS EE 3 x190 (.fv (.int .i64 1)) fun x192 => S53_293 x0 h6 x192 x3 j0_9) fun h10 => S53_288 ih h10 x0 x5 x1 x2 h4 x3 n
theorem S53_ok (ih : Handler) (n : Nat) (x0 : IV) (x1 : IV) (x2 : IV) (x3 : IV) (h4 : Hp) : funS EE ih ft.get n 53 [x0, x1, x2, x3] h4 = S53 ih n x0 x1 x2 x3 h4 := by kernel_rfl
noncomputable def S55 (ih : Handler) (n : Nat) (x0 : IV) (x1 : IV) (h2 : Hp) : Option (IV × Hp) :=
  binS EE 3 .rem x0 x1 fun x3 => (fun (j1_4 : IV → Hp → Option (IV × Hp)) => ltS EE 3 x3 (.fv (.int .i64 0)) fun x7 => condS x7 (addS EE 3 x3 x1 fun x8 => j1_4 x8 h2) (j1_4 x3 h2)) fun x5 h6 => outS1 [x5] h6
theorem S55_ok (ih : Handler) (n : Nat) (x0 : IV) (x1 : IV) (h2 : Hp) : funS EE ih ft.get n 55 [x0, x1] h2 = S55 ih n x0 x1 h2 := by kernel_rfl
noncomputable def S57 (ih : Handler) (n : Nat) (x0 : IV) (h1 : Hp) : Option (IV × Hp) :=
  newS 59768832 (.row [.fv (.int .i64 0), .fv (.int .i64 0), .nils] false) (.ptr (.own 59768832) 0) h1 fun x2 h3 _ _ => bldS [.fv (.int .i64 0), .fv (.int .i64 0), .nils] [(0, 1, .fv (.int .i64 2)), (1, 1, x0)] fun x6 => storeA 3 x2 x6 h3 fun h7 _ _ => cellS true 3 x2 h7 fun x10 => outS1 [x10] h7
theorem S57_ok (ih : Handler) (n : Nat) (x0 : IV) (h1 : Hp) : funS EE ih ft.get n 57 [x0] h1 = S57 ih n x0 h1 := by kernel_rfl
noncomputable def S58_42 (x17 : IV) (x1 : IV) (h8 : Hp) (x7 : IV) : Option (IV × Hp) :=
  ixS 3 x17 x1 fun x19 => loadA 3 x19 h8 fun x20 _ => storeA 3 x7 x20 h8 fun h22 _ _ => cellS true 3 x7 h22 fun x25 => outS1 [x25] h22
noncomputable def S58_43 (x1 : IV) (x34 : IV) (x30 : IV) (h8 : Hp) (x7 : IV) : Option (IV × Hp) :=
  binS EE 3 .mul (.fv (.int .i64 7)) x1 fun x35 => addS EE 3 x34 x35 fun x36 => bldS [.fv (.int .i64 0), .fv (.int .i64 0), .nils] [(0, 1, x30), (1, 1, x36)] fun x37 => storeA 3 x7 x37 h8 fun h38 _ _ => cellS true 3 x7 h38 fun x41 => outS1 [x41] h38
noncomputable def S58_44 (x27 : IV) (x1 : IV) (x3 : IV) (h8 : Hp) (x7 : IV) : Option (IV × Hp) :=
  binS EE 3 .quo x27 (.fv (.int .i64 3)) fun x29 => addS EE 3 x29 x1 fun x30 => faddrS 1 x3 fun x31 => load1 x31 h8 fun x32 _ => binS EE 3 .quo x32 (.fv (.int .i64 5)) fun x34 => S58_43 x1 x34 x30 h8 x7
noncomputable def S58_45 (x15 : IV) (x3 : IV) (h8 : Hp) (x1 : IV) (x7 : IV) : Option (IV × Hp) :=
  condS x15 (faddrS 2 x3 fun x16 => load1 x16 h8 fun x17 _ => S58_42 x17 x1 h8 x7) (faddrS 0 x3 fun x26 => load1 x26 h8 fun x27 _ => S58_44 x27 x1 x3 h8 x7)
noncomputable def S58 (ih : Handler) (n : Nat) (x0 : IV) (x1 : IV) (h2 : Hp) : Option (IV × Hp) :=
  boxS 60817408 x0 h2 fun x3 h4 _ _ => newS 60817409 (.row [.fv (.int .i64 0), .fv (.int .i64 0), .nils] false) (.ptr (.own 60817409) 0) h4 fun x7 h8 _ _ => faddrS 2 x3 fun x11 => load1 x11 h8 fun x12 _ => lenS x12 fun x14 => ltS EE 3 x1 x14 fun x15 => S58_45 x15 x3 h8 x1 x7
theorem S58_ok (ih : Handler) (n : Nat) (x0 : IV) (x1 : IV) (h2 : Hp) : funS EE ih ft.get n 58 [x0, x1] h2 = S58 ih n x0 x1 h2 := by kernel_rfl
noncomputable def S62_135 (h28 : Hp) (x13 : IV) (x27 : IV) : Option (IV × Hp) :=
  storeA 3 x13 x27 h28 fun h31 _ _ => cellS true 3 x13 h31 fun x34 => outS1 [x34] h31
noncomputable def S62_136 (x40 : IV) (h14 : Hp) (x13 : IV) : Option (IV × Hp) :=
  subS EE 3 x40 (.fv (.int .i64 1)) fun x42 => bldS [.fv (.int .i64 0), .fv (.int .i64 0), .nils] [(0, 1, .fv (.int .i64 1)), (1, 1, x42)] fun x43 => storeA 3 x13 x43 h14 fun h44 _ _ => cellS true 3 x13 h44 fun x47 => outS1 [x47] h44
noncomputable def S62_137 (h50 : Hp) (x13 : IV) : Option (IV × Hp) :=
  cellS true 3 x13 h50 fun x53 => outS1 [x53] h50
noncomputable def S62_138 (x36 : IV) (x1 : IV) (x5 : IV) (h14 : Hp) (x13 : IV) : Option (IV × Hp) :=
  gtS EE 3 x36 x1 fun x38 => condS x38 (faddrS 1 x5 fun x39 => load1 x39 h14 fun x40 _ => S62_136 x40 h14 x13) (loadA 3 x5 h14 fun x48 _ => storeA 3 x13 x48 h14 fun h50 _ _ => S62_137 h50 x13)
noncomputable def S62_139 (x22 : IV) (x1 : IV) (h14 : Hp) (x9 : IV) (ih : Handler) (x2 : IV) (x13 : IV) (x5 : IV) : Option (IV × Hp) :=
  eqS EE 3 x22 x1 fun x24 => condS x24 (loadA 3 x9 h14 fun x25 _ => isoS [] false false ih 31 [x25, x2, .fv (.int .i64 0)] h14 fun x27 h28 _ _ => S62_135 h28 x13 x27) (faddrS 1 x5 fun x35 => load1 x35 h14 fun x36 _ => S62_138 x36 x1 x5 h14 x13)
noncomputable def S62_140 (x76 : IV) (h112 : Hp) (x111 : IV) (x77 : IV) (h4 : Hp) (x71 : IV) (x72 : IV) (x73 : IV) (x74 : IV) (x75 : IV) (q68 : List IV → Hp → Option (IV × Hp)) : Option (IV × Hp) :=
  faddrS 2 x76 fun x115 => store1 x115 x111 h112 fun h116 r117 w118 => chkS [] r117 w118 (addS EE 3 x77 (.fv (.int .i64 1)) fun x119 => dropS (h4.own.map (·.1)) [65024016] [x71, x72, x73, x74, x75, x76, x119] h116 fun h120 => q68 [x71, x72, x73, x74, x75, x76, x119] h120)
noncomputable def S62_141 (r105 : List Ref) (w106 : List Ref) (r92 : List Ref) (h104 : Hp) (x103 : IV) (x91 : IV) (x76 : IV) (x77 : IV) (h4 : Hp) (x71 : IV) (x72 : IV) (x73 : IV) (x74 : IV) (x75 : IV) (q68 : List IV → Hp → Option (IV × Hp)) : Option (IV × Hp) :=
  chkS [(r92, [])] r105 w106 (genS (pcBuildSlice EE 29 1 [(0, x103)]) 65024015 h104 fun x107 h108 r109 w110 => chkS [(r92, [])] r109 w110 (genS (builtinR EE 65024016 false .append [29, 29] [x91, x107]) 65024016 h108 fun x111 h112 r113 w114 => chkS [] r113 w114 (S62_140 x76 h112 x111 x77 h4 x71 x72 x73 x74 x75 q68)))
noncomputable def S62_142 (x71 : IV) (x86 : IV) (x72 : IV) (h87 : Hp) (x74 : IV) (r98 : List Ref) (r95 : List Ref) (r92 : List Ref) (ih : Handler) (x97 : IV) (x91 : IV) (x76 : IV) (x77 : IV) (h4 : Hp) (x73 : IV) (x75 : IV) (q68 : List IV → Hp → Option (IV × Hp)) : Option (IV × Hp) :=
  addS EE 3 x71 x86 fun x99 => addS EE 3 x72 x86 fun x100 => loadA 3 x74 h87 fun x101 r102 => chkS [(r98, []), (r95, []), (r92, [])] r102 [] (isoS [] false false ih 62 [x97, x99, x100, x101] h87 fun x103 h104 r105 w106 => S62_141 r105 w106 r92 h104 x103 x91 x76 x77 h4 x71 x72 x73 x74 x75 q68)
noncomputable def S62_143 (h87 : Hp) (x93 : IV) (r92 : List Ref) (x77 : IV) (x71 : IV) (x86 : IV) (x72 : IV) (x74 : IV) (ih : Handler) (x91 : IV) (x76 : IV) (h4 : Hp) (x73 : IV) (x75 : IV) (q68 : List IV → Hp → Option (IV × Hp)) : Option (IV × Hp) :=
  load1 x93 h87 fun x94 r95 => chkS [(r92, [])] r95 [] (ixS 3 x94 x77 fun x96 => loadA 3 x96 h87 fun x97 r98 => chkS [(r92, [])] r98 [] (S62_142 x71 x86 x72 h87 x74 r98 r95 r92 ih x97 x91 x76 x77 h4 x73 x75 q68))
noncomputable def S62_144 (ih : Handler) (h70 : Hp) (x84 : IV) (x77 : IV) (x76 : IV) (x73 : IV) (x71 : IV) (x72 : IV) (x74 : IV) (h4 : Hp) (x75 : IV) (q68 : List IV → Hp → Option (IV × Hp)) : Option (IV × Hp) :=
  isoS [] false false ih 63 [x84, x77] h70 fun x86 h87 _ _ => faddrS 2 x76 fun x90 => load1 x90 h87 fun x91 r92 => chkS [] r92 [] (faddrS 2 x73 fun x93 => S62_143 h87 x93 r92 x77 x71 x86 x72 x74 ih x91 x76 h4 x73 x75 q68)
noncomputable def S62_145 (h123 : Hp) (x75 : IV) : Option (IV × Hp) :=
  cellS true 3 x75 h123 fun x126 => outS1 [x126] h123
noncomputable def S62_146 (x77 : IV) (x81 : IV) (x73 : IV) (h70 : Hp) (ih : Handler) (x76 : IV) (x71 : IV) (x72 : IV) (x74 : IV) (h4 : Hp) (x75 : IV) (q68 : List IV → Hp → Option (IV × Hp)) : Option (IV × Hp) :=
  ltS EE 3 x77 x81 fun x82 => condS x82 (faddrS 0 x73 fun x83 => load1 x83 h70 fun x84 _ => S62_144 ih h70 x84 x77 x76 x73 x71 x72 x74 h4 x75 q68) (loadA 3 x76 h70 fun x121 _ => storeA 3 x75 x121 h70 fun h123 _ _ => S62_145 h123 x75)
noncomputable def S62_147 (l131 : List IV) (x73 : IV) (h70 : Hp) (ih : Handler) (x71 : IV) (x72 : IV) (x74 : IV) (h4 : Hp) (x75 : IV) (q68 : List IV → Hp → Option (IV × Hp)) : Option (IV × Hp) :=
  uncS l131 fun x76 l132 => uncS l132 fun x77 _ => faddrS 2 x73 fun x78 => load1 x78 h70 fun x79 _ => lenS x79 fun x81 => S62_146 x77 x81 x73 h70 ih x76 x71 x72 x74 h4 x75 q68
noncomputable def S62_148 (l69 : List IV) (h70 : Hp) (ih : Handler) (h4 : Hp) (q68 : List IV → Hp → Option (IV × Hp)) : Option (IV × Hp) :=
  uncS l69 fun x71 l127 => uncS l127 fun x72 l128 => uncS l128 fun x73 l129 => uncS l129 fun x74 l130 => uncS l130 fun x75 l131 => S62_147 l131 x73 h70 ih x71 x72 x74 h4 x75 q68
noncomputable def S62_149 (h4 : Hp) (h65 : Hp) (x1 : IV) (x2 : IV) (x5 : IV) (x9 : IV) (x13 : IV) (x61 : IV) (n : Nat) (ih : Handler) : Option (IV × Hp) :=
  dropS (h4.own.map (·.1)) [65024016] [x1, x2, x5, x9, x13, x61, .fv (.int .i64 0)] h65 fun h134 => loopS n (fun q68 l69 h70 => S62_148 l69 h70 ih h4 q68) [x1, x2, x5, x9, x13, x61, .fv (.int .i64 0)] h134
noncomputable def S62_150 (x5 : IV) (h14 : Hp) (x55 : IV) (h4 : Hp) (x1 : IV) (x2 : IV) (x9 : IV) (x13 : IV) (n : Nat) (ih : Handler) : Option (IV × Hp) :=
  faddrS 1 x5 fun x57 => load1 x57 h14 fun x58 _ => bldS [.fv (.int .i64 0), .fv (.int .i64 0), .nils] [(0, 1, x55), (1, 1, x58)] fun x60 => newS 65018885 (.row [.fv (.int .i64 0), .fv (.int .i64 0), .nils] false) (.ptr (.own 65018885) 0) h14 fun x61 h62 _ _ => storeA 3 x61 x60 h62 fun h65 _ _ => S62_149 h4 h65 x1 x2 x5 x9 x13 x61 n ih
noncomputable def S62_151 (x20 : IV) (x5 : IV) (h14 : Hp) (x1 : IV) (x9 : IV) (ih : Handler) (x2 : IV) (x13 : IV) (h4 : Hp) (n : Nat) : Option (IV × Hp) :=
  condS x20 (faddrS 1 x5 fun x21 => load1 x21 h14 fun x22 _ => S62_139 x22 x1 h14 x9 ih x2 x13 x5) (faddrS 0 x5 fun x54 => load1 x54 h14 fun x55 _ => S62_150 x5 h14 x55 h4 x1 x2 x9 x13 n ih)
noncomputable def S62 (ih : Handler) (n : Nat) (x0 : IV) (x1 : IV) (x2 : IV) (x3 : IV) (h4 : Hp) : Option (IV × Hp) :=
  boxS 65011712 x0 h4 fun x5 h6 _ _ => boxS 65011713 x3 h6 fun x9 h10 _ _ => newS 65011714 (.row [.fv (.int .i64 0), .fv (.int .i64 0), .nils] false) (.ptr (.own 65011714) 0) h10 fun x13 h14 _ _ => faddrS 0 x5 fun x17 => load1 x17 h14 fun x18 _ => eqS EE 3 x18 (.fv (.int .i64 1)) fun x20 => S62_151 x20 x5 h14 x1 x9 ih x2 x13 h4 n
theorem S62_ok (ih : Handler) (n : Nat) (x0 : IV) (x1 : IV) (x2 : IV) (x3 : IV) (h4 : Hp) : funS EE ih ft.get n 62 [x0, x1, x2, x3] h4 = S62 ih n x0 x1 x2 x3 h4 := by kernel_rfl
noncomputable def S63_18 (x1 : IV) (h7 : Hp) (j0_3 : Hp → Option (IV × Hp)) : Option (IV × Hp) :=
  eqS EE 3 x1 (.fv (.int .i64 0)) fun x10 => condS x10 (outS1 [.fv (.int .i64 1)] h7) (eqS EE 3 x1 (.fv (.int .i64 2)) fun x11 => condS x11 (outS1 [.fv (.int .i64 2)] h7) (j0_3 h7))
noncomputable def S63_19 (x6 : IV) (x1 : IV) (h7 : Hp) (j0_3 : Hp → Option (IV × Hp)) (x0 : IV) : Option (IV × Hp) :=
  condS x6 (eqS EE 3 x1 (.fv (.int .i64 1)) fun x8 => condS x8 (outS1 [.fv (.int .i64 1)] h7) (j0_3 h7)) (eqS EE 3 x0 (.fv (.int .i64 13)) fun x9 => condS x9 (S63_18 x1 h7 j0_3) (j0_3 h7))
noncomputable def S63_20 (x0 : IV) (j1_5 : IV → Hp → Option (IV × Hp)) (h2 : Hp) : Option (IV × Hp) :=
  eqS EE 3 x0 (.fv (.int .i64 29)) fun x17 => j1_5 x17 h2
noncomputable def S63_21 (x0 : IV) (j1_5 : IV → Hp → Option (IV × Hp)) (h2 : Hp) : Option (IV × Hp) :=
  eqS EE 3 x0 (.fv (.int .i64 20)) fun x15 => condS x15 (j1_5 x15 h2) (eqS EE 3 x0 (.fv (.int .i64 28)) fun x16 => condS x16 (j1_5 x16 h2) (S63_20 x0 j1_5 h2))
noncomputable def S63_22 (x13 : IV) (j1_5 : IV → Hp → Option (IV × Hp)) (h2 : Hp) (x0 : IV) : Option (IV × Hp) :=
  condS x13 (j1_5 x13 h2) (eqS EE 3 x0 (.fv (.int .i64 6)) fun x14 => condS x14 (j1_5 x14 h2) (S63_21 x0 j1_5 h2))
noncomputable def S63 (ih : Handler) (n : Nat) (x0 : IV) (x1 : IV) (h2 : Hp) : Option (IV × Hp) :=
  (fun (j0_3 : Hp → Option (IV × Hp)) => (fun (j1_5 : IV → Hp → Option (IV × Hp)) => eqS EE 3 x0 (.fv (.int .i64 3)) fun x12 => condS x12 (j1_5 x12 h2) (eqS EE 3 x0 (.fv (.int .i64 4)) fun x13 => S63_22 x13 j1_5 h2 x0)) fun x6 h7 => S63_19 x6 x1 h7 j0_3 x0) fun h4 => outS1 [.fv (.int .i64 0)] h4
theorem S63_ok (ih : Handler) (n : Nat) (x0 : IV) (x1 : IV) (h2 : Hp) : funS EE ih ft.get n 63 [x0, x1] h2 = S63 ih n x0 x1 h2 := by kernel_rfl
noncomputable def S68_48 (h4 : Hp) (x11 : IV) (x1 : IV) : Option (IV × Hp) :=
  load1 x11 h4 fun x12 _ => eqS EE 3 x12 x1 fun x14 => outS1 [x14] h4
noncomputable def S68_49 (x18 : IV) (x35 : IV) (ih : Handler) (h36 : Hp) (x30 : IV) (x20 : IV) (q15 : List IV → Hp → Option (IV × Hp)) (x19 : IV) : Option (IV × Hp) :=
  addS EE 3 x18 x35 fun x39 => isoS [] false false ih 68 [x30, x39] h36 fun x40 h41 r42 w43 => chkS [] r42 w43 (condS x40 (outS1 [.fv (.bool true)] h41) (addS EE 3 x20 (.fv (.int .i64 1)) fun x44 => q15 [x18, x19, x44] h41))
noncomputable def S68_50 (x19 : IV) (h17 : Hp) (r31 : List Ref) (r28 : List Ref) (ih : Handler) (x20 : IV) (x18 : IV) (x30 : IV) (q15 : List IV → Hp → Option (IV × Hp)) : Option (IV × Hp) :=
  faddrS 0 x19 fun x32 => load1 x32 h17 fun x33 r34 => chkS [(r31, []), (r28, [])] r34 [] (isoS [] false false ih 63 [x33, x20] h17 fun x35 h36 r37 w38 => chkS [(r31, []), (r28, [])] r37 w38 (S68_49 x18 x35 ih h36 x30 x20 q15 x19))
noncomputable def S68_51 (h17 : Hp) (x26 : IV) (x20 : IV) (x19 : IV) (ih : Handler) (x18 : IV) (q15 : List IV → Hp → Option (IV × Hp)) : Option (IV × Hp) :=
  load1 x26 h17 fun x27 r28 => chkS [] r28 [] (ixS 3 x27 x20 fun x29 => loadA 3 x29 h17 fun x30 r31 => chkS [] r31 [] (S68_50 x19 h17 r31 r28 ih x20 x18 x30 q15))
noncomputable def S68_52 (x22 : IV) (x20 : IV) (x19 : IV) (h17 : Hp) (ih : Handler) (x18 : IV) (q15 : List IV → Hp → Option (IV × Hp)) : Option (IV × Hp) :=
  lenS x22 fun x24 => ltS EE 3 x20 x24 fun x25 => condS x25 (faddrS 2 x19 fun x26 => S68_51 h17 x26 x20 x19 ih x18 q15) (outS1 [.fv (.bool false)] h17)
noncomputable def S68_53 (l16 : List IV) (h17 : Hp) (ih : Handler) (q15 : List IV → Hp → Option (IV × Hp)) : Option (IV × Hp) :=
  uncS l16 fun x18 l45 => uncS l45 fun x19 l46 => uncS l46 fun x20 _ => faddrS 2 x19 fun x21 => load1 x21 h17 fun x22 _ => S68_52 x22 x20 x19 h17 ih x18 q15
noncomputable def S68 (ih : Handler) (n : Nat) (x0 : IV) (x1 : IV) (h2 : Hp) : Option (IV × Hp) :=
  boxS 71303168 x0 h2 fun x3 h4 _ _ => faddrS 0 x3 fun x7 => load1 x7 h4 fun x8 _ => eqS EE 3 x8 (.fv (.int .i64 1)) fun x10 => condS x10 (faddrS 1 x3 fun x11 => S68_48 h4 x11 x1) (loopS n (fun q15 l16 h17 => S68_53 l16 h17 ih q15) [x1, x3, .fv (.int .i64 0)] h4)
theorem S68_ok (ih : Handler) (n : Nat) (x0 : IV) (x1 : IV) (h2 : Hp) : funS EE ih ft.get n 68 [x0, x1] h2 = S68 ih n x0 x1 h2 := by kernel_rfl
noncomputable def S69 (ih : Handler) (n : Nat) (x0 : IV) (x1 : IV) (h2 : Hp) : Option (IV × Hp) :=
  genS (pcBuildSlice EE 93 0 []) 72352768 h2 fun x3 h4 _ _ => genS (builtinR EE 72352770 false .append [93, 93] [x3, x0]) 72352770 h4 fun x7 h8 _ _ => genS (builtinR EE 72352772 false .append [93, 93] [x7, x1]) 72352772 h8 fun x11 h12 _ _ => outS1 [x11] h12
theorem S69_ok (ih : Handler) (n : Nat) (x0 : IV) (x1 : IV) (h2 : Hp) : funS EE ih ft.get n 69 [x0, x1] h2 = S69 ih n x0 x1 h2 := by kernel_rfl
noncomputable def S70_629 (r121 : List Ref) (w122 : List Ref) (h120 : Hp) (x119 : IV) : Option (IV × Hp) :=
  chkS [] r121 w122 (outS1 [x119] h120)
noncomputable def S70_630 (h79 : Hp) (x109 : IV) (r103 : List Ref) (r99 : List Ref) (ih : Handler) (x102 : IV) (x0 : IV) (x98 : IV) : Option (IV × Hp) :=
  genS (pcBuildSlice EE 93 1 [(0, x109)]) 73406479 h79 fun x111 h112 r113 w114 => chkS [(r103, []), (r99, [])] r113 w114 (isoS [] false false ih 69 [x102, x111] h112 fun x115 h116 r117 w118 => chkS [(r99, [])] r117 w118 (isoS [true, false, false] false false ih 49 [x0, x98, x115] h116 fun x119 h120 r121 w122 => S70_629 r121 w122 h120 x119))
noncomputable def S70_631 (h79 : Hp) (x105 : IV) (r103 : List Ref) (r99 : List Ref) (ih : Handler) (x102 : IV) (x0 : IV) (x98 : IV) : Option (IV × Hp) :=
  load1 x105 h79 fun x106 r107 => chkS [(r103, []), (r99, [])] r107 [] (ixS 1 x106 (.fv (.int .i64 1)) fun x108 => load1 x108 h79 fun x109 r110 => chkS [(r103, []), (r99, [])] r110 [] (S70_630 h79 x109 r103 r99 ih x102 x0 x98))
noncomputable def S70_632 (x100 : IV) (h79 : Hp) (r99 : List Ref) (x1 : IV) (ih : Handler) (x0 : IV) (x98 : IV) : Option (IV × Hp) :=
  faddrS 3 x100 fun x101 => load1 x101 h79 fun x102 r103 => chkS [(r99, [])] r103 [] (nilS x1 fun x104 => faddrS 2 x104 fun x105 => S70_631 h79 x105 r103 r99 ih x102 x0 x98)
noncomputable def S70_633 (x94 : IV) (h79 : Hp) (x1 : IV) (ih : Handler) (x0 : IV) : Option (IV × Hp) :=
  nilS x94 fun x96 => faddrS 4 x96 fun x97 => loadA 3 x97 h79 fun x98 r99 => chkS [] r99 [] (nilS x94 fun x100 => S70_632 x100 h79 r99 x1 ih x0 x98)
noncomputable def S70_634 (x87 : IV) (h79 : Hp) (x1 : IV) (ih : Handler) (x0 : IV) : Option (IV × Hp) :=
  nilS x87 fun x89 => faddrS 2 x89 fun x90 => load1 x90 h79 fun x91 _ => ixS 1 x91 (.fv (.int .i64 1)) fun x93 => load1 x93 h79 fun x94 _ => S70_633 x94 h79 x1 ih x0
noncomputable def S70_635 (x1 : IV) (h79 : Hp) (ih : Handler) (x0 : IV) : Option (IV × Hp) :=
  nilS x1 fun x82 => faddrS 2 x82 fun x83 => load1 x83 h79 fun x84 _ => ixS 1 x84 (.fv (.int .i64 0)) fun x86 => load1 x86 h79 fun x87 _ => S70_634 x87 h79 x1 ih x0
noncomputable def S70_636 (x235 : IV) (x242 : IV) (h223 : Hp) : Option (IV × Hp) :=
  ixS 1 x235 x242 fun x243 => load1 x243 h223 fun x244 r245 => chkS [] r245 [] (outS1 [x244] h223)
noncomputable def S70_637 (x237 : IV) (h223 : Hp) (r236 : List Ref) (r232 : List Ref) (r229 : List Ref) (x235 : IV) : Option (IV × Hp) :=
  faddrS 0 x237 fun x238 => load1 x238 h223 fun x239 r240 => chkS [(r236, []), (r232, []), (r229, [])] r240 [] (addS EE 3 (.fv (.int .i64 1)) x239 fun x241 => subS EE 3 x241 (.fv (.int .i64 8)) fun x242 => S70_636 x235 x242 h223)
noncomputable def S70_638 (x231 : IV) (h223 : Hp) (x1 : IV) (r232 : List Ref) (r229 : List Ref) : Option (IV × Hp) :=
  nilS x231 fun x233 => faddrS 2 x233 fun x234 => load1 x234 h223 fun x235 r236 => chkS [] r236 [] (nilS x1 fun x237 => S70_637 x237 h223 r236 r232 r229 x235)
noncomputable def S70_639 (h223 : Hp) (x227 : IV) (x1 : IV) : Option (IV × Hp) :=
  load1 x227 h223 fun x228 r229 => chkS [] r229 [] (ixS 1 x228 (.fv (.int .i64 0)) fun x230 => load1 x230 h223 fun x231 r232 => chkS [] r232 [] (S70_638 x231 h223 x1 r232 r229))
noncomputable def S70_640 (ih : Handler) (h218 : Hp) (x0 : IV) (x1 : IV) (j0_3 : Hp → Option (IV × Hp)) : Option (IV × Hp) :=
  isoS [true] false false ih 86 [x0] h218 fun x222 h223 _ _ => condS x222 (nilS x1 fun x226 => faddrS 2 x226 fun x227 => S70_639 h223 x227 x1) (j0_3 h223)
noncomputable def S70_641 (x258 : IV) (h250 : Hp) : Option (IV × Hp) :=
  nilS x258 fun x260 => faddrS 2 x260 fun x261 => load1 x261 h250 fun x262 _ => ixS 1 x262 (.fv (.int .i64 0)) fun x264 => load1 x264 h250 fun x265 _ => outS1 [x265] h250
noncomputable def S70_642 (x1 : IV) (h250 : Hp) : Option (IV × Hp) :=
  nilS x1 fun x253 => faddrS 2 x253 fun x254 => load1 x254 h250 fun x255 _ => ixS 1 x255 (.fv (.int .i64 0)) fun x257 => load1 x257 h250 fun x258 _ => S70_641 x258 h250
noncomputable def S70_643 (h336 : Hp) (x340 : IV) : Option (IV × Hp) :=
  load1 x340 h336 fun x341 _ => ixS 1 x341 (.fv (.int .i64 1)) fun x343 => load1 x343 h336 fun x344 _ => outS1 [x344] h336
noncomputable def S70_644 (x335 : IV) (x1 : IV) (h336 : Hp) (j0_3 : Hp → Option (IV × Hp)) : Option (IV × Hp) :=
  condS x335 (nilS x1 fun x339 => faddrS 2 x339 fun x340 => S70_643 h336 x340) (j0_3 h336)
noncomputable def S70_645 (r483 : List Ref) (w484 : List Ref) (r480 : List Ref) (r476 : List Ref) (ih : Handler) (h482 : Hp) (x479 : IV) (x481 : IV) (x0 : IV) (x475 : IV) : Option (IV × Hp) :=
  chkS [(r480, []), (r476, [])] r483 w484 (isoS [] false false ih 69 [x479, x481] h482 fun x485 h486 r487 w488 => chkS [(r476, [])] r487 w488 (isoS [true, false, false] false false ih 49 [x0, x475, x485] h486 fun x489 h490 r491 w492 => chkS [] r491 w492 (outS1 [x489] h490)))
noncomputable def S70_646 (x471 : IV) (h463 : Hp) (r476 : List Ref) (x430 : IV) (x462 : IV) (ih : Handler) (x0 : IV) (x475 : IV) : Option (IV × Hp) :=
  nilS x471 fun x477 => faddrS 3 x477 fun x478 => load1 x478 h463 fun x479 r480 => chkS [(r476, [])] r480 [] (genS (pcBuildSlice EE 93 2 [(0, x430), (1, x462)]) 73422859 h463 fun x481 h482 r483 w484 => S70_645 r483 w484 r480 r476 ih h482 x479 x481 x0 x475)
noncomputable def S70_647 (h463 : Hp) (x470 : IV) (x430 : IV) (x462 : IV) (ih : Handler) (x0 : IV) : Option (IV × Hp) :=
  load1 x470 h463 fun x471 _ => nilS x471 fun x473 => faddrS 4 x473 fun x474 => loadA 3 x474 h463 fun x475 r476 => chkS [] r476 [] (S70_646 x471 h463 r476 x430 x462 ih x0 x475)
noncomputable def S70_648 (r464 : List Ref) (w465 : List Ref) (x1 : IV) (h463 : Hp) (x430 : IV) (x462 : IV) (ih : Handler) (x0 : IV) : Option (IV × Hp) :=
  chkS [] r464 w465 (nilS x1 fun x466 => faddrS 2 x466 fun x467 => load1 x467 h463 fun x468 _ => ixS 1 x468 (.fv (.int .i64 2)) fun x470 => S70_647 h463 x470 x430 x462 ih x0)
noncomputable def S70_649 (r455 : List Ref) (w456 : List Ref) (x453 : IV) (h454 : Hp) (ih : Handler) (x0 : IV) (x1 : IV) (x430 : IV) : Option (IV × Hp) :=
  chkS [] r455 w456 (bldS [.fv (.int .i64 0), .fv (.int .i64 0), .nils, .nils, .fv (.int .i64 0), .fv (.int .i64 0), .nils] [(0, 1, .fv (.int .i64 13)), (2, 1, x453)] fun x457 => boxS 73420822 x457 h454 fun x458 h459 r460 w461 => chkS [] r460 w461 (isoS [true, false] false false ih 70 [x0, x458] h459 fun x462 h463 r464 w465 => S70_648 r464 w465 x1 h463 x430 x462 ih x0))
noncomputable def S70_650 (r449 : List Ref) (r445 : List Ref) (r442 : List Ref) (r438 : List Ref) (r435 : List Ref) (x448 : IV) (h415 : Hp) (x437 : IV) (x444 : IV) (x430 : IV) (ih : Handler) (x0 : IV) (x1 : IV) : Option (IV × Hp) :=
  chkS [(r445, []), (r442, []), (r438, []), (r435, [])] r449 [] (ixS 1 x448 (.fv (.int .i64 2)) fun x450 => load1 x450 h415 fun x451 r452 => chkS [(r445, []), (r442, []), (r438, []), (r435, [])] r452 [] (genS (pcBuildSlice EE 93 4 [(0, x437), (1, x444), (2, x451), (3, x430)]) 73420820 h415 fun x453 h454 r455 w456 => S70_649 r455 w456 x453 h454 ih x0 x1 x430))
noncomputable def S70_651 (h415 : Hp) (x443 : IV) (r438 : List Ref) (r435 : List Ref) (x1 : IV) (r442 : List Ref) (x437 : IV) (x430 : IV) (ih : Handler) (x0 : IV) : Option (IV × Hp) :=
  load1 x443 h415 fun x444 r445 => chkS [(r438, []), (r435, [])] r445 [] (nilS x1 fun x446 => faddrS 2 x446 fun x447 => load1 x447 h415 fun x448 r449 => S70_650 r449 r445 r442 r438 r435 x448 h415 x437 x444 x430 ih x0 x1)
noncomputable def S70_652 (x1 : IV) (h415 : Hp) (r438 : List Ref) (r435 : List Ref) (x437 : IV) (x430 : IV) (ih : Handler) (x0 : IV) : Option (IV × Hp) :=
  nilS x1 fun x439 => faddrS 2 x439 fun x440 => load1 x440 h415 fun x441 r442 => chkS [(r438, []), (r435, [])] r442 [] (ixS 1 x441 (.fv (.int .i64 1)) fun x443 => S70_651 h415 x443 r438 r435 x1 r442 x437 x430 ih x0)
noncomputable def S70_653 (h415 : Hp) (x433 : IV) (x1 : IV) (x430 : IV) (ih : Handler) (x0 : IV) : Option (IV × Hp) :=
  load1 x433 h415 fun x434 r435 => chkS [] r435 [] (ixS 1 x434 (.fv (.int .i64 0)) fun x436 => load1 x436 h415 fun x437 r438 => chkS [] r438 [] (S70_652 x1 h415 r438 r435 x437 x430 ih x0))
noncomputable def S70_654 (h415 : Hp) (x426 : IV) (x1 : IV) (ih : Handler) (x0 : IV) : Option (IV × Hp) :=
  load1 x426 h415 fun x427 _ => ixS 1 x427 (.fv (.int .i64 0)) fun x429 => load1 x429 h415 fun x430 _ => nilS x1 fun x432 => faddrS 2 x432 fun x433 => S70_653 h415 x433 x1 x430 ih x0
noncomputable def S70_655 (h415 : Hp) (x419 : IV) (x1 : IV) (ih : Handler) (x0 : IV) : Option (IV × Hp) :=
  load1 x419 h415 fun x420 _ => ixS 1 x420 (.fv (.int .i64 3)) fun x422 => load1 x422 h415 fun x423 _ => nilS x423 fun x425 => faddrS 2 x425 fun x426 => S70_654 h415 x426 x1 ih x0
noncomputable def S70_656 (ih : Handler) (h410 : Hp) (x0 : IV) (x1 : IV) (j0_3 : Hp → Option (IV × Hp)) : Option (IV × Hp) :=
  isoS [true] false false ih 86 [x0] h410 fun x414 h415 _ _ => condS x414 (nilS x1 fun x418 => faddrS 2 x418 fun x419 => S70_655 h415 x419 x1 ih x0) (j0_3 h415)
noncomputable def S70_657 (h391 : Hp) (x350 : IV) (x390 : IV) (ih : Handler) (x0 : IV) (x1 : IV) (j0_3 : Hp → Option (IV × Hp)) : Option (IV × Hp) :=
  guardS x350 true h391 (fun k394 => faddrS 0 x390 fun x395 => k394 x395 h391 [] []) fun x396 h397 _ _ => guardS x350 true h397 (fun k400 => load1 x396 h397 fun x401 r402 => k400 x401 h397 r402 []) fun x403 h404 _ _ => guardS x350 true h404 (fun k407 => eqS EE 3 x403 (.fv (.int .i64 12)) fun x408 => k407 x408 h404 [] []) fun x409 h410 _ _ => pickS x350 x409 (.fv (.bool false)) fun x413 => condS x413 (S70_656 ih h410 x0 x1 j0_3) (j0_3 h410)
noncomputable def S70_658 (h359 : Hp) (x350 : IV) (x358 : IV) (ih : Handler) (x0 : IV) (x1 : IV) (j0_3 : Hp → Option (IV × Hp)) : Option (IV × Hp) :=
  guardS x350 true h359 (fun k362 => faddrS 2 x358 fun x363 => k362 x363 h359 [] []) fun x364 h365 _ _ => guardS x350 true h365 (fun k368 => load1 x364 h365 fun x369 r370 => k368 x369 h365 r370 []) fun x371 h372 _ _ => guardS x350 true h372 (fun k375 => ixS 1 x371 (.fv (.int .i64 3)) fun x376 => k375 x376 h372 [] []) fun x377 h378 _ _ => guardS x350 true h378 (fun k381 => load1 x377 h378 fun x382 r383 => k381 x382 h378 r383 []) fun x384 h385 _ _ => guardS x350 true h385 (fun k388 => nilS x384 fun x389 => k388 x389 h385 [] []) fun x390 h391 _ _ => S70_657 h391 x350 x390 ih x0 x1 j0_3
noncomputable def S70_659 (x346 : IV) (h331 : Hp) (x1 : IV) (ih : Handler) (x0 : IV) (j0_3 : Hp → Option (IV × Hp)) : Option (IV × Hp) :=
  faddrS 0 x346 fun x347 => load1 x347 h331 fun x348 _ => eqS EE 3 x348 (.fv (.int .i64 13)) fun x350 => guardS x350 true h331 (fun k351 => k351 x1 h331 [] []) fun x352 h353 _ _ => guardS x350 true h353 (fun k356 => nilS x352 fun x357 => k356 x357 h353 [] []) fun x358 h359 _ _ => S70_658 h359 x350 x358 ih x0 x1 j0_3
noncomputable def S70_660 (h318 : Hp) (x271 : IV) (x317 : IV) (ih : Handler) (x0 : IV) (x1 : IV) (j0_3 : Hp → Option (IV × Hp)) : Option (IV × Hp) :=
  guardS x271 true h318 (fun k321 => load1 x317 h318 fun x322 r323 => k321 x322 h318 r323 []) fun x324 h325 _ _ => guardS x271 true h325 (fun k328 => eqS EE 3 x324 (.fv (.int .i64 11)) fun x329 => k328 x329 h325 [] []) fun x330 h331 _ _ => pickS x271 x330 (.fv (.bool false)) fun x334 => condS x334 (isoS [true] false false ih 86 [x0] h331 fun x335 h336 _ _ => S70_644 x335 x1 h336 j0_3) (nilS x1 fun x346 => S70_659 x346 h331 x1 ih x0 j0_3)
noncomputable def S70_661 (h286 : Hp) (x271 : IV) (x285 : IV) (ih : Handler) (x0 : IV) (x1 : IV) (j0_3 : Hp → Option (IV × Hp)) : Option (IV × Hp) :=
  guardS x271 true h286 (fun k289 => load1 x285 h286 fun x290 r291 => k289 x290 h286 r291 []) fun x292 h293 _ _ => guardS x271 true h293 (fun k296 => ixS 1 x292 (.fv (.int .i64 3)) fun x297 => k296 x297 h293 [] []) fun x298 h299 _ _ => guardS x271 true h299 (fun k302 => load1 x298 h299 fun x303 r304 => k302 x303 h299 r304 []) fun x305 h306 _ _ => guardS x271 true h306 (fun k309 => nilS x305 fun x310 => k309 x310 h306 [] []) fun x311 h312 _ _ => guardS x271 true h312 (fun k315 => faddrS 0 x311 fun x316 => k315 x316 h312 [] []) fun x317 h318 _ _ => S70_660 h318 x271 x317 ih x0 x1 j0_3
noncomputable def S70_662 (h248 : Hp) (x268 : IV) (x1 : IV) (ih : Handler) (x0 : IV) (j0_3 : Hp → Option (IV × Hp)) : Option (IV × Hp) :=
  load1 x268 h248 fun x269 _ => eqS EE 3 x269 (.fv (.int .i64 13)) fun x271 => guardS x271 true h248 (fun k272 => k272 x1 h248 [] []) fun x273 h274 _ _ => guardS x271 true h274 (fun k277 => nilS x273 fun x278 => k277 x278 h274 [] []) fun x279 h280 _ _ => guardS x271 true h280 (fun k283 => faddrS 2 x279 fun x284 => k283 x284 h280 [] []) fun x285 h286 _ _ => S70_661 h286 x271 x285 ih x0 x1 j0_3
noncomputable def S70_663 (x247 : IV) (ih : Handler) (h248 : Hp) (x0 : IV) (x1 : IV) (j0_3 : Hp → Option (IV × Hp)) : Option (IV × Hp) :=
  condS x247 (isoS [true] false false ih 86 [x0] h248 fun x249 h250 _ _ => condS x249 (S70_642 x1 h250) (j0_3 h250)) (nilS x1 fun x267 => faddrS 0 x267 fun x268 => S70_662 h248 x268 x1 ih x0 j0_3)
noncomputable def S70_664 (h612 : Hp) (x565 : IV) (x611 : IV) (j1_246 : IV → Hp → Option (IV × Hp)) : Option (IV × Hp) :=
  guardS x565 true h612 (fun k615 => load1 x611 h612 fun x616 r617 => k615 x616 h612 r617 []) fun x618 h619 _ _ => guardS x565 true h619 (fun k622 => eqS EE 3 x618 (.fv (.int .i64 30)) fun x623 => k622 x623 h619 [] []) fun x624 h625 _ _ => pickS x565 x624 (.fv (.bool false)) fun x628 => j1_246 x628 h625
noncomputable def S70_665 (h580 : Hp) (x565 : IV) (x579 : IV) (j1_246 : IV → Hp → Option (IV × Hp)) : Option (IV × Hp) :=
  guardS x565 true h580 (fun k583 => load1 x579 h580 fun x584 r585 => k583 x584 h580 r585 []) fun x586 h587 _ _ => guardS x565 true h587 (fun k590 => ixS 1 x586 (.fv (.int .i64 0)) fun x591 => k590 x591 h587 [] []) fun x592 h593 _ _ => guardS x565 true h593 (fun k596 => load1 x592 h593 fun x597 r598 => k596 x597 h593 r598 []) fun x599 h600 _ _ => guardS x565 true h600 (fun k603 => nilS x599 fun x604 => k603 x604 h600 [] []) fun x605 h606 _ _ => guardS x565 true h606 (fun k609 => faddrS 0 x605 fun x610 => k609 x610 h606 [] []) fun x611 h612 _ _ => S70_664 h612 x565 x611 j1_246
noncomputable def S70_666 (h557 : Hp) (x562 : IV) (x1 : IV) (j1_246 : IV → Hp → Option (IV × Hp)) : Option (IV × Hp) :=
  load1 x562 h557 fun x563 _ => eqS EE 3 x563 (.fv (.int .i64 19)) fun x565 => guardS x565 true h557 (fun k566 => k566 x1 h557 [] []) fun x567 h568 _ _ => guardS x565 true h568 (fun k571 => nilS x567 fun x572 => k571 x572 h568 [] []) fun x573 h574 _ _ => guardS x565 true h574 (fun k577 => faddrS 2 x573 fun x578 => k577 x578 h574 [] []) fun x579 h580 _ _ => S70_665 h580 x565 x579 j1_246
noncomputable def S70_667 (x497 : IV) (x556 : IV) (j1_246 : IV → Hp → Option (IV × Hp)) (h557 : Hp) (x1 : IV) : Option (IV × Hp) :=
  pickS x497 x556 (.fv (.bool false)) fun x560 => condS x560 (j1_246 x560 h557) (nilS x1 fun x561 => faddrS 0 x561 fun x562 => S70_666 h557 x562 x1 j1_246)
noncomputable def S70_668 (h525 : Hp) (x497 : IV) (x524 : IV) (j1_246 : IV → Hp → Option (IV × Hp)) (x1 : IV) : Option (IV × Hp) :=
  guardS x497 true h525 (fun k528 => load1 x524 h525 fun x529 r530 => k528 x529 h525 r530 []) fun x531 h532 _ _ => guardS x497 true h532 (fun k535 => nilS x531 fun x536 => k535 x536 h532 [] []) fun x537 h538 _ _ => guardS x497 true h538 (fun k541 => faddrS 0 x537 fun x542 => k541 x542 h538 [] []) fun x543 h544 _ _ => guardS x497 true h544 (fun k547 => load1 x543 h544 fun x548 r549 => k547 x548 h544 r549 []) fun x550 h551 _ _ => guardS x497 true h551 (fun k554 => eqS EE 3 x550 (.fv (.int .i64 19)) fun x555 => k554 x555 h551 [] []) fun x556 h557 _ _ => S70_667 x497 x556 j1_246 h557 x1
noncomputable def S70_669 (h218 : Hp) (x497 : IV) (x1 : IV) (j1_246 : IV → Hp → Option (IV × Hp)) : Option (IV × Hp) :=
  guardS x497 true h218 (fun k498 => k498 x1 h218 [] []) fun x499 h500 _ _ => guardS x497 true h500 (fun k503 => nilS x499 fun x504 => k503 x504 h500 [] []) fun x505 h506 _ _ => guardS x497 true h506 (fun k509 => faddrS 2 x505 fun x510 => k509 x510 h506 [] []) fun x511 h512 _ _ => guardS x497 true h512 (fun k515 => load1 x511 h512 fun x516 r517 => k515 x516 h512 r517 []) fun x518 h519 _ _ => guardS x497 true h519 (fun k522 => ixS 1 x518 (.fv (.int .i64 0)) fun x523 => k522 x523 h519 [] []) fun x524 h525 _ _ => S70_668 h525 x497 x524 j1_246 x1
noncomputable def S70_670 (ih : Handler) (x0 : IV) (x1 : IV) (j0_3 : Hp → Option (IV × Hp)) (h218 : Hp) : Option (IV × Hp) :=
  (fun (j1_246 : IV → Hp → Option (IV × Hp)) => nilS x1 fun x493 => faddrS 0 x493 fun x494 => load1 x494 h218 fun x495 _ => eqS EE 3 x495 (.fv (.int .i64 30)) fun x497 => S70_669 h218 x497 x1 j1_246) fun x247 h248 => S70_663 x247 ih h248 x0 x1 j0_3
noncomputable def S70_671 (h199 : Hp) (x158 : IV) (x198 : IV) (ih : Handler) (x0 : IV) (x1 : IV) (j0_3 : Hp → Option (IV × Hp)) : Option (IV × Hp) :=
  guardS x158 true h199 (fun k202 => faddrS 0 x198 fun x203 => k202 x203 h199 [] []) fun x204 h205 _ _ => guardS x158 true h205 (fun k208 => load1 x204 h205 fun x209 r210 => k208 x209 h205 r210 []) fun x211 h212 _ _ => guardS x158 true h212 (fun k215 => eqS EE 3 x211 (.fv (.int .i64 7)) fun x216 => k215 x216 h212 [] []) fun x217 h218 _ _ => pickS x158 x217 (.fv (.bool false)) fun x221 => condS x221 (S70_640 ih h218 x0 x1 j0_3) (S70_670 ih x0 x1 j0_3 h218)
noncomputable def S70_672 (h167 : Hp) (x158 : IV) (x166 : IV) (ih : Handler) (x0 : IV) (x1 : IV) (j0_3 : Hp → Option (IV × Hp)) : Option (IV × Hp) :=
  guardS x158 true h167 (fun k170 => faddrS 2 x166 fun x171 => k170 x171 h167 [] []) fun x172 h173 _ _ => guardS x158 true h173 (fun k176 => load1 x172 h173 fun x177 r178 => k176 x177 h173 r178 []) fun x179 h180 _ _ => guardS x158 true h180 (fun k183 => ixS 1 x179 (.fv (.int .i64 0)) fun x184 => k183 x184 h180 [] []) fun x185 h186 _ _ => guardS x158 true h186 (fun k189 => load1 x185 h186 fun x190 r191 => k189 x190 h186 r191 []) fun x192 h193 _ _ => guardS x158 true h193 (fun k196 => nilS x192 fun x197 => k196 x197 h193 [] []) fun x198 h199 _ _ => S70_671 h199 x158 x198 ih x0 x1 j0_3
noncomputable def S70_673 (h142 : Hp) (x127 : IV) (x141 : IV) (x1 : IV) (ih : Handler) (x0 : IV) (j0_3 : Hp → Option (IV × Hp)) : Option (IV × Hp) :=
  guardS x127 false h142 (fun k145 => load1 x141 h142 fun x146 r147 => k145 x146 h142 r147 []) fun x148 h149 _ _ => guardS x127 false h149 (fun k152 => eqS EE 3 x148 (.fv (.int .i64 9)) fun x153 => k152 x153 h149 [] []) fun x154 h155 _ _ => pickS x127 (.fv (.bool true)) x154 fun x158 => guardS x158 true h155 (fun k159 => k159 x1 h155 [] []) fun x160 h161 _ _ => guardS x158 true h161 (fun k164 => nilS x160 fun x165 => k164 x165 h161 [] []) fun x166 h167 _ _ => S70_672 h167 x158 x166 ih x0 x1 j0_3
noncomputable def S70_674 (h74 : Hp) (x124 : IV) (x1 : IV) (ih : Handler) (x0 : IV) (j0_3 : Hp → Option (IV × Hp)) : Option (IV × Hp) :=
  load1 x124 h74 fun x125 _ => eqS EE 3 x125 (.fv (.int .i64 8)) fun x127 => guardS x127 false h74 (fun k128 => k128 x1 h74 [] []) fun x129 h130 _ _ => guardS x127 false h130 (fun k133 => nilS x129 fun x134 => k133 x134 h130 [] []) fun x135 h136 _ _ => guardS x127 false h136 (fun k139 => faddrS 0 x135 fun x140 => k139 x140 h136 [] []) fun x141 h142 _ _ => S70_673 h142 x127 x141 x1 ih x0 j0_3
noncomputable def S70_675 (x77 : IV) (ih : Handler) (h74 : Hp) (x0 : IV) (x1 : IV) (j0_3 : Hp → Option (IV × Hp)) : Option (IV × Hp) :=
  condS x77 (isoS [true] false false ih 86 [x0] h74 fun x78 h79 _ _ => condS x78 (S70_635 x1 h79 ih x0) (j0_3 h79)) (nilS x1 fun x123 => faddrS 0 x123 fun x124 => S70_674 h74 x124 x1 ih x0 j0_3)
noncomputable def S70_676 (h49 : Hp) (x14 : IV) (x48 : IV) (ih : Handler) (x0 : IV) (x1 : IV) (j0_3 : Hp → Option (IV × Hp)) : Option (IV × Hp) :=
  guardS x14 true h49 (fun k52 => nilS x48 fun x53 => k52 x53 h49 [] []) fun x54 h55 _ _ => guardS x14 true h55 (fun k58 => faddrS 0 x54 fun x59 => k58 x59 h55 [] []) fun x60 h61 _ _ => guardS x14 true h61 (fun k64 => load1 x60 h61 fun x65 r66 => k64 x65 h61 r66 []) fun x67 h68 _ _ => guardS x14 true h68 (fun k71 => eqS EE 3 x67 (.fv (.int .i64 4)) fun x72 => k71 x72 h68 [] []) fun x73 h74 _ _ => pickS x14 x73 (.fv (.bool false)) fun x77 => S70_675 x77 ih h74 x0 x1 j0_3
noncomputable def S70_677 (h17 : Hp) (x14 : IV) (x16 : IV) (ih : Handler) (x0 : IV) (x1 : IV) (j0_3 : Hp → Option (IV × Hp)) : Option (IV × Hp) :=
  guardS x14 true h17 (fun k20 => nilS x16 fun x21 => k20 x21 h17 [] []) fun x22 h23 _ _ => guardS x14 true h23 (fun k26 => faddrS 2 x22 fun x27 => k26 x27 h23 [] []) fun x28 h29 _ _ => guardS x14 true h29 (fun k32 => load1 x28 h29 fun x33 r34 => k32 x33 h29 r34 []) fun x35 h36 _ _ => guardS x14 true h36 (fun k39 => ixS 1 x35 (.fv (.int .i64 0)) fun x40 => k39 x40 h36 [] []) fun x41 h42 _ _ => guardS x14 true h42 (fun k45 => load1 x41 h42 fun x46 r47 => k45 x46 h42 r47 []) fun x48 h49 _ _ => S70_676 h49 x14 x48 ih x0 x1 j0_3
noncomputable def S70_678 (x1 : IV) (h2 : Hp) (ih : Handler) (x0 : IV) (j0_3 : Hp → Option (IV × Hp)) : Option (IV × Hp) :=
  nilS x1 fun x10 => faddrS 0 x10 fun x11 => load1 x11 h2 fun x12 _ => eqS EE 3 x12 (.fv (.int .i64 5)) fun x14 => guardS x14 true h2 (fun k15 => k15 x1 h2 [] []) fun x16 h17 _ _ => S70_677 h17 x14 x16 ih x0 x1 j0_3
noncomputable def S70 (ih : Handler) (n : Nat) (x0 : IV) (x1 : IV) (h2 : Hp) : Option (IV × Hp) :=
  (fun (j0_3 : Hp → Option (IV × Hp)) => nilS x0 fun x5 => faddrS 2 x5 fun x6 => load1 x6 h2 fun x7 _ => neS EE 3 x7 (.fv (.int .i64 0)) fun x9 => condS x9 (outS1 [x1] h2) (S70_678 x1 h2 ih x0 j0_3)) fun h4 => outS1 [x1] h4
theorem S70_ok (ih : Handler) (n : Nat) (x0 : IV) (x1 : IV) (h2 : Hp) : funS EE ih ft.get n 70 [x0, x1] h2 = S70 ih n x0 x1 h2 := by kernel_rfl
noncomputable def S71_17 (x0 : IV) (h7 : Hp) : Option (IV × Hp) :=
  eqS EE 3 x0 (.fv (.int .i64 13)) fun x9 => condS x9 (outS1 [.fv (.int .i64 4)] h7) (outS1 [.fv (.int .i64 (-1))] h7)
noncomputable def S71_18 (x6 : IV) (h7 : Hp) (x0 : IV) : Option (IV × Hp) :=
  condS x6 (outS1 [.fv (.int .i64 2)] h7) (eqS EE 3 x0 (.fv (.int .i64 7)) fun x8 => condS x8 (outS1 [.fv (.int .i64 3)] h7) (S71_17 x0 h7))
noncomputable def S71_19 (x10 : IV) (j1_5 : IV → Hp → Option (IV × Hp)) (h4 : Hp) (x0 : IV) : Option (IV × Hp) :=
  condS x10 (j1_5 x10 h4) (eqS EE 3 x0 (.fv (.int .i64 5)) fun x11 => j1_5 x11 h4)
noncomputable def S71_20 (x3 : IV) (h4 : Hp) (x0 : IV) : Option (IV × Hp) :=
  condS x3 (outS1 [.fv (.int .i64 1)] h4) ((fun (j1_5 : IV → Hp → Option (IV × Hp)) => eqS EE 3 x0 (.fv (.int .i64 4)) fun x10 => S71_19 x10 j1_5 h4 x0) fun x6 h7 => S71_18 x6 h7 x0)
noncomputable def S71_21 (x0 : IV) (j1_2 : IV → Hp → Option (IV × Hp)) (h1 : Hp) : Option (IV × Hp) :=
  eqS EE 3 x0 (.fv (.int .i64 30)) fun x16 => j1_2 x16 h1
noncomputable def S71_22 (x0 : IV) (j1_2 : IV → Hp → Option (IV × Hp)) (h1 : Hp) : Option (IV × Hp) :=
  eqS EE 3 x0 (.fv (.int .i64 12)) fun x14 => condS x14 (j1_2 x14 h1) (eqS EE 3 x0 (.fv (.int .i64 19)) fun x15 => condS x15 (j1_2 x15 h1) (S71_21 x0 j1_2 h1))
noncomputable def S71 (ih : Handler) (n : Nat) (x0 : IV) (h1 : Hp) : Option (IV × Hp) :=
  (fun (j1_2 : IV → Hp → Option (IV × Hp)) => eqS EE 3 x0 (.fv (.int .i64 8)) fun x12 => condS x12 (j1_2 x12 h1) (eqS EE 3 x0 (.fv (.int .i64 9)) fun x13 => condS x13 (j1_2 x13 h1) (S71_22 x0 j1_2 h1))) fun x3 h4 => S71_20 x3 h4 x0
theorem S71_ok (ih : Handler) (n : Nat) (x0 : IV) (h1 : Hp) : funS EE ih ft.get n 71 [x0] h1 = S71 ih n x0 h1 := by kernel_rfl
noncomputable def S72_30 (ih : Handler) (h23 : Hp) (x0 : IV) (x8 : IV) (x22 : IV) : Option (IV × Hp) :=
  isoS [true, false, false, false] false false ih 81 [x0, x8, .fv (.int .i64 1), x22] h23 fun x26 h27 _ _ => outS1 [x26] h27
noncomputable def S72_31 (x15 : IV) (h2 : Hp) (ih : Handler) (x0 : IV) (x8 : IV) : Option (IV × Hp) :=
  faddrS 2 x15 fun x16 => load1 x16 h2 fun x17 _ => ixS 1 x17 (.fv (.int .i64 1)) fun x19 => load1 x19 h2 fun x20 _ => genS (pcBuildSlice EE 104 1 [(0, x20)]) 75500552 h2 fun x22 h23 _ _ => S72_30 ih h23 x0 x8 x22
noncomputable def S72_32 (x10 : IV) (h2 : Hp) (x1 : IV) (ih : Handler) (x0 : IV) (x8 : IV) : Option (IV × Hp) :=
  faddrS 0 x10 fun x11 => load1 x11 h2 fun x12 _ => eqS EE 3 x12 (.fv (.int .i64 4)) fun x14 => condS x14 (nilS x1 fun x15 => S72_31 x15 h2 ih x0 x8) (outS1 [.fv .nilp] h2)
noncomputable def S72 (ih : Handler) (n : Nat) (x0 : IV) (x1 : IV) (h2 : Hp) : Option (IV × Hp) :=
  nilS x1 fun x3 => faddrS 2 x3 fun x4 => load1 x4 h2 fun x5 _ => ixS 1 x5 (.fv (.int .i64 0)) fun x7 => load1 x7 h2 fun x8 _ => nilS x8 fun x10 => S72_32 x10 h2 x1 ih x0 x8
theorem S72_ok (ih : Handler) (n : Nat) (x0 : IV) (x1 : IV) (h2 : Hp) : funS EE ih ft.get n 72 [x0, x1] h2 = S72 ih n x0 x1 h2 := by kernel_rfl
noncomputable def S73_34 (x20 : IV) (h2 : Hp) : Option (IV × Hp) :=
  faddrS 2 x20 fun x21 => load1 x21 h2 fun x22 _ => ixS 1 x22 (.fv (.int .i64 1)) fun x24 => load1 x24 h2 fun x25 _ => outS1 [x25] h2
noncomputable def S73_35 (x27 : IV) (h2 : Hp) : Option (IV × Hp) :=
  faddrS 2 x27 fun x28 => load1 x28 h2 fun x29 _ => ixS 1 x29 (.fv (.int .i64 2)) fun x31 => load1 x31 h2 fun x32 _ => outS1 [x32] h2
noncomputable def S73_36 (x15 : IV) (h2 : Hp) (x8 : IV) : Option (IV × Hp) :=
  faddrS 0 x15 fun x16 => load1 x16 h2 fun x17 _ => eqS EE 3 x17 (.fv (.int .i64 8)) fun x19 => condS x19 (nilS x8 fun x20 => S73_34 x20 h2) (nilS x8 fun x27 => S73_35 x27 h2)
noncomputable def S73_37 (x10 : IV) (h2 : Hp) (x1 : IV) (x8 : IV) : Option (IV × Hp) :=
  faddrS 0 x10 fun x11 => load1 x11 h2 fun x12 _ => neS EE 3 x12 (.fv (.int .i64 7)) fun x14 => condS x14 (outS1 [.fv .nilp] h2) (nilS x1 fun x15 => S73_36 x15 h2 x8)
noncomputable def S73 (ih : Handler) (n : Nat) (x0 : IV) (x1 : IV) (h2 : Hp) : Option (IV × Hp) :=
  nilS x1 fun x3 => faddrS 2 x3 fun x4 => load1 x4 h2 fun x5 _ => ixS 1 x5 (.fv (.int .i64 0)) fun x7 => load1 x7 h2 fun x8 _ => nilS x8 fun x10 => S73_37 x10 h2 x1 x8
theorem S73_ok (ih : Handler) (n : Nat) (x0 : IV) (x1 : IV) (h2 : Hp) : funS EE ih ft.get n 73 [x0, x1] h2 = S73 ih n x0 x1 h2 := by kernel_rfl
noncomputable def S74_74 (x15 : IV) (h2 : Hp) : Option (IV × Hp) :=
  faddrS 2 x15 fun x16 => load1 x16 h2 fun x17 _ => ixS 1 x17 (.fv (.int .i64 1)) fun x19 => load1 x19 h2 fun x20 _ => outS1 [x20] h2
noncomputable def S74_75 (h63 : Hp) (x60 : IV) (x62 : IV) (ih : Handler) (x0 : IV) (x1 : IV) : Option (IV × Hp) :=
  genS (pcBuildSlice EE 104 2 [(0, x60), (1, x62)]) 77602826 h63 fun x66 h67 r68 w69 => chkS [] r68 w69 (isoS [true, false, false, false] false false ih 81 [x0, x1, .fv (.int .i64 2), x66] h67 fun x70 h71 r72 w73 => chkS [] r72 w73 (outS1 [x70] h71))
noncomputable def S74_76 (x57 : IV) (h52 : Hp) (ih : Handler) (x0 : IV) (x26 : IV) (r58 : List Ref) (x1 : IV) : Option (IV × Hp) :=
  ixS 1 x57 (.fv (.int .i64 0)) fun x59 => load1 x59 h52 fun x60 r61 => chkS [] r61 [] (isoS [true, false] false false ih 80 [x0, x26] h52 fun x62 h63 r64 w65 => chkS [(r61, []), (r58, [])] r64 w65 (S74_75 h63 x60 x62 ih x0 x1))
noncomputable def S74_77 (r53 : List Ref) (w54 : List Ref) (x8 : IV) (h52 : Hp) (ih : Handler) (x0 : IV) (x26 : IV) (x1 : IV) : Option (IV × Hp) :=
  chkS [] r53 w54 (nilS x8 fun x55 => faddrS 2 x55 fun x56 => load1 x56 h52 fun x57 r58 => chkS [] r58 [] (S74_76 x57 h52 ih x0 x26 r58 x1))
noncomputable def S74_78 (r46 : List Ref) (r39 : List Ref) (r36 : List Ref) (h30 : Hp) (x38 : IV) (x45 : IV) (x26 : IV) (x8 : IV) (ih : Handler) (x0 : IV) (x1 : IV) : Option (IV × Hp) :=
  chkS [(r39, []), (r36, [])] r46 [] (genS (pcBuildSlice EE 104 4 [(0, .fv .nilp), (1, x38), (2, .fv .nilp), (3, x45)]) 77601804 h30 fun x47 h48 r49 w50 => chkS [] r49 w50 (faddrS 2 x26 fun x51 => store1 x51 x47 h48 fun h52 r53 w54 => S74_77 r53 w54 x8 h52 ih x0 x26 x1))
noncomputable def S74_79 (x40 : IV) (h30 : Hp) (r39 : List Ref) (r36 : List Ref) (x38 : IV) (x26 : IV) (x8 : IV) (ih : Handler) (x0 : IV) (x1 : IV) : Option (IV × Hp) :=
  faddrS 2 x40 fun x41 => load1 x41 h30 fun x42 r43 => chkS [(r39, []), (r36, [])] r43 [] (ixS 1 x42 (.fv (.int .i64 0)) fun x44 => load1 x44 h30 fun x45 r46 => S74_78 r46 r39 r36 h30 x38 x45 x26 x8 ih x0 x1)
noncomputable def S74_80 (r36 : List Ref) (x35 : IV) (h30 : Hp) (x8 : IV) (x26 : IV) (ih : Handler) (x0 : IV) (x1 : IV) : Option (IV × Hp) :=
  chkS [] r36 [] (ixS 1 x35 (.fv (.int .i64 1)) fun x37 => load1 x37 h30 fun x38 r39 => chkS [] r39 [] (nilS x8 fun x40 => S74_79 x40 h30 r39 r36 x38 x26 x8 ih x0 x1))
noncomputable def S74_81 (h2 : Hp) (x24 : IV) (x1 : IV) (x8 : IV) (ih : Handler) (x0 : IV) : Option (IV × Hp) :=
  newS 77600771 (.row [.fv (.int .i64 0), .fv (.int .i64 0), .nils, .fv (.int .i64 0), .fv (.int .i64 0), .nils, .fv (.nilp)] false) (.ptr (.own 77600771) 0) h2 fun x26 h27 _ _ => storeA 7 x26 x24 h27 fun h30 _ _ => nilS x1 fun x33 => faddrS 2 x33 fun x34 => load1 x34 h30 fun x35 r36 => S74_80 r36 x35 h30 x8 x26 ih x0 x1
noncomputable def S74_82 (x22 : IV) (x1 : IV) (h2 : Hp) (x8 : IV) (ih : Handler) (x0 : IV) : Option (IV × Hp) :=
  condS x22 (nilS x1 fun x23 => loadA 7 x23 h2 fun x24 _ => S74_81 h2 x24 x1 x8 ih x0) (outS1 [.fv .nilp] h2)
noncomputable def S74_83 (x10 : IV) (h2 : Hp) (x1 : IV) (x8 : IV) (ih : Handler) (x0 : IV) : Option (IV × Hp) :=
  faddrS 0 x10 fun x11 => load1 x11 h2 fun x12 _ => eqS EE 3 x12 (.fv (.int .i64 11)) fun x14 => condS x14 (nilS x1 fun x15 => S74_74 x15 h2) (eqS EE 3 x12 (.fv (.int .i64 12)) fun x22 => S74_82 x22 x1 h2 x8 ih x0)
noncomputable def S74 (ih : Handler) (n : Nat) (x0 : IV) (x1 : IV) (h2 : Hp) : Option (IV × Hp) :=
  nilS x1 fun x3 => faddrS 2 x3 fun x4 => load1 x4 h2 fun x5 _ => ixS 1 x5 (.fv (.int .i64 3)) fun x7 => load1 x7 h2 fun x8 _ => nilS x8 fun x10 => S74_83 x10 h2 x1 x8 ih x0
theorem S74_ok (ih : Handler) (n : Nat) (x0 : IV) (x1 : IV) (h2 : Hp) : funS EE ih ft.get n 74 [x0, x1] h2 = S74 ih n x0 x1 h2 := by kernel_rfl
noncomputable def S75 (ih : Handler) (n : Nat) (x0 : IV) (x1 : IV) (h2 : Hp) : Option (IV × Hp) :=
  isoS [] false false ih 87 [x1, .fv (.int .i64 19)] h2 fun x3 h4 _ _ => outS1 [x3] h4
theorem S75_ok (ih : Handler) (n : Nat) (x0 : IV) (x1 : IV) (h2 : Hp) : funS EE ih ft.get n 75 [x0, x1] h2 = S75 ih n x0 x1 h2 := by kernel_rfl
noncomputable def S76 (ih : Handler) (n : Nat) (x0 : IV) (x1 : IV) (h2 : Hp) : Option (IV × Hp) :=
  isoS [] false false ih 87 [x1, .fv (.int .i64 30)] h2 fun x3 h4 _ _ => outS1 [x3] h4
theorem S76_ok (ih : Handler) (n : Nat) (x0 : IV) (x1 : IV) (h2 : Hp) : funS EE ih ft.get n 76 [x0, x1] h2 = S76 ih n x0 x1 h2 := by kernel_rfl
noncomputable def S77_53 (h44 : Hp) (x49 : IV) : Option (IV × Hp) :=
  store1 x49 (.fv (.int .i64 17)) h44 fun h50 _ _ => outS1 [] h50
noncomputable def S77_54 (x16 : IV) (x43 : IV) (x0 : IV) (h44 : Hp) : Option (IV × Hp) :=
  pickS x16 x43 (.fv (.bool false)) fun x47 => condS x47 (nilS x0 fun x48 => faddrS 3 x48 fun x49 => S77_53 h44 x49) (outS1 [] h44)
noncomputable def S77_55 (h9 : Hp) (x16 : IV) (x0 : IV) : Option (IV × Hp) :=
  guardS x16 true h9 (fun k17 => k17 x0 h9 [] []) fun x18 h19 _ _ => guardS x16 true h19 (fun k22 => nilS x18 fun x23 => k22 x23 h19 [] []) fun x24 h25 _ _ => guardS x16 true h25 (fun k28 => faddrS 3 x24 fun x29 => k28 x29 h25 [] []) fun x30 h31 _ _ => guardS x16 true h31 (fun k34 => load1 x30 h31 fun x35 r36 => k34 x35 h31 r36 []) fun x37 h38 _ _ => guardS x16 true h38 (fun k41 => eqS EE 37 x37 (.fv (.int .i64 0)) fun x42 => k41 x42 h38 [] []) fun x43 h44 _ _ => S77_54 x16 x43 x0 h44
noncomputable def S77_56 (h1 : Hp) (x8 : IV) (x6 : IV) (x0 : IV) : Option (IV × Hp) :=
  store1 x8 x6 h1 fun h9 _ _ => nilS x0 fun x12 => faddrS 1 x12 fun x13 => load1 x13 h9 fun x14 _ => ltS EE 3 x14 (.fv (.int .i64 0)) fun x16 => S77_55 h9 x16 x0
noncomputable def S77 (ih : Handler) (n : Nat) (x0 : IV) (h1 : Hp) : Option (IV × Hp) :=
  nilS x0 fun x2 => faddrS 1 x2 fun x3 => load1 x3 h1 fun x4 _ => subS EE 3 x4 (.fv (.int .i64 1)) fun x6 => nilS x0 fun x7 => faddrS 1 x7 fun x8 => S77_56 h1 x8 x6 x0
theorem S77_ok (ih : Handler) (n : Nat) (x0 : IV) (h1 : Hp) : funS EE ih ft.get n 77 [x0] h1 = S77 ih n x0 h1 := by kernel_rfl
noncomputable def S78_27 (h5 : Hp) (x11 : IV) : Option (IV × Hp) :=
  load1 x11 h5 fun x12 _ => outS1 [x12] h5
noncomputable def S78_28 (x15 : IV) (h5 : Hp) (q3 : List IV → Hp → Option (IV × Hp)) (x14 : IV) : Option (IV × Hp) :=
  faddrS 1 x15 fun x16 => load1 x16 h5 fun x17 _ => q3 [x17, x14] h5
noncomputable def S78_29 (x9 : IV) (x6 : IV) (h5 : Hp) (x7 : IV) (q3 : List IV → Hp → Option (IV × Hp)) : Option (IV × Hp) :=
  condS x9 (nilS x6 fun x10 => faddrS 0 x10 fun x11 => S78_27 h5 x11) (subS EE 3 x7 (.fv (.int .i64 1)) fun x14 => nilS x6 fun x15 => S78_28 x15 h5 q3 x14)
noncomputable def S78_30 (x19 : IV) (h5 : Hp) : Option (IV × Hp) :=
  bldS [.fv (.int .i64 0), .fv (.int .i64 0), .nils, .fv (.int .i64 0), .fv (.int .i64 0), .nils, .fv (.nilp)] [(0, 1, .fv (.int .i64 1)), (1, 1, x19)] fun x20 => boxS 81795075 x20 h5 fun x21 h22 _ _ => outS1 [x21] h22
noncomputable def S78_31 (l4 : List IV) (h5 : Hp) (q3 : List IV → Hp → Option (IV × Hp)) : Option (IV × Hp) :=
  uncS l4 fun x6 l25 => uncS l25 fun x7 _ => neS EE 102 x6 (.fv .nilp) fun x8 => condS x8 (eqS EE 3 x7 (.fv (.int .i64 0)) fun x9 => S78_29 x9 x6 h5 x7 q3) (subS EE 3 (.fv (.int .i64 (-1))) x7 fun x19 => S78_30 x19 h5)
noncomputable def S78 (ih : Handler) (n : Nat) (x0 : IV) (x1 : IV) (h2 : Hp) : Option (IV × Hp) :=
  loopS n (fun q3 l4 h5 => S78_31 l4 h5 q3) [x0, x1] h2
theorem S78_ok (ih : Handler) (n : Nat) (x0 : IV) (x1 : IV) (h2 : Hp) : funS EE ih ft.get n 78 [x0, x1] h2 = S78 ih n x0 x1 h2 := by kernel_rfl
noncomputable def S79 (ih : Handler) (n : Nat) (x0 : IV) (x1 : IV) (h2 : Hp) : Option (IV × Hp) :=
  dynS EE ih (.fv (.func (.func 88) [] [])) [x0, x1] h2 fun x3 h4 _ _ => outS1 [x3] h4
theorem S79_ok (ih : Handler) (n : Nat) (x0 : IV) (x1 : IV) (h2 : Hp) : funS EE ih ft.get n 79 [x0, x1] h2 = S79 ih n x0 x1 h2 := by kernel_rfl
noncomputable def S80_126 (h113 : Hp) (x122 : IV) (j0_104 : Hp → Option (IV × Hp)) : Option (IV × Hp) :=
  store1 x122 (.fv (.int .i64 17)) h113 fun h123 _ _ => j0_104 h123
noncomputable def S80_127 (x120 : IV) (x0 : IV) (h113 : Hp) (j0_104 : Hp → Option (IV × Hp)) : Option (IV × Hp) :=
  condS x120 (nilS x0 fun x121 => faddrS 3 x121 fun x122 => S80_126 h113 x122 j0_104) (j0_104 h113)
noncomputable def S80_128 (h100 : Hp) (x112 : IV) (x110 : IV) (x0 : IV) (j0_104 : Hp → Option (IV × Hp)) : Option (IV × Hp) :=
  store1 x112 x110 h100 fun h113 _ _ => nilS x0 fun x116 => faddrS 0 x116 fun x117 => load1 x117 h113 fun x118 _ => ltS EE 3 x118 (.fv (.int .i64 0)) fun x120 => S80_127 x120 x0 h113 j0_104
noncomputable def S80_129 (x106 : IV) (h100 : Hp) (x0 : IV) (j0_104 : Hp → Option (IV × Hp)) : Option (IV × Hp) :=
  faddrS 0 x106 fun x107 => load1 x107 h100 fun x108 _ => subS EE 3 x108 (.fv (.int .i64 1)) fun x110 => nilS x0 fun x111 => faddrS 0 x111 fun x112 => S80_128 h100 x112 x110 x0 j0_104
noncomputable def S80_130 (x103 : IV) (h100 : Hp) (x1 : IV) (x68 : IV) (x0 : IV) : Option (IV × Hp) :=
  condS x103 (outS1 [x1] h100) ((fun (j0_104 : Hp → Option (IV × Hp)) => nilS x0 fun x106 => S80_129 x106 h100 x0 j0_104) fun h105 => outS1 [x68] h105)
noncomputable def S80_131 (h75 : Hp) (x72 : IV) (x74 : IV) (x1 : IV) (x68 : IV) (x0 : IV) : Option (IV × Hp) :=
  guardS x72 false h75 (fun k78 => nilS x74 fun x79 => k78 x79 h75 [] []) fun x80 h81 _ _ => guardS x72 false h81 (fun k84 => faddrS 3 x80 fun x85 => k84 x85 h81 [] []) fun x86 h87 _ _ => guardS x72 false h87 (fun k90 => load1 x86 h87 fun x91 r92 => k90 x91 h87 r92 []) fun x93 h94 _ _ => guardS x72 false h94 (fun k97 => neS EE 37 x93 (.fv (.int .i64 0)) fun x98 => k97 x98 h94 [] []) fun x99 h100 _ _ => pickS x72 (.fv (.bool true)) x99 fun x103 => S80_130 x103 h100 x1 x68 x0
noncomputable def S80_132 (x17 : IV) (h57 : Hp) (ih : Handler) (x1 : IV) (x0 : IV) : Option (IV × Hp) :=
  faddrS 0 x17 fun x65 => load1 x65 h57 fun x66 _ => dynS EE ih x66 [x1] h57 fun x68 h69 _ _ => eqS EE 76 x68 (.fv .nilp) fun x72 => guardS x72 false h69 (fun k73 => k73 x0 h69 [] []) fun x74 h75 _ _ => S80_131 h75 x72 x74 x1 x68 x0
noncomputable def S80_133 (x0 : IV) (h57 : Hp) (x1 : IV) (x17 : IV) (ih : Handler) : Option (IV × Hp) :=
  nilS x0 fun x60 => faddrS 3 x60 fun x61 => load1 x61 h57 fun x62 _ => neS EE 37 x62 (.fv (.int .i64 0)) fun x64 => condS x64 (outS1 [x1] h57) (S80_132 x17 h57 ih x1 x0)
noncomputable def S80_134 (h46 : Hp) (x24 : IV) (x45 : IV) (x1 : IV) (ih : Handler) (x0 : IV) (x17 : IV) : Option (IV × Hp) :=
  guardS x24 false h46 (fun k49 => neS EE 37 x45 (.fv (.int .i64 0)) fun x50 => k49 x50 h46 [] []) fun x51 h52 _ _ => pickS x24 (.fv (.bool true)) x51 fun x55 => condS x55 (outS1 [x1] h52) (isoS [true] false false ih 77 [x0] h52 fun _ h57 _ _ => S80_133 x0 h57 x1 x17 ih)
noncomputable def S80_135 (x16 : IV) (h21 : Hp) (x0 : IV) (x1 : IV) (ih : Handler) (x17 : IV) : Option (IV × Hp) :=
  optS (unR .not x16) fun x24 => guardS x24 false h21 (fun k25 => k25 x0 h21 [] []) fun x26 h27 _ _ => guardS x24 false h27 (fun k30 => nilS x26 fun x31 => k30 x31 h27 [] []) fun x32 h33 _ _ => guardS x24 false h33 (fun k36 => faddrS 3 x32 fun x37 => k36 x37 h33 [] []) fun x38 h39 _ _ => guardS x24 false h39 (fun k42 => load1 x38 h39 fun x43 r44 => k42 x43 h39 r44 []) fun x45 h46 _ _ => S80_134 h46 x24 x45 x1 ih x0 x17
noncomputable def S80_136 (x11 : IV) (h12 : Hp) (r13 : List Ref) (w14 : List Ref) (r10 : List Ref) (r6 : List Ref) (x15 : IV) (x0 : IV) (x1 : IV) (ih : Handler) : Option (IV × Hp) :=
  extS 1 x11 fun x16 => newS 83887116 (.row [.fv (.nilf)] false) (.ptr (.own 83887116) 0) h12 fun x17 h18 r19 w20 => chkS [(r13, w14), (r10, []), (r6, [])] r19 w20 (store1 x17 x15 h18 fun h21 r22 w23 => chkS [] r22 w23 (S80_135 x16 h21 x0 x1 ih x17))
noncomputable def S80_137 (h2 : Hp) (x8 : IV) (r6 : List Ref) (x5 : IV) (x0 : IV) (x1 : IV) (ih : Handler) : Option (IV × Hp) :=
  load1 x8 h2 fun x9 r10 => chkS [(r6, [])] r10 [] (genS (pcLookup EE 78 x5 x9 true) 83887112 h2 fun x11 h12 r13 w14 => chkS [] r13 w14 (extS 0 x11 fun x15 => S80_136 x11 h12 r13 w14 r10 r6 x15 x0 x1 ih))
noncomputable def S80 (ih : Handler) (n : Nat) (x0 : IV) (x1 : IV) (h2 : Hp) : Option (IV × Hp) :=
  nilS x0 fun x3 => faddrS 4 x3 fun x4 => load1 x4 h2 fun x5 r6 => chkS [] r6 [] (nilS x1 fun x7 => faddrS 0 x7 fun x8 => S80_137 h2 x8 r6 x5 x0 x1 ih)
theorem S80_ok (ih : Handler) (n : Nat) (x0 : IV) (x1 : IV) (h2 : Hp) : funS EE ih ft.get n 80 [x0, x1] h2 = S80 ih n x0 x1 h2 := by kernel_rfl
noncomputable def S81_25 (x16 : IV) (x2 : IV) (h10 : Hp) (r11 : List Ref) (w12 : List Ref) (r8 : List Ref) (ih : Handler) (x0 : IV) (x9 : IV) : Option (IV × Hp) :=
  ixS 3 x16 x2 fun x18 => loadA 3 x18 h10 fun x19 r20 => chkS [(r11, w12), (r8, [])] r20 [] (isoS [true, false, false] false false ih 52 [x0, x9, x19] h10 fun x21 h22 r23 w24 => chkS [] r23 w24 (outS1 [x21] h22))
noncomputable def S81_26 (x1 : IV) (h10 : Hp) (r11 : List Ref) (w12 : List Ref) (r8 : List Ref) (x2 : IV) (ih : Handler) (x0 : IV) (x9 : IV) : Option (IV × Hp) :=
  nilS x1 fun x13 => faddrS 3 x13 fun x14 => faddrS 2 x14 fun x15 => load1 x15 h10 fun x16 r17 => chkS [(r11, w12), (r8, [])] r17 [] (S81_25 x16 x2 h10 r11 w12 r8 ih x0 x9)
noncomputable def S81 (ih : Handler) (n : Nat) (x0 : IV) (x1 : IV) (x2 : IV) (x3 : IV) (h4 : Hp) : Option (IV × Hp) :=
  nilS x1 fun x5 => faddrS 6 x5 fun x6 => load1 x6 h4 fun x7 r8 => chkS [] r8 [] (isoS [] false false ih 89 [x7, x3] h4 fun x9 h10 r11 w12 => chkS [] r11 w12 (S81_26 x1 h10 r11 w12 r8 x2 ih x0 x9))
theorem S81_ok (ih : Handler) (n : Nat) (x0 : IV) (x1 : IV) (x2 : IV) (x3 : IV) (h4 : Hp) : funS EE ih ft.get n 81 [x0, x1, x2, x3] h4 = S81 ih n x0 x1 x2 x3 h4 := by kernel_rfl
noncomputable def S86_29 (x0 : IV) (h13 : Hp) : Option (IV × Hp) :=
  nilS x0 fun x14 => faddrS 2 x14 fun x15 => load1 x15 h13 fun x16 _ => eqS EE 3 x16 (.fv (.int .i64 0)) fun x18 => outS1 [x18] h13
noncomputable def S86_30 (h9 : Hp) (x25 : IV) (j0_12 : Hp → Option (IV × Hp)) : Option (IV × Hp) :=
  store1 x25 (.fv (.int .i64 17)) h9 fun h26 _ _ => j0_12 h26
noncomputable def S86_31 (x21 : IV) (x0 : IV) (h9 : Hp) (j0_12 : Hp → Option (IV × Hp)) : Option (IV × Hp) :=
  gtS EE 3 x21 (.fv (.int .i64 1000)) fun x23 => condS x23 (nilS x0 fun x24 => faddrS 2 x24 fun x25 => S86_30 h9 x25 j0_12) (j0_12 h9)
noncomputable def S86_32 (h1 : Hp) (x8 : IV) (x6 : IV) (x0 : IV) : Option (IV × Hp) :=
  store1 x8 x6 h1 fun h9 _ _ => (fun (j0_12 : Hp → Option (IV × Hp)) => nilS x0 fun x19 => faddrS 0 x19 fun x20 => load1 x20 h9 fun x21 _ => S86_31 x21 x0 h9 j0_12) fun h13 => S86_29 x0 h13
noncomputable def S86 (ih : Handler) (n : Nat) (x0 : IV) (h1 : Hp) : Option (IV × Hp) :=
  nilS x0 fun x2 => faddrS 0 x2 fun x3 => load1 x3 h1 fun x4 _ => addS EE 3 x4 (.fv (.int .i64 1)) fun x6 => nilS x0 fun x7 => faddrS 0 x7 fun x8 => S86_32 h1 x8 x6 x0
theorem S86_ok (ih : Handler) (n : Nat) (x0 : IV) (h1 : Hp) : funS EE ih ft.get n 86 [x0] h1 = S86 ih n x0 h1 := by kernel_rfl
noncomputable def S87_29 (x22 : IV) (h2 : Hp) : Option (IV × Hp) :=
  faddrS 2 x22 fun x23 => load1 x23 h2 fun x24 _ => ixS 1 x24 (.fv (.int .i64 0)) fun x26 => load1 x26 h2 fun x27 _ => outS1 [x27] h2
noncomputable def S87_30 (x15 : IV) (h2 : Hp) : Option (IV × Hp) :=
  faddrS 2 x15 fun x16 => load1 x16 h2 fun x17 _ => ixS 1 x17 (.fv (.int .i64 0)) fun x19 => load1 x19 h2 fun x20 _ => nilS x20 fun x22 => S87_29 x22 h2
noncomputable def S87_31 (x10 : IV) (h2 : Hp) (x1 : IV) (x0 : IV) : Option (IV × Hp) :=
  faddrS 0 x10 fun x11 => load1 x11 h2 fun x12 _ => neS EE 3 x12 x1 fun x14 => condS x14 (outS1 [.fv .nilp] h2) (nilS x0 fun x15 => S87_30 x15 h2)
noncomputable def S87 (ih : Handler) (n : Nat) (x0 : IV) (x1 : IV) (h2 : Hp) : Option (IV × Hp) :=
  nilS x0 fun x3 => faddrS 2 x3 fun x4 => load1 x4 h2 fun x5 _ => ixS 1 x5 (.fv (.int .i64 0)) fun x7 => load1 x7 h2 fun x8 _ => nilS x8 fun x10 => S87_31 x10 h2 x1 x0
theorem S87_ok (ih : Handler) (n : Nat) (x0 : IV) (x1 : IV) (h2 : Hp) : funS EE ih ft.get n 87 [x0, x1] h2 = S87 ih n x0 x1 h2 := by kernel_rfl
noncomputable def S88_18 (x1 : IV) (h7 : Hp) (j0_3 : Hp → Option (IV × Hp)) : Option (IV × Hp) :=
  eqS EE 3 x1 (.fv (.int .i64 0)) fun x10 => condS x10 (outS1 [.fv (.int .i64 1)] h7) (eqS EE 3 x1 (.fv (.int .i64 2)) fun x11 => condS x11 (outS1 [.fv (.int .i64 2)] h7) (j0_3 h7))
noncomputable def S88_19 (x6 : IV) (x1 : IV) (h7 : Hp) (j0_3 : Hp → Option (IV × Hp)) (x0 : IV) : Option (IV × Hp) :=
  condS x6 (eqS EE 3 x1 (.fv (.int .i64 1)) fun x8 => condS x8 (outS1 [.fv (.int .i64 1)] h7) (j0_3 h7)) (eqS EE 3 x0 (.fv (.int .i64 13)) fun x9 => condS x9 (S88_18 x1 h7 j0_3) (j0_3 h7))
noncomputable def S88_20 (x0 : IV) (j1_5 : IV → Hp → Option (IV × Hp)) (h2 : Hp) : Option (IV × Hp) :=
  eqS EE 3 x0 (.fv (.int .i64 29)) fun x17 => j1_5 x17 h2
noncomputable def S88_21 (x0 : IV) (j1_5 : IV → Hp → Option (IV × Hp)) (h2 : Hp) : Option (IV × Hp) :=
  eqS EE 3 x0 (.fv (.int .i64 20)) fun x15 => condS x15 (j1_5 x15 h2) (eqS EE 3 x0 (.fv (.int .i64 28)) fun x16 => condS x16 (j1_5 x16 h2) (S88_20 x0 j1_5 h2))
noncomputable def S88_22 (x13 : IV) (j1_5 : IV → Hp → Option (IV × Hp)) (h2 : Hp) (x0 : IV) : Option (IV × Hp) :=
  condS x13 (j1_5 x13 h2) (eqS EE 3 x0 (.fv (.int .i64 6)) fun x14 => condS x14 (j1_5 x14 h2) (S88_21 x0 j1_5 h2))
noncomputable def S88 (ih : Handler) (n : Nat) (x0 : IV) (x1 : IV) (h2 : Hp) : Option (IV × Hp) :=
  (fun (j0_3 : Hp → Option (IV × Hp)) => (fun (j1_5 : IV → Hp → Option (IV × Hp)) => eqS EE 3 x0 (.fv (.int .i64 3)) fun x12 => condS x12 (j1_5 x12 h2) (eqS EE 3 x0 (.fv (.int .i64 4)) fun x13 => S88_22 x13 j1_5 h2 x0)) fun x6 h7 => S88_19 x6 x1 h7 j0_3 x0) fun h4 => outS1 [.fv (.int .i64 0)] h4
theorem S88_ok (ih : Handler) (n : Nat) (x0 : IV) (x1 : IV) (h2 : Hp) : funS EE ih ft.get n 88 [x0, x1] h2 = S88 ih n x0 x1 h2 := by kernel_rfl
noncomputable def S89_27 (x13 : IV) (x7 : IV) (h6 : Hp) (x10 : IV) (h2 : Hp) (x8 : IV) (x9 : IV) (q4 : List IV → Hp → Option (IV × Hp)) : Option (IV × Hp) :=
  bldS [.fv (.nilp), .fv (.nilp)] [(0, 1, x13), (1, 1, x7)] fun x15 => fzS (pcBox true 93327363 x15) 93327363 x15 h6 fun x16 h17 _ _ => addS EE 3 x10 (.fv (.int .i64 1)) fun x20 => dropS (h2.own.map (·.1)) [93327363] [x16, x8, x9, x20] h17 fun h21 => q4 [x16, x8, x9, x20] h21
noncomputable def S89_28 (x11 : IV) (x8 : IV) (x10 : IV) (h6 : Hp) (x7 : IV) (h2 : Hp) (x9 : IV) (q4 : List IV → Hp → Option (IV × Hp)) : Option (IV × Hp) :=
  condS x11 (ixS 1 x8 x10 fun x12 => load1 x12 h6 fun x13 _ => S89_27 x13 x7 h6 x10 h2 x8 x9 q4) (outS1 [x7] h6)
noncomputable def S89_29 (l5 : List IV) (h6 : Hp) (h2 : Hp) (q4 : List IV → Hp → Option (IV × Hp)) : Option (IV × Hp) :=
  uncS l5 fun x7 l22 => uncS l22 fun x8 l23 => uncS l23 fun x9 l24 => uncS l24 fun x10 _ => ltS EE 3 x10 x9 fun x11 => S89_28 x11 x8 x10 h6 x7 h2 x9 q4
noncomputable def S89 (ih : Handler) (n : Nat) (x0 : IV) (x1 : IV) (h2 : Hp) : Option (IV × Hp) :=
  lenS x1 fun x3 => dropS (h2.own.map (·.1)) [93327363] [x0, x1, x3, .fv (.int .i64 0)] h2 fun h26 => loopS n (fun q4 l5 h6 => S89_29 l5 h6 h2 q4) [x0, x1, x3, .fv (.int .i64 0)] h26
theorem S89_ok (ih : Handler) (n : Nat) (x0 : IV) (x1 : IV) (h2 : Hp) : funS EE ih ft.get n 89 [x0, x1] h2 = S89 ih n x0 x1 h2 := by kernel_rfl
end Idl
end Go.Proofs.Ytbkdidonegggdaa
namespace Go.Proofs.Ytbkdidonegggdaa
namespace Idl
noncomputable def dt : DT :=
 .node 58 (.node 36 (.node 28 (.node 20 (.node 14 (.leaf 6 (fun ih n => ar1 (S6 ih n)))
 (.leaf 14 (fun ih n => ar0 (S14 ih n))))
 (.node 21 (.leaf 20 (fun ih n => ar1 (S20 ih n)))
 (.node 27 (.leaf 21 (fun ih n => ar2 (S21 ih n)))
 (.leaf 27 (fun ih n => ar2 (S27 ih n))))))
 (.node 31 (.node 30 (.leaf 28 (fun ih n => ar2 (S28 ih n)))
 (.leaf 30 (fun ih n => ar3 (S30 ih n))))
 (.node 34 (.leaf 31 (fun ih n => ar3 (S31 ih n)))
 (.node 35 (.leaf 34 (fun ih n => ar1 (S34 ih n)))
 (.leaf 35 (fun ih n => ar1 (S35 ih n)))))))
 (.node 51 (.node 48 (.node 43 (.leaf 36 (fun ih n => ar1 (S36 ih n)))
 (.leaf 43 (fun ih n => ar1 (S43 ih n))))
 (.node 49 (.leaf 48 (fun ih n => ar4 (S48 ih n)))
 (.node 50 (.leaf 49 (fun ih n => ar3 (S49 ih n)))
 (.leaf 50 (fun ih n => ar1 (S50 ih n))))))
 (.node 53 (.node 52 (.leaf 51 (fun ih n => ar0 (S51 ih n)))
 (.leaf 52 (fun ih n => ar3 (S52 ih n))))
 (.node 55 (.leaf 53 (fun ih n => ar4 (S53 ih n)))
 (.node 57 (.leaf 55 (fun ih n => ar2 (S55 ih n)))
 (.leaf 57 (fun ih n => ar1 (S57 ih n))))))))
 (.node 75 (.node 70 (.node 63 (.node 62 (.leaf 58 (fun ih n => ar2 (S58 ih n)))
 (.leaf 62 (fun ih n => ar4 (S62 ih n))))
 (.node 68 (.leaf 63 (fun ih n => ar2 (S63 ih n)))
 (.node 69 (.leaf 68 (fun ih n => ar2 (S68 ih n)))
 (.leaf 69 (fun ih n => ar2 (S69 ih n))))))
 (.node 72 (.node 71 (.leaf 70 (fun ih n => ar2 (S70 ih n)))
 (.leaf 71 (fun ih n => ar1 (S71 ih n))))
 (.node 73 (.leaf 72 (fun ih n => ar2 (S72 ih n)))
 (.node 74 (.leaf 73 (fun ih n => ar2 (S73 ih n)))
 (.leaf 74 (fun ih n => ar2 (S74 ih n)))))))
 (.node 80 (.node 77 (.node 76 (.leaf 75 (fun ih n => ar2 (S75 ih n)))
 (.leaf 76 (fun ih n => ar2 (S76 ih n))))
 (.node 78 (.leaf 77 (fun ih n => ar1 (S77 ih n)))
 (.node 79 (.leaf 78 (fun ih n => ar2 (S78 ih n)))
 (.leaf 79 (fun ih n => ar2 (S79 ih n))))))
 (.node 87 (.node 81 (.leaf 80 (fun ih n => ar2 (S80 ih n)))
 (.node 86 (.leaf 81 (fun ih n => ar4 (S81 ih n)))
 (.leaf 86 (fun ih n => ar1 (S86 ih n)))))
 (.node 88 (.leaf 87 (fun ih n => ar2 (S87 ih n)))
 (.node 89 (.leaf 88 (fun ih n => ar2 (S88 ih n)))
 (.leaf 89 (fun ih n => ar2 (S89 ih n))))))))
theorem dt_ok : dt.Ok EE ft.get :=
 ⟨⟨⟨⟨⟨(fun ih n _ _ _ e => ar1_ok (F := funS EE ih ft.get n 6) (S6_ok ih n) e),
 (fun ih n _ _ _ e => ar0_ok (F := funS EE ih ft.get n 14) (S14_ok ih n) e)⟩,
 ⟨(fun ih n _ _ _ e => ar1_ok (F := funS EE ih ft.get n 20) (S20_ok ih n) e),
 ⟨(fun ih n _ _ _ e => ar2_ok (F := funS EE ih ft.get n 21) (S21_ok ih n) e),
 (fun ih n _ _ _ e => ar2_ok (F := funS EE ih ft.get n 27) (S27_ok ih n) e)⟩⟩⟩,
 ⟨⟨(fun ih n _ _ _ e => ar2_ok (F := funS EE ih ft.get n 28) (S28_ok ih n) e),
 (fun ih n _ _ _ e => ar3_ok (F := funS EE ih ft.get n 30) (S30_ok ih n) e)⟩,
 ⟨(fun ih n _ _ _ e => ar3_ok (F := funS EE ih ft.get n 31) (S31_ok ih n) e),
 ⟨(fun ih n _ _ _ e => ar1_ok (F := funS EE ih ft.get n 34) (S34_ok ih n) e),
 (fun ih n _ _ _ e => ar1_ok (F := funS EE ih ft.get n 35) (S35_ok ih n) e)⟩⟩⟩⟩,
 ⟨⟨⟨(fun ih n _ _ _ e => ar1_ok (F := funS EE ih ft.get n 36) (S36_ok ih n) e),
 (fun ih n _ _ _ e => ar1_ok (F := funS EE ih ft.get n 43) (S43_ok ih n) e)⟩,
 ⟨(fun ih n _ _ _ e => ar4_ok (F := funS EE ih ft.get n 48) (S48_ok ih n) e),
 ⟨(fun ih n _ _ _ e => ar3_ok (F := funS EE ih ft.get n 49) (S49_ok ih n) e),
 (fun ih n _ _ _ e => ar1_ok (F := funS EE ih ft.get n 50) (S50_ok ih n) e)⟩⟩⟩,
 ⟨⟨(fun ih n _ _ _ e => ar0_ok (F := funS EE ih ft.get n 51) (S51_ok ih n) e),
 (fun ih n _ _ _ e => ar3_ok (F := funS EE ih ft.get n 52) (S52_ok ih n) e)⟩,
 ⟨(fun ih n _ _ _ e => ar4_ok (F := funS EE ih ft.get n 53) (S53_ok ih n) e),
 ⟨(fun ih n _ _ _ e => ar2_ok (F := funS EE ih ft.get n 55) (S55_ok ih n) e),
 (fun ih n _ _ _ e => ar1_ok (F := funS EE ih ft.get n 57) (S57_ok ih n) e)⟩⟩⟩⟩⟩,
 ⟨⟨⟨⟨(fun ih n _ _ _ e => ar2_ok (F := funS EE ih ft.get n 58) (S58_ok ih n) e),
 (fun ih n _ _ _ e => ar4_ok (F := funS EE ih ft.get n 62) (S62_ok ih n) e)⟩,
 ⟨(fun ih n _ _ _ e => ar2_ok (F := funS EE ih ft.get n 63) (S63_ok ih n) e),
 ⟨(fun ih n _ _ _ e => ar2_ok (F := funS EE ih ft.get n 68) (S68_ok ih n) e),
 (fun ih n _ _ _ e => ar2_ok (F := funS EE ih ft.get n 69) (S69_ok ih n) e)⟩⟩⟩,
 ⟨⟨(fun ih n _ _ _ e => ar2_ok (F := funS EE ih ft.get n 70) (S70_ok ih n) e),
 (fun ih n _ _ _ e => ar1_ok (F := funS EE ih ft.get n 71) (S71_ok ih n) e)⟩,
 ⟨(fun ih n _ _ _ e => ar2_ok (F := funS EE ih ft.get n 72) (S72_ok ih n) e),
 ⟨(fun ih n _ _ _ e => ar2_ok (F := funS EE ih ft.get n 73) (S73_ok ih n) e),
 (fun ih n _ _ _ e => ar2_ok (F := funS EE ih ft.get n 74) (S74_ok ih n) e)⟩⟩⟩⟩,
 ⟨⟨⟨(fun ih n _ _ _ e => ar2_ok (F := funS EE ih ft.get n 75) (S75_ok ih n) e),
 (fun ih n _ _ _ e => ar2_ok (F := funS EE ih ft.get n 76) (S76_ok ih n) e)⟩,
 ⟨(fun ih n _ _ _ e => ar1_ok (F := funS EE ih ft.get n 77) (S77_ok ih n) e),
 ⟨(fun ih n _ _ _ e => ar2_ok (F := funS EE ih ft.get n 78) (S78_ok ih n) e),
 (fun ih n _ _ _ e => ar2_ok (F := funS EE ih ft.get n 79) (S79_ok ih n) e)⟩⟩⟩,
 ⟨⟨(fun ih n _ _ _ e => ar2_ok (F := funS EE ih ft.get n 80) (S80_ok ih n) e),
 ⟨(fun ih n _ _ _ e => ar4_ok (F := funS EE ih ft.get n 81) (S81_ok ih n) e),
 (fun ih n _ _ _ e => ar1_ok (F := funS EE ih ft.get n 86) (S86_ok ih n) e)⟩⟩,
 ⟨(fun ih n _ _ _ e => ar2_ok (F := funS EE ih ft.get n 87) (S87_ok ih n) e),
 ⟨(fun ih n _ _ _ e => ar2_ok (F := funS EE ih ft.get n 88) (S88_ok ih n) e),
 (fun ih n _ _ _ e => ar2_ok (F := funS EE ih ft.get n 89) (S89_ok ih n) e)⟩⟩⟩⟩⟩⟩
theorem sh_run : ∀ n f args h x, SS dt n f args h = some x → run EE n f args h = some x := SS_ok ft_ok dt_ok
end Idl
end Go.Proofs.Ytbkdidonegggdaa

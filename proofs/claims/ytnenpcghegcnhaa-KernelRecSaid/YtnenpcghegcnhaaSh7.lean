/-
  THE SHALLOW FORM OF THE SEAT'S FUNCTIONS, a part; each is what its code's shallow run is. Printed by a program of mine (gen-sh). No statement is proved here.
-/
import Derived.Test.YtnenpcghegcnhaaTab
import Derived.Test.YtnenpcghegcnhaaIdl31
set_option maxRecDepth 100000
set_option linter.unusedVariables false
namespace Go.Proofs.Ytnenpcghegcnhaa
namespace Idl
/-! Function 93. -/
noncomputable def S93_66 (h5 : Hp) (x12 : IV) (ih : Handler) (x2 : IV) (x1 : IV) : Option (IV × Hp) :=
  load1 x12 h5 fun x13 _ => dynS EE ih x2 [x13, x1] h5 fun x15 h16 _ _ => outS1 [x15] h16
noncomputable def S93_67 (h3 : Hp) (h54 : Hp) (x26 : IV) (x27 : IV) (x28 : IV) (x29 : IV) (x30 : IV) (x57 : IV) (q23 : List IV → Hp → Option (IV × Hp)) : Option (IV × Hp) :=
  dropS (h3.own.map (·.1)) [97522691] [x26, x27, x28, x29, x30, x57] h54 fun h58 => q23 [x26, x27, x28, x29, x30, x57] h58
noncomputable def S93_68 (x26 : IV) (x48 : IV) (ih : Handler) (h49 : Hp) (x43 : IV) (x27 : IV) (x31 : IV) (h3 : Hp) (x28 : IV) (x29 : IV) (x30 : IV) (q23 : List IV → Hp → Option (IV × Hp)) : Option (IV × Hp) :=
  addS EE 3 x26 x48 fun x52 => isoS [] false false ih 93 [x43, x52, x27] h49 fun x53 h54 r55 w56 => chkS [] r55 w56 (condS x53 (outS1 [.fv (.bool true)] h54) (addS EE 3 x31 (.fv (.int .i64 1)) fun x57 => S93_67 h3 h54 x26 x27 x28 x29 x30 x57 q23))
noncomputable def S93_69 (x28 : IV) (h40 : Hp) (r44 : List Ref) (ih : Handler) (x31 : IV) (x26 : IV) (x43 : IV) (x27 : IV) (h3 : Hp) (x29 : IV) (x30 : IV) (q23 : List IV → Hp → Option (IV × Hp)) : Option (IV × Hp) :=
  faddrS 0 x28 fun x45 => load1 x45 h40 fun x46 r47 => chkS [(r44, [])] r47 [] (isoS [] false false ih 75 [x46, x31] h40 fun x48 h49 r50 w51 => chkS [(r44, [])] r50 w51 (S93_68 x26 x48 ih h49 x43 x27 x31 h3 x28 x29 x30 q23))
noncomputable def S93_70 (h25 : Hp) (x33 : IV) (x28 : IV) (ih : Handler) (x31 : IV) (x26 : IV) (x27 : IV) (h3 : Hp) (x29 : IV) (x30 : IV) (q23 : List IV → Hp → Option (IV × Hp)) : Option (IV × Hp) :=
  loadA 3 x33 h25 fun x34 _ => newS 97522691 (.row [.fv (.int .i64 0), .fv (.int .i64 0), .nils] false) (.ptr (.own 97522691) 0) h25 fun x36 h37 _ _ => storeA 3 x36 x34 h37 fun h40 _ _ => loadA 3 x36 h40 fun x43 r44 => chkS [] r44 [] (S93_69 x28 h40 r44 ih x31 x26 x43 x27 h3 x29 x30 q23)
noncomputable def S93_71 (l63 : List IV) (x30 : IV) (x29 : IV) (h25 : Hp) (x28 : IV) (ih : Handler) (x26 : IV) (x27 : IV) (h3 : Hp) (q23 : List IV → Hp → Option (IV × Hp)) : Option (IV × Hp) :=
  uncS l63 fun x31 _ => ltS EE 3 x31 x30 fun x32 => condS x32 (ixS 3 x29 x31 fun x33 => S93_70 h25 x33 x28 ih x31 x26 x27 h3 x29 x30 q23) (outS1 [.fv (.bool false)] h25)
noncomputable def S93_72 (l24 : List IV) (h25 : Hp) (ih : Handler) (h3 : Hp) (q23 : List IV → Hp → Option (IV × Hp)) : Option (IV × Hp) :=
  uncS l24 fun x26 l59 => uncS l59 fun x27 l60 => uncS l60 fun x28 l61 => uncS l61 fun x29 l62 => uncS l62 fun x30 l63 => S93_71 l63 x30 x29 h25 x28 ih x26 x27 h3 q23
noncomputable def S93_73 (h5 : Hp) (x19 : IV) (h3 : Hp) (x1 : IV) (x2 : IV) (x4 : IV) (n : Nat) (ih : Handler) : Option (IV × Hp) :=
  load1 x19 h5 fun x20 _ => lenS x20 fun x22 => dropS (h3.own.map (·.1)) [97522691] [x1, x2, x4, x20, x22, .fv (.int .i64 0)] h5 fun h65 => loopS n (fun q23 l24 h25 => S93_72 l24 h25 ih h3 q23) [x1, x2, x4, x20, x22, .fv (.int .i64 0)] h65
noncomputable def S93 (ih : Handler) (n : Nat) (x0 : IV) (x1 : IV) (x2 : IV) (h3 : Hp) : Option (IV × Hp) :=
  boxS 97517568 x0 h3 fun x4 h5 _ _ => faddrS 0 x4 fun x8 => load1 x8 h5 fun x9 _ => eqS EE 3 x9 (.fv (.int .i64 1)) fun x11 => condS x11 (faddrS 1 x4 fun x12 => S93_66 h5 x12 ih x2 x1) (faddrS 2 x4 fun x19 => S93_73 h5 x19 h3 x1 x2 x4 n ih)
theorem S93_ok (ih : Handler) (n : Nat) (x0 : IV) (x1 : IV) (x2 : IV) (h3 : Hp) : funS EE ih ft.get n 93 [x0, x1, x2] h3 = S93 ih n x0 x1 x2 h3 := by kernel_rfl
/-! Function 94. -/
noncomputable def S94_25 (x7 : IV) (x20 : IV) (h21 : Hp) : Option (IV × Hp) :=
  pickS x7 x20 (.fv (.bool false)) fun x24 => outS1 [x24] h21
noncomputable def S94 (ih : Handler) (n : Nat) (x0 : IV) (x1 : IV) (x2 : IV) (h3 : Hp) : Option (IV × Hp) :=
  subS EE 3 x0 x1 fun x4 => load1 x2 h3 fun x5 _ => eqS EE 3 x4 x5 fun x7 => guardS x7 true h3 (fun k8 => k8 x0 h3 [] []) fun x9 h10 _ _ => guardS x7 true h10 (fun k13 => k13 x1 h10 [] []) fun x14 h15 _ _ => guardS x7 true h15 (fun k18 => geS EE 3 x9 x14 fun x19 => k18 x19 h15 [] []) fun x20 h21 _ _ => S94_25 x7 x20 h21
theorem S94_ok (ih : Handler) (n : Nat) (x0 : IV) (x1 : IV) (x2 : IV) (h3 : Hp) : funS EE ih ft.get n 94 [x0, x1, x2] h3 = S94 ih n x0 x1 x2 h3 := by kernel_rfl
/-! Function 95. -/
noncomputable def S95_53 (h23 : Hp) (x9 : IV) (x22 : IV) : Option (IV × Hp) :=
  storeA 3 x9 x22 h23 fun h26 _ _ => cellS true 3 x9 h26 fun x29 => outS1 [x29] h26
noncomputable def S95_54 (h36 : Hp) (x9 : IV) (x35 : IV) : Option (IV × Hp) :=
  storeA 3 x9 x35 h36 fun h39 _ _ => cellS true 3 x9 h39 fun x42 => outS1 [x42] h39
noncomputable def S95_55 (h46 : Hp) (x9 : IV) (x45 : IV) : Option (IV × Hp) :=
  storeA 3 x9 x45 h46 fun h49 _ _ => cellS true 3 x9 h49 fun x52 => outS1 [x52] h49
noncomputable def S95_56 (x32 : IV) (h10 : Hp) (x3 : IV) (ih : Handler) (x1 : IV) (x9 : IV) (x5 : IV) : Option (IV × Hp) :=
  condS x32 (loadA 3 x3 h10 fun x33 _ => isoS [] false false ih 47 [x33, x1, .fv (.int .i64 0)] h10 fun x35 h36 _ _ => S95_54 h36 x9 x35) (loadA 3 x5 h10 fun x43 _ => isoS [] false false ih 80 [x43, .fv (.int .i64 0)] h10 fun x45 h46 _ _ => S95_55 h46 x9 x45)
noncomputable def S95_57 (x16 : IV) (x17 : IV) (h10 : Hp) (x5 : IV) (ih : Handler) (x9 : IV) (x2 : IV) (x3 : IV) (x1 : IV) : Option (IV × Hp) :=
  gtS EE 3 x16 x17 fun x19 => condS x19 (loadA 3 x5 h10 fun x20 _ => isoS [] false false ih 80 [x20, .fv (.int .i64 (-1))] h10 fun x22 h23 _ _ => S95_53 h23 x9 x22) (load1 x2 h10 fun x30 _ => eqS EE 3 x16 x30 fun x32 => S95_56 x32 h10 x3 ih x1 x9 x5)
noncomputable def S95 (ih : Handler) (n : Nat) (x0 : IV) (x1 : IV) (x2 : IV) (x3 : IV) (h4 : Hp) : Option (IV × Hp) :=
  boxS 99614720 x0 h4 fun x5 h6 _ _ => newS 99614721 (.row [.fv (.int .i64 0), .fv (.int .i64 0), .nils] false) (.ptr (.own 99614721) 0) h6 fun x9 h10 _ _ => faddrS 1 x5 fun x13 => load1 x13 h10 fun x14 _ => subS EE 3 x14 x1 fun x16 => load1 x2 h10 fun x17 _ => S95_57 x16 x17 h10 x5 ih x9 x2 x3 x1
theorem S95_ok (ih : Handler) (n : Nat) (x0 : IV) (x1 : IV) (x2 : IV) (x3 : IV) (h4 : Hp) : funS EE ih ft.get n 95 [x0, x1, x2, x3] h4 = S95 ih n x0 x1 x2 x3 h4 := by kernel_rfl
/-! Function 96. -/
noncomputable def S96_72 (x27 : IV) (x30 : IV) (h45 : Hp) (x44 : IV) (h1 : Hp) (x25 : IV) (x26 : IV) (x28 : IV) (x29 : IV) (q22 : List IV → Hp → Option (IV × Hp)) : Option (IV × Hp) :=
  ixS 3 x27 x30 fun x48 => storeA 3 x48 x44 h45 fun h49 _ _ => addS EE 3 x30 (.fv (.int .i64 1)) fun x52 => dropS (h1.own.map (·.1)) [100667395] [x25, x26, x27, x28, x29, x52] h49 fun h53 => q22 [x25, x26, x27, x28, x29, x52] h53
noncomputable def S96_73 (h24 : Hp) (x32 : IV) (ih : Handler) (x27 : IV) (x30 : IV) (h1 : Hp) (x25 : IV) (x26 : IV) (x28 : IV) (x29 : IV) (q22 : List IV → Hp → Option (IV × Hp)) : Option (IV × Hp) :=
  loadA 3 x32 h24 fun x33 _ => newS 100667395 (.row [.fv (.int .i64 0), .fv (.int .i64 0), .nils] false) (.ptr (.own 100667395) 0) h24 fun x35 h36 _ _ => storeA 3 x35 x33 h36 fun h39 _ _ => loadA 3 x35 h39 fun x42 _ => isoS [] false false ih 96 [x42] h39 fun x44 h45 _ _ => S96_72 x27 x30 h45 x44 h1 x25 x26 x28 x29 q22
noncomputable def S96_74 (h61 : Hp) (x26 : IV) : Option (IV × Hp) :=
  cellS true 3 x26 h61 fun x64 => outS1 [x64] h61
noncomputable def S96_75 (h24 : Hp) (x54 : IV) (x25 : IV) (x27 : IV) (x26 : IV) : Option (IV × Hp) :=
  load1 x54 h24 fun x55 _ => faddrS 1 x25 fun x57 => load1 x57 h24 fun x58 _ => bldS [.fv (.int .i64 0), .fv (.int .i64 0), .nils] [(0, 1, x55), (1, 1, x58), (2, 1, x27)] fun x60 => storeA 3 x26 x60 h24 fun h61 _ _ => S96_74 h61 x26
noncomputable def S96_76 (l69 : List IV) (x29 : IV) (x28 : IV) (h24 : Hp) (ih : Handler) (x27 : IV) (h1 : Hp) (x25 : IV) (x26 : IV) (q22 : List IV → Hp → Option (IV × Hp)) : Option (IV × Hp) :=
  uncS l69 fun x30 _ => ltS EE 3 x30 x29 fun x31 => condS x31 (ixS 3 x28 x30 fun x32 => S96_73 h24 x32 ih x27 x30 h1 x25 x26 x28 x29 q22) (faddrS 0 x25 fun x54 => S96_75 h24 x54 x25 x27 x26)
noncomputable def S96_77 (l23 : List IV) (h24 : Hp) (ih : Handler) (h1 : Hp) (q22 : List IV → Hp → Option (IV × Hp)) : Option (IV × Hp) :=
  uncS l23 fun x25 l65 => uncS l65 fun x26 l66 => uncS l66 fun x27 l67 => uncS l67 fun x28 l68 => uncS l68 fun x29 l69 => S96_76 l69 x29 x28 h24 ih x27 h1 x25 x26 q22
noncomputable def S96_78 (x2 : IV) (h15 : Hp) (h1 : Hp) (x6 : IV) (x14 : IV) (n : Nat) (ih : Handler) : Option (IV × Hp) :=
  faddrS 2 x2 fun x18 => load1 x18 h15 fun x19 _ => lenS x19 fun x21 => dropS (h1.own.map (·.1)) [100667395] [x2, x6, x14, x19, x21, .fv (.int .i64 0)] h15 fun h71 => loopS n (fun q22 l23 h24 => S96_77 l23 h24 ih h1 q22) [x2, x6, x14, x19, x21, .fv (.int .i64 0)] h71
noncomputable def S96 (ih : Handler) (n : Nat) (x0 : IV) (h1 : Hp) : Option (IV × Hp) :=
  boxS 100663296 x0 h1 fun x2 h3 _ _ => newS 100663297 (.row [.fv (.int .i64 0), .fv (.int .i64 0), .nils] false) (.ptr (.own 100663297) 0) h3 fun x6 h7 _ _ => faddrS 2 x2 fun x10 => load1 x10 h7 fun x11 _ => lenS x11 fun x13 => genS (pcMakeSlice EE 100664323 23 x13 x13) 100664323 h7 fun x14 h15 _ _ => S96_78 x2 h15 h1 x6 x14 n ih
theorem S96_ok (ih : Handler) (n : Nat) (x0 : IV) (h1 : Hp) : funS EE ih ft.get n 96 [x0] h1 = S96 ih n x0 h1 := by kernel_rfl
/-! Function 97. -/
noncomputable def S97_125 (x57 : IV) (x44 : IV) (h62 : Hp) (x61 : IV) (h1 : Hp) (x39 : IV) (x40 : IV) (x41 : IV) (x42 : IV) (x43 : IV) (q36 : List IV → Hp → Option (IV × Hp)) : Option (IV × Hp) :=
  ixS 3 x57 x44 fun x65 => storeA 3 x65 x61 h62 fun h66 r67 w68 => chkS [] r67 w68 (addS EE 3 x44 (.fv (.int .i64 1)) fun x69 => dropS (h1.own.map (·.1)) [101715971] [x39, x40, x41, x42, x43, x69] h66 fun h70 => q36 [x39, x40, x41, x42, x43, x69] h70)
noncomputable def S97_126 (r58 : List Ref) (h53 : Hp) (x49 : IV) (ih : Handler) (x57 : IV) (x44 : IV) (h1 : Hp) (x39 : IV) (x40 : IV) (x41 : IV) (x42 : IV) (x43 : IV) (q36 : List IV → Hp → Option (IV × Hp)) : Option (IV × Hp) :=
  chkS [] r58 [] (loadA 3 x49 h53 fun x59 r60 => chkS [(r58, [])] r60 [] (isoS [] false false ih 97 [x59] h53 fun x61 h62 r63 w64 => chkS [(r58, [])] r63 w64 (S97_125 x57 x44 h62 x61 h1 x39 x40 x41 x42 x43 q36)))
noncomputable def S97_127 (h38 : Hp) (x46 : IV) (x41 : IV) (ih : Handler) (x44 : IV) (h1 : Hp) (x39 : IV) (x40 : IV) (x42 : IV) (x43 : IV) (q36 : List IV → Hp → Option (IV × Hp)) : Option (IV × Hp) :=
  loadA 3 x46 h38 fun x47 _ => newS 101715971 (.row [.fv (.int .i64 0), .fv (.int .i64 0), .nils] false) (.ptr (.own 101715971) 0) h38 fun x49 h50 _ _ => storeA 3 x49 x47 h50 fun h53 _ _ => faddrS 2 x41 fun x56 => load1 x56 h53 fun x57 r58 => S97_126 r58 h53 x49 ih x57 x44 h1 x39 x40 x41 x42 x43 q36
noncomputable def S97_128 (ih : Handler) (h80 : Hp) (x83 : IV) (x40 : IV) : Option (IV × Hp) :=
  isoS [] false false ih 99 [x83] h80 fun x85 h86 _ _ => storeA 3 x40 x85 h86 fun h89 _ _ => cellS true 3 x40 h89 fun x92 => outS1 [x92] h89
noncomputable def S97_129 (h38 : Hp) (x75 : IV) (x41 : IV) (ih : Handler) (x40 : IV) : Option (IV × Hp) :=
  load1 x75 h38 fun x76 _ => bldS [.fv (.int .i64 0), .fv (.int .i64 0), .nils] [(0, 1, .fv (.int .i64 11))] fun x78 => ixS 3 x76 (.fv (.int .i64 0)) fun x79 => storeA 3 x79 x78 h38 fun h80 _ _ => loadA 3 x41 h80 fun x83 _ => S97_128 ih h80 x83 x40
noncomputable def S97_130 (h105 : Hp) (x40 : IV) (x104 : IV) : Option (IV × Hp) :=
  storeA 3 x40 x104 h105 fun h108 _ _ => cellS true 3 x40 h108 fun x111 => outS1 [x111] h108
noncomputable def S97_131 (x95 : IV) (h38 : Hp) (x41 : IV) (ih : Handler) (x40 : IV) : Option (IV × Hp) :=
  bldS [.fv (.int .i64 0), .fv (.int .i64 0), .nils] [(0, 1, .fv (.int .i64 11))] fun x97 => ixS 3 x95 (.fv (.int .i64 0)) fun x98 => storeA 3 x98 x97 h38 fun h99 _ _ => loadA 3 x41 h99 fun x102 _ => isoS [] false false ih 100 [x102] h99 fun x104 h105 _ _ => S97_130 h105 x40 x104
noncomputable def S97_132 (h114 : Hp) (x40 : IV) : Option (IV × Hp) :=
  cellS true 3 x40 h114 fun x117 => outS1 [x117] h114
noncomputable def S97_133 (x93 : IV) (x41 : IV) (h38 : Hp) (ih : Handler) (x40 : IV) : Option (IV × Hp) :=
  condS x93 (faddrS 2 x41 fun x94 => load1 x94 h38 fun x95 _ => S97_131 x95 h38 x41 ih x40) (loadA 3 x41 h38 fun x112 _ => storeA 3 x40 x112 h38 fun h114 _ _ => S97_132 h114 x40)
noncomputable def S97_134 (h38 : Hp) (x71 : IV) (x41 : IV) (ih : Handler) (x40 : IV) : Option (IV × Hp) :=
  load1 x71 h38 fun x72 _ => eqS EE 3 x72 (.fv (.int .i64 4)) fun x74 => condS x74 (faddrS 2 x41 fun x75 => S97_129 h38 x75 x41 ih x40) (eqS EE 3 x72 (.fv (.int .i64 7)) fun x93 => S97_133 x93 x41 h38 ih x40)
noncomputable def S97_135 (l122 : List IV) (x43 : IV) (x42 : IV) (h38 : Hp) (x41 : IV) (ih : Handler) (h1 : Hp) (x39 : IV) (x40 : IV) (q36 : List IV → Hp → Option (IV × Hp)) : Option (IV × Hp) :=
  uncS l122 fun x44 _ => ltS EE 3 x44 x43 fun x45 => condS x45 (ixS 3 x42 x44 fun x46 => S97_127 h38 x46 x41 ih x44 h1 x39 x40 x42 x43 q36) (faddrS 0 x39 fun x71 => S97_134 h38 x71 x41 ih x40)
noncomputable def S97_136 (l37 : List IV) (h38 : Hp) (ih : Handler) (h1 : Hp) (q36 : List IV → Hp → Option (IV × Hp)) : Option (IV × Hp) :=
  uncS l37 fun x39 l118 => uncS l118 fun x40 l119 => uncS l119 fun x41 l120 => uncS l120 fun x42 l121 => uncS l121 fun x43 l122 => S97_135 l122 x43 x42 h38 x41 ih h1 x39 x40 q36
noncomputable def S97_137 (x33 : IV) (h1 : Hp) (h29 : Hp) (x2 : IV) (x6 : IV) (x25 : IV) (n : Nat) (ih : Handler) : Option (IV × Hp) :=
  lenS x33 fun x35 => dropS (h1.own.map (·.1)) [101715971] [x2, x6, x25, x33, x35, .fv (.int .i64 0)] h29 fun h124 => loopS n (fun q36 l37 h38 => S97_136 l37 h38 ih h1 q36) [x2, x6, x25, x33, x35, .fv (.int .i64 0)] h124
noncomputable def S97_138 (r27 : List Ref) (w28 : List Ref) (r22 : List Ref) (w23 : List Ref) (r18 : List Ref) (r15 : List Ref) (r12 : List Ref) (h26 : Hp) (x25 : IV) (x24 : IV) (x2 : IV) (h1 : Hp) (x6 : IV) (n : Nat) (ih : Handler) : Option (IV × Hp) :=
  chkS [(r22, w23), (r18, []), (r15, []), (r12, [])] r27 w28 (storeA 3 x25 x24 h26 fun h29 r30 w31 => chkS [] r30 w31 (faddrS 2 x2 fun x32 => load1 x32 h29 fun x33 _ => S97_137 x33 h1 h29 x2 x6 x25 n ih))
noncomputable def S97_139 (x17 : IV) (h7 : Hp) (r15 : List Ref) (r12 : List Ref) (x11 : IV) (x14 : IV) (r18 : List Ref) (x2 : IV) (h1 : Hp) (x6 : IV) (n : Nat) (ih : Handler) : Option (IV × Hp) :=
  lenS x17 fun x19 => genS (pcMakeSlice EE 101712903 23 x19 x19) 101712903 h7 fun x20 h21 r22 w23 => chkS [(r15, []), (r12, [])] r22 w23 (bldS [.fv (.int .i64 0), .fv (.int .i64 0), .nils] [(0, 1, x11), (1, 1, x14), (2, 1, x20)] fun x24 => newS 101712905 (.row [.fv (.int .i64 0), .fv (.int .i64 0), .nils] false) (.ptr (.own 101712905) 0) h21 fun x25 h26 r27 w28 => S97_138 r27 w28 r22 w23 r18 r15 r12 h26 x25 x24 x2 h1 x6 n ih)
noncomputable def S97_140 (h7 : Hp) (x13 : IV) (r12 : List Ref) (x2 : IV) (x11 : IV) (h1 : Hp) (x6 : IV) (n : Nat) (ih : Handler) : Option (IV × Hp) :=
  load1 x13 h7 fun x14 r15 => chkS [(r12, [])] r15 [] (faddrS 2 x2 fun x16 => load1 x16 h7 fun x17 r18 => chkS [(r15, []), (r12, [])] r18 [] (S97_139 x17 h7 r15 r12 x11 x14 r18 x2 h1 x6 n ih))
noncomputable def S97 (ih : Handler) (n : Nat) (x0 : IV) (h1 : Hp) : Option (IV × Hp) :=
  boxS 101711872 x0 h1 fun x2 h3 _ _ => newS 101711873 (.row [.fv (.int .i64 0), .fv (.int .i64 0), .nils] false) (.ptr (.own 101711873) 0) h3 fun x6 h7 _ _ => faddrS 0 x2 fun x10 => load1 x10 h7 fun x11 r12 => chkS [] r12 [] (faddrS 1 x2 fun x13 => S97_140 h7 x13 r12 x2 x11 h1 x6 n ih)
theorem S97_ok (ih : Handler) (n : Nat) (x0 : IV) (h1 : Hp) : funS EE ih ft.get n 97 [x0] h1 = S97 ih n x0 h1 := by kernel_rfl
/-! Function 98. -/
noncomputable def S98_54 (x45 : IV) (h42 : Hp) (x15 : IV) (h3 : Hp) (x11 : IV) (x12 : IV) (x13 : IV) (x14 : IV) (q8 : List IV → Hp → Option (IV × Hp)) : Option (IV × Hp) :=
  condS x45 (outS1 [.fv (.bool false)] h42) (addS EE 3 x15 (.fv (.int .i64 1)) fun x46 => dropS (h3.own.map (·.1)) [102765571, 102766596] [x11, x12, x13, x14, x46] h42 fun h47 => q8 [x11, x12, x13, x14, x46] h47)
noncomputable def S98_55 (h31 : Hp) (x30 : IV) (x28 : IV) (x20 : IV) (ih : Handler) (x12 : IV) (x15 : IV) (h3 : Hp) (x11 : IV) (x13 : IV) (x14 : IV) (q8 : List IV → Hp → Option (IV × Hp)) : Option (IV × Hp) :=
  storeA 3 x30 x28 h31 fun h34 _ _ => loadA 3 x20 h34 fun x37 _ => loadA 3 x30 h34 fun x39 _ => dynS EE ih x12 [x37, x39] h34 fun x41 h42 _ _ => optS (unR .not x41) fun x45 => S98_54 x45 h42 x15 h3 x11 x12 x13 x14 q8
noncomputable def S98_56 (h10 : Hp) (x18 : IV) (x11 : IV) (x15 : IV) (ih : Handler) (x12 : IV) (h3 : Hp) (x13 : IV) (x14 : IV) (q8 : List IV → Hp → Option (IV × Hp)) : Option (IV × Hp) :=
  newS 102765571 (.row [.fv (.int .i64 0), .fv (.int .i64 0), .nils] false) (.ptr (.own 102765571) 0) h10 fun x20 h21 _ _ => storeA 3 x20 x18 h21 fun h24 _ _ => ixS 3 x11 x15 fun x27 => loadA 3 x27 h24 fun x28 _ => newS 102766596 (.row [.fv (.int .i64 0), .fv (.int .i64 0), .nils] false) (.ptr (.own 102766596) 0) h24 fun x30 h31 _ _ => S98_55 h31 x30 x28 x20 ih x12 x15 h3 x11 x13 x14 q8
noncomputable def S98_57 (x15 : IV) (x14 : IV) (x13 : IV) (h10 : Hp) (x11 : IV) (ih : Handler) (x12 : IV) (h3 : Hp) (q8 : List IV → Hp → Option (IV × Hp)) : Option (IV × Hp) :=
  ltS EE 3 x15 x14 fun x16 => condS x16 (ixS 3 x13 x15 fun x17 => loadA 3 x17 h10 fun x18 _ => S98_56 h10 x18 x11 x15 ih x12 h3 x13 x14 q8) (outS1 [.fv (.bool true)] h10)
noncomputable def S98_58 (l9 : List IV) (h10 : Hp) (ih : Handler) (h3 : Hp) (q8 : List IV → Hp → Option (IV × Hp)) : Option (IV × Hp) :=
  uncS l9 fun x11 l48 => uncS l48 fun x12 l49 => uncS l49 fun x13 l50 => uncS l50 fun x14 l51 => uncS l51 fun x15 _ => S98_57 x15 x14 x13 h10 x11 ih x12 h3 q8
noncomputable def S98_59 (h3 : Hp) (x1 : IV) (x2 : IV) (x0 : IV) (x7 : IV) (n : Nat) (ih : Handler) : Option (IV × Hp) :=
  dropS (h3.own.map (·.1)) [102765571, 102766596] [x1, x2, x0, x7, .fv (.int .i64 0)] h3 fun h53 => loopS n (fun q8 l9 h10 => S98_58 l9 h10 ih h3 q8) [x1, x2, x0, x7, .fv (.int .i64 0)] h53
noncomputable def S98 (ih : Handler) (n : Nat) (x0 : IV) (x1 : IV) (x2 : IV) (h3 : Hp) : Option (IV × Hp) :=
  lenS x0 fun x4 => lenS x1 fun x5 => neS EE 3 x4 x5 fun x6 => condS x6 (outS1 [.fv (.bool false)] h3) (lenS x0 fun x7 => S98_59 h3 x1 x2 x0 x7 n ih)
theorem S98_ok (ih : Handler) (n : Nat) (x0 : IV) (x1 : IV) (x2 : IV) (h3 : Hp) : funS EE ih ft.get n 98 [x0, x1, x2] h3 = S98 ih n x0 x1 x2 h3 := by kernel_rfl
/-! Function 99. -/
noncomputable def S99_158 (h139 : Hp) (x6 : IV) : Option (IV × Hp) :=
  cellS true 3 x6 h139 fun x142 => outS1 [x142] h139
noncomputable def S99_159 (h154 : Hp) (x6 : IV) : Option (IV × Hp) :=
  cellS true 3 x6 h154 fun x157 => outS1 [x157] h154
noncomputable def S99_160 (x144 : IV) (h133 : Hp) (ih : Handler) (x6 : IV) : Option (IV × Hp) :=
  ixS 3 x144 (.fv (.int .i64 0)) fun x146 => loadA 3 x146 h133 fun x147 _ => bldS [.fv (.int .i64 0), .fv (.int .i64 0), .nils] [(0, 1, .fv (.int .i64 11))] fun x149 => isoS [] false false ih 83 [x147, .fv (.int .i64 0), x149] h133 fun x150 h151 _ _ => storeA 3 x6 x150 h151 fun h154 _ _ => S99_159 h154 x6
noncomputable def S99_161 (x136 : IV) (h133 : Hp) (x2 : IV) (x6 : IV) (x16 : IV) (ih : Handler) : Option (IV × Hp) :=
  condS x136 (loadA 3 x2 h133 fun x137 _ => storeA 3 x6 x137 h133 fun h139 _ _ => S99_158 h139 x6) (faddrS 2 x16 fun x143 => load1 x143 h133 fun x144 _ => S99_160 x144 h133 ih x6)
noncomputable def S99_162 (h108 : Hp) (x104 : IV) (x107 : IV) (ih : Handler) (x2 : IV) (x6 : IV) (x16 : IV) : Option (IV × Hp) :=
  guardS x104 false h108 (fun k111 => load1 x107 h108 fun x112 r113 => k111 x112 h108 r113 []) fun x114 h115 _ _ => guardS x104 false h115 (fun k118 => ixS 3 x114 (.fv (.int .i64 0)) fun x119 => k118 x119 h115 [] []) fun x120 h121 _ _ => guardS x104 false h121 (fun k124 => loadA 3 x120 h121 fun x125 r126 => k124 x125 h121 r126 []) fun x127 h128 _ _ => guardS x104 false h128 (fun k131 => isoS [] false false ih 82 [x127, .fv (.int .i64 0)] h128 k131) fun x132 h133 _ _ => pickS x104 (.fv (.bool true)) x132 fun x136 => S99_161 x136 h133 x2 x6 x16 ih
noncomputable def S99_163 (h82 : Hp) (x65 : IV) (x81 : IV) (x16 : IV) (ih : Handler) (x2 : IV) (x6 : IV) : Option (IV × Hp) :=
  guardS x65 false h82 (fun k85 => faddrS 1 x81 fun x86 => k85 x86 h82 [] []) fun x87 h88 _ _ => guardS x65 false h88 (fun k91 => load1 x87 h88 fun x92 r93 => k91 x92 h88 r93 []) fun x94 h95 _ _ => guardS x65 false h95 (fun k98 => neS EE 3 x94 (.fv (.int .i64 0)) fun x99 => k98 x99 h95 [] []) fun x100 h101 _ _ => pickS x65 (.fv (.bool true)) x100 fun x104 => guardS x104 false h101 (fun k105 => faddrS 2 x16 fun x106 => k105 x106 h101 [] []) fun x107 h108 _ _ => S99_162 h108 x104 x107 ih x2 x6 x16
noncomputable def S99_164 (h56 : Hp) (x26 : IV) (x55 : IV) (x16 : IV) (ih : Handler) (x2 : IV) (x6 : IV) : Option (IV × Hp) :=
  guardS x26 false h56 (fun k59 => neS EE 3 x55 (.fv (.int .i64 1)) fun x60 => k59 x60 h56 [] []) fun x61 h62 _ _ => pickS x26 (.fv (.bool true)) x61 fun x65 => guardS x65 false h62 (fun k66 => faddrS 2 x16 fun x67 => k66 x67 h62 [] []) fun x68 h69 _ _ => guardS x65 false h69 (fun k72 => load1 x68 h69 fun x73 r74 => k72 x73 h69 r74 []) fun x75 h76 _ _ => guardS x65 false h76 (fun k79 => ixS 3 x75 (.fv (.int .i64 1)) fun x80 => k79 x80 h76 [] []) fun x81 h82 _ _ => S99_163 h82 x65 x81 x16 ih x2 x6
noncomputable def S99_165 (h20 : Hp) (x26 : IV) (x16 : IV) (ih : Handler) (x2 : IV) (x6 : IV) : Option (IV × Hp) :=
  guardS x26 false h20 (fun k27 => faddrS 2 x16 fun x28 => k27 x28 h20 [] []) fun x29 h30 _ _ => guardS x26 false h30 (fun k33 => load1 x29 h30 fun x34 r35 => k33 x34 h30 r35 []) fun x36 h37 _ _ => guardS x26 false h37 (fun k40 => ixS 3 x36 (.fv (.int .i64 1)) fun x41 => k40 x41 h37 [] []) fun x42 h43 _ _ => guardS x26 false h43 (fun k46 => faddrS 0 x42 fun x47 => k46 x47 h43 [] []) fun x48 h49 _ _ => guardS x26 false h49 (fun k52 => load1 x48 h49 fun x53 r54 => k52 x53 h49 r54 []) fun x55 h56 _ _ => S99_164 h56 x26 x55 x16 ih x2 x6
noncomputable def S99_166 (h7 : Hp) (x14 : IV) (ih : Handler) (x2 : IV) (x6 : IV) : Option (IV × Hp) :=
  newS 103810052 (.row [.fv (.int .i64 0), .fv (.int .i64 0), .nils] false) (.ptr (.own 103810052) 0) h7 fun x16 h17 _ _ => storeA 3 x16 x14 h17 fun h20 _ _ => faddrS 0 x16 fun x23 => load1 x23 h20 fun x24 _ => neS EE 3 x24 (.fv (.int .i64 5)) fun x26 => S99_165 h20 x26 x16 ih x2 x6
noncomputable def S99 (ih : Handler) (n : Nat) (x0 : IV) (h1 : Hp) : Option (IV × Hp) :=
  boxS 103809024 x0 h1 fun x2 h3 _ _ => newS 103809025 (.row [.fv (.int .i64 0), .fv (.int .i64 0), .nils] false) (.ptr (.own 103809025) 0) h3 fun x6 h7 _ _ => faddrS 2 x2 fun x10 => load1 x10 h7 fun x11 _ => ixS 3 x11 (.fv (.int .i64 1)) fun x13 => loadA 3 x13 h7 fun x14 _ => S99_166 h7 x14 ih x2 x6
theorem S99_ok (ih : Handler) (n : Nat) (x0 : IV) (h1 : Hp) : funS EE ih ft.get n 99 [x0] h1 = S99 ih n x0 h1 := by kernel_rfl
/-! Function 100. -/
noncomputable def S100_140 (h126 : Hp) (x6 : IV) : Option (IV × Hp) :=
  cellS true 3 x6 h126 fun x129 => outS1 [x129] h126
noncomputable def S100_141 (x131 : IV) (h120 : Hp) (x6 : IV) : Option (IV × Hp) :=
  ixS 3 x131 (.fv (.int .i64 0)) fun x133 => loadA 3 x133 h120 fun x134 _ => storeA 3 x6 x134 h120 fun h136 _ _ => cellS true 3 x6 h136 fun x139 => outS1 [x139] h136
noncomputable def S100_142 (x59 : IV) (x119 : IV) (h120 : Hp) (x2 : IV) (x6 : IV) (x22 : IV) : Option (IV × Hp) :=
  pickS x59 (.fv (.bool true)) x119 fun x123 => condS x123 (loadA 3 x2 h120 fun x124 _ => storeA 3 x6 x124 h120 fun h126 _ _ => S100_140 h126 x6) (faddrS 2 x22 fun x130 => load1 x130 h120 fun x131 _ => S100_141 x131 h120 x6)
noncomputable def S100_143 (h102 : Hp) (x59 : IV) (x101 : IV) (r84 : List Ref) (w85 : List Ref) (r71 : List Ref) (w72 : List Ref) (ih : Handler) (x82 : IV) (x2 : IV) (x6 : IV) (x22 : IV) : Option (IV × Hp) :=
  guardS x59 false h102 (fun k105 => loadA 3 x101 h102 fun x106 r107 => k105 x106 h102 r107 []) fun x108 h109 r110 w111 => chkS [(r84, w85), (r71, w72)] r110 w111 (guardS x59 false h109 (fun k112 => isoS [] false false ih 87 [x82, x108] h109 k112) fun x113 h114 r115 w116 => chkS [] r115 w116 (guardS x59 false h114 (fun k117 => optS (unR .not x113) fun x118 => k117 x118 h114 [] []) fun x119 h120 _ _ => S100_142 x59 x119 h120 x2 x6 x22))
noncomputable def S100_144 (r84 : List Ref) (w85 : List Ref) (h83 : Hp) (x59 : IV) (x26 : IV) (r71 : List Ref) (w72 : List Ref) (ih : Handler) (x82 : IV) (x2 : IV) (x6 : IV) (x22 : IV) : Option (IV × Hp) :=
  chkS [] r84 w85 (guardS x59 false h83 (fun k86 => faddrS 2 x26 fun x87 => k86 x87 h83 [] []) fun x88 h89 _ _ => guardS x59 false h89 (fun k92 => load1 x88 h89 fun x93 r94 => k92 x93 h89 r94 []) fun x95 h96 r97 w98 => chkS [(r84, w85), (r71, w72)] r97 w98 (guardS x59 false h96 (fun k99 => ixS 3 x95 (.fv (.int .i64 0)) fun x100 => k99 x100 h96 [] []) fun x101 h102 _ _ => S100_143 h102 x59 x101 r84 w85 r71 w72 ih x82 x2 x6 x22))
noncomputable def S100_145 (h56 : Hp) (x59 : IV) (x22 : IV) (x26 : IV) (ih : Handler) (x2 : IV) (x6 : IV) : Option (IV × Hp) :=
  guardS x59 false h56 (fun k60 => faddrS 2 x22 fun x61 => k60 x61 h56 [] []) fun x62 h63 _ _ => guardS x59 false h63 (fun k66 => load1 x62 h63 fun x67 r68 => k66 x67 h63 r68 []) fun x69 h70 r71 w72 => chkS [] r71 w72 (guardS x59 false h70 (fun k73 => ixS 3 x69 (.fv (.int .i64 0)) fun x74 => k73 x74 h70 [] []) fun x75 h76 _ _ => guardS x59 false h76 (fun k79 => loadA 3 x75 h76 fun x80 r81 => k79 x80 h76 r81 []) fun x82 h83 r84 w85 => S100_144 r84 w85 h83 x59 x26 r71 w72 ih x82 x2 x6 x22)
noncomputable def S100_146 (h33 : Hp) (x39 : IV) (x26 : IV) (x22 : IV) (ih : Handler) (x2 : IV) (x6 : IV) : Option (IV × Hp) :=
  guardS x39 false h33 (fun k40 => faddrS 0 x26 fun x41 => k40 x41 h33 [] []) fun x42 h43 _ _ => guardS x39 false h43 (fun k46 => load1 x42 h43 fun x47 r48 => k46 x47 h43 r48 []) fun x49 h50 r51 w52 => chkS [] r51 w52 (guardS x39 false h50 (fun k53 => neS EE 3 x49 (.fv (.int .i64 9)) fun x54 => k53 x54 h50 [] []) fun x55 h56 _ _ => pickS x39 (.fv (.bool true)) x55 fun x59 => S100_145 h56 x59 x22 x26 ih x2 x6)
noncomputable def S100_147 (r34 : List Ref) (w35 : List Ref) (x22 : IV) (h33 : Hp) (x26 : IV) (ih : Handler) (x2 : IV) (x6 : IV) : Option (IV × Hp) :=
  chkS [] r34 w35 (faddrS 0 x22 fun x36 => load1 x36 h33 fun x37 r38 => chkS [] r38 [] (neS EE 3 x37 (.fv (.int .i64 8)) fun x39 => S100_146 h33 x39 x26 x22 ih x2 x6))
noncomputable def S100_148 (h23 : Hp) (r24 : List Ref) (w25 : List Ref) (r21 : List Ref) (r18 : List Ref) (r15 : List Ref) (r12 : List Ref) (x22 : IV) (x14 : IV) (x20 : IV) (ih : Handler) (x2 : IV) (x6 : IV) : Option (IV × Hp) :=
  newS 104858633 (.row [.fv (.int .i64 0), .fv (.int .i64 0), .nils] false) (.ptr (.own 104858633) 0) h23 fun x26 h27 r28 w29 => chkS [(r24, w25), (r21, []), (r18, []), (r15, []), (r12, [])] r28 w29 (storeA 3 x22 x14 h27 fun h30 r31 w32 => chkS [(r21, []), (r18, [])] r31 w32 (storeA 3 x26 x20 h30 fun h33 r34 w35 => S100_147 r34 w35 x22 h33 x26 ih x2 x6))
noncomputable def S100_149 (x17 : IV) (h7 : Hp) (r15 : List Ref) (r12 : List Ref) (r18 : List Ref) (x14 : IV) (ih : Handler) (x2 : IV) (x6 : IV) : Option (IV × Hp) :=
  ixS 3 x17 (.fv (.int .i64 2)) fun x19 => loadA 3 x19 h7 fun x20 r21 => chkS [(r15, []), (r12, [])] r21 [] (newS 104858632 (.row [.fv (.int .i64 0), .fv (.int .i64 0), .nils] false) (.ptr (.own 104858632) 0) h7 fun x22 h23 r24 w25 => chkS [(r21, []), (r18, []), (r15, []), (r12, [])] r24 w25 (S100_148 h23 r24 w25 r21 r18 r15 r12 x22 x14 x20 ih x2 x6))
noncomputable def S100_150 (h7 : Hp) (x13 : IV) (x2 : IV) (r12 : List Ref) (ih : Handler) (x6 : IV) : Option (IV × Hp) :=
  loadA 3 x13 h7 fun x14 r15 => chkS [] r15 [] (faddrS 2 x2 fun x16 => load1 x16 h7 fun x17 r18 => chkS [(r15, []), (r12, [])] r18 [] (S100_149 x17 h7 r15 r12 r18 x14 ih x2 x6))
noncomputable def S100 (ih : Handler) (n : Nat) (x0 : IV) (h1 : Hp) : Option (IV × Hp) :=
  boxS 104857600 x0 h1 fun x2 h3 _ _ => newS 104857601 (.row [.fv (.int .i64 0), .fv (.int .i64 0), .nils] false) (.ptr (.own 104857601) 0) h3 fun x6 h7 _ _ => faddrS 2 x2 fun x10 => load1 x10 h7 fun x11 r12 => chkS [] r12 [] (ixS 3 x11 (.fv (.int .i64 1)) fun x13 => S100_150 h7 x13 x2 r12 ih x6)
theorem S100_ok (ih : Handler) (n : Nat) (x0 : IV) (h1 : Hp) : funS EE ih ft.get n 100 [x0] h1 = S100 ih n x0 h1 := by kernel_rfl
end Idl
end Go.Proofs.Ytnenpcghegcnhaa

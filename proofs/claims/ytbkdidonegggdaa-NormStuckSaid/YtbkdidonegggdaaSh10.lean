/-
  THE SHALLOW FORM OF THE SEAT'S FUNCTIONS, a part; each is what its code's shallow run is. Printed by a program of mine (gen-sh). No statement is proved here.
-/
import Derived.Test.YtbkdidonegggdaaTab
import Derived.Test.YtbkdidonegggdaaIdl31
set_option maxRecDepth 100000
set_option linter.unusedVariables false
namespace Go.Proofs.Ytbkdidonegggdaa
namespace Idl
/-! Function 88. -/
noncomputable def S88_18 (x1 : IV) (h7 : Hp) (j0_3 : Hp → Option (IV × Hp)) : Option (IV × Hp) :=
  eqS EE 3 x1 (.fv (.int .i64 0)) fun x10 => condS x10 (outS1 [.fv (.int .i64 1)] h7) (eqS EE 3 x1 (.fv (.int .i64 2)) fun x11 => condS x11 (outS1 [.fv (.int .i64 2)] h7) (j0_3 h7))
noncomputable def S88_19 (x6 : IV) (x1 : IV) (h7 : Hp) (j0_3 : Hp → Option (IV × Hp)) (x0 : IV) : Option (IV × Hp) :=
  condS x6 (eqS EE 3 x1 (.fv (.int .i64 1)) fun x8 => condS x8 (outS1 [.fv (.int .i64 1)] h7) (j0_3 h7)) (eqS EE 3 x0 (.fv (.int .i64 13)) fun x9 => condS x9 (S88_18 x1 h7 j0_3) (j0_3 h7))
noncomputable def S88_20 (x0 : IV) (j1_5 : IV → Hp → Option (IV × Hp)) (h2 : Hp) : Option (IV × Hp) :=
  eqS EE 3 x0 (.fv (.int .i64 29)) fun x17 => j1_5 x17 h2
noncomputable def S88_21 (x0 : IV) (j1_5 : IV → Hp → Option (IV × Hp)) (h2 : Hp) : Option (IV × Hp) :=
  eqS EE 3 x0 (.fv (.int .i64 20)) fun x15 => condS x15 (j1_5 x15 h2) (eqS EE 3 x0 (.fv (.int .i64 28)) fun x16 => condS x16 (j1_5 x16 h2) (S88_20 x0 j1_5 h2))
noncomputable def S88_22 (x13 : IV) (j1_5 : IV → Hp → Option (IV × Hp)) (h2 : Hp) (x0 : IV) : Option (IV × Hp) :=
  condS x13 (j1_5 x13 h2) (eqS EE 3 x0 (.fv (.int .i64 6)) fun x14 => condS x14 (j1_5 x14 h2) (S88_21 x0 j1_5 h2))
noncomputable def S88 (ih : Handler) (n : Nat) (x0 : IV) (x1 : IV) (h2 : Hp) : Option (IV × Hp) :=
  (fun (j0_3 : Hp → Option (IV × Hp)) => (fun (j1_5 : IV → Hp → Option (IV × Hp)) => eqS EE 3 x0 (.fv (.int .i64 3)) fun x12 => condS x12 (j1_5 x12 h2) (eqS EE 3 x0 (.fv (.int .i64 4)) fun x13 => S88_22 x13 j1_5 h2 x0)) fun x6 h7 => S88_19 x6 x1 h7 j0_3 x0) fun h4 => outS1 [.fv (.int .i64 0)] h4
theorem S88_ok (ih : Handler) (n : Nat) (x0 : IV) (x1 : IV) (h2 : Hp) : funS EE ih ft.get n 88 [x0, x1] h2 = S88 ih n x0 x1 h2 := by kernel_rfl
/-! Function 89. -/
noncomputable def S89_27 (x13 : IV) (x7 : IV) (h6 : Hp) (x10 : IV) (h2 : Hp) (x8 : IV) (x9 : IV) (q4 : List IV → Hp → Option (IV × Hp)) : Option (IV × Hp) :=
  bldS [.fv (.nilp), .fv (.nilp)] [(0, 1, x13), (1, 1, x7)] fun x15 => fzS (pcBox true 93327363 x15) 93327363 x15 h6 fun x16 h17 _ _ => addS EE 3 x10 (.fv (.int .i64 1)) fun x20 => dropS (h2.own.map (·.1)) [93327363] [x16, x8, x9, x20] h17 fun h21 => q4 [x16, x8, x9, x20] h21
noncomputable def S89_28 (x11 : IV) (x8 : IV) (x10 : IV) (h6 : Hp) (x7 : IV) (h2 : Hp) (x9 : IV) (q4 : List IV → Hp → Option (IV × Hp)) : Option (IV × Hp) :=
  condS x11 (ixS 1 x8 x10 fun x12 => load1 x12 h6 fun x13 _ => S89_27 x13 x7 h6 x10 h2 x8 x9 q4) (outS1 [x7] h6)
noncomputable def S89_29 (l5 : List IV) (h6 : Hp) (h2 : Hp) (q4 : List IV → Hp → Option (IV × Hp)) : Option (IV × Hp) :=
  uncS l5 fun x7 l22 => uncS l22 fun x8 l23 => uncS l23 fun x9 l24 => uncS l24 fun x10 _ => ltS EE 3 x10 x9 fun x11 => S89_28 x11 x8 x10 h6 x7 h2 x9 q4
noncomputable def S89 (ih : Handler) (n : Nat) (x0 : IV) (x1 : IV) (h2 : Hp) : Option (IV × Hp) :=
  lenS x1 fun x3 => dropS (h2.own.map (·.1)) [93327363] [x0, x1, x3, .fv (.int .i64 0)] h2 fun h26 => loopS n (fun q4 l5 h6 => S89_29 l5 h6 h2 q4) [x0, x1, x3, .fv (.int .i64 0)] h26
theorem S89_ok (ih : Handler) (n : Nat) (x0 : IV) (x1 : IV) (h2 : Hp) : funS EE ih ft.get n 89 [x0, x1] h2 = S89 ih n x0 x1 h2 := by kernel_rfl
/-! Function 90. -/
noncomputable def S90 (ih : Handler) (n : Nat) (x0 : IV) (x1 : IV) (h2 : Hp) : Option (IV × Hp) :=
  boxS 94371840 x0 h2 fun x3 h4 _ _ => boxS 94371841 x1 h4 fun x7 h8 _ _ => loadA 3 x3 h8 fun x11 _ => genS (val (mkFunc (.func 94) [] [x7])) 94372865 h8 fun x13 h14 _ _ => isoS [] false false ih 93 [x11, .fv (.int .i64 0), x13] h14 fun x17 h18 _ _ => outS1 [x17] h18
theorem S90_ok (ih : Handler) (n : Nat) (x0 : IV) (x1 : IV) (h2 : Hp) : funS EE ih ft.get n 90 [x0, x1] h2 = S90 ih n x0 x1 h2 := by kernel_rfl
/-! Function 91. -/
noncomputable def S91_34 (ih : Handler) (h23 : Hp) (x20 : IV) (x22 : IV) (x16 : IV) : Option (IV × Hp) :=
  isoS [] false false ih 95 [x20, .fv (.int .i64 0), x22] h23 fun x26 h27 _ _ => storeA 3 x16 x26 h27 fun h30 _ _ => cellS true 3 x16 h30 fun x33 => outS1 [x33] h30
noncomputable def S91 (ih : Handler) (n : Nat) (x0 : IV) (x1 : IV) (x2 : IV) (h3 : Hp) : Option (IV × Hp) :=
  boxS 95420416 x0 h3 fun x4 h5 _ _ => boxS 95420417 x1 h5 fun x8 h9 _ _ => boxS 95420418 x2 h9 fun x12 h13 _ _ => newS 95420419 (.row [.fv (.int .i64 0), .fv (.int .i64 0), .nils] false) (.ptr (.own 95420419) 0) h13 fun x16 h17 _ _ => loadA 3 x4 h17 fun x20 _ => genS (val (mkFunc (.func 96) [] [x8, x12])) 95421441 h17 fun x22 h23 _ _ => S91_34 ih h23 x20 x22 x16
theorem S91_ok (ih : Handler) (n : Nat) (x0 : IV) (x1 : IV) (x2 : IV) (h3 : Hp) : funS EE ih ft.get n 91 [x0, x1, x2] h3 = S91 ih n x0 x1 x2 h3 := by kernel_rfl
/-! Function 92. -/
noncomputable def S92_83 (h67 : Hp) (x50 : IV) (x66 : IV) (ih : Handler) (x60 : IV) : Option (IV × Hp) :=
  guardS x50 true h67 (fun k70 => load1 x66 h67 fun x71 r72 => k70 x71 h67 r72 []) fun x73 h74 _ _ => guardS x50 true h74 (fun k77 => isoS [] false false ih 99 [x60, x73, .fv (.func (.func 92) [] [])] h74 k77) fun x78 h79 _ _ => pickS x50 x78 (.fv (.bool false)) fun x82 => outS1 [x82] h79
noncomputable def S92_84 (h41 : Hp) (x17 : IV) (x27 : IV) (x40 : IV) (x3 : IV) (x7 : IV) (ih : Handler) : Option (IV × Hp) :=
  guardS x17 true h41 (fun k44 => eqS EE 3 x27 x40 fun x45 => k44 x45 h41 [] []) fun x46 h47 _ _ => pickS x17 x46 (.fv (.bool false)) fun x50 => guardS x50 true h47 (fun k51 => faddrS 2 x3 fun x52 => k51 x52 h47 [] []) fun x53 h54 _ _ => guardS x50 true h54 (fun k57 => load1 x53 h54 fun x58 r59 => k57 x58 h54 r59 []) fun x60 h61 _ _ => guardS x50 true h61 (fun k64 => faddrS 2 x7 fun x65 => k64 x65 h61 [] []) fun x66 h67 _ _ => S92_83 h67 x50 x66 ih x60
noncomputable def S92_85 (x12 : IV) (x15 : IV) (h8 : Hp) (x3 : IV) (x7 : IV) (ih : Handler) : Option (IV × Hp) :=
  eqS EE 3 x12 x15 fun x17 => guardS x17 true h8 (fun k18 => faddrS 1 x3 fun x19 => k18 x19 h8 [] []) fun x20 h21 _ _ => guardS x17 true h21 (fun k24 => load1 x20 h21 fun x25 r26 => k24 x25 h21 r26 []) fun x27 h28 _ _ => guardS x17 true h28 (fun k31 => faddrS 1 x7 fun x32 => k31 x32 h28 [] []) fun x33 h34 _ _ => guardS x17 true h34 (fun k37 => load1 x33 h34 fun x38 r39 => k37 x38 h34 r39 []) fun x40 h41 _ _ => S92_84 h41 x17 x27 x40 x3 x7 ih
noncomputable def S92 (ih : Handler) (n : Nat) (x0 : IV) (x1 : IV) (h2 : Hp) : Option (IV × Hp) :=
  boxS 96468992 x0 h2 fun x3 h4 _ _ => boxS 96468993 x1 h4 fun x7 h8 _ _ => faddrS 0 x3 fun x11 => load1 x11 h8 fun x12 _ => faddrS 0 x7 fun x14 => load1 x14 h8 fun x15 _ => S92_85 x12 x15 h8 x3 x7 ih
theorem S92_ok (ih : Handler) (n : Nat) (x0 : IV) (x1 : IV) (h2 : Hp) : funS EE ih ft.get n 92 [x0, x1] h2 = S92 ih n x0 x1 h2 := by kernel_rfl
/-! Function 93. -/
noncomputable def S93_66 (h5 : Hp) (x12 : IV) (ih : Handler) (x2 : IV) (x1 : IV) : Option (IV × Hp) :=
  load1 x12 h5 fun x13 _ => dynS EE ih x2 [x13, x1] h5 fun x15 h16 _ _ => outS1 [x15] h16
noncomputable def S93_67 (h3 : Hp) (h54 : Hp) (x26 : IV) (x27 : IV) (x28 : IV) (x29 : IV) (x30 : IV) (x57 : IV) (q23 : List IV → Hp → Option (IV × Hp)) : Option (IV × Hp) :=
  dropS (h3.own.map (·.1)) [97522691] [x26, x27, x28, x29, x30, x57] h54 fun h58 => q23 [x26, x27, x28, x29, x30, x57] h58
noncomputable def S93_68 (x26 : IV) (x48 : IV) (ih : Handler) (h49 : Hp) (x43 : IV) (x27 : IV) (x31 : IV) (h3 : Hp) (x28 : IV) (x29 : IV) (x30 : IV) (q23 : List IV → Hp → Option (IV × Hp)) : Option (IV × Hp) :=
  addS EE 3 x26 x48 fun x52 => isoS [] false false ih 93 [x43, x52, x27] h49 fun x53 h54 r55 w56 => chkS [] r55 w56 (condS x53 (outS1 [.fv (.bool true)] h54) (addS EE 3 x31 (.fv (.int .i64 1)) fun x57 => S93_67 h3 h54 x26 x27 x28 x29 x30 x57 q23))
noncomputable def S93_69 (x28 : IV) (h40 : Hp) (r44 : List Ref) (ih : Handler) (x31 : IV) (x26 : IV) (x43 : IV) (x27 : IV) (h3 : Hp) (x29 : IV) (x30 : IV) (q23 : List IV → Hp → Option (IV × Hp)) : Option (IV × Hp) :=
  faddrS 0 x28 fun x45 => load1 x45 h40 fun x46 r47 => chkS [(r44, [])] r47 [] (isoS [] false false ih 79 [x46, x31] h40 fun x48 h49 r50 w51 => chkS [(r44, [])] r50 w51 (S93_68 x26 x48 ih h49 x43 x27 x31 h3 x28 x29 x30 q23))
noncomputable def S93_70 (h25 : Hp) (x33 : IV) (x28 : IV) (ih : Handler) (x31 : IV) (x26 : IV) (x27 : IV) (h3 : Hp) (x29 : IV) (x30 : IV) (q23 : List IV → Hp → Option (IV × Hp)) : Option (IV × Hp) :=
  loadA 3 x33 h25 fun x34 _ => newS 97522691 (.row [.fv (.int .i64 0), .fv (.int .i64 0), .nils] false) (.ptr (.own 97522691) 0) h25 fun x36 h37 _ _ => storeA 3 x36 x34 h37 fun h40 _ _ => loadA 3 x36 h40 fun x43 r44 => chkS [] r44 [] (S93_69 x28 h40 r44 ih x31 x26 x43 x27 h3 x29 x30 q23)
noncomputable def S93_71 (l63 : List IV) (x30 : IV) (x29 : IV) (h25 : Hp) (x28 : IV) (ih : Handler) (x26 : IV) (x27 : IV) (h3 : Hp) (q23 : List IV → Hp → Option (IV × Hp)) : Option (IV × Hp) :=
  uncS l63 fun x31 _ => ltS EE 3 x31 x30 fun x32 => condS x32 (ixS 3 x29 x31 fun x33 => S93_70 h25 x33 x28 ih x31 x26 x27 h3 x29 x30 q23) (outS1 [.fv (.bool false)] h25)
noncomputable def S93_72 (l24 : List IV) (h25 : Hp) (ih : Handler) (h3 : Hp) (q23 : List IV → Hp → Option (IV × Hp)) : Option (IV × Hp) :=
  uncS l24 fun x26 l59 => uncS l59 fun x27 l60 => uncS l60 fun x28 l61 => uncS l61 fun x29 l62 => uncS l62 fun x30 l63 => S93_71 l63 x30 x29 h25 x28 ih x26 x27 h3 q23
noncomputable def S93_73 (h5 : Hp) (x19 : IV) (h3 : Hp) (x1 : IV) (x2 : IV) (x4 : IV) (n : Nat) (ih : Handler) : Option (IV × Hp) :=
  load1 x19 h5 fun x20 _ => lenS x20 fun x22 => dropS (h3.own.map (·.1)) [97522691] [x1, x2, x4, x20, x22, .fv (.int .i64 0)] h5 fun h65 => loopS n (fun q23 l24 h25 => S93_72 l24 h25 ih h3 q23) [x1, x2, x4, x20, x22, .fv (.int .i64 0)] h65
noncomputable def S93 (ih : Handler) (n : Nat) (x0 : IV) (x1 : IV) (x2 : IV) (h3 : Hp) : Option (IV × Hp) :=
  boxS 97517568 x0 h3 fun x4 h5 _ _ => faddrS 0 x4 fun x8 => load1 x8 h5 fun x9 _ => eqS EE 3 x9 (.fv (.int .i64 1)) fun x11 => condS x11 (faddrS 1 x4 fun x12 => S93_66 h5 x12 ih x2 x1) (faddrS 2 x4 fun x19 => S93_73 h5 x19 h3 x1 x2 x4 n ih)
theorem S93_ok (ih : Handler) (n : Nat) (x0 : IV) (x1 : IV) (x2 : IV) (h3 : Hp) : funS EE ih ft.get n 93 [x0, x1, x2] h3 = S93 ih n x0 x1 x2 h3 := by kernel_rfl
/-! Function 94. -/
noncomputable def S94_25 (x7 : IV) (x20 : IV) (h21 : Hp) : Option (IV × Hp) :=
  pickS x7 x20 (.fv (.bool false)) fun x24 => outS1 [x24] h21
noncomputable def S94 (ih : Handler) (n : Nat) (x0 : IV) (x1 : IV) (x2 : IV) (h3 : Hp) : Option (IV × Hp) :=
  subS EE 3 x0 x1 fun x4 => load1 x2 h3 fun x5 _ => eqS EE 3 x4 x5 fun x7 => guardS x7 true h3 (fun k8 => k8 x0 h3 [] []) fun x9 h10 _ _ => guardS x7 true h10 (fun k13 => k13 x1 h10 [] []) fun x14 h15 _ _ => guardS x7 true h15 (fun k18 => geS EE 3 x9 x14 fun x19 => k18 x19 h15 [] []) fun x20 h21 _ _ => S94_25 x7 x20 h21
theorem S94_ok (ih : Handler) (n : Nat) (x0 : IV) (x1 : IV) (x2 : IV) (h3 : Hp) : funS EE ih ft.get n 94 [x0, x1, x2] h3 = S94 ih n x0 x1 x2 h3 := by kernel_rfl
/-! Function 95. -/
noncomputable def S95_100 (h9 : Hp) (x4 : IV) (ih : Handler) (x2 : IV) (x1 : IV) (x8 : IV) : Option (IV × Hp) :=
  loadA 3 x4 h9 fun x16 _ => dynS EE ih x2 [x16, x1] h9 fun x18 h19 _ _ => storeA 3 x8 x18 h19 fun h22 _ _ => cellS true 3 x8 h22 fun x25 => outS1 [x25] h22
noncomputable def S95_101 (h71 : Hp) (x74 : IV) (x70 : IV) (x48 : IV) (h3 : Hp) (x41 : IV) (x42 : IV) (x43 : IV) (x44 : IV) (x45 : IV) (x46 : IV) (x47 : IV) (q38 : List IV → Hp → Option (IV × Hp)) : Option (IV × Hp) :=
  storeA 3 x74 x70 h71 fun h75 r76 w77 => chkS [] r76 w77 (addS EE 3 x48 (.fv (.int .i64 1)) fun x78 => dropS (h3.own.map (·.1)) [99620867] [x41, x42, x43, x44, x45, x46, x47, x78] h75 fun h79 => q38 [x41, x42, x43, x44, x45, x46, x47, x78] h79)
noncomputable def S95_102 (r67 : List Ref) (w68 : List Ref) (r61 : List Ref) (x41 : IV) (x65 : IV) (ih : Handler) (h66 : Hp) (x60 : IV) (x42 : IV) (x45 : IV) (x48 : IV) (h3 : Hp) (x43 : IV) (x44 : IV) (x46 : IV) (x47 : IV) (q38 : List IV → Hp → Option (IV × Hp)) : Option (IV × Hp) :=
  chkS [(r61, [])] r67 w68 (addS EE 3 x41 x65 fun x69 => isoS [] false false ih 95 [x60, x69, x42] h66 fun x70 h71 r72 w73 => chkS [] r72 w73 (ixS 3 x45 x48 fun x74 => S95_101 h71 x74 x70 x48 h3 x41 x42 x43 x44 x45 x46 x47 q38))
noncomputable def S95_103 (r61 : List Ref) (x43 : IV) (h57 : Hp) (ih : Handler) (x48 : IV) (x41 : IV) (x60 : IV) (x42 : IV) (x45 : IV) (h3 : Hp) (x44 : IV) (x46 : IV) (x47 : IV) (q38 : List IV → Hp → Option (IV × Hp)) : Option (IV × Hp) :=
  chkS [] r61 [] (faddrS 0 x43 fun x62 => load1 x62 h57 fun x63 r64 => chkS [(r61, [])] r64 [] (isoS [] false false ih 79 [x63, x48] h57 fun x65 h66 r67 w68 => S95_102 r67 w68 r61 x41 x65 ih h66 x60 x42 x45 x48 h3 x43 x44 x46 x47 q38))
noncomputable def S95_104 (x46 : IV) (x48 : IV) (h40 : Hp) (x43 : IV) (ih : Handler) (x41 : IV) (x42 : IV) (x45 : IV) (h3 : Hp) (x44 : IV) (x47 : IV) (q38 : List IV → Hp → Option (IV × Hp)) : Option (IV × Hp) :=
  ixS 3 x46 x48 fun x50 => loadA 3 x50 h40 fun x51 _ => newS 99620867 (.row [.fv (.int .i64 0), .fv (.int .i64 0), .nils] false) (.ptr (.own 99620867) 0) h40 fun x53 h54 _ _ => storeA 3 x53 x51 h54 fun h57 _ _ => loadA 3 x53 h57 fun x60 r61 => S95_103 r61 x43 h57 ih x48 x41 x60 x42 x45 h3 x44 x46 x47 q38
noncomputable def S95_105 (h40 : Hp) (x44 : IV) (x86 : IV) : Option (IV × Hp) :=
  storeA 3 x44 x86 h40 fun h87 _ _ => cellS true 3 x44 h87 fun x90 => outS1 [x90] h87
noncomputable def S95_106 (x43 : IV) (h40 : Hp) (x45 : IV) (x44 : IV) : Option (IV × Hp) :=
  faddrS 0 x43 fun x80 => load1 x80 h40 fun x81 _ => faddrS 1 x43 fun x83 => load1 x83 h40 fun x84 _ => bldS [.fv (.int .i64 0), .fv (.int .i64 0), .nils] [(0, 1, x81), (1, 1, x84), (2, 1, x45)] fun x86 => S95_105 h40 x44 x86
noncomputable def S95_107 (l95 : List IV) (h40 : Hp) (x43 : IV) (ih : Handler) (x41 : IV) (x42 : IV) (x45 : IV) (h3 : Hp) (x44 : IV) (q38 : List IV → Hp → Option (IV × Hp)) : Option (IV × Hp) :=
  uncS l95 fun x46 l96 => uncS l96 fun x47 l97 => uncS l97 fun x48 _ => ltS EE 3 x48 x47 fun x49 => condS x49 (S95_104 x46 x48 h40 x43 ih x41 x42 x45 h3 x44 x47 q38) (S95_106 x43 h40 x45 x44)
noncomputable def S95_108 (l39 : List IV) (h40 : Hp) (ih : Handler) (h3 : Hp) (q38 : List IV → Hp → Option (IV × Hp)) : Option (IV × Hp) :=
  uncS l39 fun x41 l91 => uncS l91 fun x42 l92 => uncS l92 fun x43 l93 => uncS l93 fun x44 l94 => uncS l94 fun x45 l95 => S95_107 l95 h40 x43 ih x41 x42 x45 h3 x44 q38
noncomputable def S95_109 (h31 : Hp) (x34 : IV) (h3 : Hp) (x1 : IV) (x2 : IV) (x4 : IV) (x8 : IV) (x30 : IV) (n : Nat) (ih : Handler) : Option (IV × Hp) :=
  load1 x34 h31 fun x35 _ => lenS x35 fun x37 => dropS (h3.own.map (·.1)) [99620867] [x1, x2, x4, x8, x30, x35, x37, .fv (.int .i64 0)] h31 fun h99 => loopS n (fun q38 l39 h40 => S95_108 l39 h40 ih h3 q38) [x1, x2, x4, x8, x30, x35, x37, .fv (.int .i64 0)] h99
noncomputable def S95_110 (x4 : IV) (h9 : Hp) (h3 : Hp) (x1 : IV) (x2 : IV) (x8 : IV) (n : Nat) (ih : Handler) : Option (IV × Hp) :=
  faddrS 2 x4 fun x26 => load1 x26 h9 fun x27 _ => lenS x27 fun x29 => genS (pcMakeSlice EE 99617795 29 x29 x29) 99617795 h9 fun x30 h31 _ _ => faddrS 2 x4 fun x34 => S95_109 h31 x34 h3 x1 x2 x4 x8 x30 n ih
noncomputable def S95 (ih : Handler) (n : Nat) (x0 : IV) (x1 : IV) (x2 : IV) (h3 : Hp) : Option (IV × Hp) :=
  boxS 99614720 x0 h3 fun x4 h5 _ _ => newS 99614721 (.row [.fv (.int .i64 0), .fv (.int .i64 0), .nils] false) (.ptr (.own 99614721) 0) h5 fun x8 h9 _ _ => faddrS 0 x4 fun x12 => load1 x12 h9 fun x13 _ => eqS EE 3 x13 (.fv (.int .i64 1)) fun x15 => condS x15 (S95_100 h9 x4 ih x2 x1 x8) (S95_110 x4 h9 h3 x1 x2 x8 n ih)
theorem S95_ok (ih : Handler) (n : Nat) (x0 : IV) (x1 : IV) (x2 : IV) (h3 : Hp) : funS EE ih ft.get n 95 [x0, x1, x2] h3 = S95 ih n x0 x1 x2 h3 := by kernel_rfl
/-! Function 96. -/
noncomputable def S96_53 (h23 : Hp) (x9 : IV) (x22 : IV) : Option (IV × Hp) :=
  storeA 3 x9 x22 h23 fun h26 _ _ => cellS true 3 x9 h26 fun x29 => outS1 [x29] h26
noncomputable def S96_54 (h36 : Hp) (x9 : IV) (x35 : IV) : Option (IV × Hp) :=
  storeA 3 x9 x35 h36 fun h39 _ _ => cellS true 3 x9 h39 fun x42 => outS1 [x42] h39
noncomputable def S96_55 (h46 : Hp) (x9 : IV) (x45 : IV) : Option (IV × Hp) :=
  storeA 3 x9 x45 h46 fun h49 _ _ => cellS true 3 x9 h49 fun x52 => outS1 [x52] h49
noncomputable def S96_56 (x32 : IV) (h10 : Hp) (x3 : IV) (ih : Handler) (x1 : IV) (x9 : IV) (x5 : IV) : Option (IV × Hp) :=
  condS x32 (loadA 3 x3 h10 fun x33 _ => isoS [] false false ih 98 [x33, x1, .fv (.int .i64 0)] h10 fun x35 h36 _ _ => S96_54 h36 x9 x35) (loadA 3 x5 h10 fun x43 _ => isoS [] false false ih 97 [x43, .fv (.int .i64 0)] h10 fun x45 h46 _ _ => S96_55 h46 x9 x45)
noncomputable def S96_57 (x16 : IV) (x17 : IV) (h10 : Hp) (x5 : IV) (ih : Handler) (x9 : IV) (x2 : IV) (x3 : IV) (x1 : IV) : Option (IV × Hp) :=
  gtS EE 3 x16 x17 fun x19 => condS x19 (loadA 3 x5 h10 fun x20 _ => isoS [] false false ih 97 [x20, .fv (.int .i64 (-1))] h10 fun x22 h23 _ _ => S96_53 h23 x9 x22) (load1 x2 h10 fun x30 _ => eqS EE 3 x16 x30 fun x32 => S96_56 x32 h10 x3 ih x1 x9 x5)
noncomputable def S96 (ih : Handler) (n : Nat) (x0 : IV) (x1 : IV) (x2 : IV) (x3 : IV) (h4 : Hp) : Option (IV × Hp) :=
  boxS 100663296 x0 h4 fun x5 h6 _ _ => newS 100663297 (.row [.fv (.int .i64 0), .fv (.int .i64 0), .nils] false) (.ptr (.own 100663297) 0) h6 fun x9 h10 _ _ => faddrS 1 x5 fun x13 => load1 x13 h10 fun x14 _ => subS EE 3 x14 x1 fun x16 => load1 x2 h10 fun x17 _ => S96_57 x16 x17 h10 x5 ih x9 x2 x3 x1
theorem S96_ok (ih : Handler) (n : Nat) (x0 : IV) (x1 : IV) (x2 : IV) (x3 : IV) (h4 : Hp) : funS EE ih ft.get n 96 [x0, x1, x2, x3] h4 = S96 ih n x0 x1 x2 x3 h4 := by kernel_rfl
/-! Function 97. -/
noncomputable def S97_20 (h8 : Hp) (x7 : IV) (x15 : IV) : Option (IV × Hp) :=
  storeA 3 x7 x15 h8 fun h16 _ _ => cellS true 3 x7 h16 fun x19 => outS1 [x19] h16
noncomputable def S97 (ih : Handler) (n : Nat) (x0 : IV) (x1 : IV) (h2 : Hp) : Option (IV × Hp) :=
  boxS 101711872 x0 h2 fun x3 h4 _ _ => newS 101711873 (.row [.fv (.int .i64 0), .fv (.int .i64 0), .nils] false) (.ptr (.own 101711873) 0) h4 fun x7 h8 _ _ => faddrS 1 x3 fun x11 => load1 x11 h8 fun x12 _ => addS EE 3 x12 x1 fun x14 => bldS [.fv (.int .i64 0), .fv (.int .i64 0), .nils] [(0, 1, .fv (.int .i64 1)), (1, 1, x14)] fun x15 => S97_20 h8 x7 x15
theorem S97_ok (ih : Handler) (n : Nat) (x0 : IV) (x1 : IV) (h2 : Hp) : funS EE ih ft.get n 97 [x0, x1] h2 = S97 ih n x0 x1 h2 := by kernel_rfl
/-! Function 98. -/
noncomputable def S98_34 (ih : Handler) (h23 : Hp) (x20 : IV) (x22 : IV) (x16 : IV) : Option (IV × Hp) :=
  isoS [] false false ih 95 [x20, .fv (.int .i64 0), x22] h23 fun x26 h27 _ _ => storeA 3 x16 x26 h27 fun h30 _ _ => cellS true 3 x16 h30 fun x33 => outS1 [x33] h30
noncomputable def S98 (ih : Handler) (n : Nat) (x0 : IV) (x1 : IV) (x2 : IV) (h3 : Hp) : Option (IV × Hp) :=
  boxS 102760448 x0 h3 fun x4 h5 _ _ => boxS 102760449 x1 h5 fun x8 h9 _ _ => boxS 102760450 x2 h9 fun x12 h13 _ _ => newS 102760451 (.row [.fv (.int .i64 0), .fv (.int .i64 0), .nils] false) (.ptr (.own 102760451) 0) h13 fun x16 h17 _ _ => loadA 3 x4 h17 fun x20 _ => genS (val (mkFunc (.func 100) [] [x12, x8])) 102761473 h17 fun x22 h23 _ _ => S98_34 ih h23 x20 x22 x16
theorem S98_ok (ih : Handler) (n : Nat) (x0 : IV) (x1 : IV) (x2 : IV) (h3 : Hp) : funS EE ih ft.get n 98 [x0, x1, x2] h3 = S98 ih n x0 x1 x2 h3 := by kernel_rfl
/-! Function 99. -/
noncomputable def S99_54 (x45 : IV) (h42 : Hp) (x15 : IV) (h3 : Hp) (x11 : IV) (x12 : IV) (x13 : IV) (x14 : IV) (q8 : List IV → Hp → Option (IV × Hp)) : Option (IV × Hp) :=
  condS x45 (outS1 [.fv (.bool false)] h42) (addS EE 3 x15 (.fv (.int .i64 1)) fun x46 => dropS (h3.own.map (·.1)) [103814147, 103815172] [x11, x12, x13, x14, x46] h42 fun h47 => q8 [x11, x12, x13, x14, x46] h47)
noncomputable def S99_55 (h31 : Hp) (x30 : IV) (x28 : IV) (x20 : IV) (ih : Handler) (x12 : IV) (x15 : IV) (h3 : Hp) (x11 : IV) (x13 : IV) (x14 : IV) (q8 : List IV → Hp → Option (IV × Hp)) : Option (IV × Hp) :=
  storeA 3 x30 x28 h31 fun h34 _ _ => loadA 3 x20 h34 fun x37 _ => loadA 3 x30 h34 fun x39 _ => dynS EE ih x12 [x37, x39] h34 fun x41 h42 _ _ => optS (unR .not x41) fun x45 => S99_54 x45 h42 x15 h3 x11 x12 x13 x14 q8
noncomputable def S99_56 (h10 : Hp) (x18 : IV) (x11 : IV) (x15 : IV) (ih : Handler) (x12 : IV) (h3 : Hp) (x13 : IV) (x14 : IV) (q8 : List IV → Hp → Option (IV × Hp)) : Option (IV × Hp) :=
  newS 103814147 (.row [.fv (.int .i64 0), .fv (.int .i64 0), .nils] false) (.ptr (.own 103814147) 0) h10 fun x20 h21 _ _ => storeA 3 x20 x18 h21 fun h24 _ _ => ixS 3 x11 x15 fun x27 => loadA 3 x27 h24 fun x28 _ => newS 103815172 (.row [.fv (.int .i64 0), .fv (.int .i64 0), .nils] false) (.ptr (.own 103815172) 0) h24 fun x30 h31 _ _ => S99_55 h31 x30 x28 x20 ih x12 x15 h3 x11 x13 x14 q8
noncomputable def S99_57 (x15 : IV) (x14 : IV) (x13 : IV) (h10 : Hp) (x11 : IV) (ih : Handler) (x12 : IV) (h3 : Hp) (q8 : List IV → Hp → Option (IV × Hp)) : Option (IV × Hp) :=
  ltS EE 3 x15 x14 fun x16 => condS x16 (ixS 3 x13 x15 fun x17 => loadA 3 x17 h10 fun x18 _ => S99_56 h10 x18 x11 x15 ih x12 h3 x13 x14 q8) (outS1 [.fv (.bool true)] h10)
noncomputable def S99_58 (l9 : List IV) (h10 : Hp) (ih : Handler) (h3 : Hp) (q8 : List IV → Hp → Option (IV × Hp)) : Option (IV × Hp) :=
  uncS l9 fun x11 l48 => uncS l48 fun x12 l49 => uncS l49 fun x13 l50 => uncS l50 fun x14 l51 => uncS l51 fun x15 _ => S99_57 x15 x14 x13 h10 x11 ih x12 h3 q8
noncomputable def S99_59 (h3 : Hp) (x1 : IV) (x2 : IV) (x0 : IV) (x7 : IV) (n : Nat) (ih : Handler) : Option (IV × Hp) :=
  dropS (h3.own.map (·.1)) [103814147, 103815172] [x1, x2, x0, x7, .fv (.int .i64 0)] h3 fun h53 => loopS n (fun q8 l9 h10 => S99_58 l9 h10 ih h3 q8) [x1, x2, x0, x7, .fv (.int .i64 0)] h53
noncomputable def S99 (ih : Handler) (n : Nat) (x0 : IV) (x1 : IV) (x2 : IV) (h3 : Hp) : Option (IV × Hp) :=
  lenS x0 fun x4 => lenS x1 fun x5 => neS EE 3 x4 x5 fun x6 => condS x6 (outS1 [.fv (.bool false)] h3) (lenS x0 fun x7 => S99_59 h3 x1 x2 x0 x7 n ih)
theorem S99_ok (ih : Handler) (n : Nat) (x0 : IV) (x1 : IV) (x2 : IV) (h3 : Hp) : funS EE ih ft.get n 99 [x0, x1, x2] h3 = S99 ih n x0 x1 x2 h3 := by kernel_rfl
/-! Function 100. -/
noncomputable def S100_42 (ih : Handler) (h10 : Hp) (x20 : IV) (x22 : IV) (x9 : IV) : Option (IV × Hp) :=
  isoS [] false false ih 97 [x20, x22] h10 fun x24 h25 _ _ => storeA 3 x9 x24 h25 fun h28 _ _ => cellS true 3 x9 h28 fun x31 => outS1 [x31] h28
noncomputable def S100_43 (h35 : Hp) (x9 : IV) (x34 : IV) : Option (IV × Hp) :=
  storeA 3 x9 x34 h35 fun h38 _ _ => cellS true 3 x9 h38 fun x41 => outS1 [x41] h38
noncomputable def S100_44 (x16 : IV) (x17 : IV) (h10 : Hp) (x5 : IV) (x3 : IV) (ih : Handler) (x9 : IV) : Option (IV × Hp) :=
  geS EE 3 x16 x17 fun x19 => condS x19 (loadA 3 x5 h10 fun x20 _ => load1 x3 h10 fun x22 _ => S100_42 ih h10 x20 x22 x9) (loadA 3 x5 h10 fun x32 _ => isoS [] false false ih 97 [x32, .fv (.int .i64 0)] h10 fun x34 h35 _ _ => S100_43 h35 x9 x34)
noncomputable def S100 (ih : Handler) (n : Nat) (x0 : IV) (x1 : IV) (x2 : IV) (x3 : IV) (h4 : Hp) : Option (IV × Hp) :=
  boxS 104857600 x0 h4 fun x5 h6 _ _ => newS 104857601 (.row [.fv (.int .i64 0), .fv (.int .i64 0), .nils] false) (.ptr (.own 104857601) 0) h6 fun x9 h10 _ _ => faddrS 1 x5 fun x13 => load1 x13 h10 fun x14 _ => subS EE 3 x14 x1 fun x16 => load1 x2 h10 fun x17 _ => S100_44 x16 x17 h10 x5 x3 ih x9
theorem S100_ok (ih : Handler) (n : Nat) (x0 : IV) (x1 : IV) (x2 : IV) (x3 : IV) (h4 : Hp) : funS EE ih ft.get n 100 [x0, x1, x2, x3] h4 = S100 ih n x0 x1 x2 x3 h4 := by kernel_rfl
end Idl
end Go.Proofs.Ytbkdidonegggdaa

/-
  THE SHALLOW FORM OF THE SEAT'S FUNCTIONS, a part; each is what its code's shallow run is. Printed by a program of mine (gen-sh). No statement is proved here.
-/
import Derived.Test.YtkfecngimlcfoaaTab
import Derived.Test.YtkfecngimlcfoaaIdl31
set_option maxRecDepth 100000
set_option linter.unusedVariables false
namespace Go.Proofs.Ytkfecngimlcfoaa
namespace Idl
/-! (*thyrsus/norm.machine).rec -/
noncomputable def S96_74 (x15 : IV) (h2 : Hp) : Option (IV × Hp) :=
  faddrS 2 x15 fun x16 => load1 x16 h2 fun x17 _ => ixS 1 x17 (.fv (.int .i64 1)) fun x19 => load1 x19 h2 fun x20 _ => outS1 [x20] h2
noncomputable def S96_75 (h63 : Hp) (x60 : IV) (x62 : IV) (ih : Handler) (x0 : IV) (x1 : IV) : Option (IV × Hp) :=
  genS (pcBuildSlice EE 127 2 [(0, x60), (1, x62)]) 100671498 h63 fun x66 h67 r68 w69 => chkS [] r68 w69 (isoS [true, false, false, false] false false ih 103 [x0, x1, .fv (.int .i64 2), x66] h67 fun x70 h71 r72 w73 => chkS [] r72 w73 (outS1 [x70] h71))
noncomputable def S96_76 (x57 : IV) (h52 : Hp) (ih : Handler) (x0 : IV) (x26 : IV) (r58 : List Ref) (x1 : IV) : Option (IV × Hp) :=
  ixS 1 x57 (.fv (.int .i64 0)) fun x59 => load1 x59 h52 fun x60 r61 => chkS [] r61 [] (isoS [true, false] false false ih 102 [x0, x26] h52 fun x62 h63 r64 w65 => chkS [(r61, []), (r58, [])] r64 w65 (S96_75 h63 x60 x62 ih x0 x1))
noncomputable def S96_77 (r53 : List Ref) (w54 : List Ref) (x8 : IV) (h52 : Hp) (ih : Handler) (x0 : IV) (x26 : IV) (x1 : IV) : Option (IV × Hp) :=
  chkS [] r53 w54 (nilS x8 fun x55 => faddrS 2 x55 fun x56 => load1 x56 h52 fun x57 r58 => chkS [] r58 [] (S96_76 x57 h52 ih x0 x26 r58 x1))
noncomputable def S96_78 (r46 : List Ref) (r39 : List Ref) (r36 : List Ref) (h30 : Hp) (x38 : IV) (x45 : IV) (x26 : IV) (x8 : IV) (ih : Handler) (x0 : IV) (x1 : IV) : Option (IV × Hp) :=
  chkS [(r39, []), (r36, [])] r46 [] (genS (pcBuildSlice EE 127 4 [(0, .fv .nilp), (1, x38), (2, .fv .nilp), (3, x45)]) 100670476 h30 fun x47 h48 r49 w50 => chkS [] r49 w50 (faddrS 2 x26 fun x51 => store1 x51 x47 h48 fun h52 r53 w54 => S96_77 r53 w54 x8 h52 ih x0 x26 x1))
noncomputable def S96_79 (x40 : IV) (h30 : Hp) (r39 : List Ref) (r36 : List Ref) (x38 : IV) (x26 : IV) (x8 : IV) (ih : Handler) (x0 : IV) (x1 : IV) : Option (IV × Hp) :=
  faddrS 2 x40 fun x41 => load1 x41 h30 fun x42 r43 => chkS [(r39, []), (r36, [])] r43 [] (ixS 1 x42 (.fv (.int .i64 0)) fun x44 => load1 x44 h30 fun x45 r46 => S96_78 r46 r39 r36 h30 x38 x45 x26 x8 ih x0 x1)
noncomputable def S96_80 (r36 : List Ref) (x35 : IV) (h30 : Hp) (x8 : IV) (x26 : IV) (ih : Handler) (x0 : IV) (x1 : IV) : Option (IV × Hp) :=
  chkS [] r36 [] (ixS 1 x35 (.fv (.int .i64 1)) fun x37 => load1 x37 h30 fun x38 r39 => chkS [] r39 [] (nilS x8 fun x40 => S96_79 x40 h30 r39 r36 x38 x26 x8 ih x0 x1))
noncomputable def S96_81 (h2 : Hp) (x24 : IV) (x1 : IV) (x8 : IV) (ih : Handler) (x0 : IV) : Option (IV × Hp) :=
  newS 100669443 (.row [.fv (.int .i64 0), .fv (.int .i64 0), .nils, .fv (.int .i64 0), .fv (.int .i64 0), .nils, .fv (.nilp)] false) (.ptr (.own 100669443) 0) h2 fun x26 h27 _ _ => storeA 7 x26 x24 h27 fun h30 _ _ => nilS x1 fun x33 => faddrS 2 x33 fun x34 => load1 x34 h30 fun x35 r36 => S96_80 r36 x35 h30 x8 x26 ih x0 x1
noncomputable def S96_82 (x22 : IV) (x1 : IV) (h2 : Hp) (x8 : IV) (ih : Handler) (x0 : IV) : Option (IV × Hp) :=
  condS x22 (nilS x1 fun x23 => loadA 7 x23 h2 fun x24 _ => S96_81 h2 x24 x1 x8 ih x0) (outS1 [.fv .nilp] h2)
noncomputable def S96_83 (x10 : IV) (h2 : Hp) (x1 : IV) (x8 : IV) (ih : Handler) (x0 : IV) : Option (IV × Hp) :=
  faddrS 0 x10 fun x11 => load1 x11 h2 fun x12 _ => eqS EE 3 x12 (.fv (.int .i64 11)) fun x14 => condS x14 (nilS x1 fun x15 => S96_74 x15 h2) (eqS EE 3 x12 (.fv (.int .i64 12)) fun x22 => S96_82 x22 x1 h2 x8 ih x0)
noncomputable def S96 (ih : Handler) (n : Nat) (x0 : IV) (x1 : IV) (h2 : Hp) : Option (IV × Hp) :=
  nilS x1 fun x3 => faddrS 2 x3 fun x4 => load1 x4 h2 fun x5 _ => ixS 1 x5 (.fv (.int .i64 3)) fun x7 => load1 x7 h2 fun x8 _ => nilS x8 fun x10 => S96_83 x10 h2 x1 x8 ih x0
theorem S96_ok (ih : Handler) (n : Nat) (x0 : IV) (x1 : IV) (h2 : Hp) : funS EE ih ft.get n 96 [x0, x1] h2 = S96 ih n x0 x1 h2 := by kernel_rfl
/-! (*thyrsus/norm.machine).spl -/
noncomputable def S97 (ih : Handler) (n : Nat) (x0 : IV) (x1 : IV) (h2 : Hp) : Option (IV × Hp) :=
  isoS [] false false ih 109 [x1, .fv (.int .i64 19)] h2 fun x3 h4 _ _ => outS1 [x3] h4
theorem S97_ok (ih : Handler) (n : Nat) (x0 : IV) (x1 : IV) (h2 : Hp) : funS EE ih ft.get n 97 [x0, x1] h2 = S97 ih n x0 x1 h2 := by kernel_rfl
/-! (*thyrsus/norm.machine).quo -/
noncomputable def S98 (ih : Handler) (n : Nat) (x0 : IV) (x1 : IV) (h2 : Hp) : Option (IV × Hp) :=
  isoS [] false false ih 109 [x1, .fv (.int .i64 30)] h2 fun x3 h4 _ _ => outS1 [x3] h4
theorem S98_ok (ih : Handler) (n : Nat) (x0 : IV) (x1 : IV) (h2 : Hp) : funS EE ih ft.get n 98 [x0, x1] h2 = S98 ih n x0 x1 h2 := by kernel_rfl
/-! (*thyrsus/norm.machine).tick -/
noncomputable def S99_53 (h44 : Hp) (x49 : IV) : Option (IV × Hp) :=
  store1 x49 (.fv (.int .i64 17)) h44 fun h50 _ _ => outS1 [] h50
noncomputable def S99_54 (x16 : IV) (x43 : IV) (x0 : IV) (h44 : Hp) : Option (IV × Hp) :=
  pickS x16 x43 (.fv (.bool false)) fun x47 => condS x47 (nilS x0 fun x48 => faddrS 3 x48 fun x49 => S99_53 h44 x49) (outS1 [] h44)
noncomputable def S99_55 (h9 : Hp) (x16 : IV) (x0 : IV) : Option (IV × Hp) :=
  guardS x16 true h9 (fun k17 => k17 x0 h9 [] []) fun x18 h19 _ _ => guardS x16 true h19 (fun k22 => nilS x18 fun x23 => k22 x23 h19 [] []) fun x24 h25 _ _ => guardS x16 true h25 (fun k28 => faddrS 3 x24 fun x29 => k28 x29 h25 [] []) fun x30 h31 _ _ => guardS x16 true h31 (fun k34 => load1 x30 h31 fun x35 r36 => k34 x35 h31 r36 []) fun x37 h38 _ _ => guardS x16 true h38 (fun k41 => eqS EE 36 x37 (.fv (.int .i64 0)) fun x42 => k41 x42 h38 [] []) fun x43 h44 _ _ => S99_54 x16 x43 x0 h44
noncomputable def S99_56 (h1 : Hp) (x8 : IV) (x6 : IV) (x0 : IV) : Option (IV × Hp) :=
  store1 x8 x6 h1 fun h9 _ _ => nilS x0 fun x12 => faddrS 1 x12 fun x13 => load1 x13 h9 fun x14 _ => ltS EE 3 x14 (.fv (.int .i64 0)) fun x16 => S99_55 h9 x16 x0
noncomputable def S99 (ih : Handler) (n : Nat) (x0 : IV) (h1 : Hp) : Option (IV × Hp) :=
  nilS x0 fun x2 => faddrS 1 x2 fun x3 => load1 x3 h1 fun x4 _ => subS EE 3 x4 (.fv (.int .i64 1)) fun x6 => nilS x0 fun x7 => faddrS 1 x7 fun x8 => S99_56 h1 x8 x6 x0
theorem S99_ok (ih : Handler) (n : Nat) (x0 : IV) (h1 : Hp) : funS EE ih ft.get n 99 [x0] h1 = S99 ih n x0 h1 := by kernel_rfl
/-! thyrsus/norm.variable -/
noncomputable def S100_27 (h5 : Hp) (x11 : IV) : Option (IV × Hp) :=
  load1 x11 h5 fun x12 _ => outS1 [x12] h5
noncomputable def S100_28 (x15 : IV) (h5 : Hp) (q3 : List IV → Hp → Option (IV × Hp)) (x14 : IV) : Option (IV × Hp) :=
  faddrS 1 x15 fun x16 => load1 x16 h5 fun x17 _ => q3 [x17, x14] h5
noncomputable def S100_29 (x9 : IV) (x6 : IV) (h5 : Hp) (x7 : IV) (q3 : List IV → Hp → Option (IV × Hp)) : Option (IV × Hp) :=
  condS x9 (nilS x6 fun x10 => faddrS 0 x10 fun x11 => S100_27 h5 x11) (subS EE 3 x7 (.fv (.int .i64 1)) fun x14 => nilS x6 fun x15 => S100_28 x15 h5 q3 x14)
noncomputable def S100_30 (x19 : IV) (h5 : Hp) : Option (IV × Hp) :=
  bldS [.fv (.int .i64 0), .fv (.int .i64 0), .nils, .fv (.int .i64 0), .fv (.int .i64 0), .nils, .fv (.nilp)] [(0, 1, .fv (.int .i64 1)), (1, 1, x19)] fun x20 => boxS 104863747 x20 h5 fun x21 h22 _ _ => outS1 [x21] h22
noncomputable def S100_31 (l4 : List IV) (h5 : Hp) (q3 : List IV → Hp → Option (IV × Hp)) : Option (IV × Hp) :=
  uncS l4 fun x6 l25 => uncS l25 fun x7 _ => neS EE 125 x6 (.fv .nilp) fun x8 => condS x8 (eqS EE 3 x7 (.fv (.int .i64 0)) fun x9 => S100_29 x9 x6 h5 x7 q3) (subS EE 3 (.fv (.int .i64 (-1))) x7 fun x19 => S100_30 x19 h5)
noncomputable def S100 (ih : Handler) (n : Nat) (x0 : IV) (x1 : IV) (h2 : Hp) : Option (IV × Hp) :=
  loopS n (fun q3 l4 h5 => S100_31 l4 h5 q3) [x0, x1] h2
theorem S100_ok (ih : Handler) (n : Nat) (x0 : IV) (x1 : IV) (h2 : Hp) : funS EE ih ft.get n 100 [x0, x1] h2 = S100 ih n x0 x1 h2 := by kernel_rfl
/-! thyrsus/term.Binders -/
noncomputable def S101 (ih : Handler) (n : Nat) (x0 : IV) (x1 : IV) (h2 : Hp) : Option (IV × Hp) :=
  dynS EE ih (.fv (.func (.func 110) [] [])) [x0, x1] h2 fun x3 h4 _ _ => outS1 [x3] h4
theorem S101_ok (ih : Handler) (n : Nat) (x0 : IV) (x1 : IV) (h2 : Hp) : funS EE ih ft.get n 101 [x0, x1] h2 = S101 ih n x0 x1 h2 := by kernel_rfl
/-! (*thyrsus/norm.machine).contract -/
noncomputable def S102_126 (h113 : Hp) (x122 : IV) (j0_104 : Hp → Option (IV × Hp)) : Option (IV × Hp) :=
  store1 x122 (.fv (.int .i64 17)) h113 fun h123 _ _ => j0_104 h123
noncomputable def S102_127 (x120 : IV) (x0 : IV) (h113 : Hp) (j0_104 : Hp → Option (IV × Hp)) : Option (IV × Hp) :=
  condS x120 (nilS x0 fun x121 => faddrS 3 x121 fun x122 => S102_126 h113 x122 j0_104) (j0_104 h113)
noncomputable def S102_128 (h100 : Hp) (x112 : IV) (x110 : IV) (x0 : IV) (j0_104 : Hp → Option (IV × Hp)) : Option (IV × Hp) :=
  store1 x112 x110 h100 fun h113 _ _ => nilS x0 fun x116 => faddrS 0 x116 fun x117 => load1 x117 h113 fun x118 _ => ltS EE 3 x118 (.fv (.int .i64 0)) fun x120 => S102_127 x120 x0 h113 j0_104
noncomputable def S102_129 (x106 : IV) (h100 : Hp) (x0 : IV) (j0_104 : Hp → Option (IV × Hp)) : Option (IV × Hp) :=
  faddrS 0 x106 fun x107 => load1 x107 h100 fun x108 _ => subS EE 3 x108 (.fv (.int .i64 1)) fun x110 => nilS x0 fun x111 => faddrS 0 x111 fun x112 => S102_128 h100 x112 x110 x0 j0_104
noncomputable def S102_130 (x103 : IV) (h100 : Hp) (x1 : IV) (x68 : IV) (x0 : IV) : Option (IV × Hp) :=
  condS x103 (outS1 [x1] h100) ((fun (j0_104 : Hp → Option (IV × Hp)) => nilS x0 fun x106 => S102_129 x106 h100 x0 j0_104) fun h105 => outS1 [x68] h105)
noncomputable def S102_131 (h75 : Hp) (x72 : IV) (x74 : IV) (x1 : IV) (x68 : IV) (x0 : IV) : Option (IV × Hp) :=
  guardS x72 false h75 (fun k78 => nilS x74 fun x79 => k78 x79 h75 [] []) fun x80 h81 _ _ => guardS x72 false h81 (fun k84 => faddrS 3 x80 fun x85 => k84 x85 h81 [] []) fun x86 h87 _ _ => guardS x72 false h87 (fun k90 => load1 x86 h87 fun x91 r92 => k90 x91 h87 r92 []) fun x93 h94 _ _ => guardS x72 false h94 (fun k97 => neS EE 36 x93 (.fv (.int .i64 0)) fun x98 => k97 x98 h94 [] []) fun x99 h100 _ _ => pickS x72 (.fv (.bool true)) x99 fun x103 => S102_130 x103 h100 x1 x68 x0
noncomputable def S102_132 (x17 : IV) (h57 : Hp) (ih : Handler) (x1 : IV) (x0 : IV) : Option (IV × Hp) :=
  faddrS 0 x17 fun x65 => load1 x65 h57 fun x66 _ => dynS EE ih x66 [x1] h57 fun x68 h69 _ _ => eqS EE 96 x68 (.fv .nilp) fun x72 => guardS x72 false h69 (fun k73 => k73 x0 h69 [] []) fun x74 h75 _ _ => S102_131 h75 x72 x74 x1 x68 x0
noncomputable def S102_133 (x0 : IV) (h57 : Hp) (x1 : IV) (x17 : IV) (ih : Handler) : Option (IV × Hp) :=
  nilS x0 fun x60 => faddrS 3 x60 fun x61 => load1 x61 h57 fun x62 _ => neS EE 36 x62 (.fv (.int .i64 0)) fun x64 => condS x64 (outS1 [x1] h57) (S102_132 x17 h57 ih x1 x0)
noncomputable def S102_134 (h46 : Hp) (x24 : IV) (x45 : IV) (x1 : IV) (ih : Handler) (x0 : IV) (x17 : IV) : Option (IV × Hp) :=
  guardS x24 false h46 (fun k49 => neS EE 36 x45 (.fv (.int .i64 0)) fun x50 => k49 x50 h46 [] []) fun x51 h52 _ _ => pickS x24 (.fv (.bool true)) x51 fun x55 => condS x55 (outS1 [x1] h52) (isoS [true] false false ih 99 [x0] h52 fun _ h57 _ _ => S102_133 x0 h57 x1 x17 ih)
noncomputable def S102_135 (x16 : IV) (h21 : Hp) (x0 : IV) (x1 : IV) (ih : Handler) (x17 : IV) : Option (IV × Hp) :=
  optS (unR .not x16) fun x24 => guardS x24 false h21 (fun k25 => k25 x0 h21 [] []) fun x26 h27 _ _ => guardS x24 false h27 (fun k30 => nilS x26 fun x31 => k30 x31 h27 [] []) fun x32 h33 _ _ => guardS x24 false h33 (fun k36 => faddrS 3 x32 fun x37 => k36 x37 h33 [] []) fun x38 h39 _ _ => guardS x24 false h39 (fun k42 => load1 x38 h39 fun x43 r44 => k42 x43 h39 r44 []) fun x45 h46 _ _ => S102_134 h46 x24 x45 x1 ih x0 x17
noncomputable def S102_136 (x11 : IV) (h12 : Hp) (r13 : List Ref) (w14 : List Ref) (r10 : List Ref) (r6 : List Ref) (x15 : IV) (x0 : IV) (x1 : IV) (ih : Handler) : Option (IV × Hp) :=
  extS 1 x11 fun x16 => newS 106955788 (.row [.fv (.nilf)] false) (.ptr (.own 106955788) 0) h12 fun x17 h18 r19 w20 => chkS [(r13, w14), (r10, []), (r6, [])] r19 w20 (store1 x17 x15 h18 fun h21 r22 w23 => chkS [] r22 w23 (S102_135 x16 h21 x0 x1 ih x17))
noncomputable def S102_137 (h2 : Hp) (x8 : IV) (r6 : List Ref) (x5 : IV) (x0 : IV) (x1 : IV) (ih : Handler) : Option (IV × Hp) :=
  load1 x8 h2 fun x9 r10 => chkS [(r6, [])] r10 [] (genS (pcLookup EE 98 x5 x9 true) 106955784 h2 fun x11 h12 r13 w14 => chkS [] r13 w14 (extS 0 x11 fun x15 => S102_136 x11 h12 r13 w14 r10 r6 x15 x0 x1 ih))
noncomputable def S102 (ih : Handler) (n : Nat) (x0 : IV) (x1 : IV) (h2 : Hp) : Option (IV × Hp) :=
  nilS x0 fun x3 => faddrS 4 x3 fun x4 => load1 x4 h2 fun x5 r6 => chkS [] r6 [] (nilS x1 fun x7 => faddrS 0 x7 fun x8 => S102_137 h2 x8 r6 x5 x0 x1 ih)
theorem S102_ok (ih : Handler) (n : Nat) (x0 : IV) (x1 : IV) (h2 : Hp) : funS EE ih ft.get n 102 [x0, x1] h2 = S102 ih n x0 x1 h2 := by kernel_rfl
/-! (*thyrsus/norm.machine).open -/
noncomputable def S103_25 (x16 : IV) (x2 : IV) (h10 : Hp) (r11 : List Ref) (w12 : List Ref) (r8 : List Ref) (ih : Handler) (x0 : IV) (x9 : IV) : Option (IV × Hp) :=
  ixS 3 x16 x2 fun x18 => loadA 3 x18 h10 fun x19 r20 => chkS [(r11, w12), (r8, [])] r20 [] (isoS [true, false, false] false false ih 71 [x0, x9, x19] h10 fun x21 h22 r23 w24 => chkS [] r23 w24 (outS1 [x21] h22))
noncomputable def S103_26 (x1 : IV) (h10 : Hp) (r11 : List Ref) (w12 : List Ref) (r8 : List Ref) (x2 : IV) (ih : Handler) (x0 : IV) (x9 : IV) : Option (IV × Hp) :=
  nilS x1 fun x13 => faddrS 3 x13 fun x14 => faddrS 2 x14 fun x15 => load1 x15 h10 fun x16 r17 => chkS [(r11, w12), (r8, [])] r17 [] (S103_25 x16 x2 h10 r11 w12 r8 ih x0 x9)
noncomputable def S103 (ih : Handler) (n : Nat) (x0 : IV) (x1 : IV) (x2 : IV) (x3 : IV) (h4 : Hp) : Option (IV × Hp) :=
  nilS x1 fun x5 => faddrS 6 x5 fun x6 => load1 x6 h4 fun x7 r8 => chkS [] r8 [] (isoS [] false false ih 111 [x7, x3] h4 fun x9 h10 r11 w12 => chkS [] r11 w12 (S103_26 x1 h10 r11 w12 r8 x2 ih x0 x9))
theorem S103_ok (ih : Handler) (n : Nat) (x0 : IV) (x1 : IV) (x2 : IV) (x3 : IV) (h4 : Hp) : funS EE ih ft.get n 103 [x0, x1, x2, x3] h4 = S103 ih n x0 x1 x2 x3 h4 := by kernel_rfl
/-! slices.IndexFunc[[]thyrsus/api.Tm,thyrsus/api.Tm] -/
noncomputable def S104_24 (ih : Handler) (h6 : Hp) (x8 : IV) (x13 : IV) (x10 : IV) (q4 : List IV → Hp → Option (IV × Hp)) (x7 : IV) (x9 : IV) : Option (IV × Hp) :=
  dynS EE ih x8 [x13] h6 fun x15 h16 _ _ => condS x15 (outS1 [x10] h16) (addS EE 3 x10 (.fv (.int .i64 1)) fun x19 => q4 [x7, x8, x9, x19] h16)
noncomputable def S104_25 (x11 : IV) (x7 : IV) (x10 : IV) (h6 : Hp) (ih : Handler) (x8 : IV) (q4 : List IV → Hp → Option (IV × Hp)) (x9 : IV) : Option (IV × Hp) :=
  condS x11 (ixS 3 x7 x10 fun x12 => loadA 3 x12 h6 fun x13 _ => S104_24 ih h6 x8 x13 x10 q4 x7 x9) (outS1 [.fv (.int .i64 (-1))] h6)
noncomputable def S104_26 (l5 : List IV) (h6 : Hp) (ih : Handler) (q4 : List IV → Hp → Option (IV × Hp)) : Option (IV × Hp) :=
  uncS l5 fun x7 l20 => uncS l20 fun x8 l21 => uncS l21 fun x9 l22 => uncS l22 fun x10 _ => ltS EE 3 x10 x9 fun x11 => S104_25 x11 x7 x10 h6 ih x8 q4 x9
noncomputable def S104 (ih : Handler) (n : Nat) (x0 : IV) (x1 : IV) (h2 : Hp) : Option (IV × Hp) :=
  lenS x0 fun x3 => loopS n (fun q4 l5 h6 => S104_26 l5 h6 ih q4) [x0, x1, x3, .fv (.int .i64 0)] h2
theorem S104_ok (ih : Handler) (n : Nat) (x0 : IV) (x1 : IV) (h2 : Hp) : funS EE ih ft.get n 104 [x0, x1] h2 = S104 ih n x0 x1 h2 := by kernel_rfl
/-! thyrsus/thyrsusref7.Down -/
noncomputable def S105_40 (x16 : IV) (h17 : Hp) (x6 : IV) : Option (IV × Hp) :=
  extS 0 x16 fun x20 => extS 1 x16 fun x21 => storeA 3 x6 x20 h17 fun h22 _ _ => cellS true 3 x6 h22 fun x25 => outS1 [x25, x21] h22
noncomputable def S105_41 (h33 : Hp) (x6 : IV) (x32 : IV) : Option (IV × Hp) :=
  storeA 3 x6 x32 h33 fun h36 r37 w38 => chkS [] r37 w38 (cellS true 3 x6 h36 fun x39 => outS1 [x39, .fv (.int .i64 0)] h36)
noncomputable def S105_42 (r27 : List Ref) (ih : Handler) (h13 : Hp) (x26 : IV) (x6 : IV) : Option (IV × Hp) :=
  chkS [] r27 [] (isoS [] false false ih 24 [.fv (.int .i64 11), .nils] h13 fun x28 h29 r30 w31 => chkS [(r27, [])] r30 w31 (isoS [] false false ih 67 [x26, .fv (.int .i64 0), x28] h29 fun x32 h33 r34 w35 => chkS [] r34 w35 (S105_41 h33 x6 x32)))
noncomputable def S105 (ih : Handler) (n : Nat) (x0 : IV) (h1 : Hp) : Option (IV × Hp) :=
  boxS 110100480 x0 h1 fun x2 h3 _ _ => newS 110100481 (.row [.fv (.int .i64 0), .fv (.int .i64 0), .nils] false) (.ptr (.own 110100481) 0) h3 fun x6 h7 _ _ => loadA 3 x2 h7 fun x10 _ => isoS [] false false ih 107 [x10, .fv (.int .i64 0)] h7 fun x12 h13 _ _ => condS x12 (isoS [] false false ih 44 [.fv (.int .i64 14)] h13 fun x16 h17 _ _ => S105_40 x16 h17 x6) (loadA 3 x2 h13 fun x26 r27 => S105_42 r27 ih h13 x26 x6)
theorem S105_ok (ih : Handler) (n : Nat) (x0 : IV) (h1 : Hp) : funS EE ih ft.get n 105 [x0] h1 = S105 ih n x0 h1 := by kernel_rfl
/-! thyrsus/thyrsusref7.Next -/
noncomputable def S106_36 (ih : Handler) (h21 : Hp) (x20 : IV) (x12 : IV) (x6 : IV) : Option (IV × Hp) :=
  isoS [] false false ih 24 [.fv (.int .i64 12), x20] h21 fun x24 h25 _ _ => isoS [] false false ih 67 [x12, .fv (.int .i64 0), x24] h25 fun x28 h29 _ _ => storeA 3 x6 x28 h29 fun h32 _ _ => cellS true 3 x6 h32 fun x35 => outS1 [x35] h32
noncomputable def S106 (ih : Handler) (n : Nat) (x0 : IV) (h1 : Hp) : Option (IV × Hp) :=
  boxS 111149056 x0 h1 fun x2 h3 _ _ => newS 111149057 (.row [.fv (.int .i64 0), .fv (.int .i64 0), .nils] false) (.ptr (.own 111149057) 0) h3 fun x6 h7 _ _ => loadA 3 x2 h7 fun x10 _ => isoS [] false false ih 45 [x10, .fv (.int .i64 2), .fv (.int .i64 1)] h7 fun x12 h13 _ _ => isoS [] false false ih 25 [.fv (.int .i64 1)] h13 fun x16 h17 _ _ => genS (pcBuildSlice EE 28 1 [(0, x16)]) 111150083 h17 fun x20 h21 _ _ => S106_36 ih h21 x20 x12 x6
theorem S106_ok (ih : Handler) (n : Nat) (x0 : IV) (h1 : Hp) : funS EE ih ft.get n 106 [x0] h1 = S106 ih n x0 h1 := by kernel_rfl
/-! thyrsus/thyrsusref4.Free -/
noncomputable def S107_48 (h4 : Hp) (x11 : IV) (x1 : IV) : Option (IV × Hp) :=
  load1 x11 h4 fun x12 _ => eqS EE 3 x12 x1 fun x14 => outS1 [x14] h4
noncomputable def S107_49 (x18 : IV) (x35 : IV) (ih : Handler) (h36 : Hp) (x30 : IV) (x20 : IV) (q15 : List IV → Hp → Option (IV × Hp)) (x19 : IV) : Option (IV × Hp) :=
  addS EE 3 x18 x35 fun x39 => isoS [] false false ih 107 [x30, x39] h36 fun x40 h41 r42 w43 => chkS [] r42 w43 (condS x40 (outS1 [.fv (.bool true)] h41) (addS EE 3 x20 (.fv (.int .i64 1)) fun x44 => q15 [x18, x19, x44] h41))
noncomputable def S107_50 (x19 : IV) (h17 : Hp) (r31 : List Ref) (r28 : List Ref) (ih : Handler) (x20 : IV) (x18 : IV) (x30 : IV) (q15 : List IV → Hp → Option (IV × Hp)) : Option (IV × Hp) :=
  faddrS 0 x19 fun x32 => load1 x32 h17 fun x33 r34 => chkS [(r31, []), (r28, [])] r34 [] (isoS [] false false ih 54 [x33, x20] h17 fun x35 h36 r37 w38 => chkS [(r31, []), (r28, [])] r37 w38 (S107_49 x18 x35 ih h36 x30 x20 q15 x19))
noncomputable def S107_51 (h17 : Hp) (x26 : IV) (x20 : IV) (x19 : IV) (ih : Handler) (x18 : IV) (q15 : List IV → Hp → Option (IV × Hp)) : Option (IV × Hp) :=
  load1 x26 h17 fun x27 r28 => chkS [] r28 [] (ixS 3 x27 x20 fun x29 => loadA 3 x29 h17 fun x30 r31 => chkS [] r31 [] (S107_50 x19 h17 r31 r28 ih x20 x18 x30 q15))
noncomputable def S107_52 (x22 : IV) (x20 : IV) (x19 : IV) (h17 : Hp) (ih : Handler) (x18 : IV) (q15 : List IV → Hp → Option (IV × Hp)) : Option (IV × Hp) :=
  lenS x22 fun x24 => ltS EE 3 x20 x24 fun x25 => condS x25 (faddrS 2 x19 fun x26 => S107_51 h17 x26 x20 x19 ih x18 q15) (outS1 [.fv (.bool false)] h17)
noncomputable def S107_53 (l16 : List IV) (h17 : Hp) (ih : Handler) (q15 : List IV → Hp → Option (IV × Hp)) : Option (IV × Hp) :=
  uncS l16 fun x18 l45 => uncS l45 fun x19 l46 => uncS l46 fun x20 _ => faddrS 2 x19 fun x21 => load1 x21 h17 fun x22 _ => S107_52 x22 x20 x19 h17 ih x18 q15
noncomputable def S107 (ih : Handler) (n : Nat) (x0 : IV) (x1 : IV) (h2 : Hp) : Option (IV × Hp) :=
  boxS 112197632 x0 h2 fun x3 h4 _ _ => faddrS 0 x3 fun x7 => load1 x7 h4 fun x8 _ => eqS EE 3 x8 (.fv (.int .i64 1)) fun x10 => condS x10 (faddrS 1 x3 fun x11 => S107_48 h4 x11 x1) (loopS n (fun q15 l16 h17 => S107_53 l16 h17 ih q15) [x1, x3, .fv (.int .i64 0)] h4)
theorem S107_ok (ih : Handler) (n : Nat) (x0 : IV) (x1 : IV) (h2 : Hp) : funS EE ih ft.get n 107 [x0, x1] h2 = S107 ih n x0 x1 h2 := by kernel_rfl
/-! (*thyrsus/thyrsusref5.machine).step -/
noncomputable def S108_29 (x0 : IV) (h13 : Hp) : Option (IV × Hp) :=
  nilS x0 fun x14 => faddrS 2 x14 fun x15 => load1 x15 h13 fun x16 _ => eqS EE 3 x16 (.fv (.int .i64 0)) fun x18 => outS1 [x18] h13
noncomputable def S108_30 (h9 : Hp) (x25 : IV) (j0_12 : Hp → Option (IV × Hp)) : Option (IV × Hp) :=
  store1 x25 (.fv (.int .i64 17)) h9 fun h26 _ _ => j0_12 h26
noncomputable def S108_31 (x21 : IV) (x0 : IV) (h9 : Hp) (j0_12 : Hp → Option (IV × Hp)) : Option (IV × Hp) :=
  gtS EE 3 x21 (.fv (.int .i64 1000)) fun x23 => condS x23 (nilS x0 fun x24 => faddrS 2 x24 fun x25 => S108_30 h9 x25 j0_12) (j0_12 h9)
noncomputable def S108_32 (h1 : Hp) (x8 : IV) (x6 : IV) (x0 : IV) : Option (IV × Hp) :=
  store1 x8 x6 h1 fun h9 _ _ => (fun (j0_12 : Hp → Option (IV × Hp)) => nilS x0 fun x19 => faddrS 0 x19 fun x20 => load1 x20 h9 fun x21 _ => S108_31 x21 x0 h9 j0_12) fun h13 => S108_29 x0 h13
noncomputable def S108 (ih : Handler) (n : Nat) (x0 : IV) (h1 : Hp) : Option (IV × Hp) :=
  nilS x0 fun x2 => faddrS 0 x2 fun x3 => load1 x3 h1 fun x4 _ => addS EE 3 x4 (.fv (.int .i64 1)) fun x6 => nilS x0 fun x7 => faddrS 0 x7 fun x8 => S108_32 h1 x8 x6 x0
theorem S108_ok (ih : Handler) (n : Nat) (x0 : IV) (h1 : Hp) : funS EE ih ft.get n 108 [x0] h1 = S108 ih n x0 h1 := by kernel_rfl
/-! thyrsus/norm.within -/
noncomputable def S109_29 (x22 : IV) (h2 : Hp) : Option (IV × Hp) :=
  faddrS 2 x22 fun x23 => load1 x23 h2 fun x24 _ => ixS 1 x24 (.fv (.int .i64 0)) fun x26 => load1 x26 h2 fun x27 _ => outS1 [x27] h2
noncomputable def S109_30 (x15 : IV) (h2 : Hp) : Option (IV × Hp) :=
  faddrS 2 x15 fun x16 => load1 x16 h2 fun x17 _ => ixS 1 x17 (.fv (.int .i64 0)) fun x19 => load1 x19 h2 fun x20 _ => nilS x20 fun x22 => S109_29 x22 h2
noncomputable def S109_31 (x10 : IV) (h2 : Hp) (x1 : IV) (x0 : IV) : Option (IV × Hp) :=
  faddrS 0 x10 fun x11 => load1 x11 h2 fun x12 _ => neS EE 3 x12 x1 fun x14 => condS x14 (outS1 [.fv .nilp] h2) (nilS x0 fun x15 => S109_30 x15 h2)
noncomputable def S109 (ih : Handler) (n : Nat) (x0 : IV) (x1 : IV) (h2 : Hp) : Option (IV × Hp) :=
  nilS x0 fun x3 => faddrS 2 x3 fun x4 => load1 x4 h2 fun x5 _ => ixS 1 x5 (.fv (.int .i64 0)) fun x7 => load1 x7 h2 fun x8 _ => nilS x8 fun x10 => S109_31 x10 h2 x1 x0
theorem S109_ok (ih : Handler) (n : Nat) (x0 : IV) (x1 : IV) (h2 : Hp) : funS EE ih ft.get n 109 [x0, x1] h2 = S109 ih n x0 x1 h2 := by kernel_rfl
/-! (thyrsus/term.op).binders -/
noncomputable def S110_18 (x1 : IV) (h7 : Hp) (j0_3 : Hp → Option (IV × Hp)) : Option (IV × Hp) :=
  eqS EE 3 x1 (.fv (.int .i64 0)) fun x10 => condS x10 (outS1 [.fv (.int .i64 1)] h7) (eqS EE 3 x1 (.fv (.int .i64 2)) fun x11 => condS x11 (outS1 [.fv (.int .i64 2)] h7) (j0_3 h7))
noncomputable def S110_19 (x6 : IV) (x1 : IV) (h7 : Hp) (j0_3 : Hp → Option (IV × Hp)) (x0 : IV) : Option (IV × Hp) :=
  condS x6 (eqS EE 3 x1 (.fv (.int .i64 1)) fun x8 => condS x8 (outS1 [.fv (.int .i64 1)] h7) (j0_3 h7)) (eqS EE 3 x0 (.fv (.int .i64 13)) fun x9 => condS x9 (S110_18 x1 h7 j0_3) (j0_3 h7))
noncomputable def S110_20 (x0 : IV) (j1_5 : IV → Hp → Option (IV × Hp)) (h2 : Hp) : Option (IV × Hp) :=
  eqS EE 3 x0 (.fv (.int .i64 29)) fun x17 => j1_5 x17 h2
noncomputable def S110_21 (x0 : IV) (j1_5 : IV → Hp → Option (IV × Hp)) (h2 : Hp) : Option (IV × Hp) :=
  eqS EE 3 x0 (.fv (.int .i64 20)) fun x15 => condS x15 (j1_5 x15 h2) (eqS EE 3 x0 (.fv (.int .i64 28)) fun x16 => condS x16 (j1_5 x16 h2) (S110_20 x0 j1_5 h2))
noncomputable def S110_22 (x13 : IV) (j1_5 : IV → Hp → Option (IV × Hp)) (h2 : Hp) (x0 : IV) : Option (IV × Hp) :=
  condS x13 (j1_5 x13 h2) (eqS EE 3 x0 (.fv (.int .i64 6)) fun x14 => condS x14 (j1_5 x14 h2) (S110_21 x0 j1_5 h2))
noncomputable def S110 (ih : Handler) (n : Nat) (x0 : IV) (x1 : IV) (h2 : Hp) : Option (IV × Hp) :=
  (fun (j0_3 : Hp → Option (IV × Hp)) => (fun (j1_5 : IV → Hp → Option (IV × Hp)) => eqS EE 3 x0 (.fv (.int .i64 3)) fun x12 => condS x12 (j1_5 x12 h2) (eqS EE 3 x0 (.fv (.int .i64 4)) fun x13 => S110_22 x13 j1_5 h2 x0)) fun x6 h7 => S110_19 x6 x1 h7 j0_3 x0) fun h4 => outS1 [.fv (.int .i64 0)] h4
theorem S110_ok (ih : Handler) (n : Nat) (x0 : IV) (x1 : IV) (h2 : Hp) : funS EE ih ft.get n 110 [x0, x1] h2 = S110 ih n x0 x1 h2 := by kernel_rfl
/-! (*thyrsus/norm.env).with -/
noncomputable def S111_27 (x13 : IV) (x7 : IV) (h6 : Hp) (x10 : IV) (h2 : Hp) (x8 : IV) (x9 : IV) (q4 : List IV → Hp → Option (IV × Hp)) : Option (IV × Hp) :=
  bldS [.fv (.nilp), .fv (.nilp)] [(0, 1, x13), (1, 1, x7)] fun x15 => fzS (pcBox true 116396035 x15) 116396035 x15 h6 fun x16 h17 _ _ => addS EE 3 x10 (.fv (.int .i64 1)) fun x20 => dropS (h2.own.map (·.1)) [116396035] [x16, x8, x9, x20] h17 fun h21 => q4 [x16, x8, x9, x20] h21
noncomputable def S111_28 (x11 : IV) (x8 : IV) (x10 : IV) (h6 : Hp) (x7 : IV) (h2 : Hp) (x9 : IV) (q4 : List IV → Hp → Option (IV × Hp)) : Option (IV × Hp) :=
  condS x11 (ixS 1 x8 x10 fun x12 => load1 x12 h6 fun x13 _ => S111_27 x13 x7 h6 x10 h2 x8 x9 q4) (outS1 [x7] h6)
noncomputable def S111_29 (l5 : List IV) (h6 : Hp) (h2 : Hp) (q4 : List IV → Hp → Option (IV × Hp)) : Option (IV × Hp) :=
  uncS l5 fun x7 l22 => uncS l22 fun x8 l23 => uncS l23 fun x9 l24 => uncS l24 fun x10 _ => ltS EE 3 x10 x9 fun x11 => S111_28 x11 x8 x10 h6 x7 h2 x9 q4
noncomputable def S111 (ih : Handler) (n : Nat) (x0 : IV) (x1 : IV) (h2 : Hp) : Option (IV × Hp) :=
  lenS x1 fun x3 => dropS (h2.own.map (·.1)) [116396035] [x0, x1, x3, .fv (.int .i64 0)] h2 fun h26 => loopS n (fun q4 l5 h6 => S111_29 l5 h6 h2 q4) [x0, x1, x3, .fv (.int .i64 0)] h26
theorem S111_ok (ih : Handler) (n : Nat) (x0 : IV) (x1 : IV) (h2 : Hp) : funS EE ih ft.get n 111 [x0, x1] h2 = S111 ih n x0 x1 h2 := by kernel_rfl
end Idl
end Go.Proofs.Ytkfecngimlcfoaa

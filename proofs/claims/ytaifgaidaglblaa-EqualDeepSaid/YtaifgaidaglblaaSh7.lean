/-
  THE SHALLOW FORM OF THE SEAT'S FUNCTIONS, a part; each is what its code's shallow run is. Printed by a program of mine (gen-sh). No statement is proved here.
-/
import Derived.Test.YtaifgaidaglblaaTab
import Derived.Test.YtaifgaidaglblaaIdl31
set_option maxRecDepth 100000
set_option linter.unusedVariables false
namespace Go.Proofs.Ytaifgaidaglblaa
namespace Idl
/-! Function 60. -/
noncomputable def S60_135 (h28 : Hp) (x13 : IV) (x27 : IV) : Option (IV × Hp) :=
  storeA 3 x13 x27 h28 fun h31 _ _ => cellS true 3 x13 h31 fun x34 => outS1 [x34] h31
noncomputable def S60_136 (x40 : IV) (h14 : Hp) (x13 : IV) : Option (IV × Hp) :=
  subS EE 3 x40 (.fv (.int .i64 1)) fun x42 => bldS [.fv (.int .i64 0), .fv (.int .i64 0), .nils] [(0, 1, .fv (.int .i64 1)), (1, 1, x42)] fun x43 => storeA 3 x13 x43 h14 fun h44 _ _ => cellS true 3 x13 h44 fun x47 => outS1 [x47] h44
noncomputable def S60_137 (h50 : Hp) (x13 : IV) : Option (IV × Hp) :=
  cellS true 3 x13 h50 fun x53 => outS1 [x53] h50
noncomputable def S60_138 (x36 : IV) (x1 : IV) (x5 : IV) (h14 : Hp) (x13 : IV) : Option (IV × Hp) :=
  gtS EE 3 x36 x1 fun x38 => condS x38 (faddrS 1 x5 fun x39 => load1 x39 h14 fun x40 _ => S60_136 x40 h14 x13) (loadA 3 x5 h14 fun x48 _ => storeA 3 x13 x48 h14 fun h50 _ _ => S60_137 h50 x13)
noncomputable def S60_139 (x22 : IV) (x1 : IV) (h14 : Hp) (x9 : IV) (ih : Handler) (x2 : IV) (x13 : IV) (x5 : IV) : Option (IV × Hp) :=
  eqS EE 3 x22 x1 fun x24 => condS x24 (loadA 3 x9 h14 fun x25 _ => isoS [] false false ih 25 [x25, x2, .fv (.int .i64 0)] h14 fun x27 h28 _ _ => S60_135 h28 x13 x27) (faddrS 1 x5 fun x35 => load1 x35 h14 fun x36 _ => S60_138 x36 x1 x5 h14 x13)
noncomputable def S60_140 (x76 : IV) (h112 : Hp) (x111 : IV) (x77 : IV) (h4 : Hp) (x71 : IV) (x72 : IV) (x73 : IV) (x74 : IV) (x75 : IV) (q68 : List IV → Hp → Option (IV × Hp)) : Option (IV × Hp) :=
  faddrS 2 x76 fun x115 => store1 x115 x111 h112 fun h116 r117 w118 => chkS [] r117 w118 (addS EE 3 x77 (.fv (.int .i64 1)) fun x119 => dropS (h4.own.map (·.1)) [62926864] [x71, x72, x73, x74, x75, x76, x119] h116 fun h120 => q68 [x71, x72, x73, x74, x75, x76, x119] h120)
noncomputable def S60_141 (r105 : List Ref) (w106 : List Ref) (r92 : List Ref) (h104 : Hp) (x103 : IV) (x91 : IV) (x76 : IV) (x77 : IV) (h4 : Hp) (x71 : IV) (x72 : IV) (x73 : IV) (x74 : IV) (x75 : IV) (q68 : List IV → Hp → Option (IV × Hp)) : Option (IV × Hp) :=
  chkS [(r92, [])] r105 w106 (genS (pcBuildSlice EE 29 1 [(0, x103)]) 62926863 h104 fun x107 h108 r109 w110 => chkS [(r92, [])] r109 w110 (genS (builtinR EE 62926864 false .append [29, 29] [x91, x107]) 62926864 h108 fun x111 h112 r113 w114 => chkS [] r113 w114 (S60_140 x76 h112 x111 x77 h4 x71 x72 x73 x74 x75 q68)))
noncomputable def S60_142 (x71 : IV) (x86 : IV) (x72 : IV) (h87 : Hp) (x74 : IV) (r98 : List Ref) (r95 : List Ref) (r92 : List Ref) (ih : Handler) (x97 : IV) (x91 : IV) (x76 : IV) (x77 : IV) (h4 : Hp) (x73 : IV) (x75 : IV) (q68 : List IV → Hp → Option (IV × Hp)) : Option (IV × Hp) :=
  addS EE 3 x71 x86 fun x99 => addS EE 3 x72 x86 fun x100 => loadA 3 x74 h87 fun x101 r102 => chkS [(r98, []), (r95, []), (r92, [])] r102 [] (isoS [] false false ih 60 [x97, x99, x100, x101] h87 fun x103 h104 r105 w106 => S60_141 r105 w106 r92 h104 x103 x91 x76 x77 h4 x71 x72 x73 x74 x75 q68)
noncomputable def S60_143 (h87 : Hp) (x93 : IV) (r92 : List Ref) (x77 : IV) (x71 : IV) (x86 : IV) (x72 : IV) (x74 : IV) (ih : Handler) (x91 : IV) (x76 : IV) (h4 : Hp) (x73 : IV) (x75 : IV) (q68 : List IV → Hp → Option (IV × Hp)) : Option (IV × Hp) :=
  load1 x93 h87 fun x94 r95 => chkS [(r92, [])] r95 [] (ixS 3 x94 x77 fun x96 => loadA 3 x96 h87 fun x97 r98 => chkS [(r92, [])] r98 [] (S60_142 x71 x86 x72 h87 x74 r98 r95 r92 ih x97 x91 x76 x77 h4 x73 x75 q68))
noncomputable def S60_144 (ih : Handler) (h70 : Hp) (x84 : IV) (x77 : IV) (x76 : IV) (x73 : IV) (x71 : IV) (x72 : IV) (x74 : IV) (h4 : Hp) (x75 : IV) (q68 : List IV → Hp → Option (IV × Hp)) : Option (IV × Hp) :=
  isoS [] false false ih 51 [x84, x77] h70 fun x86 h87 _ _ => faddrS 2 x76 fun x90 => load1 x90 h87 fun x91 r92 => chkS [] r92 [] (faddrS 2 x73 fun x93 => S60_143 h87 x93 r92 x77 x71 x86 x72 x74 ih x91 x76 h4 x73 x75 q68)
noncomputable def S60_145 (h123 : Hp) (x75 : IV) : Option (IV × Hp) :=
  cellS true 3 x75 h123 fun x126 => outS1 [x126] h123
noncomputable def S60_146 (x77 : IV) (x81 : IV) (x73 : IV) (h70 : Hp) (ih : Handler) (x76 : IV) (x71 : IV) (x72 : IV) (x74 : IV) (h4 : Hp) (x75 : IV) (q68 : List IV → Hp → Option (IV × Hp)) : Option (IV × Hp) :=
  ltS EE 3 x77 x81 fun x82 => condS x82 (faddrS 0 x73 fun x83 => load1 x83 h70 fun x84 _ => S60_144 ih h70 x84 x77 x76 x73 x71 x72 x74 h4 x75 q68) (loadA 3 x76 h70 fun x121 _ => storeA 3 x75 x121 h70 fun h123 _ _ => S60_145 h123 x75)
noncomputable def S60_147 (l131 : List IV) (x73 : IV) (h70 : Hp) (ih : Handler) (x71 : IV) (x72 : IV) (x74 : IV) (h4 : Hp) (x75 : IV) (q68 : List IV → Hp → Option (IV × Hp)) : Option (IV × Hp) :=
  uncS l131 fun x76 l132 => uncS l132 fun x77 _ => faddrS 2 x73 fun x78 => load1 x78 h70 fun x79 _ => lenS x79 fun x81 => S60_146 x77 x81 x73 h70 ih x76 x71 x72 x74 h4 x75 q68
noncomputable def S60_148 (l69 : List IV) (h70 : Hp) (ih : Handler) (h4 : Hp) (q68 : List IV → Hp → Option (IV × Hp)) : Option (IV × Hp) :=
  uncS l69 fun x71 l127 => uncS l127 fun x72 l128 => uncS l128 fun x73 l129 => uncS l129 fun x74 l130 => uncS l130 fun x75 l131 => S60_147 l131 x73 h70 ih x71 x72 x74 h4 x75 q68
noncomputable def S60_149 (h4 : Hp) (h65 : Hp) (x1 : IV) (x2 : IV) (x5 : IV) (x9 : IV) (x13 : IV) (x61 : IV) (n : Nat) (ih : Handler) : Option (IV × Hp) :=
  dropS (h4.own.map (·.1)) [62926864] [x1, x2, x5, x9, x13, x61, .fv (.int .i64 0)] h65 fun h134 => loopS n (fun q68 l69 h70 => S60_148 l69 h70 ih h4 q68) [x1, x2, x5, x9, x13, x61, .fv (.int .i64 0)] h134
noncomputable def S60_150 (x5 : IV) (h14 : Hp) (x55 : IV) (h4 : Hp) (x1 : IV) (x2 : IV) (x9 : IV) (x13 : IV) (n : Nat) (ih : Handler) : Option (IV × Hp) :=
  faddrS 1 x5 fun x57 => load1 x57 h14 fun x58 _ => bldS [.fv (.int .i64 0), .fv (.int .i64 0), .nils] [(0, 1, x55), (1, 1, x58)] fun x60 => newS 62921733 (.row [.fv (.int .i64 0), .fv (.int .i64 0), .nils] false) (.ptr (.own 62921733) 0) h14 fun x61 h62 _ _ => storeA 3 x61 x60 h62 fun h65 _ _ => S60_149 h4 h65 x1 x2 x5 x9 x13 x61 n ih
noncomputable def S60_151 (x20 : IV) (x5 : IV) (h14 : Hp) (x1 : IV) (x9 : IV) (ih : Handler) (x2 : IV) (x13 : IV) (h4 : Hp) (n : Nat) : Option (IV × Hp) :=
  condS x20 (faddrS 1 x5 fun x21 => load1 x21 h14 fun x22 _ => S60_139 x22 x1 h14 x9 ih x2 x13 x5) (faddrS 0 x5 fun x54 => load1 x54 h14 fun x55 _ => S60_150 x5 h14 x55 h4 x1 x2 x9 x13 n ih)
noncomputable def S60 (ih : Handler) (n : Nat) (x0 : IV) (x1 : IV) (x2 : IV) (x3 : IV) (h4 : Hp) : Option (IV × Hp) :=
  boxS 62914560 x0 h4 fun x5 h6 _ _ => boxS 62914561 x3 h6 fun x9 h10 _ _ => newS 62914562 (.row [.fv (.int .i64 0), .fv (.int .i64 0), .nils] false) (.ptr (.own 62914562) 0) h10 fun x13 h14 _ _ => faddrS 0 x5 fun x17 => load1 x17 h14 fun x18 _ => eqS EE 3 x18 (.fv (.int .i64 1)) fun x20 => S60_151 x20 x5 h14 x1 x9 ih x2 x13 h4 n
theorem S60_ok (ih : Handler) (n : Nat) (x0 : IV) (x1 : IV) (x2 : IV) (x3 : IV) (h4 : Hp) : funS EE ih ft.get n 60 [x0, x1, x2, x3] h4 = S60 ih n x0 x1 x2 x3 h4 := by kernel_rfl
/-! Function 61. -/
noncomputable def S61_44 (x12 : IV) (h13 : Hp) (x0 : IV) : Option (IV × Hp) :=
  condS x12 (outS1 [.fv (.int .i64 3)] h13) (eqS EE 3 x0 (.fv (.int .i64 13)) fun x14 => condS x14 (outS1 [.fv (.int .i64 4)] h13) (outS1 [.fv (.int .i64 (-1))] h13))
noncomputable def S61_45 (x15 : IV) (j1_11 : IV → Hp → Option (IV × Hp)) (h10 : Hp) (x0 : IV) : Option (IV × Hp) :=
  condS x15 (j1_11 x15 h10) (eqS EE 3 x0 (.fv (.int .i64 27)) fun x16 => j1_11 x16 h10)
noncomputable def S61_46 (x9 : IV) (h10 : Hp) (x0 : IV) : Option (IV × Hp) :=
  condS x9 (outS1 [.fv (.int .i64 2)] h10) ((fun (j1_11 : IV → Hp → Option (IV × Hp)) => eqS EE 3 x0 (.fv (.int .i64 7)) fun x15 => S61_45 x15 j1_11 h10 x0) fun x12 h13 => S61_44 x12 h13 x0)
noncomputable def S61_47 (x0 : IV) (j1_8 : IV → Hp → Option (IV × Hp)) (h7 : Hp) : Option (IV × Hp) :=
  eqS EE 3 x0 (.fv (.int .i64 28)) fun x27 => condS x27 (j1_8 x27 h7) (eqS EE 3 x0 (.fv (.int .i64 29)) fun x28 => j1_8 x28 h7)
noncomputable def S61_48 (x0 : IV) (j1_8 : IV → Hp → Option (IV × Hp)) (h7 : Hp) : Option (IV × Hp) :=
  eqS EE 3 x0 (.fv (.int .i64 22)) fun x25 => condS x25 (j1_8 x25 h7) (eqS EE 3 x0 (.fv (.int .i64 26)) fun x26 => condS x26 (j1_8 x26 h7) (S61_47 x0 j1_8 h7))
noncomputable def S61_49 (x0 : IV) (j1_8 : IV → Hp → Option (IV × Hp)) (h7 : Hp) : Option (IV × Hp) :=
  eqS EE 3 x0 (.fv (.int .i64 20)) fun x23 => condS x23 (j1_8 x23 h7) (eqS EE 3 x0 (.fv (.int .i64 21)) fun x24 => condS x24 (j1_8 x24 h7) (S61_48 x0 j1_8 h7))
noncomputable def S61_50 (x0 : IV) (j1_8 : IV → Hp → Option (IV × Hp)) (h7 : Hp) : Option (IV × Hp) :=
  eqS EE 3 x0 (.fv (.int .i64 16)) fun x21 => condS x21 (j1_8 x21 h7) (eqS EE 3 x0 (.fv (.int .i64 17)) fun x22 => condS x22 (j1_8 x22 h7) (S61_49 x0 j1_8 h7))
noncomputable def S61_51 (x0 : IV) (j1_8 : IV → Hp → Option (IV × Hp)) (h7 : Hp) : Option (IV × Hp) :=
  eqS EE 3 x0 (.fv (.int .i64 5)) fun x19 => condS x19 (j1_8 x19 h7) (eqS EE 3 x0 (.fv (.int .i64 6)) fun x20 => condS x20 (j1_8 x20 h7) (S61_50 x0 j1_8 h7))
noncomputable def S61_52 (x17 : IV) (j1_8 : IV → Hp → Option (IV × Hp)) (h7 : Hp) (x0 : IV) : Option (IV × Hp) :=
  condS x17 (j1_8 x17 h7) (eqS EE 3 x0 (.fv (.int .i64 4)) fun x18 => condS x18 (j1_8 x18 h7) (S61_51 x0 j1_8 h7))
noncomputable def S61_53 (x6 : IV) (h7 : Hp) (x0 : IV) : Option (IV × Hp) :=
  condS x6 (outS1 [.fv (.int .i64 1)] h7) ((fun (j1_8 : IV → Hp → Option (IV × Hp)) => eqS EE 3 x0 (.fv (.int .i64 3)) fun x17 => S61_52 x17 j1_8 h7 x0) fun x9 h10 => S61_46 x9 h10 x0)
noncomputable def S61_54 (x0 : IV) (j1_5 : IV → Hp → Option (IV × Hp)) (h4 : Hp) : Option (IV × Hp) :=
  eqS EE 3 x0 (.fv (.int .i64 24)) fun x35 => condS x35 (j1_5 x35 h4) (eqS EE 3 x0 (.fv (.int .i64 30)) fun x36 => j1_5 x36 h4)
noncomputable def S61_55 (x0 : IV) (j1_5 : IV → Hp → Option (IV × Hp)) (h4 : Hp) : Option (IV × Hp) :=
  eqS EE 3 x0 (.fv (.int .i64 19)) fun x33 => condS x33 (j1_5 x33 h4) (eqS EE 3 x0 (.fv (.int .i64 23)) fun x34 => condS x34 (j1_5 x34 h4) (S61_54 x0 j1_5 h4))
noncomputable def S61_56 (x0 : IV) (j1_5 : IV → Hp → Option (IV × Hp)) (h4 : Hp) : Option (IV × Hp) :=
  eqS EE 3 x0 (.fv (.int .i64 12)) fun x31 => condS x31 (j1_5 x31 h4) (eqS EE 3 x0 (.fv (.int .i64 18)) fun x32 => condS x32 (j1_5 x32 h4) (S61_55 x0 j1_5 h4))
noncomputable def S61_57 (x29 : IV) (j1_5 : IV → Hp → Option (IV × Hp)) (h4 : Hp) (x0 : IV) : Option (IV × Hp) :=
  condS x29 (j1_5 x29 h4) (eqS EE 3 x0 (.fv (.int .i64 9)) fun x30 => condS x30 (j1_5 x30 h4) (S61_56 x0 j1_5 h4))
noncomputable def S61_58 (x3 : IV) (h4 : Hp) (x0 : IV) : Option (IV × Hp) :=
  condS x3 (outS1 [.fv (.int .i64 0)] h4) ((fun (j1_5 : IV → Hp → Option (IV × Hp)) => eqS EE 3 x0 (.fv (.int .i64 8)) fun x29 => S61_57 x29 j1_5 h4 x0) fun x6 h7 => S61_53 x6 h7 x0)
noncomputable def S61_59 (x0 : IV) (j1_2 : IV → Hp → Option (IV × Hp)) (h1 : Hp) : Option (IV × Hp) :=
  eqS EE 3 x0 (.fv (.int .i64 25)) fun x43 => j1_2 x43 h1
noncomputable def S61_60 (x0 : IV) (j1_2 : IV → Hp → Option (IV × Hp)) (h1 : Hp) : Option (IV × Hp) :=
  eqS EE 3 x0 (.fv (.int .i64 14)) fun x41 => condS x41 (j1_2 x41 h1) (eqS EE 3 x0 (.fv (.int .i64 15)) fun x42 => condS x42 (j1_2 x42 h1) (S61_59 x0 j1_2 h1))
noncomputable def S61_61 (x0 : IV) (j1_2 : IV → Hp → Option (IV × Hp)) (h1 : Hp) : Option (IV × Hp) :=
  eqS EE 3 x0 (.fv (.int .i64 10)) fun x39 => condS x39 (j1_2 x39 h1) (eqS EE 3 x0 (.fv (.int .i64 11)) fun x40 => condS x40 (j1_2 x40 h1) (S61_60 x0 j1_2 h1))
noncomputable def S61 (ih : Handler) (n : Nat) (x0 : IV) (h1 : Hp) : Option (IV × Hp) :=
  (fun (j1_2 : IV → Hp → Option (IV × Hp)) => eqS EE 3 x0 (.fv (.int .i64 1)) fun x37 => condS x37 (j1_2 x37 h1) (eqS EE 3 x0 (.fv (.int .i64 2)) fun x38 => condS x38 (j1_2 x38 h1) (S61_61 x0 j1_2 h1))) fun x3 h4 => S61_58 x3 h4 x0
theorem S61_ok (ih : Handler) (n : Nat) (x0 : IV) (h1 : Hp) : funS EE ih ft.get n 61 [x0] h1 = S61 ih n x0 h1 := by kernel_rfl
/-! Function 62. -/
noncomputable def S62_47 (h7 : Hp) (x4 : IV) (x6 : IV) : Option (IV × Hp) :=
  guardS x4 true h7 (fun k10 => leS EE 3 x6 (.fv (.int .i64 3000)) fun x11 => k10 x11 h7 [] []) fun x12 h13 _ _ => pickS x4 x12 (.fv (.bool false)) fun x16 => outS1 [x16] h13
noncomputable def S62_48 (x1 : IV) (h2 : Hp) : Option (IV × Hp) :=
  geS EE 3 x1 (.fv (.int .i64 0)) fun x18 => guardS x18 true h2 (fun k19 => k19 x1 h2 [] []) fun x20 h21 _ _ => guardS x18 true h21 (fun k24 => leS EE 3 x20 (.fv (.int .i64 2)) fun x25 => k24 x25 h21 [] []) fun x26 h27 _ _ => pickS x18 x26 (.fv (.bool false)) fun x30 => outS1 [x30] h27
noncomputable def S62_49 (h35 : Hp) (x32 : IV) (x34 : IV) : Option (IV × Hp) :=
  guardS x32 true h35 (fun k38 => leS EE 3 x34 (.fv (.int .i64 4)) fun x39 => k38 x39 h35 [] []) fun x40 h41 _ _ => pickS x32 x40 (.fv (.bool false)) fun x44 => outS1 [x44] h41
noncomputable def S62_50 (x1 : IV) (h2 : Hp) : Option (IV × Hp) :=
  eqS EE 3 x1 (.fv (.int .i64 0)) fun x46 => outS1 [x46] h2
noncomputable def S62_51 (x0 : IV) (x1 : IV) (h2 : Hp) : Option (IV × Hp) :=
  eqS EE 3 x0 (.fv (.int .i64 26)) fun x31 => condS x31 (geS EE 3 x1 (.fv (.int .i64 0)) fun x32 => guardS x32 true h2 (fun k33 => k33 x1 h2 [] []) fun x34 h35 _ _ => S62_49 h35 x32 x34) (eqS EE 3 x0 (.fv (.int .i64 25)) fun x45 => condS x45 (outS1 [.fv (.bool true)] h2) (S62_50 x1 h2))
noncomputable def S62 (ih : Handler) (n : Nat) (x0 : IV) (x1 : IV) (h2 : Hp) : Option (IV × Hp) :=
  eqS EE 3 x0 (.fv (.int .i64 1)) fun x3 => condS x3 (geS EE 3 x1 (.fv (.int .i64 0)) fun x4 => guardS x4 true h2 (fun k5 => k5 x1 h2 [] []) fun x6 h7 _ _ => S62_47 h7 x4 x6) (eqS EE 3 x0 (.fv (.int .i64 2)) fun x17 => condS x17 (S62_48 x1 h2) (S62_51 x0 x1 h2))
theorem S62_ok (ih : Handler) (n : Nat) (x0 : IV) (x1 : IV) (h2 : Hp) : funS EE ih ft.get n 62 [x0, x1] h2 = S62 ih n x0 x1 h2 := by kernel_rfl
/-! Function 63. -/
noncomputable def S63_129 (h1 : Hp) (h119 : Hp) (x102 : IV) (x103 : IV) (x123 : IV) (q99 : List IV → Hp → Option (IV × Hp)) : Option (IV × Hp) :=
  dropS (h1.own.map (·.1)) [66066434] [x102, x103, x123] h119 fun h124 => q99 [x102, x103, x123] h124
noncomputable def S63_130 (ih : Handler) (h113 : Hp) (x116 : IV) (x104 : IV) (h1 : Hp) (x102 : IV) (x103 : IV) (q99 : List IV → Hp → Option (IV × Hp)) : Option (IV × Hp) :=
  isoS [] false false ih 63 [x116] h113 fun x118 h119 _ _ => optS (unR .not x118) fun x122 => condS x122 (outS1 [.fv (.bool false)] h119) (addS EE 3 x104 (.fv (.int .i64 1)) fun x123 => S63_129 h1 h119 x102 x103 x123 q99)
noncomputable def S63_131 (x102 : IV) (x104 : IV) (h101 : Hp) (ih : Handler) (h1 : Hp) (x103 : IV) (q99 : List IV → Hp → Option (IV × Hp)) : Option (IV × Hp) :=
  ixS 3 x102 x104 fun x106 => loadA 3 x106 h101 fun x107 _ => newS 66066434 (.row [.fv (.int .i64 0), .fv (.int .i64 0), .nils] false) (.ptr (.own 66066434) 0) h101 fun x109 h110 _ _ => storeA 3 x109 x107 h110 fun h113 _ _ => loadA 3 x109 h113 fun x116 _ => S63_130 ih h113 x116 x104 h1 x102 x103 q99
noncomputable def S63_132 (l100 : List IV) (h101 : Hp) (ih : Handler) (h1 : Hp) (q99 : List IV → Hp → Option (IV × Hp)) : Option (IV × Hp) :=
  uncS l100 fun x102 l125 => uncS l125 fun x103 l126 => uncS l126 fun x104 _ => ltS EE 3 x104 x103 fun x105 => condS x105 (S63_131 x102 x104 h101 ih h1 x103 q99) (outS1 [.fv (.bool true)] h101)
noncomputable def S63_133 (x2 : IV) (h91 : Hp) (h1 : Hp) (n : Nat) (ih : Handler) : Option (IV × Hp) :=
  faddrS 2 x2 fun x95 => load1 x95 h91 fun x96 _ => lenS x96 fun x98 => dropS (h1.own.map (·.1)) [66066434] [x96, x98, .fv (.int .i64 0)] h91 fun h128 => loopS n (fun q99 l100 h101 => S63_132 l100 h101 ih h1 q99) [x96, x98, .fv (.int .i64 0)] h128
noncomputable def S63_134 (h72 : Hp) (x65 : IV) (x71 : IV) (x44 : IV) (x2 : IV) (h1 : Hp) (n : Nat) (ih : Handler) : Option (IV × Hp) :=
  guardS x65 true h72 (fun k75 => load1 x71 h72 fun x76 r77 => k75 x76 h72 r77 []) fun x78 h79 _ _ => guardS x65 true h79 (fun k82 => ltS EE 3 x78 (.fv (.int .i64 0)) fun x83 => k82 x83 h79 [] []) fun x84 h85 _ _ => guardS x44 false h85 (fun k88 => pickS x65 x84 (.fv (.bool false)) fun x89 => k88 x89 h85 [] []) fun x90 h91 _ _ => pickS x44 (.fv (.bool true)) x90 fun x94 => condS x94 (outS1 [.fv (.bool false)] h91) (S63_133 x2 h91 h1 n ih)
noncomputable def S63_135 (h41 : Hp) (x44 : IV) (x2 : IV) (h1 : Hp) (n : Nat) (ih : Handler) : Option (IV × Hp) :=
  guardS x44 false h41 (fun k45 => faddrS 0 x2 fun x46 => k45 x46 h41 [] []) fun x47 h48 _ _ => guardS x44 false h48 (fun k51 => load1 x47 h48 fun x52 r53 => k51 x52 h48 r53 []) fun x54 h55 _ _ => guardS x44 false h55 (fun k58 => eqS EE 3 x54 (.fv (.int .i64 1)) fun x59 => k58 x59 h55 [] []) fun x60 h61 _ _ => guardS x44 false h61 (fun k64 => k64 x60 h61 [] []) fun x65 h66 _ _ => guardS x65 true h66 (fun k69 => faddrS 1 x2 fun x70 => k69 x70 h66 [] []) fun x71 h72 _ _ => S63_134 h72 x65 x71 x44 x2 h1 n ih
noncomputable def S63_136 (h16 : Hp) (x13 : IV) (x2 : IV) (x15 : IV) (h1 : Hp) (n : Nat) (ih : Handler) : Option (IV × Hp) :=
  guardS x13 true h16 (fun k19 => faddrS 2 x2 fun x20 => k19 x20 h16 [] []) fun x21 h22 _ _ => guardS x13 true h22 (fun k25 => load1 x21 h22 fun x26 r27 => k25 x26 h22 r27 []) fun x28 h29 _ _ => guardS x13 true h29 (fun k32 => lenS x28 fun x33 => k32 x33 h29 [] []) fun x34 h35 _ _ => guardS x13 true h35 (fun k38 => neS EE 3 x15 x34 fun x39 => k38 x39 h35 [] []) fun x40 h41 _ _ => pickS x13 x40 (.fv (.bool false)) fun x44 => S63_135 h41 x44 x2 h1 n ih
noncomputable def S63 (ih : Handler) (n : Nat) (x0 : IV) (h1 : Hp) : Option (IV × Hp) :=
  boxS 66060288 x0 h1 fun x2 h3 _ _ => faddrS 0 x2 fun x6 => load1 x6 h3 fun x7 _ => isoS [] false false ih 71 [x7] h3 fun x9 h10 _ _ => geS EE 3 x9 (.fv (.int .i64 0)) fun x13 => guardS x13 true h10 (fun k14 => k14 x9 h10 [] []) fun x15 h16 _ _ => S63_136 h16 x13 x2 x15 h1 n ih
theorem S63_ok (ih : Handler) (n : Nat) (x0 : IV) (h1 : Hp) : funS EE ih ft.get n 63 [x0] h1 = S63 ih n x0 h1 := by kernel_rfl
/-! Function 64. -/
noncomputable def S64_69 (x2 : IV) (h61 : Hp) (x6 : IV) : Option (IV × Hp) :=
  nilS x2 fun x64 => faddrS 4 x64 fun x65 => store1 x65 x6 h61 fun h66 _ _ => outS1 [x2] h66
noncomputable def S64_70 (x46 : IV) (h47 : Hp) (x6 : IV) (x2 : IV) : Option (IV × Hp) :=
  bldS [.fv (.nilf)] [(0, 1, x46)] fun x50 => genS (pcInsert EE 100 x6 (.fv (.int .i64 30)) x50) 67110933 h47 fun _ h52 _ _ => genS (val (mkFunc (.func 76) [x2] [])) 67110935 h52 fun x55 h56 _ _ => bldS [.fv (.nilf)] [(0, 1, x55)] fun x59 => genS (pcInsert EE 100 x6 (.fv (.int .i64 19)) x59) 67110937 h56 fun _ h61 _ _ => S64_69 x2 h61 x6
noncomputable def S64_71 (h29 : Hp) (x6 : IV) (x32 : IV) (x2 : IV) : Option (IV × Hp) :=
  genS (pcInsert EE 100 x6 (.fv (.int .i64 9)) x32) 67110925 h29 fun _ h34 _ _ => genS (val (mkFunc (.func 74) [x2] [])) 67110927 h34 fun x37 h38 _ _ => bldS [.fv (.nilf)] [(0, 1, x37)] fun x41 => genS (pcInsert EE 100 x6 (.fv (.int .i64 13)) x41) 67110929 h38 fun _ h43 _ _ => genS (val (mkFunc (.func 75) [x2] [])) 67110931 h43 fun x46 h47 _ _ => S64_70 x46 h47 x6 x2
noncomputable def S64_72 (h16 : Hp) (x2 : IV) (x6 : IV) : Option (IV × Hp) :=
  genS (val (mkFunc (.func 73) [x2] [])) 67110919 h16 fun x19 h20 _ _ => bldS [.fv (.nilf)] [(0, 1, x19)] fun x23 => genS (pcInsert EE 100 x6 (.fv (.int .i64 8)) x23) 67110921 h20 fun _ h25 _ _ => genS (val (mkFunc (.func 73) [x2] [])) 67110923 h25 fun x28 h29 _ _ => bldS [.fv (.nilf)] [(0, 1, x28)] fun x32 => S64_71 h29 x6 x32 x2
noncomputable def S64 (ih : Handler) (n : Nat) (h0 : Hp) : Option (IV × Hp) :=
  bldS [.fv (.int .i64 0), .fv (.int .i64 0), .fv (.int .i64 0), .fv (.int .i64 0), .dead] [(0, 1, .fv (.int .i64 100000)), (1, 1, .fv (.int .i64 5000000))] fun x1 => boxS 67109889 x1 h0 fun x2 h3 _ _ => genS (pcMakeMap 67110913) 67110913 h3 fun x6 h7 _ _ => genS (val (mkFunc (.func 72) [x2] [])) 67110915 h7 fun x10 h11 _ _ => bldS [.fv (.nilf)] [(0, 1, x10)] fun x14 => genS (pcInsert EE 100 x6 (.fv (.int .i64 5)) x14) 67110917 h11 fun _ h16 _ _ => S64_72 h16 x2 x6
theorem S64_ok (ih : Handler) (n : Nat) (h0 : Hp) : funS EE ih ft.get n 64 [] h0 = S64 ih n h0 := by kernel_rfl
/-! Function 65. -/
noncomputable def S65_117 (x4 : IV) (h9 : Hp) (ih : Handler) (x1 : IV) : Option (IV × Hp) :=
  faddrS 1 x4 fun x16 => load1 x16 h9 fun x17 _ => isoS [] false false ih 78 [x1, x17] h9 fun x19 h20 _ _ => outS1 [x19] h20
noncomputable def S65_118 (x62 : IV) (h3 : Hp) (h65 : Hp) (x56 : IV) (x57 : IV) (x58 : IV) (x59 : IV) (x60 : IV) (x61 : IV) (q53 : List IV → Hp → Option (IV × Hp)) : Option (IV × Hp) :=
  addS EE 3 x62 (.fv (.int .i64 1)) fun x66 => dropS (h3.own.map (·.1)) [68166659] [x56, x57, x58, x59, x60, x61, x66] h65 fun h67 => q53 [x56, x57, x58, x59, x60, x61, x66] h67
noncomputable def S65_119 (ih : Handler) (h82 : Hp) (x56 : IV) (x57 : IV) (x90 : IV) (r89 : List Ref) (x88 : IV) (x62 : IV) (j0_64 : Hp → Option (IV × Hp)) : Option (IV × Hp) :=
  isoS [true, false, false] false false ih 65 [x56, x57, x90] h82 fun x92 h93 r94 w95 => chkS [(r89, [])] r94 w95 (ixS 1 x88 x62 fun x96 => store1 x96 x92 h93 fun h97 r98 w99 => chkS [] r98 w99 (j0_64 h97))
noncomputable def S65_120 (x86 : IV) (h82 : Hp) (x71 : IV) (ih : Handler) (x56 : IV) (x57 : IV) (x62 : IV) (j0_64 : Hp → Option (IV × Hp)) : Option (IV × Hp) :=
  faddrS 2 x86 fun x87 => load1 x87 h82 fun x88 r89 => chkS [] r89 [] (loadA 3 x71 h82 fun x90 r91 => chkS [(r89, [])] r91 [] (S65_119 ih h82 x56 x57 x90 r89 x88 x62 j0_64))
noncomputable def S65_121 (h75 : Hp) (x78 : IV) (ih : Handler) (x62 : IV) (x59 : IV) (x71 : IV) (x56 : IV) (x57 : IV) (j0_64 : Hp → Option (IV × Hp)) : Option (IV × Hp) :=
  load1 x78 h75 fun x79 _ => isoS [] false false ih 79 [x79, x62] h75 fun x81 h82 _ _ => eqS EE 3 x81 (.fv (.int .i64 0)) fun x85 => condS x85 (nilS x59 fun x86 => S65_120 x86 h82 x71 ih x56 x57 x62 j0_64) (j0_64 h82)
noncomputable def S65_122 (x60 : IV) (x62 : IV) (h55 : Hp) (x58 : IV) (ih : Handler) (x59 : IV) (x56 : IV) (x57 : IV) (j0_64 : Hp → Option (IV × Hp)) : Option (IV × Hp) :=
  ixS 3 x60 x62 fun x68 => loadA 3 x68 h55 fun x69 _ => newS 68166659 (.row [.fv (.int .i64 0), .fv (.int .i64 0), .nils] false) (.ptr (.own 68166659) 0) h55 fun x71 h72 _ _ => storeA 3 x71 x69 h72 fun h75 _ _ => faddrS 0 x58 fun x78 => S65_121 h75 x78 ih x62 x59 x71 x56 x57 j0_64
noncomputable def S65_123 (x100 : IV) (h55 : Hp) (x59 : IV) (ih : Handler) (x56 : IV) : Option (IV × Hp) :=
  faddrS 3 x100 fun x101 => load1 x101 h55 fun x102 _ => neS EE 37 x102 (.fv (.int .i64 0)) fun x104 => condS x104 (outS1 [x59] h55) (isoS [true, false] false false ih 80 [x56, x59] h55 fun x105 h106 _ _ => outS1 [x105] h106)
noncomputable def S65_124 (l113 : List IV) (h3 : Hp) (x56 : IV) (x57 : IV) (x58 : IV) (x59 : IV) (x60 : IV) (q53 : List IV → Hp → Option (IV × Hp)) (h55 : Hp) (ih : Handler) : Option (IV × Hp) :=
  uncS l113 fun x61 l114 => uncS l114 fun x62 _ => ltS EE 3 x62 x61 fun x63 => condS x63 ((fun (j0_64 : Hp → Option (IV × Hp)) => S65_122 x60 x62 h55 x58 ih x59 x56 x57 j0_64) fun h65 => S65_118 x62 h3 h65 x56 x57 x58 x59 x60 x61 q53) (nilS x56 fun x100 => S65_123 x100 h55 x59 ih x56)
noncomputable def S65_125 (l54 : List IV) (h3 : Hp) (q53 : List IV → Hp → Option (IV × Hp)) (h55 : Hp) (ih : Handler) : Option (IV × Hp) :=
  uncS l54 fun x56 l109 => uncS l109 fun x57 l110 => uncS l110 fun x58 l111 => uncS l111 fun x59 l112 => uncS l112 fun x60 l113 => S65_124 l113 h3 x56 x57 x58 x59 x60 q53 h55 ih
noncomputable def S65_126 (x50 : IV) (h3 : Hp) (h41 : Hp) (x0 : IV) (x1 : IV) (x4 : IV) (x40 : IV) (n : Nat) (ih : Handler) : Option (IV × Hp) :=
  lenS x50 fun x52 => dropS (h3.own.map (·.1)) [68166659] [x0, x1, x4, x40, x50, x52, .fv (.int .i64 0)] h41 fun h116 => loopS n (fun q53 l54 h55 => S65_125 l54 h3 q53 h55 ih) [x0, x1, x4, x40, x50, x52, .fv (.int .i64 0)] h116
noncomputable def S65_127 (x46 : IV) (h41 : Hp) (x40 : IV) (x4 : IV) (h3 : Hp) (x0 : IV) (x1 : IV) (n : Nat) (ih : Handler) : Option (IV × Hp) :=
  neS EE 37 x46 (.fv (.int .i64 0)) fun x48 => condS x48 (outS1 [x40] h41) (faddrS 2 x4 fun x49 => load1 x49 h41 fun x50 _ => S65_126 x50 h3 h41 x0 x1 x4 x40 n ih)
noncomputable def S65_128 (h34 : Hp) (x39 : IV) (x0 : IV) (x4 : IV) (h3 : Hp) (x1 : IV) (n : Nat) (ih : Handler) : Option (IV × Hp) :=
  boxS 68161547 x39 h34 fun x40 h41 r42 w43 => chkS [] r42 w43 (nilS x0 fun x44 => faddrS 3 x44 fun x45 => load1 x45 h41 fun x46 _ => S65_127 x46 h41 x40 x4 h3 x0 x1 n ih)
noncomputable def S65_129 (h9 : Hp) (x32 : IV) (r28 : List Ref) (r25 : List Ref) (x4 : IV) (r31 : List Ref) (x24 : IV) (x27 : IV) (x1 : IV) (x0 : IV) (h3 : Hp) (n : Nat) (ih : Handler) : Option (IV × Hp) :=
  genS (pcMakeSlice EE 68161543 110 x32 x32) 68161543 h9 fun x33 h34 r35 w36 => chkS [(r28, []), (r25, [])] r35 w36 (loadA 3 x4 h34 fun x37 r38 => chkS [(r35, w36), (r31, []), (r28, []), (r25, [])] r38 [] (bldS [.fv (.int .i64 0), .fv (.int .i64 0), .nils, .fv (.int .i64 0), .fv (.int .i64 0), .nils, .fv (.nilp)] [(0, 1, x24), (1, 1, x27), (2, 1, x33), (3, 3, x37), (6, 1, x1)] fun x39 => S65_128 h34 x39 x0 x4 h3 x1 n ih))
noncomputable def S65_130 (r28 : List Ref) (r25 : List Ref) (x4 : IV) (h9 : Hp) (x24 : IV) (x27 : IV) (x1 : IV) (x0 : IV) (h3 : Hp) (n : Nat) (ih : Handler) : Option (IV × Hp) :=
  chkS [(r25, [])] r28 [] (faddrS 2 x4 fun x29 => load1 x29 h9 fun x30 r31 => chkS [(r28, []), (r25, [])] r31 [] (lenS x30 fun x32 => S65_129 h9 x32 r28 r25 x4 r31 x24 x27 x1 x0 h3 n ih))
noncomputable def S65_131 (x4 : IV) (h9 : Hp) (x1 : IV) (x0 : IV) (h3 : Hp) (n : Nat) (ih : Handler) : Option (IV × Hp) :=
  faddrS 0 x4 fun x23 => load1 x23 h9 fun x24 r25 => chkS [] r25 [] (faddrS 1 x4 fun x26 => load1 x26 h9 fun x27 r28 => S65_130 r28 r25 x4 h9 x24 x27 x1 x0 h3 n ih)
noncomputable def S65 (ih : Handler) (n : Nat) (x0 : IV) (x1 : IV) (x2 : IV) (h3 : Hp) : Option (IV × Hp) :=
  boxS 68157440 x2 h3 fun x4 h5 _ _ => isoS [true] false false ih 77 [x0] h5 fun _ h9 _ _ => faddrS 0 x4 fun x12 => load1 x12 h9 fun x13 _ => eqS EE 3 x13 (.fv (.int .i64 1)) fun x15 => condS x15 (S65_117 x4 h9 ih x1) (S65_131 x4 h9 x1 x0 h3 n ih)
theorem S65_ok (ih : Handler) (n : Nat) (x0 : IV) (x1 : IV) (x2 : IV) (h3 : Hp) : funS EE ih ft.get n 65 [x0, x1, x2] h3 = S65 ih n x0 x1 x2 h3 := by kernel_rfl
/-! Function 66. -/
noncomputable def S66_261 (h21 : Hp) (x5 : IV) : Option (IV × Hp) :=
  cellS true 3 x5 h21 fun x24 => outS1 [x24] h21
noncomputable def S66_262 (h12 : Hp) (x5 : IV) (x36 : IV) : Option (IV × Hp) :=
  storeA 3 x5 x36 h12 fun h37 _ _ => cellS true 3 x5 h37 fun x40 => outS1 [x40] h37
noncomputable def S66_263 (x1 : IV) (h12 : Hp) (x30 : IV) (x5 : IV) : Option (IV × Hp) :=
  nilS x1 fun x31 => faddrS 1 x31 fun x32 => load1 x32 h12 fun x33 _ => subS EE 3 x30 x33 fun x35 => bldS [.fv (.int .i64 0), .fv (.int .i64 0), .nils] [(0, 1, .fv (.int .i64 1)), (1, 1, x35)] fun x36 => S66_262 h12 x5 x36
noncomputable def S66_264 (h90 : Hp) (x83 : IV) : Option (IV × Hp) :=
  bldS [.fv (.int .i64 0), .fv (.int .i64 0), .nils] [] fun x96 => storeA 3 x83 x96 h90 fun h97 _ _ => cellS true 3 x83 h97 fun x100 => outS1 [x100] h97
noncomputable def S66_265 (x89 : IV) (h4 : Hp) (h108 : Hp) (x79 : IV) (x80 : IV) (x81 : IV) (x82 : IV) (x83 : IV) (x84 : IV) (x88 : IV) (q51 : List IV → Hp → Option (IV × Hp)) : Option (IV × Hp) :=
  addS EE 3 x89 (.fv (.int .i64 1)) fun x111 => dropS (h4.own.map (·.1)) [69221377, 69225478] [x79, x80, x81, x82, x83, x84, x88, x111] h108 fun h112 => q51 [x79, x80, x81, x82, x83, x84, x88, x111] h112
noncomputable def S66_266 (x81 : IV) (x87 : IV) (x82 : IV) (ih : Handler) (h90 : Hp) (x79 : IV) (x86 : IV) (x84 : IV) (x85 : IV) (x89 : IV) (h4 : Hp) (x80 : IV) (x83 : IV) (x88 : IV) (q51 : List IV → Hp → Option (IV × Hp)) : Option (IV × Hp) :=
  addS EE 3 x81 x87 fun x101 => addS EE 3 x82 (.fv (.int .i64 1)) fun x102 => isoS [true, false, false, false] false false ih 66 [x79, x86, x101, x102] h90 fun x103 h104 _ _ => ixS 3 x84 x85 fun x107 => storeA 3 x107 x103 h104 fun h108 _ _ => S66_265 x89 h4 h108 x79 x80 x81 x82 x83 x84 x88 q51
noncomputable def S66_267 (x79 : IV) (h90 : Hp) (x83 : IV) (x81 : IV) (x87 : IV) (x82 : IV) (ih : Handler) (x86 : IV) (x84 : IV) (x85 : IV) (x89 : IV) (h4 : Hp) (x80 : IV) (x88 : IV) (q51 : List IV → Hp → Option (IV × Hp)) : Option (IV × Hp) :=
  nilS x79 fun x91 => faddrS 3 x91 fun x92 => load1 x92 h90 fun x93 _ => neS EE 37 x93 (.fv (.int .i64 0)) fun x95 => condS x95 (S66_264 h90 x83) (S66_266 x81 x87 x82 ih h90 x79 x86 x84 x85 x89 h4 x80 x83 x88 q51)
noncomputable def S66_268 (x134 : IV) (h4 : Hp) (h143 : Hp) (x122 : IV) (x123 : IV) (x124 : IV) (x125 : IV) (x126 : IV) (x127 : IV) (x128 : IV) (x129 : IV) (x130 : IV) (x131 : IV) (x132 : IV) (x133 : IV) (q119 : List IV → Hp → Option (IV × Hp)) : Option (IV × Hp) :=
  addS EE 3 x134 (.fv (.int .i64 1)) fun x146 => dropS (h4.own.map (·.1)) [69225478] [x122, x123, x124, x125, x126, x127, x128, x129, x130, x131, x132, x133, x146] h143 fun h147 => q119 [x122, x123, x124, x125, x126, x127, x128, x129, x130, x131, x132, x133, x146] h147
noncomputable def S66_269 (x124 : IV) (x134 : IV) (h121 : Hp) (x130 : IV) (h4 : Hp) (x122 : IV) (x123 : IV) (x125 : IV) (x126 : IV) (x127 : IV) (x128 : IV) (x129 : IV) (x131 : IV) (x132 : IV) (x133 : IV) (q119 : List IV → Hp → Option (IV × Hp)) : Option (IV × Hp) :=
  addS EE 3 x124 x134 fun x136 => bldS [.fv (.int .i64 0), .fv (.int .i64 0), .nils, .fv (.int .i64 0), .fv (.int .i64 0), .nils, .fv (.nilp)] [(0, 1, .fv (.int .i64 1)), (1, 1, x136)] fun x137 => fzS (pcBox true 69225478 x137) 69225478 x137 h121 fun x138 h139 _ _ => ixS 1 x130 x134 fun x142 => store1 x142 x138 h139 fun h143 _ _ => S66_268 x134 h4 h143 x122 x123 x124 x125 x126 x127 x128 x129 x130 x131 x132 x133 q119
noncomputable def S66_270 (ih : Handler) (h121 : Hp) (x122 : IV) (x123 : IV) (x128 : IV) (x130 : IV) (j11_78 : IV → IV → IV → IV → IV → IV → IV → IV → IV → IV → IV → Hp → Option (IV × Hp)) (x124 : IV) (x125 : IV) (x126 : IV) (x127 : IV) (x129 : IV) (x131 : IV) (x132 : IV) : Option (IV × Hp) :=
  isoS [true, false, false, false] false false ih 81 [x122, x123, x128, x130] h121 fun x148 h149 _ _ => j11_78 x122 x123 x124 x125 x126 x127 x128 x148 x129 x131 x132 h149
noncomputable def S66_271 (l161 : List IV) (x124 : IV) (h121 : Hp) (x130 : IV) (h4 : Hp) (x122 : IV) (x123 : IV) (x125 : IV) (x126 : IV) (x127 : IV) (x128 : IV) (x129 : IV) (x131 : IV) (q119 : List IV → Hp → Option (IV × Hp)) (ih : Handler) (j11_78 : IV → IV → IV → IV → IV → IV → IV → IV → IV → IV → IV → Hp → Option (IV × Hp)) : Option (IV × Hp) :=
  uncS l161 fun x132 l162 => uncS l162 fun x133 l163 => uncS l163 fun x134 _ => ltS EE 3 x134 x133 fun x135 => condS x135 (S66_269 x124 x134 h121 x130 h4 x122 x123 x125 x126 x127 x128 x129 x131 x132 x133 q119) (S66_270 ih h121 x122 x123 x128 x130 j11_78 x124 x125 x126 x127 x129 x131 x132)
noncomputable def S66_272 (l156 : List IV) (x124 : IV) (h121 : Hp) (h4 : Hp) (x122 : IV) (x123 : IV) (x125 : IV) (x126 : IV) (q119 : List IV → Hp → Option (IV × Hp)) (ih : Handler) (j11_78 : IV → IV → IV → IV → IV → IV → IV → IV → IV → IV → IV → Hp → Option (IV × Hp)) : Option (IV × Hp) :=
  uncS l156 fun x127 l157 => uncS l157 fun x128 l158 => uncS l158 fun x129 l159 => uncS l159 fun x130 l160 => uncS l160 fun x131 l161 => S66_271 l161 x124 h121 x130 h4 x122 x123 x125 x126 x127 x128 x129 x131 q119 ih j11_78
noncomputable def S66_273 (l120 : List IV) (h121 : Hp) (h4 : Hp) (q119 : List IV → Hp → Option (IV × Hp)) (ih : Handler) (j11_78 : IV → IV → IV → IV → IV → IV → IV → IV → IV → IV → IV → Hp → Option (IV × Hp)) : Option (IV × Hp) :=
  uncS l120 fun x122 l152 => uncS l152 fun x123 l153 => uncS l153 fun x124 l154 => uncS l154 fun x125 l155 => uncS l155 fun x126 l156 => S66_272 l156 x124 h121 h4 x122 x123 x125 x126 q119 ih j11_78
noncomputable def S66_274 (h4 : Hp) (h115 : Hp) (x54 : IV) (x55 : IV) (x56 : IV) (x57 : IV) (x58 : IV) (x59 : IV) (x61 : IV) (x74 : IV) (x114 : IV) (x60 : IV) (x118 : IV) (n : Nat) (ih : Handler) (j11_78 : IV → IV → IV → IV → IV → IV → IV → IV → IV → IV → IV → Hp → Option (IV × Hp)) : Option (IV × Hp) :=
  dropS (h4.own.map (·.1)) [69225478] [x54, x55, x56, x57, x58, x59, x61, x74, x114, x60, x61, x118, .fv (.int .i64 0)] h115 fun h165 => loopS n (fun q119 l120 h121 => S66_273 l120 h121 h4 q119 ih j11_78) [x54, x55, x56, x57, x58, x59, x61, x74, x114, x60, x61, x118, .fv (.int .i64 0)] h165
noncomputable def S66_275 (x113 : IV) (h75 : Hp) (x74 : IV) (h4 : Hp) (x54 : IV) (x55 : IV) (x56 : IV) (x57 : IV) (x58 : IV) (x59 : IV) (x61 : IV) (x60 : IV) (n : Nat) (ih : Handler) (j11_78 : IV → IV → IV → IV → IV → IV → IV → IV → IV → IV → IV → Hp → Option (IV × Hp)) (x68 : IV) : Option (IV × Hp) :=
  condS x113 (genS (pcMakeSlice EE 69221377 110 x74 x74) 69221377 h75 fun x114 h115 _ _ => lenS x114 fun x118 => S66_274 h4 h115 x54 x55 x56 x57 x58 x59 x61 x74 x114 x60 x118 n ih j11_78) (j11_78 x54 x55 x56 x57 x58 x59 x61 x68 x74 x60 x61 h75)
noncomputable def S66_276 (r73 : List Ref) (r69 : List Ref) (r66 : List Ref) (ih : Handler) (h53 : Hp) (x72 : IV) (x61 : IV) (h4 : Hp) (q51 : List IV → Hp → Option (IV × Hp)) (x54 : IV) (x55 : IV) (x56 : IV) (x57 : IV) (x58 : IV) (x59 : IV) (x60 : IV) (n : Nat) (x68 : IV) : Option (IV × Hp) :=
  chkS [(r69, []), (r66, [])] r73 [] (isoS [] false false ih 79 [x72, x61] h53 fun x74 h75 r76 w77 => chkS [(r69, []), (r66, [])] r76 w77 ((fun (j11_78 : IV → IV → IV → IV → IV → IV → IV → IV → IV → IV → IV → Hp → Option (IV × Hp)) => gtS EE 3 x74 (.fv (.int .i64 0)) fun x113 => S66_275 x113 h75 x74 h4 x54 x55 x56 x57 x58 x59 x61 x60 n ih j11_78 x68) fun x79 x80 x81 x82 x83 x84 x85 x86 x87 x88 x89 h90 => S66_267 x79 h90 x83 x81 x87 x82 ih x86 x84 x85 x89 h4 x80 x88 q51))
noncomputable def S66_277 (h53 : Hp) (x67 : IV) (x55 : IV) (r66 : List Ref) (ih : Handler) (x61 : IV) (h4 : Hp) (q51 : List IV → Hp → Option (IV × Hp)) (x54 : IV) (x56 : IV) (x57 : IV) (x58 : IV) (x59 : IV) (x60 : IV) (n : Nat) : Option (IV × Hp) :=
  load1 x67 h53 fun x68 r69 => chkS [] r69 [] (nilS x55 fun x70 => faddrS 0 x70 fun x71 => load1 x71 h53 fun x72 r73 => S66_276 r73 r69 r66 ih h53 x72 x61 h4 q51 x54 x55 x56 x57 x58 x59 x60 n x68)
noncomputable def S66_278 (x55 : IV) (h53 : Hp) (x61 : IV) (ih : Handler) (h4 : Hp) (q51 : List IV → Hp → Option (IV × Hp)) (x54 : IV) (x56 : IV) (x57 : IV) (x58 : IV) (x59 : IV) (x60 : IV) (n : Nat) : Option (IV × Hp) :=
  nilS x55 fun x63 => faddrS 2 x63 fun x64 => load1 x64 h53 fun x65 r66 => chkS [] r66 [] (ixS 1 x65 x61 fun x67 => S66_277 h53 x67 x55 r66 ih x61 h4 q51 x54 x56 x57 x58 x59 x60 n)
noncomputable def S66_279 (r176 : List Ref) (w177 : List Ref) (h175 : Hp) (x58 : IV) : Option (IV × Hp) :=
  chkS [] r176 w177 (cellS true 3 x58 h175 fun x178 => outS1 [x178] h175)
noncomputable def S66_280 (x170 : IV) (h53 : Hp) (r169 : List Ref) (x168 : IV) (x59 : IV) (x58 : IV) : Option (IV × Hp) :=
  faddrS 1 x170 fun x171 => load1 x171 h53 fun x172 r173 => chkS [(r169, [])] r173 [] (bldS [.fv (.int .i64 0), .fv (.int .i64 0), .nils] [(0, 1, x168), (1, 1, x172), (2, 1, x59)] fun x174 => storeA 3 x58 x174 h53 fun h175 r176 w177 => S66_279 r176 w177 h175 x58)
noncomputable def S66_281 (x55 : IV) (h53 : Hp) (x59 : IV) (x58 : IV) : Option (IV × Hp) :=
  nilS x55 fun x166 => faddrS 0 x166 fun x167 => load1 x167 h53 fun x168 r169 => chkS [] r169 [] (nilS x55 fun x170 => S66_280 x170 h53 r169 x168 x59 x58)
noncomputable def S66_282 (l183 : List IV) (x55 : IV) (h53 : Hp) (ih : Handler) (h4 : Hp) (q51 : List IV → Hp → Option (IV × Hp)) (x54 : IV) (x56 : IV) (x57 : IV) (x58 : IV) (n : Nat) : Option (IV × Hp) :=
  uncS l183 fun x59 l184 => uncS l184 fun x60 l185 => uncS l185 fun x61 _ => ltS EE 3 x61 x60 fun x62 => condS x62 (S66_278 x55 h53 x61 ih h4 q51 x54 x56 x57 x58 x59 x60 n) (S66_281 x55 h53 x59 x58)
noncomputable def S66_283 (l52 : List IV) (h53 : Hp) (ih : Handler) (h4 : Hp) (q51 : List IV → Hp → Option (IV × Hp)) (n : Nat) : Option (IV × Hp) :=
  uncS l52 fun x54 l179 => uncS l179 fun x55 l180 => uncS l180 fun x56 l181 => uncS l181 fun x57 l182 => uncS l182 fun x58 l183 => S66_282 l183 x55 h53 ih h4 q51 x54 x56 x57 x58 n
noncomputable def S66_284 (h4 : Hp) (h47 : Hp) (x0 : IV) (x1 : IV) (x2 : IV) (x3 : IV) (x5 : IV) (x46 : IV) (x50 : IV) (n : Nat) (ih : Handler) : Option (IV × Hp) :=
  dropS (h4.own.map (·.1)) [69221377, 69225478] [x0, x1, x2, x3, x5, x46, x50, .fv (.int .i64 0)] h47 fun h187 => loopS n (fun q51 l52 h53 => S66_283 l52 h53 ih h4 q51 n) [x0, x1, x2, x3, x5, x46, x50, .fv (.int .i64 0)] h187
noncomputable def S66_285 (x41 : IV) (h12 : Hp) (h4 : Hp) (x0 : IV) (x1 : IV) (x2 : IV) (x3 : IV) (x5 : IV) (n : Nat) (ih : Handler) : Option (IV × Hp) :=
  faddrS 2 x41 fun x42 => load1 x42 h12 fun x43 _ => lenS x43 fun x45 => genS (pcMakeSlice EE 69215237 29 x45 x45) 69215237 h12 fun x46 h47 _ _ => lenS x46 fun x50 => S66_284 h4 h47 x0 x1 x2 x3 x5 x46 x50 n ih
noncomputable def S66_286 (h12 : Hp) (x26 : IV) (x2 : IV) (x1 : IV) (x5 : IV) (h4 : Hp) (x0 : IV) (x3 : IV) (n : Nat) (ih : Handler) : Option (IV × Hp) :=
  load1 x26 h12 fun x27 _ => eqS EE 3 x27 (.fv (.int .i64 1)) fun x29 => condS x29 (subS EE 3 x2 (.fv (.int .i64 1)) fun x30 => S66_263 x1 h12 x30 x5) (nilS x1 fun x41 => S66_285 x41 h12 h4 x0 x1 x2 x3 x5 n ih)
noncomputable def S66_287 (x19 : IV) (h12 : Hp) (x5 : IV) (x1 : IV) (x2 : IV) (h4 : Hp) (x0 : IV) (x3 : IV) (n : Nat) (ih : Handler) : Option (IV × Hp) :=
  condS x19 (bldS [.fv (.int .i64 0), .fv (.int .i64 0), .nils] [] fun x20 => storeA 3 x5 x20 h12 fun h21 _ _ => S66_261 h21 x5) (nilS x1 fun x25 => faddrS 0 x25 fun x26 => S66_286 h12 x26 x2 x1 x5 h4 x0 x3 n ih)
noncomputable def S66_288 (ih : Handler) (h10 : Hp) (x0 : IV) (x5 : IV) (x1 : IV) (x2 : IV) (h4 : Hp) (x3 : IV) (n : Nat) : Option (IV × Hp) :=
  isoS [true] false false ih 77 [x0] h10 fun _ h12 _ _ => nilS x0 fun x15 => faddrS 3 x15 fun x16 => load1 x16 h12 fun x17 _ => neS EE 37 x17 (.fv (.int .i64 0)) fun x19 => S66_287 x19 h12 x5 x1 x2 h4 x0 x3 n ih
noncomputable def S66_289 (x256 : IV) (h252 : Hp) (j0_9 : Hp → Option (IV × Hp)) : Option (IV × Hp) :=
  faddrS 3 x256 fun x257 => store1 x257 (.fv (.int .i64 5)) h252 fun h258 _ _ => j0_9 h258
noncomputable def S66_290 (h246 : Hp) (x202 : IV) (x234 : IV) (x245 : IV) (x0 : IV) (j0_9 : Hp → Option (IV × Hp)) : Option (IV × Hp) :=
  guardS x202 true h246 (fun k249 => pickS x234 (.fv (.bool true)) x245 fun x250 => k249 x250 h246 [] []) fun x251 h252 _ _ => pickS x202 x251 (.fv (.bool false)) fun x255 => condS x255 (nilS x0 fun x256 => S66_289 x256 h252 j0_9) (j0_9 h252)
noncomputable def S66_291 (h217 : Hp) (x202 : IV) (x216 : IV) (x3 : IV) (x0 : IV) (j0_9 : Hp → Option (IV × Hp)) : Option (IV × Hp) :=
  guardS x202 true h217 (fun k220 => load1 x216 h217 fun x221 r222 => k220 x221 h217 r222 []) fun x223 h224 _ _ => guardS x202 true h224 (fun k227 => gtS EE 3 x223 (.fv (.int .i64 3000)) fun x228 => k227 x228 h224 [] []) fun x229 h230 _ _ => guardS x202 true h230 (fun k233 => k233 x229 h230 [] []) fun x234 h235 _ _ => guardS x234 false h235 (fun k238 => k238 x3 h235 [] []) fun x239 h240 _ _ => guardS x234 false h240 (fun k243 => gtS EE 3 x239 (.fv (.int .i64 120)) fun x244 => k243 x244 h240 [] []) fun x245 h246 _ _ => S66_290 h246 x202 x234 x245 x0 j0_9
noncomputable def S66_292 (h195 : Hp) (x199 : IV) (x0 : IV) (x3 : IV) (j0_9 : Hp → Option (IV × Hp)) : Option (IV × Hp) :=
  load1 x199 h195 fun x200 _ => eqS EE 37 x200 (.fv (.int .i64 0)) fun x202 => guardS x202 true h195 (fun k203 => k203 x0 h195 [] []) fun x204 h205 _ _ => guardS x202 true h205 (fun k208 => nilS x204 fun x209 => k208 x209 h205 [] []) fun x210 h211 _ _ => guardS x202 true h211 (fun k214 => faddrS 2 x210 fun x215 => k214 x215 h211 [] []) fun x216 h217 _ _ => S66_291 h217 x202 x216 x3 x0 j0_9
noncomputable def S66_293 (x0 : IV) (h6 : Hp) (x192 : IV) (x3 : IV) (j0_9 : Hp → Option (IV × Hp)) : Option (IV × Hp) :=
  nilS x0 fun x193 => faddrS 2 x193 fun x194 => store1 x194 x192 h6 fun h195 _ _ => nilS x0 fun x198 => faddrS 3 x198 fun x199 => S66_292 h195 x199 x0 x3 j0_9
noncomputable def S66 (ih : Handler) (n : Nat) (x0 : IV) (x1 : IV) (x2 : IV) (x3 : IV) (h4 : Hp) : Option (IV × Hp) :=
  newS 69206016 (.row [.fv (.int .i64 0), .fv (.int .i64 0), .nils] false) (.ptr (.own 69206016) 0) h4 fun x5 h6 _ _ => (fun (j0_9 : Hp → Option (IV × Hp)) => nilS x0 fun x188 => faddrS 2 x188 fun x189 => load1 x189 h6 fun x190 _ => addS EE 3 x190 (.fv (.int .i64 1)) fun x192 => S66_293 x0 h6 x192 x3 j0_9) fun h10 => S66_288 ih h10 x0 x5 x1 x2 h4 x3 n
theorem S66_ok (ih : Handler) (n : Nat) (x0 : IV) (x1 : IV) (x2 : IV) (x3 : IV) (h4 : Hp) : funS EE ih ft.get n 66 [x0, x1, x2, x3] h4 = S66 ih n x0 x1 x2 x3 h4 := by kernel_rfl
/-! Function 67. -/
noncomputable def S67_72 (x27 : IV) (x30 : IV) (h45 : Hp) (x44 : IV) (h1 : Hp) (x25 : IV) (x26 : IV) (x28 : IV) (x29 : IV) (q22 : List IV → Hp → Option (IV × Hp)) : Option (IV × Hp) :=
  ixS 3 x27 x30 fun x48 => storeA 3 x48 x44 h45 fun h49 _ _ => addS EE 3 x30 (.fv (.int .i64 1)) fun x52 => dropS (h1.own.map (·.1)) [70258691] [x25, x26, x27, x28, x29, x52] h49 fun h53 => q22 [x25, x26, x27, x28, x29, x52] h53
noncomputable def S67_73 (h24 : Hp) (x32 : IV) (ih : Handler) (x27 : IV) (x30 : IV) (h1 : Hp) (x25 : IV) (x26 : IV) (x28 : IV) (x29 : IV) (q22 : List IV → Hp → Option (IV × Hp)) : Option (IV × Hp) :=
  loadA 3 x32 h24 fun x33 _ => newS 70258691 (.row [.fv (.int .i64 0), .fv (.int .i64 0), .nils] false) (.ptr (.own 70258691) 0) h24 fun x35 h36 _ _ => storeA 3 x35 x33 h36 fun h39 _ _ => loadA 3 x35 h39 fun x42 _ => isoS [] false false ih 67 [x42] h39 fun x44 h45 _ _ => S67_72 x27 x30 h45 x44 h1 x25 x26 x28 x29 q22
noncomputable def S67_74 (h61 : Hp) (x26 : IV) : Option (IV × Hp) :=
  cellS true 3 x26 h61 fun x64 => outS1 [x64] h61
noncomputable def S67_75 (h24 : Hp) (x54 : IV) (x25 : IV) (x27 : IV) (x26 : IV) : Option (IV × Hp) :=
  load1 x54 h24 fun x55 _ => faddrS 1 x25 fun x57 => load1 x57 h24 fun x58 _ => bldS [.fv (.int .i64 0), .fv (.int .i64 0), .nils] [(0, 1, x55), (1, 1, x58), (2, 1, x27)] fun x60 => storeA 3 x26 x60 h24 fun h61 _ _ => S67_74 h61 x26
noncomputable def S67_76 (l69 : List IV) (x29 : IV) (x28 : IV) (h24 : Hp) (ih : Handler) (x27 : IV) (h1 : Hp) (x25 : IV) (x26 : IV) (q22 : List IV → Hp → Option (IV × Hp)) : Option (IV × Hp) :=
  uncS l69 fun x30 _ => ltS EE 3 x30 x29 fun x31 => condS x31 (ixS 3 x28 x30 fun x32 => S67_73 h24 x32 ih x27 x30 h1 x25 x26 x28 x29 q22) (faddrS 0 x25 fun x54 => S67_75 h24 x54 x25 x27 x26)
noncomputable def S67_77 (l23 : List IV) (h24 : Hp) (ih : Handler) (h1 : Hp) (q22 : List IV → Hp → Option (IV × Hp)) : Option (IV × Hp) :=
  uncS l23 fun x25 l65 => uncS l65 fun x26 l66 => uncS l66 fun x27 l67 => uncS l67 fun x28 l68 => uncS l68 fun x29 l69 => S67_76 l69 x29 x28 h24 ih x27 h1 x25 x26 q22
noncomputable def S67_78 (x2 : IV) (h15 : Hp) (h1 : Hp) (x6 : IV) (x14 : IV) (n : Nat) (ih : Handler) : Option (IV × Hp) :=
  faddrS 2 x2 fun x18 => load1 x18 h15 fun x19 _ => lenS x19 fun x21 => dropS (h1.own.map (·.1)) [70258691] [x2, x6, x14, x19, x21, .fv (.int .i64 0)] h15 fun h71 => loopS n (fun q22 l23 h24 => S67_77 l23 h24 ih h1 q22) [x2, x6, x14, x19, x21, .fv (.int .i64 0)] h71
noncomputable def S67 (ih : Handler) (n : Nat) (x0 : IV) (h1 : Hp) : Option (IV × Hp) :=
  boxS 70254592 x0 h1 fun x2 h3 _ _ => newS 70254593 (.row [.fv (.int .i64 0), .fv (.int .i64 0), .nils] false) (.ptr (.own 70254593) 0) h3 fun x6 h7 _ _ => faddrS 2 x2 fun x10 => load1 x10 h7 fun x11 _ => lenS x11 fun x13 => genS (pcMakeSlice EE 70255619 29 x13 x13) 70255619 h7 fun x14 h15 _ _ => S67_78 x2 h15 h1 x6 x14 n ih
theorem S67_ok (ih : Handler) (n : Nat) (x0 : IV) (h1 : Hp) : funS EE ih ft.get n 67 [x0] h1 = S67 ih n x0 h1 := by kernel_rfl
/-! Function 68. -/
noncomputable def S68_125 (x57 : IV) (x44 : IV) (h62 : Hp) (x61 : IV) (h1 : Hp) (x39 : IV) (x40 : IV) (x41 : IV) (x42 : IV) (x43 : IV) (q36 : List IV → Hp → Option (IV × Hp)) : Option (IV × Hp) :=
  ixS 3 x57 x44 fun x65 => storeA 3 x65 x61 h62 fun h66 r67 w68 => chkS [] r67 w68 (addS EE 3 x44 (.fv (.int .i64 1)) fun x69 => dropS (h1.own.map (·.1)) [71307267] [x39, x40, x41, x42, x43, x69] h66 fun h70 => q36 [x39, x40, x41, x42, x43, x69] h70)
noncomputable def S68_126 (r58 : List Ref) (h53 : Hp) (x49 : IV) (ih : Handler) (x57 : IV) (x44 : IV) (h1 : Hp) (x39 : IV) (x40 : IV) (x41 : IV) (x42 : IV) (x43 : IV) (q36 : List IV → Hp → Option (IV × Hp)) : Option (IV × Hp) :=
  chkS [] r58 [] (loadA 3 x49 h53 fun x59 r60 => chkS [(r58, [])] r60 [] (isoS [] false false ih 68 [x59] h53 fun x61 h62 r63 w64 => chkS [(r58, [])] r63 w64 (S68_125 x57 x44 h62 x61 h1 x39 x40 x41 x42 x43 q36)))
noncomputable def S68_127 (h38 : Hp) (x46 : IV) (x41 : IV) (ih : Handler) (x44 : IV) (h1 : Hp) (x39 : IV) (x40 : IV) (x42 : IV) (x43 : IV) (q36 : List IV → Hp → Option (IV × Hp)) : Option (IV × Hp) :=
  loadA 3 x46 h38 fun x47 _ => newS 71307267 (.row [.fv (.int .i64 0), .fv (.int .i64 0), .nils] false) (.ptr (.own 71307267) 0) h38 fun x49 h50 _ _ => storeA 3 x49 x47 h50 fun h53 _ _ => faddrS 2 x41 fun x56 => load1 x56 h53 fun x57 r58 => S68_126 r58 h53 x49 ih x57 x44 h1 x39 x40 x41 x42 x43 q36
noncomputable def S68_128 (ih : Handler) (h80 : Hp) (x83 : IV) (x40 : IV) : Option (IV × Hp) :=
  isoS [] false false ih 82 [x83] h80 fun x85 h86 _ _ => storeA 3 x40 x85 h86 fun h89 _ _ => cellS true 3 x40 h89 fun x92 => outS1 [x92] h89
noncomputable def S68_129 (h38 : Hp) (x75 : IV) (x41 : IV) (ih : Handler) (x40 : IV) : Option (IV × Hp) :=
  load1 x75 h38 fun x76 _ => bldS [.fv (.int .i64 0), .fv (.int .i64 0), .nils] [(0, 1, .fv (.int .i64 11))] fun x78 => ixS 3 x76 (.fv (.int .i64 0)) fun x79 => storeA 3 x79 x78 h38 fun h80 _ _ => loadA 3 x41 h80 fun x83 _ => S68_128 ih h80 x83 x40
noncomputable def S68_130 (h105 : Hp) (x40 : IV) (x104 : IV) : Option (IV × Hp) :=
  storeA 3 x40 x104 h105 fun h108 _ _ => cellS true 3 x40 h108 fun x111 => outS1 [x111] h108
noncomputable def S68_131 (x95 : IV) (h38 : Hp) (x41 : IV) (ih : Handler) (x40 : IV) : Option (IV × Hp) :=
  bldS [.fv (.int .i64 0), .fv (.int .i64 0), .nils] [(0, 1, .fv (.int .i64 11))] fun x97 => ixS 3 x95 (.fv (.int .i64 0)) fun x98 => storeA 3 x98 x97 h38 fun h99 _ _ => loadA 3 x41 h99 fun x102 _ => isoS [] false false ih 83 [x102] h99 fun x104 h105 _ _ => S68_130 h105 x40 x104
noncomputable def S68_132 (h114 : Hp) (x40 : IV) : Option (IV × Hp) :=
  cellS true 3 x40 h114 fun x117 => outS1 [x117] h114
noncomputable def S68_133 (x93 : IV) (x41 : IV) (h38 : Hp) (ih : Handler) (x40 : IV) : Option (IV × Hp) :=
  condS x93 (faddrS 2 x41 fun x94 => load1 x94 h38 fun x95 _ => S68_131 x95 h38 x41 ih x40) (loadA 3 x41 h38 fun x112 _ => storeA 3 x40 x112 h38 fun h114 _ _ => S68_132 h114 x40)
noncomputable def S68_134 (h38 : Hp) (x71 : IV) (x41 : IV) (ih : Handler) (x40 : IV) : Option (IV × Hp) :=
  load1 x71 h38 fun x72 _ => eqS EE 3 x72 (.fv (.int .i64 4)) fun x74 => condS x74 (faddrS 2 x41 fun x75 => S68_129 h38 x75 x41 ih x40) (eqS EE 3 x72 (.fv (.int .i64 7)) fun x93 => S68_133 x93 x41 h38 ih x40)
noncomputable def S68_135 (l122 : List IV) (x43 : IV) (x42 : IV) (h38 : Hp) (x41 : IV) (ih : Handler) (h1 : Hp) (x39 : IV) (x40 : IV) (q36 : List IV → Hp → Option (IV × Hp)) : Option (IV × Hp) :=
  uncS l122 fun x44 _ => ltS EE 3 x44 x43 fun x45 => condS x45 (ixS 3 x42 x44 fun x46 => S68_127 h38 x46 x41 ih x44 h1 x39 x40 x42 x43 q36) (faddrS 0 x39 fun x71 => S68_134 h38 x71 x41 ih x40)
noncomputable def S68_136 (l37 : List IV) (h38 : Hp) (ih : Handler) (h1 : Hp) (q36 : List IV → Hp → Option (IV × Hp)) : Option (IV × Hp) :=
  uncS l37 fun x39 l118 => uncS l118 fun x40 l119 => uncS l119 fun x41 l120 => uncS l120 fun x42 l121 => uncS l121 fun x43 l122 => S68_135 l122 x43 x42 h38 x41 ih h1 x39 x40 q36
noncomputable def S68_137 (x33 : IV) (h1 : Hp) (h29 : Hp) (x2 : IV) (x6 : IV) (x25 : IV) (n : Nat) (ih : Handler) : Option (IV × Hp) :=
  lenS x33 fun x35 => dropS (h1.own.map (·.1)) [71307267] [x2, x6, x25, x33, x35, .fv (.int .i64 0)] h29 fun h124 => loopS n (fun q36 l37 h38 => S68_136 l37 h38 ih h1 q36) [x2, x6, x25, x33, x35, .fv (.int .i64 0)] h124
noncomputable def S68_138 (r27 : List Ref) (w28 : List Ref) (r22 : List Ref) (w23 : List Ref) (r18 : List Ref) (r15 : List Ref) (r12 : List Ref) (h26 : Hp) (x25 : IV) (x24 : IV) (x2 : IV) (h1 : Hp) (x6 : IV) (n : Nat) (ih : Handler) : Option (IV × Hp) :=
  chkS [(r22, w23), (r18, []), (r15, []), (r12, [])] r27 w28 (storeA 3 x25 x24 h26 fun h29 r30 w31 => chkS [] r30 w31 (faddrS 2 x2 fun x32 => load1 x32 h29 fun x33 _ => S68_137 x33 h1 h29 x2 x6 x25 n ih))
noncomputable def S68_139 (x17 : IV) (h7 : Hp) (r15 : List Ref) (r12 : List Ref) (x11 : IV) (x14 : IV) (r18 : List Ref) (x2 : IV) (h1 : Hp) (x6 : IV) (n : Nat) (ih : Handler) : Option (IV × Hp) :=
  lenS x17 fun x19 => genS (pcMakeSlice EE 71304199 29 x19 x19) 71304199 h7 fun x20 h21 r22 w23 => chkS [(r15, []), (r12, [])] r22 w23 (bldS [.fv (.int .i64 0), .fv (.int .i64 0), .nils] [(0, 1, x11), (1, 1, x14), (2, 1, x20)] fun x24 => newS 71304201 (.row [.fv (.int .i64 0), .fv (.int .i64 0), .nils] false) (.ptr (.own 71304201) 0) h21 fun x25 h26 r27 w28 => S68_138 r27 w28 r22 w23 r18 r15 r12 h26 x25 x24 x2 h1 x6 n ih)
noncomputable def S68_140 (h7 : Hp) (x13 : IV) (r12 : List Ref) (x2 : IV) (x11 : IV) (h1 : Hp) (x6 : IV) (n : Nat) (ih : Handler) : Option (IV × Hp) :=
  load1 x13 h7 fun x14 r15 => chkS [(r12, [])] r15 [] (faddrS 2 x2 fun x16 => load1 x16 h7 fun x17 r18 => chkS [(r15, []), (r12, [])] r18 [] (S68_139 x17 h7 r15 r12 x11 x14 r18 x2 h1 x6 n ih))
noncomputable def S68 (ih : Handler) (n : Nat) (x0 : IV) (h1 : Hp) : Option (IV × Hp) :=
  boxS 71303168 x0 h1 fun x2 h3 _ _ => newS 71303169 (.row [.fv (.int .i64 0), .fv (.int .i64 0), .nils] false) (.ptr (.own 71303169) 0) h3 fun x6 h7 _ _ => faddrS 0 x2 fun x10 => load1 x10 h7 fun x11 r12 => chkS [] r12 [] (faddrS 1 x2 fun x13 => S68_140 h7 x13 r12 x2 x11 h1 x6 n ih)
theorem S68_ok (ih : Handler) (n : Nat) (x0 : IV) (h1 : Hp) : funS EE ih ft.get n 68 [x0] h1 = S68 ih n x0 h1 := by kernel_rfl
/-! Function 69. -/
noncomputable def S69_54 (x45 : IV) (h42 : Hp) (x15 : IV) (h3 : Hp) (x11 : IV) (x12 : IV) (x13 : IV) (x14 : IV) (q8 : List IV → Hp → Option (IV × Hp)) : Option (IV × Hp) :=
  condS x45 (outS1 [.fv (.bool false)] h42) (addS EE 3 x15 (.fv (.int .i64 1)) fun x46 => dropS (h3.own.map (·.1)) [72356867, 72357892] [x11, x12, x13, x14, x46] h42 fun h47 => q8 [x11, x12, x13, x14, x46] h47)
noncomputable def S69_55 (h31 : Hp) (x30 : IV) (x28 : IV) (x20 : IV) (ih : Handler) (x12 : IV) (x15 : IV) (h3 : Hp) (x11 : IV) (x13 : IV) (x14 : IV) (q8 : List IV → Hp → Option (IV × Hp)) : Option (IV × Hp) :=
  storeA 3 x30 x28 h31 fun h34 _ _ => loadA 3 x20 h34 fun x37 _ => loadA 3 x30 h34 fun x39 _ => dynS EE ih x12 [x37, x39] h34 fun x41 h42 _ _ => optS (unR .not x41) fun x45 => S69_54 x45 h42 x15 h3 x11 x12 x13 x14 q8
noncomputable def S69_56 (h10 : Hp) (x18 : IV) (x11 : IV) (x15 : IV) (ih : Handler) (x12 : IV) (h3 : Hp) (x13 : IV) (x14 : IV) (q8 : List IV → Hp → Option (IV × Hp)) : Option (IV × Hp) :=
  newS 72356867 (.row [.fv (.int .i64 0), .fv (.int .i64 0), .nils] false) (.ptr (.own 72356867) 0) h10 fun x20 h21 _ _ => storeA 3 x20 x18 h21 fun h24 _ _ => ixS 3 x11 x15 fun x27 => loadA 3 x27 h24 fun x28 _ => newS 72357892 (.row [.fv (.int .i64 0), .fv (.int .i64 0), .nils] false) (.ptr (.own 72357892) 0) h24 fun x30 h31 _ _ => S69_55 h31 x30 x28 x20 ih x12 x15 h3 x11 x13 x14 q8
noncomputable def S69_57 (x15 : IV) (x14 : IV) (x13 : IV) (h10 : Hp) (x11 : IV) (ih : Handler) (x12 : IV) (h3 : Hp) (q8 : List IV → Hp → Option (IV × Hp)) : Option (IV × Hp) :=
  ltS EE 3 x15 x14 fun x16 => condS x16 (ixS 3 x13 x15 fun x17 => loadA 3 x17 h10 fun x18 _ => S69_56 h10 x18 x11 x15 ih x12 h3 x13 x14 q8) (outS1 [.fv (.bool true)] h10)
noncomputable def S69_58 (l9 : List IV) (h10 : Hp) (ih : Handler) (h3 : Hp) (q8 : List IV → Hp → Option (IV × Hp)) : Option (IV × Hp) :=
  uncS l9 fun x11 l48 => uncS l48 fun x12 l49 => uncS l49 fun x13 l50 => uncS l50 fun x14 l51 => uncS l51 fun x15 _ => S69_57 x15 x14 x13 h10 x11 ih x12 h3 q8
noncomputable def S69_59 (h3 : Hp) (x1 : IV) (x2 : IV) (x0 : IV) (x7 : IV) (n : Nat) (ih : Handler) : Option (IV × Hp) :=
  dropS (h3.own.map (·.1)) [72356867, 72357892] [x1, x2, x0, x7, .fv (.int .i64 0)] h3 fun h53 => loopS n (fun q8 l9 h10 => S69_58 l9 h10 ih h3 q8) [x1, x2, x0, x7, .fv (.int .i64 0)] h53
noncomputable def S69 (ih : Handler) (n : Nat) (x0 : IV) (x1 : IV) (x2 : IV) (h3 : Hp) : Option (IV × Hp) :=
  lenS x0 fun x4 => lenS x1 fun x5 => neS EE 3 x4 x5 fun x6 => condS x6 (outS1 [.fv (.bool false)] h3) (lenS x0 fun x7 => S69_59 h3 x1 x2 x0 x7 n ih)
theorem S69_ok (ih : Handler) (n : Nat) (x0 : IV) (x1 : IV) (x2 : IV) (h3 : Hp) : funS EE ih ft.get n 69 [x0, x1, x2] h3 = S69 ih n x0 x1 x2 h3 := by kernel_rfl
/-! Function 70. -/
noncomputable def S70_29 (x0 : IV) (h13 : Hp) : Option (IV × Hp) :=
  nilS x0 fun x14 => faddrS 2 x14 fun x15 => load1 x15 h13 fun x16 _ => eqS EE 3 x16 (.fv (.int .i64 0)) fun x18 => outS1 [x18] h13
noncomputable def S70_30 (h9 : Hp) (x25 : IV) (j0_12 : Hp → Option (IV × Hp)) : Option (IV × Hp) :=
  store1 x25 (.fv (.int .i64 17)) h9 fun h26 _ _ => j0_12 h26
noncomputable def S70_31 (x21 : IV) (x0 : IV) (h9 : Hp) (j0_12 : Hp → Option (IV × Hp)) : Option (IV × Hp) :=
  gtS EE 3 x21 (.fv (.int .i64 1000)) fun x23 => condS x23 (nilS x0 fun x24 => faddrS 2 x24 fun x25 => S70_30 h9 x25 j0_12) (j0_12 h9)
noncomputable def S70_32 (h1 : Hp) (x8 : IV) (x6 : IV) (x0 : IV) : Option (IV × Hp) :=
  store1 x8 x6 h1 fun h9 _ _ => (fun (j0_12 : Hp → Option (IV × Hp)) => nilS x0 fun x19 => faddrS 0 x19 fun x20 => load1 x20 h9 fun x21 _ => S70_31 x21 x0 h9 j0_12) fun h13 => S70_29 x0 h13
noncomputable def S70 (ih : Handler) (n : Nat) (x0 : IV) (h1 : Hp) : Option (IV × Hp) :=
  nilS x0 fun x2 => faddrS 0 x2 fun x3 => load1 x3 h1 fun x4 _ => addS EE 3 x4 (.fv (.int .i64 1)) fun x6 => nilS x0 fun x7 => faddrS 0 x7 fun x8 => S70_32 h1 x8 x6 x0
theorem S70_ok (ih : Handler) (n : Nat) (x0 : IV) (h1 : Hp) : funS EE ih ft.get n 70 [x0] h1 = S70 ih n x0 h1 := by kernel_rfl
/-! Function 71. -/
noncomputable def S71_17 (x0 : IV) (h7 : Hp) : Option (IV × Hp) :=
  eqS EE 3 x0 (.fv (.int .i64 13)) fun x9 => condS x9 (outS1 [.fv (.int .i64 4)] h7) (outS1 [.fv (.int .i64 (-1))] h7)
noncomputable def S71_18 (x6 : IV) (h7 : Hp) (x0 : IV) : Option (IV × Hp) :=
  condS x6 (outS1 [.fv (.int .i64 2)] h7) (eqS EE 3 x0 (.fv (.int .i64 7)) fun x8 => condS x8 (outS1 [.fv (.int .i64 3)] h7) (S71_17 x0 h7))
noncomputable def S71_19 (x10 : IV) (j1_5 : IV → Hp → Option (IV × Hp)) (h4 : Hp) (x0 : IV) : Option (IV × Hp) :=
  condS x10 (j1_5 x10 h4) (eqS EE 3 x0 (.fv (.int .i64 5)) fun x11 => j1_5 x11 h4)
noncomputable def S71_20 (x3 : IV) (h4 : Hp) (x0 : IV) : Option (IV × Hp) :=
  condS x3 (outS1 [.fv (.int .i64 1)] h4) ((fun (j1_5 : IV → Hp → Option (IV × Hp)) => eqS EE 3 x0 (.fv (.int .i64 4)) fun x10 => S71_19 x10 j1_5 h4 x0) fun x6 h7 => S71_18 x6 h7 x0)
noncomputable def S71_21 (x0 : IV) (j1_2 : IV → Hp → Option (IV × Hp)) (h1 : Hp) : Option (IV × Hp) :=
  eqS EE 3 x0 (.fv (.int .i64 30)) fun x16 => j1_2 x16 h1
noncomputable def S71_22 (x0 : IV) (j1_2 : IV → Hp → Option (IV × Hp)) (h1 : Hp) : Option (IV × Hp) :=
  eqS EE 3 x0 (.fv (.int .i64 12)) fun x14 => condS x14 (j1_2 x14 h1) (eqS EE 3 x0 (.fv (.int .i64 19)) fun x15 => condS x15 (j1_2 x15 h1) (S71_21 x0 j1_2 h1))
noncomputable def S71 (ih : Handler) (n : Nat) (x0 : IV) (h1 : Hp) : Option (IV × Hp) :=
  (fun (j1_2 : IV → Hp → Option (IV × Hp)) => eqS EE 3 x0 (.fv (.int .i64 8)) fun x12 => condS x12 (j1_2 x12 h1) (eqS EE 3 x0 (.fv (.int .i64 9)) fun x13 => condS x13 (j1_2 x13 h1) (S71_22 x0 j1_2 h1))) fun x3 h4 => S71_20 x3 h4 x0
theorem S71_ok (ih : Handler) (n : Nat) (x0 : IV) (h1 : Hp) : funS EE ih ft.get n 71 [x0] h1 = S71 ih n x0 h1 := by kernel_rfl
/-! Function 72. -/
noncomputable def S72_30 (ih : Handler) (h23 : Hp) (x0 : IV) (x8 : IV) (x22 : IV) : Option (IV × Hp) :=
  isoS [true, false, false, false] false false ih 81 [x0, x8, .fv (.int .i64 1), x22] h23 fun x26 h27 _ _ => outS1 [x26] h27
noncomputable def S72_31 (x15 : IV) (h2 : Hp) (ih : Handler) (x0 : IV) (x8 : IV) : Option (IV × Hp) :=
  faddrS 2 x15 fun x16 => load1 x16 h2 fun x17 _ => ixS 1 x17 (.fv (.int .i64 1)) fun x19 => load1 x19 h2 fun x20 _ => genS (pcBuildSlice EE 110 1 [(0, x20)]) 75500552 h2 fun x22 h23 _ _ => S72_30 ih h23 x0 x8 x22
noncomputable def S72_32 (x10 : IV) (h2 : Hp) (x1 : IV) (ih : Handler) (x0 : IV) (x8 : IV) : Option (IV × Hp) :=
  faddrS 0 x10 fun x11 => load1 x11 h2 fun x12 _ => eqS EE 3 x12 (.fv (.int .i64 4)) fun x14 => condS x14 (nilS x1 fun x15 => S72_31 x15 h2 ih x0 x8) (outS1 [.fv .nilp] h2)
noncomputable def S72 (ih : Handler) (n : Nat) (x0 : IV) (x1 : IV) (h2 : Hp) : Option (IV × Hp) :=
  nilS x1 fun x3 => faddrS 2 x3 fun x4 => load1 x4 h2 fun x5 _ => ixS 1 x5 (.fv (.int .i64 0)) fun x7 => load1 x7 h2 fun x8 _ => nilS x8 fun x10 => S72_32 x10 h2 x1 ih x0 x8
theorem S72_ok (ih : Handler) (n : Nat) (x0 : IV) (x1 : IV) (h2 : Hp) : funS EE ih ft.get n 72 [x0, x1] h2 = S72 ih n x0 x1 h2 := by kernel_rfl
/-! Function 73. -/
noncomputable def S73_34 (x20 : IV) (h2 : Hp) : Option (IV × Hp) :=
  faddrS 2 x20 fun x21 => load1 x21 h2 fun x22 _ => ixS 1 x22 (.fv (.int .i64 1)) fun x24 => load1 x24 h2 fun x25 _ => outS1 [x25] h2
noncomputable def S73_35 (x27 : IV) (h2 : Hp) : Option (IV × Hp) :=
  faddrS 2 x27 fun x28 => load1 x28 h2 fun x29 _ => ixS 1 x29 (.fv (.int .i64 2)) fun x31 => load1 x31 h2 fun x32 _ => outS1 [x32] h2
noncomputable def S73_36 (x15 : IV) (h2 : Hp) (x8 : IV) : Option (IV × Hp) :=
  faddrS 0 x15 fun x16 => load1 x16 h2 fun x17 _ => eqS EE 3 x17 (.fv (.int .i64 8)) fun x19 => condS x19 (nilS x8 fun x20 => S73_34 x20 h2) (nilS x8 fun x27 => S73_35 x27 h2)
noncomputable def S73_37 (x10 : IV) (h2 : Hp) (x1 : IV) (x8 : IV) : Option (IV × Hp) :=
  faddrS 0 x10 fun x11 => load1 x11 h2 fun x12 _ => neS EE 3 x12 (.fv (.int .i64 7)) fun x14 => condS x14 (outS1 [.fv .nilp] h2) (nilS x1 fun x15 => S73_36 x15 h2 x8)
noncomputable def S73 (ih : Handler) (n : Nat) (x0 : IV) (x1 : IV) (h2 : Hp) : Option (IV × Hp) :=
  nilS x1 fun x3 => faddrS 2 x3 fun x4 => load1 x4 h2 fun x5 _ => ixS 1 x5 (.fv (.int .i64 0)) fun x7 => load1 x7 h2 fun x8 _ => nilS x8 fun x10 => S73_37 x10 h2 x1 x8
theorem S73_ok (ih : Handler) (n : Nat) (x0 : IV) (x1 : IV) (h2 : Hp) : funS EE ih ft.get n 73 [x0, x1] h2 = S73 ih n x0 x1 h2 := by kernel_rfl
end Idl
end Go.Proofs.Ytaifgaidaglblaa

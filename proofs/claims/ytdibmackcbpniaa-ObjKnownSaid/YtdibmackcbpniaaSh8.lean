/-
  THE SHALLOW FORM OF THE SEAT'S FUNCTIONS, a part; each is what its code's shallow run is. Printed by a program of mine (gen-sh). No statement is proved here.
-/
import Derived.Test.YtdibmackcbpniaaTab
import Derived.Test.YtdibmackcbpniaaIdl31
set_option maxRecDepth 100000
set_option linter.unusedVariables false
namespace Go.Proofs.Ytdibmackcbpniaa
namespace Idl
/-! thyrsus/thyrsusref6.Equal -/
noncomputable def S87_59 (r53 : List Ref) (w54 : List Ref) (ih : Handler) (h52 : Hp) (x45 : IV) (x51 : IV) : Option (IV × Hp) :=
  chkS [] r53 w54 (isoS [] false false ih 18 [x45, x51] h52 fun x55 h56 r57 w58 => chkS [] r57 w58 (outS1 [x55, .fv (.int .i64 0)] h56))
noncomputable def S87_60 (ih : Handler) (h39 : Hp) (x43 : IV) (x35 : IV) (r44 : List Ref) : Option (IV × Hp) :=
  isoS [] false false ih 112 [x43] h39 fun x45 h46 r47 w48 => chkS [] r47 w48 (loadA 3 x35 h46 fun x49 r50 => chkS [(r47, w48), (r44, [])] r50 [] (isoS [] false false ih 112 [x49] h46 fun x51 h52 r53 w54 => S87_59 r53 w54 ih h52 x45 x51))
noncomputable def S87_61 (x34 : IV) (h39 : Hp) (x19 : IV) (ih : Handler) (x35 : IV) : Option (IV × Hp) :=
  neS EE 3 x34 (.fv (.int .i64 0)) fun x42 => condS x42 (outS1 [.fv (.bool false), x34] h39) (loadA 3 x19 h39 fun x43 r44 => chkS [] r44 [] (S87_60 ih h39 x43 x35 r44))
noncomputable def S87_62 (ih : Handler) (h23 : Hp) (x27 : IV) (x19 : IV) : Option (IV × Hp) :=
  isoS [] false false ih 58 [x27] h23 fun x29 h30 _ _ => extS 0 x29 fun x33 => extS 1 x29 fun x34 => newS 91230213 (.row [.fv (.int .i64 0), .fv (.int .i64 0), .nils] false) (.ptr (.own 91230213) 0) h30 fun x35 h36 _ _ => storeA 3 x35 x33 h36 fun h39 _ _ => S87_61 x34 h39 x19 ih x35
noncomputable def S87_63 (h14 : Hp) (x17 : IV) (x18 : IV) (x7 : IV) (ih : Handler) : Option (IV × Hp) :=
  newS 91227141 (.row [.fv (.int .i64 0), .fv (.int .i64 0), .nils] false) (.ptr (.own 91227141) 0) h14 fun x19 h20 _ _ => storeA 3 x19 x17 h20 fun h23 _ _ => neS EE 3 x18 (.fv (.int .i64 0)) fun x26 => condS x26 (outS1 [.fv (.bool false), x18] h23) (loadA 3 x7 h23 fun x27 _ => S87_62 ih h23 x27 x19)
noncomputable def S87 (ih : Handler) (n : Nat) (x0 : IV) (x1 : IV) (h2 : Hp) : Option (IV × Hp) :=
  boxS 91226112 x0 h2 fun x3 h4 _ _ => boxS 91226113 x1 h4 fun x7 h8 _ _ => loadA 3 x3 h8 fun x11 _ => isoS [] false false ih 58 [x11] h8 fun x13 h14 _ _ => extS 0 x13 fun x17 => extS 1 x13 fun x18 => S87_63 h14 x17 x18 x7 ih
theorem S87_ok (ih : Handler) (n : Nat) (x0 : IV) (x1 : IV) (h2 : Hp) : funS EE ih ft.get n 87 [x0, x1] h2 = S87 ih n x0 x1 h2 := by kernel_rfl
/-! thyrsus/thyrsusref7.Level -/
noncomputable def S88_30 (h19 : Hp) (x27 : IV) : Option (IV × Hp) :=
  load1 x27 h19 fun x28 _ => outS1 [x28, .fv (.int .i64 0)] h19
noncomputable def S88_31 (h19 : Hp) (x23 : IV) (x15 : IV) : Option (IV × Hp) :=
  load1 x23 h19 fun x24 _ => neS EE 3 x24 (.fv (.int .i64 2)) fun x26 => condS x26 (outS1 [.fv (.int .i64 0), .fv (.int .i64 12)] h19) (faddrS 1 x15 fun x27 => S88_30 h19 x27)
noncomputable def S88_32 (h16 : Hp) (x15 : IV) (x13 : IV) (x14 : IV) : Option (IV × Hp) :=
  storeA 3 x15 x13 h16 fun h19 _ _ => neS EE 3 x14 (.fv (.int .i64 0)) fun x22 => condS x22 (outS1 [.fv (.int .i64 0), x14] h19) (faddrS 0 x15 fun x23 => S88_31 h19 x23 x15)
noncomputable def S88 (ih : Handler) (n : Nat) (x0 : IV) (x1 : IV) (h2 : Hp) : Option (IV × Hp) :=
  boxS 92274688 x1 h2 fun x3 h4 _ _ => loadA 3 x3 h4 fun x7 _ => isoS [] false false ih 26 [x0, .fv (.int .i64 1), x7] h4 fun x9 h10 _ _ => extS 0 x9 fun x13 => extS 1 x9 fun x14 => newS 92275718 (.row [.fv (.int .i64 0), .fv (.int .i64 0), .nils] false) (.ptr (.own 92275718) 0) h10 fun x15 h16 _ _ => S88_32 h16 x15 x13 x14
theorem S88_ok (ih : Handler) (n : Nat) (x0 : IV) (x1 : IV) (h2 : Hp) : funS EE ih ft.get n 88 [x0, x1] h2 = S88 ih n x0 x1 h2 := by kernel_rfl
/-! thyrsus/thyrsusref4.Subst -/
noncomputable def S89_28 (h21 : Hp) (x12 : IV) (x20 : IV) : Option (IV × Hp) :=
  storeA 3 x12 x20 h21 fun h24 _ _ => cellS true 3 x12 h24 fun x27 => outS1 [x27] h24
noncomputable def S89 (ih : Handler) (n : Nat) (x0 : IV) (x1 : IV) (x2 : IV) (h3 : Hp) : Option (IV × Hp) :=
  boxS 93323264 x0 h3 fun x4 h5 _ _ => boxS 93323265 x2 h5 fun x8 h9 _ _ => newS 93323266 (.row [.fv (.int .i64 0), .fv (.int .i64 0), .nils] false) (.ptr (.own 93323266) 0) h9 fun x12 h13 _ _ => loadA 3 x4 h13 fun x16 _ => loadA 3 x8 h13 fun x18 _ => isoS [] false false ih 113 [x16, x1, .fv (.int .i64 0), x18] h13 fun x20 h21 _ _ => S89_28 h21 x12 x20
theorem S89_ok (ih : Handler) (n : Nat) (x0 : IV) (x1 : IV) (x2 : IV) (h3 : Hp) : funS EE ih ft.get n 89 [x0, x1, x2] h3 = S89 ih n x0 x1 x2 h3 := by kernel_rfl
/-! thyrsus/thyrsusref7.pair -/
noncomputable def S90_151 (ih : Handler) (h18 : Hp) (x22 : IV) (x7 : IV) : Option (IV × Hp) :=
  isoS [] false false ih 57 [x22] h18 fun x24 h25 _ _ => extS 0 x24 fun x28 => extS 1 x24 fun x29 => storeA 3 x7 x28 h25 fun h30 _ _ => cellS true 3 x7 h30 fun x33 => outS1 [x33, x29] h30
noncomputable def S90_152 (x57 : IV) (h58 : Hp) (x7 : IV) (x61 : IV) : Option (IV × Hp) :=
  extS 1 x57 fun x62 => storeA 3 x7 x61 h58 fun h63 _ _ => cellS true 3 x7 h63 fun x66 => outS1 [x66, x62] h63
noncomputable def S90_153 (x87 : IV) (h88 : Hp) (x7 : IV) (x91 : IV) : Option (IV × Hp) :=
  extS 1 x87 fun x92 => storeA 3 x7 x91 h88 fun h93 _ _ => cellS true 3 x7 h93 fun x96 => outS1 [x96, x92] h93
noncomputable def S90_154 (h99 : Hp) (x7 : IV) : Option (IV × Hp) :=
  cellS true 3 x7 h99 fun x102 => outS1 [x102, .fv (.int .i64 0)] h99
noncomputable def S90_155 (x84 : IV) (ih : Handler) (h85 : Hp) (x7 : IV) (x46 : IV) : Option (IV × Hp) :=
  neS EE 3 x84 (.fv (.int .i64 0)) fun x86 => condS x86 (isoS [] false false ih 57 [x84] h85 fun x87 h88 _ _ => extS 0 x87 fun x91 => S90_153 x87 h88 x7 x91) (loadA 3 x46 h85 fun x97 _ => storeA 3 x7 x97 h85 fun h99 _ _ => S90_154 h99 x7)
noncomputable def S90_156 (ih : Handler) (h123 : Hp) (x0 : IV) (x108 : IV) (x122 : IV) (j1_83 : IV → Hp → Option (IV × Hp)) : Option (IV × Hp) :=
  isoS [] false false ih 61 [x0, .fv (.int .i64 1), x108, x122] h123 fun x126 h127 r128 w129 => chkS [] r128 w129 (j1_83 x126 h127)
noncomputable def S90_157 (x117 : IV) (h80 : Hp) (r115 : List Ref) (r112 : List Ref) (r109 : List Ref) (r106 : List Ref) (ih : Handler) (x114 : IV) (x0 : IV) (x108 : IV) (j1_83 : IV → Hp → Option (IV × Hp)) : Option (IV × Hp) :=
  ixS 3 x117 (.fv (.int .i64 1)) fun x119 => loadA 3 x119 h80 fun x120 r121 => chkS [(r115, []), (r112, []), (r109, []), (r106, [])] r121 [] (isoS [] false false ih 89 [x114, .fv (.int .i64 0), x120] h80 fun x122 h123 r124 w125 => chkS [(r109, []), (r106, [])] r124 w125 (S90_156 ih h123 x0 x108 x122 j1_83))
noncomputable def S90_158 (h80 : Hp) (x113 : IV) (r109 : List Ref) (r106 : List Ref) (x3 : IV) (r112 : List Ref) (ih : Handler) (x0 : IV) (x108 : IV) (j1_83 : IV → Hp → Option (IV × Hp)) : Option (IV × Hp) :=
  loadA 3 x113 h80 fun x114 r115 => chkS [(r109, []), (r106, [])] r115 [] (faddrS 2 x3 fun x116 => load1 x116 h80 fun x117 r118 => chkS [(r115, []), (r112, []), (r109, []), (r106, [])] r118 [] (S90_157 x117 h80 r115 r112 r109 r106 ih x114 x0 x108 j1_83))
noncomputable def S90_159 (r109 : List Ref) (x46 : IV) (h80 : Hp) (r106 : List Ref) (x3 : IV) (ih : Handler) (x0 : IV) (x108 : IV) (j1_83 : IV → Hp → Option (IV × Hp)) : Option (IV × Hp) :=
  chkS [] r109 [] (faddrS 2 x46 fun x110 => load1 x110 h80 fun x111 r112 => chkS [(r109, []), (r106, [])] r112 [] (ixS 3 x111 (.fv (.int .i64 1)) fun x113 => S90_158 h80 x113 r109 r106 x3 r112 ih x0 x108 j1_83))
noncomputable def S90_160 (x3 : IV) (h80 : Hp) (x46 : IV) (ih : Handler) (x0 : IV) (j1_83 : IV → Hp → Option (IV × Hp)) : Option (IV × Hp) :=
  faddrS 2 x3 fun x104 => load1 x104 h80 fun x105 r106 => chkS [] r106 [] (ixS 3 x105 (.fv (.int .i64 2)) fun x107 => loadA 3 x107 h80 fun x108 r109 => S90_159 r109 x46 h80 r106 x3 ih x0 x108 j1_83)
noncomputable def S90_161 (ih : Handler) (h55 : Hp) (x0 : IV) (x71 : IV) (x77 : IV) (x7 : IV) (x46 : IV) (x3 : IV) : Option (IV × Hp) :=
  isoS [] false false ih 61 [x0, .fv (.int .i64 1), x71, x77] h55 fun x79 h80 r81 w82 => chkS [] r81 w82 ((fun (j1_83 : IV → Hp → Option (IV × Hp)) => eqS EE 3 x79 (.fv (.int .i64 0)) fun x103 => condS x103 (S90_160 x3 h80 x46 ih x0 j1_83) (j1_83 x79 h80)) fun x84 h85 => S90_155 x84 ih h85 x7 x46)
noncomputable def S90_162 (h55 : Hp) (x73 : IV) (r72 : List Ref) (r69 : List Ref) (ih : Handler) (x0 : IV) (x71 : IV) (x7 : IV) (x46 : IV) (x3 : IV) : Option (IV × Hp) :=
  load1 x73 h55 fun x74 r75 => chkS [(r72, []), (r69, [])] r75 [] (ixS 3 x74 (.fv (.int .i64 0)) fun x76 => loadA 3 x76 h55 fun x77 r78 => chkS [(r72, []), (r69, [])] r78 [] (S90_161 ih h55 x0 x71 x77 x7 x46 x3))
noncomputable def S90_163 (r69 : List Ref) (x68 : IV) (h55 : Hp) (x46 : IV) (ih : Handler) (x0 : IV) (x7 : IV) (x3 : IV) : Option (IV × Hp) :=
  chkS [] r69 [] (ixS 3 x68 (.fv (.int .i64 1)) fun x70 => loadA 3 x70 h55 fun x71 r72 => chkS [] r72 [] (faddrS 2 x46 fun x73 => S90_162 h55 x73 r72 r69 ih x0 x71 x7 x46 x3))
noncomputable def S90_164 (x54 : IV) (ih : Handler) (h55 : Hp) (x7 : IV) (x3 : IV) (x46 : IV) (x0 : IV) : Option (IV × Hp) :=
  neS EE 3 x54 (.fv (.int .i64 0)) fun x56 => condS x56 (isoS [] false false ih 57 [x54] h55 fun x57 h58 _ _ => extS 0 x57 fun x61 => S90_152 x57 h58 x7 x61) (faddrS 2 x3 fun x67 => load1 x67 h55 fun x68 r69 => S90_163 r69 x68 h55 x46 ih x0 x7 x3)
noncomputable def S90_165 (x150 : IV) (j1_53 : IV → Hp → Option (IV × Hp)) (h147 : Hp) (x45 : IV) : Option (IV × Hp) :=
  condS x150 (j1_53 (.fv (.int .i64 12)) h147) (j1_53 x45 h147)
noncomputable def S90_166 (x45 : IV) (h50 : Hp) (x46 : IV) (j1_53 : IV → Hp → Option (IV × Hp)) : Option (IV × Hp) :=
  eqS EE 3 x45 (.fv (.int .i64 0)) fun x130 => guardS x130 true h50 (fun k131 => faddrS 0 x46 fun x132 => k131 x132 h50 [] []) fun x133 h134 _ _ => guardS x130 true h134 (fun k137 => load1 x133 h134 fun x138 r139 => k137 x138 h134 r139 []) fun x140 h141 _ _ => guardS x130 true h141 (fun k144 => neS EE 3 x140 (.fv (.int .i64 6)) fun x145 => k144 x145 h141 [] []) fun x146 h147 _ _ => pickS x130 x146 (.fv (.bool false)) fun x150 => S90_165 x150 j1_53 h147 x45
noncomputable def S90_167 (x40 : IV) (h41 : Hp) (ih : Handler) (x7 : IV) (x3 : IV) (x0 : IV) : Option (IV × Hp) :=
  extS 0 x40 fun x44 => extS 1 x40 fun x45 => newS 94375944 (.row [.fv (.int .i64 0), .fv (.int .i64 0), .nils] false) (.ptr (.own 94375944) 0) h41 fun x46 h47 _ _ => storeA 3 x46 x44 h47 fun h50 _ _ => (fun (j1_53 : IV → Hp → Option (IV × Hp)) => S90_166 x45 h50 x46 j1_53) fun x54 h55 => S90_164 x54 ih h55 x7 x3 x46 x0
noncomputable def S90_168 (x3 : IV) (h18 : Hp) (ih : Handler) (x7 : IV) (x0 : IV) : Option (IV × Hp) :=
  faddrS 2 x3 fun x34 => load1 x34 h18 fun x35 _ => ixS 3 x35 (.fv (.int .i64 0)) fun x37 => loadA 3 x37 h18 fun x38 _ => isoS [] false false ih 58 [x38] h18 fun x40 h41 _ _ => S90_167 x40 h41 ih x7 x3 x0
noncomputable def S90_169 (ih : Handler) (h8 : Hp) (x0 : IV) (x15 : IV) (x7 : IV) (x3 : IV) : Option (IV × Hp) :=
  isoS [] false false ih 88 [x0, x15] h8 fun x17 h18 _ _ => extS 0 x17 fun _ => extS 1 x17 fun x22 => neS EE 3 x22 (.fv (.int .i64 0)) fun x23 => condS x23 (S90_151 ih h18 x22 x7) (S90_168 x3 h18 ih x7 x0)
noncomputable def S90 (ih : Handler) (n : Nat) (x0 : IV) (x1 : IV) (h2 : Hp) : Option (IV × Hp) :=
  boxS 94371840 x1 h2 fun x3 h4 _ _ => newS 94371841 (.row [.fv (.int .i64 0), .fv (.int .i64 0), .nils] false) (.ptr (.own 94371841) 0) h4 fun x7 h8 _ _ => faddrS 2 x3 fun x11 => load1 x11 h8 fun x12 _ => ixS 3 x12 (.fv (.int .i64 0)) fun x14 => loadA 3 x14 h8 fun x15 _ => S90_169 ih h8 x0 x15 x7 x3
theorem S90_ok (ih : Handler) (n : Nat) (x0 : IV) (x1 : IV) (h2 : Hp) : funS EE ih ft.get n 90 [x0, x1] h2 = S90 ih n x0 x1 h2 := by kernel_rfl
/-! thyrsus/thyrsusref7.rec -/
noncomputable def S91_154 (x59 : IV) (h60 : Hp) (x7 : IV) (x63 : IV) : Option (IV × Hp) :=
  extS 1 x59 fun x64 => storeA 3 x7 x63 h60 fun h65 _ _ => cellS true 3 x7 h65 fun x68 => outS1 [x68, x64] h65
noncomputable def S91_155 (x81 : IV) (h82 : Hp) (x7 : IV) : Option (IV × Hp) :=
  extS 0 x81 fun x85 => extS 1 x81 fun x86 => storeA 3 x7 x85 h82 fun h87 r88 w89 => chkS [] r88 w89 (cellS true 3 x7 h87 fun x90 => outS1 [x90, x86] h87)
noncomputable def S91_156 (r76 : List Ref) (r70 : List Ref) (ih : Handler) (h57 : Hp) (x69 : IV) (x75 : IV) (x7 : IV) : Option (IV × Hp) :=
  chkS [(r70, [])] r76 [] (isoS [] false false ih 89 [x69, .fv (.int .i64 0), x75] h57 fun x77 h78 r79 w80 => chkS [] r79 w80 (isoS [] false false ih 58 [x77] h78 fun x81 h82 r83 w84 => chkS [] r83 w84 (S91_155 x81 h82 x7)))
noncomputable def S91_157 (x3 : IV) (h57 : Hp) (r70 : List Ref) (ih : Handler) (x69 : IV) (x7 : IV) : Option (IV × Hp) :=
  faddrS 2 x3 fun x71 => load1 x71 h57 fun x72 r73 => chkS [(r70, [])] r73 [] (ixS 3 x72 (.fv (.int .i64 3)) fun x74 => loadA 3 x74 h57 fun x75 r76 => S91_156 r76 r70 ih h57 x69 x75 x7)
noncomputable def S91_158 (x56 : IV) (ih : Handler) (h57 : Hp) (x7 : IV) (x28 : IV) (x3 : IV) : Option (IV × Hp) :=
  neS EE 3 x56 (.fv (.int .i64 0)) fun x58 => condS x58 (isoS [] false false ih 57 [x56] h57 fun x59 h60 _ _ => extS 0 x59 fun x63 => S91_154 x59 h60 x7 x63) (loadA 3 x28 h57 fun x69 r70 => chkS [] r70 [] (S91_157 x3 h57 r70 ih x69 x7))
noncomputable def S91_159 (h54 : Hp) (x15 : IV) (r97 : List Ref) (r94 : List Ref) (ih : Handler) (x0 : IV) (x96 : IV) (j1_55 : IV → Hp → Option (IV × Hp)) : Option (IV × Hp) :=
  loadA 3 x15 h54 fun x98 r99 => chkS [(r97, []), (r94, [])] r99 [] (isoS [] false false ih 61 [x0, .fv (.int .i64 1), x96, x98] h54 fun x100 h101 r102 w103 => chkS [] r102 w103 (j1_55 x100 h101))
noncomputable def S91_160 (h54 : Hp) (x92 : IV) (x15 : IV) (ih : Handler) (x0 : IV) (j1_55 : IV → Hp → Option (IV × Hp)) : Option (IV × Hp) :=
  load1 x92 h54 fun x93 r94 => chkS [] r94 [] (ixS 3 x93 (.fv (.int .i64 3)) fun x95 => loadA 3 x95 h54 fun x96 r97 => chkS [] r97 [] (S91_159 h54 x15 r97 r94 ih x0 x96 j1_55))
noncomputable def S91_161 (ih : Handler) (x7 : IV) (x28 : IV) (x3 : IV) (x53 : IV) (h54 : Hp) (x15 : IV) (x0 : IV) : Option (IV × Hp) :=
  (fun (j1_55 : IV → Hp → Option (IV × Hp)) => eqS EE 3 x53 (.fv (.int .i64 0)) fun x91 => condS x91 (faddrS 2 x3 fun x92 => S91_160 h54 x92 x15 ih x0 j1_55) (j1_55 x53 h54)) fun x56 h57 => S91_158 x56 ih h57 x7 x28 x3
noncomputable def S91_162 (ih : Handler) (h114 : Hp) (x123 : IV) (r122 : List Ref) (r119 : List Ref) (x113 : IV) (x121 : IV) (j1_52 : IV → Hp → Option (IV × Hp)) : Option (IV × Hp) :=
  isoS [] false false ih 114 [x123] h114 fun x125 h126 r127 w128 => chkS [(r122, []), (r119, [])] r127 w128 (isoS [] false false ih 61 [x113, .fv (.int .i64 1), x121, x125] h126 fun x129 h130 r131 w132 => chkS [] r131 w132 (j1_52 x129 h130))
noncomputable def S91_163 (x118 : IV) (h114 : Hp) (r115 : List Ref) (w116 : List Ref) (r112 : List Ref) (r109 : List Ref) (w110 : List Ref) (r106 : List Ref) (x28 : IV) (r119 : List Ref) (ih : Handler) (x113 : IV) (j1_52 : IV → Hp → Option (IV × Hp)) : Option (IV × Hp) :=
  ixS 3 x118 (.fv (.int .i64 2)) fun x120 => loadA 3 x120 h114 fun x121 r122 => chkS [(r115, w116), (r112, []), (r109, w110), (r106, [])] r122 [] (loadA 3 x28 h114 fun x123 r124 => chkS [(r122, []), (r119, []), (r115, w116), (r112, []), (r109, w110), (r106, [])] r124 [] (S91_162 ih h114 x123 r122 r119 x113 x121 j1_52))
noncomputable def S91_164 (ih : Handler) (h108 : Hp) (x107 : IV) (x111 : IV) (x3 : IV) (r112 : List Ref) (r109 : List Ref) (w110 : List Ref) (r106 : List Ref) (x28 : IV) (j1_52 : IV → Hp → Option (IV × Hp)) : Option (IV × Hp) :=
  isoS [] false false ih 84 [x107, .fv (.int .i64 1), x111] h108 fun x113 h114 r115 w116 => chkS [] r115 w116 (faddrS 2 x3 fun x117 => load1 x117 h114 fun x118 r119 => chkS [(r115, w116), (r112, []), (r109, w110), (r106, [])] r119 [] (S91_163 x118 h114 r115 w116 r112 r109 w110 r106 x28 r119 ih x113 j1_52))
noncomputable def S91_165 (r106 : List Ref) (ih : Handler) (h51 : Hp) (x0 : IV) (x105 : IV) (x28 : IV) (x3 : IV) (j1_52 : IV → Hp → Option (IV × Hp)) : Option (IV × Hp) :=
  chkS [] r106 [] (isoS [] false false ih 84 [x0, .fv (.int .i64 1), x105] h51 fun x107 h108 r109 w110 => chkS [] r109 w110 (loadA 3 x28 h108 fun x111 r112 => chkS [(r109, w110), (r106, [])] r112 [] (S91_164 ih h108 x107 x111 x3 r112 r109 w110 r106 x28 j1_52)))
noncomputable def S91_166 (ih : Handler) (x7 : IV) (x28 : IV) (x3 : IV) (x15 : IV) (x0 : IV) (x50 : IV) (h51 : Hp) : Option (IV × Hp) :=
  (fun (j1_52 : IV → Hp → Option (IV × Hp)) => eqS EE 3 x50 (.fv (.int .i64 0)) fun x104 => condS x104 (loadA 3 x15 h51 fun x105 r106 => S91_165 r106 ih h51 x0 x105 x28 x3 j1_52) (j1_52 x50 h51)) fun x53 h54 => S91_161 ih x7 x28 x3 x53 h54 x15 x0
noncomputable def S91_167 (r148 : List Ref) (w149 : List Ref) (r139 : List Ref) (r136 : List Ref) (ih : Handler) (h147 : Hp) (x0 : IV) (x138 : IV) (x146 : IV) (j1_49 : IV → Hp → Option (IV × Hp)) : Option (IV × Hp) :=
  chkS [(r139, []), (r136, [])] r148 w149 (isoS [] false false ih 61 [x0, .fv (.int .i64 1), x138, x146] h147 fun x150 h151 r152 w153 => chkS [] r152 w153 (j1_49 x150 h151))
noncomputable def S91_168 (h44 : Hp) (x28 : IV) (r139 : List Ref) (r136 : List Ref) (ih : Handler) (x0 : IV) (x138 : IV) (j1_49 : IV → Hp → Option (IV × Hp)) : Option (IV × Hp) :=
  loadA 3 x28 h44 fun x140 r141 => chkS [(r139, []), (r136, [])] r141 [] (isoS [] false false ih 30 [.fv (.int .i64 11), .nils] h44 fun x142 h143 r144 w145 => chkS [(r141, []), (r139, []), (r136, [])] r144 w145 (isoS [] false false ih 89 [x140, .fv (.int .i64 0), x142] h143 fun x146 h147 r148 w149 => S91_167 r148 w149 r139 r136 ih h147 x0 x138 x146 j1_49))
noncomputable def S91_169 (h44 : Hp) (x134 : IV) (x28 : IV) (ih : Handler) (x0 : IV) (j1_49 : IV → Hp → Option (IV × Hp)) : Option (IV × Hp) :=
  load1 x134 h44 fun x135 r136 => chkS [] r136 [] (ixS 3 x135 (.fv (.int .i64 1)) fun x137 => loadA 3 x137 h44 fun x138 r139 => chkS [] r139 [] (S91_168 h44 x28 r139 r136 ih x0 x138 j1_49))
noncomputable def S91_170 (ih : Handler) (x7 : IV) (x28 : IV) (x3 : IV) (x15 : IV) (x0 : IV) (x48 : IV) (h44 : Hp) : Option (IV × Hp) :=
  (fun (j1_49 : IV → Hp → Option (IV × Hp)) => eqS EE 3 x48 (.fv (.int .i64 0)) fun x133 => condS x133 (faddrS 2 x3 fun x134 => S91_169 h44 x134 x28 ih x0 j1_49) (j1_49 x48 h44)) fun x50 h51 => S91_166 ih x7 x28 x3 x15 x0 x50 h51
noncomputable def S91_171 (r42 : List Ref) (r39 : List Ref) (w40 : List Ref) (r36 : List Ref) (ih : Handler) (h38 : Hp) (x37 : IV) (x41 : IV) (x7 : IV) (x28 : IV) (x3 : IV) (x15 : IV) (x0 : IV) : Option (IV × Hp) :=
  chkS [(r39, w40), (r36, [])] r42 [] (isoS [] false false ih 88 [x37, x41] h38 fun x43 h44 r45 w46 => chkS [] r45 w46 (extS 0 x43 fun _ => extS 1 x43 fun x48 => S91_170 ih x7 x28 x3 x15 x0 x48 h44))
noncomputable def S91_172 (h32 : Hp) (x15 : IV) (ih : Handler) (x0 : IV) (x28 : IV) (x7 : IV) (x3 : IV) : Option (IV × Hp) :=
  loadA 3 x15 h32 fun x35 r36 => chkS [] r36 [] (isoS [] false false ih 84 [x0, .fv (.int .i64 1), x35] h32 fun x37 h38 r39 w40 => chkS [] r39 w40 (loadA 3 x28 h38 fun x41 r42 => S91_171 r42 r39 w40 r36 ih h38 x37 x41 x7 x28 x3 x15 x0))
noncomputable def S91_173 (h19 : Hp) (x22 : IV) (x15 : IV) (ih : Handler) (x0 : IV) (x7 : IV) (x3 : IV) : Option (IV × Hp) :=
  load1 x22 h19 fun x23 _ => ixS 3 x23 (.fv (.int .i64 0)) fun x25 => loadA 3 x25 h19 fun x26 _ => newS 95422468 (.row [.fv (.int .i64 0), .fv (.int .i64 0), .nils] false) (.ptr (.own 95422468) 0) h19 fun x28 h29 _ _ => storeA 3 x28 x26 h29 fun h32 _ _ => S91_172 h32 x15 ih x0 x28 x7 x3
noncomputable def S91 (ih : Handler) (n : Nat) (x0 : IV) (x1 : IV) (h2 : Hp) : Option (IV × Hp) :=
  boxS 95420416 x1 h2 fun x3 h4 _ _ => newS 95420417 (.row [.fv (.int .i64 0), .fv (.int .i64 0), .nils] false) (.ptr (.own 95420417) 0) h4 fun x7 h8 _ _ => isoS [] false false ih 30 [.fv (.int .i64 10), .nils] h8 fun x11 h12 _ _ => newS 95421441 (.row [.fv (.int .i64 0), .fv (.int .i64 0), .nils] false) (.ptr (.own 95421441) 0) h12 fun x15 h16 _ _ => storeA 3 x15 x11 h16 fun h19 _ _ => faddrS 2 x3 fun x22 => S91_173 h19 x22 x15 ih x0 x7 x3
theorem S91_ok (ih : Handler) (n : Nat) (x0 : IV) (x1 : IV) (h2 : Hp) : funS EE ih ft.get n 91 [x0, x1] h2 = S91 ih n x0 x1 h2 := by kernel_rfl
/-! thyrsus/api.early -/
noncomputable def S92_8 (x0 : IV) (h1 : Hp) : Option (IV × Hp) :=
  eqS EE 35 x0 (.fv (.int .i64 4)) fun x6 => condS x6 (outS1 [.fv (.str ⟨#[108, 111, 110, 103]⟩)] h1) (eqS EE 35 x0 (.fv (.int .i64 5)) fun x7 => condS x7 (outS1 [.fv (.str ⟨#[100, 101, 101, 112]⟩)] h1) (outS1 [.fv (.str ⟨#[101, 114, 114, 111, 114]⟩)] h1))
noncomputable def S92_9 (x0 : IV) (h1 : Hp) : Option (IV × Hp) :=
  eqS EE 35 x0 (.fv (.int .i64 2)) fun x4 => condS x4 (outS1 [.fv (.str ⟨#[99, 117, 116]⟩)] h1) (eqS EE 35 x0 (.fv (.int .i64 3)) fun x5 => condS x5 (outS1 [.fv (.str ⟨#[109, 111, 114, 101]⟩)] h1) (S92_8 x0 h1))
noncomputable def S92 (ih : Handler) (n : Nat) (x0 : IV) (h1 : Hp) : Option (IV × Hp) :=
  eqS EE 35 x0 (.fv (.int .i64 0)) fun x2 => condS x2 (outS1 [.fv (.str ⟨#[111, 107]⟩)] h1) (eqS EE 35 x0 (.fv (.int .i64 1)) fun x3 => condS x3 (outS1 [.fv (.str ⟨#[97, 114, 103]⟩)] h1) (S92_9 x0 h1))
theorem S92_ok (ih : Handler) (n : Nat) (x0 : IV) (h1 : Hp) : funS EE ih ft.get n 92 [x0] h1 = S92 ih n x0 h1 := by kernel_rfl
/-! thyrsus/api.middle -/
noncomputable def S93_10 (x0 : IV) (h1 : Hp) : Option (IV × Hp) :=
  eqS EE 35 x0 (.fv (.int .i64 12)) fun x8 => condS x8 (outS1 [.fv (.str ⟨#[115, 104, 97, 112, 101]⟩)] h1) (eqS EE 35 x0 (.fv (.int .i64 13)) fun x9 => condS x9 (outS1 [.fv (.str ⟨#[108, 101, 118, 101, 108]⟩)] h1) (outS1 [.fv (.str ⟨#[101, 114, 114, 111, 114]⟩)] h1))
noncomputable def S93_11 (x0 : IV) (h1 : Hp) : Option (IV × Hp) :=
  eqS EE 35 x0 (.fv (.int .i64 10)) fun x6 => condS x6 (outS1 [.fv (.str ⟨#[115, 116, 97, 103, 101]⟩)] h1) (eqS EE 35 x0 (.fv (.int .i64 11)) fun x7 => condS x7 (outS1 [.fv (.str ⟨#[116, 121, 112, 101]⟩)] h1) (S93_10 x0 h1))
noncomputable def S93_12 (x0 : IV) (h1 : Hp) : Option (IV × Hp) :=
  eqS EE 35 x0 (.fv (.int .i64 8)) fun x4 => condS x4 (outS1 [.fv (.str ⟨#[110, 97, 109, 101]⟩)] h1) (eqS EE 35 x0 (.fv (.int .i64 9)) fun x5 => condS x5 (outS1 [.fv (.str ⟨#[116, 119, 105, 99, 101]⟩)] h1) (S93_11 x0 h1))
noncomputable def S93 (ih : Handler) (n : Nat) (x0 : IV) (h1 : Hp) : Option (IV × Hp) :=
  eqS EE 35 x0 (.fv (.int .i64 6)) fun x2 => condS x2 (outS1 [.fv (.str ⟨#[116, 111, 107, 101, 110]⟩)] h1) (eqS EE 35 x0 (.fv (.int .i64 7)) fun x3 => condS x3 (outS1 [.fv (.str ⟨#[102, 111, 114, 109]⟩)] h1) (S93_12 x0 h1))
theorem S93_ok (ih : Handler) (n : Nat) (x0 : IV) (h1 : Hp) : funS EE ih ft.get n 93 [x0] h1 = S93 ih n x0 h1 := by kernel_rfl
/-! thyrsus/api.late -/
noncomputable def S94_8 (x0 : IV) (h1 : Hp) : Option (IV × Hp) :=
  eqS EE 35 x0 (.fv (.int .i64 18)) fun x6 => condS x6 (outS1 [.fv (.str ⟨#[122, 101, 114, 111]⟩)] h1) (eqS EE 35 x0 (.fv (.int .i64 19)) fun x7 => condS x7 (outS1 [.fv (.str ⟨#[119, 111, 114, 100]⟩)] h1) (outS1 [.fv (.str ⟨#[101, 114, 114, 111, 114]⟩)] h1))
noncomputable def S94_9 (x0 : IV) (h1 : Hp) : Option (IV × Hp) :=
  eqS EE 35 x0 (.fv (.int .i64 16)) fun x4 => condS x4 (outS1 [.fv (.str ⟨#[108, 111, 111, 112]⟩)] h1) (eqS EE 35 x0 (.fv (.int .i64 17)) fun x5 => condS x5 (outS1 [.fv (.str ⟨#[102, 117, 101, 108]⟩)] h1) (S94_8 x0 h1))
noncomputable def S94 (ih : Handler) (n : Nat) (x0 : IV) (h1 : Hp) : Option (IV × Hp) :=
  eqS EE 35 x0 (.fv (.int .i64 14)) fun x2 => condS x2 (outS1 [.fv (.str ⟨#[115, 99, 111, 112, 101]⟩)] h1) (eqS EE 35 x0 (.fv (.int .i64 15)) fun x3 => condS x3 (outS1 [.fv (.str ⟨#[103, 117, 101, 115, 115]⟩)] h1) (S94_9 x0 h1))
theorem S94_ok (ih : Handler) (n : Nat) (x0 : IV) (h1 : Hp) : funS EE ih ft.get n 94 [x0] h1 = S94 ih n x0 h1 := by kernel_rfl
/-! thyrsus/thyrsusref3.Digits -/
noncomputable def S95_29 (x0 : IV) (ih : Handler) (h1 : Hp) : Option (IV × Hp) :=
  subS EE 3 (.fv (.int .i64 0)) x0 fun x4 => isoS [] false false ih 95 [x4] h1 fun x5 h6 _ _ => addS EE 9 (.fv (.str ⟨#[45]⟩)) x5 fun x9 => outS1 [x9] h6
noncomputable def S95_30 (x0 : IV) (ih : Handler) (h1 : Hp) : Option (IV × Hp) :=
  binS EE 3 .quo x0 (.fv (.int .i64 10)) fun x11 => isoS [] false false ih 95 [x11] h1 fun x12 h13 _ _ => binS EE 3 .rem x0 (.fv (.int .i64 10)) fun x16 => isoS [] false false ih 95 [x16] h13 fun x17 h18 _ _ => addS EE 9 x12 x17 fun x21 => outS1 [x21] h18
noncomputable def S95_31 (x0 : IV) (h1 : Hp) : Option (IV × Hp) :=
  addS EE 3 (.fv (.int .i64 48)) x0 fun x22 => optS (convR EE 3 5 x22) fun x23 => genS (pcBuildSlice EE 135 1 [(0, x23)]) 99621891 h1 fun x24 h25 _ _ => optS (convR EE 135 9 x24) fun x28 => outS1 [x28] h25
noncomputable def S95 (ih : Handler) (n : Nat) (x0 : IV) (h1 : Hp) : Option (IV × Hp) :=
  ltS EE 3 x0 (.fv (.int .i64 0)) fun x2 => condS x2 (eqS EE 3 x0 (.fv (.int .i64 (-9223372036854775808))) fun x3 => condS x3 (outS1 [.fv (.str ⟨#[45, 57, 50, 50, 51, 51, 55, 50, 48, 51, 54, 56, 53, 52, 55, 55, 53, 56, 48, 56]⟩)] h1) (S95_29 x0 ih h1)) (geS EE 3 x0 (.fv (.int .i64 10)) fun x10 => condS x10 (S95_30 x0 ih h1) (S95_31 x0 h1))
theorem S95_ok (ih : Handler) (n : Nat) (x0 : IV) (h1 : Hp) : funS EE ih ft.get n 95 [x0] h1 = S95 ih n x0 h1 := by kernel_rfl
/-! thyrsus/thyrsuslaw4.More -/
noncomputable def S96_27 (r25 : List Ref) (w26 : List Ref) (h24 : Hp) (x23 : IV) : Option (IV × Hp) :=
  chkS [] r25 w26 (outS1 [x23] h24)
noncomputable def S96_28 (r17 : List Ref) (r14 : List Ref) (w15 : List Ref) (r10 : List Ref) (w11 : List Ref) (x1 : IV) (x16 : IV) (h13 : Hp) (x12 : IV) : Option (IV × Hp) :=
  chkS [(r14, w15), (r10, w11)] r17 [] (bldS [.fv (.int .i64 0), .fv (.int .i64 0), .fv (.int .i64 0), .nils] [(0, 1, x1), (1, 3, x16)] fun x18 => genS (pcBuildSlice EE 71 1 [(0, x18)]) 100664326 h13 fun x19 h20 r21 w22 => chkS [(r14, w15), (r10, w11)] r21 w22 (genS (builtinR EE 100664327 false .append [71, 71] [x12, x19]) 100664327 h20 fun x23 h24 r25 w26 => S96_27 r25 w26 h24 x23))
noncomputable def S96 (ih : Handler) (n : Nat) (x0 : IV) (x1 : IV) (x2 : IV) (h3 : Hp) : Option (IV × Hp) :=
  boxS 100663296 x2 h3 fun x4 h5 _ _ => genS (pcBuildSlice EE 71 0 []) 100664320 h5 fun x8 h9 r10 w11 => chkS [] r10 w11 (genS (builtinR EE 100664322 false .append [71, 71] [x8, x0]) 100664322 h9 fun x12 h13 r14 w15 => chkS [] r14 w15 (loadA 3 x4 h13 fun x16 r17 => S96_28 r17 r14 w15 r10 w11 x1 x16 h13 x12))
theorem S96_ok (ih : Handler) (n : Nat) (x0 : IV) (x1 : IV) (x2 : IV) (h3 : Hp) : funS EE ih ft.get n 96 [x0, x1, x2] h3 = S96 ih n x0 x1 x2 h3 := by kernel_rfl
/-! thyrsus/thyrsuslaw4.variable -/
noncomputable def S97_133 (x22 : IV) (h4 : Hp) (h27 : Hp) (x16 : IV) (x17 : IV) (x18 : IV) (x19 : IV) (x20 : IV) (x26 : IV) (q13 : List IV → Hp → Option (IV × Hp)) : Option (IV × Hp) :=
  addS EE 3 x22 (.fv (.int .i64 1)) fun x28 => dropS (h4.own.map (·.1)) [101718032, 101720067] [x16, x17, x18, x19, x20, x26, x28] h27 fun h29 => q13 [x16, x17, x18, x19, x20, x26, x28] h29
noncomputable def S97_134 (h90 : Hp) (x22 : IV) (x21 : IV) (j1_25 : IV → Hp → Option (IV × Hp)) : Option (IV × Hp) :=
  genS (pcBuildSlice EE 51 1 [(0, x22)]) 101720066 h90 fun x94 h95 _ _ => genS (builtinR EE 101720067 false .append [51, 51] [x21, x94]) 101720067 h95 fun x98 h99 _ _ => j1_25 x98 h99
noncomputable def S97_135 (r86 : List Ref) (w87 : List Ref) (h85 : Hp) (x63 : IV) (ih : Handler) (x72 : IV) (x84 : IV) (x22 : IV) (x21 : IV) (j1_25 : IV → Hp → Option (IV × Hp)) : Option (IV × Hp) :=
  chkS [] r86 w87 (guardS x63 true h85 (fun k88 => isoS [] false false ih 18 [x72, x84] h85 k88) fun x89 h90 r91 w92 => chkS [] r91 w92 (pickS x63 x89 (.fv (.bool false)) fun x93 => condS x93 (S97_134 h90 x22 x21 j1_25) (j1_25 x21 h90)))
noncomputable def S97_136 (h68 : Hp) (x63 : IV) (ih : Handler) (x67 : IV) (x19 : IV) (r69 : List Ref) (w70 : List Ref) (x22 : IV) (x21 : IV) (j1_25 : IV → Hp → Option (IV × Hp)) : Option (IV × Hp) :=
  guardS x63 true h68 (fun k71 => isoS [] false false ih 112 [x67] h68 k71) fun x72 h73 r74 w75 => chkS [] r74 w75 (guardS x63 true h73 (fun k76 => loadA 3 x19 h73 fun x77 r78 => k76 x77 h73 r78 []) fun x79 h80 r81 w82 => chkS [(r74, w75), (r69, w70)] r81 w82 (guardS x63 true h80 (fun k83 => isoS [] false false ih 112 [x79] h80 k83) fun x84 h85 r86 w87 => S97_135 r86 w87 h85 x63 ih x72 x84 x22 x21 j1_25))
noncomputable def S97_137 (h51 : Hp) (x54 : IV) (x55 : IV) (ih : Handler) (x19 : IV) (x22 : IV) (x21 : IV) (j1_25 : IV → Hp → Option (IV × Hp)) : Option (IV × Hp) :=
  newS 101718032 (.row [.fv (.int .i64 0), .fv (.int .i64 0), .nils] false) (.ptr (.own 101718032) 0) h51 fun x56 h57 _ _ => storeA 3 x56 x54 h57 fun h60 _ _ => eqS EE 3 x55 (.fv (.int .i64 0)) fun x63 => guardS x63 true h60 (fun k64 => loadA 3 x56 h60 fun x65 r66 => k64 x65 h60 r66 []) fun x67 h68 r69 w70 => chkS [] r69 w70 (S97_136 h68 x63 ih x67 x19 r69 w70 x22 x21 j1_25)
noncomputable def S97_138 (x22 : IV) (ih : Handler) (h15 : Hp) (x43 : IV) (x19 : IV) (x21 : IV) (j1_25 : IV → Hp → Option (IV × Hp)) : Option (IV × Hp) :=
  addS EE 3 x22 (.fv (.int .i64 1)) fun x45 => isoS [] false false ih 28 [x43, x45, .fv (.int .i64 0)] h15 fun x46 h47 _ _ => isoS [] false false ih 58 [x46] h47 fun x50 h51 _ _ => extS 0 x50 fun x54 => extS 1 x50 fun x55 => S97_137 h51 x54 x55 ih x19 x22 x21 j1_25
noncomputable def S97_139 (x38 : IV) (x22 : IV) (x16 : IV) (h15 : Hp) (ih : Handler) (x19 : IV) (x21 : IV) (j1_25 : IV → Hp → Option (IV × Hp)) : Option (IV × Hp) :=
  subS EE 3 x38 (.fv (.int .i64 1)) fun x39 => subS EE 3 x39 x22 fun x40 => ixS 4 x16 x40 fun x41 => faddrS 1 x41 fun x42 => loadA 3 x42 h15 fun x43 _ => S97_138 x22 ih h15 x43 x19 x21 j1_25
noncomputable def S97_140 (x33 : IV) (h15 : Hp) (x17 : IV) (j1_25 : IV → Hp → Option (IV × Hp)) (x21 : IV) (x16 : IV) (x22 : IV) (ih : Handler) (x19 : IV) : Option (IV × Hp) :=
  faddrS 0 x33 fun x34 => load1 x34 h15 fun x35 _ => neS EE 3 x35 x17 fun x37 => condS x37 (j1_25 x21 h15) (lenS x16 fun x38 => S97_139 x38 x22 x16 h15 ih x19 x21 j1_25)
noncomputable def S97_141 (x22 : IV) (h4 : Hp) (x16 : IV) (x17 : IV) (x18 : IV) (x19 : IV) (x20 : IV) (q13 : List IV → Hp → Option (IV × Hp)) (h15 : Hp) (x21 : IV) (ih : Handler) : Option (IV × Hp) :=
  (fun (j1_25 : IV → Hp → Option (IV × Hp)) => lenS x16 fun x30 => subS EE 3 x30 (.fv (.int .i64 1)) fun x31 => subS EE 3 x31 x22 fun x32 => ixS 4 x16 x32 fun x33 => S97_140 x33 h15 x17 j1_25 x21 x16 x22 ih x19) fun x26 h27 => S97_133 x22 h4 h27 x16 x17 x18 x19 x20 x26 q13
noncomputable def S97_142 (h15 : Hp) (x20 : IV) (x104 : IV) : Option (IV × Hp) :=
  storeA 3 x20 x104 h15 fun h105 _ _ => cellS true 3 x20 h105 fun x108 => outS1 [x108, .fv (.bool false)] h105
noncomputable def S97_143 (h121 : Hp) (x20 : IV) : Option (IV × Hp) :=
  cellS true 3 x20 h121 fun x124 => outS1 [x124, .fv (.bool true)] h121
noncomputable def S97_144 (ih : Handler) (h15 : Hp) (x18 : IV) (x109 : IV) (x21 : IV) (x20 : IV) : Option (IV × Hp) :=
  isoS [] false false ih 41 [x18, x109] h15 fun x110 h111 _ _ => ixS 1 x21 x110 fun x114 => load1 x114 h111 fun x115 _ => isoS [] false false ih 29 [x115] h111 fun x117 h118 _ _ => storeA 3 x20 x117 h118 fun h121 _ _ => S97_143 h121 x20
noncomputable def S97_145 (x21 : IV) (h15 : Hp) (x20 : IV) (ih : Handler) (x18 : IV) : Option (IV × Hp) :=
  lenS x21 fun x102 => eqS EE 3 x102 (.fv (.int .i64 0)) fun x103 => condS x103 (bldS [.fv (.int .i64 0), .fv (.int .i64 0), .nils] [] fun x104 => S97_142 h15 x20 x104) (lenS x21 fun x109 => S97_144 ih h15 x18 x109 x21 x20)
noncomputable def S97_146 (l129 : List IV) (x16 : IV) (h4 : Hp) (x17 : IV) (x18 : IV) (x19 : IV) (x20 : IV) (q13 : List IV → Hp → Option (IV × Hp)) (h15 : Hp) (ih : Handler) : Option (IV × Hp) :=
  uncS l129 fun x21 l130 => uncS l130 fun x22 _ => lenS x16 fun x23 => ltS EE 3 x22 x23 fun x24 => condS x24 (S97_141 x22 h4 x16 x17 x18 x19 x20 q13 h15 x21 ih) (S97_145 x21 h15 x20 ih x18)
noncomputable def S97_147 (l14 : List IV) (h4 : Hp) (q13 : List IV → Hp → Option (IV × Hp)) (h15 : Hp) (ih : Handler) : Option (IV × Hp) :=
  uncS l14 fun x16 l125 => uncS l125 fun x17 l126 => uncS l126 fun x18 l127 => uncS l127 fun x19 l128 => uncS l128 fun x20 l129 => S97_146 l129 x16 h4 x17 x18 x19 x20 q13 h15 ih
noncomputable def S97 (ih : Handler) (n : Nat) (x0 : IV) (x1 : IV) (x2 : IV) (x3 : IV) (h4 : Hp) : Option (IV × Hp) :=
  boxS 101711872 x2 h4 fun x5 h6 _ _ => newS 101711873 (.row [.fv (.int .i64 0), .fv (.int .i64 0), .nils] false) (.ptr (.own 101711873) 0) h6 fun x9 h10 _ _ => dropS (h4.own.map (·.1)) [101718032, 101720067] [x0, x1, x3, x5, x9, .nils, .fv (.int .i64 0)] h10 fun h132 => loopS n (fun q13 l14 h15 => S97_147 l14 h4 q13 h15 ih) [x0, x1, x3, x5, x9, .nils, .fv (.int .i64 0)] h132
theorem S97_ok (ih : Handler) (n : Nat) (x0 : IV) (x1 : IV) (x2 : IV) (x3 : IV) (h4 : Hp) : funS EE ih ft.get n 97 [x0, x1, x2, x3] h4 = S97 ih n x0 x1 x2 x3 h4 := by kernel_rfl
end Idl
end Go.Proofs.Ytdibmackcbpniaa

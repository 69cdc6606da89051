/-
  THE SHALLOW FORM OF THE SEAT'S FUNCTIONS, a part; each is what its code's shallow run is. Printed by a program of mine (gen-sh). No statement is proved here.
-/
import Derived.Test.YtdibmackcbpniaaTab
import Derived.Test.YtdibmackcbpniaaIdl31
set_option maxRecDepth 100000
set_option linter.unusedVariables false
namespace Go.Proofs.Ytdibmackcbpniaa
namespace Idl
/-! thyrsus/thyrsuslaw11.known -/
noncomputable def S11_52 (h35 : Hp) (x38 : IV) (x11 : IV) (ih : Handler) : Option (IV × Hp) :=
  guardS x38 true h35 (fun k39 => loadA 3 x11 h35 fun x40 r41 => k39 x40 h35 r41 []) fun x42 h43 _ _ => guardS x38 true h43 (fun k46 => isoS [] false false ih 20 [x42] h43 k46) fun x47 h48 _ _ => pickS x38 x47 (.fv (.bool false)) fun x51 => outS1 [x51] h48
noncomputable def S11_53 (x10 : IV) (h15 : Hp) (x11 : IV) (ih : Handler) : Option (IV × Hp) :=
  eqS EE 35 x10 (.fv (.int .i64 0)) fun x18 => guardS x18 true h15 (fun k19 => faddrS 0 x11 fun x20 => k19 x20 h15 [] []) fun x21 h22 _ _ => guardS x18 true h22 (fun k25 => load1 x21 h22 fun x26 r27 => k25 x26 h22 r27 []) fun x28 h29 _ _ => guardS x18 true h29 (fun k32 => eqS EE 3 x28 (.fv (.int .i64 15)) fun x33 => k32 x33 h29 [] []) fun x34 h35 _ _ => pickS x18 x34 (.fv (.bool false)) fun x38 => S11_52 h35 x38 x11 ih
noncomputable def S11 (ih : Handler) (n : Nat) (h0 : Hp) : Option (IV × Hp) :=
  isoS [] false false ih 31 [.fv (.int .i64 5)] h0 fun x1 h2 _ _ => isoS [] false false ih 17 [.nils, x1] h2 fun x5 h6 _ _ => extS 0 x5 fun x9 => extS 1 x5 fun x10 => newS 11535365 (.row [.fv (.int .i64 0), .fv (.int .i64 0), .nils] false) (.ptr (.own 11535365) 0) h6 fun x11 h12 _ _ => storeA 3 x11 x9 h12 fun h15 _ _ => S11_53 x10 h15 x11 ih
theorem S11_ok (ih : Handler) (n : Nat) (h0 : Hp) : funS EE ih ft.get n 11 [] h0 = S11 ih n h0 := by kernel_rfl
/-! thyrsus/thyrsuslaw1.Few -/
noncomputable def S12 (ih : Handler) (n : Nat) (x0 : IV) (h1 : Hp) : Option (IV × Hp) :=
  boxS 12582912 x0 h1 fun x2 h3 _ _ => loadA 3 x2 h3 fun x6 _ => isoS [] false false ih 40 [x6, .fv (.int .i64 300)] h3 fun x8 h9 _ _ => ltS EE 3 x8 (.fv (.int .i64 300)) fun x12 => outS1 [x12] h9
theorem S12_ok (ih : Handler) (n : Nat) (x0 : IV) (h1 : Hp) : funS EE ih ft.get n 12 [x0] h1 = S12 ih n x0 h1 := by kernel_rfl
/-! thyrsus/thyrsuslaw5.Many -/
noncomputable def S13_22 (x6 : IV) (q2 : List IV → Hp → Option (IV × Hp)) (h13 : Hp) (x5 : IV) : Option (IV × Hp) :=
  addS EE 3 x6 (.fv (.int .i64 1)) fun x17 => q2 [x5, x17] h13
noncomputable def S13_23 (x5 : IV) (x6 : IV) (h4 : Hp) (ih : Handler) (q2 : List IV → Hp → Option (IV × Hp)) : Option (IV × Hp) :=
  ixS 3 x5 x6 fun x9 => loadA 3 x9 h4 fun x10 _ => isoS [] false false ih 12 [x10] h4 fun x12 h13 _ _ => optS (unR .not x12) fun x16 => condS x16 (outS1 [.fv (.bool false)] h13) (S13_22 x6 q2 h13 x5)
noncomputable def S13_24 (x5 : IV) (h4 : Hp) : Option (IV × Hp) :=
  lenS x5 fun x18 => leS EE 3 x18 (.fv (.int .i64 6)) fun x19 => outS1 [x19] h4
noncomputable def S13_25 (l3 : List IV) (h4 : Hp) (ih : Handler) (q2 : List IV → Hp → Option (IV × Hp)) : Option (IV × Hp) :=
  uncS l3 fun x5 l20 => uncS l20 fun x6 _ => lenS x5 fun x7 => ltS EE 3 x6 x7 fun x8 => condS x8 (S13_23 x5 x6 h4 ih q2) (S13_24 x5 h4)
noncomputable def S13 (ih : Handler) (n : Nat) (x0 : IV) (h1 : Hp) : Option (IV × Hp) :=
  loopS n (fun q2 l3 h4 => S13_25 l3 h4 ih q2) [x0, .fv (.int .i64 0)] h1
theorem S13_ok (ih : Handler) (n : Nat) (x0 : IV) (h1 : Hp) : funS EE ih ft.get n 13 [x0] h1 = S13 ih n x0 h1 := by kernel_rfl
/-! thyrsus/thyrsuslaw4.Plain -/
noncomputable def S14_75 (h32 : Hp) (x7 : IV) (x31 : IV) : Option (IV × Hp) :=
  storeA 3 x7 x31 h32 fun h35 _ _ => cellS true 3 x7 h35 fun x38 => outS1 [x38] h35
noncomputable def S14_76 (r72 : List Ref) (w73 : List Ref) (h71 : Hp) (x7 : IV) : Option (IV × Hp) :=
  chkS [] r72 w73 (cellS true 3 x7 h71 fun x74 => outS1 [x74] h71)
noncomputable def S14_77 (h60 : Hp) (x48 : IV) (x59 : IV) (ih : Handler) (x40 : IV) (x7 : IV) : Option (IV × Hp) :=
  genS (pcBuildSlice EE 28 2 [(0, x48), (1, x59)]) 14684173 h60 fun x63 h64 r65 w66 => chkS [] r65 w66 (isoS [] false false ih 30 [x40, x63] h64 fun x67 h68 r69 w70 => chkS [] r69 w70 (storeA 3 x7 x67 h68 fun h71 r72 w73 => S14_76 r72 w73 h71 x7))
noncomputable def S14_78 (ih : Handler) (h49 : Hp) (x52 : IV) (x1 : IV) (x48 : IV) (x40 : IV) (x7 : IV) : Option (IV × Hp) :=
  isoS [] false false ih 42 [x52, .fv (.int .i64 1)] h49 fun x54 h55 r56 w57 => chkS [] r56 w57 (subS EE 3 x1 (.fv (.int .i64 1)) fun x58 => isoS [] false false ih 14 [x54, x58] h55 fun x59 h60 r61 w62 => chkS [] r61 w62 (S14_77 h60 x48 x59 ih x40 x7))
noncomputable def S14_79 (x1 : IV) (ih : Handler) (h44 : Hp) (x43 : IV) (x3 : IV) (r45 : List Ref) (w46 : List Ref) (r42 : List Ref) (x40 : IV) (x7 : IV) : Option (IV × Hp) :=
  subS EE 3 x1 (.fv (.int .i64 1)) fun x47 => isoS [] false false ih 14 [x43, x47] h44 fun x48 h49 r50 w51 => chkS [] r50 w51 (loadA 3 x3 h49 fun x52 r53 => chkS [(r50, w51), (r45, w46), (r42, [])] r53 [] (S14_78 ih h49 x52 x1 x48 x40 x7))
noncomputable def S14_80 (x39 : IV) (h27 : Hp) (x3 : IV) (ih : Handler) (x1 : IV) (x7 : IV) : Option (IV × Hp) :=
  subS EE 3 x39 (.fv (.int .i64 2)) fun x40 => loadA 3 x3 h27 fun x41 r42 => chkS [] r42 [] (isoS [] false false ih 42 [x41, .fv (.int .i64 0)] h27 fun x43 h44 r45 w46 => chkS [] r45 w46 (S14_79 x1 ih h44 x43 x3 r45 w46 r42 x40 x7))
noncomputable def S14_81 (h15 : Hp) (x18 : IV) (x14 : IV) (ih : Handler) (x7 : IV) (x3 : IV) (x1 : IV) : Option (IV × Hp) :=
  guardS x18 false h15 (fun k19 => k19 x14 h15 [] []) fun x20 h21 _ _ => guardS x18 false h21 (fun k24 => ltS EE 3 x20 (.fv (.int .i64 2)) fun x25 => k24 x25 h21 [] []) fun x26 h27 _ _ => pickS x18 (.fv (.bool true)) x26 fun x30 => condS x30 (isoS [] false false ih 30 [.fv (.int .i64 15), .nils] h27 fun x31 h32 _ _ => S14_75 h32 x7 x31) (addS EE 3 (.fv (.int .i64 16)) x14 fun x39 => S14_80 x39 h27 x3 ih x1 x7)
noncomputable def S14 (ih : Handler) (n : Nat) (x0 : IV) (x1 : IV) (h2 : Hp) : Option (IV × Hp) :=
  boxS 14680064 x0 h2 fun x3 h4 _ _ => newS 14680065 (.row [.fv (.int .i64 0), .fv (.int .i64 0), .nils] false) (.ptr (.own 14680065) 0) h4 fun x7 h8 _ _ => faddrS 1 x3 fun x11 => load1 x11 h8 fun x12 _ => isoS [] false false ih 41 [x12, .fv (.int .i64 4)] h8 fun x14 h15 _ _ => leS EE 3 x1 (.fv (.int .i64 0)) fun x18 => S14_81 h15 x18 x14 ih x7 x3 x1
theorem S14_ok (ih : Handler) (n : Nat) (x0 : IV) (x1 : IV) (h2 : Hp) : funS EE ih ft.get n 14 [x0, x1] h2 = S14 ih n x0 x1 h2 := by kernel_rfl
/-! thyrsus/thyrsuslaw11.Code -/
noncomputable def S15_86 (r54 : List Ref) (w55 : List Ref) (h53 : Hp) (x11 : IV) (x15 : IV) : Option (IV × Hp) :=
  chkS [] r54 w55 (cellS true 3 x11 h53 fun x56 => cellS true 3 x15 h53 fun x57 => outS1 [x56, x57, .fv (.bool false)] h53)
noncomputable def S15_87 (h42 : Hp) (x31 : IV) (r47 : List Ref) (x11 : IV) (x46 : IV) (x15 : IV) : Option (IV × Hp) :=
  loadA 3 x31 h42 fun x48 r49 => chkS [(r47, [])] r49 [] (storeA 3 x11 x46 h42 fun h50 r51 w52 => chkS [(r49, [])] r51 w52 (storeA 3 x15 x48 h50 fun h53 r54 w55 => S15_86 r54 w55 h53 x11 x15))
noncomputable def S15_88 (r79 : List Ref) (w80 : List Ref) (r76 : List Ref) (h78 : Hp) (x15 : IV) (x75 : IV) (x11 : IV) (x77 : IV) : Option (IV × Hp) :=
  chkS [(r76, [])] r79 w80 (storeA 3 x15 x75 h78 fun h81 r82 w83 => chkS [] r82 w83 (cellS true 3 x11 h81 fun x84 => cellS true 3 x15 h81 fun x85 => outS1 [x84, x85, x77] h81))
noncomputable def S15_89 (r74 : List Ref) (h70 : Hp) (x31 : IV) (x65 : IV) (x11 : IV) (x73 : IV) (x15 : IV) : Option (IV × Hp) :=
  chkS [] r74 [] (loadA 3 x31 h70 fun x75 r76 => chkS [(r74, [])] r76 [] (eqS EE 3 x65 (.fv (.int .i64 0)) fun x77 => storeA 3 x11 x73 h70 fun h78 r79 w80 => S15_88 r79 w80 r76 h78 x15 x75 x11 x77))
noncomputable def S15_90 (x60 : IV) (h61 : Hp) (x31 : IV) (x11 : IV) (x15 : IV) : Option (IV × Hp) :=
  extS 0 x60 fun x64 => extS 1 x60 fun x65 => newS 15732741 (.row [.fv (.int .i64 0), .fv (.int .i64 0), .nils] false) (.ptr (.own 15732741) 0) h61 fun x66 h67 _ _ => storeA 3 x66 x64 h67 fun h70 _ _ => loadA 3 x66 h70 fun x73 r74 => S15_89 r74 h70 x31 x65 x11 x73 x15
noncomputable def S15_91 (x45 : IV) (h42 : Hp) (x35 : IV) (x31 : IV) (x11 : IV) (x15 : IV) (ih : Handler) : Option (IV × Hp) :=
  condS x45 (loadA 3 x35 h42 fun x46 r47 => chkS [] r47 [] (S15_87 h42 x31 r47 x11 x46 x15)) (loadA 3 x35 h42 fun x58 _ => isoS [] false false ih 44 [x58] h42 fun x60 h61 _ _ => S15_90 x60 h61 x31 x11 x15)
noncomputable def S15_92 (h24 : Hp) (x28 : IV) (x29 : IV) (x30 : IV) (x11 : IV) (x15 : IV) (ih : Handler) : Option (IV × Hp) :=
  newS 15729672 (.row [.fv (.int .i64 0), .fv (.int .i64 0), .nils] false) (.ptr (.own 15729672) 0) h24 fun x31 h32 _ _ => newS 15729673 (.row [.fv (.int .i64 0), .fv (.int .i64 0), .nils] false) (.ptr (.own 15729673) 0) h32 fun x35 h36 _ _ => storeA 3 x31 x28 h36 fun h39 _ _ => storeA 3 x35 x29 h39 fun h42 _ _ => optS (unR .not x30) fun x45 => S15_91 x45 h42 x35 x31 x11 x15 ih
noncomputable def S15_93 (ih : Handler) (h16 : Hp) (x19 : IV) (x21 : IV) (x11 : IV) (x15 : IV) : Option (IV × Hp) :=
  isoS [] false false ih 43 [.nils, x19, x21, .fv (.bool true)] h16 fun x23 h24 _ _ => extS 0 x23 fun _ => extS 1 x23 fun x28 => extS 2 x23 fun x29 => extS 3 x23 fun x30 => S15_92 h24 x28 x29 x30 x11 x15 ih
noncomputable def S15 (ih : Handler) (n : Nat) (x0 : IV) (x1 : IV) (h2 : Hp) : Option (IV × Hp) :=
  boxS 15728640 x0 h2 fun x3 h4 _ _ => boxS 15728641 x1 h4 fun x7 h8 _ _ => newS 15728642 (.row [.fv (.int .i64 0), .fv (.int .i64 0), .nils] false) (.ptr (.own 15728642) 0) h8 fun x11 h12 _ _ => newS 15728643 (.row [.fv (.int .i64 0), .fv (.int .i64 0), .nils] false) (.ptr (.own 15728643) 0) h12 fun x15 h16 _ _ => loadA 3 x3 h16 fun x19 _ => loadA 3 x7 h16 fun x21 _ => S15_93 ih h16 x19 x21 x11 x15
theorem S15_ok (ih : Handler) (n : Nat) (x0 : IV) (x1 : IV) (h2 : Hp) : funS EE ih ft.get n 15 [x0, x1] h2 = S15 ih n x0 x1 h2 := by kernel_rfl
/-! thyrsus/thyrsuslaw1.Make -/
noncomputable def S16_172 (x42 : IV) (h3 : Hp) (h76 : Hp) (x36 : IV) (x37 : IV) (x38 : IV) (x39 : IV) (x40 : IV) (x41 : IV) (q33 : List IV → Hp → Option (IV × Hp)) : Option (IV × Hp) :=
  addS EE 3 x42 (.fv (.int .i64 1)) fun x79 => dropS (h3.own.map (·.1)) [16794638] [x36, x37, x38, x39, x40, x41, x79] h76 fun h80 => q33 [x36, x37, x38, x39, x40, x41, x79] h80
noncomputable def S16_173 (h68 : Hp) (x49 : IV) (x67 : IV) (x41 : IV) (x42 : IV) (h3 : Hp) (x36 : IV) (x37 : IV) (x38 : IV) (x39 : IV) (x40 : IV) (q33 : List IV → Hp → Option (IV × Hp)) : Option (IV × Hp) :=
  genS (builtinR EE 16794638 false .append [28, 28] [x49, x67]) 16794638 h68 fun x71 h72 r73 w74 => chkS [] r73 w74 (faddrS 2 x41 fun x75 => store1 x75 x71 h72 fun h76 r77 w78 => chkS [] r77 w78 (S16_172 x42 h3 h76 x36 x37 x38 x39 x40 x41 q33))
noncomputable def S16_174 (x37 : IV) (x58 : IV) (ih : Handler) (h59 : Hp) (x53 : IV) (x57 : IV) (r50 : List Ref) (x49 : IV) (x41 : IV) (x42 : IV) (h3 : Hp) (x36 : IV) (x38 : IV) (x39 : IV) (x40 : IV) (q33 : List IV → Hp → Option (IV × Hp)) : Option (IV × Hp) :=
  addS EE 3 x37 x58 fun x62 => isoS [] false false ih 16 [x53, x57, x62] h59 fun x63 h64 r65 w66 => chkS [(r50, [])] r65 w66 (genS (pcBuildSlice EE 28 1 [(0, x63)]) 16794637 h64 fun x67 h68 r69 w70 => chkS [(r50, [])] r69 w70 (S16_173 h68 x49 x67 x41 x42 h3 x36 x37 x38 x39 x40 q33))
noncomputable def S16_175 (ih : Handler) (h44 : Hp) (x51 : IV) (x42 : IV) (r50 : List Ref) (x36 : IV) (x40 : IV) (x37 : IV) (x49 : IV) (x41 : IV) (h3 : Hp) (x38 : IV) (x39 : IV) (q33 : List IV → Hp → Option (IV × Hp)) : Option (IV × Hp) :=
  isoS [] false false ih 47 [x51, x42] h44 fun x53 h54 r55 w56 => chkS [(r50, [])] r55 w56 (subS EE 3 x36 (.fv (.int .i64 1)) fun x57 => isoS [] false false ih 48 [x40, x42] h54 fun x58 h59 r60 w61 => chkS [(r50, [])] r60 w61 (S16_174 x37 x58 ih h59 x53 x57 r50 x49 x41 x42 h3 x36 x38 x39 x40 q33))
noncomputable def S16_176 (x41 : IV) (h44 : Hp) (x38 : IV) (ih : Handler) (x42 : IV) (x36 : IV) (x40 : IV) (x37 : IV) (h3 : Hp) (x39 : IV) (q33 : List IV → Hp → Option (IV × Hp)) : Option (IV × Hp) :=
  faddrS 2 x41 fun x48 => load1 x48 h44 fun x49 r50 => chkS [] r50 [] (loadA 3 x38 h44 fun x51 r52 => chkS [(r50, [])] r52 [] (S16_175 ih h44 x51 x42 r50 x36 x40 x37 x49 x41 h3 x38 x39 q33))
noncomputable def S16_177 (h44 : Hp) (x41 : IV) (x39 : IV) : Option (IV × Hp) :=
  loadA 3 x41 h44 fun x81 _ => storeA 3 x39 x81 h44 fun h83 _ _ => cellS true 3 x39 h83 fun x86 => outS1 [x86] h83
noncomputable def S16_178 (l91 : List IV) (ih : Handler) (h35 : Hp) (x40 : IV) (x38 : IV) (x36 : IV) (x37 : IV) (h3 : Hp) (x39 : IV) (q33 : List IV → Hp → Option (IV × Hp)) : Option (IV × Hp) :=
  uncS l91 fun x41 l92 => uncS l92 fun x42 _ => isoS [] false false ih 46 [x40] h35 fun x43 h44 _ _ => ltS EE 3 x42 x43 fun x47 => condS x47 (S16_176 x41 h44 x38 ih x42 x36 x40 x37 h3 x39 q33) (S16_177 h44 x41 x39)
noncomputable def S16_179 (l34 : List IV) (ih : Handler) (h35 : Hp) (h3 : Hp) (q33 : List IV → Hp → Option (IV × Hp)) : Option (IV × Hp) :=
  uncS l34 fun x36 l87 => uncS l87 fun x37 l88 => uncS l88 fun x38 l89 => uncS l89 fun x39 l90 => uncS l90 fun x40 l91 => S16_178 l91 ih h35 x40 x38 x36 x37 h3 x39 q33
noncomputable def S16_180 (h3 : Hp) (h32 : Hp) (x1 : IV) (x2 : IV) (x4 : IV) (x8 : IV) (x21 : IV) (x24 : IV) (n : Nat) (ih : Handler) : Option (IV × Hp) :=
  dropS (h3.own.map (·.1)) [16794638] [x1, x2, x4, x8, x21, x24, .fv (.int .i64 0)] h32 fun h94 => loopS n (fun q33 l34 h35 => S16_179 l34 ih h35 h3 q33) [x1, x2, x4, x8, x21, x24, .fv (.int .i64 0)] h94
noncomputable def S16_181 (x2 : IV) (ih : Handler) (h28 : Hp) (x97 : IV) (x24 : IV) (j0_31 : Hp → Option (IV × Hp)) : Option (IV × Hp) :=
  addS EE 3 x2 (.fv (.int .i64 1)) fun x99 => isoS [] false false ih 45 [x97, x99] h28 fun x100 h101 _ _ => faddrS 1 x24 fun x104 => store1 x104 x100 h101 fun h105 _ _ => j0_31 h105
noncomputable def S16_182 (x4 : IV) (h28 : Hp) (ih : Handler) (x24 : IV) (j0_31 : Hp → Option (IV × Hp)) : Option (IV × Hp) :=
  faddrS 1 x4 fun x109 => load1 x109 h28 fun x110 _ => isoS [] false false ih 45 [x110, .fv (.int .i64 3)] h28 fun x112 h113 _ _ => faddrS 1 x24 fun x116 => store1 x116 x112 h113 fun h117 _ _ => j0_31 h117
noncomputable def S16_183 (ih : Handler) (h28 : Hp) (x122 : IV) (x24 : IV) (j0_31 : Hp → Option (IV × Hp)) : Option (IV × Hp) :=
  isoS [] false false ih 45 [x122, .fv (.int .i64 5)] h28 fun x124 h125 _ _ => faddrS 1 x24 fun x128 => store1 x128 x124 h125 fun h129 _ _ => j0_31 h129
noncomputable def S16_184 (x4 : IV) (h28 : Hp) (x24 : IV) (j0_31 : Hp → Option (IV × Hp)) : Option (IV × Hp) :=
  faddrS 1 x4 fun x133 => load1 x133 h28 fun x134 _ => faddrS 1 x24 fun x136 => store1 x136 x134 h28 fun h137 _ _ => j0_31 h137
noncomputable def S16_185 (x21 : IV) (x4 : IV) (h28 : Hp) (ih : Handler) (x24 : IV) (j0_31 : Hp → Option (IV × Hp)) : Option (IV × Hp) :=
  eqS EE 3 x21 (.fv (.int .i64 26)) fun x120 => condS x120 (faddrS 1 x4 fun x121 => load1 x121 h28 fun x122 _ => S16_183 ih h28 x122 x24 j0_31) (eqS EE 3 x21 (.fv (.int .i64 25)) fun x132 => condS x132 (S16_184 x4 h28 x24 j0_31) (j0_31 h28))
noncomputable def S16_186 (x95 : IV) (x4 : IV) (h28 : Hp) (x2 : IV) (ih : Handler) (x24 : IV) (j0_31 : Hp → Option (IV × Hp)) (x21 : IV) : Option (IV × Hp) :=
  condS x95 (faddrS 1 x4 fun x96 => load1 x96 h28 fun x97 _ => S16_181 x2 ih h28 x97 x24 j0_31) (eqS EE 3 x21 (.fv (.int .i64 2)) fun x108 => condS x108 (S16_182 x4 h28 ih x24 j0_31) (S16_185 x21 x4 h28 ih x24 j0_31))
noncomputable def S16_187 (x21 : IV) (h22 : Hp) (h3 : Hp) (x1 : IV) (x2 : IV) (x4 : IV) (x8 : IV) (n : Nat) (ih : Handler) : Option (IV × Hp) :=
  bldS [.fv (.int .i64 0), .fv (.int .i64 0), .nils] [(0, 1, x21)] fun x23 => newS 16781314 (.row [.fv (.int .i64 0), .fv (.int .i64 0), .nils] false) (.ptr (.own 16781314) 0) h22 fun x24 h25 _ _ => storeA 3 x24 x23 h25 fun h28 _ _ => (fun (j0_31 : Hp → Option (IV × Hp)) => eqS EE 3 x21 (.fv (.int .i64 1)) fun x95 => S16_186 x95 x4 h28 x2 ih x24 j0_31 x21) fun h32 => S16_180 h3 h32 x1 x2 x4 x8 x21 x24 n ih
noncomputable def S16_188 (h159 : Hp) (x162 : IV) (ih : Handler) (x158 : IV) (j1_20 : IV → Hp → Option (IV × Hp)) : Option (IV × Hp) :=
  load1 x162 h159 fun x163 _ => isoS [] false false ih 45 [x163, .fv (.int .i64 5)] h159 fun x165 h166 _ _ => ixS 1 x158 x165 fun x169 => load1 x169 h166 fun x170 _ => j1_20 x170 h166
noncomputable def S16_189 (x140 : IV) (x153 : IV) (h154 : Hp) (x4 : IV) (ih : Handler) (j1_20 : IV → Hp → Option (IV × Hp)) (x19 : IV) : Option (IV × Hp) :=
  pickS x140 x153 (.fv (.bool false)) fun x157 => condS x157 (genS (pcBuildSlice EE 51 5 [(0, .fv (.int .i64 1)), (1, .fv (.int .i64 11)), (2, .fv (.int .i64 25)), (3, .fv (.int .i64 15)), (4, .fv (.int .i64 10))]) 16780288 h154 fun x158 h159 _ _ => faddrS 0 x4 fun x162 => S16_188 h159 x162 ih x158 j1_20) (j1_20 x19 h154)
noncomputable def S16_190 (h3 : Hp) (x1 : IV) (x2 : IV) (x4 : IV) (x8 : IV) (n : Nat) (ih : Handler) (h16 : Hp) (x19 : IV) : Option (IV × Hp) :=
  (fun (j1_20 : IV → Hp → Option (IV × Hp)) => leS EE 3 x1 (.fv (.int .i64 0)) fun x140 => guardS x140 true h16 (fun k141 => k141 x19 h16 [] []) fun x142 h143 _ _ => guardS x140 true h143 (fun k146 => isoS [] false false ih 46 [x142] h143 k146) fun x147 h148 _ _ => guardS x140 true h148 (fun k151 => gtS EE 3 x147 (.fv (.int .i64 0)) fun x152 => k151 x152 h148 [] []) fun x153 h154 _ _ => S16_189 x140 x153 h154 x4 ih j1_20 x19) fun x21 h22 => S16_187 x21 h22 h3 x1 x2 x4 x8 n ih
noncomputable def S16 (ih : Handler) (n : Nat) (x0 : IV) (x1 : IV) (x2 : IV) (h3 : Hp) : Option (IV × Hp) :=
  boxS 16777216 x0 h3 fun x4 h5 _ _ => newS 16777217 (.row [.fv (.int .i64 0), .fv (.int .i64 0), .nils] false) (.ptr (.own 16777217) 0) h5 fun x8 h9 _ _ => faddrS 0 x4 fun x12 => load1 x12 h9 fun x13 _ => isoS [] false false ih 45 [x13, .fv (.int .i64 30)] h9 fun x15 h16 _ _ => addS EE 3 (.fv (.int .i64 1)) x15 fun x19 => S16_190 h3 x1 x2 x4 x8 n ih h16 x19
theorem S16_ok (ih : Handler) (n : Nat) (x0 : IV) (x1 : IV) (x2 : IV) (h3 : Hp) : funS EE ih ft.get n 16 [x0, x1, x2] h3 = S16 ih n x0 x1 x2 h3 := by kernel_rfl
/-! thyrsus/obj.Infer -/
noncomputable def S17_65 (h25 : Hp) (x7 : IV) (x29 : IV) : Option (IV × Hp) :=
  storeA 3 x7 x29 h25 fun h30 _ _ => cellS true 3 x7 h30 fun x33 => outS1 [x33, .fv (.int .i64 1)] h30
noncomputable def S17_66 (h51 : Hp) (x7 : IV) (x41 : IV) : Option (IV × Hp) :=
  cellS true 3 x7 h51 fun x54 => outS1 [x54, x41] h51
noncomputable def S17_67 (h58 : Hp) (x7 : IV) (x57 : IV) : Option (IV × Hp) :=
  storeA 3 x7 x57 h58 fun h61 _ _ => cellS true 3 x7 h61 fun x64 => outS1 [x64, .fv (.int .i64 0)] h61
noncomputable def S17_68 (x41 : IV) (h46 : Hp) (x7 : IV) (x42 : IV) (ih : Handler) : Option (IV × Hp) :=
  neS EE 35 x41 (.fv (.int .i64 0)) fun x49 => condS x49 (bldS [.fv (.int .i64 0), .fv (.int .i64 0), .nils] [] fun x50 => storeA 3 x7 x50 h46 fun h51 _ _ => S17_66 h51 x7 x41) (loadA 3 x42 h46 fun x55 _ => isoS [] false false ih 54 [x55] h46 fun x57 h58 _ _ => S17_67 h58 x7 x57)
noncomputable def S17_69 (ih : Handler) (h25 : Hp) (x0 : IV) (x34 : IV) (x7 : IV) : Option (IV × Hp) :=
  isoS [] false false ih 53 [x0, x34] h25 fun x36 h37 _ _ => extS 0 x36 fun x40 => extS 1 x36 fun x41 => newS 17828870 (.row [.fv (.int .i64 0), .fv (.int .i64 0), .nils] false) (.ptr (.own 17828870) 0) h37 fun x42 h43 _ _ => storeA 3 x42 x40 h43 fun h46 _ _ => S17_68 x41 h46 x7 x42 ih
noncomputable def S17_70 (h20 : Hp) (x17 : IV) (ih : Handler) (x19 : IV) (x7 : IV) (x3 : IV) (x0 : IV) : Option (IV × Hp) :=
  guardS x17 false h20 (fun k23 => isoS [] false false ih 50 [x19, .fv (.func (.func 51) [] [])] h20 k23) fun x24 h25 _ _ => pickS x17 (.fv (.bool true)) x24 fun x28 => condS x28 (bldS [.fv (.int .i64 0), .fv (.int .i64 0), .nils] [] fun x29 => S17_65 h25 x7 x29) (loadA 3 x3 h25 fun x34 _ => S17_69 ih h25 x0 x34 x7)
noncomputable def S17 (ih : Handler) (n : Nat) (x0 : IV) (x1 : IV) (h2 : Hp) : Option (IV × Hp) :=
  boxS 17825792 x1 h2 fun x3 h4 _ _ => newS 17825793 (.row [.fv (.int .i64 0), .fv (.int .i64 0), .nils] false) (.ptr (.own 17825793) 0) h4 fun x7 h8 _ _ => loadA 3 x3 h8 fun x11 _ => isoS [] false false ih 49 [x11] h8 fun x13 h14 _ _ => neS EE 35 x13 (.fv (.int .i64 0)) fun x17 => guardS x17 false h14 (fun k18 => k18 x0 h14 [] []) fun x19 h20 _ _ => S17_70 h20 x17 ih x19 x7 x3 x0
theorem S17_ok (ih : Handler) (n : Nat) (x0 : IV) (x1 : IV) (h2 : Hp) : funS EE ih ft.get n 17 [x0, x1] h2 = S17 ih n x0 x1 h2 := by kernel_rfl
/-! thyrsus/thyrsusref4.Same -/
noncomputable def S18_128 (x101 : IV) (q96 : List IV → Hp → Option (IV × Hp)) (h120 : Hp) (x99 : IV) (x100 : IV) : Option (IV × Hp) :=
  addS EE 3 x101 (.fv (.int .i64 1)) fun x124 => q96 [x99, x100, x124] h120
noncomputable def S18_129 (r118 : List Ref) (r112 : List Ref) (r109 : List Ref) (ih : Handler) (h98 : Hp) (x111 : IV) (x117 : IV) (x101 : IV) (q96 : List IV → Hp → Option (IV × Hp)) (x99 : IV) (x100 : IV) : Option (IV × Hp) :=
  chkS [(r112, []), (r109, [])] r118 [] (isoS [] false false ih 18 [x111, x117] h98 fun x119 h120 r121 w122 => chkS [] r121 w122 (optS (unR .not x119) fun x123 => condS x123 (outS1 [.fv (.bool false)] h120) (S18_128 x101 q96 h120 x99 x100)))
noncomputable def S18_130 (x100 : IV) (h98 : Hp) (r112 : List Ref) (r109 : List Ref) (x101 : IV) (ih : Handler) (x111 : IV) (q96 : List IV → Hp → Option (IV × Hp)) (x99 : IV) : Option (IV × Hp) :=
  faddrS 2 x100 fun x113 => load1 x113 h98 fun x114 r115 => chkS [(r112, []), (r109, [])] r115 [] (ixS 3 x114 x101 fun x116 => loadA 3 x116 h98 fun x117 r118 => S18_129 r118 r112 r109 ih h98 x111 x117 x101 q96 x99 x100)
noncomputable def S18_131 (h98 : Hp) (x107 : IV) (x101 : IV) (x100 : IV) (ih : Handler) (q96 : List IV → Hp → Option (IV × Hp)) (x99 : IV) : Option (IV × Hp) :=
  load1 x107 h98 fun x108 r109 => chkS [] r109 [] (ixS 3 x108 x101 fun x110 => loadA 3 x110 h98 fun x111 r112 => chkS [] r112 [] (S18_130 x100 h98 r112 r109 x101 ih x111 q96 x99))
noncomputable def S18_132 (x103 : IV) (x101 : IV) (x99 : IV) (h98 : Hp) (x100 : IV) (ih : Handler) (q96 : List IV → Hp → Option (IV × Hp)) : Option (IV × Hp) :=
  lenS x103 fun x105 => ltS EE 3 x101 x105 fun x106 => condS x106 (faddrS 2 x99 fun x107 => S18_131 h98 x107 x101 x100 ih q96 x99) (outS1 [.fv (.bool true)] h98)
noncomputable def S18_133 (l97 : List IV) (h98 : Hp) (ih : Handler) (q96 : List IV → Hp → Option (IV × Hp)) : Option (IV × Hp) :=
  uncS l97 fun x99 l125 => uncS l125 fun x100 l126 => uncS l126 fun x101 _ => faddrS 2 x99 fun x102 => load1 x102 h98 fun x103 _ => S18_132 x103 x101 x99 h98 x100 ih q96
noncomputable def S18_134 (x95 : IV) (h92 : Hp) (n : Nat) (x3 : IV) (x7 : IV) (ih : Handler) : Option (IV × Hp) :=
  condS x95 (outS1 [.fv (.bool false)] h92) (loopS n (fun q96 l97 h98 => S18_133 l97 h98 ih q96) [x3, x7, .fv (.int .i64 0)] h92)
noncomputable def S18_135 (h67 : Hp) (x50 : IV) (x7 : IV) (x66 : IV) (n : Nat) (x3 : IV) (ih : Handler) : Option (IV × Hp) :=
  guardS x50 false h67 (fun k70 => faddrS 2 x7 fun x71 => k70 x71 h67 [] []) fun x72 h73 _ _ => guardS x50 false h73 (fun k76 => load1 x72 h73 fun x77 r78 => k76 x77 h73 r78 []) fun x79 h80 _ _ => guardS x50 false h80 (fun k83 => lenS x79 fun x84 => k83 x84 h80 [] []) fun x85 h86 _ _ => guardS x50 false h86 (fun k89 => neS EE 3 x66 x85 fun x90 => k89 x90 h86 [] []) fun x91 h92 _ _ => pickS x50 (.fv (.bool true)) x91 fun x95 => S18_134 x95 h92 n x3 x7 ih
noncomputable def S18_136 (h41 : Hp) (x17 : IV) (x27 : IV) (x40 : IV) (x3 : IV) (x7 : IV) (n : Nat) (ih : Handler) : Option (IV × Hp) :=
  guardS x17 false h41 (fun k44 => neS EE 3 x27 x40 fun x45 => k44 x45 h41 [] []) fun x46 h47 _ _ => pickS x17 (.fv (.bool true)) x46 fun x50 => guardS x50 false h47 (fun k51 => faddrS 2 x3 fun x52 => k51 x52 h47 [] []) fun x53 h54 _ _ => guardS x50 false h54 (fun k57 => load1 x53 h54 fun x58 r59 => k57 x58 h54 r59 []) fun x60 h61 _ _ => guardS x50 false h61 (fun k64 => lenS x60 fun x65 => k64 x65 h61 [] []) fun x66 h67 _ _ => S18_135 h67 x50 x7 x66 n x3 ih
noncomputable def S18_137 (x12 : IV) (x15 : IV) (h8 : Hp) (x3 : IV) (x7 : IV) (n : Nat) (ih : Handler) : Option (IV × Hp) :=
  neS EE 3 x12 x15 fun x17 => guardS x17 false h8 (fun k18 => faddrS 1 x3 fun x19 => k18 x19 h8 [] []) fun x20 h21 _ _ => guardS x17 false h21 (fun k24 => load1 x20 h21 fun x25 r26 => k24 x25 h21 r26 []) fun x27 h28 _ _ => guardS x17 false h28 (fun k31 => faddrS 1 x7 fun x32 => k31 x32 h28 [] []) fun x33 h34 _ _ => guardS x17 false h34 (fun k37 => load1 x33 h34 fun x38 r39 => k37 x38 h34 r39 []) fun x40 h41 _ _ => S18_136 h41 x17 x27 x40 x3 x7 n ih
noncomputable def S18 (ih : Handler) (n : Nat) (x0 : IV) (x1 : IV) (h2 : Hp) : Option (IV × Hp) :=
  boxS 18874368 x0 h2 fun x3 h4 _ _ => boxS 18874369 x1 h4 fun x7 h8 _ _ => faddrS 0 x3 fun x11 => load1 x11 h8 fun x12 _ => faddrS 0 x7 fun x14 => load1 x14 h8 fun x15 _ => S18_137 x12 x15 h8 x3 x7 n ih
theorem S18_ok (ih : Handler) (n : Nat) (x0 : IV) (x1 : IV) (h2 : Hp) : funS EE ih ft.get n 18 [x0, x1] h2 = S18 ih n x0 x1 h2 := by kernel_rfl
/-! thyrsus/thyrsusref11.Infer -/
noncomputable def S19_38 (h23 : Hp) (x7 : IV) (x27 : IV) (x18 : IV) : Option (IV × Hp) :=
  storeA 3 x7 x27 h23 fun h28 _ _ => cellS true 3 x7 h28 fun x31 => outS1 [x31, x18] h28
noncomputable def S19_39 (h23 : Hp) (x7 : IV) (x32 : IV) : Option (IV × Hp) :=
  storeA 3 x7 x32 h23 fun h34 _ _ => cellS true 3 x7 h34 fun x37 => outS1 [x37, .fv (.int .i64 0)] h34
noncomputable def S19_40 (h14 : Hp) (x17 : IV) (x18 : IV) (x7 : IV) : Option (IV × Hp) :=
  newS 19923974 (.row [.fv (.int .i64 0), .fv (.int .i64 0), .nils] false) (.ptr (.own 19923974) 0) h14 fun x19 h20 _ _ => storeA 3 x19 x17 h20 fun h23 _ _ => neS EE 3 x18 (.fv (.int .i64 0)) fun x26 => condS x26 (bldS [.fv (.int .i64 0), .fv (.int .i64 0), .nils] [] fun x27 => S19_38 h23 x7 x27 x18) (loadA 3 x19 h23 fun x32 _ => S19_39 h23 x7 x32)
noncomputable def S19 (ih : Handler) (n : Nat) (x0 : IV) (x1 : IV) (h2 : Hp) : Option (IV × Hp) :=
  boxS 19922944 x1 h2 fun x3 h4 _ _ => newS 19922945 (.row [.fv (.int .i64 0), .fv (.int .i64 0), .nils] false) (.ptr (.own 19922945) 0) h4 fun x7 h8 _ _ => loadA 3 x3 h8 fun x11 _ => isoS [] false false ih 55 [x0, x11] h8 fun x13 h14 _ _ => extS 0 x13 fun x17 => extS 1 x13 fun x18 => S19_40 h14 x17 x18 x7
theorem S19_ok (ih : Handler) (n : Nat) (x0 : IV) (x1 : IV) (h2 : Hp) : funS EE ih ft.get n 19 [x0, x1] h2 = S19 ih n x0 x1 h2 := by kernel_rfl
/-! thyrsus/obj.Type -/
noncomputable def S20 (ih : Handler) (n : Nat) (x0 : IV) (h1 : Hp) : Option (IV × Hp) :=
  boxS 20971520 x0 h1 fun x2 h3 _ _ => loadA 3 x2 h3 fun x6 _ => isoS [] false false ih 52 [x6] h3 fun x8 h9 _ _ => outS1 [x8] h9
theorem S20_ok (ih : Handler) (n : Nat) (x0 : IV) (h1 : Hp) : funS EE ih ft.get n 20 [x0] h1 = S20 ih n x0 h1 := by kernel_rfl
/-! thyrsus/thyrsusref11.Type -/
noncomputable def S21_74 (x54 : IV) (q50 : List IV → Hp → Option (IV × Hp)) (h67 : Hp) (x53 : IV) : Option (IV × Hp) :=
  addS EE 3 x54 (.fv (.int .i64 1)) fun x71 => q50 [x53, x71] h67
noncomputable def S21_75 (x61 : IV) (x54 : IV) (h52 : Hp) (ih : Handler) (q50 : List IV → Hp → Option (IV × Hp)) (x53 : IV) : Option (IV × Hp) :=
  ixS 3 x61 x54 fun x63 => loadA 3 x63 h52 fun x64 _ => isoS [] false false ih 21 [x64] h52 fun x66 h67 _ _ => optS (unR .not x66) fun x70 => condS x70 (outS1 [.fv (.bool false)] h67) (S21_74 x54 q50 h67 x53)
noncomputable def S21_76 (x54 : IV) (x58 : IV) (x53 : IV) (h52 : Hp) (ih : Handler) (q50 : List IV → Hp → Option (IV × Hp)) : Option (IV × Hp) :=
  ltS EE 3 x54 x58 fun x59 => condS x59 (faddrS 2 x53 fun x60 => load1 x60 h52 fun x61 _ => S21_75 x61 x54 h52 ih q50 x53) (outS1 [.fv (.bool true)] h52)
noncomputable def S21_77 (l51 : List IV) (h52 : Hp) (ih : Handler) (q50 : List IV → Hp → Option (IV × Hp)) : Option (IV × Hp) :=
  uncS l51 fun x53 l72 => uncS l72 fun x54 _ => faddrS 2 x53 fun x55 => load1 x55 h52 fun x56 _ => lenS x56 fun x58 => S21_76 x54 x58 x53 h52 ih q50
noncomputable def S21_78 (x29 : IV) (x45 : IV) (h46 : Hp) (n : Nat) (x2 : IV) (ih : Handler) : Option (IV × Hp) :=
  pickS x29 x45 (.fv (.bool false)) fun x49 => condS x49 (outS1 [.fv (.bool false)] h46) (loopS n (fun q50 l51 h52 => S21_77 l51 h52 ih q50) [x2, .fv (.int .i64 0)] h46)
noncomputable def S21_79 (h20 : Hp) (x9 : IV) (x19 : IV) (x2 : IV) (n : Nat) (ih : Handler) : Option (IV × Hp) :=
  guardS x9 true h20 (fun k23 => neS EE 3 x19 (.fv (.int .i64 16)) fun x24 => k23 x24 h20 [] []) fun x25 h26 _ _ => pickS x9 x25 (.fv (.bool false)) fun x29 => guardS x29 true h26 (fun k30 => faddrS 0 x2 fun x31 => k30 x31 h26 [] []) fun x32 h33 _ _ => guardS x29 true h33 (fun k36 => load1 x32 h33 fun x37 r38 => k36 x37 h33 r38 []) fun x39 h40 _ _ => guardS x29 true h40 (fun k43 => neS EE 3 x39 (.fv (.int .i64 17)) fun x44 => k43 x44 h40 [] []) fun x45 h46 _ _ => S21_78 x29 x45 h46 n x2 ih
noncomputable def S21 (ih : Handler) (n : Nat) (x0 : IV) (h1 : Hp) : Option (IV × Hp) :=
  boxS 22020096 x0 h1 fun x2 h3 _ _ => faddrS 0 x2 fun x6 => load1 x6 h3 fun x7 _ => neS EE 3 x7 (.fv (.int .i64 15)) fun x9 => guardS x9 true h3 (fun k10 => faddrS 0 x2 fun x11 => k10 x11 h3 [] []) fun x12 h13 _ _ => guardS x9 true h13 (fun k16 => load1 x12 h13 fun x17 r18 => k16 x17 h13 r18 []) fun x19 h20 _ _ => S21_79 h20 x9 x19 x2 n ih
theorem S21_ok (ih : Handler) (n : Nat) (x0 : IV) (h1 : Hp) : funS EE ih ft.get n 21 [x0] h1 = S21 ih n x0 h1 := by kernel_rfl
/-! thyrsus/thyrsuslaw11.swap -/
noncomputable def S22_124 (h13 : Hp) (x12 : IV) (x17 : IV) : Option (IV × Hp) :=
  storeA 3 x12 x17 h13 fun h19 _ _ => cellS true 3 x12 h19 fun x22 => outS1 [x22] h19
noncomputable def S22_125 (x52 : IV) (x68 : IV) (x56 : IV) (q49 : List IV → Hp → Option (IV × Hp)) (h73 : Hp) (x53 : IV) (x54 : IV) (x55 : IV) : Option (IV × Hp) :=
  subS EE 3 x52 x68 fun x74 => addS EE 3 x56 (.fv (.int .i64 1)) fun x75 => q49 [x74, x53, x54, x55, x75] h73
noncomputable def S22_126 (r107 : List Ref) (w108 : List Ref) (r96 : List Ref) (x95 : IV) (x56 : IV) (h106 : Hp) (x105 : IV) (j0_72 : Hp → Option (IV × Hp)) : Option (IV × Hp) :=
  chkS [(r96, [])] r107 w108 (ixS 3 x95 x56 fun x109 => storeA 3 x109 x105 h106 fun h110 r111 w112 => chkS [] r111 w112 (j0_72 h110))
noncomputable def S22_127 (h90 : Hp) (x100 : IV) (r96 : List Ref) (x53 : IV) (r99 : List Ref) (ih : Handler) (x52 : IV) (x95 : IV) (x56 : IV) (j0_72 : Hp → Option (IV × Hp)) : Option (IV × Hp) :=
  loadA 3 x100 h90 fun x101 r102 => chkS [(r96, [])] r102 [] (loadA 3 x53 h90 fun x103 r104 => chkS [(r102, []), (r99, []), (r96, [])] r104 [] (isoS [] false false ih 22 [x101, x52, x103] h90 fun x105 h106 r107 w108 => S22_126 r107 w108 r96 x95 x56 h106 x105 j0_72))
noncomputable def S22_128 (r96 : List Ref) (x55 : IV) (h90 : Hp) (x56 : IV) (x53 : IV) (ih : Handler) (x52 : IV) (x95 : IV) (j0_72 : Hp → Option (IV × Hp)) : Option (IV × Hp) :=
  chkS [] r96 [] (faddrS 2 x55 fun x97 => load1 x97 h90 fun x98 r99 => chkS [(r96, [])] r99 [] (ixS 3 x98 x56 fun x100 => S22_127 h90 x100 r96 x53 r99 ih x52 x95 x56 j0_72))
noncomputable def S22_129 (x76 : IV) (x89 : IV) (x55 : IV) (h90 : Hp) (x56 : IV) (x53 : IV) (ih : Handler) (x52 : IV) (j0_72 : Hp → Option (IV × Hp)) : Option (IV × Hp) :=
  pickS x76 x89 (.fv (.bool false)) fun x93 => condS x93 (faddrS 2 x55 fun x94 => load1 x94 h90 fun x95 r96 => S22_128 r96 x55 h90 x56 x53 ih x52 x95 j0_72) (j0_72 h90)
noncomputable def S22_130 (x52 : IV) (x68 : IV) (x56 : IV) (q49 : List IV → Hp → Option (IV × Hp)) (x53 : IV) (x54 : IV) (x55 : IV) (h69 : Hp) (ih : Handler) : Option (IV × Hp) :=
  (fun (j0_72 : Hp → Option (IV × Hp)) => geS EE 3 x52 (.fv (.int .i64 0)) fun x76 => guardS x76 true h69 (fun k77 => k77 x52 h69 [] []) fun x78 h79 _ _ => guardS x76 true h79 (fun k82 => k82 x68 h79 [] []) fun x83 h84 _ _ => guardS x76 true h84 (fun k87 => ltS EE 3 x78 x83 fun x88 => k87 x88 h84 [] []) fun x89 h90 _ _ => S22_129 x76 x89 x55 h90 x56 x53 ih x52 j0_72) fun h73 => S22_125 x52 x68 x56 q49 h73 x53 x54 x55
noncomputable def S22_131 (x55 : IV) (h51 : Hp) (x56 : IV) (ih : Handler) (x52 : IV) (q49 : List IV → Hp → Option (IV × Hp)) (x53 : IV) (x54 : IV) : Option (IV × Hp) :=
  faddrS 2 x55 fun x62 => load1 x62 h51 fun x63 _ => ixS 3 x63 x56 fun x65 => loadA 3 x65 h51 fun x66 _ => isoS [] false false ih 24 [x66] h51 fun x68 h69 _ _ => S22_130 x52 x68 x56 q49 x53 x54 x55 h69 ih
noncomputable def S22_132 (h51 : Hp) (x55 : IV) (x54 : IV) : Option (IV × Hp) :=
  loadA 3 x55 h51 fun x113 _ => storeA 3 x54 x113 h51 fun h115 _ _ => cellS true 3 x54 h115 fun x118 => outS1 [x118] h115
noncomputable def S22_133 (x55 : IV) (h51 : Hp) (x56 : IV) (ih : Handler) (x52 : IV) (q49 : List IV → Hp → Option (IV × Hp)) (x53 : IV) (x54 : IV) : Option (IV × Hp) :=
  faddrS 2 x55 fun x57 => load1 x57 h51 fun x58 _ => lenS x58 fun x60 => ltS EE 3 x56 x60 fun x61 => condS x61 (S22_131 x55 h51 x56 ih x52 q49 x53 x54) (S22_132 h51 x55 x54)
noncomputable def S22_134 (l50 : List IV) (h51 : Hp) (ih : Handler) (q49 : List IV → Hp → Option (IV × Hp)) : Option (IV × Hp) :=
  uncS l50 fun x52 l119 => uncS l119 fun x53 l120 => uncS l120 fun x54 l121 => uncS l121 fun x55 l122 => uncS l122 fun x56 _ => S22_133 x55 h51 x56 ih x52 q49 x53 x54
noncomputable def S22_135 (r44 : List Ref) (w45 : List Ref) (r39 : List Ref) (w40 : List Ref) (r36 : List Ref) (r32 : List Ref) (w33 : List Ref) (r29 : List Ref) (r26 : List Ref) (h43 : Hp) (x42 : IV) (x41 : IV) (n : Nat) (x23 : IV) (x8 : IV) (x12 : IV) (ih : Handler) : Option (IV × Hp) :=
  chkS [(r39, w40), (r36, []), (r32, w33), (r29, []), (r26, [])] r44 w45 (storeA 3 x42 x41 h43 fun h46 r47 w48 => chkS [] r47 w48 (loopS n (fun q49 l50 h51 => S22_134 l50 h51 ih q49) [x23, x8, x12, x42, .fv (.int .i64 0)] h46))
noncomputable def S22_136 (r36 : List Ref) (r32 : List Ref) (w33 : List Ref) (r29 : List Ref) (r26 : List Ref) (h31 : Hp) (x30 : IV) (x35 : IV) (x25 : IV) (x28 : IV) (n : Nat) (x23 : IV) (x8 : IV) (x12 : IV) (ih : Handler) : Option (IV × Hp) :=
  chkS [(r32, w33), (r29, []), (r26, [])] r36 [] (genS (builtinR EE 23072775 true .append [28, 28] [x30, x35]) 23072775 h31 fun x37 h38 r39 w40 => chkS [(r29, []), (r26, [])] r39 w40 (bldS [.fv (.int .i64 0), .fv (.int .i64 0), .nils] [(0, 1, x25), (1, 1, x28), (2, 1, x37)] fun x41 => newS 23072777 (.row [.fv (.int .i64 0), .fv (.int .i64 0), .nils] false) (.ptr (.own 23072777) 0) h38 fun x42 h43 r44 w45 => S22_135 r44 w45 r39 w40 r36 r32 w33 r29 r26 h43 x42 x41 n x23 x8 x12 ih))
noncomputable def S22_137 (r29 : List Ref) (r26 : List Ref) (h13 : Hp) (x4 : IV) (x25 : IV) (x28 : IV) (n : Nat) (x23 : IV) (x8 : IV) (x12 : IV) (ih : Handler) : Option (IV × Hp) :=
  chkS [(r26, [])] r29 [] (genS (pcBuildSlice EE 28 0 []) 23072772 h13 fun x30 h31 r32 w33 => chkS [(r29, []), (r26, [])] r32 w33 (faddrS 2 x4 fun x34 => load1 x34 h31 fun x35 r36 => S22_136 r36 r32 w33 r29 r26 h31 x30 x35 x25 x28 n x23 x8 x12 ih))
noncomputable def S22_138 (x4 : IV) (h13 : Hp) (n : Nat) (x23 : IV) (x8 : IV) (x12 : IV) (ih : Handler) : Option (IV × Hp) :=
  faddrS 0 x4 fun x24 => load1 x24 h13 fun x25 r26 => chkS [] r26 [] (faddrS 1 x4 fun x27 => load1 x27 h13 fun x28 r29 => S22_137 r29 r26 h13 x4 x25 x28 n x23 x8 x12 ih)
noncomputable def S22 (ih : Handler) (n : Nat) (x0 : IV) (x1 : IV) (x2 : IV) (h3 : Hp) : Option (IV × Hp) :=
  boxS 23068672 x0 h3 fun x4 h5 _ _ => boxS 23068673 x2 h5 fun x8 h9 _ _ => newS 23068674 (.row [.fv (.int .i64 0), .fv (.int .i64 0), .nils] false) (.ptr (.own 23068674) 0) h9 fun x12 h13 _ _ => eqS EE 3 x1 (.fv (.int .i64 0)) fun x16 => condS x16 (loadA 3 x8 h13 fun x17 _ => S22_124 h13 x12 x17) (subS EE 3 x1 (.fv (.int .i64 1)) fun x23 => S22_138 x4 h13 n x23 x8 x12 ih)
theorem S22_ok (ih : Handler) (n : Nat) (x0 : IV) (x1 : IV) (x2 : IV) (h3 : Hp) : funS EE ih ft.get n 22 [x0, x1, x2] h3 = S22 ih n x0 x1 x2 h3 := by kernel_rfl
/-! thyrsus/thyrsuslaw11.within -/
noncomputable def S23 (ih : Handler) (n : Nat) (x0 : IV) (x1 : IV) (h2 : Hp) : Option (IV × Hp) :=
  binS EE 3 .rem x0 x1 fun x3 => (fun (j1_4 : IV → Hp → Option (IV × Hp)) => ltS EE 3 x3 (.fv (.int .i64 0)) fun x7 => condS x7 (addS EE 3 x3 x1 fun x8 => j1_4 x8 h2) (j1_4 x3 h2)) fun x5 h6 => outS1 [x5] h6
theorem S23_ok (ih : Handler) (n : Nat) (x0 : IV) (x1 : IV) (h2 : Hp) : funS EE ih ft.get n 23 [x0, x1] h2 = S23 ih n x0 x1 h2 := by kernel_rfl
/-! thyrsus/thyrsusref4.Size -/
noncomputable def S24_32 (x11 : IV) (q6 : List IV → Hp → Option (IV × Hp)) (h24 : Hp) (x9 : IV) (x27 : IV) : Option (IV × Hp) :=
  addS EE 3 x11 (.fv (.int .i64 1)) fun x28 => q6 [x9, x27, x28] h24
noncomputable def S24_33 (h8 : Hp) (x17 : IV) (x11 : IV) (ih : Handler) (x10 : IV) (q6 : List IV → Hp → Option (IV × Hp)) (x9 : IV) : Option (IV × Hp) :=
  load1 x17 h8 fun x18 _ => ixS 3 x18 x11 fun x20 => loadA 3 x20 h8 fun x21 _ => isoS [] false false ih 24 [x21] h8 fun x23 h24 _ _ => addS EE 3 x10 x23 fun x27 => S24_32 x11 q6 h24 x9 x27
noncomputable def S24_34 (x13 : IV) (x11 : IV) (x9 : IV) (h8 : Hp) (ih : Handler) (x10 : IV) (q6 : List IV → Hp → Option (IV × Hp)) : Option (IV × Hp) :=
  lenS x13 fun x15 => ltS EE 3 x11 x15 fun x16 => condS x16 (faddrS 2 x9 fun x17 => S24_33 h8 x17 x11 ih x10 q6 x9) (outS1 [x10] h8)
noncomputable def S24_35 (l7 : List IV) (h8 : Hp) (ih : Handler) (q6 : List IV → Hp → Option (IV × Hp)) : Option (IV × Hp) :=
  uncS l7 fun x9 l29 => uncS l29 fun x10 l30 => uncS l30 fun x11 _ => faddrS 2 x9 fun x12 => load1 x12 h8 fun x13 _ => S24_34 x13 x11 x9 h8 ih x10 q6
noncomputable def S24 (ih : Handler) (n : Nat) (x0 : IV) (h1 : Hp) : Option (IV × Hp) :=
  boxS 25165824 x0 h1 fun x2 h3 _ _ => loopS n (fun q6 l7 h8 => S24_35 l7 h8 ih q6) [x2, .fv (.int .i64 1), .fv (.int .i64 0)] h3
theorem S24_ok (ih : Handler) (n : Nat) (x0 : IV) (h1 : Hp) : funS EE ih ft.get n 24 [x0] h1 = S24 ih n x0 h1 := by kernel_rfl
/-! thyrsus/thyrsusref4.Check -/
noncomputable def S25_21 (x17 : IV) (h14 : Hp) : Option (IV × Hp) :=
  faddrS 1 x17 fun x18 => load1 x18 h14 fun x19 _ => outS1 [x19] h14
noncomputable def S25 (ih : Handler) (n : Nat) (x0 : IV) (h1 : Hp) : Option (IV × Hp) :=
  boxS 26214400 x0 h1 fun x2 h3 _ _ => bldS [.fv (.int .i64 0), .fv (.int .i64 0)] [] fun x6 => boxS 26215425 x6 h3 fun x7 h8 _ _ => loadA 3 x2 h8 fun x11 _ => isoS [true, false, false] false false ih 56 [x7, x11, .fv (.int .i64 1)] h8 fun _ h14 _ _ => nilS x7 fun x17 => S25_21 x17 h14
theorem S25_ok (ih : Handler) (n : Nat) (x0 : IV) (h1 : Hp) : funS EE ih ft.get n 25 [x0] h1 = S25 ih n x0 h1 := by kernel_rfl
/-! thyrsus/thyrsusref7.Infer -/
noncomputable def S26_324 (ih : Handler) (h9 : Hp) (x8 : IV) : Option (IV × Hp) :=
  isoS [] false false ih 57 [.fv (.int .i64 8)] h9 fun x21 h22 _ _ => extS 0 x21 fun x25 => extS 1 x21 fun x26 => storeA 3 x8 x25 h22 fun h27 _ _ => cellS true 3 x8 h27 fun x30 => outS1 [x30, x26] h27
noncomputable def S26_325 (x51 : IV) (h52 : Hp) (x8 : IV) : Option (IV × Hp) :=
  extS 0 x51 fun x55 => extS 1 x51 fun x56 => storeA 3 x8 x55 h52 fun h57 _ _ => cellS true 3 x8 h57 fun x60 => outS1 [x60, x56] h57
noncomputable def S26_326 (ih : Handler) (h69 : Hp) (x68 : IV) (x8 : IV) : Option (IV × Hp) :=
  isoS [] false false ih 58 [x68] h69 fun x72 h73 _ _ => extS 0 x72 fun x76 => extS 1 x72 fun x77 => storeA 3 x8 x76 h73 fun h78 _ _ => cellS true 3 x8 h78 fun x81 => outS1 [x81, x77] h78
noncomputable def S26_327 (h44 : Hp) (x61 : IV) (x4 : IV) (ih : Handler) (x8 : IV) : Option (IV × Hp) :=
  loadA 3 x61 h44 fun x62 _ => faddrS 1 x4 fun x64 => load1 x64 h44 fun x65 _ => addS EE 3 x65 (.fv (.int .i64 1)) fun x67 => isoS [] false false ih 28 [x62, x67, .fv (.int .i64 0)] h44 fun x68 h69 _ _ => S26_326 ih h69 x68 x8
noncomputable def S26_328 (h44 : Hp) (x47 : IV) (x1 : IV) (ih : Handler) (x8 : IV) (x40 : IV) (x4 : IV) : Option (IV × Hp) :=
  load1 x47 h44 fun x48 _ => neS EE 3 x48 x1 fun x50 => condS x50 (isoS [] false false ih 57 [.fv (.int .i64 10)] h44 fun x51 h52 _ _ => S26_325 x51 h52 x8) (faddrS 1 x40 fun x61 => S26_327 h44 x61 x4 ih x8)
noncomputable def S26_329 (x0 : IV) (x36 : IV) (h9 : Hp) (x1 : IV) (ih : Handler) (x8 : IV) (x4 : IV) : Option (IV × Hp) :=
  ixS 4 x0 x36 fun x37 => loadA 4 x37 h9 fun x38 _ => newS 27267081 (.row [.fv (.int .i64 0), .fv (.int .i64 0), .fv (.int .i64 0), .nils] false) (.ptr (.own 27267081) 0) h9 fun x40 h41 _ _ => storeA 4 x40 x38 h41 fun h44 _ _ => faddrS 0 x40 fun x47 => S26_328 h44 x47 x1 ih x8 x40 x4
noncomputable def S26_330 (x0 : IV) (x4 : IV) (h9 : Hp) (x1 : IV) (ih : Handler) (x8 : IV) : Option (IV × Hp) :=
  lenS x0 fun x31 => subS EE 3 x31 (.fv (.int .i64 1)) fun x32 => faddrS 1 x4 fun x33 => load1 x33 h9 fun x34 _ => subS EE 3 x32 x34 fun x36 => S26_329 x0 x36 h9 x1 ih x8 x4
noncomputable def S26_331 (x4 : IV) (h9 : Hp) (x0 : IV) (ih : Handler) (x8 : IV) (x1 : IV) : Option (IV × Hp) :=
  faddrS 1 x4 fun x16 => load1 x16 h9 fun x17 _ => lenS x0 fun x19 => geS EE 3 x17 x19 fun x20 => condS x20 (S26_324 ih h9 x8) (S26_330 x0 x4 h9 x1 ih x8)
noncomputable def S26_332 (x88 : IV) (h89 : Hp) (x8 : IV) (x92 : IV) : Option (IV × Hp) :=
  extS 1 x88 fun x93 => storeA 3 x8 x92 h89 fun h94 _ _ => cellS true 3 x8 h94 fun x97 => outS1 [x97, x93] h94
noncomputable def S26_333 (h107 : Hp) (x8 : IV) (x106 : IV) : Option (IV × Hp) :=
  cellS true 3 x8 h107 fun x110 => outS1 [x110, x106] h107
noncomputable def S26_334 (h9 : Hp) (x4 : IV) (ih : Handler) (x0 : IV) (x8 : IV) : Option (IV × Hp) :=
  loadA 3 x4 h9 fun x99 _ => isoS [] false false ih 59 [x0, x99] h9 fun x101 h102 _ _ => extS 0 x101 fun x105 => extS 1 x101 fun x106 => storeA 3 x8 x105 h102 fun h107 _ _ => S26_333 h107 x8 x106
noncomputable def S26_335 (x119 : IV) (h120 : Hp) (x8 : IV) : Option (IV × Hp) :=
  extS 0 x119 fun x123 => extS 1 x119 fun x124 => storeA 3 x8 x123 h120 fun h125 _ _ => cellS true 3 x8 h125 fun x128 => outS1 [x128, x124] h125
noncomputable def S26_336 (h9 : Hp) (x129 : IV) (ih : Handler) (x8 : IV) : Option (IV × Hp) :=
  load1 x129 h9 fun x130 _ => addS EE 3 x130 (.fv (.int .i64 1)) fun x132 => isoS [] false false ih 60 [x132] h9 fun x133 h134 _ _ => storeA 3 x8 x133 h134 fun h137 _ _ => cellS true 3 x8 h137 fun x140 => outS1 [x140, .fv (.int .i64 0)] h137
noncomputable def S26_337 (h9 : Hp) (x115 : IV) (ih : Handler) (x8 : IV) (x4 : IV) : Option (IV × Hp) :=
  load1 x115 h9 fun x116 _ => eqS EE 3 x116 (.fv (.int .i64 2)) fun x118 => condS x118 (isoS [] false false ih 57 [.fv (.int .i64 13)] h9 fun x119 h120 _ _ => S26_335 x119 h120 x8) (faddrS 1 x4 fun x129 => S26_336 h9 x129 ih x8)
noncomputable def S26_338 (h148 : Hp) (x8 : IV) : Option (IV × Hp) :=
  cellS true 3 x8 h148 fun x151 => outS1 [x151, .fv (.int .i64 0)] h148
noncomputable def S26_339 (ih : Handler) (h143 : Hp) (x8 : IV) : Option (IV × Hp) :=
  isoS [] false false ih 30 [.fv (.int .i64 10), .nils] h143 fun x153 h154 _ _ => storeA 3 x8 x153 h154 fun h157 _ _ => cellS true 3 x8 h157 fun x160 => outS1 [x160, .fv (.int .i64 0)] h157
noncomputable def S26_340 (ih : Handler) (h173 : Hp) (x172 : IV) (x8 : IV) : Option (IV × Hp) :=
  isoS [] false false ih 57 [x172] h173 fun x177 h178 _ _ => extS 0 x177 fun x181 => extS 1 x177 fun x182 => storeA 3 x8 x181 h178 fun h183 _ _ => cellS true 3 x8 h183 fun x186 => outS1 [x186, x182] h183
noncomputable def S26_341 (ih : Handler) (h173 : Hp) (x8 : IV) : Option (IV × Hp) :=
  isoS [] false false ih 30 [.fv (.int .i64 10), .nils] h173 fun x187 h188 _ _ => storeA 3 x8 x187 h188 fun h191 _ _ => cellS true 3 x8 h191 fun x194 => outS1 [x194, .fv (.int .i64 0)] h191
noncomputable def S26_342 (r170 : List Ref) (w171 : List Ref) (r167 : List Ref) (r164 : List Ref) (ih : Handler) (h169 : Hp) (x0 : IV) (x166 : IV) (x168 : IV) (x8 : IV) : Option (IV × Hp) :=
  chkS [(r167, []), (r164, [])] r170 w171 (isoS [] false false ih 61 [x0, .fv (.int .i64 1), x166, x168] h169 fun x172 h173 r174 w175 => chkS [] r174 w175 (neS EE 3 x172 (.fv (.int .i64 0)) fun x176 => condS x176 (S26_340 ih h173 x172 x8) (S26_341 ih h173 x8)))
noncomputable def S26_343 (r164 : List Ref) (x163 : IV) (h143 : Hp) (ih : Handler) (x0 : IV) (x8 : IV) : Option (IV × Hp) :=
  chkS [] r164 [] (ixS 3 x163 (.fv (.int .i64 0)) fun x165 => loadA 3 x165 h143 fun x166 r167 => chkS [] r167 [] (isoS [] false false ih 30 [.fv (.int .i64 10), .nils] h143 fun x168 h169 r170 w171 => S26_342 r170 w171 r167 r164 ih h169 x0 x166 x168 x8))
noncomputable def S26_344 (x210 : IV) (h211 : Hp) (x8 : IV) (x214 : IV) : Option (IV × Hp) :=
  extS 1 x210 fun x215 => storeA 3 x8 x214 h211 fun h216 _ _ => cellS true 3 x8 h216 fun x219 => outS1 [x219, x215] h216
noncomputable def S26_345 (h224 : Hp) (x8 : IV) : Option (IV × Hp) :=
  cellS true 3 x8 h224 fun x227 => outS1 [x227, .fv (.int .i64 0)] h224
noncomputable def S26_346 (x205 : IV) (ih : Handler) (h206 : Hp) (x8 : IV) : Option (IV × Hp) :=
  neS EE 3 x205 (.fv (.int .i64 0)) fun x209 => condS x209 (isoS [] false false ih 57 [x205] h206 fun x210 h211 _ _ => extS 0 x210 fun x214 => S26_344 x210 h211 x8 x214) (isoS [] false false ih 30 [.fv (.int .i64 14), .nils] h206 fun x220 h221 _ _ => storeA 3 x8 x220 h221 fun h224 _ _ => S26_345 h224 x8)
noncomputable def S26_347 (r200 : List Ref) (ih : Handler) (h197 : Hp) (x0 : IV) (x199 : IV) (x8 : IV) : Option (IV × Hp) :=
  chkS [] r200 [] (isoS [] false false ih 30 [.fv (.int .i64 14), .nils] h197 fun x201 h202 r203 w204 => chkS [(r200, [])] r203 w204 (isoS [] false false ih 62 [x0, .fv (.int .i64 1), x199, x201] h202 fun x205 h206 r207 w208 => chkS [] r207 w208 (S26_346 x205 ih h206 x8)))
noncomputable def S26_348 (x244 : IV) (h245 : Hp) (x8 : IV) (x248 : IV) : Option (IV × Hp) :=
  extS 1 x244 fun x249 => storeA 3 x8 x248 h245 fun h250 _ _ => cellS true 3 x8 h250 fun x253 => outS1 [x253, x249] h250
noncomputable def S26_349 (h258 : Hp) (x8 : IV) : Option (IV × Hp) :=
  cellS true 3 x8 h258 fun x261 => outS1 [x261, .fv (.int .i64 0)] h258
noncomputable def S26_350 (x239 : IV) (ih : Handler) (h240 : Hp) (x8 : IV) : Option (IV × Hp) :=
  neS EE 3 x239 (.fv (.int .i64 0)) fun x243 => condS x243 (isoS [] false false ih 57 [x239] h240 fun x244 h245 _ _ => extS 0 x244 fun x248 => S26_348 x244 h245 x8 x248) (isoS [] false false ih 60 [.fv (.int .i64 0)] h240 fun x254 h255 _ _ => storeA 3 x8 x254 h255 fun h258 _ _ => S26_349 h258 x8)
noncomputable def S26_351 (r234 : List Ref) (ih : Handler) (h197 : Hp) (r231 : List Ref) (x0 : IV) (x233 : IV) (x8 : IV) : Option (IV × Hp) :=
  chkS [] r234 [] (isoS [] false false ih 30 [.fv (.int .i64 14), .nils] h197 fun x235 h236 r237 w238 => chkS [(r234, []), (r231, [])] r237 w238 (isoS [] false false ih 61 [x0, .fv (.int .i64 1), x233, x235] h236 fun x239 h240 r241 w242 => chkS [] r241 w242 (S26_350 x239 ih h240 x8)))
noncomputable def S26_352 (x4 : IV) (h197 : Hp) (ih : Handler) (x0 : IV) (x8 : IV) : Option (IV × Hp) :=
  faddrS 2 x4 fun x229 => load1 x229 h197 fun x230 r231 => chkS [] r231 [] (ixS 3 x230 (.fv (.int .i64 0)) fun x232 => loadA 3 x232 h197 fun x233 r234 => S26_351 r234 ih h197 r231 x0 x233 x8)
noncomputable def S26_353 (x283 : IV) (h284 : Hp) (x8 : IV) : Option (IV × Hp) :=
  extS 0 x283 fun x287 => extS 1 x283 fun x288 => storeA 3 x8 x287 h284 fun h289 _ _ => cellS true 3 x8 h289 fun x292 => outS1 [x292, x288] h289
noncomputable def S26_354 (h279 : Hp) (x293 : IV) (ih : Handler) (x8 : IV) : Option (IV × Hp) :=
  genS (pcBuildSlice EE 28 1 [(0, x293)]) 27307009 h279 fun x295 h296 _ _ => isoS [] false false ih 30 [.fv (.int .i64 18), x295] h296 fun x299 h300 _ _ => storeA 3 x8 x299 h300 fun h303 _ _ => cellS true 3 x8 h303 fun x306 => outS1 [x306, .fv (.int .i64 0)] h303
noncomputable def S26_355 (h270 : Hp) (x273 : IV) (x274 : IV) (ih : Handler) (x8 : IV) : Option (IV × Hp) :=
  newS 27303945 (.row [.fv (.int .i64 0), .fv (.int .i64 0), .nils] false) (.ptr (.own 27303945) 0) h270 fun x275 h276 _ _ => storeA 3 x275 x273 h276 fun h279 _ _ => neS EE 3 x274 (.fv (.int .i64 0)) fun x282 => condS x282 (isoS [] false false ih 57 [x274] h279 fun x283 h284 _ _ => S26_353 x283 h284 x8) (loadA 3 x275 h279 fun x293 _ => S26_354 h279 x293 ih x8)
noncomputable def S26_356 (x264 : IV) (h197 : Hp) (ih : Handler) (x0 : IV) (x8 : IV) : Option (IV × Hp) :=
  ixS 3 x264 (.fv (.int .i64 0)) fun x266 => loadA 3 x266 h197 fun x267 _ => isoS [] false false ih 26 [x0, .fv (.int .i64 0), x267] h197 fun x269 h270 _ _ => extS 0 x269 fun x273 => extS 1 x269 fun x274 => S26_355 h270 x273 x274 ih x8
noncomputable def S26_357 (x309 : IV) (h310 : Hp) (x8 : IV) : Option (IV × Hp) :=
  extS 0 x309 fun x313 => extS 1 x309 fun x314 => storeA 3 x8 x313 h310 fun h315 _ _ => cellS true 3 x8 h315 fun x318 => outS1 [x318, x314] h315
noncomputable def S26_358 (x112 : IV) (x4 : IV) (h197 : Hp) (ih : Handler) (x0 : IV) (x8 : IV) : Option (IV × Hp) :=
  eqS EE 3 x112 (.fv (.int .i64 19)) fun x262 => condS x262 (faddrS 2 x4 fun x263 => load1 x263 h197 fun x264 _ => S26_356 x264 h197 ih x0 x8) (loadA 3 x4 h197 fun x307 _ => isoS [] false false ih 63 [x0, x307] h197 fun x309 h310 _ _ => S26_357 x309 h310 x8)
noncomputable def S26_359 (x196 : IV) (x4 : IV) (h197 : Hp) (ih : Handler) (x0 : IV) (x8 : IV) (x112 : IV) : Option (IV × Hp) :=
  condS x196 (faddrS 2 x4 fun x198 => load1 x198 h197 fun x199 r200 => S26_347 r200 ih h197 x0 x199 x8) (eqS EE 3 x112 (.fv (.int .i64 18)) fun x228 => condS x228 (S26_352 x4 h197 ih x0 x8) (S26_358 x112 x4 h197 ih x0 x8))
noncomputable def S26_360 (x112 : IV) (j1_195 : IV → Hp → Option (IV × Hp)) (h143 : Hp) : Option (IV × Hp) :=
  eqS EE 3 x112 (.fv (.int .i64 17)) fun x321 => j1_195 x321 h143
noncomputable def S26_361 (x319 : IV) (j1_195 : IV → Hp → Option (IV × Hp)) (h143 : Hp) (x112 : IV) : Option (IV × Hp) :=
  condS x319 (j1_195 x319 h143) (eqS EE 3 x112 (.fv (.int .i64 16)) fun x320 => condS x320 (j1_195 x320 h143) (S26_360 x112 j1_195 h143))
noncomputable def S26_362 (x112 : IV) (x4 : IV) (h143 : Hp) (ih : Handler) (x0 : IV) (x8 : IV) : Option (IV × Hp) :=
  eqS EE 3 x112 (.fv (.int .i64 12)) fun x161 => condS x161 (faddrS 2 x4 fun x162 => load1 x162 h143 fun x163 r164 => S26_343 r164 x163 h143 ih x0 x8) ((fun (j1_195 : IV → Hp → Option (IV × Hp)) => eqS EE 3 x112 (.fv (.int .i64 15)) fun x319 => S26_361 x319 j1_195 h143 x112) fun x196 h197 => S26_359 x196 x4 h197 ih x0 x8 x112)
noncomputable def S26_363 (x142 : IV) (ih : Handler) (h143 : Hp) (x8 : IV) (x112 : IV) (x4 : IV) (x0 : IV) : Option (IV × Hp) :=
  condS x142 (isoS [] false false ih 60 [.fv (.int .i64 0)] h143 fun x144 h145 _ _ => storeA 3 x8 x144 h145 fun h148 _ _ => S26_338 h148 x8) (eqS EE 3 x112 (.fv (.int .i64 11)) fun x152 => condS x152 (S26_339 ih h143 x8) (S26_362 x112 x4 h143 ih x0 x8))
noncomputable def S26_364 (x112 : IV) (j1_141 : IV → Hp → Option (IV × Hp)) (h9 : Hp) : Option (IV × Hp) :=
  eqS EE 3 x112 (.fv (.int .i64 10)) fun x322 => condS x322 (j1_141 x322 h9) (eqS EE 3 x112 (.fv (.int .i64 14)) fun x323 => j1_141 x323 h9)
noncomputable def S26_365 (x4 : IV) (h9 : Hp) (ih : Handler) (x8 : IV) (x0 : IV) : Option (IV × Hp) :=
  faddrS 0 x4 fun x111 => load1 x111 h9 fun x112 _ => eqS EE 3 x112 (.fv (.int .i64 2)) fun x114 => condS x114 (faddrS 1 x4 fun x115 => S26_337 h9 x115 ih x8 x4) ((fun (j1_141 : IV → Hp → Option (IV × Hp)) => S26_364 x112 j1_141 h9) fun x142 h143 => S26_363 x142 ih h143 x8 x112 x4 x0)
noncomputable def S26_366 (x87 : IV) (ih : Handler) (h9 : Hp) (x8 : IV) (x1 : IV) (x4 : IV) (x0 : IV) : Option (IV × Hp) :=
  condS x87 (isoS [] false false ih 57 [.fv (.int .i64 10)] h9 fun x88 h89 _ _ => extS 0 x88 fun x92 => S26_332 x88 h89 x8 x92) (eqS EE 3 x1 (.fv (.int .i64 0)) fun x98 => condS x98 (S26_334 h9 x4 ih x0 x8) (S26_365 x4 h9 ih x8 x0))
noncomputable def S26_367 (x4 : IV) (h9 : Hp) (x1 : IV) (ih : Handler) (x8 : IV) (x0 : IV) : Option (IV × Hp) :=
  faddrS 0 x4 fun x82 => load1 x82 h9 fun x83 _ => geS EE 3 x83 (.fv (.int .i64 20)) fun x85 => eqS EE 3 x1 (.fv (.int .i64 0)) fun x86 => neS EE 4 x85 x86 fun x87 => S26_366 x87 ih h9 x8 x1 x4 x0
noncomputable def S26 (ih : Handler) (n : Nat) (x0 : IV) (x1 : IV) (x2 : IV) (h3 : Hp) : Option (IV × Hp) :=
  boxS 27262976 x2 h3 fun x4 h5 _ _ => newS 27262977 (.row [.fv (.int .i64 0), .fv (.int .i64 0), .nils] false) (.ptr (.own 27262977) 0) h5 fun x8 h9 _ _ => faddrS 0 x4 fun x12 => load1 x12 h9 fun x13 _ => eqS EE 3 x13 (.fv (.int .i64 1)) fun x15 => condS x15 (S26_331 x4 h9 x0 ih x8 x1) (S26_367 x4 h9 x1 ih x8 x0)
theorem S26_ok (ih : Handler) (n : Nat) (x0 : IV) (x1 : IV) (x2 : IV) (h3 : Hp) : funS EE ih ft.get n 26 [x0, x1, x2] h3 = S26 ih n x0 x1 x2 h3 := by kernel_rfl
/-! thyrsus/thyrsusref5.Heavy -/
noncomputable def S27 (ih : Handler) (n : Nat) (x0 : IV) (h1 : Hp) : Option (IV × Hp) :=
  eqS EE 3 x0 (.fv (.int .i64 17)) fun x2 => guardS x2 false h1 (fun k3 => k3 x0 h1 [] []) fun x4 h5 _ _ => guardS x2 false h5 (fun k8 => eqS EE 3 x4 (.fv (.int .i64 5)) fun x9 => k8 x9 h5 [] []) fun x10 h11 _ _ => pickS x2 (.fv (.bool true)) x10 fun x14 => outS1 [x14] h11
theorem S27_ok (ih : Handler) (n : Nat) (x0 : IV) (h1 : Hp) : funS EE ih ft.get n 27 [x0] h1 = S27 ih n x0 h1 := by kernel_rfl
/-! thyrsus/thyrsusref4.Shift -/
noncomputable def S28_127 (h68 : Hp) (x71 : IV) (x67 : IV) (x36 : IV) (h3 : Hp) (x31 : IV) (x32 : IV) (x33 : IV) (x34 : IV) (x35 : IV) (q28 : List IV → Hp → Option (IV × Hp)) : Option (IV × Hp) :=
  store1 x71 x67 h68 fun h72 r73 w74 => chkS [] r73 w74 (addS EE 3 x36 (.fv (.int .i64 1)) fun x75 => dropS (h3.own.map (·.1)) [29367312] [x31, x32, x33, x34, x35, x75] h72 fun h76 => q28 [x31, x32, x33, x34, x35, x75] h76)
noncomputable def S28_128 (h60 : Hp) (x59 : IV) (r44 : List Ref) (x43 : IV) (x35 : IV) (x36 : IV) (h3 : Hp) (x31 : IV) (x32 : IV) (x33 : IV) (x34 : IV) (q28 : List IV → Hp → Option (IV × Hp)) : Option (IV × Hp) :=
  genS (pcBuildSlice EE 28 1 [(0, x59)]) 29367311 h60 fun x63 h64 r65 w66 => chkS [(r44, [])] r65 w66 (genS (builtinR EE 29367312 false .append [28, 28] [x43, x63]) 29367312 h64 fun x67 h68 r69 w70 => chkS [] r69 w70 (faddrS 2 x35 fun x71 => S28_127 h68 x71 x67 x36 h3 x31 x32 x33 x34 x35 q28))
noncomputable def S28_129 (ih : Handler) (h30 : Hp) (x52 : IV) (x36 : IV) (r50 : List Ref) (r47 : List Ref) (r44 : List Ref) (x32 : IV) (x49 : IV) (x31 : IV) (x43 : IV) (x35 : IV) (h3 : Hp) (x33 : IV) (x34 : IV) (q28 : List IV → Hp → Option (IV × Hp)) : Option (IV × Hp) :=
  isoS [] false false ih 48 [x52, x36] h30 fun x54 h55 r56 w57 => chkS [(r50, []), (r47, []), (r44, [])] r56 w57 (addS EE 3 x32 x54 fun x58 => isoS [] false false ih 28 [x49, x31, x58] h55 fun x59 h60 r61 w62 => chkS [(r44, [])] r61 w62 (S28_128 h60 x59 r44 x43 x35 x36 h3 x31 x32 x33 x34 q28))
noncomputable def S28_130 (h30 : Hp) (x48 : IV) (r44 : List Ref) (x33 : IV) (r47 : List Ref) (ih : Handler) (x36 : IV) (x32 : IV) (x31 : IV) (x43 : IV) (x35 : IV) (h3 : Hp) (x34 : IV) (q28 : List IV → Hp → Option (IV × Hp)) : Option (IV × Hp) :=
  loadA 3 x48 h30 fun x49 r50 => chkS [(r44, [])] r50 [] (faddrS 0 x33 fun x51 => load1 x51 h30 fun x52 r53 => chkS [(r50, []), (r47, []), (r44, [])] r53 [] (S28_129 ih h30 x52 x36 r50 r47 r44 x32 x49 x31 x43 x35 h3 x33 x34 q28))
noncomputable def S28_131 (r44 : List Ref) (x33 : IV) (h30 : Hp) (x36 : IV) (ih : Handler) (x32 : IV) (x31 : IV) (x43 : IV) (x35 : IV) (h3 : Hp) (x34 : IV) (q28 : List IV → Hp → Option (IV × Hp)) : Option (IV × Hp) :=
  chkS [] r44 [] (faddrS 2 x33 fun x45 => load1 x45 h30 fun x46 r47 => chkS [(r44, [])] r47 [] (ixS 3 x46 x36 fun x48 => S28_130 h30 x48 r44 x33 r47 ih x36 x32 x31 x43 x35 h3 x34 q28))
noncomputable def S28_132 (h79 : Hp) (x34 : IV) : Option (IV × Hp) :=
  cellS true 3 x34 h79 fun x82 => outS1 [x82] h79
noncomputable def S28_133 (x41 : IV) (x35 : IV) (h30 : Hp) (x33 : IV) (x36 : IV) (ih : Handler) (x32 : IV) (x31 : IV) (h3 : Hp) (x34 : IV) (q28 : List IV → Hp → Option (IV × Hp)) : Option (IV × Hp) :=
  condS x41 (faddrS 2 x35 fun x42 => load1 x42 h30 fun x43 r44 => S28_131 r44 x33 h30 x36 ih x32 x31 x43 x35 h3 x34 q28) (loadA 3 x35 h30 fun x77 _ => storeA 3 x34 x77 h30 fun h79 _ _ => S28_132 h79 x34)
noncomputable def S28_134 (l87 : List IV) (x33 : IV) (h30 : Hp) (x35 : IV) (ih : Handler) (x32 : IV) (x31 : IV) (h3 : Hp) (x34 : IV) (q28 : List IV → Hp → Option (IV × Hp)) : Option (IV × Hp) :=
  uncS l87 fun x36 _ => faddrS 2 x33 fun x37 => load1 x37 h30 fun x38 _ => lenS x38 fun x40 => ltS EE 3 x36 x40 fun x41 => S28_133 x41 x35 h30 x33 x36 ih x32 x31 h3 x34 q28
noncomputable def S28_135 (l29 : List IV) (h30 : Hp) (ih : Handler) (h3 : Hp) (q28 : List IV → Hp → Option (IV × Hp)) : Option (IV × Hp) :=
  uncS l29 fun x31 l83 => uncS l83 fun x32 l84 => uncS l84 fun x33 l85 => uncS l85 fun x34 l86 => uncS l86 fun x35 l87 => S28_134 l87 x33 h30 x35 ih x32 x31 h3 x34 q28
noncomputable def S28_136 (h3 : Hp) (h27 : Hp) (x1 : IV) (x2 : IV) (x4 : IV) (x8 : IV) (x19 : IV) (n : Nat) (ih : Handler) : Option (IV × Hp) :=
  dropS (h3.own.map (·.1)) [29367312] [x1, x2, x4, x8, x19, .fv (.int .i64 0)] h27 fun h89 => loopS n (fun q28 l29 h30 => S28_135 l29 h30 ih h3 q28) [x1, x2, x4, x8, x19, .fv (.int .i64 0)] h89
noncomputable def S28_137 (h115 : Hp) (x119 : IV) (x1 : IV) (x19 : IV) (j0_26 : Hp → Option (IV × Hp)) : Option (IV × Hp) :=
  load1 x119 h115 fun x120 _ => addS EE 3 x120 x1 fun x122 => faddrS 1 x19 fun x123 => store1 x123 x122 h115 fun h124 _ _ => j0_26 h124
noncomputable def S28_138 (h109 : Hp) (x93 : IV) (x103 : IV) (x108 : IV) (x4 : IV) (x1 : IV) (x19 : IV) (j0_26 : Hp → Option (IV × Hp)) : Option (IV × Hp) :=
  guardS x93 true h109 (fun k112 => geS EE 3 x103 x108 fun x113 => k112 x113 h109 [] []) fun x114 h115 _ _ => pickS x93 x114 (.fv (.bool false)) fun x118 => condS x118 (faddrS 1 x4 fun x119 => S28_137 h115 x119 x1 x19 j0_26) (j0_26 h115)
noncomputable def S28_139 (h23 : Hp) (x90 : IV) (x4 : IV) (x2 : IV) (x1 : IV) (x19 : IV) (j0_26 : Hp → Option (IV × Hp)) : Option (IV × Hp) :=
  load1 x90 h23 fun x91 _ => eqS EE 3 x91 (.fv (.int .i64 1)) fun x93 => guardS x93 true h23 (fun k94 => faddrS 1 x4 fun x95 => k94 x95 h23 [] []) fun x96 h97 _ _ => guardS x93 true h97 (fun k100 => load1 x96 h97 fun x101 r102 => k100 x101 h97 r102 []) fun x103 h104 _ _ => guardS x93 true h104 (fun k107 => k107 x2 h104 [] []) fun x108 h109 _ _ => S28_138 h109 x93 x103 x108 x4 x1 x19 j0_26
noncomputable def S28_140 (x13 : IV) (x16 : IV) (h9 : Hp) (h3 : Hp) (x1 : IV) (x2 : IV) (x4 : IV) (x8 : IV) (n : Nat) (ih : Handler) : Option (IV × Hp) :=
  bldS [.fv (.int .i64 0), .fv (.int .i64 0), .nils] [(0, 1, x13), (1, 1, x16)] fun x18 => newS 29361157 (.row [.fv (.int .i64 0), .fv (.int .i64 0), .nils] false) (.ptr (.own 29361157) 0) h9 fun x19 h20 _ _ => storeA 3 x19 x18 h20 fun h23 _ _ => (fun (j0_26 : Hp → Option (IV × Hp)) => faddrS 0 x4 fun x90 => S28_139 h23 x90 x4 x2 x1 x19 j0_26) fun h27 => S28_136 h3 h27 x1 x2 x4 x8 x19 n ih
noncomputable def S28 (ih : Handler) (n : Nat) (x0 : IV) (x1 : IV) (x2 : IV) (h3 : Hp) : Option (IV × Hp) :=
  boxS 29360128 x0 h3 fun x4 h5 _ _ => newS 29360129 (.row [.fv (.int .i64 0), .fv (.int .i64 0), .nils] false) (.ptr (.own 29360129) 0) h5 fun x8 h9 _ _ => faddrS 0 x4 fun x12 => load1 x12 h9 fun x13 _ => faddrS 1 x4 fun x15 => load1 x15 h9 fun x16 _ => S28_140 x13 x16 h9 h3 x1 x2 x4 x8 n ih
theorem S28_ok (ih : Handler) (n : Nat) (x0 : IV) (x1 : IV) (x2 : IV) (h3 : Hp) : funS EE ih ft.get n 28 [x0, x1, x2] h3 = S28 ih n x0 x1 x2 h3 := by kernel_rfl
/-! thyrsus/thyrsusref4.V -/
noncomputable def S29 (ih : Handler) (n : Nat) (x0 : IV) (h1 : Hp) : Option (IV × Hp) :=
  newS 30408704 (.row [.fv (.int .i64 0), .fv (.int .i64 0), .nils] false) (.ptr (.own 30408704) 0) h1 fun x2 h3 _ _ => bldS [.fv (.int .i64 0), .fv (.int .i64 0), .nils] [(0, 1, .fv (.int .i64 1)), (1, 1, x0)] fun x6 => storeA 3 x2 x6 h3 fun h7 _ _ => cellS true 3 x2 h7 fun x10 => outS1 [x10] h7
theorem S29_ok (ih : Handler) (n : Nat) (x0 : IV) (h1 : Hp) : funS EE ih ft.get n 29 [x0] h1 = S29 ih n x0 h1 := by kernel_rfl
/-! thyrsus/thyrsusref4.T -/
noncomputable def S30 (ih : Handler) (n : Nat) (x0 : IV) (x1 : IV) (h2 : Hp) : Option (IV × Hp) :=
  newS 31457280 (.row [.fv (.int .i64 0), .fv (.int .i64 0), .nils] false) (.ptr (.own 31457280) 0) h2 fun x3 h4 _ _ => bldS [.fv (.int .i64 0), .fv (.int .i64 0), .nils] [(0, 1, x0), (2, 1, x1)] fun x7 => storeA 3 x3 x7 h4 fun h8 _ _ => cellS true 3 x3 h8 fun x11 => outS1 [x11] h8
theorem S30_ok (ih : Handler) (n : Nat) (x0 : IV) (x1 : IV) (h2 : Hp) : funS EE ih ft.get n 30 [x0, x1] h2 = S30 ih n x0 x1 h2 := by kernel_rfl
end Idl
end Go.Proofs.Ytdibmackcbpniaa

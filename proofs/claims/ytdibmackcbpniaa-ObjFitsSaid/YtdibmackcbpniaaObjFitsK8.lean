/-
  Texts of a proof, part 8: an ideal semantics of the program, its functions in shallow form, contracts of them. No statement of the seat is proved here.
-/
import Derived.Test.YtdibmackcbpniaaObjFitsK7
set_option linter.all false
set_option maxRecDepth 100000
set_option linter.unusedVariables false
namespace Go.Proofs.Ytdibmackcbpniaa
namespace Idl
noncomputable def S8_90 (r84 : List Ref) (r82 : List Ref) (r79 : List Ref) (w80 : List Ref) (r76 : List Ref) (r73 : List Ref) (w74 : List Ref) (r70 : List Ref) (ih : Handler) (h78 : Hp) (x81 : IV) (x83 : IV) (x77 : IV) : Option (IV × Hp) :=
  chkS [(r82, []), (r79, w80), (r76, []), (r73, w74), (r70, [])] r84 [] (isoS [] false false ih 34 [x81, x83] h78 fun x85 h86 r87 w88 => chkS [] r87 w88 (eqS EE 4 x77 x85 fun x89 => outS1 [x89] h86))
noncomputable def S8_91 (ih : Handler) (h72 : Hp) (x71 : IV) (x75 : IV) (x55 : IV) (r76 : List Ref) (r73 : List Ref) (w74 : List Ref) (r70 : List Ref) (x59 : IV) : Option (IV × Hp) :=
  isoS [] false false ih 32 [x71, x75] h72 fun x77 h78 r79 w80 => chkS [] r79 w80 (loadA 3 x55 h78 fun x81 r82 => chkS [(r79, w80), (r76, []), (r73, w74), (r70, [])] r82 [] (loadA 3 x59 h78 fun x83 r84 => S8_90 r84 r82 r79 w80 r76 r73 w74 r70 ih h78 x81 x83 x77))
noncomputable def S8_92 (r70 : List Ref) (ih : Handler) (h66 : Hp) (x69 : IV) (x2 : IV) (x59 : IV) (x55 : IV) : Option (IV × Hp) :=
  chkS [] r70 [] (isoS [] false false ih 33 [x69, x2, .fv (.int .i64 0)] h66 fun x71 h72 r73 w74 => chkS [] r73 w74 (loadA 3 x59 h72 fun x75 r76 => chkS [(r73, w74), (r70, [])] r76 [] (S8_91 ih h72 x71 x75 x55 r76 r73 w74 r70 x59)))
noncomputable def S8_93 (h60 : Hp) (x55 : IV) (x45 : IV) (x59 : IV) (x51 : IV) (ih : Handler) (x2 : IV) : Option (IV × Hp) :=
  storeA 3 x55 x45 h60 fun h63 r64 w65 => chkS [] r64 w65 (storeA 3 x59 x51 h63 fun h66 r67 w68 => chkS [] r67 w68 (loadA 3 x55 h66 fun x69 r70 => S8_92 r70 ih h66 x69 x2 x59 x55))
noncomputable def S8_94 (r53 : List Ref) (w54 : List Ref) (h52 : Hp) (r50 : List Ref) (r47 : List Ref) (w48 : List Ref) (r44 : List Ref) (x45 : IV) (x51 : IV) (ih : Handler) (x2 : IV) : Option (IV × Hp) :=
  chkS [] r53 w54 (newS 8393732 (.row [.fv (.int .i64 0), .fv (.int .i64 0), .nils] false) (.ptr (.own 8393732) 0) h52 fun x55 h56 r57 w58 => chkS [(r53, w54), (r50, []), (r47, w48), (r44, [])] r57 w58 (newS 8393733 (.row [.fv (.int .i64 0), .fv (.int .i64 0), .nils] false) (.ptr (.own 8393733) 0) h56 fun x59 h60 r61 w62 => chkS [(r57, w58), (r53, w54), (r50, []), (r47, w48), (r44, [])] r61 w62 (S8_93 h60 x55 x45 x59 x51 ih x2)))
noncomputable def S8_95 (ih : Handler) (h39 : Hp) (x43 : IV) (x8 : IV) (r44 : List Ref) (x2 : IV) : Option (IV × Hp) :=
  isoS [] false false ih 14 [x43, .fv (.int .i64 3)] h39 fun x45 h46 r47 w48 => chkS [] r47 w48 (loadA 3 x8 h46 fun x49 r50 => chkS [(r47, w48), (r44, [])] r50 [] (isoS [] false false ih 14 [x49, .fv (.int .i64 3)] h46 fun x51 h52 r53 w54 => S8_94 r53 w54 h52 r50 r47 w48 r44 x45 x51 ih x2))
noncomputable def S8_96 (x23 : IV) (x38 : IV) (h39 : Hp) (x4 : IV) (ih : Handler) (x8 : IV) (x2 : IV) : Option (IV × Hp) :=
  pickS x23 (.fv (.bool true)) x38 fun x42 => condS x42 (outS1 [.fv (.bool true)] h39) (loadA 3 x4 h39 fun x43 r44 => chkS [] r44 [] (S8_95 ih h39 x43 x8 r44 x2))
noncomputable def S8_97 (ih : Handler) (h13 : Hp) (x17 : IV) (x8 : IV) (x4 : IV) (x2 : IV) : Option (IV × Hp) :=
  isoS [] false false ih 12 [x17] h13 fun x19 h20 _ _ => optS (unR .not x19) fun x23 => guardS x23 false h20 (fun k24 => loadA 3 x8 h20 fun x25 r26 => k24 x25 h20 r26 []) fun x27 h28 _ _ => guardS x23 false h28 (fun k31 => isoS [] false false ih 12 [x27] h28 k31) fun x32 h33 _ _ => guardS x23 false h33 (fun k36 => optS (unR .not x32) fun x37 => k36 x37 h33 [] []) fun x38 h39 _ _ => S8_96 x23 x38 h39 x4 ih x8 x2
noncomputable def S8 (ih : Handler) (n : Nat) (x0 : IV) (x1 : IV) (x2 : IV) (h3 : Hp) : Option (IV × Hp) :=
  boxS 8388608 x0 h3 fun x4 h5 _ _ => boxS 8388609 x1 h5 fun x8 h9 _ _ => isoS [] false false ih 11 [] h9 fun x12 h13 _ _ => optS (unR .not x12) fun x16 => condS x16 (outS1 [.fv (.bool false)] h13) (loadA 3 x4 h13 fun x17 _ => S8_97 ih h13 x17 x8 x4 x2)
theorem S8_ok (ih : Handler) (n : Nat) (x0 : IV) (x1 : IV) (x2 : IV) (h3 : Hp) : funS EE ih ft.get n 8 [x0, x1, x2] h3 = S8 ih n x0 x1 x2 h3 := by kernel_rfl
noncomputable def S11_52 (h35 : Hp) (x38 : IV) (x11 : IV) (ih : Handler) : Option (IV × Hp) :=
  guardS x38 true h35 (fun k39 => loadA 3 x11 h35 fun x40 r41 => k39 x40 h35 r41 []) fun x42 h43 _ _ => guardS x38 true h43 (fun k46 => isoS [] false false ih 20 [x42] h43 k46) fun x47 h48 _ _ => pickS x38 x47 (.fv (.bool false)) fun x51 => outS1 [x51] h48
noncomputable def S11_53 (x10 : IV) (h15 : Hp) (x11 : IV) (ih : Handler) : Option (IV × Hp) :=
  eqS EE 35 x10 (.fv (.int .i64 0)) fun x18 => guardS x18 true h15 (fun k19 => faddrS 0 x11 fun x20 => k19 x20 h15 [] []) fun x21 h22 _ _ => guardS x18 true h22 (fun k25 => load1 x21 h22 fun x26 r27 => k25 x26 h22 r27 []) fun x28 h29 _ _ => guardS x18 true h29 (fun k32 => eqS EE 3 x28 (.fv (.int .i64 15)) fun x33 => k32 x33 h29 [] []) fun x34 h35 _ _ => pickS x18 x34 (.fv (.bool false)) fun x38 => S11_52 h35 x38 x11 ih
noncomputable def S11 (ih : Handler) (n : Nat) (h0 : Hp) : Option (IV × Hp) :=
  isoS [] false false ih 31 [.fv (.int .i64 5)] h0 fun x1 h2 _ _ => isoS [] false false ih 17 [.nils, x1] h2 fun x5 h6 _ _ => extS 0 x5 fun x9 => extS 1 x5 fun x10 => newS 11535365 (.row [.fv (.int .i64 0), .fv (.int .i64 0), .nils] false) (.ptr (.own 11535365) 0) h6 fun x11 h12 _ _ => storeA 3 x11 x9 h12 fun h15 _ _ => S11_53 x10 h15 x11 ih
theorem S11_ok (ih : Handler) (n : Nat) (h0 : Hp) : funS EE ih ft.get n 11 [] h0 = S11 ih n h0 := by kernel_rfl
noncomputable def S12 (ih : Handler) (n : Nat) (x0 : IV) (h1 : Hp) : Option (IV × Hp) :=
  boxS 12582912 x0 h1 fun x2 h3 _ _ => loadA 3 x2 h3 fun x6 _ => isoS [] false false ih 40 [x6, .fv (.int .i64 300)] h3 fun x8 h9 _ _ => ltS EE 3 x8 (.fv (.int .i64 300)) fun x12 => outS1 [x12] h9
theorem S12_ok (ih : Handler) (n : Nat) (x0 : IV) (h1 : Hp) : funS EE ih ft.get n 12 [x0] h1 = S12 ih n x0 h1 := by kernel_rfl
noncomputable def S14_75 (h32 : Hp) (x7 : IV) (x31 : IV) : Option (IV × Hp) :=
  storeA 3 x7 x31 h32 fun h35 _ _ => cellS true 3 x7 h35 fun x38 => outS1 [x38] h35
noncomputable def S14_76 (r72 : List Ref) (w73 : List Ref) (h71 : Hp) (x7 : IV) : Option (IV × Hp) :=
  chkS [] r72 w73 (cellS true 3 x7 h71 fun x74 => outS1 [x74] h71)
noncomputable def S14_77 (h60 : Hp) (x48 : IV) (x59 : IV) (ih : Handler) (x40 : IV) (x7 : IV) : Option (IV × Hp) :=
  genS (pcBuildSlice EE 28 2 [(0, x48), (1, x59)]) 14684173 h60 fun x63 h64 r65 w66 => chkS [] r65 w66 (isoS [] false false ih 30 [x40, x63] h64 fun x67 h68 r69 w70 => chkS [] r69 w70 (storeA 3 x7 x67 h68 fun h71 r72 w73 => S14_76 r72 w73 h71 x7))
noncomputable def S14_78 (ih : Handler) (h49 : Hp) (x52 : IV) (x1 : IV) (x48 : IV) (x40 : IV) (x7 : IV) : Option (IV × Hp) :=
  isoS [] false false ih 42 [x52, .fv (.int .i64 1)] h49 fun x54 h55 r56 w57 => chkS [] r56 w57 (subS EE 3 x1 (.fv (.int .i64 1)) fun x58 => isoS [] false false ih 14 [x54, x58] h55 fun x59 h60 r61 w62 => chkS [] r61 w62 (S14_77 h60 x48 x59 ih x40 x7))
noncomputable def S14_79 (x1 : IV) (ih : Handler) (h44 : Hp) (x43 : IV) (x3 : IV) (r45 : List Ref) (w46 : List Ref) (r42 : List Ref) (x40 : IV) (x7 : IV) : Option (IV × Hp) :=
  subS EE 3 x1 (.fv (.int .i64 1)) fun x47 => isoS [] false false ih 14 [x43, x47] h44 fun x48 h49 r50 w51 => chkS [] r50 w51 (loadA 3 x3 h49 fun x52 r53 => chkS [(r50, w51), (r45, w46), (r42, [])] r53 [] (S14_78 ih h49 x52 x1 x48 x40 x7))
noncomputable def S14_80 (x39 : IV) (h27 : Hp) (x3 : IV) (ih : Handler) (x1 : IV) (x7 : IV) : Option (IV × Hp) :=
  subS EE 3 x39 (.fv (.int .i64 2)) fun x40 => loadA 3 x3 h27 fun x41 r42 => chkS [] r42 [] (isoS [] false false ih 42 [x41, .fv (.int .i64 0)] h27 fun x43 h44 r45 w46 => chkS [] r45 w46 (S14_79 x1 ih h44 x43 x3 r45 w46 r42 x40 x7))
noncomputable def S14_81 (h15 : Hp) (x18 : IV) (x14 : IV) (ih : Handler) (x7 : IV) (x3 : IV) (x1 : IV) : Option (IV × Hp) :=
  guardS x18 false h15 (fun k19 => k19 x14 h15 [] []) fun x20 h21 _ _ => guardS x18 false h21 (fun k24 => ltS EE 3 x20 (.fv (.int .i64 2)) fun x25 => k24 x25 h21 [] []) fun x26 h27 _ _ => pickS x18 (.fv (.bool true)) x26 fun x30 => condS x30 (isoS [] false false ih 30 [.fv (.int .i64 15), .nils] h27 fun x31 h32 _ _ => S14_75 h32 x7 x31) (addS EE 3 (.fv (.int .i64 16)) x14 fun x39 => S14_80 x39 h27 x3 ih x1 x7)
noncomputable def S14 (ih : Handler) (n : Nat) (x0 : IV) (x1 : IV) (h2 : Hp) : Option (IV × Hp) :=
  boxS 14680064 x0 h2 fun x3 h4 _ _ => newS 14680065 (.row [.fv (.int .i64 0), .fv (.int .i64 0), .nils] false) (.ptr (.own 14680065) 0) h4 fun x7 h8 _ _ => faddrS 1 x3 fun x11 => load1 x11 h8 fun x12 _ => isoS [] false false ih 41 [x12, .fv (.int .i64 4)] h8 fun x14 h15 _ _ => leS EE 3 x1 (.fv (.int .i64 0)) fun x18 => S14_81 h15 x18 x14 ih x7 x3 x1
theorem S14_ok (ih : Handler) (n : Nat) (x0 : IV) (x1 : IV) (h2 : Hp) : funS EE ih ft.get n 14 [x0, x1] h2 = S14 ih n x0 x1 h2 := by kernel_rfl
noncomputable def S17_65 (h25 : Hp) (x7 : IV) (x29 : IV) : Option (IV × Hp) :=
  storeA 3 x7 x29 h25 fun h30 _ _ => cellS true 3 x7 h30 fun x33 => outS1 [x33, .fv (.int .i64 1)] h30
noncomputable def S17_66 (h51 : Hp) (x7 : IV) (x41 : IV) : Option (IV × Hp) :=
  cellS true 3 x7 h51 fun x54 => outS1 [x54, x41] h51
noncomputable def S17_67 (h58 : Hp) (x7 : IV) (x57 : IV) : Option (IV × Hp) :=
  storeA 3 x7 x57 h58 fun h61 _ _ => cellS true 3 x7 h61 fun x64 => outS1 [x64, .fv (.int .i64 0)] h61
noncomputable def S17_68 (x41 : IV) (h46 : Hp) (x7 : IV) (x42 : IV) (ih : Handler) : Option (IV × Hp) :=
  neS EE 35 x41 (.fv (.int .i64 0)) fun x49 => condS x49 (bldS [.fv (.int .i64 0), .fv (.int .i64 0), .nils] [] fun x50 => storeA 3 x7 x50 h46 fun h51 _ _ => S17_66 h51 x7 x41) (loadA 3 x42 h46 fun x55 _ => isoS [] false false ih 54 [x55] h46 fun x57 h58 _ _ => S17_67 h58 x7 x57)
noncomputable def S17_69 (ih : Handler) (h25 : Hp) (x0 : IV) (x34 : IV) (x7 : IV) : Option (IV × Hp) :=
  isoS [] false false ih 53 [x0, x34] h25 fun x36 h37 _ _ => extS 0 x36 fun x40 => extS 1 x36 fun x41 => newS 17828870 (.row [.fv (.int .i64 0), .fv (.int .i64 0), .nils] false) (.ptr (.own 17828870) 0) h37 fun x42 h43 _ _ => storeA 3 x42 x40 h43 fun h46 _ _ => S17_68 x41 h46 x7 x42 ih
noncomputable def S17_70 (h20 : Hp) (x17 : IV) (ih : Handler) (x19 : IV) (x7 : IV) (x3 : IV) (x0 : IV) : Option (IV × Hp) :=
  guardS x17 false h20 (fun k23 => isoS [] false false ih 50 [x19, .fv (.func (.func 51) [] [])] h20 k23) fun x24 h25 _ _ => pickS x17 (.fv (.bool true)) x24 fun x28 => condS x28 (bldS [.fv (.int .i64 0), .fv (.int .i64 0), .nils] [] fun x29 => S17_65 h25 x7 x29) (loadA 3 x3 h25 fun x34 _ => S17_69 ih h25 x0 x34 x7)
noncomputable def S17 (ih : Handler) (n : Nat) (x0 : IV) (x1 : IV) (h2 : Hp) : Option (IV × Hp) :=
  boxS 17825792 x1 h2 fun x3 h4 _ _ => newS 17825793 (.row [.fv (.int .i64 0), .fv (.int .i64 0), .nils] false) (.ptr (.own 17825793) 0) h4 fun x7 h8 _ _ => loadA 3 x3 h8 fun x11 _ => isoS [] false false ih 49 [x11] h8 fun x13 h14 _ _ => neS EE 35 x13 (.fv (.int .i64 0)) fun x17 => guardS x17 false h14 (fun k18 => k18 x0 h14 [] []) fun x19 h20 _ _ => S17_70 h20 x17 ih x19 x7 x3 x0
theorem S17_ok (ih : Handler) (n : Nat) (x0 : IV) (x1 : IV) (h2 : Hp) : funS EE ih ft.get n 17 [x0, x1] h2 = S17 ih n x0 x1 h2 := by kernel_rfl
noncomputable def S20 (ih : Handler) (n : Nat) (x0 : IV) (h1 : Hp) : Option (IV × Hp) :=
  boxS 20971520 x0 h1 fun x2 h3 _ _ => loadA 3 x2 h3 fun x6 _ => isoS [] false false ih 52 [x6] h3 fun x8 h9 _ _ => outS1 [x8] h9
theorem S20_ok (ih : Handler) (n : Nat) (x0 : IV) (h1 : Hp) : funS EE ih ft.get n 20 [x0] h1 = S20 ih n x0 h1 := by kernel_rfl
noncomputable def S23 (ih : Handler) (n : Nat) (x0 : IV) (x1 : IV) (h2 : Hp) : Option (IV × Hp) :=
  binS EE 3 .rem x0 x1 fun x3 => (fun (j1_4 : IV → Hp → Option (IV × Hp)) => ltS EE 3 x3 (.fv (.int .i64 0)) fun x7 => condS x7 (addS EE 3 x3 x1 fun x8 => j1_4 x8 h2) (j1_4 x3 h2)) fun x5 h6 => outS1 [x5] h6
theorem S23_ok (ih : Handler) (n : Nat) (x0 : IV) (x1 : IV) (h2 : Hp) : funS EE ih ft.get n 23 [x0, x1] h2 = S23 ih n x0 x1 h2 := by kernel_rfl
noncomputable def S30 (ih : Handler) (n : Nat) (x0 : IV) (x1 : IV) (h2 : Hp) : Option (IV × Hp) :=
  newS 31457280 (.row [.fv (.int .i64 0), .fv (.int .i64 0), .nils] false) (.ptr (.own 31457280) 0) h2 fun x3 h4 _ _ => bldS [.fv (.int .i64 0), .fv (.int .i64 0), .nils] [(0, 1, x0), (2, 1, x1)] fun x7 => storeA 3 x3 x7 h4 fun h8 _ _ => cellS true 3 x3 h8 fun x11 => outS1 [x11] h8
theorem S30_ok (ih : Handler) (n : Nat) (x0 : IV) (x1 : IV) (h2 : Hp) : funS EE ih ft.get n 30 [x0, x1] h2 = S30 ih n x0 x1 h2 := by kernel_rfl
noncomputable def S31 (ih : Handler) (n : Nat) (x0 : IV) (h1 : Hp) : Option (IV × Hp) :=
  newS 32505856 (.row [.fv (.int .i64 0), .fv (.int .i64 0), .nils] false) (.ptr (.own 32505856) 0) h1 fun x2 h3 _ _ => bldS [.fv (.int .i64 0), .fv (.int .i64 0), .nils] [(0, 1, .fv (.int .i64 25)), (1, 1, x0)] fun x6 => storeA 3 x2 x6 h3 fun h7 _ _ => cellS true 3 x2 h7 fun x10 => outS1 [x10] h7
theorem S31_ok (ih : Handler) (n : Nat) (x0 : IV) (h1 : Hp) : funS EE ih ft.get n 31 [x0] h1 = S31 ih n x0 h1 := by kernel_rfl
noncomputable def S32_250 (h42 : Hp) (x25 : IV) (x41 : IV) : Option (IV × Hp) :=
  guardS x25 true h42 (fun k45 => eqS EE 3 x41 (.fv (.int .i64 0)) fun x46 => k45 x46 h42 [] []) fun x47 h48 _ _ => pickS x25 x47 (.fv (.bool false)) fun x51 => outS1 [x51] h48
noncomputable def S32_251 (h14 : Hp) (x22 : IV) (x3 : IV) : Option (IV × Hp) :=
  load1 x22 h14 fun x23 _ => eqS EE 3 x23 (.fv (.int .i64 15)) fun x25 => guardS x25 true h14 (fun k26 => faddrS 2 x3 fun x27 => k26 x27 h14 [] []) fun x28 h29 _ _ => guardS x25 true h29 (fun k32 => load1 x28 h29 fun x33 r34 => k32 x33 h29 r34 []) fun x35 h36 _ _ => guardS x25 true h36 (fun k39 => lenS x35 fun x40 => k39 x40 h36 [] []) fun x41 h42 _ _ => S32_250 h42 x25 x41
noncomputable def S32_252 (x79 : IV) (x101 : IV) (h102 : Hp) : Option (IV × Hp) :=
  pickS x79 x101 (.fv (.bool false)) fun x105 => outS1 [x105] h102
noncomputable def S32_253 (x59 : IV) (x75 : IV) (h76 : Hp) (x3 : IV) : Option (IV × Hp) :=
  pickS x59 x75 (.fv (.bool false)) fun x79 => guardS x79 true h76 (fun k80 => faddrS 2 x3 fun x81 => k80 x81 h76 [] []) fun x82 h83 _ _ => guardS x79 true h83 (fun k86 => load1 x82 h83 fun x87 r88 => k86 x87 h83 r88 []) fun x89 h90 _ _ => guardS x79 true h90 (fun k93 => lenS x89 fun x94 => k93 x94 h90 [] []) fun x95 h96 _ _ => guardS x79 true h96 (fun k99 => eqS EE 3 x95 (.fv (.int .i64 0)) fun x100 => k99 x100 h96 [] []) fun x101 h102 _ _ => S32_252 x79 x101 h102
noncomputable def S32_254 (h14 : Hp) (x56 : IV) (x3 : IV) : Option (IV × Hp) :=
  load1 x56 h14 fun x57 _ => eqS EE 3 x57 (.fv (.int .i64 16)) fun x59 => guardS x59 true h14 (fun k60 => faddrS 1 x3 fun x61 => k60 x61 h14 [] []) fun x62 h63 _ _ => guardS x59 true h63 (fun k66 => load1 x62 h63 fun x67 r68 => k66 x67 h63 r68 []) fun x69 h70 _ _ => guardS x59 true h70 (fun k73 => eqS EE 3 x69 (.fv (.int .i64 0)) fun x74 => k73 x74 h70 [] []) fun x75 h76 _ _ => S32_253 x59 x75 h76 x3
noncomputable def S32_255 (r247 : List Ref) (w248 : List Ref) (x188 : IV) (x245 : IV) (h246 : Hp) : Option (IV × Hp) :=
  chkS [] r247 w248 (pickS x188 x245 (.fv (.bool false)) fun x249 => outS1 [x249] h246)
noncomputable def S32_256 (r229 : List Ref) (w230 : List Ref) (r216 : List Ref) (w217 : List Ref) (r203 : List Ref) (w204 : List Ref) (h228 : Hp) (x188 : IV) (x227 : IV) (ih : Handler) (x214 : IV) : Option (IV × Hp) :=
  chkS [(r216, w217), (r203, w204)] r229 w230 (guardS x188 true h228 (fun k231 => ixS 3 x227 (.fv (.int .i64 1)) fun x232 => k231 x232 h228 [] []) fun x233 h234 _ _ => guardS x188 true h234 (fun k237 => loadA 3 x233 h234 fun x238 r239 => k237 x238 h234 r239 []) fun x240 h241 r242 w243 => chkS [(r216, w217), (r203, w204)] r242 w243 (guardS x188 true h241 (fun k244 => isoS [] false false ih 32 [x214, x240] h241 k244) fun x245 h246 r247 w248 => S32_255 r247 w248 x188 x245 h246))
noncomputable def S32_257 (h202 : Hp) (x188 : IV) (x201 : IV) (x7 : IV) (r203 : List Ref) (w204 : List Ref) (ih : Handler) : Option (IV × Hp) :=
  guardS x188 true h202 (fun k205 => ixS 3 x201 (.fv (.int .i64 1)) fun x206 => k205 x206 h202 [] []) fun x207 h208 _ _ => guardS x188 true h208 (fun k211 => loadA 3 x207 h208 fun x212 r213 => k211 x212 h208 r213 []) fun x214 h215 r216 w217 => chkS [] r216 w217 (guardS x188 true h215 (fun k218 => faddrS 2 x7 fun x219 => k218 x219 h215 [] []) fun x220 h221 _ _ => guardS x188 true h221 (fun k224 => load1 x220 h221 fun x225 r226 => k224 x225 h221 r226 []) fun x227 h228 r229 w230 => S32_256 r229 w230 r216 w217 r203 w204 h228 x188 x227 ih x214)
noncomputable def S32_258 (ih : Handler) (h172 : Hp) (x180 : IV) (x186 : IV) (x3 : IV) (x7 : IV) : Option (IV × Hp) :=
  isoS [] false false ih 32 [x180, x186] h172 fun x188 h189 r190 w191 => chkS [] r190 w191 (guardS x188 true h189 (fun k192 => faddrS 2 x3 fun x193 => k192 x193 h189 [] []) fun x194 h195 _ _ => guardS x188 true h195 (fun k198 => load1 x194 h195 fun x199 r200 => k198 x199 h195 r200 []) fun x201 h202 r203 w204 => chkS [] r203 w204 (S32_257 h202 x188 x201 x7 r203 w204 ih))
noncomputable def S32_259 (h172 : Hp) (x182 : IV) (r181 : List Ref) (r178 : List Ref) (ih : Handler) (x180 : IV) (x3 : IV) (x7 : IV) : Option (IV × Hp) :=
  load1 x182 h172 fun x183 r184 => chkS [(r181, []), (r178, [])] r184 [] (ixS 3 x183 (.fv (.int .i64 0)) fun x185 => loadA 3 x185 h172 fun x186 r187 => chkS [(r181, []), (r178, [])] r187 [] (S32_258 ih h172 x180 x186 x3 x7))
noncomputable def S32_260 (r178 : List Ref) (x177 : IV) (h172 : Hp) (x7 : IV) (ih : Handler) (x3 : IV) : Option (IV × Hp) :=
  chkS [] r178 [] (ixS 3 x177 (.fv (.int .i64 0)) fun x179 => loadA 3 x179 h172 fun x180 r181 => chkS [] r181 [] (faddrS 2 x7 fun x182 => S32_259 h172 x182 r181 r178 ih x180 x3 x7))
noncomputable def S32_261 (x175 : IV) (h172 : Hp) (x3 : IV) (x7 : IV) (ih : Handler) : Option (IV × Hp) :=
  condS x175 (outS1 [.fv (.bool false)] h172) (faddrS 2 x3 fun x176 => load1 x176 h172 fun x177 r178 => S32_260 r178 x177 h172 x7 ih x3)
noncomputable def S32_262 (x129 : IV) (x151 : IV) (h152 : Hp) (x7 : IV) (x3 : IV) (ih : Handler) : Option (IV × Hp) :=
  pickS x129 (.fv (.bool true)) x151 fun x155 => guardS x155 false h152 (fun k156 => faddrS 0 x7 fun x157 => k156 x157 h152 [] []) fun x158 h159 _ _ => guardS x155 false h159 (fun k162 => load1 x158 h159 fun x163 r164 => k162 x163 h159 r164 []) fun x165 h166 _ _ => guardS x155 false h166 (fun k169 => neS EE 3 x165 (.fv (.int .i64 17)) fun x170 => k169 x170 h166 [] []) fun x171 h172 _ _ => pickS x155 (.fv (.bool true)) x171 fun x175 => S32_261 x175 h172 x3 x7 ih
noncomputable def S32_263 (x109 : IV) (x125 : IV) (h126 : Hp) (x3 : IV) (x7 : IV) (ih : Handler) : Option (IV × Hp) :=
  pickS x109 (.fv (.bool true)) x125 fun x129 => guardS x129 false h126 (fun k130 => faddrS 2 x3 fun x131 => k130 x131 h126 [] []) fun x132 h133 _ _ => guardS x129 false h133 (fun k136 => load1 x132 h133 fun x137 r138 => k136 x137 h133 r138 []) fun x139 h140 _ _ => guardS x129 false h140 (fun k143 => lenS x139 fun x144 => k143 x144 h140 [] []) fun x145 h146 _ _ => guardS x129 false h146 (fun k149 => neS EE 3 x145 (.fv (.int .i64 2)) fun x150 => k149 x150 h146 [] []) fun x151 h152 _ _ => S32_262 x129 x151 h152 x7 x3 ih
noncomputable def S32_264 (h14 : Hp) (x106 : IV) (x3 : IV) (x7 : IV) (ih : Handler) : Option (IV × Hp) :=
  load1 x106 h14 fun x107 _ => neS EE 3 x107 (.fv (.int .i64 2)) fun x109 => guardS x109 false h14 (fun k110 => faddrS 1 x3 fun x111 => k110 x111 h14 [] []) fun x112 h113 _ _ => guardS x109 false h113 (fun k116 => load1 x112 h113 fun x117 r118 => k116 x117 h113 r118 []) fun x119 h120 _ _ => guardS x109 false h120 (fun k123 => neS EE 3 x119 (.fv (.int .i64 0)) fun x124 => k123 x124 h120 [] []) fun x125 h126 _ _ => S32_263 x109 x125 h126 x3 x7 ih
noncomputable def S32_265 (h14 : Hp) (x52 : IV) (x7 : IV) (x3 : IV) (ih : Handler) : Option (IV × Hp) :=
  load1 x52 h14 fun x53 _ => eqS EE 3 x53 (.fv (.int .i64 3)) fun x55 => condS x55 (faddrS 0 x7 fun x56 => S32_254 h14 x56 x3) (faddrS 0 x3 fun x106 => S32_264 h14 x106 x3 x7 ih)
noncomputable def S32_266 (x3 : IV) (h14 : Hp) (x7 : IV) (ih : Handler) : Option (IV × Hp) :=
  faddrS 0 x3 fun x18 => load1 x18 h14 fun x19 _ => eqS EE 3 x19 (.fv (.int .i64 1)) fun x21 => condS x21 (faddrS 0 x7 fun x22 => S32_251 h14 x22 x3) (faddrS 0 x3 fun x52 => S32_265 h14 x52 x7 x3 ih)
noncomputable def S32 (ih : Handler) (n : Nat) (x0 : IV) (x1 : IV) (h2 : Hp) : Option (IV × Hp) :=
  boxS 33554432 x0 h2 fun x3 h4 _ _ => boxS 33554433 x1 h4 fun x7 h8 _ _ => loadA 3 x7 h8 fun x11 _ => isoS [] false false ih 52 [x11] h8 fun x13 h14 _ _ => optS (unR .not x13) fun x17 => condS x17 (outS1 [.fv (.bool false)] h14) (S32_266 x3 h14 x7 ih)
theorem S32_ok (ih : Handler) (n : Nat) (x0 : IV) (x1 : IV) (h2 : Hp) : funS EE ih ft.get n 32 [x0, x1] h2 = S32 ih n x0 x1 h2 := by kernel_rfl
noncomputable def S33_75 (h9 : Hp) (x8 : IV) (x18 : IV) : Option (IV × Hp) :=
  storeA 3 x8 x18 h9 fun h19 _ _ => cellS true 3 x8 h19 fun x22 => outS1 [x22] h19
noncomputable def S33_76 (h32 : Hp) (x8 : IV) : Option (IV × Hp) :=
  cellS true 3 x8 h32 fun x35 => outS1 [x35] h32
noncomputable def S33_77 (ih : Handler) (h9 : Hp) (x2 : IV) (x23 : IV) (x1 : IV) (x8 : IV) : Option (IV × Hp) :=
  isoS [] false false ih 23 [x2, x23] h9 fun x24 h25 _ _ => ixS 1 x1 x24 fun x28 => load1 x28 h25 fun x29 _ => bldS [.fv (.int .i64 0), .fv (.int .i64 0), .nils] [(0, 1, .fv (.int .i64 1)), (1, 1, x29)] fun x31 => storeA 3 x8 x31 h25 fun h32 _ _ => S33_76 h32 x8
noncomputable def S33_78 (x1 : IV) (x2 : IV) (h9 : Hp) (x8 : IV) (ih : Handler) : Option (IV × Hp) :=
  lenS x1 fun x16 => eqS EE 3 x16 (.fv (.int .i64 0)) fun x17 => condS x17 (bldS [.fv (.int .i64 0), .fv (.int .i64 0), .nils] [(0, 1, .fv (.int .i64 1)), (1, 1, x2)] fun x18 => S33_75 h9 x8 x18) (lenS x1 fun x23 => S33_77 ih h9 x2 x23 x1 x8)
noncomputable def S33_79 (h38 : Hp) (x8 : IV) : Option (IV × Hp) :=
  cellS true 3 x8 h38 fun x41 => outS1 [x41] h38
noncomputable def S33_80 (x66 : IV) (h67 : Hp) (x8 : IV) : Option (IV × Hp) :=
  bldS [.fv (.int .i64 0), .fv (.int .i64 0), .nils] [(0, 1, .fv (.int .i64 2)), (2, 1, x66)] fun x70 => storeA 3 x8 x70 h67 fun h71 r72 w73 => chkS [] r72 w73 (cellS true 3 x8 h71 fun x74 => outS1 [x74] h71)
noncomputable def S33_81 (x60 : IV) (ih : Handler) (h51 : Hp) (x58 : IV) (x1 : IV) (x50 : IV) (x8 : IV) : Option (IV × Hp) :=
  addS EE 3 x60 (.fv (.int .i64 2)) fun x61 => isoS [] false false ih 33 [x58, x1, x61] h51 fun x62 h63 r64 w65 => chkS [] r64 w65 (genS (pcBuildSlice EE 58 2 [(0, x50), (1, x62)]) 34611218 h63 fun x66 h67 r68 w69 => chkS [] r68 w69 (S33_80 x66 h67 x8))
noncomputable def S33_82 (r56 : List Ref) (r52 : List Ref) (w53 : List Ref) (r47 : List Ref) (r44 : List Ref) (x55 : IV) (h51 : Hp) (x2 : IV) (ih : Handler) (x1 : IV) (x50 : IV) (x8 : IV) : Option (IV × Hp) :=
  chkS [(r52, w53), (r47, []), (r44, [])] r56 [] (ixS 3 x55 (.fv (.int .i64 1)) fun x57 => loadA 3 x57 h51 fun x58 r59 => chkS [(r52, w53), (r47, []), (r44, [])] r59 [] (binS EE 3 .mul (.fv (.int .i64 2)) x2 fun x60 => S33_81 x60 ih h51 x58 x1 x50 x8))
noncomputable def S33_83 (x48 : IV) (ih : Handler) (h9 : Hp) (x46 : IV) (x1 : IV) (x4 : IV) (r47 : List Ref) (r44 : List Ref) (x2 : IV) (x8 : IV) : Option (IV × Hp) :=
  addS EE 3 x48 (.fv (.int .i64 1)) fun x49 => isoS [] false false ih 33 [x46, x1, x49] h9 fun x50 h51 r52 w53 => chkS [] r52 w53 (faddrS 2 x4 fun x54 => load1 x54 h51 fun x55 r56 => S33_82 r56 r52 w53 r47 r44 x55 h51 x2 ih x1 x50 x8)
noncomputable def S33_84 (r44 : List Ref) (x43 : IV) (h9 : Hp) (x2 : IV) (ih : Handler) (x1 : IV) (x4 : IV) (x8 : IV) : Option (IV × Hp) :=
  chkS [] r44 [] (ixS 3 x43 (.fv (.int .i64 0)) fun x45 => loadA 3 x45 h9 fun x46 r47 => chkS [] r47 [] (binS EE 3 .mul (.fv (.int .i64 2)) x2 fun x48 => S33_83 x48 ih h9 x46 x1 x4 r47 r44 x2 x8))
noncomputable def S33_85 (x13 : IV) (h9 : Hp) (x8 : IV) (x4 : IV) (x2 : IV) (ih : Handler) (x1 : IV) : Option (IV × Hp) :=
  eqS EE 3 x13 (.fv (.int .i64 16)) fun x36 => condS x36 (bldS [.fv (.int .i64 0), .fv (.int .i64 0), .nils] [(0, 1, .fv (.int .i64 3))] fun x37 => storeA 3 x8 x37 h9 fun h38 _ _ => S33_79 h38 x8) (faddrS 2 x4 fun x42 => load1 x42 h9 fun x43 r44 => S33_84 r44 x43 h9 x2 ih x1 x4 x8)
noncomputable def S33 (ih : Handler) (n : Nat) (x0 : IV) (x1 : IV) (x2 : IV) (h3 : Hp) : Option (IV × Hp) :=
  boxS 34603008 x0 h3 fun x4 h5 _ _ => newS 34603009 (.row [.fv (.int .i64 0), .fv (.int .i64 0), .nils] false) (.ptr (.own 34603009) 0) h5 fun x8 h9 _ _ => faddrS 0 x4 fun x12 => load1 x12 h9 fun x13 _ => eqS EE 3 x13 (.fv (.int .i64 15)) fun x15 => condS x15 (S33_78 x1 x2 h9 x8 ih) (S33_85 x13 h9 x8 x4 x2 ih x1)
theorem S33_ok (ih : Handler) (n : Nat) (x0 : IV) (x1 : IV) (x2 : IV) (h3 : Hp) : funS EE ih ft.get n 33 [x0, x1, x2] h3 = S33 ih n x0 x1 x2 h3 := by kernel_rfl
noncomputable def S34_119 (x7 : IV) (h34 : Hp) (x39 : IV) : Option (IV × Hp) :=
  faddrS 0 x7 fun x41 => load1 x41 h34 fun x42 _ => eqS EE 3 x39 x42 fun x44 => outS1 [x44] h34
noncomputable def S34_120 (r116 : List Ref) (w117 : List Ref) (x57 : IV) (x114 : IV) (h115 : Hp) : Option (IV × Hp) :=
  chkS [] r116 w117 (pickS x57 x114 (.fv (.bool false)) fun x118 => outS1 [x118] h115)
noncomputable def S34_121 (r98 : List Ref) (w99 : List Ref) (r85 : List Ref) (w86 : List Ref) (r72 : List Ref) (w73 : List Ref) (h97 : Hp) (x57 : IV) (x96 : IV) (ih : Handler) (x83 : IV) : Option (IV × Hp) :=
  chkS [(r85, w86), (r72, w73)] r98 w99 (guardS x57 true h97 (fun k100 => ixS 3 x96 (.fv (.int .i64 1)) fun x101 => k100 x101 h97 [] []) fun x102 h103 _ _ => guardS x57 true h103 (fun k106 => loadA 3 x102 h103 fun x107 r108 => k106 x107 h103 r108 []) fun x109 h110 r111 w112 => chkS [(r85, w86), (r72, w73)] r111 w112 (guardS x57 true h110 (fun k113 => isoS [] false false ih 34 [x83, x109] h110 k113) fun x114 h115 r116 w117 => S34_120 r116 w117 x57 x114 h115))
noncomputable def S34_122 (h71 : Hp) (x57 : IV) (x70 : IV) (x7 : IV) (r72 : List Ref) (w73 : List Ref) (ih : Handler) : Option (IV × Hp) :=
  guardS x57 true h71 (fun k74 => ixS 3 x70 (.fv (.int .i64 1)) fun x75 => k74 x75 h71 [] []) fun x76 h77 _ _ => guardS x57 true h77 (fun k80 => loadA 3 x76 h77 fun x81 r82 => k80 x81 h77 r82 []) fun x83 h84 r85 w86 => chkS [] r85 w86 (guardS x57 true h84 (fun k87 => faddrS 2 x7 fun x88 => k87 x88 h84 [] []) fun x89 h90 _ _ => guardS x57 true h90 (fun k93 => load1 x89 h90 fun x94 r95 => k93 x94 h90 r95 []) fun x96 h97 r98 w99 => S34_121 r98 w99 r85 w86 r72 w73 h97 x57 x96 ih x83)
noncomputable def S34_123 (ih : Handler) (h34 : Hp) (x49 : IV) (x55 : IV) (x3 : IV) (x7 : IV) : Option (IV × Hp) :=
  isoS [] false false ih 34 [x49, x55] h34 fun x57 h58 r59 w60 => chkS [] r59 w60 (guardS x57 true h58 (fun k61 => faddrS 2 x3 fun x62 => k61 x62 h58 [] []) fun x63 h64 _ _ => guardS x57 true h64 (fun k67 => load1 x63 h64 fun x68 r69 => k67 x68 h64 r69 []) fun x70 h71 r72 w73 => chkS [] r72 w73 (S34_122 h71 x57 x70 x7 r72 w73 ih))
noncomputable def S34_124 (h34 : Hp) (x51 : IV) (r50 : List Ref) (r47 : List Ref) (ih : Handler) (x49 : IV) (x3 : IV) (x7 : IV) : Option (IV × Hp) :=
  load1 x51 h34 fun x52 r53 => chkS [(r50, []), (r47, [])] r53 [] (ixS 3 x52 (.fv (.int .i64 0)) fun x54 => loadA 3 x54 h34 fun x55 r56 => chkS [(r50, []), (r47, [])] r56 [] (S34_123 ih h34 x49 x55 x3 x7))
noncomputable def S34_125 (r47 : List Ref) (x46 : IV) (h34 : Hp) (x7 : IV) (ih : Handler) (x3 : IV) : Option (IV × Hp) :=
  chkS [] r47 [] (ixS 3 x46 (.fv (.int .i64 0)) fun x48 => loadA 3 x48 h34 fun x49 r50 => chkS [] r50 [] (faddrS 2 x7 fun x51 => S34_124 h34 x51 r50 r47 ih x49 x3 x7))
noncomputable def S34_126 (x37 : IV) (x3 : IV) (h34 : Hp) (x7 : IV) (ih : Handler) : Option (IV × Hp) :=
  condS x37 (faddrS 0 x3 fun x38 => load1 x38 h34 fun x39 _ => S34_119 x7 h34 x39) (faddrS 2 x3 fun x45 => load1 x45 h34 fun x46 r47 => S34_125 r47 x46 h34 x7 ih x3)
noncomputable def S34_127 (x12 : IV) (x15 : IV) (h8 : Hp) (x3 : IV) (x7 : IV) (ih : Handler) : Option (IV × Hp) :=
  neS EE 3 x12 x15 fun x17 => guardS x17 false h8 (fun k18 => faddrS 0 x3 fun x19 => k18 x19 h8 [] []) fun x20 h21 _ _ => guardS x17 false h21 (fun k24 => load1 x20 h21 fun x25 r26 => k24 x25 h21 r26 []) fun x27 h28 _ _ => guardS x17 false h28 (fun k31 => neS EE 3 x27 (.fv (.int .i64 17)) fun x32 => k31 x32 h28 [] []) fun x33 h34 _ _ => pickS x17 (.fv (.bool true)) x33 fun x37 => S34_126 x37 x3 h34 x7 ih
noncomputable def S34 (ih : Handler) (n : Nat) (x0 : IV) (x1 : IV) (h2 : Hp) : Option (IV × Hp) :=
  boxS 35651584 x0 h2 fun x3 h4 _ _ => boxS 35651585 x1 h4 fun x7 h8 _ _ => faddrS 0 x3 fun x11 => load1 x11 h8 fun x12 _ => faddrS 0 x7 fun x14 => load1 x14 h8 fun x15 _ => S34_127 x12 x15 h8 x3 x7 ih
theorem S34_ok (ih : Handler) (n : Nat) (x0 : IV) (x1 : IV) (h2 : Hp) : funS EE ih ft.get n 34 [x0, x1] h2 = S34 ih n x0 x1 h2 := by kernel_rfl
noncomputable def S40_53 (x12 : IV) (x43 : IV) (x13 : IV) (q7 : List IV → Hp → Option (IV × Hp)) (h44 : Hp) (x10 : IV) (x11 : IV) : Option (IV × Hp) :=
  addS EE 3 x12 x43 fun x47 => addS EE 3 x13 (.fv (.int .i64 1)) fun x48 => q7 [x10, x11, x47, x48] h44
noncomputable def S40_54 (h32 : Hp) (x36 : IV) (x13 : IV) (x10 : IV) (x12 : IV) (ih : Handler) (q7 : List IV → Hp → Option (IV × Hp)) (x11 : IV) : Option (IV × Hp) :=
  load1 x36 h32 fun x37 _ => ixS 3 x37 x13 fun x39 => loadA 3 x39 h32 fun x40 _ => subS EE 3 x10 x12 fun x42 => isoS [] false false ih 40 [x40, x42] h32 fun x43 h44 _ _ => S40_53 x12 x43 x13 q7 h44 x10 x11
noncomputable def S40_55 (h26 : Hp) (x18 : IV) (x20 : IV) (x25 : IV) (x11 : IV) (x13 : IV) (x10 : IV) (x12 : IV) (ih : Handler) (q7 : List IV → Hp → Option (IV × Hp)) : Option (IV × Hp) :=
  guardS x18 true h26 (fun k29 => ltS EE 3 x20 x25 fun x30 => k29 x30 h26 [] []) fun x31 h32 _ _ => pickS x18 x31 (.fv (.bool false)) fun x35 => condS x35 (faddrS 2 x11 fun x36 => S40_54 h32 x36 x13 x10 x12 ih q7 x11) (outS1 [x12] h32)
noncomputable def S40_56 (h9 : Hp) (x14 : IV) (x13 : IV) (x12 : IV) (x10 : IV) (x11 : IV) (ih : Handler) (q7 : List IV → Hp → Option (IV × Hp)) : Option (IV × Hp) :=
  load1 x14 h9 fun x15 _ => lenS x15 fun x17 => ltS EE 3 x13 x17 fun x18 => guardS x18 true h9 (fun k19 => k19 x12 h9 [] []) fun x20 h21 _ _ => guardS x18 true h21 (fun k24 => k24 x10 h21 [] []) fun x25 h26 _ _ => S40_55 h26 x18 x20 x25 x11 x13 x10 x12 ih q7
noncomputable def S40_57 (l8 : List IV) (h9 : Hp) (ih : Handler) (q7 : List IV → Hp → Option (IV × Hp)) : Option (IV × Hp) :=
  uncS l8 fun x10 l49 => uncS l49 fun x11 l50 => uncS l50 fun x12 l51 => uncS l51 fun x13 _ => faddrS 2 x11 fun x14 => S40_56 h9 x14 x13 x12 x10 x11 ih q7
noncomputable def S40 (ih : Handler) (n : Nat) (x0 : IV) (x1 : IV) (h2 : Hp) : Option (IV × Hp) :=
  boxS 41943040 x0 h2 fun x3 h4 _ _ => loopS n (fun q7 l8 h9 => S40_57 l8 h9 ih q7) [x1, x3, .fv (.int .i64 1), .fv (.int .i64 0)] h4
theorem S40_ok (ih : Handler) (n : Nat) (x0 : IV) (x1 : IV) (h2 : Hp) : funS EE ih ft.get n 40 [x0, x1] h2 = S40 ih n x0 x1 h2 := by kernel_rfl
noncomputable def S41 (ih : Handler) (n : Nat) (x0 : IV) (x1 : IV) (h2 : Hp) : Option (IV × Hp) :=
  binS EE 3 .rem x0 x1 fun x3 => (fun (j1_4 : IV → Hp → Option (IV × Hp)) => ltS EE 3 x3 (.fv (.int .i64 0)) fun x7 => condS x7 (addS EE 3 x3 x1 fun x8 => j1_4 x8 h2) (j1_4 x3 h2)) fun x5 h6 => outS1 [x5] h6
theorem S41_ok (ih : Handler) (n : Nat) (x0 : IV) (x1 : IV) (h2 : Hp) : funS EE ih ft.get n 41 [x0, x1] h2 = S41 ih n x0 x1 h2 := by kernel_rfl
noncomputable def S42_42 (x17 : IV) (x1 : IV) (h8 : Hp) (x7 : IV) : Option (IV × Hp) :=
  ixS 3 x17 x1 fun x19 => loadA 3 x19 h8 fun x20 _ => storeA 3 x7 x20 h8 fun h22 _ _ => cellS true 3 x7 h22 fun x25 => outS1 [x25] h22
noncomputable def S42_43 (x1 : IV) (x34 : IV) (x30 : IV) (h8 : Hp) (x7 : IV) : Option (IV × Hp) :=
  binS EE 3 .mul (.fv (.int .i64 7)) x1 fun x35 => addS EE 3 x34 x35 fun x36 => bldS [.fv (.int .i64 0), .fv (.int .i64 0), .nils] [(0, 1, x30), (1, 1, x36)] fun x37 => storeA 3 x7 x37 h8 fun h38 _ _ => cellS true 3 x7 h38 fun x41 => outS1 [x41] h38
noncomputable def S42_44 (x27 : IV) (x1 : IV) (x3 : IV) (h8 : Hp) (x7 : IV) : Option (IV × Hp) :=
  binS EE 3 .quo x27 (.fv (.int .i64 3)) fun x29 => addS EE 3 x29 x1 fun x30 => faddrS 1 x3 fun x31 => load1 x31 h8 fun x32 _ => binS EE 3 .quo x32 (.fv (.int .i64 5)) fun x34 => S42_43 x1 x34 x30 h8 x7
noncomputable def S42_45 (x15 : IV) (x3 : IV) (h8 : Hp) (x1 : IV) (x7 : IV) : Option (IV × Hp) :=
  condS x15 (faddrS 2 x3 fun x16 => load1 x16 h8 fun x17 _ => S42_42 x17 x1 h8 x7) (faddrS 0 x3 fun x26 => load1 x26 h8 fun x27 _ => S42_44 x27 x1 x3 h8 x7)
noncomputable def S42 (ih : Handler) (n : Nat) (x0 : IV) (x1 : IV) (h2 : Hp) : Option (IV × Hp) :=
  boxS 44040192 x0 h2 fun x3 h4 _ _ => newS 44040193 (.row [.fv (.int .i64 0), .fv (.int .i64 0), .nils] false) (.ptr (.own 44040193) 0) h4 fun x7 h8 _ _ => faddrS 2 x3 fun x11 => load1 x11 h8 fun x12 _ => lenS x12 fun x14 => ltS EE 3 x1 x14 fun x15 => S42_45 x15 x3 h8 x1 x7
theorem S42_ok (ih : Handler) (n : Nat) (x0 : IV) (x1 : IV) (h2 : Hp) : funS EE ih ft.get n 42 [x0, x1] h2 = S42 ih n x0 x1 h2 := by kernel_rfl
noncomputable def S49 (ih : Handler) (n : Nat) (x0 : IV) (h1 : Hp) : Option (IV × Hp) :=
  boxS 51380224 x0 h1 fun x2 h3 _ _ => loadA 3 x2 h3 fun x6 _ => newS 51381249 (.row [.fv (.int .i64 0)] false) (.ptr (.own 51381249) 0) h3 fun x8 h9 _ _ => isoS [false, true, false] false false ih 71 [x6, x8, .fv (.int .i64 1)] h9 fun x12 h13 _ _ => outS1 [x12] h13
theorem S49_ok (ih : Handler) (n : Nat) (x0 : IV) (h1 : Hp) : funS EE ih ft.get n 49 [x0] h1 = S49 ih n x0 h1 := by kernel_rfl
noncomputable def S50 (ih : Handler) (n : Nat) (x0 : IV) (x1 : IV) (h2 : Hp) : Option (IV × Hp) :=
  isoS [] false false ih 72 [x0, x1] h2 fun x3 h4 _ _ => geS EE 3 x3 (.fv (.int .i64 0)) fun x7 => outS1 [x7] h4
theorem S50_ok (ih : Handler) (n : Nat) (x0 : IV) (x1 : IV) (h2 : Hp) : funS EE ih ft.get n 50 [x0, x1] h2 = S50 ih n x0 x1 h2 := by kernel_rfl
noncomputable def S51 (ih : Handler) (n : Nat) (x0 : IV) (h1 : Hp) : Option (IV × Hp) :=
  boxS 53477376 x0 h1 fun x2 h3 _ _ => loadA 3 x2 h3 fun x6 _ => isoS [] false false ih 52 [x6] h3 fun x8 h9 _ _ => optS (unR .not x8) fun x12 => outS1 [x12] h9
theorem S51_ok (ih : Handler) (n : Nat) (x0 : IV) (h1 : Hp) : funS EE ih ft.get n 51 [x0] h1 = S51 ih n x0 h1 := by kernel_rfl
noncomputable def S52_89 (h3 : Hp) (x10 : IV) : Option (IV × Hp) :=
  load1 x10 h3 fun x11 _ => lenS x11 fun x13 => eqS EE 3 x13 (.fv (.int .i64 0)) fun x14 => outS1 [x14] h3
noncomputable def S52_90 (h65 : Hp) (x54 : IV) (x64 : IV) (ih : Handler) : Option (IV × Hp) :=
  guardS x54 true h65 (fun k68 => ixS 3 x64 (.fv (.int .i64 1)) fun x69 => k68 x69 h65 [] []) fun x70 h71 _ _ => guardS x54 true h71 (fun k74 => loadA 3 x70 h71 fun x75 r76 => k74 x75 h71 r76 []) fun x77 h78 _ _ => guardS x54 true h78 (fun k81 => isoS [] false false ih 52 [x77] h78 k81) fun x82 h83 _ _ => pickS x54 x82 (.fv (.bool false)) fun x86 => outS1 [x86] h83
noncomputable def S52_91 (h39 : Hp) (x22 : IV) (x38 : IV) (ih : Handler) (x2 : IV) : Option (IV × Hp) :=
  guardS x22 true h39 (fun k42 => loadA 3 x38 h39 fun x43 r44 => k42 x43 h39 r44 []) fun x45 h46 _ _ => guardS x22 true h46 (fun k49 => isoS [] false false ih 52 [x45] h46 k49) fun x50 h51 _ _ => pickS x22 x50 (.fv (.bool false)) fun x54 => guardS x54 true h51 (fun k55 => faddrS 2 x2 fun x56 => k55 x56 h51 [] []) fun x57 h58 _ _ => guardS x54 true h58 (fun k61 => load1 x57 h58 fun x62 r63 => k61 x62 h58 r63 []) fun x64 h65 _ _ => S52_90 h65 x54 x64 ih
noncomputable def S52_92 (x19 : IV) (h17 : Hp) (x2 : IV) (ih : Handler) : Option (IV × Hp) :=
  lenS x19 fun x21 => eqS EE 3 x21 (.fv (.int .i64 2)) fun x22 => guardS x22 true h17 (fun k23 => faddrS 2 x2 fun x24 => k23 x24 h17 [] []) fun x25 h26 _ _ => guardS x22 true h26 (fun k29 => load1 x25 h26 fun x30 r31 => k29 x30 h26 r31 []) fun x32 h33 _ _ => guardS x22 true h33 (fun k36 => ixS 3 x32 (.fv (.int .i64 0)) fun x37 => k36 x37 h33 [] []) fun x38 h39 _ _ => S52_91 h39 x22 x38 ih x2
noncomputable def S52_93 (x16 : IV) (x2 : IV) (h17 : Hp) (ih : Handler) : Option (IV × Hp) :=
  condS x16 (faddrS 2 x2 fun x18 => load1 x18 h17 fun x19 _ => S52_92 x19 h17 x2 ih) (outS1 [.fv (.bool false)] h17)
noncomputable def S52_94 (x7 : IV) (j1_15 : IV → Hp → Option (IV × Hp)) (h3 : Hp) : Option (IV × Hp) :=
  eqS EE 3 x7 (.fv (.int .i64 16)) fun x87 => condS x87 (j1_15 x87 h3) (eqS EE 3 x7 (.fv (.int .i64 17)) fun x88 => j1_15 x88 h3)
noncomputable def S52 (ih : Handler) (n : Nat) (x0 : IV) (h1 : Hp) : Option (IV × Hp) :=
  boxS 54525952 x0 h1 fun x2 h3 _ _ => faddrS 0 x2 fun x6 => load1 x6 h3 fun x7 _ => eqS EE 3 x7 (.fv (.int .i64 15)) fun x9 => condS x9 (faddrS 2 x2 fun x10 => S52_89 h3 x10) ((fun (j1_15 : IV → Hp → Option (IV × Hp)) => S52_94 x7 j1_15 h3) fun x16 h17 => S52_93 x16 x2 h17 ih)
theorem S52_ok (ih : Handler) (n : Nat) (x0 : IV) (h1 : Hp) : funS EE ih ft.get n 52 [x0] h1 = S52 ih n x0 h1 := by kernel_rfl
noncomputable def S53_213 (h8 : Hp) (x7 : IV) (x23 : IV) : Option (IV × Hp) :=
  storeA 3 x7 x23 h8 fun h24 _ _ => cellS true 3 x7 h24 fun x27 => outS1 [x27, .fv (.int .i64 8)] h24
noncomputable def S53_214 (h8 : Hp) (x34 : IV) (x7 : IV) : Option (IV × Hp) :=
  loadA 3 x34 h8 fun x35 _ => storeA 3 x7 x35 h8 fun h37 _ _ => cellS true 3 x7 h37 fun x40 => outS1 [x40, .fv (.int .i64 0)] h37
noncomputable def S53_215 (x28 : IV) (x3 : IV) (h8 : Hp) (x0 : IV) (x7 : IV) : Option (IV × Hp) :=
  subS EE 3 x28 (.fv (.int .i64 1)) fun x29 => faddrS 1 x3 fun x30 => load1 x30 h8 fun x31 _ => subS EE 3 x29 x31 fun x33 => ixS 3 x0 x33 fun x34 => S53_214 h8 x34 x7
noncomputable def S53_216 (x0 : IV) (x19 : IV) (h8 : Hp) (x7 : IV) (x3 : IV) : Option (IV × Hp) :=
  lenS x0 fun x21 => geS EE 3 x19 x21 fun x22 => condS x22 (bldS [.fv (.int .i64 0), .fv (.int .i64 0), .nils] [] fun x23 => S53_213 h8 x7 x23) (lenS x0 fun x28 => S53_215 x28 x3 h8 x0 x7)
noncomputable def S53_217 (ih : Handler) (h8 : Hp) (x7 : IV) : Option (IV × Hp) :=
  isoS [] false false ih 64 [.fv (.int .i64 15), .nils] h8 fun x42 h43 _ _ => storeA 3 x7 x42 h43 fun h46 _ _ => cellS true 3 x7 h46 fun x49 => outS1 [x49, .fv (.int .i64 0)] h46
noncomputable def S53_218 (h64 : Hp) (x7 : IV) (x58 : IV) : Option (IV × Hp) :=
  cellS true 3 x7 h64 fun x67 => outS1 [x67, x58] h64
noncomputable def S53_219 (ih : Handler) (h76 : Hp) (x0 : IV) (x73 : IV) (x75 : IV) (x7 : IV) (x68 : IV) : Option (IV × Hp) :=
  isoS [] false false ih 73 [x0, x73, x75] h76 fun x79 h80 r81 w82 => chkS [] r81 w82 (storeA 3 x7 x68 h80 fun h83 r84 w85 => chkS [] r84 w85 (cellS true 3 x7 h83 fun x86 => outS1 [x86, x79] h83))
noncomputable def S53_220 (x12 : IV) (h69 : Hp) (r70 : List Ref) (w71 : List Ref) (ih : Handler) (x0 : IV) (x7 : IV) (x68 : IV) : Option (IV × Hp) :=
  ixS 3 x12 (.fv (.int .i64 1)) fun x72 => loadA 3 x72 h69 fun x73 r74 => chkS [(r70, w71)] r74 [] (isoS [] false false ih 64 [.fv (.int .i64 15), .nils] h69 fun x75 h76 r77 w78 => chkS [(r74, [])] r77 w78 (S53_219 ih h76 x0 x73 x75 x7 x68))
noncomputable def S53_221 (x58 : IV) (h59 : Hp) (x7 : IV) (ih : Handler) (x12 : IV) (x0 : IV) : Option (IV × Hp) :=
  neS EE 35 x58 (.fv (.int .i64 0)) fun x62 => condS x62 (bldS [.fv (.int .i64 0), .fv (.int .i64 0), .nils] [] fun x63 => storeA 3 x7 x63 h59 fun h64 _ _ => S53_218 h64 x7 x58) (isoS [] false false ih 64 [.fv (.int .i64 15), .nils] h59 fun x68 h69 r70 w71 => chkS [] r70 w71 (S53_220 x12 h69 r70 w71 ih x0 x7 x68))
noncomputable def S53_222 (r53 : List Ref) (ih : Handler) (h8 : Hp) (x0 : IV) (x52 : IV) (x7 : IV) (x12 : IV) : Option (IV × Hp) :=
  chkS [] r53 [] (isoS [] false false ih 64 [.fv (.int .i64 15), .nils] h8 fun x54 h55 r56 w57 => chkS [(r53, [])] r56 w57 (isoS [] false false ih 73 [x0, x52, x54] h55 fun x58 h59 r60 w61 => chkS [] r60 w61 (S53_221 x58 h59 x7 ih x12 x0)))
noncomputable def S53_223 (x92 : IV) (h93 : Hp) (x7 : IV) : Option (IV × Hp) :=
  extS 0 x92 fun x96 => extS 1 x92 fun x97 => storeA 3 x7 x96 h93 fun h98 _ _ => cellS true 3 x7 h98 fun x101 => outS1 [x101, x97] h98
noncomputable def S53_224 (h116 : Hp) (x7 : IV) (x120 : IV) (x111 : IV) : Option (IV × Hp) :=
  storeA 3 x7 x120 h116 fun h121 _ _ => cellS true 3 x7 h121 fun x124 => outS1 [x124, x111] h121
noncomputable def S53_225 (h135 : Hp) (x7 : IV) (x138 : IV) (x139 : IV) : Option (IV × Hp) :=
  storeA 3 x7 x138 h135 fun h140 r141 w142 => chkS [] r141 w142 (cellS true 3 x7 h140 fun x143 => outS1 [x143, x139] h140)
noncomputable def S53_226 (r133 : List Ref) (r129 : List Ref) (w130 : List Ref) (r126 : List Ref) (ih : Handler) (h128 : Hp) (x127 : IV) (x132 : IV) (x7 : IV) : Option (IV × Hp) :=
  chkS [(r129, w130), (r126, [])] r133 [] (isoS [] false false ih 53 [x127, x132] h128 fun x134 h135 r136 w137 => chkS [] r136 w137 (extS 0 x134 fun x138 => extS 1 x134 fun x139 => S53_225 h135 x7 x138 x139))
noncomputable def S53_227 (r126 : List Ref) (ih : Handler) (h116 : Hp) (x0 : IV) (x125 : IV) (x12 : IV) (x7 : IV) : Option (IV × Hp) :=
  chkS [] r126 [] (isoS [] false false ih 75 [x0, x125] h116 fun x127 h128 r129 w130 => chkS [] r129 w130 (ixS 3 x12 (.fv (.int .i64 1)) fun x131 => loadA 3 x131 h128 fun x132 r133 => S53_226 r133 r129 w130 r126 ih h128 x127 x132 x7))
noncomputable def S53_228 (h107 : Hp) (x110 : IV) (x111 : IV) (x7 : IV) (ih : Handler) (x0 : IV) (x12 : IV) : Option (IV × Hp) :=
  newS 55592968 (.row [.fv (.int .i64 0), .fv (.int .i64 0), .nils] false) (.ptr (.own 55592968) 0) h107 fun x112 h113 _ _ => storeA 3 x112 x110 h113 fun h116 _ _ => neS EE 35 x111 (.fv (.int .i64 0)) fun x119 => condS x119 (bldS [.fv (.int .i64 0), .fv (.int .i64 0), .nils] [] fun x120 => S53_224 h116 x7 x120 x111) (loadA 3 x112 h116 fun x125 r126 => S53_227 r126 ih h116 x0 x125 x12 x7)
noncomputable def S53_229 (x12 : IV) (h89 : Hp) (ih : Handler) (x0 : IV) (x7 : IV) : Option (IV × Hp) :=
  ixS 3 x12 (.fv (.int .i64 0)) fun x103 => loadA 3 x103 h89 fun x104 _ => isoS [] false false ih 53 [x0, x104] h89 fun x106 h107 _ _ => extS 0 x106 fun x110 => extS 1 x106 fun x111 => S53_228 h107 x110 x111 x7 ih x0 x12
noncomputable def S53_230 (h158 : Hp) (x7 : IV) (x152 : IV) : Option (IV × Hp) :=
  cellS true 3 x7 h158 fun x161 => outS1 [x161, x152] h158
noncomputable def S53_231 (h180 : Hp) (x7 : IV) (x170 : IV) : Option (IV × Hp) :=
  cellS true 3 x7 h180 fun x183 => outS1 [x183, x170] h180
noncomputable def S53_232 (ih : Handler) (h175 : Hp) (x0 : IV) (x187 : IV) (x189 : IV) (r185 : List Ref) (x7 : IV) (x184 : IV) : Option (IV × Hp) :=
  isoS [] false false ih 73 [x0, x187, x189] h175 fun x191 h192 r193 w194 => chkS [(r185, [])] r193 w194 (storeA 3 x7 x184 h192 fun h195 r196 w197 => chkS [] r196 w197 (cellS true 3 x7 h195 fun x198 => outS1 [x198, x191] h195))
noncomputable def S53_233 (x12 : IV) (h175 : Hp) (r185 : List Ref) (x171 : IV) (ih : Handler) (x0 : IV) (x7 : IV) (x184 : IV) : Option (IV × Hp) :=
  ixS 3 x12 (.fv (.int .i64 2)) fun x186 => loadA 3 x186 h175 fun x187 r188 => chkS [(r185, [])] r188 [] (loadA 3 x171 h175 fun x189 r190 => chkS [(r188, []), (r185, [])] r190 [] (S53_232 ih h175 x0 x187 x189 r185 x7 x184))
noncomputable def S53_234 (x170 : IV) (h175 : Hp) (x7 : IV) (x171 : IV) (x12 : IV) (ih : Handler) (x0 : IV) : Option (IV × Hp) :=
  neS EE 35 x170 (.fv (.int .i64 0)) fun x178 => condS x178 (bldS [.fv (.int .i64 0), .fv (.int .i64 0), .nils] [] fun x179 => storeA 3 x7 x179 h175 fun h180 _ _ => S53_231 h180 x7 x170) (loadA 3 x171 h175 fun x184 r185 => chkS [] r185 [] (S53_233 x12 h175 r185 x171 ih x0 x7 x184))
noncomputable def S53_235 (ih : Handler) (h153 : Hp) (x0 : IV) (x163 : IV) (x7 : IV) (x12 : IV) : Option (IV × Hp) :=
  isoS [] false false ih 53 [x0, x163] h153 fun x165 h166 _ _ => extS 0 x165 fun x169 => extS 1 x165 fun x170 => newS 55601160 (.row [.fv (.int .i64 0), .fv (.int .i64 0), .nils] false) (.ptr (.own 55601160) 0) h166 fun x171 h172 _ _ => storeA 3 x171 x169 h172 fun h175 _ _ => S53_234 x170 h175 x7 x171 x12 ih x0
noncomputable def S53_236 (x152 : IV) (h153 : Hp) (x7 : IV) (x12 : IV) (ih : Handler) (x0 : IV) : Option (IV × Hp) :=
  neS EE 35 x152 (.fv (.int .i64 0)) fun x156 => condS x156 (bldS [.fv (.int .i64 0), .fv (.int .i64 0), .nils] [] fun x157 => storeA 3 x7 x157 h153 fun h158 _ _ => S53_230 h158 x7 x152) (ixS 3 x12 (.fv (.int .i64 1)) fun x162 => loadA 3 x162 h153 fun x163 _ => S53_235 ih h153 x0 x163 x7 x12)
noncomputable def S53_237 (r147 : List Ref) (ih : Handler) (h89 : Hp) (x0 : IV) (x146 : IV) (x7 : IV) (x12 : IV) : Option (IV × Hp) :=
  chkS [] r147 [] (isoS [] false false ih 64 [.fv (.int .i64 15), .nils] h89 fun x148 h149 r150 w151 => chkS [(r147, [])] r150 w151 (isoS [] false false ih 73 [x0, x146, x148] h149 fun x152 h153 r154 w155 => chkS [] r154 w155 (S53_236 x152 h153 x7 x12 ih x0)))
noncomputable def S53_238 (x201 : IV) (h202 : Hp) (x7 : IV) : Option (IV × Hp) :=
  extS 0 x201 fun x205 => extS 1 x201 fun x206 => storeA 3 x7 x205 h202 fun h207 _ _ => cellS true 3 x7 h207 fun x210 => outS1 [x210, x206] h207
noncomputable def S53_239 (x15 : IV) (x12 : IV) (h89 : Hp) (ih : Handler) (x0 : IV) (x7 : IV) (x3 : IV) : Option (IV × Hp) :=
  eqS EE 3 x15 (.fv (.int .i64 27)) fun x144 => condS x144 (ixS 3 x12 (.fv (.int .i64 0)) fun x145 => loadA 3 x145 h89 fun x146 r147 => S53_237 r147 ih h89 x0 x146 x7 x12) (loadA 3 x3 h89 fun x199 _ => dynS EE ih (.fv (.func (.func 76) [] [])) [x0, x199] h89 fun x201 h202 _ _ => S53_238 x201 h202 x7)
noncomputable def S53_240 (x88 : IV) (h89 : Hp) (x3 : IV) (ih : Handler) (x0 : IV) (x7 : IV) (x15 : IV) (x12 : IV) : Option (IV × Hp) :=
  condS x88 (loadA 3 x3 h89 fun x90 _ => isoS [] false false ih 74 [x0, x90] h89 fun x92 h93 _ _ => S53_223 x92 h93 x7) (eqS EE 3 x15 (.fv (.int .i64 28)) fun x102 => condS x102 (S53_229 x12 h89 ih x0 x7) (S53_239 x15 x12 h89 ih x0 x7 x3))
noncomputable def S53_241 (x211 : IV) (j1_87 : IV → Hp → Option (IV × Hp)) (h8 : Hp) (x15 : IV) : Option (IV × Hp) :=
  condS x211 (j1_87 x211 h8) (eqS EE 3 x15 (.fv (.int .i64 29)) fun x212 => j1_87 x212 h8)
noncomputable def S53_242 (x15 : IV) (x12 : IV) (h8 : Hp) (ih : Handler) (x0 : IV) (x7 : IV) (x3 : IV) : Option (IV × Hp) :=
  eqS EE 3 x15 (.fv (.int .i64 26)) fun x50 => condS x50 (ixS 3 x12 (.fv (.int .i64 0)) fun x51 => loadA 3 x51 h8 fun x52 r53 => S53_222 r53 ih h8 x0 x52 x7 x12) ((fun (j1_87 : IV → Hp → Option (IV × Hp)) => eqS EE 3 x15 (.fv (.int .i64 20)) fun x211 => S53_241 x211 j1_87 h8 x15) fun x88 h89 => S53_240 x88 h89 x3 ih x0 x7 x15 x12)
noncomputable def S53_243 (x15 : IV) (x3 : IV) (h8 : Hp) (x0 : IV) (x7 : IV) (ih : Handler) (x12 : IV) : Option (IV × Hp) :=
  eqS EE 3 x15 (.fv (.int .i64 1)) fun x17 => condS x17 (faddrS 1 x3 fun x18 => load1 x18 h8 fun x19 _ => S53_216 x0 x19 h8 x7 x3) (eqS EE 3 x15 (.fv (.int .i64 25)) fun x41 => condS x41 (S53_217 ih h8 x7) (S53_242 x15 x12 h8 ih x0 x7 x3))
noncomputable def S53 (ih : Handler) (n : Nat) (x0 : IV) (x1 : IV) (h2 : Hp) : Option (IV × Hp) :=
  boxS 55574528 x1 h2 fun x3 h4 _ _ => newS 55574529 (.row [.fv (.int .i64 0), .fv (.int .i64 0), .nils] false) (.ptr (.own 55574529) 0) h4 fun x7 h8 _ _ => faddrS 2 x3 fun x11 => load1 x11 h8 fun x12 _ => faddrS 0 x3 fun x14 => load1 x14 h8 fun x15 _ => S53_243 x15 x3 h8 x0 x7 ih x12
theorem S53_ok (ih : Handler) (n : Nat) (x0 : IV) (x1 : IV) (h2 : Hp) : funS EE ih ft.get n 53 [x0, x1] h2 = S53 ih n x0 x1 h2 := by kernel_rfl
noncomputable def S54_72 (x27 : IV) (x30 : IV) (h45 : Hp) (x44 : IV) (h1 : Hp) (x25 : IV) (x26 : IV) (x28 : IV) (x29 : IV) (q22 : List IV → Hp → Option (IV × Hp)) : Option (IV × Hp) :=
  ixS 3 x27 x30 fun x48 => storeA 3 x48 x44 h45 fun h49 _ _ => addS EE 3 x30 (.fv (.int .i64 1)) fun x52 => dropS (h1.own.map (·.1)) [56627203] [x25, x26, x27, x28, x29, x52] h49 fun h53 => q22 [x25, x26, x27, x28, x29, x52] h53
noncomputable def S54_73 (h24 : Hp) (x32 : IV) (ih : Handler) (x27 : IV) (x30 : IV) (h1 : Hp) (x25 : IV) (x26 : IV) (x28 : IV) (x29 : IV) (q22 : List IV → Hp → Option (IV × Hp)) : Option (IV × Hp) :=
  loadA 3 x32 h24 fun x33 _ => newS 56627203 (.row [.fv (.int .i64 0), .fv (.int .i64 0), .nils] false) (.ptr (.own 56627203) 0) h24 fun x35 h36 _ _ => storeA 3 x35 x33 h36 fun h39 _ _ => loadA 3 x35 h39 fun x42 _ => isoS [] false false ih 54 [x42] h39 fun x44 h45 _ _ => S54_72 x27 x30 h45 x44 h1 x25 x26 x28 x29 q22
noncomputable def S54_74 (h61 : Hp) (x26 : IV) : Option (IV × Hp) :=
  cellS true 3 x26 h61 fun x64 => outS1 [x64] h61
noncomputable def S54_75 (h24 : Hp) (x54 : IV) (x25 : IV) (x27 : IV) (x26 : IV) : Option (IV × Hp) :=
  load1 x54 h24 fun x55 _ => faddrS 1 x25 fun x57 => load1 x57 h24 fun x58 _ => bldS [.fv (.int .i64 0), .fv (.int .i64 0), .nils] [(0, 1, x55), (1, 1, x58), (2, 1, x27)] fun x60 => storeA 3 x26 x60 h24 fun h61 _ _ => S54_74 h61 x26
noncomputable def S54_76 (l69 : List IV) (x29 : IV) (x28 : IV) (h24 : Hp) (ih : Handler) (x27 : IV) (h1 : Hp) (x25 : IV) (x26 : IV) (q22 : List IV → Hp → Option (IV × Hp)) : Option (IV × Hp) :=
  uncS l69 fun x30 _ => ltS EE 3 x30 x29 fun x31 => condS x31 (ixS 3 x28 x30 fun x32 => S54_73 h24 x32 ih x27 x30 h1 x25 x26 x28 x29 q22) (faddrS 0 x25 fun x54 => S54_75 h24 x54 x25 x27 x26)
noncomputable def S54_77 (l23 : List IV) (h24 : Hp) (ih : Handler) (h1 : Hp) (q22 : List IV → Hp → Option (IV × Hp)) : Option (IV × Hp) :=
  uncS l23 fun x25 l65 => uncS l65 fun x26 l66 => uncS l66 fun x27 l67 => uncS l67 fun x28 l68 => uncS l68 fun x29 l69 => S54_76 l69 x29 x28 h24 ih x27 h1 x25 x26 q22
noncomputable def S54_78 (x2 : IV) (h15 : Hp) (h1 : Hp) (x6 : IV) (x14 : IV) (n : Nat) (ih : Handler) : Option (IV × Hp) :=
  faddrS 2 x2 fun x18 => load1 x18 h15 fun x19 _ => lenS x19 fun x21 => dropS (h1.own.map (·.1)) [56627203] [x2, x6, x14, x19, x21, .fv (.int .i64 0)] h15 fun h71 => loopS n (fun q22 l23 h24 => S54_77 l23 h24 ih h1 q22) [x2, x6, x14, x19, x21, .fv (.int .i64 0)] h71
noncomputable def S54 (ih : Handler) (n : Nat) (x0 : IV) (h1 : Hp) : Option (IV × Hp) :=
  boxS 56623104 x0 h1 fun x2 h3 _ _ => newS 56623105 (.row [.fv (.int .i64 0), .fv (.int .i64 0), .nils] false) (.ptr (.own 56623105) 0) h3 fun x6 h7 _ _ => faddrS 2 x2 fun x10 => load1 x10 h7 fun x11 _ => lenS x11 fun x13 => genS (pcMakeSlice EE 56624131 28 x13 x13) 56624131 h7 fun x14 h15 _ _ => S54_78 x2 h15 h1 x6 x14 n ih
theorem S54_ok (ih : Handler) (n : Nat) (x0 : IV) (h1 : Hp) : funS EE ih ft.get n 54 [x0] h1 = S54 ih n x0 h1 := by kernel_rfl
noncomputable def S64 (ih : Handler) (n : Nat) (x0 : IV) (x1 : IV) (h2 : Hp) : Option (IV × Hp) :=
  newS 67108864 (.row [.fv (.int .i64 0), .fv (.int .i64 0), .nils] false) (.ptr (.own 67108864) 0) h2 fun x3 h4 _ _ => bldS [.fv (.int .i64 0), .fv (.int .i64 0), .nils] [(0, 1, x0), (2, 1, x1)] fun x7 => storeA 3 x3 x7 h4 fun h8 _ _ => cellS true 3 x3 h8 fun x11 => outS1 [x11] h8
theorem S64_ok (ih : Handler) (n : Nat) (x0 : IV) (x1 : IV) (h2 : Hp) : funS EE ih ft.get n 64 [x0, x1] h2 = S64 ih n x0 x1 h2 := by kernel_rfl
noncomputable def S71_121 (x108 : IV) (h109 : Hp) (x93 : IV) (h3 : Hp) (x89 : IV) (x90 : IV) (x91 : IV) (x92 : IV) (q86 : List IV → Hp → Option (IV × Hp)) : Option (IV × Hp) :=
  neS EE 35 x108 (.fv (.int .i64 0)) fun x112 => condS x112 (outS1 [x108] h109) (addS EE 3 x93 (.fv (.int .i64 1)) fun x113 => dropS (h3.own.map (·.1)) [74457090] [x89, x90, x91, x92, x113] h109 fun h114 => q86 [x89, x90, x91, x92, x113] h114)
noncomputable def S71_122 (h88 : Hp) (x96 : IV) (x90 : IV) (ih : Handler) (x89 : IV) (x93 : IV) (h3 : Hp) (x91 : IV) (x92 : IV) (q86 : List IV → Hp → Option (IV × Hp)) : Option (IV × Hp) :=
  newS 74457090 (.row [.fv (.int .i64 0), .fv (.int .i64 0), .nils] false) (.ptr (.own 74457090) 0) h88 fun x98 h99 _ _ => storeA 3 x98 x96 h99 fun h102 _ _ => loadA 3 x98 h102 fun x105 _ => addS EE 3 x90 (.fv (.int .i64 1)) fun x107 => isoS [false, true, false] false false ih 71 [x105, x89, x107] h102 fun x108 h109 _ _ => S71_121 x108 h109 x93 h3 x89 x90 x91 x92 q86
noncomputable def S71_123 (x93 : IV) (x92 : IV) (x91 : IV) (h88 : Hp) (x90 : IV) (ih : Handler) (x89 : IV) (h3 : Hp) (q86 : List IV → Hp → Option (IV × Hp)) : Option (IV × Hp) :=
  ltS EE 3 x93 x92 fun x94 => condS x94 (ixS 3 x91 x93 fun x95 => loadA 3 x95 h88 fun x96 _ => S71_122 h88 x96 x90 ih x89 x93 h3 x91 x92 q86) (outS1 [.fv (.int .i64 0)] h88)
noncomputable def S71_124 (l87 : List IV) (h88 : Hp) (ih : Handler) (h3 : Hp) (q86 : List IV → Hp → Option (IV × Hp)) : Option (IV × Hp) :=
  uncS l87 fun x89 l115 => uncS l115 fun x90 l116 => uncS l116 fun x91 l117 => uncS l117 fun x92 l118 => uncS l118 fun x93 _ => S71_123 x93 x92 x91 h88 x90 ih x89 h3 q86
noncomputable def S71_125 (h78 : Hp) (x82 : IV) (h3 : Hp) (x1 : IV) (x2 : IV) (n : Nat) (ih : Handler) : Option (IV × Hp) :=
  load1 x82 h78 fun x83 _ => lenS x83 fun x85 => dropS (h3.own.map (·.1)) [74457090] [x1, x2, x83, x85, .fv (.int .i64 0)] h78 fun h120 => loopS n (fun q86 l87 h88 => S71_124 l87 h88 ih h3 q86) [x1, x2, x83, x85, .fv (.int .i64 0)] h120
noncomputable def S71_126 (r73 : List Ref) (w74 : List Ref) (h72 : Hp) (x43 : IV) (x71 : IV) (x4 : IV) (h3 : Hp) (x1 : IV) (x2 : IV) (n : Nat) (ih : Handler) : Option (IV × Hp) :=
  chkS [] r73 w74 (guardS x43 false h72 (fun k75 => optS (unR .not x71) fun x76 => k75 x76 h72 [] []) fun x77 h78 _ _ => pickS x43 (.fv (.bool true)) x77 fun x81 => condS x81 (outS1 [.fv (.int .i64 1)] h78) (faddrS 2 x4 fun x82 => S71_125 h78 x82 h3 x1 x2 n ih))
noncomputable def S71_127 (r55 : List Ref) (w56 : List Ref) (h54 : Hp) (x43 : IV) (x4 : IV) (ih : Handler) (x53 : IV) (h3 : Hp) (x1 : IV) (x2 : IV) (n : Nat) : Option (IV × Hp) :=
  chkS [] r55 w56 (guardS x43 false h54 (fun k57 => faddrS 1 x4 fun x58 => k57 x58 h54 [] []) fun x59 h60 _ _ => guardS x43 false h60 (fun k63 => load1 x59 h60 fun x64 r65 => k63 x64 h60 r65 []) fun x66 h67 r68 w69 => chkS [(r55, w56)] r68 w69 (guardS x43 false h67 (fun k70 => isoS [] false false ih 103 [x53, x66] h67 k70) fun x71 h72 r73 w74 => S71_126 r73 w74 h72 x43 x71 x4 h3 x1 x2 n ih))
noncomputable def S71_128 (r41 : List Ref) (r37 : List Ref) (w38 : List Ref) (r34 : List Ref) (x40 : IV) (x35 : IV) (h36 : Hp) (x4 : IV) (ih : Handler) (h3 : Hp) (x1 : IV) (x2 : IV) (n : Nat) : Option (IV × Hp) :=
  chkS [(r37, w38), (r34, [])] r41 [] (lenS x40 fun x42 => neS EE 3 x35 x42 fun x43 => guardS x43 false h36 (fun k44 => faddrS 0 x4 fun x45 => k44 x45 h36 [] []) fun x46 h47 _ _ => guardS x43 false h47 (fun k50 => load1 x46 h47 fun x51 r52 => k50 x51 h47 r52 []) fun x53 h54 r55 w56 => S71_127 r55 w56 h54 x43 x4 ih x53 h3 x1 x2 n)
noncomputable def S71_129 (r34 : List Ref) (ih : Handler) (h28 : Hp) (x33 : IV) (x4 : IV) (h3 : Hp) (x1 : IV) (x2 : IV) (n : Nat) : Option (IV × Hp) :=
  chkS [] r34 [] (isoS [] false false ih 102 [x33] h28 fun x35 h36 r37 w38 => chkS [] r37 w38 (faddrS 2 x4 fun x39 => load1 x39 h36 fun x40 r41 => S71_128 r41 r37 w38 r34 x40 x35 h36 x4 ih h3 x1 x2 n))
noncomputable def S71_130 (x19 : IV) (x27 : IV) (h28 : Hp) (x4 : IV) (ih : Handler) (h3 : Hp) (x1 : IV) (x2 : IV) (n : Nat) : Option (IV × Hp) :=
  pickS x19 (.fv (.bool true)) x27 fun x31 => condS x31 (outS1 [.fv (.int .i64 5)] h28) (faddrS 0 x4 fun x32 => load1 x32 h28 fun x33 r34 => S71_129 r34 ih h28 x33 x4 h3 x1 x2 n)
noncomputable def S71_131 (x1 : IV) (h13 : Hp) (x2 : IV) (x4 : IV) (ih : Handler) (h3 : Hp) (n : Nat) : Option (IV × Hp) :=
  nilS x1 fun x16 => load1 x16 h13 fun x17 _ => gtS EE 3 x17 (.fv (.int .i64 3000)) fun x19 => guardS x19 false h13 (fun k20 => k20 x2 h13 [] []) fun x21 h22 _ _ => guardS x19 false h22 (fun k25 => gtS EE 3 x21 (.fv (.int .i64 120)) fun x26 => k25 x26 h22 [] []) fun x27 h28 _ _ => S71_130 x19 x27 h28 x4 ih h3 x1 x2 n
noncomputable def S71 (ih : Handler) (n : Nat) (x0 : IV) (x1 : IV) (x2 : IV) (h3 : Hp) : Option (IV × Hp) :=
  boxS 74448896 x0 h3 fun x4 h5 _ _ => nilS x1 fun x8 => load1 x8 h5 fun x9 _ => addS EE 3 x9 (.fv (.int .i64 1)) fun x11 => nilS x1 fun x12 => store1 x12 x11 h5 fun h13 _ _ => S71_131 x1 h13 x2 x4 ih h3 n
theorem S71_ok (ih : Handler) (n : Nat) (x0 : IV) (x1 : IV) (x2 : IV) (h3 : Hp) : funS EE ih ft.get n 71 [x0, x1, x2] h3 = S71 ih n x0 x1 x2 h3 := by kernel_rfl
noncomputable def S72_24 (ih : Handler) (h6 : Hp) (x8 : IV) (x13 : IV) (x10 : IV) (q4 : List IV → Hp → Option (IV × Hp)) (x7 : IV) (x9 : IV) : Option (IV × Hp) :=
  dynS EE ih x8 [x13] h6 fun x15 h16 _ _ => condS x15 (outS1 [x10] h16) (addS EE 3 x10 (.fv (.int .i64 1)) fun x19 => q4 [x7, x8, x9, x19] h16)
noncomputable def S72_25 (x11 : IV) (x7 : IV) (x10 : IV) (h6 : Hp) (ih : Handler) (x8 : IV) (q4 : List IV → Hp → Option (IV × Hp)) (x9 : IV) : Option (IV × Hp) :=
  condS x11 (ixS 3 x7 x10 fun x12 => loadA 3 x12 h6 fun x13 _ => S72_24 ih h6 x8 x13 x10 q4 x7 x9) (outS1 [.fv (.int .i64 (-1))] h6)
noncomputable def S72_26 (l5 : List IV) (h6 : Hp) (ih : Handler) (q4 : List IV → Hp → Option (IV × Hp)) : Option (IV × Hp) :=
  uncS l5 fun x7 l20 => uncS l20 fun x8 l21 => uncS l21 fun x9 l22 => uncS l22 fun x10 _ => ltS EE 3 x10 x9 fun x11 => S72_25 x11 x7 x10 h6 ih x8 q4 x9
noncomputable def S72 (ih : Handler) (n : Nat) (x0 : IV) (x1 : IV) (h2 : Hp) : Option (IV × Hp) :=
  lenS x0 fun x3 => loopS n (fun q4 l5 h6 => S72_26 l5 h6 ih q4) [x0, x1, x3, .fv (.int .i64 0)] h2
theorem S72_ok (ih : Handler) (n : Nat) (x0 : IV) (x1 : IV) (h2 : Hp) : funS EE ih ft.get n 72 [x0, x1] h2 = S72 ih n x0 x1 h2 := by kernel_rfl
noncomputable def S73_57 (h35 : Hp) (x30 : IV) (x20 : IV) (ih : Handler) (x34 : IV) (j1_27 : IV → Hp → Option (IV × Hp)) (x19 : IV) : Option (IV × Hp) :=
  guardS x30 true h35 (fun k38 => loadA 3 x20 h35 fun x39 r40 => k38 x39 h35 r40 []) fun x41 h42 _ _ => guardS x30 true h42 (fun k45 => isoS [] false false ih 104 [x34, x41] h42 k45) fun x46 h47 _ _ => guardS x30 true h47 (fun k50 => optS (unR .not x46) fun x51 => k50 x51 h47 [] []) fun x52 h53 _ _ => pickS x30 x52 (.fv (.bool false)) fun x56 => condS x56 (j1_27 (.fv (.int .i64 11)) h53) (j1_27 x19 h53)
noncomputable def S73_58 (h15 : Hp) (x18 : IV) (x19 : IV) (x8 : IV) (ih : Handler) : Option (IV × Hp) :=
  newS 76547078 (.row [.fv (.int .i64 0), .fv (.int .i64 0), .nils] false) (.ptr (.own 76547078) 0) h15 fun x20 h21 _ _ => storeA 3 x20 x18 h21 fun h24 _ _ => (fun (j1_27 : IV → Hp → Option (IV × Hp)) => eqS EE 35 x19 (.fv (.int .i64 0)) fun x30 => guardS x30 true h24 (fun k31 => loadA 3 x8 h24 fun x32 r33 => k31 x32 h24 r33 []) fun x34 h35 _ _ => S73_57 h35 x30 x20 ih x34 j1_27 x19) fun x28 h29 => outS1 [x28] h29
noncomputable def S73 (ih : Handler) (n : Nat) (x0 : IV) (x1 : IV) (x2 : IV) (h3 : Hp) : Option (IV × Hp) :=
  boxS 76546048 x1 h3 fun x4 h5 _ _ => boxS 76546049 x2 h5 fun x8 h9 _ _ => loadA 3 x4 h9 fun x12 _ => isoS [] false false ih 53 [x0, x12] h9 fun x14 h15 _ _ => extS 0 x14 fun x18 => extS 1 x14 fun x19 => S73_58 h15 x18 x19 x8 ih
theorem S73_ok (ih : Handler) (n : Nat) (x0 : IV) (x1 : IV) (x2 : IV) (h3 : Hp) : funS EE ih ft.get n 73 [x0, x1, x2] h3 = S73 ih n x0 x1 x2 h3 := by kernel_rfl
noncomputable def S74_116 (h40 : Hp) (x7 : IV) : Option (IV × Hp) :=
  bldS [.fv (.int .i64 0), .fv (.int .i64 0), .nils] [] fun x44 => storeA 3 x7 x44 h40 fun h45 _ _ => cellS true 3 x7 h45 fun x48 => outS1 [x48, .fv (.int .i64 10)] h45
noncomputable def S74_117 (r67 : List Ref) (w68 : List Ref) (r54 : List Ref) (h66 : Hp) (x7 : IV) (x53 : IV) (x65 : IV) : Option (IV × Hp) :=
  chkS [(r54, [])] r67 w68 (storeA 3 x7 x53 h66 fun h69 r70 w71 => chkS [] r70 w71 (cellS true 3 x7 h69 fun x72 => outS1 [x72, x65] h69))
noncomputable def S74_118 (h58 : Hp) (x27 : IV) (r59 : List Ref) (w60 : List Ref) (r56 : List Ref) (r54 : List Ref) (x23 : IV) (ih : Handler) (x57 : IV) (x7 : IV) (x53 : IV) : Option (IV × Hp) :=
  loadA 3 x27 h58 fun x61 r62 => chkS [(r59, w60), (r56, []), (r54, [])] r62 [] (loadA 3 x23 h58 fun x63 r64 => chkS [(r62, []), (r59, w60), (r56, []), (r54, [])] r64 [] (isoS [] false false ih 73 [x57, x61, x63] h58 fun x65 h66 r67 w68 => S74_117 r67 w68 r54 h66 x7 x53 x65))
noncomputable def S74_119 (r54 : List Ref) (h40 : Hp) (x23 : IV) (ih : Handler) (x0 : IV) (x27 : IV) (x7 : IV) (x53 : IV) : Option (IV × Hp) :=
  chkS [] r54 [] (loadA 3 x23 h40 fun x55 r56 => chkS [(r54, [])] r56 [] (isoS [] false false ih 75 [x0, x55] h40 fun x57 h58 r59 w60 => chkS [(r54, [])] r59 w60 (S74_118 h58 x27 r59 w60 r56 r54 x23 ih x57 x7 x53)))
noncomputable def S74_120 (h107 : Hp) (x7 : IV) (x110 : IV) (x111 : IV) : Option (IV × Hp) :=
  storeA 3 x7 x110 h107 fun h112 _ _ => cellS true 3 x7 h112 fun x115 => outS1 [x115, x111] h112
noncomputable def S74_121 (h91 : Hp) (x94 : IV) (x96 : IV) (ih : Handler) (x86 : IV) (x7 : IV) : Option (IV × Hp) :=
  genS (pcBuildSlice EE 28 2 [(0, x94), (1, x96)]) 77601794 h91 fun x98 h99 _ _ => isoS [] false false ih 64 [.fv (.int .i64 16), x98] h99 fun x102 h103 _ _ => isoS [] false false ih 105 [x102, x86] h103 fun x106 h107 _ _ => extS 0 x106 fun x110 => extS 1 x106 fun x111 => S74_120 h107 x7 x110 x111
noncomputable def S74_122 (r89 : List Ref) (w90 : List Ref) (r83 : List Ref) (w84 : List Ref) (r80 : List Ref) (r77 : List Ref) (w78 : List Ref) (r74 : List Ref) (h88 : Hp) (x87 : IV) (x85 : IV) (x23 : IV) (ih : Handler) (x86 : IV) (x7 : IV) : Option (IV × Hp) :=
  chkS [(r83, w84), (r80, []), (r77, w78), (r74, [])] r89 w90 (storeA 3 x87 x85 h88 fun h91 r92 w93 => chkS [] r92 w93 (loadA 3 x23 h91 fun x94 _ => loadA 3 x87 h91 fun x96 _ => S74_121 h91 x94 x96 ih x86 x7))
noncomputable def S74_123 (ih : Handler) (h76 : Hp) (x75 : IV) (x79 : IV) (r80 : List Ref) (r77 : List Ref) (w78 : List Ref) (r74 : List Ref) (x23 : IV) (x7 : IV) : Option (IV × Hp) :=
  isoS [] false false ih 53 [x75, x79] h76 fun x81 h82 r83 w84 => chkS [] r83 w84 (extS 0 x81 fun x85 => extS 1 x81 fun x86 => newS 77600776 (.row [.fv (.int .i64 0), .fv (.int .i64 0), .nils] false) (.ptr (.own 77600776) 0) h82 fun x87 h88 r89 w90 => S74_122 r89 w90 r83 w84 r80 r77 w78 r74 h88 x87 x85 x23 ih x86 x7)
noncomputable def S74_124 (r74 : List Ref) (ih : Handler) (h40 : Hp) (x0 : IV) (x73 : IV) (x27 : IV) (x23 : IV) (x7 : IV) : Option (IV × Hp) :=
  chkS [] r74 [] (isoS [] false false ih 75 [x0, x73] h40 fun x75 h76 r77 w78 => chkS [] r77 w78 (loadA 3 x27 h76 fun x79 r80 => chkS [(r77, w78), (r74, [])] r80 [] (S74_123 ih h76 x75 x79 r80 r77 w78 r74 x23 x7)))
noncomputable def S74_125 (x3 : IV) (h40 : Hp) (x23 : IV) (ih : Handler) (x0 : IV) (x27 : IV) (x7 : IV) : Option (IV × Hp) :=
  faddrS 0 x3 fun x49 => load1 x49 h40 fun x50 _ => eqS EE 3 x50 (.fv (.int .i64 29)) fun x52 => condS x52 (loadA 3 x23 h40 fun x53 r54 => S74_119 r54 h40 x23 ih x0 x27 x7 x53) (loadA 3 x23 h40 fun x73 r74 => S74_124 r74 ih h40 x0 x73 x27 x23 x7)
noncomputable def S74_126 (r35 : List Ref) (w36 : List Ref) (h34 : Hp) (x23 : IV) (ih : Handler) (x7 : IV) (x3 : IV) (x0 : IV) (x27 : IV) : Option (IV × Hp) :=
  chkS [] r35 w36 (loadA 3 x23 h34 fun x37 _ => isoS [] false false ih 52 [x37] h34 fun x39 h40 _ _ => optS (unR .not x39) fun x43 => condS x43 (S74_116 h40 x7) (S74_125 x3 h40 x23 ih x0 x27 x7))
noncomputable def S74_127 (h24 : Hp) (r25 : List Ref) (w26 : List Ref) (r22 : List Ref) (r19 : List Ref) (r16 : List Ref) (r13 : List Ref) (x23 : IV) (x15 : IV) (x21 : IV) (ih : Handler) (x7 : IV) (x3 : IV) (x0 : IV) : Option (IV × Hp) :=
  newS 77595657 (.row [.fv (.int .i64 0), .fv (.int .i64 0), .nils] false) (.ptr (.own 77595657) 0) h24 fun x27 h28 r29 w30 => chkS [(r25, w26), (r22, []), (r19, []), (r16, []), (r13, [])] r29 w30 (storeA 3 x23 x15 h28 fun h31 r32 w33 => chkS [(r22, []), (r19, [])] r32 w33 (storeA 3 x27 x21 h31 fun h34 r35 w36 => S74_126 r35 w36 h34 x23 ih x7 x3 x0 x27))
noncomputable def S74_128 (x18 : IV) (h8 : Hp) (r16 : List Ref) (r13 : List Ref) (r19 : List Ref) (x15 : IV) (ih : Handler) (x7 : IV) (x3 : IV) (x0 : IV) : Option (IV × Hp) :=
  ixS 3 x18 (.fv (.int .i64 1)) fun x20 => loadA 3 x20 h8 fun x21 r22 => chkS [(r16, []), (r13, [])] r22 [] (newS 77595656 (.row [.fv (.int .i64 0), .fv (.int .i64 0), .nils] false) (.ptr (.own 77595656) 0) h8 fun x23 h24 r25 w26 => chkS [(r22, []), (r19, []), (r16, []), (r13, [])] r25 w26 (S74_127 h24 r25 w26 r22 r19 r16 r13 x23 x15 x21 ih x7 x3 x0))
noncomputable def S74_129 (h8 : Hp) (x14 : IV) (x3 : IV) (r13 : List Ref) (ih : Handler) (x7 : IV) (x0 : IV) : Option (IV × Hp) :=
  loadA 3 x14 h8 fun x15 r16 => chkS [] r16 [] (faddrS 2 x3 fun x17 => load1 x17 h8 fun x18 r19 => chkS [(r16, []), (r13, [])] r19 [] (S74_128 x18 h8 r16 r13 r19 x15 ih x7 x3 x0))
noncomputable def S74 (ih : Handler) (n : Nat) (x0 : IV) (x1 : IV) (h2 : Hp) : Option (IV × Hp) :=
  boxS 77594624 x1 h2 fun x3 h4 _ _ => newS 77594625 (.row [.fv (.int .i64 0), .fv (.int .i64 0), .nils] false) (.ptr (.own 77594625) 0) h4 fun x7 h8 _ _ => faddrS 2 x3 fun x11 => load1 x11 h8 fun x12 r13 => chkS [] r13 [] (ixS 3 x12 (.fv (.int .i64 0)) fun x14 => S74_129 h8 x14 x3 r13 ih x7 x0)
theorem S74_ok (ih : Handler) (n : Nat) (x0 : IV) (x1 : IV) (h2 : Hp) : funS EE ih ft.get n 74 [x0, x1] h2 = S74 ih n x0 x1 h2 := by kernel_rfl
noncomputable def S75_25 (r16 : List Ref) (r13 : List Ref) (w14 : List Ref) (r9 : List Ref) (w10 : List Ref) (h12 : Hp) (x15 : IV) (x11 : IV) : Option (IV × Hp) :=
  chkS [(r13, w14), (r9, w10)] r16 [] (genS (pcBuildSlice EE 78 1 [(0, x15)]) 78644228 h12 fun x17 h18 r19 w20 => chkS [(r13, w14), (r9, w10)] r19 w20 (genS (builtinR EE 78644229 false .append [78, 78] [x11, x17]) 78644229 h18 fun x21 h22 r23 w24 => chkS [] r23 w24 (outS1 [x21] h22)))
noncomputable def S75 (ih : Handler) (n : Nat) (x0 : IV) (x1 : IV) (h2 : Hp) : Option (IV × Hp) :=
  boxS 78643200 x1 h2 fun x3 h4 _ _ => isoS [] true false ih 107 [x0] h4 fun x7 h8 r9 w10 => chkS [] r9 w10 (isoS [] false true ih 106 [x7] h8 fun x11 h12 r13 w14 => chkS [] r13 w14 (loadA 3 x3 h12 fun x15 r16 => S75_25 r16 r13 w14 r9 w10 h12 x15 x11))
theorem S75_ok (ih : Handler) (n : Nat) (x0 : IV) (x1 : IV) (h2 : Hp) : funS EE ih ft.get n 75 [x0, x1] h2 = S75 ih n x0 x1 h2 := by kernel_rfl
noncomputable def S76_191 (h36 : Hp) (x7 : IV) (x26 : IV) : Option (IV × Hp) :=
  cellS true 3 x7 h36 fun x39 => outS1 [x39, x26] h36
noncomputable def S76_192 (x68 : IV) (h69 : Hp) (x7 : IV) : Option (IV × Hp) :=
  extS 0 x68 fun x72 => extS 1 x68 fun x73 => storeA 3 x7 x72 h69 fun h74 _ _ => cellS true 3 x7 h74 fun x77 => outS1 [x77, x73] h74
noncomputable def S76_193 (h53 : Hp) (x27 : IV) (x49 : IV) (ih : Handler) (x48 : IV) (x7 : IV) : Option (IV × Hp) :=
  loadA 3 x27 h53 fun x56 _ => loadA 3 x49 h53 fun x58 _ => genS (pcBuildSlice EE 28 2 [(0, x56), (1, x58)]) 79699970 h53 fun x60 h61 _ _ => isoS [] false false ih 64 [.fv (.int .i64 17), x60] h61 fun x64 h65 _ _ => isoS [] false false ih 105 [x64, x48] h65 fun x68 h69 _ _ => S76_192 x68 h69 x7
noncomputable def S76_194 (ih : Handler) (h31 : Hp) (x0 : IV) (x41 : IV) (x27 : IV) (x7 : IV) : Option (IV × Hp) :=
  isoS [] false false ih 53 [x0, x41] h31 fun x43 h44 _ _ => extS 0 x43 fun x47 => extS 1 x43 fun x48 => newS 79698952 (.row [.fv (.int .i64 0), .fv (.int .i64 0), .nils] false) (.ptr (.own 79698952) 0) h44 fun x49 h50 _ _ => storeA 3 x49 x47 h50 fun h53 _ _ => S76_193 h53 x27 x49 ih x48 x7
noncomputable def S76_195 (x26 : IV) (h31 : Hp) (x7 : IV) (x12 : IV) (ih : Handler) (x0 : IV) (x27 : IV) : Option (IV × Hp) :=
  neS EE 35 x26 (.fv (.int .i64 0)) fun x34 => condS x34 (bldS [.fv (.int .i64 0), .fv (.int .i64 0), .nils] [] fun x35 => storeA 3 x7 x35 h31 fun h36 _ _ => S76_191 h36 x7 x26) (ixS 3 x12 (.fv (.int .i64 1)) fun x40 => loadA 3 x40 h31 fun x41 _ => S76_194 ih h31 x0 x41 x27 x7)
noncomputable def S76_196 (ih : Handler) (h8 : Hp) (x0 : IV) (x19 : IV) (x7 : IV) (x12 : IV) : Option (IV × Hp) :=
  isoS [] false false ih 53 [x0, x19] h8 fun x21 h22 _ _ => extS 0 x21 fun x25 => extS 1 x21 fun x26 => newS 79695880 (.row [.fv (.int .i64 0), .fv (.int .i64 0), .nils] false) (.ptr (.own 79695880) 0) h22 fun x27 h28 _ _ => storeA 3 x27 x25 h28 fun h31 _ _ => S76_195 x26 h31 x7 x12 ih x0 x27
noncomputable def S76_197 (h105 : Hp) (x7 : IV) (x88 : IV) : Option (IV × Hp) :=
  cellS true 3 x7 h105 fun x108 => outS1 [x108, x88] h105
noncomputable def S76_198 (ih : Handler) (h100 : Hp) (x0 : IV) (x112 : IV) (x114 : IV) (r110 : List Ref) (x7 : IV) (x109 : IV) : Option (IV × Hp) :=
  isoS [] false false ih 73 [x0, x112, x114] h100 fun x116 h117 r118 w119 => chkS [(r110, [])] r118 w119 (storeA 3 x7 x109 h117 fun h120 r121 w122 => chkS [] r121 w122 (cellS true 3 x7 h120 fun x123 => outS1 [x123, x116] h120))
noncomputable def S76_199 (x12 : IV) (h100 : Hp) (r110 : List Ref) (x89 : IV) (ih : Handler) (x0 : IV) (x7 : IV) (x109 : IV) : Option (IV × Hp) :=
  ixS 3 x12 (.fv (.int .i64 1)) fun x111 => loadA 3 x111 h100 fun x112 r113 => chkS [(r110, [])] r113 [] (loadA 3 x89 h100 fun x114 r115 => chkS [(r113, []), (r110, [])] r115 [] (S76_198 ih h100 x0 x112 x114 r110 x7 x109))
noncomputable def S76_200 (x88 : IV) (h100 : Hp) (x7 : IV) (x93 : IV) (x12 : IV) (x89 : IV) (ih : Handler) (x0 : IV) : Option (IV × Hp) :=
  neS EE 35 x88 (.fv (.int .i64 0)) fun x103 => condS x103 (bldS [.fv (.int .i64 0), .fv (.int .i64 0), .nils] [] fun x104 => storeA 3 x7 x104 h100 fun h105 _ _ => S76_197 h105 x7 x88) (loadA 3 x93 h100 fun x109 r110 => chkS [] r110 [] (S76_199 x12 h100 r110 x89 ih x0 x7 x109))
noncomputable def S76_201 (x82 : IV) (h83 : Hp) (x86 : IV) (x87 : IV) (x7 : IV) (x12 : IV) (ih : Handler) (x0 : IV) : Option (IV × Hp) :=
  extS 2 x82 fun x88 => newS 79702025 (.row [.fv (.int .i64 0), .fv (.int .i64 0), .nils] false) (.ptr (.own 79702025) 0) h83 fun x89 h90 _ _ => newS 79702026 (.row [.fv (.int .i64 0), .fv (.int .i64 0), .nils] false) (.ptr (.own 79702026) 0) h90 fun x93 h94 _ _ => storeA 3 x89 x86 h94 fun h97 _ _ => storeA 3 x93 x87 h97 fun h100 _ _ => S76_200 x88 h100 x7 x93 x12 x89 ih x0
noncomputable def S76_202 (x12 : IV) (h8 : Hp) (ih : Handler) (x0 : IV) (x7 : IV) : Option (IV × Hp) :=
  ixS 3 x12 (.fv (.int .i64 0)) fun x79 => loadA 3 x79 h8 fun x80 _ => isoS [] false false ih 108 [x0, x80, .fv (.int .i64 16)] h8 fun x82 h83 _ _ => extS 0 x82 fun x86 => extS 1 x82 fun x87 => S76_201 x82 h83 x86 x87 x7 x12 ih x0
noncomputable def S76_203 (h151 : Hp) (x7 : IV) (x134 : IV) : Option (IV × Hp) :=
  cellS true 3 x7 h151 fun x154 => outS1 [x154, x134] h151
noncomputable def S76_204 (h136 : Hp) (x135 : IV) (x132 : IV) (x133 : IV) (x7 : IV) (x134 : IV) : Option (IV × Hp) :=
  newS 79707146 (.row [.fv (.int .i64 0), .fv (.int .i64 0), .nils] false) (.ptr (.own 79707146) 0) h136 fun x139 h140 _ _ => storeA 3 x135 x132 h140 fun h143 _ _ => storeA 3 x139 x133 h143 fun h146 _ _ => loadA 3 x135 h146 fun x149 _ => storeA 3 x7 x149 h146 fun h151 _ _ => S76_203 h151 x7 x134
noncomputable def S76_205 (ih : Handler) (h8 : Hp) (x0 : IV) (x126 : IV) (x7 : IV) : Option (IV × Hp) :=
  isoS [] false false ih 108 [x0, x126, .fv (.int .i64 17)] h8 fun x128 h129 _ _ => extS 0 x128 fun x132 => extS 1 x128 fun x133 => extS 2 x128 fun x134 => newS 79707145 (.row [.fv (.int .i64 0), .fv (.int .i64 0), .nils] false) (.ptr (.own 79707145) 0) h129 fun x135 h136 _ _ => S76_204 h136 x135 x132 x133 x7 x134
noncomputable def S76_206 (h177 : Hp) (x170 : IV) (x7 : IV) (x165 : IV) : Option (IV × Hp) :=
  loadA 3 x170 h177 fun x180 _ => storeA 3 x7 x180 h177 fun h182 _ _ => cellS true 3 x7 h182 fun x185 => outS1 [x185, x165] h182
noncomputable def S76_207 (x159 : IV) (h160 : Hp) (x163 : IV) (x164 : IV) (x7 : IV) : Option (IV × Hp) :=
  extS 2 x159 fun x165 => newS 79710217 (.row [.fv (.int .i64 0), .fv (.int .i64 0), .nils] false) (.ptr (.own 79710217) 0) h160 fun x166 h167 _ _ => newS 79710218 (.row [.fv (.int .i64 0), .fv (.int .i64 0), .nils] false) (.ptr (.own 79710218) 0) h167 fun x170 h171 _ _ => storeA 3 x166 x163 h171 fun h174 _ _ => storeA 3 x170 x164 h174 fun h177 _ _ => S76_206 h177 x170 x7 x165
noncomputable def S76_208 (x12 : IV) (h8 : Hp) (ih : Handler) (x0 : IV) (x7 : IV) : Option (IV × Hp) :=
  ixS 3 x12 (.fv (.int .i64 0)) fun x156 => loadA 3 x156 h8 fun x157 _ => isoS [] false false ih 108 [x0, x157, .fv (.int .i64 17)] h8 fun x159 h160 _ _ => extS 0 x159 fun x163 => extS 1 x159 fun x164 => S76_207 x159 h160 x163 x164 x7
noncomputable def S76_209 (h8 : Hp) (x7 : IV) : Option (IV × Hp) :=
  bldS [.fv (.int .i64 0), .fv (.int .i64 0), .nils] [] fun x186 => storeA 3 x7 x186 h8 fun h187 _ _ => cellS true 3 x7 h187 fun x190 => outS1 [x190, .fv (.int .i64 10)] h187
noncomputable def S76_210 (x15 : IV) (x12 : IV) (h8 : Hp) (ih : Handler) (x0 : IV) (x7 : IV) : Option (IV × Hp) :=
  eqS EE 3 x15 (.fv (.int .i64 23)) fun x124 => condS x124 (ixS 3 x12 (.fv (.int .i64 0)) fun x125 => loadA 3 x125 h8 fun x126 _ => S76_205 ih h8 x0 x126 x7) (eqS EE 3 x15 (.fv (.int .i64 24)) fun x155 => condS x155 (S76_208 x12 h8 ih x0 x7) (S76_209 h8 x7))
noncomputable def S76_211 (x15 : IV) (x12 : IV) (h8 : Hp) (ih : Handler) (x0 : IV) (x7 : IV) : Option (IV × Hp) :=
  eqS EE 3 x15 (.fv (.int .i64 22)) fun x17 => condS x17 (ixS 3 x12 (.fv (.int .i64 0)) fun x18 => loadA 3 x18 h8 fun x19 _ => S76_196 ih h8 x0 x19 x7 x12) (eqS EE 3 x15 (.fv (.int .i64 21)) fun x78 => condS x78 (S76_202 x12 h8 ih x0 x7) (S76_210 x15 x12 h8 ih x0 x7))
noncomputable def S76 (ih : Handler) (n : Nat) (x0 : IV) (x1 : IV) (h2 : Hp) : Option (IV × Hp) :=
  boxS 79691776 x1 h2 fun x3 h4 _ _ => newS 79691777 (.row [.fv (.int .i64 0), .fv (.int .i64 0), .nils] false) (.ptr (.own 79691777) 0) h4 fun x7 h8 _ _ => faddrS 2 x3 fun x11 => load1 x11 h8 fun x12 _ => faddrS 0 x3 fun x14 => load1 x14 h8 fun x15 _ => S76_211 x15 x12 h8 ih x0 x7
theorem S76_ok (ih : Handler) (n : Nat) (x0 : IV) (x1 : IV) (h2 : Hp) : funS EE ih ft.get n 76 [x0, x1] h2 = S76 ih n x0 x1 h2 := by kernel_rfl
noncomputable def S102_29 (x13 : IV) (x21 : IV) (h22 : Hp) (x6 : IV) (x0 : IV) : Option (IV × Hp) :=
  pickS x13 (.fv (.bool true)) x21 fun x25 => condS x25 (outS1 [.fv (.int .i64 (-1))] h22) (ixA 31 1 x6 x0 fun x26 => load1 x26 h22 fun x27 _ => outS1 [x27] h22)
noncomputable def S102 (ih : Handler) (n : Nat) (x0 : IV) (h1 : Hp) : Option (IV × Hp) :=
  genS (pcBuild EE 136 [(0, .fv (.int .i64 (-1))), (1, .fv (.int .i64 0)), (2, .fv (.int .i64 0)), (3, .fv (.int .i64 2)), (4, .fv (.int .i64 2)), (5, .fv (.int .i64 2)), (6, .fv (.int .i64 2)), (7, .fv (.int .i64 3)), (8, .fv (.int .i64 1)), (9, .fv (.int .i64 1)), (10, .fv (.int .i64 0)), (11, .fv (.int .i64 0)), (12, .fv (.int .i64 1)), (13, .fv (.int .i64 4)), (14, .fv (.int .i64 0)), (15, .fv (.int .i64 0)), (16, .fv (.int .i64 2)), (17, .fv (.int .i64 2)), (18, .fv (.int .i64 1)), (19, .fv (.int .i64 1)), (20, .fv (.int .i64 2)), (21, .fv (.int .i64 2)), (22, .fv (.int .i64 2)), (23, .fv (.int .i64 1)), (24, .fv (.int .i64 1)), (25, .fv (.int .i64 0)), (26, .fv (.int .i64 2)), (27, .fv (.int .i64 3)), (28, .fv (.int .i64 2)), (29, .fv (.int .i64 2)), (30, .fv (.int .i64 1))]) 106955776 h1 fun x2 h3 _ _ => newS 106955777 (.row [.fv (.int .i64 0), .fv (.int .i64 0), .fv (.int .i64 0), .fv (.int .i64 0), .fv (.int .i64 0), .fv (.int .i64 0), .fv (.int .i64 0), .fv (.int .i64 0), .fv (.int .i64 0), .fv (.int .i64 0), .fv (.int .i64 0), .fv (.int .i64 0), .fv (.int .i64 0), .fv (.int .i64 0), .fv (.int .i64 0), .fv (.int .i64 0), .fv (.int .i64 0), .fv (.int .i64 0), .fv (.int .i64 0), .fv (.int .i64 0), .fv (.int .i64 0), .fv (.int .i64 0), .fv (.int .i64 0), .fv (.int .i64 0), .fv (.int .i64 0), .fv (.int .i64 0), .fv (.int .i64 0), .fv (.int .i64 0), .fv (.int .i64 0), .fv (.int .i64 0), .fv (.int .i64 0)] false) (.ptr (.own 106955777) 0) h3 fun x6 h7 _ _ => storeA 31 x6 x2 h7 fun h10 _ _ => ltS EE 123 x0 (.fv (.int .i64 0)) fun x13 => guardS x13 false h10 (fun k14 => k14 x0 h10 [] []) fun x15 h16 _ _ => guardS x13 false h16 (fun k19 => geS EE 3 x15 (.fv (.int .i64 31)) fun x20 => k19 x20 h16 [] []) fun x21 h22 _ _ => S102_29 x13 x21 h22 x6 x0
theorem S102_ok (ih : Handler) (n : Nat) (x0 : IV) (h1 : Hp) : funS EE ih ft.get n 102 [x0] h1 = S102 ih n x0 h1 := by kernel_rfl
noncomputable def S103_47 (h7 : Hp) (x4 : IV) (x6 : IV) : Option (IV × Hp) :=
  guardS x4 true h7 (fun k10 => leS EE 3 x6 (.fv (.int .i64 3000)) fun x11 => k10 x11 h7 [] []) fun x12 h13 _ _ => pickS x4 x12 (.fv (.bool false)) fun x16 => outS1 [x16] h13
noncomputable def S103_48 (x1 : IV) (h2 : Hp) : Option (IV × Hp) :=
  geS EE 3 x1 (.fv (.int .i64 0)) fun x18 => guardS x18 true h2 (fun k19 => k19 x1 h2 [] []) fun x20 h21 _ _ => guardS x18 true h21 (fun k24 => leS EE 3 x20 (.fv (.int .i64 2)) fun x25 => k24 x25 h21 [] []) fun x26 h27 _ _ => pickS x18 x26 (.fv (.bool false)) fun x30 => outS1 [x30] h27
noncomputable def S103_49 (h35 : Hp) (x32 : IV) (x34 : IV) : Option (IV × Hp) :=
  guardS x32 true h35 (fun k38 => leS EE 3 x34 (.fv (.int .i64 4)) fun x39 => k38 x39 h35 [] []) fun x40 h41 _ _ => pickS x32 x40 (.fv (.bool false)) fun x44 => outS1 [x44] h41
noncomputable def S103_50 (x1 : IV) (h2 : Hp) : Option (IV × Hp) :=
  eqS EE 3 x1 (.fv (.int .i64 0)) fun x46 => outS1 [x46] h2
noncomputable def S103_51 (x0 : IV) (x1 : IV) (h2 : Hp) : Option (IV × Hp) :=
  eqS EE 3 x0 (.fv (.int .i64 26)) fun x31 => condS x31 (geS EE 3 x1 (.fv (.int .i64 0)) fun x32 => guardS x32 true h2 (fun k33 => k33 x1 h2 [] []) fun x34 h35 _ _ => S103_49 h35 x32 x34) (eqS EE 3 x0 (.fv (.int .i64 25)) fun x45 => condS x45 (outS1 [.fv (.bool true)] h2) (S103_50 x1 h2))
noncomputable def S103 (ih : Handler) (n : Nat) (x0 : IV) (x1 : IV) (h2 : Hp) : Option (IV × Hp) :=
  eqS EE 3 x0 (.fv (.int .i64 1)) fun x3 => condS x3 (geS EE 3 x1 (.fv (.int .i64 0)) fun x4 => guardS x4 true h2 (fun k5 => k5 x1 h2 [] []) fun x6 h7 _ _ => S103_47 h7 x4 x6) (eqS EE 3 x0 (.fv (.int .i64 2)) fun x17 => condS x17 (S103_48 x1 h2) (S103_51 x0 x1 h2))
theorem S103_ok (ih : Handler) (n : Nat) (x0 : IV) (x1 : IV) (h2 : Hp) : funS EE ih ft.get n 103 [x0, x1] h2 = S103 ih n x0 x1 h2 := by kernel_rfl
noncomputable def S104_83 (h67 : Hp) (x50 : IV) (x66 : IV) (ih : Handler) (x60 : IV) : Option (IV × Hp) :=
  guardS x50 true h67 (fun k70 => load1 x66 h67 fun x71 r72 => k70 x71 h67 r72 []) fun x73 h74 _ _ => guardS x50 true h74 (fun k77 => isoS [] false false ih 116 [x60, x73, .fv (.func (.func 104) [] [])] h74 k77) fun x78 h79 _ _ => pickS x50 x78 (.fv (.bool false)) fun x82 => outS1 [x82] h79
noncomputable def S104_84 (h41 : Hp) (x17 : IV) (x27 : IV) (x40 : IV) (x3 : IV) (x7 : IV) (ih : Handler) : Option (IV × Hp) :=
  guardS x17 true h41 (fun k44 => eqS EE 3 x27 x40 fun x45 => k44 x45 h41 [] []) fun x46 h47 _ _ => pickS x17 x46 (.fv (.bool false)) fun x50 => guardS x50 true h47 (fun k51 => faddrS 2 x3 fun x52 => k51 x52 h47 [] []) fun x53 h54 _ _ => guardS x50 true h54 (fun k57 => load1 x53 h54 fun x58 r59 => k57 x58 h54 r59 []) fun x60 h61 _ _ => guardS x50 true h61 (fun k64 => faddrS 2 x7 fun x65 => k64 x65 h61 [] []) fun x66 h67 _ _ => S104_83 h67 x50 x66 ih x60
noncomputable def S104_85 (x12 : IV) (x15 : IV) (h8 : Hp) (x3 : IV) (x7 : IV) (ih : Handler) : Option (IV × Hp) :=
  eqS EE 3 x12 x15 fun x17 => guardS x17 true h8 (fun k18 => faddrS 1 x3 fun x19 => k18 x19 h8 [] []) fun x20 h21 _ _ => guardS x17 true h21 (fun k24 => load1 x20 h21 fun x25 r26 => k24 x25 h21 r26 []) fun x27 h28 _ _ => guardS x17 true h28 (fun k31 => faddrS 1 x7 fun x32 => k31 x32 h28 [] []) fun x33 h34 _ _ => guardS x17 true h34 (fun k37 => load1 x33 h34 fun x38 r39 => k37 x38 h34 r39 []) fun x40 h41 _ _ => S104_84 h41 x17 x27 x40 x3 x7 ih
noncomputable def S104 (ih : Handler) (n : Nat) (x0 : IV) (x1 : IV) (h2 : Hp) : Option (IV × Hp) :=
  boxS 109051904 x0 h2 fun x3 h4 _ _ => boxS 109051905 x1 h4 fun x7 h8 _ _ => faddrS 0 x3 fun x11 => load1 x11 h8 fun x12 _ => faddrS 0 x7 fun x14 => load1 x14 h8 fun x15 _ => S104_85 x12 x15 h8 x3 x7 ih
theorem S104_ok (ih : Handler) (n : Nat) (x0 : IV) (x1 : IV) (h2 : Hp) : funS EE ih ft.get n 104 [x0, x1] h2 = S104 ih n x0 x1 h2 := by kernel_rfl
noncomputable def S105_27 (h13 : Hp) (x3 : IV) (x7 : IV) (x12 : IV) : Option (IV × Hp) :=
  loadA 3 x3 h13 fun x14 _ => storeA 3 x7 x14 h13 fun h16 _ _ => cellS true 3 x7 h16 fun x19 => outS1 [x19, x12] h16
noncomputable def S105_28 (ih : Handler) (h8 : Hp) (x21 : IV) (j1_11 : IV → Hp → Option (IV × Hp)) : Option (IV × Hp) :=
  isoS [] false false ih 49 [x21] h8 fun x23 h24 _ _ => j1_11 x23 h24
noncomputable def S105 (ih : Handler) (n : Nat) (x0 : IV) (x1 : IV) (h2 : Hp) : Option (IV × Hp) :=
  boxS 110100480 x0 h2 fun x3 h4 _ _ => newS 110100481 (.row [.fv (.int .i64 0), .fv (.int .i64 0), .nils] false) (.ptr (.own 110100481) 0) h4 fun x7 h8 _ _ => (fun (j1_11 : IV → Hp → Option (IV × Hp)) => eqS EE 35 x1 (.fv (.int .i64 0)) fun x20 => condS x20 (loadA 3 x3 h8 fun x21 _ => S105_28 ih h8 x21 j1_11) (j1_11 x1 h8)) fun x12 h13 => S105_27 h13 x3 x7 x12
theorem S105_ok (ih : Handler) (n : Nat) (x0 : IV) (x1 : IV) (h2 : Hp) : funS EE ih ft.get n 105 [x0, x1] h2 = S105 ih n x0 x1 h2 := by kernel_rfl
noncomputable def S106 (ih : Handler) (n : Nat) (x0 : IV) (h1 : Hp) : Option (IV × Hp) :=
  lenS x0 fun x2 => lenS x0 fun x3 => genS (sliceR EE 78 x0 none (some x2) (some x3)) 111150085 h1 fun x4 h5 _ _ => outS1 [x4] h5
theorem S106_ok (ih : Handler) (n : Nat) (x0 : IV) (h1 : Hp) : funS EE ih ft.get n 106 [x0] h1 = S106 ih n x0 h1 := by kernel_rfl
noncomputable def S107 (ih : Handler) (n : Nat) (x0 : IV) (h1 : Hp) : Option (IV × Hp) :=
  eqS EE 78 x0 .nils fun x2 => condS x2 (outS1 [.nils] h1) (genS (pcBuildSlice EE 78 0 []) 112200704 h1 fun x3 h4 _ _ => genS (builtinR EE 112200706 false .append [78, 78] [x3, x0]) 112200706 h4 fun x7 h8 _ _ => outS1 [x7] h8)
theorem S107_ok (ih : Handler) (n : Nat) (x0 : IV) (h1 : Hp) : funS EE ih ft.get n 107 [x0] h1 = S107 ih n x0 h1 := by kernel_rfl
noncomputable def S108_76 (h37 : Hp) (x12 : IV) (x40 : IV) (x23 : IV) : Option (IV × Hp) :=
  cellS true 3 x12 h37 fun x41 => outS1 [x40, x41, x23] h37
noncomputable def S108_77 (h28 : Hp) (x8 : IV) (x12 : IV) (x23 : IV) : Option (IV × Hp) :=
  bldS [.fv (.int .i64 0), .fv (.int .i64 0), .nils] [] fun x32 => bldS [.fv (.int .i64 0), .fv (.int .i64 0), .nils] [] fun x33 => storeA 3 x8 x32 h28 fun h34 _ _ => storeA 3 x12 x33 h34 fun h37 _ _ => cellS true 3 x8 h37 fun x40 => S108_76 h37 x12 x40 x23
noncomputable def S108_78 (h28 : Hp) (x8 : IV) (x46 : IV) (x12 : IV) : Option (IV × Hp) :=
  bldS [.fv (.int .i64 0), .fv (.int .i64 0), .nils] [] fun x47 => storeA 3 x8 x46 h28 fun h48 _ _ => storeA 3 x12 x47 h48 fun h51 _ _ => cellS true 3 x8 h51 fun x54 => cellS true 3 x12 h51 fun x55 => outS1 [x54, x55, .fv (.int .i64 12)] h51
noncomputable def S108_79 (h71 : Hp) (x8 : IV) (x12 : IV) : Option (IV × Hp) :=
  cellS true 3 x8 h71 fun x74 => cellS true 3 x12 h71 fun x75 => outS1 [x74, x75, .fv (.int .i64 0)] h71
noncomputable def S108_80 (r67 : List Ref) (r61 : List Ref) (r58 : List Ref) (h28 : Hp) (x8 : IV) (x60 : IV) (r64 : List Ref) (x12 : IV) (x66 : IV) : Option (IV × Hp) :=
  chkS [(r61, []), (r58, [])] r67 [] (storeA 3 x8 x60 h28 fun h68 r69 w70 => chkS [(r67, []), (r64, [])] r69 w70 (storeA 3 x12 x66 h68 fun h71 r72 w73 => chkS [] r72 w73 (S108_79 h71 x8 x12)))
noncomputable def S108_81 (x24 : IV) (h28 : Hp) (r61 : List Ref) (r58 : List Ref) (x8 : IV) (x60 : IV) (x12 : IV) : Option (IV × Hp) :=
  faddrS 2 x24 fun x62 => load1 x62 h28 fun x63 r64 => chkS [(r61, []), (r58, [])] r64 [] (ixS 3 x63 (.fv (.int .i64 1)) fun x65 => loadA 3 x65 h28 fun x66 r67 => S108_80 r67 r61 r58 h28 x8 x60 r64 x12 x66)
noncomputable def S108_82 (h28 : Hp) (x56 : IV) (x24 : IV) (x8 : IV) (x12 : IV) : Option (IV × Hp) :=
  load1 x56 h28 fun x57 r58 => chkS [] r58 [] (ixS 3 x57 (.fv (.int .i64 0)) fun x59 => loadA 3 x59 h28 fun x60 r61 => chkS [] r61 [] (S108_81 x24 h28 r61 r58 x8 x60 x12))
noncomputable def S108_83 (x24 : IV) (h28 : Hp) (x2 : IV) (x8 : IV) (x12 : IV) : Option (IV × Hp) :=
  faddrS 0 x24 fun x42 => load1 x42 h28 fun x43 _ => neS EE 3 x43 x2 fun x45 => condS x45 (bldS [.fv (.int .i64 0), .fv (.int .i64 0), .nils] [] fun x46 => S108_78 h28 x8 x46 x12) (faddrS 2 x24 fun x56 => S108_82 h28 x56 x24 x8 x12)
noncomputable def S108_84 (x18 : IV) (h19 : Hp) (x22 : IV) (x8 : IV) (x12 : IV) (x2 : IV) : Option (IV × Hp) :=
  extS 1 x18 fun x23 => newS 113247238 (.row [.fv (.int .i64 0), .fv (.int .i64 0), .nils] false) (.ptr (.own 113247238) 0) h19 fun x24 h25 _ _ => storeA 3 x24 x22 h25 fun h28 _ _ => neS EE 35 x23 (.fv (.int .i64 0)) fun x31 => condS x31 (S108_77 h28 x8 x12 x23) (S108_83 x24 h28 x2 x8 x12)
noncomputable def S108 (ih : Handler) (n : Nat) (x0 : IV) (x1 : IV) (x2 : IV) (h3 : Hp) : Option (IV × Hp) :=
  boxS 113246208 x1 h3 fun x4 h5 _ _ => newS 113246209 (.row [.fv (.int .i64 0), .fv (.int .i64 0), .nils] false) (.ptr (.own 113246209) 0) h5 fun x8 h9 _ _ => newS 113246210 (.row [.fv (.int .i64 0), .fv (.int .i64 0), .nils] false) (.ptr (.own 113246210) 0) h9 fun x12 h13 _ _ => loadA 3 x4 h13 fun x16 _ => isoS [] false false ih 53 [x0, x16] h13 fun x18 h19 _ _ => extS 0 x18 fun x22 => S108_84 x18 h19 x22 x8 x12 x2
theorem S108_ok (ih : Handler) (n : Nat) (x0 : IV) (x1 : IV) (x2 : IV) (h3 : Hp) : funS EE ih ft.get n 108 [x0, x1, x2] h3 = S108 ih n x0 x1 x2 h3 := by kernel_rfl
noncomputable def S116_54 (x45 : IV) (h42 : Hp) (x15 : IV) (h3 : Hp) (x11 : IV) (x12 : IV) (x13 : IV) (x14 : IV) (q8 : List IV → Hp → Option (IV × Hp)) : Option (IV × Hp) :=
  condS x45 (outS1 [.fv (.bool false)] h42) (addS EE 3 x15 (.fv (.int .i64 1)) fun x46 => dropS (h3.own.map (·.1)) [121639939, 121640964] [x11, x12, x13, x14, x46] h42 fun h47 => q8 [x11, x12, x13, x14, x46] h47)
noncomputable def S116_55 (h31 : Hp) (x30 : IV) (x28 : IV) (x20 : IV) (ih : Handler) (x12 : IV) (x15 : IV) (h3 : Hp) (x11 : IV) (x13 : IV) (x14 : IV) (q8 : List IV → Hp → Option (IV × Hp)) : Option (IV × Hp) :=
  storeA 3 x30 x28 h31 fun h34 _ _ => loadA 3 x20 h34 fun x37 _ => loadA 3 x30 h34 fun x39 _ => dynS EE ih x12 [x37, x39] h34 fun x41 h42 _ _ => optS (unR .not x41) fun x45 => S116_54 x45 h42 x15 h3 x11 x12 x13 x14 q8
noncomputable def S116_56 (h10 : Hp) (x18 : IV) (x11 : IV) (x15 : IV) (ih : Handler) (x12 : IV) (h3 : Hp) (x13 : IV) (x14 : IV) (q8 : List IV → Hp → Option (IV × Hp)) : Option (IV × Hp) :=
  newS 121639939 (.row [.fv (.int .i64 0), .fv (.int .i64 0), .nils] false) (.ptr (.own 121639939) 0) h10 fun x20 h21 _ _ => storeA 3 x20 x18 h21 fun h24 _ _ => ixS 3 x11 x15 fun x27 => loadA 3 x27 h24 fun x28 _ => newS 121640964 (.row [.fv (.int .i64 0), .fv (.int .i64 0), .nils] false) (.ptr (.own 121640964) 0) h24 fun x30 h31 _ _ => S116_55 h31 x30 x28 x20 ih x12 x15 h3 x11 x13 x14 q8
noncomputable def S116_57 (x15 : IV) (x14 : IV) (x13 : IV) (h10 : Hp) (x11 : IV) (ih : Handler) (x12 : IV) (h3 : Hp) (q8 : List IV → Hp → Option (IV × Hp)) : Option (IV × Hp) :=
  ltS EE 3 x15 x14 fun x16 => condS x16 (ixS 3 x13 x15 fun x17 => loadA 3 x17 h10 fun x18 _ => S116_56 h10 x18 x11 x15 ih x12 h3 x13 x14 q8) (outS1 [.fv (.bool true)] h10)
noncomputable def S116_58 (l9 : List IV) (h10 : Hp) (ih : Handler) (h3 : Hp) (q8 : List IV → Hp → Option (IV × Hp)) : Option (IV × Hp) :=
  uncS l9 fun x11 l48 => uncS l48 fun x12 l49 => uncS l49 fun x13 l50 => uncS l50 fun x14 l51 => uncS l51 fun x15 _ => S116_57 x15 x14 x13 h10 x11 ih x12 h3 q8
noncomputable def S116_59 (h3 : Hp) (x1 : IV) (x2 : IV) (x0 : IV) (x7 : IV) (n : Nat) (ih : Handler) : Option (IV × Hp) :=
  dropS (h3.own.map (·.1)) [121639939, 121640964] [x1, x2, x0, x7, .fv (.int .i64 0)] h3 fun h53 => loopS n (fun q8 l9 h10 => S116_58 l9 h10 ih h3 q8) [x1, x2, x0, x7, .fv (.int .i64 0)] h53
noncomputable def S116 (ih : Handler) (n : Nat) (x0 : IV) (x1 : IV) (x2 : IV) (h3 : Hp) : Option (IV × Hp) :=
  lenS x0 fun x4 => lenS x1 fun x5 => neS EE 3 x4 x5 fun x6 => condS x6 (outS1 [.fv (.bool false)] h3) (lenS x0 fun x7 => S116_59 h3 x1 x2 x0 x7 n ih)
theorem S116_ok (ih : Handler) (n : Nat) (x0 : IV) (x1 : IV) (x2 : IV) (h3 : Hp) : funS EE ih ft.get n 116 [x0, x1, x2] h3 = S116 ih n x0 x1 x2 h3 := by kernel_rfl
end Idl
end Go.Proofs.Ytdibmackcbpniaa
namespace Go.Proofs.Ytdibmackcbpniaa
namespace Idl
noncomputable def dt : DT :=
 .node 52 (.node 32 (.node 17 (.node 12 (.node 11 (.leaf 8 (fun ih n => ar3 (S8 ih n)))
 (.leaf 11 (fun ih n => ar0 (S11 ih n))))
 (.node 14 (.leaf 12 (fun ih n => ar1 (S12 ih n)))
 (.leaf 14 (fun ih n => ar2 (S14 ih n)))))
 (.node 23 (.node 20 (.leaf 17 (fun ih n => ar2 (S17 ih n)))
 (.leaf 20 (fun ih n => ar1 (S20 ih n))))
 (.node 30 (.leaf 23 (fun ih n => ar2 (S23 ih n)))
 (.node 31 (.leaf 30 (fun ih n => ar2 (S30 ih n)))
 (.leaf 31 (fun ih n => ar1 (S31 ih n)))))))
 (.node 41 (.node 34 (.node 33 (.leaf 32 (fun ih n => ar2 (S32 ih n)))
 (.leaf 33 (fun ih n => ar3 (S33 ih n))))
 (.node 40 (.leaf 34 (fun ih n => ar2 (S34 ih n)))
 (.leaf 40 (fun ih n => ar2 (S40 ih n)))))
 (.node 49 (.node 42 (.leaf 41 (fun ih n => ar2 (S41 ih n)))
 (.leaf 42 (fun ih n => ar2 (S42 ih n))))
 (.node 50 (.leaf 49 (fun ih n => ar1 (S49 ih n)))
 (.node 51 (.leaf 50 (fun ih n => ar2 (S50 ih n)))
 (.leaf 51 (fun ih n => ar1 (S51 ih n))))))))
 (.node 76 (.node 71 (.node 54 (.node 53 (.leaf 52 (fun ih n => ar1 (S52 ih n)))
 (.leaf 53 (fun ih n => ar2 (S53 ih n))))
 (.node 64 (.leaf 54 (fun ih n => ar1 (S54 ih n)))
 (.leaf 64 (fun ih n => ar2 (S64 ih n)))))
 (.node 73 (.node 72 (.leaf 71 (fun ih n => ar3 (S71 ih n)))
 (.leaf 72 (fun ih n => ar2 (S72 ih n))))
 (.node 74 (.leaf 73 (fun ih n => ar3 (S73 ih n)))
 (.node 75 (.leaf 74 (fun ih n => ar2 (S74 ih n)))
 (.leaf 75 (fun ih n => ar2 (S75 ih n)))))))
 (.node 105 (.node 103 (.node 102 (.leaf 76 (fun ih n => ar2 (S76 ih n)))
 (.leaf 102 (fun ih n => ar1 (S102 ih n))))
 (.node 104 (.leaf 103 (fun ih n => ar2 (S103 ih n)))
 (.leaf 104 (fun ih n => ar2 (S104 ih n)))))
 (.node 107 (.node 106 (.leaf 105 (fun ih n => ar2 (S105 ih n)))
 (.leaf 106 (fun ih n => ar1 (S106 ih n))))
 (.node 108 (.leaf 107 (fun ih n => ar1 (S107 ih n)))
 (.node 116 (.leaf 108 (fun ih n => ar3 (S108 ih n)))
 (.leaf 116 (fun ih n => ar3 (S116 ih n))))))))
theorem dt_ok : dt.Ok EE ft.get :=
 ⟨⟨⟨⟨⟨(fun ih n _ _ _ e => ar3_ok (F := funS EE ih ft.get n 8) (S8_ok ih n) e),
 (fun ih n _ _ _ e => ar0_ok (F := funS EE ih ft.get n 11) (S11_ok ih n) e)⟩,
 ⟨(fun ih n _ _ _ e => ar1_ok (F := funS EE ih ft.get n 12) (S12_ok ih n) e),
 (fun ih n _ _ _ e => ar2_ok (F := funS EE ih ft.get n 14) (S14_ok ih n) e)⟩⟩,
 ⟨⟨(fun ih n _ _ _ e => ar2_ok (F := funS EE ih ft.get n 17) (S17_ok ih n) e),
 (fun ih n _ _ _ e => ar1_ok (F := funS EE ih ft.get n 20) (S20_ok ih n) e)⟩,
 ⟨(fun ih n _ _ _ e => ar2_ok (F := funS EE ih ft.get n 23) (S23_ok ih n) e),
 ⟨(fun ih n _ _ _ e => ar2_ok (F := funS EE ih ft.get n 30) (S30_ok ih n) e),
 (fun ih n _ _ _ e => ar1_ok (F := funS EE ih ft.get n 31) (S31_ok ih n) e)⟩⟩⟩⟩,
 ⟨⟨⟨(fun ih n _ _ _ e => ar2_ok (F := funS EE ih ft.get n 32) (S32_ok ih n) e),
 (fun ih n _ _ _ e => ar3_ok (F := funS EE ih ft.get n 33) (S33_ok ih n) e)⟩,
 ⟨(fun ih n _ _ _ e => ar2_ok (F := funS EE ih ft.get n 34) (S34_ok ih n) e),
 (fun ih n _ _ _ e => ar2_ok (F := funS EE ih ft.get n 40) (S40_ok ih n) e)⟩⟩,
 ⟨⟨(fun ih n _ _ _ e => ar2_ok (F := funS EE ih ft.get n 41) (S41_ok ih n) e),
 (fun ih n _ _ _ e => ar2_ok (F := funS EE ih ft.get n 42) (S42_ok ih n) e)⟩,
 ⟨(fun ih n _ _ _ e => ar1_ok (F := funS EE ih ft.get n 49) (S49_ok ih n) e),
 ⟨(fun ih n _ _ _ e => ar2_ok (F := funS EE ih ft.get n 50) (S50_ok ih n) e),
 (fun ih n _ _ _ e => ar1_ok (F := funS EE ih ft.get n 51) (S51_ok ih n) e)⟩⟩⟩⟩⟩,
 ⟨⟨⟨⟨(fun ih n _ _ _ e => ar1_ok (F := funS EE ih ft.get n 52) (S52_ok ih n) e),
 (fun ih n _ _ _ e => ar2_ok (F := funS EE ih ft.get n 53) (S53_ok ih n) e)⟩,
 ⟨(fun ih n _ _ _ e => ar1_ok (F := funS EE ih ft.get n 54) (S54_ok ih n) e),
 (fun ih n _ _ _ e => ar2_ok (F := funS EE ih ft.get n 64) (S64_ok ih n) e)⟩⟩,
 ⟨⟨(fun ih n _ _ _ e => ar3_ok (F := funS EE ih ft.get n 71) (S71_ok ih n) e),
 (fun ih n _ _ _ e => ar2_ok (F := funS EE ih ft.get n 72) (S72_ok ih n) e)⟩,
 ⟨(fun ih n _ _ _ e => ar3_ok (F := funS EE ih ft.get n 73) (S73_ok ih n) e),
 ⟨(fun ih n _ _ _ e => ar2_ok (F := funS EE ih ft.get n 74) (S74_ok ih n) e),
 (fun ih n _ _ _ e => ar2_ok (F := funS EE ih ft.get n 75) (S75_ok ih n) e)⟩⟩⟩⟩,
 ⟨⟨⟨(fun ih n _ _ _ e => ar2_ok (F := funS EE ih ft.get n 76) (S76_ok ih n) e),
 (fun ih n _ _ _ e => ar1_ok (F := funS EE ih ft.get n 102) (S102_ok ih n) e)⟩,
 ⟨(fun ih n _ _ _ e => ar2_ok (F := funS EE ih ft.get n 103) (S103_ok ih n) e),
 (fun ih n _ _ _ e => ar2_ok (F := funS EE ih ft.get n 104) (S104_ok ih n) e)⟩⟩,
 ⟨⟨(fun ih n _ _ _ e => ar2_ok (F := funS EE ih ft.get n 105) (S105_ok ih n) e),
 (fun ih n _ _ _ e => ar1_ok (F := funS EE ih ft.get n 106) (S106_ok ih n) e)⟩,
 ⟨(fun ih n _ _ _ e => ar1_ok (F := funS EE ih ft.get n 107) (S107_ok ih n) e),
 ⟨(fun ih n _ _ _ e => ar3_ok (F := funS EE ih ft.get n 108) (S108_ok ih n) e),
 (fun ih n _ _ _ e => ar3_ok (F := funS EE ih ft.get n 116) (S116_ok ih n) e)⟩⟩⟩⟩⟩⟩
theorem sh_run : ∀ n f args h x, SS dt n f args h = some x → run EE n f args h = some x := SS_ok ft_ok dt_ok
end Idl
end Go.Proofs.Ytdibmackcbpniaa

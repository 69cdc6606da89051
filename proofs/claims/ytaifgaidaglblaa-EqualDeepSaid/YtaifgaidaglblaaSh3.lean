/-
  THE SHALLOW FORM OF THE SEAT'S FUNCTIONS, a part; each is what its code's shallow run is. Printed by a program of mine (gen-sh). No statement is proved here.
-/
import Derived.Test.YtaifgaidaglblaaTab
import Derived.Test.YtaifgaidaglblaaIdl31
set_option maxRecDepth 100000
set_option linter.unusedVariables false
namespace Go.Proofs.Ytaifgaidaglblaa
namespace Idl
/-! Function 25. -/
noncomputable def S25_127 (h68 : Hp) (x71 : IV) (x67 : IV) (x36 : IV) (h3 : Hp) (x31 : IV) (x32 : IV) (x33 : IV) (x34 : IV) (x35 : IV) (q28 : List IV → Hp → Option (IV × Hp)) : Option (IV × Hp) :=
  store1 x71 x67 h68 fun h72 r73 w74 => chkS [] r73 w74 (addS EE 3 x36 (.fv (.int .i64 1)) fun x75 => dropS (h3.own.map (·.1)) [26221584] [x31, x32, x33, x34, x35, x75] h72 fun h76 => q28 [x31, x32, x33, x34, x35, x75] h76)
noncomputable def S25_128 (h60 : Hp) (x59 : IV) (r44 : List Ref) (x43 : IV) (x35 : IV) (x36 : IV) (h3 : Hp) (x31 : IV) (x32 : IV) (x33 : IV) (x34 : IV) (q28 : List IV → Hp → Option (IV × Hp)) : Option (IV × Hp) :=
  genS (pcBuildSlice EE 29 1 [(0, x59)]) 26221583 h60 fun x63 h64 r65 w66 => chkS [(r44, [])] r65 w66 (genS (builtinR EE 26221584 false .append [29, 29] [x43, x63]) 26221584 h64 fun x67 h68 r69 w70 => chkS [] r69 w70 (faddrS 2 x35 fun x71 => S25_127 h68 x71 x67 x36 h3 x31 x32 x33 x34 x35 q28))
noncomputable def S25_129 (ih : Handler) (h30 : Hp) (x52 : IV) (x36 : IV) (r50 : List Ref) (r47 : List Ref) (r44 : List Ref) (x32 : IV) (x49 : IV) (x31 : IV) (x43 : IV) (x35 : IV) (h3 : Hp) (x33 : IV) (x34 : IV) (q28 : List IV → Hp → Option (IV × Hp)) : Option (IV × Hp) :=
  isoS [] false false ih 51 [x52, x36] h30 fun x54 h55 r56 w57 => chkS [(r50, []), (r47, []), (r44, [])] r56 w57 (addS EE 3 x32 x54 fun x58 => isoS [] false false ih 25 [x49, x31, x58] h55 fun x59 h60 r61 w62 => chkS [(r44, [])] r61 w62 (S25_128 h60 x59 r44 x43 x35 x36 h3 x31 x32 x33 x34 q28))
noncomputable def S25_130 (h30 : Hp) (x48 : IV) (r44 : List Ref) (x33 : IV) (r47 : List Ref) (ih : Handler) (x36 : IV) (x32 : IV) (x31 : IV) (x43 : IV) (x35 : IV) (h3 : Hp) (x34 : IV) (q28 : List IV → Hp → Option (IV × Hp)) : Option (IV × Hp) :=
  loadA 3 x48 h30 fun x49 r50 => chkS [(r44, [])] r50 [] (faddrS 0 x33 fun x51 => load1 x51 h30 fun x52 r53 => chkS [(r50, []), (r47, []), (r44, [])] r53 [] (S25_129 ih h30 x52 x36 r50 r47 r44 x32 x49 x31 x43 x35 h3 x33 x34 q28))
noncomputable def S25_131 (r44 : List Ref) (x33 : IV) (h30 : Hp) (x36 : IV) (ih : Handler) (x32 : IV) (x31 : IV) (x43 : IV) (x35 : IV) (h3 : Hp) (x34 : IV) (q28 : List IV → Hp → Option (IV × Hp)) : Option (IV × Hp) :=
  chkS [] r44 [] (faddrS 2 x33 fun x45 => load1 x45 h30 fun x46 r47 => chkS [(r44, [])] r47 [] (ixS 3 x46 x36 fun x48 => S25_130 h30 x48 r44 x33 r47 ih x36 x32 x31 x43 x35 h3 x34 q28))
noncomputable def S25_132 (h79 : Hp) (x34 : IV) : Option (IV × Hp) :=
  cellS true 3 x34 h79 fun x82 => outS1 [x82] h79
noncomputable def S25_133 (x41 : IV) (x35 : IV) (h30 : Hp) (x33 : IV) (x36 : IV) (ih : Handler) (x32 : IV) (x31 : IV) (h3 : Hp) (x34 : IV) (q28 : List IV → Hp → Option (IV × Hp)) : Option (IV × Hp) :=
  condS x41 (faddrS 2 x35 fun x42 => load1 x42 h30 fun x43 r44 => S25_131 r44 x33 h30 x36 ih x32 x31 x43 x35 h3 x34 q28) (loadA 3 x35 h30 fun x77 _ => storeA 3 x34 x77 h30 fun h79 _ _ => S25_132 h79 x34)
noncomputable def S25_134 (l87 : List IV) (x33 : IV) (h30 : Hp) (x35 : IV) (ih : Handler) (x32 : IV) (x31 : IV) (h3 : Hp) (x34 : IV) (q28 : List IV → Hp → Option (IV × Hp)) : Option (IV × Hp) :=
  uncS l87 fun x36 _ => faddrS 2 x33 fun x37 => load1 x37 h30 fun x38 _ => lenS x38 fun x40 => ltS EE 3 x36 x40 fun x41 => S25_133 x41 x35 h30 x33 x36 ih x32 x31 h3 x34 q28
noncomputable def S25_135 (l29 : List IV) (h30 : Hp) (ih : Handler) (h3 : Hp) (q28 : List IV → Hp → Option (IV × Hp)) : Option (IV × Hp) :=
  uncS l29 fun x31 l83 => uncS l83 fun x32 l84 => uncS l84 fun x33 l85 => uncS l85 fun x34 l86 => uncS l86 fun x35 l87 => S25_134 l87 x33 h30 x35 ih x32 x31 h3 x34 q28
noncomputable def S25_136 (h3 : Hp) (h27 : Hp) (x1 : IV) (x2 : IV) (x4 : IV) (x8 : IV) (x19 : IV) (n : Nat) (ih : Handler) : Option (IV × Hp) :=
  dropS (h3.own.map (·.1)) [26221584] [x1, x2, x4, x8, x19, .fv (.int .i64 0)] h27 fun h89 => loopS n (fun q28 l29 h30 => S25_135 l29 h30 ih h3 q28) [x1, x2, x4, x8, x19, .fv (.int .i64 0)] h89
noncomputable def S25_137 (h115 : Hp) (x119 : IV) (x1 : IV) (x19 : IV) (j0_26 : Hp → Option (IV × Hp)) : Option (IV × Hp) :=
  load1 x119 h115 fun x120 _ => addS EE 3 x120 x1 fun x122 => faddrS 1 x19 fun x123 => store1 x123 x122 h115 fun h124 _ _ => j0_26 h124
noncomputable def S25_138 (h109 : Hp) (x93 : IV) (x103 : IV) (x108 : IV) (x4 : IV) (x1 : IV) (x19 : IV) (j0_26 : Hp → Option (IV × Hp)) : Option (IV × Hp) :=
  guardS x93 true h109 (fun k112 => geS EE 3 x103 x108 fun x113 => k112 x113 h109 [] []) fun x114 h115 _ _ => pickS x93 x114 (.fv (.bool false)) fun x118 => condS x118 (faddrS 1 x4 fun x119 => S25_137 h115 x119 x1 x19 j0_26) (j0_26 h115)
noncomputable def S25_139 (h23 : Hp) (x90 : IV) (x4 : IV) (x2 : IV) (x1 : IV) (x19 : IV) (j0_26 : Hp → Option (IV × Hp)) : Option (IV × Hp) :=
  load1 x90 h23 fun x91 _ => eqS EE 3 x91 (.fv (.int .i64 1)) fun x93 => guardS x93 true h23 (fun k94 => faddrS 1 x4 fun x95 => k94 x95 h23 [] []) fun x96 h97 _ _ => guardS x93 true h97 (fun k100 => load1 x96 h97 fun x101 r102 => k100 x101 h97 r102 []) fun x103 h104 _ _ => guardS x93 true h104 (fun k107 => k107 x2 h104 [] []) fun x108 h109 _ _ => S25_138 h109 x93 x103 x108 x4 x1 x19 j0_26
noncomputable def S25_140 (x13 : IV) (x16 : IV) (h9 : Hp) (h3 : Hp) (x1 : IV) (x2 : IV) (x4 : IV) (x8 : IV) (n : Nat) (ih : Handler) : Option (IV × Hp) :=
  bldS [.fv (.int .i64 0), .fv (.int .i64 0), .nils] [(0, 1, x13), (1, 1, x16)] fun x18 => newS 26215429 (.row [.fv (.int .i64 0), .fv (.int .i64 0), .nils] false) (.ptr (.own 26215429) 0) h9 fun x19 h20 _ _ => storeA 3 x19 x18 h20 fun h23 _ _ => (fun (j0_26 : Hp → Option (IV × Hp)) => faddrS 0 x4 fun x90 => S25_139 h23 x90 x4 x2 x1 x19 j0_26) fun h27 => S25_136 h3 h27 x1 x2 x4 x8 x19 n ih
noncomputable def S25 (ih : Handler) (n : Nat) (x0 : IV) (x1 : IV) (x2 : IV) (h3 : Hp) : Option (IV × Hp) :=
  boxS 26214400 x0 h3 fun x4 h5 _ _ => newS 26214401 (.row [.fv (.int .i64 0), .fv (.int .i64 0), .nils] false) (.ptr (.own 26214401) 0) h5 fun x8 h9 _ _ => faddrS 0 x4 fun x12 => load1 x12 h9 fun x13 _ => faddrS 1 x4 fun x15 => load1 x15 h9 fun x16 _ => S25_140 x13 x16 h9 h3 x1 x2 x4 x8 n ih
theorem S25_ok (ih : Handler) (n : Nat) (x0 : IV) (x1 : IV) (x2 : IV) (h3 : Hp) : funS EE ih ft.get n 25 [x0, x1, x2] h3 = S25 ih n x0 x1 x2 h3 := by kernel_rfl
/-! Function 26. -/
noncomputable def S26 (ih : Handler) (n : Nat) (x0 : IV) (h1 : Hp) : Option (IV × Hp) :=
  newS 27262976 (.row [.fv (.int .i64 0), .fv (.int .i64 0), .nils] false) (.ptr (.own 27262976) 0) h1 fun x2 h3 _ _ => bldS [.fv (.int .i64 0), .fv (.int .i64 0), .nils] [(0, 1, .fv (.int .i64 1)), (1, 1, x0)] fun x6 => storeA 3 x2 x6 h3 fun h7 _ _ => cellS true 3 x2 h7 fun x10 => outS1 [x10] h7
theorem S26_ok (ih : Handler) (n : Nat) (x0 : IV) (h1 : Hp) : funS EE ih ft.get n 26 [x0] h1 = S26 ih n x0 h1 := by kernel_rfl
/-! Function 27. -/
noncomputable def S27_21 (x17 : IV) (h14 : Hp) : Option (IV × Hp) :=
  faddrS 1 x17 fun x18 => load1 x18 h14 fun x19 _ => outS1 [x19] h14
noncomputable def S27 (ih : Handler) (n : Nat) (x0 : IV) (h1 : Hp) : Option (IV × Hp) :=
  boxS 28311552 x0 h1 fun x2 h3 _ _ => bldS [.fv (.int .i64 0), .fv (.int .i64 0)] [] fun x6 => boxS 28312577 x6 h3 fun x7 h8 _ _ => loadA 3 x2 h8 fun x11 _ => isoS [true, false, false] false false ih 52 [x7, x11, .fv (.int .i64 1)] h8 fun _ h14 _ _ => nilS x7 fun x17 => S27_21 x17 h14
theorem S27_ok (ih : Handler) (n : Nat) (x0 : IV) (h1 : Hp) : funS EE ih ft.get n 27 [x0] h1 = S27 ih n x0 h1 := by kernel_rfl
/-! Function 28. -/
noncomputable def S28 (ih : Handler) (n : Nat) (x0 : IV) (x1 : IV) (h2 : Hp) : Option (IV × Hp) :=
  binS EE 3 .rem x0 x1 fun x3 => (fun (j1_4 : IV → Hp → Option (IV × Hp)) => ltS EE 3 x3 (.fv (.int .i64 0)) fun x7 => condS x7 (addS EE 3 x3 x1 fun x8 => j1_4 x8 h2) (j1_4 x3 h2)) fun x5 h6 => outS1 [x5] h6
theorem S28_ok (ih : Handler) (n : Nat) (x0 : IV) (x1 : IV) (h2 : Hp) : funS EE ih ft.get n 28 [x0, x1] h2 = S28 ih n x0 x1 h2 := by kernel_rfl
/-! Function 29. -/
noncomputable def S29_49 (ih : Handler) (h28 : Hp) (x27 : IV) (x22 : IV) (x23 : IV) (q17 : List IV → Hp → Option (IV × Hp)) (x20 : IV) (x21 : IV) : Option (IV × Hp) :=
  isoS [] false false ih 24 [.fv (.int .i64 12), x27] h28 fun x31 h32 _ _ => storeA 3 x22 x31 h32 fun h35 _ _ => addS EE 3 x23 (.fv (.int .i64 1)) fun x38 => q17 [x20, x21, x22, x38] h35
noncomputable def S29_50 (h41 : Hp) (x21 : IV) : Option (IV × Hp) :=
  cellS true 3 x21 h41 fun x44 => outS1 [x44] h41
noncomputable def S29_51 (x24 : IV) (h19 : Hp) (x22 : IV) (ih : Handler) (x23 : IV) (q17 : List IV → Hp → Option (IV × Hp)) (x20 : IV) (x21 : IV) : Option (IV × Hp) :=
  condS x24 (loadA 3 x22 h19 fun x25 _ => genS (pcBuildSlice EE 29 1 [(0, x25)]) 30413825 h19 fun x27 h28 _ _ => S29_49 ih h28 x27 x22 x23 q17 x20 x21) (loadA 3 x22 h19 fun x39 _ => storeA 3 x21 x39 h19 fun h41 _ _ => S29_50 h41 x21)
noncomputable def S29_52 (l18 : List IV) (h19 : Hp) (ih : Handler) (q17 : List IV → Hp → Option (IV × Hp)) : Option (IV × Hp) :=
  uncS l18 fun x20 l45 => uncS l45 fun x21 l46 => uncS l46 fun x22 l47 => uncS l47 fun x23 _ => ltS EE 3 x23 x20 fun x24 => S29_51 x24 h19 x22 ih x23 q17 x20 x21
noncomputable def S29 (ih : Handler) (n : Nat) (x0 : IV) (h1 : Hp) : Option (IV × Hp) :=
  newS 30408704 (.row [.fv (.int .i64 0), .fv (.int .i64 0), .nils] false) (.ptr (.own 30408704) 0) h1 fun x2 h3 _ _ => isoS [] false false ih 24 [.fv (.int .i64 11), .nils] h3 fun x6 h7 _ _ => newS 30409729 (.row [.fv (.int .i64 0), .fv (.int .i64 0), .nils] false) (.ptr (.own 30409729) 0) h7 fun x10 h11 _ _ => storeA 3 x10 x6 h11 fun h14 _ _ => loopS n (fun q17 l18 h19 => S29_52 l18 h19 ih q17) [x0, x2, x10, .fv (.int .i64 0)] h14
theorem S29_ok (ih : Handler) (n : Nat) (x0 : IV) (h1 : Hp) : funS EE ih ft.get n 29 [x0] h1 = S29 ih n x0 h1 := by kernel_rfl
/-! Function 30. -/
noncomputable def S30_28 (x15 : IV) (h16 : Hp) (x19 : IV) : Option (IV × Hp) :=
  extS 1 x15 fun x20 => eqS EE 37 x20 (.fv (.int .i64 0)) fun x21 => guardS x21 true h16 (fun k22 => k22 x19 h16 [] []) fun x23 h24 _ _ => pickS x21 x23 (.fv (.bool false)) fun x27 => outS1 [x27] h24
noncomputable def S30 (ih : Handler) (n : Nat) (x0 : IV) (x1 : IV) (h2 : Hp) : Option (IV × Hp) :=
  boxS 31457280 x0 h2 fun x3 h4 _ _ => boxS 31457281 x1 h4 fun x7 h8 _ _ => loadA 3 x3 h8 fun x11 _ => loadA 3 x7 h8 fun x13 _ => isoS [] false false ih 16 [x11, x13] h8 fun x15 h16 _ _ => extS 0 x15 fun x19 => S30_28 x15 h16 x19
theorem S30_ok (ih : Handler) (n : Nat) (x0 : IV) (x1 : IV) (h2 : Hp) : funS EE ih ft.get n 30 [x0, x1] h2 = S30 ih n x0 x1 h2 := by kernel_rfl
/-! Function 31. -/
noncomputable def S31_47 (h43 : Hp) (x11 : IV) : Option (IV × Hp) :=
  cellS true 3 x11 h43 fun x46 => outS1 [x46] h43
noncomputable def S31_48 (r37 : List Ref) (w38 : List Ref) (ih : Handler) (h36 : Hp) (x35 : IV) (x11 : IV) : Option (IV × Hp) :=
  chkS [] r37 w38 (isoS [] false false ih 24 [.fv (.int .i64 13), x35] h36 fun x39 h40 r41 w42 => chkS [] r41 w42 (storeA 3 x11 x39 h40 fun h43 r44 w45 => chkS [] r44 w45 (S31_47 h43 x11)))
noncomputable def S31_49 (ih : Handler) (h26 : Hp) (x25 : IV) (r20 : List Ref) (x3 : IV) (r27 : List Ref) (w28 : List Ref) (r23 : List Ref) (w24 : List Ref) (r17 : List Ref) (w18 : List Ref) (x15 : IV) (x19 : IV) (x11 : IV) : Option (IV × Hp) :=
  isoS [] false false ih 24 [.fv (.int .i64 12), x25] h26 fun x29 h30 r31 w32 => chkS [(r20, [])] r31 w32 (loadA 3 x3 h30 fun x33 r34 => chkS [(r31, w32), (r27, w28), (r23, w24), (r20, []), (r17, w18)] r34 [] (genS (pcBuildSlice EE 29 4 [(0, x15), (1, x19), (2, x29), (3, x33)]) 32506886 h30 fun x35 h36 r37 w38 => S31_48 r37 w38 ih h36 x35 x11))
noncomputable def S31_50 (r20 : List Ref) (r17 : List Ref) (w18 : List Ref) (ih : Handler) (h16 : Hp) (x3 : IV) (x15 : IV) (x19 : IV) (x11 : IV) : Option (IV × Hp) :=
  chkS [(r17, w18)] r20 [] (isoS [] false false ih 26 [.fv (.int .i64 0)] h16 fun x21 h22 r23 w24 => chkS [(r20, [])] r23 w24 (genS (pcBuildSlice EE 29 1 [(0, x21)]) 32506883 h22 fun x25 h26 r27 w28 => chkS [(r20, [])] r27 w28 (S31_49 ih h26 x25 r20 x3 r27 w28 r23 w24 r17 w18 x15 x19 x11)))
noncomputable def S31 (ih : Handler) (n : Nat) (x0 : IV) (x1 : IV) (h2 : Hp) : Option (IV × Hp) :=
  boxS 32505856 x0 h2 fun x3 h4 _ _ => boxS 32505857 x1 h4 fun x7 h8 _ _ => newS 32505858 (.row [.fv (.int .i64 0), .fv (.int .i64 0), .nils] false) (.ptr (.own 32505858) 0) h8 fun x11 h12 _ _ => isoS [] false false ih 32 [] h12 fun x15 h16 r17 w18 => chkS [] r17 w18 (loadA 3 x7 h16 fun x19 r20 => S31_50 r20 r17 w18 ih h16 x3 x15 x19 x11)
theorem S31_ok (ih : Handler) (n : Nat) (x0 : IV) (x1 : IV) (h2 : Hp) : funS EE ih ft.get n 31 [x0, x1] h2 = S31 ih n x0 x1 h2 := by kernel_rfl
/-! Function 32. -/
noncomputable def S32 (ih : Handler) (n : Nat) (h0 : Hp) : Option (IV × Hp) :=
  newS 33554432 (.row [.fv (.int .i64 0), .fv (.int .i64 0), .nils] false) (.ptr (.own 33554432) 0) h0 fun x1 h2 _ _ => isoS [] false false ih 24 [.fv (.int .i64 10), .nils] h2 fun x5 h6 _ _ => storeA 3 x1 x5 h6 fun h9 _ _ => cellS true 3 x1 h9 fun x12 => outS1 [x12] h9
theorem S32_ok (ih : Handler) (n : Nat) (h0 : Hp) : funS EE ih ft.get n 32 [] h0 = S32 ih n h0 := by kernel_rfl
/-! Function 33. -/
noncomputable def S33_53 (x12 : IV) (x43 : IV) (x13 : IV) (q7 : List IV → Hp → Option (IV × Hp)) (h44 : Hp) (x10 : IV) (x11 : IV) : Option (IV × Hp) :=
  addS EE 3 x12 x43 fun x47 => addS EE 3 x13 (.fv (.int .i64 1)) fun x48 => q7 [x10, x11, x47, x48] h44
noncomputable def S33_54 (h32 : Hp) (x36 : IV) (x13 : IV) (x10 : IV) (x12 : IV) (ih : Handler) (q7 : List IV → Hp → Option (IV × Hp)) (x11 : IV) : Option (IV × Hp) :=
  load1 x36 h32 fun x37 _ => ixS 3 x37 x13 fun x39 => loadA 3 x39 h32 fun x40 _ => subS EE 3 x10 x12 fun x42 => isoS [] false false ih 33 [x40, x42] h32 fun x43 h44 _ _ => S33_53 x12 x43 x13 q7 h44 x10 x11
noncomputable def S33_55 (h26 : Hp) (x18 : IV) (x20 : IV) (x25 : IV) (x11 : IV) (x13 : IV) (x10 : IV) (x12 : IV) (ih : Handler) (q7 : List IV → Hp → Option (IV × Hp)) : Option (IV × Hp) :=
  guardS x18 true h26 (fun k29 => ltS EE 3 x20 x25 fun x30 => k29 x30 h26 [] []) fun x31 h32 _ _ => pickS x18 x31 (.fv (.bool false)) fun x35 => condS x35 (faddrS 2 x11 fun x36 => S33_54 h32 x36 x13 x10 x12 ih q7 x11) (outS1 [x12] h32)
noncomputable def S33_56 (h9 : Hp) (x14 : IV) (x13 : IV) (x12 : IV) (x10 : IV) (x11 : IV) (ih : Handler) (q7 : List IV → Hp → Option (IV × Hp)) : Option (IV × Hp) :=
  load1 x14 h9 fun x15 _ => lenS x15 fun x17 => ltS EE 3 x13 x17 fun x18 => guardS x18 true h9 (fun k19 => k19 x12 h9 [] []) fun x20 h21 _ _ => guardS x18 true h21 (fun k24 => k24 x10 h21 [] []) fun x25 h26 _ _ => S33_55 h26 x18 x20 x25 x11 x13 x10 x12 ih q7
noncomputable def S33_57 (l8 : List IV) (h9 : Hp) (ih : Handler) (q7 : List IV → Hp → Option (IV × Hp)) : Option (IV × Hp) :=
  uncS l8 fun x10 l49 => uncS l49 fun x11 l50 => uncS l50 fun x12 l51 => uncS l51 fun x13 _ => faddrS 2 x11 fun x14 => S33_56 h9 x14 x13 x12 x10 x11 ih q7
noncomputable def S33 (ih : Handler) (n : Nat) (x0 : IV) (x1 : IV) (h2 : Hp) : Option (IV × Hp) :=
  boxS 34603008 x0 h2 fun x3 h4 _ _ => loopS n (fun q7 l8 h9 => S33_57 l8 h9 ih q7) [x1, x3, .fv (.int .i64 1), .fv (.int .i64 0)] h4
theorem S33_ok (ih : Handler) (n : Nat) (x0 : IV) (x1 : IV) (h2 : Hp) : funS EE ih ft.get n 33 [x0, x1] h2 = S33 ih n x0 x1 h2 := by kernel_rfl
/-! Function 34. -/
noncomputable def S34_75 (h32 : Hp) (x7 : IV) (x31 : IV) : Option (IV × Hp) :=
  storeA 3 x7 x31 h32 fun h35 _ _ => cellS true 3 x7 h35 fun x38 => outS1 [x38] h35
noncomputable def S34_76 (r72 : List Ref) (w73 : List Ref) (h71 : Hp) (x7 : IV) : Option (IV × Hp) :=
  chkS [] r72 w73 (cellS true 3 x7 h71 fun x74 => outS1 [x74] h71)
noncomputable def S34_77 (h60 : Hp) (x48 : IV) (x59 : IV) (ih : Handler) (x40 : IV) (x7 : IV) : Option (IV × Hp) :=
  genS (pcBuildSlice EE 29 2 [(0, x48), (1, x59)]) 35655693 h60 fun x63 h64 r65 w66 => chkS [] r65 w66 (isoS [] false false ih 24 [x40, x63] h64 fun x67 h68 r69 w70 => chkS [] r69 w70 (storeA 3 x7 x67 h68 fun h71 r72 w73 => S34_76 r72 w73 h71 x7))
noncomputable def S34_78 (ih : Handler) (h49 : Hp) (x52 : IV) (x1 : IV) (x48 : IV) (x40 : IV) (x7 : IV) : Option (IV × Hp) :=
  isoS [] false false ih 46 [x52, .fv (.int .i64 1)] h49 fun x54 h55 r56 w57 => chkS [] r56 w57 (subS EE 3 x1 (.fv (.int .i64 1)) fun x58 => isoS [] false false ih 34 [x54, x58] h55 fun x59 h60 r61 w62 => chkS [] r61 w62 (S34_77 h60 x48 x59 ih x40 x7))
noncomputable def S34_79 (x1 : IV) (ih : Handler) (h44 : Hp) (x43 : IV) (x3 : IV) (r45 : List Ref) (w46 : List Ref) (r42 : List Ref) (x40 : IV) (x7 : IV) : Option (IV × Hp) :=
  subS EE 3 x1 (.fv (.int .i64 1)) fun x47 => isoS [] false false ih 34 [x43, x47] h44 fun x48 h49 r50 w51 => chkS [] r50 w51 (loadA 3 x3 h49 fun x52 r53 => chkS [(r50, w51), (r45, w46), (r42, [])] r53 [] (S34_78 ih h49 x52 x1 x48 x40 x7))
noncomputable def S34_80 (x39 : IV) (h27 : Hp) (x3 : IV) (ih : Handler) (x1 : IV) (x7 : IV) : Option (IV × Hp) :=
  subS EE 3 x39 (.fv (.int .i64 2)) fun x40 => loadA 3 x3 h27 fun x41 r42 => chkS [] r42 [] (isoS [] false false ih 46 [x41, .fv (.int .i64 0)] h27 fun x43 h44 r45 w46 => chkS [] r45 w46 (S34_79 x1 ih h44 x43 x3 r45 w46 r42 x40 x7))
noncomputable def S34_81 (h15 : Hp) (x18 : IV) (x14 : IV) (ih : Handler) (x7 : IV) (x3 : IV) (x1 : IV) : Option (IV × Hp) :=
  guardS x18 false h15 (fun k19 => k19 x14 h15 [] []) fun x20 h21 _ _ => guardS x18 false h21 (fun k24 => ltS EE 3 x20 (.fv (.int .i64 2)) fun x25 => k24 x25 h21 [] []) fun x26 h27 _ _ => pickS x18 (.fv (.bool true)) x26 fun x30 => condS x30 (isoS [] false false ih 24 [.fv (.int .i64 15), .nils] h27 fun x31 h32 _ _ => S34_75 h32 x7 x31) (addS EE 3 (.fv (.int .i64 16)) x14 fun x39 => S34_80 x39 h27 x3 ih x1 x7)
noncomputable def S34 (ih : Handler) (n : Nat) (x0 : IV) (x1 : IV) (h2 : Hp) : Option (IV × Hp) :=
  boxS 35651584 x0 h2 fun x3 h4 _ _ => newS 35651585 (.row [.fv (.int .i64 0), .fv (.int .i64 0), .nils] false) (.ptr (.own 35651585) 0) h4 fun x7 h8 _ _ => faddrS 1 x3 fun x11 => load1 x11 h8 fun x12 _ => isoS [] false false ih 43 [x12, .fv (.int .i64 4)] h8 fun x14 h15 _ _ => leS EE 3 x1 (.fv (.int .i64 0)) fun x18 => S34_81 h15 x18 x14 ih x7 x3 x1
theorem S34_ok (ih : Handler) (n : Nat) (x0 : IV) (x1 : IV) (h2 : Hp) : funS EE ih ft.get n 34 [x0, x1] h2 = S34 ih n x0 x1 h2 := by kernel_rfl
/-! Function 35. -/
noncomputable def S35_393 (h25 : Hp) (x13 : IV) (x29 : IV) : Option (IV × Hp) :=
  storeA 3 x13 x29 h25 fun h30 _ _ => cellS true 3 x13 h30 fun x33 => outS1 [x33, .fv (.bool false)] h30
noncomputable def S35_394 (h91 : Hp) (x13 : IV) (x44 : IV) : Option (IV × Hp) :=
  cellS true 3 x13 h91 fun x94 => outS1 [x94, x44] h91
noncomputable def S35_395 (h126 : Hp) (x13 : IV) (x129 : IV) (x130 : IV) : Option (IV × Hp) :=
  storeA 3 x13 x129 h126 fun h131 _ _ => cellS true 3 x13 h131 fun x134 => outS1 [x134, x130] h131
noncomputable def S35_396 (h117 : Hp) (x5 : IV) (x9 : IV) (ih : Handler) (x0 : IV) (x3 : IV) (x13 : IV) : Option (IV × Hp) :=
  loadA 3 x5 h117 fun x121 _ => loadA 3 x9 h117 fun x123 _ => isoS [] false false ih 53 [x0, x121, x123, x3] h117 fun x125 h126 _ _ => extS 0 x125 fun x129 => extS 1 x125 fun x130 => S35_395 h126 x13 x129 x130
noncomputable def S35_397 (h221 : Hp) (x179 : IV) (x201 : IV) (x13 : IV) (x224 : IV) : Option (IV × Hp) :=
  guardS x179 true h221 (fun k225 => k225 x201 h221 [] []) fun x226 h227 _ _ => pickS x179 x226 (.fv (.bool false)) fun x230 => storeA 3 x13 x224 h227 fun h231 r232 w233 => chkS [] r232 w233 (cellS true 3 x13 h231 fun x234 => outS1 [x234, x230] h231)
noncomputable def S35_398 (h213 : Hp) (x202 : IV) (r217 : List Ref) (r214 : List Ref) (w215 : List Ref) (r211 : List Ref) (x216 : IV) (x212 : IV) (x179 : IV) (x201 : IV) (x13 : IV) : Option (IV × Hp) :=
  loadA 3 x202 h213 fun x218 r219 => chkS [(r217, []), (r214, w215), (r211, [])] r219 [] (genS (pcBuildSlice EE 29 2 [(0, x216), (1, x218)]) 36714501 h213 fun x220 h221 r222 w223 => chkS [(r214, w215), (r211, [])] r222 w223 (bldS [.fv (.int .i64 0), .fv (.int .i64 0), .nils] [(0, 1, .fv (.int .i64 26)), (1, 1, x212), (2, 1, x220)] fun x224 => S35_397 h221 x179 x201 x13 x224))
noncomputable def S35_399 (r211 : List Ref) (ih : Handler) (h206 : Hp) (x210 : IV) (x180 : IV) (x202 : IV) (x179 : IV) (x201 : IV) (x13 : IV) : Option (IV × Hp) :=
  chkS [] r211 [] (isoS [] false false ih 43 [x210, .fv (.int .i64 5)] h206 fun x212 h213 r214 w215 => chkS [] r214 w215 (loadA 3 x180 h213 fun x216 r217 => chkS [(r214, w215), (r211, [])] r217 [] (S35_398 h213 x202 r217 r214 w215 r211 x216 x212 x179 x201 x13)))
noncomputable def S35_400 (r204 : List Ref) (w205 : List Ref) (r198 : List Ref) (w199 : List Ref) (r193 : List Ref) (w194 : List Ref) (r190 : List Ref) (r188 : List Ref) (h203 : Hp) (x202 : IV) (x200 : IV) (x9 : IV) (ih : Handler) (x180 : IV) (x179 : IV) (x201 : IV) (x13 : IV) : Option (IV × Hp) :=
  chkS [(r198, w199), (r193, w194), (r190, []), (r188, [])] r204 w205 (storeA 3 x202 x200 h203 fun h206 r207 w208 => chkS [] r207 w208 (faddrS 1 x9 fun x209 => load1 x209 h206 fun x210 r211 => S35_399 r211 ih h206 x210 x180 x202 x179 x201 x13))
noncomputable def S35_401 (ih : Handler) (h192 : Hp) (x0 : IV) (x187 : IV) (x191 : IV) (x195 : IV) (r193 : List Ref) (w194 : List Ref) (r190 : List Ref) (r188 : List Ref) (x9 : IV) (x180 : IV) (x179 : IV) (x13 : IV) : Option (IV × Hp) :=
  isoS [] false false ih 35 [x0, x187, x191, x195] h192 fun x196 h197 r198 w199 => chkS [] r198 w199 (extS 0 x196 fun x200 => extS 1 x196 fun x201 => newS 36713482 (.row [.fv (.int .i64 0), .fv (.int .i64 0), .nils] false) (.ptr (.own 36713482) 0) h197 fun x202 h203 r204 w205 => S35_400 r204 w205 r198 w199 r193 w194 r190 r188 h203 x202 x200 x9 ih x180 x179 x201 x13)
noncomputable def S35_402 (h184 : Hp) (x9 : IV) (r188 : List Ref) (ih : Handler) (x3 : IV) (x0 : IV) (x187 : IV) (x180 : IV) (x179 : IV) (x13 : IV) : Option (IV × Hp) :=
  loadA 3 x9 h184 fun x189 r190 => chkS [(r188, [])] r190 [] (isoS [] false false ih 46 [x189, .fv (.int .i64 1)] h184 fun x191 h192 r193 w194 => chkS [(r188, [])] r193 w194 (subS EE 3 x3 (.fv (.int .i64 1)) fun x195 => S35_401 ih h192 x0 x187 x191 x195 r193 w194 r190 r188 x9 x180 x179 x13))
noncomputable def S35_403 (r182 : List Ref) (w183 : List Ref) (r176 : List Ref) (w177 : List Ref) (r171 : List Ref) (w172 : List Ref) (r168 : List Ref) (r166 : List Ref) (h181 : Hp) (x180 : IV) (x178 : IV) (x5 : IV) (x9 : IV) (ih : Handler) (x3 : IV) (x0 : IV) (x179 : IV) (x13 : IV) : Option (IV × Hp) :=
  chkS [(r176, w177), (r171, w172), (r168, []), (r166, [])] r182 w183 (storeA 3 x180 x178 h181 fun h184 r185 w186 => chkS [] r185 w186 (loadA 3 x5 h184 fun x187 r188 => chkS [] r188 [] (S35_402 h184 x9 r188 ih x3 x0 x187 x180 x179 x13)))
noncomputable def S35_404 (ih : Handler) (h170 : Hp) (x0 : IV) (x165 : IV) (x169 : IV) (x173 : IV) (r171 : List Ref) (w172 : List Ref) (r168 : List Ref) (r166 : List Ref) (x5 : IV) (x9 : IV) (x3 : IV) (x13 : IV) : Option (IV × Hp) :=
  isoS [] false false ih 35 [x0, x165, x169, x173] h170 fun x174 h175 r176 w177 => chkS [] r176 w177 (extS 0 x174 fun x178 => extS 1 x174 fun x179 => newS 36712458 (.row [.fv (.int .i64 0), .fv (.int .i64 0), .nils] false) (.ptr (.own 36712458) 0) h175 fun x180 h181 r182 w183 => S35_403 r182 w183 r176 w177 r171 w172 r168 r166 h181 x180 x178 x5 x9 ih x3 x0 x179 x13)
noncomputable def S35_405 (h161 : Hp) (x9 : IV) (r166 : List Ref) (ih : Handler) (x3 : IV) (x0 : IV) (x165 : IV) (x5 : IV) (x13 : IV) : Option (IV × Hp) :=
  loadA 3 x9 h161 fun x167 r168 => chkS [(r166, [])] r168 [] (isoS [] false false ih 46 [x167, .fv (.int .i64 0)] h161 fun x169 h170 r171 w172 => chkS [(r166, [])] r171 w172 (subS EE 3 x3 (.fv (.int .i64 1)) fun x173 => S35_404 ih h170 x0 x165 x169 x173 r171 w172 r168 r166 x5 x9 x3 x13))
noncomputable def S35_406 (ih : Handler) (h161 : Hp) (x236 : IV) (x13 : IV) : Option (IV × Hp) :=
  isoS [] false false ih 43 [x236, .fv (.int .i64 20)] h161 fun x238 h239 _ _ => subS EE 3 x238 (.fv (.int .i64 5)) fun x242 => isoS [] false false ih 36 [x242] h239 fun x243 h244 _ _ => storeA 3 x13 x243 h244 fun h247 _ _ => cellS true 3 x13 h247 fun x250 => outS1 [x250, .fv (.bool true)] h247
noncomputable def S35_407 (x164 : IV) (h161 : Hp) (x5 : IV) (x9 : IV) (ih : Handler) (x3 : IV) (x0 : IV) (x13 : IV) : Option (IV × Hp) :=
  condS x164 (loadA 3 x5 h161 fun x165 r166 => chkS [] r166 [] (S35_405 h161 x9 r166 ih x3 x0 x165 x5 x13)) (faddrS 1 x9 fun x235 => load1 x235 h161 fun x236 _ => S35_406 ih h161 x236 x13)
noncomputable def S35_408 (h117 : Hp) (x139 : IV) (x9 : IV) (ih : Handler) (x5 : IV) (x3 : IV) (x0 : IV) (x13 : IV) : Option (IV × Hp) :=
  guardS x139 true h117 (fun k140 => faddrS 0 x9 fun x141 => k140 x141 h117 [] []) fun x142 h143 _ _ => guardS x139 true h143 (fun k146 => load1 x142 h143 fun x147 r148 => k146 x147 h143 r148 []) fun x149 h150 _ _ => guardS x139 true h150 (fun k153 => isoS [] false false ih 43 [x149, .fv (.int .i64 2)] h150 k153) fun x154 h155 _ _ => guardS x139 true h155 (fun k158 => eqS EE 3 x154 (.fv (.int .i64 1)) fun x159 => k158 x159 h155 [] []) fun x160 h161 _ _ => pickS x139 x160 (.fv (.bool false)) fun x164 => S35_407 x164 h161 x5 x9 ih x3 x0 x13
noncomputable def S35_409 (r309 : List Ref) (w310 : List Ref) (h308 : Hp) (x13 : IV) (x284 : IV) : Option (IV × Hp) :=
  chkS [] r309 w310 (cellS true 3 x13 h308 fun x311 => outS1 [x311, x284] h308)
noncomputable def S35_410 (h289 : Hp) (x296 : IV) (x298 : IV) (ih : Handler) (x13 : IV) (x284 : IV) : Option (IV × Hp) :=
  genS (pcBuildSlice EE 29 2 [(0, x296), (1, x298)]) 36718597 h289 fun x300 h301 r302 w303 => chkS [] r302 w303 (isoS [] false false ih 24 [.fv (.int .i64 20), x300] h301 fun x304 h305 r306 w307 => chkS [] r306 w307 (storeA 3 x13 x304 h305 fun h308 r309 w310 => S35_409 r309 w310 h308 x13 x284))
noncomputable def S35_411 (x293 : IV) (h289 : Hp) (x285 : IV) (r294 : List Ref) (ih : Handler) (x13 : IV) (x284 : IV) : Option (IV × Hp) :=
  ixS 3 x293 (.fv (.int .i64 0)) fun x295 => loadA 3 x295 h289 fun x296 r297 => chkS [] r297 [] (loadA 3 x285 h289 fun x298 r299 => chkS [(r297, []), (r294, [])] r299 [] (S35_410 h289 x296 x298 ih x13 x284))
noncomputable def S35_412 (h286 : Hp) (x285 : IV) (x283 : IV) (x5 : IV) (ih : Handler) (x13 : IV) (x284 : IV) : Option (IV × Hp) :=
  storeA 3 x285 x283 h286 fun h289 r290 w291 => chkS [] r290 w291 (faddrS 2 x5 fun x292 => load1 x292 h289 fun x293 r294 => chkS [] r294 [] (S35_411 x293 h289 x285 r294 ih x13 x284))
noncomputable def S35_413 (r281 : List Ref) (w282 : List Ref) (x279 : IV) (h280 : Hp) (r276 : List Ref) (w277 : List Ref) (r273 : List Ref) (r270 : List Ref) (w271 : List Ref) (r267 : List Ref) (r264 : List Ref) (r260 : List Ref) (w261 : List Ref) (r257 : List Ref) (r254 : List Ref) (x5 : IV) (ih : Handler) (x13 : IV) : Option (IV × Hp) :=
  chkS [] r281 w282 (extS 0 x279 fun x283 => extS 1 x279 fun x284 => newS 36717587 (.row [.fv (.int .i64 0), .fv (.int .i64 0), .nils] false) (.ptr (.own 36717587) 0) h280 fun x285 h286 r287 w288 => chkS [(r281, w282), (r276, w277), (r273, []), (r270, w271), (r267, []), (r264, []), (r260, w261), (r257, []), (r254, [])] r287 w288 (S35_412 h286 x285 x283 x5 ih x13 x284))
noncomputable def S35_414 (r273 : List Ref) (r270 : List Ref) (w271 : List Ref) (r267 : List Ref) (r264 : List Ref) (r260 : List Ref) (w261 : List Ref) (r257 : List Ref) (r254 : List Ref) (ih : Handler) (h269 : Hp) (x272 : IV) (x3 : IV) (x258 : IV) (x268 : IV) (x5 : IV) (x13 : IV) : Option (IV × Hp) :=
  chkS [(r270, w271), (r267, []), (r264, []), (r260, w261), (r257, []), (r254, [])] r273 [] (isoS [] false false ih 46 [x272, .fv (.int .i64 0)] h269 fun x274 h275 r276 w277 => chkS [] r276 w277 (subS EE 3 x3 (.fv (.int .i64 1)) fun x278 => isoS [] false false ih 35 [x258, x268, x274, x278] h275 fun x279 h280 r281 w282 => S35_413 r281 w282 x279 h280 r276 w277 r273 r270 w271 r267 r264 r260 w261 r257 r254 x5 ih x13))
noncomputable def S35_415 (h259 : Hp) (x265 : IV) (r260 : List Ref) (w261 : List Ref) (r257 : List Ref) (r254 : List Ref) (ih : Handler) (x9 : IV) (r264 : List Ref) (x3 : IV) (x258 : IV) (x5 : IV) (x13 : IV) : Option (IV × Hp) :=
  loadA 3 x265 h259 fun x266 r267 => chkS [(r260, w261), (r257, []), (r254, [])] r267 [] (isoS [] false false ih 25 [x266, .fv (.int .i64 1), .fv (.int .i64 0)] h259 fun x268 h269 r270 w271 => chkS [] r270 w271 (loadA 3 x9 h269 fun x272 r273 => S35_414 r273 r270 w271 r267 r264 r260 w261 r257 r254 ih h269 x272 x3 x258 x268 x5 x13))
noncomputable def S35_416 (r260 : List Ref) (w261 : List Ref) (x5 : IV) (h259 : Hp) (r257 : List Ref) (r254 : List Ref) (ih : Handler) (x9 : IV) (x3 : IV) (x258 : IV) (x13 : IV) : Option (IV × Hp) :=
  chkS [] r260 w261 (faddrS 2 x5 fun x262 => load1 x262 h259 fun x263 r264 => chkS [(r260, w261), (r257, []), (r254, [])] r264 [] (ixS 3 x263 (.fv (.int .i64 1)) fun x265 => S35_415 h259 x265 r260 w261 r257 r254 ih x9 r264 x3 x258 x5 x13))
noncomputable def S35_417 (r254 : List Ref) (x253 : IV) (h117 : Hp) (ih : Handler) (x0 : IV) (x5 : IV) (x9 : IV) (x3 : IV) (x13 : IV) : Option (IV × Hp) :=
  chkS [] r254 [] (ixS 3 x253 (.fv (.int .i64 0)) fun x255 => loadA 3 x255 h117 fun x256 r257 => chkS [] r257 [] (isoS [] false false ih 22 [x0, .fv (.int .i64 0), x256] h117 fun x258 h259 r260 w261 => S35_416 r260 w261 x5 h259 r257 r254 ih x9 x3 x258 x13))
noncomputable def S35_418 (h383 : Hp) (x13 : IV) (x382 : IV) : Option (IV × Hp) :=
  cellS true 3 x13 h383 fun x386 => outS1 [x386, x382] h383
noncomputable def S35_419 (h362 : Hp) (x365 : IV) (x367 : IV) (ih : Handler) (x331 : IV) (x357 : IV) (x13 : IV) : Option (IV × Hp) :=
  genS (pcBuildSlice EE 29 2 [(0, x365), (1, x367)]) 36722690 h362 fun x369 h370 _ _ => isoS [] false false ih 24 [.fv (.int .i64 22), x369] h370 fun x373 h374 _ _ => guardS x331 true h374 (fun k377 => k377 x357 h374 [] []) fun x378 h379 _ _ => pickS x331 x378 (.fv (.bool false)) fun x382 => storeA 3 x13 x373 h379 fun h383 _ _ => S35_418 h383 x13 x382
noncomputable def S35_420 (r360 : List Ref) (w361 : List Ref) (r354 : List Ref) (w355 : List Ref) (r349 : List Ref) (w350 : List Ref) (r346 : List Ref) (r344 : List Ref) (r341 : List Ref) (h359 : Hp) (x358 : IV) (x356 : IV) (x332 : IV) (ih : Handler) (x331 : IV) (x357 : IV) (x13 : IV) : Option (IV × Hp) :=
  chkS [(r354, w355), (r349, w350), (r346, []), (r344, []), (r341, [])] r360 w361 (storeA 3 x358 x356 h359 fun h362 r363 w364 => chkS [] r363 w364 (loadA 3 x332 h362 fun x365 _ => loadA 3 x358 h362 fun x367 _ => S35_419 h362 x365 x367 ih x331 x357 x13))
noncomputable def S35_421 (ih : Handler) (h348 : Hp) (x0 : IV) (x343 : IV) (x347 : IV) (x351 : IV) (r349 : List Ref) (w350 : List Ref) (r346 : List Ref) (r344 : List Ref) (r341 : List Ref) (x332 : IV) (x331 : IV) (x13 : IV) : Option (IV × Hp) :=
  isoS [] false false ih 35 [x0, x343, x347, x351] h348 fun x352 h353 r354 w355 => chkS [] r354 w355 (extS 0 x352 fun x356 => extS 1 x352 fun x357 => newS 36721677 (.row [.fv (.int .i64 0), .fv (.int .i64 0), .nils] false) (.ptr (.own 36721677) 0) h353 fun x358 h359 r360 w361 => S35_420 r360 w361 r354 w355 r349 w350 r346 r344 r341 h359 x358 x356 x332 ih x331 x357 x13)
noncomputable def S35_422 (h336 : Hp) (x9 : IV) (r344 : List Ref) (r341 : List Ref) (ih : Handler) (x3 : IV) (x0 : IV) (x343 : IV) (x332 : IV) (x331 : IV) (x13 : IV) : Option (IV × Hp) :=
  loadA 3 x9 h336 fun x345 r346 => chkS [(r344, []), (r341, [])] r346 [] (isoS [] false false ih 46 [x345, .fv (.int .i64 1)] h336 fun x347 h348 r349 w350 => chkS [(r344, []), (r341, [])] r349 w350 (subS EE 3 x3 (.fv (.int .i64 1)) fun x351 => S35_421 ih h348 x0 x343 x347 x351 r349 w350 r346 r344 r341 x332 x331 x13))
noncomputable def S35_423 (h336 : Hp) (x339 : IV) (x9 : IV) (ih : Handler) (x3 : IV) (x0 : IV) (x332 : IV) (x331 : IV) (x13 : IV) : Option (IV × Hp) :=
  load1 x339 h336 fun x340 r341 => chkS [] r341 [] (ixS 3 x340 (.fv (.int .i64 1)) fun x342 => loadA 3 x342 h336 fun x343 r344 => chkS [] r344 [] (S35_422 h336 x9 r344 r341 ih x3 x0 x343 x332 x331 x13))
noncomputable def S35_424 (h327 : Hp) (r328 : List Ref) (w329 : List Ref) (r323 : List Ref) (w324 : List Ref) (r320 : List Ref) (r318 : List Ref) (r315 : List Ref) (x330 : IV) (x5 : IV) (x9 : IV) (ih : Handler) (x3 : IV) (x0 : IV) (x331 : IV) (x13 : IV) : Option (IV × Hp) :=
  newS 36720653 (.row [.fv (.int .i64 0), .fv (.int .i64 0), .nils] false) (.ptr (.own 36720653) 0) h327 fun x332 h333 r334 w335 => chkS [(r328, w329), (r323, w324), (r320, []), (r318, []), (r315, [])] r334 w335 (storeA 3 x332 x330 h333 fun h336 r337 w338 => chkS [] r337 w338 (faddrS 2 x5 fun x339 => S35_423 h336 x339 x9 ih x3 x0 x332 x331 x13))
noncomputable def S35_425 (x3 : IV) (ih : Handler) (h322 : Hp) (x0 : IV) (x317 : IV) (x321 : IV) (r323 : List Ref) (w324 : List Ref) (r320 : List Ref) (r318 : List Ref) (r315 : List Ref) (x5 : IV) (x9 : IV) (x13 : IV) : Option (IV × Hp) :=
  subS EE 3 x3 (.fv (.int .i64 1)) fun x325 => isoS [] false false ih 35 [x0, x317, x321, x325] h322 fun x326 h327 r328 w329 => chkS [] r328 w329 (extS 0 x326 fun x330 => extS 1 x326 fun x331 => S35_424 h327 r328 w329 r323 w324 r320 r318 r315 x330 x5 x9 ih x3 x0 x331 x13)
noncomputable def S35_426 (r318 : List Ref) (h117 : Hp) (x9 : IV) (r315 : List Ref) (ih : Handler) (x3 : IV) (x0 : IV) (x317 : IV) (x5 : IV) (x13 : IV) : Option (IV × Hp) :=
  chkS [] r318 [] (loadA 3 x9 h117 fun x319 r320 => chkS [(r318, []), (r315, [])] r320 [] (isoS [] false false ih 46 [x319, .fv (.int .i64 0)] h117 fun x321 h322 r323 w324 => chkS [(r318, []), (r315, [])] r323 w324 (S35_425 x3 ih h322 x0 x317 x321 r323 w324 r320 r318 r315 x5 x9 x13)))
noncomputable def S35_427 (x5 : IV) (h117 : Hp) (x9 : IV) (ih : Handler) (x3 : IV) (x0 : IV) (x13 : IV) : Option (IV × Hp) :=
  faddrS 2 x5 fun x313 => load1 x313 h117 fun x314 r315 => chkS [] r315 [] (ixS 3 x314 (.fv (.int .i64 0)) fun x316 => loadA 3 x316 h117 fun x317 r318 => S35_426 r318 h117 x9 r315 ih x3 x0 x317 x5 x13)
noncomputable def S35_428 (h117 : Hp) (x45 : IV) (x13 : IV) (x44 : IV) : Option (IV × Hp) :=
  loadA 3 x45 h117 fun x387 _ => storeA 3 x13 x387 h117 fun h389 _ _ => cellS true 3 x13 h389 fun x392 => outS1 [x392, x44] h389
noncomputable def S35_429 (x251 : IV) (x5 : IV) (h117 : Hp) (ih : Handler) (x0 : IV) (x9 : IV) (x3 : IV) (x13 : IV) (x136 : IV) (x45 : IV) (x44 : IV) : Option (IV × Hp) :=
  condS x251 (faddrS 2 x5 fun x252 => load1 x252 h117 fun x253 r254 => S35_417 r254 x253 h117 ih x0 x5 x9 x3 x13) (eqS EE 3 x136 (.fv (.int .i64 17)) fun x312 => condS x312 (S35_427 x5 h117 x9 ih x3 x0 x13) (S35_428 h117 x45 x13 x44))
noncomputable def S35_430 (x5 : IV) (h117 : Hp) (x3 : IV) (x9 : IV) (ih : Handler) (x0 : IV) (x13 : IV) (x45 : IV) (x44 : IV) : Option (IV × Hp) :=
  faddrS 0 x5 fun x135 => load1 x135 h117 fun x136 _ => eqS EE 3 x136 (.fv (.int .i64 15)) fun x138 => condS x138 (gtS EE 3 x3 (.fv (.int .i64 0)) fun x139 => S35_408 h117 x139 x9 ih x5 x3 x0 x13) (eqS EE 3 x136 (.fv (.int .i64 16)) fun x251 => S35_429 x251 x5 h117 ih x0 x9 x3 x13 x136 x45 x44)
noncomputable def S35_431 (h99 : Hp) (x95 : IV) (x98 : IV) (ih : Handler) (x5 : IV) (x9 : IV) (x0 : IV) (x3 : IV) (x13 : IV) (x45 : IV) (x44 : IV) : Option (IV × Hp) :=
  guardS x95 true h99 (fun k102 => load1 x98 h99 fun x103 r104 => k102 x103 h99 r104 []) fun x105 h106 _ _ => guardS x95 true h106 (fun k109 => isoS [] false false ih 43 [x105, .fv (.int .i64 3)] h106 k109) fun x110 h111 _ _ => guardS x95 true h111 (fun k114 => eqS EE 3 x110 (.fv (.int .i64 1)) fun x115 => k114 x115 h111 [] []) fun x116 h117 _ _ => pickS x95 x116 (.fv (.bool false)) fun x120 => condS x120 (S35_396 h117 x5 x9 ih x0 x3 x13) (S35_430 x5 h117 x3 x9 ih x0 x13 x45 x44)
noncomputable def S35_432 (x88 : IV) (h85 : Hp) (x45 : IV) (x13 : IV) (x44 : IV) (x3 : IV) (x9 : IV) (ih : Handler) (x5 : IV) (x0 : IV) : Option (IV × Hp) :=
  condS x88 (loadA 3 x45 h85 fun x89 _ => storeA 3 x13 x89 h85 fun h91 _ _ => S35_394 h91 x13 x44) (gtS EE 3 x3 (.fv (.int .i64 0)) fun x95 => guardS x95 true h85 (fun k96 => faddrS 0 x9 fun x97 => k96 x97 h85 [] []) fun x98 h99 _ _ => S35_431 h99 x95 x98 ih x5 x9 x0 x3 x13 x45 x44)
noncomputable def S35_433 (h67 : Hp) (x44 : IV) (x66 : IV) (x3 : IV) (x45 : IV) (x13 : IV) (x9 : IV) (ih : Handler) (x5 : IV) (x0 : IV) : Option (IV × Hp) :=
  guardS x44 true h67 (fun k70 => eqS EE 3 x66 (.fv (.int .i64 0)) fun x71 => k70 x71 h67 [] []) fun x72 h73 _ _ => pickS x44 x72 (.fv (.bool false)) fun x76 => guardS x76 false h73 (fun k77 => k77 x3 h73 [] []) fun x78 h79 _ _ => guardS x76 false h79 (fun k82 => ltS EE 3 x78 (.fv (.int .i64 (-4))) fun x83 => k82 x83 h79 [] []) fun x84 h85 _ _ => pickS x76 (.fv (.bool true)) x84 fun x88 => S35_432 x88 h85 x45 x13 x44 x3 x9 ih x5 x0
noncomputable def S35_434 (h40 : Hp) (x43 : IV) (x44 : IV) (x9 : IV) (ih : Handler) (x3 : IV) (x13 : IV) (x5 : IV) (x0 : IV) : Option (IV × Hp) :=
  newS 36704264 (.row [.fv (.int .i64 0), .fv (.int .i64 0), .nils] false) (.ptr (.own 36704264) 0) h40 fun x45 h46 _ _ => storeA 3 x45 x43 h46 fun h49 _ _ => guardS x44 true h49 (fun k52 => faddrS 0 x9 fun x53 => k52 x53 h49 [] []) fun x54 h55 _ _ => guardS x44 true h55 (fun k58 => load1 x54 h55 fun x59 r60 => k58 x59 h55 r60 []) fun x61 h62 _ _ => guardS x44 true h62 (fun k65 => isoS [] false false ih 43 [x61, .fv (.int .i64 3)] h62 k65) fun x66 h67 _ _ => S35_433 h67 x44 x66 x3 x45 x13 x9 ih x5 x0
noncomputable def S35_435 (x9 : IV) (h25 : Hp) (ih : Handler) (x0 : IV) (x34 : IV) (x3 : IV) (x13 : IV) (x5 : IV) : Option (IV × Hp) :=
  faddrS 1 x9 fun x36 => load1 x36 h25 fun x37 _ => isoS [] false false ih 47 [x0, .fv (.int .i64 0), x34, x37] h25 fun x39 h40 _ _ => extS 0 x39 fun x43 => extS 1 x39 fun x44 => S35_434 h40 x43 x44 x9 ih x3 x13 x5 x0
noncomputable def S35_436 (x19 : IV) (h20 : Hp) (x5 : IV) (x23 : IV) (x13 : IV) (x9 : IV) (ih : Handler) (x0 : IV) (x3 : IV) : Option (IV × Hp) :=
  extS 1 x19 fun x24 => storeA 3 x5 x23 h20 fun h25 _ _ => neS EE 3 x24 (.fv (.int .i64 0)) fun x28 => condS x28 (bldS [.fv (.int .i64 0), .fv (.int .i64 0), .nils] [] fun x29 => S35_393 h25 x13 x29) (loadA 3 x5 h25 fun x34 _ => S35_435 x9 h25 ih x0 x34 x3 x13 x5)
noncomputable def S35 (ih : Handler) (n : Nat) (x0 : IV) (x1 : IV) (x2 : IV) (x3 : IV) (h4 : Hp) : Option (IV × Hp) :=
  boxS 36700160 x1 h4 fun x5 h6 _ _ => boxS 36700161 x2 h6 fun x9 h10 _ _ => newS 36700162 (.row [.fv (.int .i64 0), .fv (.int .i64 0), .nils] false) (.ptr (.own 36700162) 0) h10 fun x13 h14 _ _ => loadA 3 x5 h14 fun x17 _ => isoS [] false false ih 17 [x17] h14 fun x19 h20 _ _ => extS 0 x19 fun x23 => S35_436 x19 h20 x5 x23 x13 x9 ih x0 x3
theorem S35_ok (ih : Handler) (n : Nat) (x0 : IV) (x1 : IV) (x2 : IV) (x3 : IV) (h4 : Hp) : funS EE ih ft.get n 35 [x0, x1, x2, x3] h4 = S35 ih n x0 x1 x2 x3 h4 := by kernel_rfl
/-! Function 36. -/
noncomputable def S36 (ih : Handler) (n : Nat) (x0 : IV) (h1 : Hp) : Option (IV × Hp) :=
  newS 37748736 (.row [.fv (.int .i64 0), .fv (.int .i64 0), .nils] false) (.ptr (.own 37748736) 0) h1 fun x2 h3 _ _ => bldS [.fv (.int .i64 0), .fv (.int .i64 0), .nils] [(0, 1, .fv (.int .i64 25)), (1, 1, x0)] fun x6 => storeA 3 x2 x6 h3 fun h7 _ _ => cellS true 3 x2 h7 fun x10 => outS1 [x10] h7
theorem S36_ok (ih : Handler) (n : Nat) (x0 : IV) (h1 : Hp) : funS EE ih ft.get n 36 [x0] h1 = S36 ih n x0 h1 := by kernel_rfl
/-! Function 37. -/
noncomputable def S37_128 (x101 : IV) (q96 : List IV → Hp → Option (IV × Hp)) (h120 : Hp) (x99 : IV) (x100 : IV) : Option (IV × Hp) :=
  addS EE 3 x101 (.fv (.int .i64 1)) fun x124 => q96 [x99, x100, x124] h120
noncomputable def S37_129 (r118 : List Ref) (r112 : List Ref) (r109 : List Ref) (ih : Handler) (h98 : Hp) (x111 : IV) (x117 : IV) (x101 : IV) (q96 : List IV → Hp → Option (IV × Hp)) (x99 : IV) (x100 : IV) : Option (IV × Hp) :=
  chkS [(r112, []), (r109, [])] r118 [] (isoS [] false false ih 37 [x111, x117] h98 fun x119 h120 r121 w122 => chkS [] r121 w122 (optS (unR .not x119) fun x123 => condS x123 (outS1 [.fv (.bool false)] h120) (S37_128 x101 q96 h120 x99 x100)))
noncomputable def S37_130 (x100 : IV) (h98 : Hp) (r112 : List Ref) (r109 : List Ref) (x101 : IV) (ih : Handler) (x111 : IV) (q96 : List IV → Hp → Option (IV × Hp)) (x99 : IV) : Option (IV × Hp) :=
  faddrS 2 x100 fun x113 => load1 x113 h98 fun x114 r115 => chkS [(r112, []), (r109, [])] r115 [] (ixS 3 x114 x101 fun x116 => loadA 3 x116 h98 fun x117 r118 => S37_129 r118 r112 r109 ih h98 x111 x117 x101 q96 x99 x100)
noncomputable def S37_131 (h98 : Hp) (x107 : IV) (x101 : IV) (x100 : IV) (ih : Handler) (q96 : List IV → Hp → Option (IV × Hp)) (x99 : IV) : Option (IV × Hp) :=
  load1 x107 h98 fun x108 r109 => chkS [] r109 [] (ixS 3 x108 x101 fun x110 => loadA 3 x110 h98 fun x111 r112 => chkS [] r112 [] (S37_130 x100 h98 r112 r109 x101 ih x111 q96 x99))
noncomputable def S37_132 (x103 : IV) (x101 : IV) (x99 : IV) (h98 : Hp) (x100 : IV) (ih : Handler) (q96 : List IV → Hp → Option (IV × Hp)) : Option (IV × Hp) :=
  lenS x103 fun x105 => ltS EE 3 x101 x105 fun x106 => condS x106 (faddrS 2 x99 fun x107 => S37_131 h98 x107 x101 x100 ih q96 x99) (outS1 [.fv (.bool true)] h98)
noncomputable def S37_133 (l97 : List IV) (h98 : Hp) (ih : Handler) (q96 : List IV → Hp → Option (IV × Hp)) : Option (IV × Hp) :=
  uncS l97 fun x99 l125 => uncS l125 fun x100 l126 => uncS l126 fun x101 _ => faddrS 2 x99 fun x102 => load1 x102 h98 fun x103 _ => S37_132 x103 x101 x99 h98 x100 ih q96
noncomputable def S37_134 (x95 : IV) (h92 : Hp) (n : Nat) (x3 : IV) (x7 : IV) (ih : Handler) : Option (IV × Hp) :=
  condS x95 (outS1 [.fv (.bool false)] h92) (loopS n (fun q96 l97 h98 => S37_133 l97 h98 ih q96) [x3, x7, .fv (.int .i64 0)] h92)
noncomputable def S37_135 (h67 : Hp) (x50 : IV) (x7 : IV) (x66 : IV) (n : Nat) (x3 : IV) (ih : Handler) : Option (IV × Hp) :=
  guardS x50 false h67 (fun k70 => faddrS 2 x7 fun x71 => k70 x71 h67 [] []) fun x72 h73 _ _ => guardS x50 false h73 (fun k76 => load1 x72 h73 fun x77 r78 => k76 x77 h73 r78 []) fun x79 h80 _ _ => guardS x50 false h80 (fun k83 => lenS x79 fun x84 => k83 x84 h80 [] []) fun x85 h86 _ _ => guardS x50 false h86 (fun k89 => neS EE 3 x66 x85 fun x90 => k89 x90 h86 [] []) fun x91 h92 _ _ => pickS x50 (.fv (.bool true)) x91 fun x95 => S37_134 x95 h92 n x3 x7 ih
noncomputable def S37_136 (h41 : Hp) (x17 : IV) (x27 : IV) (x40 : IV) (x3 : IV) (x7 : IV) (n : Nat) (ih : Handler) : Option (IV × Hp) :=
  guardS x17 false h41 (fun k44 => neS EE 3 x27 x40 fun x45 => k44 x45 h41 [] []) fun x46 h47 _ _ => pickS x17 (.fv (.bool true)) x46 fun x50 => guardS x50 false h47 (fun k51 => faddrS 2 x3 fun x52 => k51 x52 h47 [] []) fun x53 h54 _ _ => guardS x50 false h54 (fun k57 => load1 x53 h54 fun x58 r59 => k57 x58 h54 r59 []) fun x60 h61 _ _ => guardS x50 false h61 (fun k64 => lenS x60 fun x65 => k64 x65 h61 [] []) fun x66 h67 _ _ => S37_135 h67 x50 x7 x66 n x3 ih
noncomputable def S37_137 (x12 : IV) (x15 : IV) (h8 : Hp) (x3 : IV) (x7 : IV) (n : Nat) (ih : Handler) : Option (IV × Hp) :=
  neS EE 3 x12 x15 fun x17 => guardS x17 false h8 (fun k18 => faddrS 1 x3 fun x19 => k18 x19 h8 [] []) fun x20 h21 _ _ => guardS x17 false h21 (fun k24 => load1 x20 h21 fun x25 r26 => k24 x25 h21 r26 []) fun x27 h28 _ _ => guardS x17 false h28 (fun k31 => faddrS 1 x7 fun x32 => k31 x32 h28 [] []) fun x33 h34 _ _ => guardS x17 false h34 (fun k37 => load1 x33 h34 fun x38 r39 => k37 x38 h34 r39 []) fun x40 h41 _ _ => S37_136 h41 x17 x27 x40 x3 x7 n ih
noncomputable def S37 (ih : Handler) (n : Nat) (x0 : IV) (x1 : IV) (h2 : Hp) : Option (IV × Hp) :=
  boxS 38797312 x0 h2 fun x3 h4 _ _ => boxS 38797313 x1 h4 fun x7 h8 _ _ => faddrS 0 x3 fun x11 => load1 x11 h8 fun x12 _ => faddrS 0 x7 fun x14 => load1 x14 h8 fun x15 _ => S37_137 x12 x15 h8 x3 x7 n ih
theorem S37_ok (ih : Handler) (n : Nat) (x0 : IV) (x1 : IV) (h2 : Hp) : funS EE ih ft.get n 37 [x0, x1] h2 = S37 ih n x0 x1 h2 := by kernel_rfl
end Idl
end Go.Proofs.Ytaifgaidaglblaa

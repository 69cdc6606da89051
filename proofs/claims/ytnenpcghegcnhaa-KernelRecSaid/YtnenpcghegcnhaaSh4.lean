/-
  THE SHALLOW FORM OF THE SEAT'S FUNCTIONS, a part; each is what its code's shallow run is. Printed by a program of mine (gen-sh). No statement is proved here.
-/
import Derived.Test.YtnenpcghegcnhaaTab
import Derived.Test.YtnenpcghegcnhaaIdl31
set_option maxRecDepth 100000
set_option linter.unusedVariables false
namespace Go.Proofs.Ytnenpcghegcnhaa
namespace Idl
/-! Function 29. -/
noncomputable def S29_56 (h20 : Hp) (x8 : IV) (x23 : IV) (x24 : IV) : Option (IV × Hp) :=
  storeA 3 x8 x23 h20 fun h25 _ _ => cellS true 3 x8 h25 fun x28 => outS1 [x28, x24] h25
noncomputable def S29_57 (x4 : IV) (h9 : Hp) (ih : Handler) (x0 : IV) (x1 : IV) (x8 : IV) : Option (IV × Hp) :=
  faddrS 1 x4 fun x16 => load1 x16 h9 fun x17 _ => isoS [] false false ih 37 [x0, x1, x17] h9 fun x19 h20 _ _ => extS 0 x19 fun x23 => extS 1 x19 fun x24 => S29_56 h20 x8 x23 x24
noncomputable def S29_58 (h36 : Hp) (x8 : IV) : Option (IV × Hp) :=
  cellS true 3 x8 h36 fun x39 => outS1 [x39, .fv (.int .i64 10)] h36
noncomputable def S29_59 (h51 : Hp) (x8 : IV) (x50 : IV) : Option (IV × Hp) :=
  cellS true 3 x8 h51 fun x54 => outS1 [x54, x50] h51
noncomputable def S29_60 (h42 : Hp) (x4 : IV) (ih : Handler) (x41 : IV) (x0 : IV) (x8 : IV) : Option (IV × Hp) :=
  loadA 3 x4 h42 fun x43 _ => dynS EE ih x41 [x0, x43] h42 fun x45 h46 _ _ => extS 0 x45 fun x49 => extS 1 x45 fun x50 => storeA 3 x8 x49 h46 fun h51 _ _ => S29_59 h51 x8 x50
noncomputable def S29_61 (x55 : IV) (j1_40 : IV → Hp → Option (IV × Hp)) (h9 : Hp) : Option (IV × Hp) :=
  condS x55 (j1_40 (.fv (.func (.func 39) [] [])) h9) (j1_40 (.fv (.func (.func 38) [] [])) h9)
noncomputable def S29_62 (x34 : IV) (h9 : Hp) (x8 : IV) (x4 : IV) (ih : Handler) (x0 : IV) (x1 : IV) : Option (IV × Hp) :=
  condS x34 (bldS [.fv (.int .i64 0), .fv (.int .i64 0), .nils] [] fun x35 => storeA 3 x8 x35 h9 fun h36 _ _ => S29_58 h36 x8) ((fun (j1_40 : IV → Hp → Option (IV × Hp)) => eqS EE 3 x1 (.fv (.int .i64 1)) fun x55 => S29_61 x55 j1_40 h9) fun x41 h42 => S29_60 h42 x4 ih x41 x0 x8)
noncomputable def S29_63 (x4 : IV) (h9 : Hp) (x1 : IV) (x8 : IV) (ih : Handler) (x0 : IV) : Option (IV × Hp) :=
  faddrS 0 x4 fun x29 => load1 x29 h9 fun x30 _ => leS EE 3 x30 (.fv (.int .i64 19)) fun x32 => eqS EE 3 x1 (.fv (.int .i64 1)) fun x33 => neS EE 4 x32 x33 fun x34 => S29_62 x34 h9 x8 x4 ih x0 x1
noncomputable def S29 (ih : Handler) (n : Nat) (x0 : IV) (x1 : IV) (x2 : IV) (h3 : Hp) : Option (IV × Hp) :=
  boxS 30408704 x2 h3 fun x4 h5 _ _ => newS 30408705 (.row [.fv (.int .i64 0), .fv (.int .i64 0), .nils] false) (.ptr (.own 30408705) 0) h5 fun x8 h9 _ _ => faddrS 0 x4 fun x12 => load1 x12 h9 fun x13 _ => eqS EE 3 x13 (.fv (.int .i64 1)) fun x15 => condS x15 (S29_57 x4 h9 ih x0 x1 x8) (S29_63 x4 h9 x1 x8 ih x0)
theorem S29_ok (ih : Handler) (n : Nat) (x0 : IV) (x1 : IV) (x2 : IV) (h3 : Hp) : funS EE ih ft.get n 29 [x0, x1, x2] h3 = S29 ih n x0 x1 x2 h3 := by kernel_rfl
/-! Function 30. -/
noncomputable def S30_37 (x24 : IV) (x32 : IV) (j1_21 : IV → Hp → Option (IV × Hp)) (h33 : Hp) (x20 : IV) : Option (IV × Hp) :=
  pickS x24 x32 (.fv (.bool false)) fun x36 => condS x36 (j1_21 (.fv (.int .i64 11)) h33) (j1_21 x20 h33)
noncomputable def S30_38 (x15 : IV) (h16 : Hp) (x19 : IV) : Option (IV × Hp) :=
  extS 1 x15 fun x20 => (fun (j1_21 : IV → Hp → Option (IV × Hp)) => eqS EE 39 x20 (.fv (.int .i64 0)) fun x24 => guardS x24 true h16 (fun k25 => k25 x19 h16 [] []) fun x26 h27 _ _ => guardS x24 true h27 (fun k30 => optS (unR .not x26) fun x31 => k30 x31 h27 [] []) fun x32 h33 _ _ => S30_37 x24 x32 j1_21 h33 x20) fun x22 h23 => outS1 [x22] h23
noncomputable def S30 (ih : Handler) (n : Nat) (x0 : IV) (x1 : IV) (h2 : Hp) : Option (IV × Hp) :=
  boxS 31457280 x0 h2 fun x3 h4 _ _ => boxS 31457281 x1 h4 fun x7 h8 _ _ => loadA 3 x3 h8 fun x11 _ => loadA 3 x7 h8 fun x13 _ => isoS [] false false ih 40 [x11, x13] h8 fun x15 h16 _ _ => extS 0 x15 fun x19 => S30_38 x15 h16 x19
theorem S30_ok (ih : Handler) (n : Nat) (x0 : IV) (x1 : IV) (h2 : Hp) : funS EE ih ft.get n 30 [x0, x1] h2 = S30 ih n x0 x1 h2 := by kernel_rfl
/-! Function 31. -/
noncomputable def S31_8 (x0 : IV) (h1 : Hp) : Option (IV × Hp) :=
  eqS EE 39 x0 (.fv (.int .i64 4)) fun x6 => condS x6 (outS1 [.fv (.str ⟨#[108, 111, 110, 103]⟩)] h1) (eqS EE 39 x0 (.fv (.int .i64 5)) fun x7 => condS x7 (outS1 [.fv (.str ⟨#[100, 101, 101, 112]⟩)] h1) (outS1 [.fv (.str ⟨#[101, 114, 114, 111, 114]⟩)] h1))
noncomputable def S31_9 (x0 : IV) (h1 : Hp) : Option (IV × Hp) :=
  eqS EE 39 x0 (.fv (.int .i64 2)) fun x4 => condS x4 (outS1 [.fv (.str ⟨#[99, 117, 116]⟩)] h1) (eqS EE 39 x0 (.fv (.int .i64 3)) fun x5 => condS x5 (outS1 [.fv (.str ⟨#[109, 111, 114, 101]⟩)] h1) (S31_8 x0 h1))
noncomputable def S31 (ih : Handler) (n : Nat) (x0 : IV) (h1 : Hp) : Option (IV × Hp) :=
  eqS EE 39 x0 (.fv (.int .i64 0)) fun x2 => condS x2 (outS1 [.fv (.str ⟨#[111, 107]⟩)] h1) (eqS EE 39 x0 (.fv (.int .i64 1)) fun x3 => condS x3 (outS1 [.fv (.str ⟨#[97, 114, 103]⟩)] h1) (S31_9 x0 h1))
theorem S31_ok (ih : Handler) (n : Nat) (x0 : IV) (h1 : Hp) : funS EE ih ft.get n 31 [x0] h1 = S31 ih n x0 h1 := by kernel_rfl
/-! Function 32. -/
noncomputable def S32_10 (x0 : IV) (h1 : Hp) : Option (IV × Hp) :=
  eqS EE 39 x0 (.fv (.int .i64 12)) fun x8 => condS x8 (outS1 [.fv (.str ⟨#[115, 104, 97, 112, 101]⟩)] h1) (eqS EE 39 x0 (.fv (.int .i64 13)) fun x9 => condS x9 (outS1 [.fv (.str ⟨#[108, 101, 118, 101, 108]⟩)] h1) (outS1 [.fv (.str ⟨#[101, 114, 114, 111, 114]⟩)] h1))
noncomputable def S32_11 (x0 : IV) (h1 : Hp) : Option (IV × Hp) :=
  eqS EE 39 x0 (.fv (.int .i64 10)) fun x6 => condS x6 (outS1 [.fv (.str ⟨#[115, 116, 97, 103, 101]⟩)] h1) (eqS EE 39 x0 (.fv (.int .i64 11)) fun x7 => condS x7 (outS1 [.fv (.str ⟨#[116, 121, 112, 101]⟩)] h1) (S32_10 x0 h1))
noncomputable def S32_12 (x0 : IV) (h1 : Hp) : Option (IV × Hp) :=
  eqS EE 39 x0 (.fv (.int .i64 8)) fun x4 => condS x4 (outS1 [.fv (.str ⟨#[110, 97, 109, 101]⟩)] h1) (eqS EE 39 x0 (.fv (.int .i64 9)) fun x5 => condS x5 (outS1 [.fv (.str ⟨#[116, 119, 105, 99, 101]⟩)] h1) (S32_11 x0 h1))
noncomputable def S32 (ih : Handler) (n : Nat) (x0 : IV) (h1 : Hp) : Option (IV × Hp) :=
  eqS EE 39 x0 (.fv (.int .i64 6)) fun x2 => condS x2 (outS1 [.fv (.str ⟨#[116, 111, 107, 101, 110]⟩)] h1) (eqS EE 39 x0 (.fv (.int .i64 7)) fun x3 => condS x3 (outS1 [.fv (.str ⟨#[102, 111, 114, 109]⟩)] h1) (S32_12 x0 h1))
theorem S32_ok (ih : Handler) (n : Nat) (x0 : IV) (h1 : Hp) : funS EE ih ft.get n 32 [x0] h1 = S32 ih n x0 h1 := by kernel_rfl
/-! Function 33. -/
noncomputable def S33_8 (x0 : IV) (h1 : Hp) : Option (IV × Hp) :=
  eqS EE 39 x0 (.fv (.int .i64 18)) fun x6 => condS x6 (outS1 [.fv (.str ⟨#[122, 101, 114, 111]⟩)] h1) (eqS EE 39 x0 (.fv (.int .i64 19)) fun x7 => condS x7 (outS1 [.fv (.str ⟨#[119, 111, 114, 100]⟩)] h1) (outS1 [.fv (.str ⟨#[101, 114, 114, 111, 114]⟩)] h1))
noncomputable def S33_9 (x0 : IV) (h1 : Hp) : Option (IV × Hp) :=
  eqS EE 39 x0 (.fv (.int .i64 16)) fun x4 => condS x4 (outS1 [.fv (.str ⟨#[108, 111, 111, 112]⟩)] h1) (eqS EE 39 x0 (.fv (.int .i64 17)) fun x5 => condS x5 (outS1 [.fv (.str ⟨#[102, 117, 101, 108]⟩)] h1) (S33_8 x0 h1))
noncomputable def S33 (ih : Handler) (n : Nat) (x0 : IV) (h1 : Hp) : Option (IV × Hp) :=
  eqS EE 39 x0 (.fv (.int .i64 14)) fun x2 => condS x2 (outS1 [.fv (.str ⟨#[115, 99, 111, 112, 101]⟩)] h1) (eqS EE 39 x0 (.fv (.int .i64 15)) fun x3 => condS x3 (outS1 [.fv (.str ⟨#[103, 117, 101, 115, 115]⟩)] h1) (S33_9 x0 h1))
theorem S33_ok (ih : Handler) (n : Nat) (x0 : IV) (h1 : Hp) : funS EE ih ft.get n 33 [x0] h1 = S33 ih n x0 h1 := by kernel_rfl
/-! Function 34. -/
noncomputable def S34_121 (x108 : IV) (h109 : Hp) (x93 : IV) (h3 : Hp) (x89 : IV) (x90 : IV) (x91 : IV) (x92 : IV) (q86 : List IV → Hp → Option (IV × Hp)) : Option (IV × Hp) :=
  neS EE 39 x108 (.fv (.int .i64 0)) fun x112 => condS x112 (outS1 [x108] h109) (addS EE 3 x93 (.fv (.int .i64 1)) fun x113 => dropS (h3.own.map (·.1)) [35659778] [x89, x90, x91, x92, x113] h109 fun h114 => q86 [x89, x90, x91, x92, x113] h114)
noncomputable def S34_122 (h88 : Hp) (x96 : IV) (x90 : IV) (ih : Handler) (x89 : IV) (x93 : IV) (h3 : Hp) (x91 : IV) (x92 : IV) (q86 : List IV → Hp → Option (IV × Hp)) : Option (IV × Hp) :=
  newS 35659778 (.row [.fv (.int .i64 0), .fv (.int .i64 0), .nils] false) (.ptr (.own 35659778) 0) h88 fun x98 h99 _ _ => storeA 3 x98 x96 h99 fun h102 _ _ => loadA 3 x98 h102 fun x105 _ => addS EE 3 x90 (.fv (.int .i64 1)) fun x107 => isoS [false, true, false] false false ih 34 [x105, x89, x107] h102 fun x108 h109 _ _ => S34_121 x108 h109 x93 h3 x89 x90 x91 x92 q86
noncomputable def S34_123 (x93 : IV) (x92 : IV) (x91 : IV) (h88 : Hp) (x90 : IV) (ih : Handler) (x89 : IV) (h3 : Hp) (q86 : List IV → Hp → Option (IV × Hp)) : Option (IV × Hp) :=
  ltS EE 3 x93 x92 fun x94 => condS x94 (ixS 3 x91 x93 fun x95 => loadA 3 x95 h88 fun x96 _ => S34_122 h88 x96 x90 ih x89 x93 h3 x91 x92 q86) (outS1 [.fv (.int .i64 0)] h88)
noncomputable def S34_124 (l87 : List IV) (h88 : Hp) (ih : Handler) (h3 : Hp) (q86 : List IV → Hp → Option (IV × Hp)) : Option (IV × Hp) :=
  uncS l87 fun x89 l115 => uncS l115 fun x90 l116 => uncS l116 fun x91 l117 => uncS l117 fun x92 l118 => uncS l118 fun x93 _ => S34_123 x93 x92 x91 h88 x90 ih x89 h3 q86
noncomputable def S34_125 (h78 : Hp) (x82 : IV) (h3 : Hp) (x1 : IV) (x2 : IV) (n : Nat) (ih : Handler) : Option (IV × Hp) :=
  load1 x82 h78 fun x83 _ => lenS x83 fun x85 => dropS (h3.own.map (·.1)) [35659778] [x1, x2, x83, x85, .fv (.int .i64 0)] h78 fun h120 => loopS n (fun q86 l87 h88 => S34_124 l87 h88 ih h3 q86) [x1, x2, x83, x85, .fv (.int .i64 0)] h120
noncomputable def S34_126 (r73 : List Ref) (w74 : List Ref) (h72 : Hp) (x43 : IV) (x71 : IV) (x4 : IV) (h3 : Hp) (x1 : IV) (x2 : IV) (n : Nat) (ih : Handler) : Option (IV × Hp) :=
  chkS [] r73 w74 (guardS x43 false h72 (fun k75 => optS (unR .not x71) fun x76 => k75 x76 h72 [] []) fun x77 h78 _ _ => pickS x43 (.fv (.bool true)) x77 fun x81 => condS x81 (outS1 [.fv (.int .i64 1)] h78) (faddrS 2 x4 fun x82 => S34_125 h78 x82 h3 x1 x2 n ih))
noncomputable def S34_127 (r55 : List Ref) (w56 : List Ref) (h54 : Hp) (x43 : IV) (x4 : IV) (ih : Handler) (x53 : IV) (h3 : Hp) (x1 : IV) (x2 : IV) (n : Nat) : Option (IV × Hp) :=
  chkS [] r55 w56 (guardS x43 false h54 (fun k57 => faddrS 1 x4 fun x58 => k57 x58 h54 [] []) fun x59 h60 _ _ => guardS x43 false h60 (fun k63 => load1 x59 h60 fun x64 r65 => k63 x64 h60 r65 []) fun x66 h67 r68 w69 => chkS [(r55, w56)] r68 w69 (guardS x43 false h67 (fun k70 => isoS [] false false ih 42 [x53, x66] h67 k70) fun x71 h72 r73 w74 => S34_126 r73 w74 h72 x43 x71 x4 h3 x1 x2 n ih))
noncomputable def S34_128 (r41 : List Ref) (r37 : List Ref) (w38 : List Ref) (r34 : List Ref) (x40 : IV) (x35 : IV) (h36 : Hp) (x4 : IV) (ih : Handler) (h3 : Hp) (x1 : IV) (x2 : IV) (n : Nat) : Option (IV × Hp) :=
  chkS [(r37, w38), (r34, [])] r41 [] (lenS x40 fun x42 => neS EE 3 x35 x42 fun x43 => guardS x43 false h36 (fun k44 => faddrS 0 x4 fun x45 => k44 x45 h36 [] []) fun x46 h47 _ _ => guardS x43 false h47 (fun k50 => load1 x46 h47 fun x51 r52 => k50 x51 h47 r52 []) fun x53 h54 r55 w56 => S34_127 r55 w56 h54 x43 x4 ih x53 h3 x1 x2 n)
noncomputable def S34_129 (r34 : List Ref) (ih : Handler) (h28 : Hp) (x33 : IV) (x4 : IV) (h3 : Hp) (x1 : IV) (x2 : IV) (n : Nat) : Option (IV × Hp) :=
  chkS [] r34 [] (isoS [] false false ih 41 [x33] h28 fun x35 h36 r37 w38 => chkS [] r37 w38 (faddrS 2 x4 fun x39 => load1 x39 h36 fun x40 r41 => S34_128 r41 r37 w38 r34 x40 x35 h36 x4 ih h3 x1 x2 n))
noncomputable def S34_130 (x19 : IV) (x27 : IV) (h28 : Hp) (x4 : IV) (ih : Handler) (h3 : Hp) (x1 : IV) (x2 : IV) (n : Nat) : Option (IV × Hp) :=
  pickS x19 (.fv (.bool true)) x27 fun x31 => condS x31 (outS1 [.fv (.int .i64 5)] h28) (faddrS 0 x4 fun x32 => load1 x32 h28 fun x33 r34 => S34_129 r34 ih h28 x33 x4 h3 x1 x2 n)
noncomputable def S34_131 (x1 : IV) (h13 : Hp) (x2 : IV) (x4 : IV) (ih : Handler) (h3 : Hp) (n : Nat) : Option (IV × Hp) :=
  nilS x1 fun x16 => load1 x16 h13 fun x17 _ => gtS EE 3 x17 (.fv (.int .i64 3000)) fun x19 => guardS x19 false h13 (fun k20 => k20 x2 h13 [] []) fun x21 h22 _ _ => guardS x19 false h22 (fun k25 => gtS EE 3 x21 (.fv (.int .i64 120)) fun x26 => k25 x26 h22 [] []) fun x27 h28 _ _ => S34_130 x19 x27 h28 x4 ih h3 x1 x2 n
noncomputable def S34 (ih : Handler) (n : Nat) (x0 : IV) (x1 : IV) (x2 : IV) (h3 : Hp) : Option (IV × Hp) :=
  boxS 35651584 x0 h3 fun x4 h5 _ _ => nilS x1 fun x8 => load1 x8 h5 fun x9 _ => addS EE 3 x9 (.fv (.int .i64 1)) fun x11 => nilS x1 fun x12 => store1 x12 x11 h5 fun h13 _ _ => S34_131 x1 h13 x2 x4 ih h3 n
theorem S34_ok (ih : Handler) (n : Nat) (x0 : IV) (x1 : IV) (x2 : IV) (h3 : Hp) : funS EE ih ft.get n 34 [x0, x1, x2] h3 = S34 ih n x0 x1 x2 h3 := by kernel_rfl
/-! Function 35. -/
noncomputable def S35_24 (ih : Handler) (h6 : Hp) (x8 : IV) (x13 : IV) (x10 : IV) (q4 : List IV → Hp → Option (IV × Hp)) (x7 : IV) (x9 : IV) : Option (IV × Hp) :=
  dynS EE ih x8 [x13] h6 fun x15 h16 _ _ => condS x15 (outS1 [x10] h16) (addS EE 3 x10 (.fv (.int .i64 1)) fun x19 => q4 [x7, x8, x9, x19] h16)
noncomputable def S35_25 (x11 : IV) (x7 : IV) (x10 : IV) (h6 : Hp) (ih : Handler) (x8 : IV) (q4 : List IV → Hp → Option (IV × Hp)) (x9 : IV) : Option (IV × Hp) :=
  condS x11 (ixS 4 x7 x10 fun x12 => loadA 4 x12 h6 fun x13 _ => S35_24 ih h6 x8 x13 x10 q4 x7 x9) (outS1 [.fv (.int .i64 (-1))] h6)
noncomputable def S35_26 (l5 : List IV) (h6 : Hp) (ih : Handler) (q4 : List IV → Hp → Option (IV × Hp)) : Option (IV × Hp) :=
  uncS l5 fun x7 l20 => uncS l20 fun x8 l21 => uncS l21 fun x9 l22 => uncS l22 fun x10 _ => ltS EE 3 x10 x9 fun x11 => S35_25 x11 x7 x10 h6 ih x8 q4 x9
noncomputable def S35 (ih : Handler) (n : Nat) (x0 : IV) (x1 : IV) (h2 : Hp) : Option (IV × Hp) :=
  lenS x0 fun x3 => loopS n (fun q4 l5 h6 => S35_26 l5 h6 ih q4) [x0, x1, x3, .fv (.int .i64 0)] h2
theorem S35_ok (ih : Handler) (n : Nat) (x0 : IV) (x1 : IV) (h2 : Hp) : funS EE ih ft.get n 35 [x0, x1] h2 = S35 ih n x0 x1 h2 := by kernel_rfl
/-! Function 36. -/
noncomputable def S36_77 (h13 : Hp) (x6 : IV) : Option (IV × Hp) :=
  bldS [.fv (.int .i64 0), .fv (.int .i64 0), .nils] [] fun x17 => storeA 3 x6 x17 h13 fun h18 _ _ => cellS true 3 x6 h18 fun x21 => outS1 [x21, .fv (.int .i64 1)] h18
noncomputable def S36_78 (r43 : List Ref) (w44 : List Ref) (r41 : List Ref) (h42 : Hp) (x6 : IV) (x40 : IV) : Option (IV × Hp) :=
  chkS [(r41, [])] r43 w44 (cellS true 3 x6 h42 fun x45 => outS1 [x45, x40] h42)
noncomputable def S36_79 (x22 : IV) (h29 : Hp) (x6 : IV) (x37 : IV) : Option (IV × Hp) :=
  nilS x22 fun x38 => faddrS 3 x38 fun x39 => load1 x39 h29 fun x40 r41 => chkS [] r41 [] (storeA 3 x6 x37 h29 fun h42 r43 w44 => S36_78 r43 w44 r41 h42 x6 x40)
noncomputable def S36_80 (h67 : Hp) (x6 : IV) (x65 : IV) : Option (IV × Hp) :=
  cellS true 3 x6 h67 fun x70 => outS1 [x70, x65] h67
noncomputable def S36_81 (x63 : IV) (h54 : Hp) (x6 : IV) (x62 : IV) : Option (IV × Hp) :=
  faddrS 3 x63 fun x64 => load1 x64 h54 fun x65 r66 => chkS [] r66 [] (storeA 3 x6 x62 h54 fun h67 r68 w69 => chkS [(r66, [])] r68 w69 (S36_80 h67 x6 x65))
noncomputable def S36_82 (h73 : Hp) (x6 : IV) : Option (IV × Hp) :=
  cellS true 3 x6 h73 fun x76 => outS1 [x76, .fv (.int .i64 0)] h73
noncomputable def S36_83 (x59 : IV) (x22 : IV) (h54 : Hp) (x6 : IV) (x50 : IV) : Option (IV × Hp) :=
  neS EE 39 x59 (.fv (.int .i64 0)) fun x61 => condS x61 (bldS [.fv (.int .i64 0), .fv (.int .i64 0), .nils] [] fun x62 => nilS x22 fun x63 => S36_81 x63 h54 x6 x62) (loadA 3 x50 h54 fun x71 _ => storeA 3 x6 x71 h54 fun h73 _ _ => S36_82 h73 x6)
noncomputable def S36_84 (h47 : Hp) (x46 : IV) (x22 : IV) (x6 : IV) : Option (IV × Hp) :=
  newS 37755907 (.row [.fv (.int .i64 0), .fv (.int .i64 0), .nils] false) (.ptr (.own 37755907) 0) h47 fun x50 h51 _ _ => storeA 3 x50 x46 h51 fun h54 _ _ => nilS x22 fun x57 => faddrS 3 x57 fun x58 => load1 x58 h54 fun x59 _ => S36_83 x59 x22 h54 x6 x50
noncomputable def S36_85 (h29 : Hp) (x33 : IV) (x22 : IV) (x6 : IV) (ih : Handler) (x28 : IV) : Option (IV × Hp) :=
  load1 x33 h29 fun x34 _ => neS EE 39 x34 (.fv (.int .i64 0)) fun x36 => condS x36 (bldS [.fv (.int .i64 0), .fv (.int .i64 0), .nils] [] fun x37 => S36_79 x22 h29 x6 x37) (isoS [true, false, false, false] false false ih 46 [x22, x28, .fv (.int .i64 0), .fv (.int .i64 1)] h29 fun x46 h47 _ _ => S36_84 h47 x46 x22 x6)
noncomputable def S36_86 (ih : Handler) (h13 : Hp) (x2 : IV) (x6 : IV) : Option (IV × Hp) :=
  inlS ih 44 [] h13 fun x22 h23 _ _ => loadA 3 x2 h23 fun x26 _ => isoS [true, false, false] false false ih 45 [x22, .fv .nilp, x26] h23 fun x28 h29 _ _ => nilS x22 fun x32 => faddrS 3 x32 fun x33 => S36_85 h29 x33 x22 x6 ih x28
noncomputable def S36 (ih : Handler) (n : Nat) (x0 : IV) (h1 : Hp) : Option (IV × Hp) :=
  boxS 37748736 x0 h1 fun x2 h3 _ _ => newS 37748737 (.row [.fv (.int .i64 0), .fv (.int .i64 0), .nils] false) (.ptr (.own 37748737) 0) h3 fun x6 h7 _ _ => loadA 3 x2 h7 fun x10 _ => isoS [] false false ih 43 [x10] h7 fun x12 h13 _ _ => optS (unR .not x12) fun x16 => condS x16 (S36_77 h13 x6) (S36_86 ih h13 x2 x6)
theorem S36_ok (ih : Handler) (n : Nat) (x0 : IV) (h1 : Hp) : funS EE ih ft.get n 36 [x0] h1 = S36 ih n x0 h1 := by kernel_rfl
/-! Function 37. -/
noncomputable def S37_55 (h5 : Hp) (x4 : IV) (x10 : IV) : Option (IV × Hp) :=
  storeA 3 x4 x10 h5 fun h11 _ _ => cellS true 3 x4 h11 fun x14 => outS1 [x14, .fv (.int .i64 8)] h11
noncomputable def S37_56 (h25 : Hp) (x4 : IV) : Option (IV × Hp) :=
  bldS [.fv (.int .i64 0), .fv (.int .i64 0), .nils] [] fun x32 => storeA 3 x4 x32 h25 fun h33 _ _ => cellS true 3 x4 h33 fun x36 => outS1 [x36, .fv (.int .i64 10)] h33
noncomputable def S37_57 (x45 : IV) (h46 : Hp) (x4 : IV) : Option (IV × Hp) :=
  extS 0 x45 fun x49 => extS 1 x45 fun x50 => storeA 3 x4 x49 h46 fun h51 _ _ => cellS true 3 x4 h51 fun x54 => outS1 [x54, x50] h51
noncomputable def S37_58 (x21 : IV) (h25 : Hp) (x2 : IV) (ih : Handler) (x4 : IV) : Option (IV × Hp) :=
  faddrS 1 x21 fun x37 => loadA 3 x37 h25 fun x38 _ => addS EE 3 x2 (.fv (.int .i64 1)) fun x40 => isoS [] false false ih 47 [x38, x40, .fv (.int .i64 0)] h25 fun x41 h42 _ _ => isoS [] false false ih 36 [x41] h42 fun x45 h46 _ _ => S37_57 x45 h46 x4
noncomputable def S37_59 (h22 : Hp) (x21 : IV) (x19 : IV) (x1 : IV) (x4 : IV) (x2 : IV) (ih : Handler) : Option (IV × Hp) :=
  storeA 4 x21 x19 h22 fun h25 _ _ => faddrS 0 x21 fun x28 => load1 x28 h25 fun x29 _ => neS EE 3 x29 x1 fun x31 => condS x31 (S37_56 h25 x4) (S37_58 x21 h25 x2 ih x4)
noncomputable def S37_60 (x15 : IV) (x2 : IV) (x0 : IV) (h5 : Hp) (x1 : IV) (x4 : IV) (ih : Handler) : Option (IV × Hp) :=
  subS EE 3 x15 (.fv (.int .i64 1)) fun x16 => subS EE 3 x16 x2 fun x17 => ixS 4 x0 x17 fun x18 => loadA 4 x18 h5 fun x19 _ => newS 38800392 (.row [.fv (.int .i64 0), .fv (.int .i64 0), .fv (.int .i64 0), .nils] false) (.ptr (.own 38800392) 0) h5 fun x21 h22 _ _ => S37_59 h22 x21 x19 x1 x4 x2 ih
noncomputable def S37 (ih : Handler) (n : Nat) (x0 : IV) (x1 : IV) (x2 : IV) (h3 : Hp) : Option (IV × Hp) :=
  newS 38797312 (.row [.fv (.int .i64 0), .fv (.int .i64 0), .nils] false) (.ptr (.own 38797312) 0) h3 fun x4 h5 _ _ => lenS x0 fun x8 => geS EE 3 x2 x8 fun x9 => condS x9 (bldS [.fv (.int .i64 0), .fv (.int .i64 0), .nils] [] fun x10 => S37_55 h5 x4 x10) (lenS x0 fun x15 => S37_60 x15 x2 x0 h5 x1 x4 ih)
theorem S37_ok (ih : Handler) (n : Nat) (x0 : IV) (x1 : IV) (x2 : IV) (h3 : Hp) : funS EE ih ft.get n 37 [x0, x1, x2] h3 = S37 ih n x0 x1 x2 h3 := by kernel_rfl
/-! Function 38. -/
noncomputable def S38_262 (h36 : Hp) (x7 : IV) (x39 : IV) (x40 : IV) : Option (IV × Hp) :=
  storeA 3 x7 x39 h36 fun h41 r42 w43 => chkS [] r42 w43 (cellS true 3 x7 h41 fun x44 => outS1 [x44, x40] h41)
noncomputable def S38_263 (r34 : List Ref) (r31 : List Ref) (ih : Handler) (h22 : Hp) (x0 : IV) (x30 : IV) (x33 : IV) (x7 : IV) : Option (IV × Hp) :=
  chkS [(r31, [])] r34 [] (isoS [] false false ih 49 [x0, x30, x33] h22 fun x35 h36 r37 w38 => chkS [] r37 w38 (extS 0 x35 fun x39 => extS 1 x35 fun x40 => S38_262 h36 x7 x39 x40))
noncomputable def S38_264 (x12 : IV) (h22 : Hp) (ih : Handler) (x0 : IV) (x7 : IV) : Option (IV × Hp) :=
  ixS 3 x12 (.fv (.int .i64 0)) fun x29 => loadA 3 x29 h22 fun x30 r31 => chkS [] r31 [] (ixS 3 x12 (.fv (.int .i64 1)) fun x32 => loadA 3 x32 h22 fun x33 r34 => S38_263 r34 r31 ih h22 x0 x30 x33 x7)
noncomputable def S38_265 (h64 : Hp) (x55 : IV) (ih : Handler) (x7 : IV) (x63 : IV) : Option (IV × Hp) :=
  loadA 3 x55 h64 fun x65 _ => isoS [] false false ih 52 [x65, .fv (.int .i64 1)] h64 fun x67 h68 _ _ => storeA 3 x7 x67 h68 fun h71 _ _ => cellS true 3 x7 h71 fun x74 => outS1 [x74, x63] h71
noncomputable def S38_266 (r83 : List Ref) (w84 : List Ref) (r78 : List Ref) (ih : Handler) (h82 : Hp) (x0 : IV) (x77 : IV) (x81 : IV) (j1_62 : IV → Hp → Option (IV × Hp)) : Option (IV × Hp) :=
  chkS [(r78, [])] r83 w84 (isoS [] false false ih 51 [x0, .fv (.int .i64 0), x77, x81] h82 fun x85 h86 r87 w88 => chkS [] r87 w88 (j1_62 x85 h86))
noncomputable def S38_267 (h59 : Hp) (x76 : IV) (x55 : IV) (ih : Handler) (x0 : IV) (j1_62 : IV → Hp → Option (IV × Hp)) : Option (IV × Hp) :=
  loadA 3 x76 h59 fun x77 r78 => chkS [] r78 [] (loadA 3 x55 h59 fun x79 r80 => chkS [(r78, [])] r80 [] (isoS [] false false ih 52 [x79, .fv (.int .i64 0)] h59 fun x81 h82 r83 w84 => S38_266 r83 w84 r78 ih h82 x0 x77 x81 j1_62))
noncomputable def S38_268 (x55 : IV) (ih : Handler) (x7 : IV) (x54 : IV) (x12 : IV) (h59 : Hp) (x0 : IV) : Option (IV × Hp) :=
  (fun (j1_62 : IV → Hp → Option (IV × Hp)) => eqS EE 39 x54 (.fv (.int .i64 0)) fun x75 => condS x75 (ixS 3 x12 (.fv (.int .i64 1)) fun x76 => S38_267 h59 x76 x55 ih x0 j1_62) (j1_62 x54 h59)) fun x63 h64 => S38_265 h64 x55 ih x7 x63
noncomputable def S38_269 (ih : Handler) (h22 : Hp) (x0 : IV) (x47 : IV) (x7 : IV) (x12 : IV) : Option (IV × Hp) :=
  isoS [] false false ih 50 [x0, .fv (.int .i64 0), x47, .fv (.int .i64 16)] h22 fun x49 h50 _ _ => extS 0 x49 fun x53 => extS 1 x49 fun x54 => newS 39853064 (.row [.fv (.int .i64 0), .fv (.int .i64 0), .nils] false) (.ptr (.own 39853064) 0) h50 fun x55 h56 _ _ => storeA 3 x55 x53 h56 fun h59 _ _ => S38_268 x55 ih x7 x54 x12 h59 x0
noncomputable def S38_270 (h97 : Hp) (x7 : IV) (x100 : IV) (x101 : IV) : Option (IV × Hp) :=
  storeA 3 x7 x100 h97 fun h102 r103 w104 => chkS [] r103 w104 (cellS true 3 x7 h102 fun x105 => outS1 [x105, x101] h102)
noncomputable def S38_271 (r95 : List Ref) (r92 : List Ref) (ih : Handler) (h22 : Hp) (x0 : IV) (x91 : IV) (x94 : IV) (x7 : IV) : Option (IV × Hp) :=
  chkS [(r92, [])] r95 [] (isoS [] false false ih 53 [x0, x91, x94] h22 fun x96 h97 r98 w99 => chkS [] r98 w99 (extS 0 x96 fun x100 => extS 1 x96 fun x101 => S38_270 h97 x7 x100 x101))
noncomputable def S38_272 (x12 : IV) (h22 : Hp) (ih : Handler) (x0 : IV) (x7 : IV) : Option (IV × Hp) :=
  ixS 3 x12 (.fv (.int .i64 0)) fun x90 => loadA 3 x90 h22 fun x91 r92 => chkS [] r92 [] (ixS 3 x12 (.fv (.int .i64 1)) fun x93 => loadA 3 x93 h22 fun x94 r95 => S38_271 r95 r92 ih h22 x0 x91 x94 x7)
noncomputable def S38_273 (h132 : Hp) (x7 : IV) (x131 : IV) (x117 : IV) : Option (IV × Hp) :=
  storeA 3 x7 x131 h132 fun h135 _ _ => cellS true 3 x7 h135 fun x138 => outS1 [x138, x117] h135
noncomputable def S38_274 (h122 : Hp) (x118 : IV) (x3 : IV) (ih : Handler) (x7 : IV) (x117 : IV) : Option (IV × Hp) :=
  loadA 3 x118 h122 fun x125 _ => faddrS 0 x3 fun x127 => load1 x127 h122 fun x128 _ => subS EE 3 x128 (.fv (.int .i64 23)) fun x130 => isoS [] false false ih 52 [x125, x130] h122 fun x131 h132 _ _ => S38_273 h132 x7 x131 x117
noncomputable def S38_275 (ih : Handler) (h108 : Hp) (x0 : IV) (x110 : IV) (x3 : IV) (x7 : IV) : Option (IV × Hp) :=
  isoS [] false false ih 50 [x0, .fv (.int .i64 0), x110, .fv (.int .i64 17)] h108 fun x112 h113 _ _ => extS 0 x112 fun x116 => extS 1 x112 fun x117 => newS 39861256 (.row [.fv (.int .i64 0), .fv (.int .i64 0), .nils] false) (.ptr (.own 39861256) 0) h113 fun x118 h119 _ _ => storeA 3 x118 x116 h119 fun h122 _ _ => S38_274 h122 x118 x3 ih x7 x117
noncomputable def S38_276 (r146 : List Ref) (w147 : List Ref) (r141 : List Ref) (h145 : Hp) (x7 : IV) (x140 : IV) (x144 : IV) : Option (IV × Hp) :=
  chkS [(r141, [])] r146 w147 (storeA 3 x7 x140 h145 fun h148 r149 w150 => chkS [] r149 w150 (cellS true 3 x7 h148 fun x151 => outS1 [x151, x144] h148))
noncomputable def S38_277 (h108 : Hp) (x18 : IV) (ih : Handler) (x0 : IV) (x12 : IV) (x7 : IV) : Option (IV × Hp) :=
  loadA 3 x18 h108 fun x140 r141 => chkS [] r141 [] (loadA 3 x18 h108 fun x142 r143 => chkS [(r141, [])] r143 [] (isoS [] false false ih 54 [x0, .fv (.int .i64 0), x142, x12] h108 fun x144 h145 r146 w147 => S38_276 r146 w147 r141 h145 x7 x140 x144))
noncomputable def S38_278 (x162 : IV) (h163 : Hp) (x7 : IV) (x166 : IV) : Option (IV × Hp) :=
  extS 1 x162 fun x167 => storeA 3 x7 x166 h163 fun h168 r169 w170 => chkS [] r169 w170 (cellS true 3 x7 h168 fun x171 => outS1 [x171, x167] h168)
noncomputable def S38_279 (h108 : Hp) (x159 : IV) (r158 : List Ref) (r155 : List Ref) (ih : Handler) (x0 : IV) (x154 : IV) (x157 : IV) (x7 : IV) : Option (IV × Hp) :=
  loadA 3 x159 h108 fun x160 r161 => chkS [(r158, []), (r155, [])] r161 [] (isoS [] false false ih 55 [x0, x154, x157, x160] h108 fun x162 h163 r164 w165 => chkS [] r164 w165 (extS 0 x162 fun x166 => S38_278 x162 h163 x7 x166))
noncomputable def S38_280 (r155 : List Ref) (x12 : IV) (h108 : Hp) (ih : Handler) (x0 : IV) (x154 : IV) (x7 : IV) : Option (IV × Hp) :=
  chkS [] r155 [] (ixS 3 x12 (.fv (.int .i64 1)) fun x156 => loadA 3 x156 h108 fun x157 r158 => chkS [(r155, [])] r158 [] (ixS 3 x12 (.fv (.int .i64 2)) fun x159 => S38_279 h108 x159 r158 r155 ih x0 x154 x157 x7))
noncomputable def S38_281 (h186 : Hp) (x7 : IV) (x190 : IV) (x181 : IV) : Option (IV × Hp) :=
  storeA 3 x7 x190 h186 fun h191 _ _ => cellS true 3 x7 h191 fun x194 => outS1 [x194, x181] h191
noncomputable def S38_282 (h206 : Hp) (x7 : IV) (x205 : IV) : Option (IV × Hp) :=
  cellS true 3 x7 h206 fun x209 => outS1 [x209, x205] h206
noncomputable def S38_283 (r202 : List Ref) (w203 : List Ref) (x200 : IV) (h201 : Hp) (x7 : IV) : Option (IV × Hp) :=
  chkS [] r202 w203 (extS 0 x200 fun x204 => extS 1 x200 fun x205 => storeA 3 x7 x204 h201 fun h206 r207 w208 => chkS [] r207 w208 (S38_282 h206 x7 x205))
noncomputable def S38_284 (r196 : List Ref) (x12 : IV) (h186 : Hp) (ih : Handler) (x0 : IV) (x195 : IV) (x7 : IV) : Option (IV × Hp) :=
  chkS [] r196 [] (ixS 3 x12 (.fv (.int .i64 1)) fun x197 => loadA 3 x197 h186 fun x198 r199 => chkS [(r196, [])] r199 [] (isoS [] false false ih 56 [x0, x195, x198] h186 fun x200 h201 r202 w203 => S38_283 r202 w203 x200 h201 x7))
noncomputable def S38_285 (h177 : Hp) (x180 : IV) (x181 : IV) (x7 : IV) (x12 : IV) (ih : Handler) (x0 : IV) : Option (IV × Hp) :=
  newS 39868424 (.row [.fv (.int .i64 0), .fv (.int .i64 0), .nils] false) (.ptr (.own 39868424) 0) h177 fun x182 h183 _ _ => storeA 3 x182 x180 h183 fun h186 _ _ => neS EE 39 x181 (.fv (.int .i64 0)) fun x189 => condS x189 (bldS [.fv (.int .i64 0), .fv (.int .i64 0), .nils] [] fun x190 => S38_281 h186 x7 x190 x181) (loadA 3 x182 h186 fun x195 r196 => S38_284 r196 x12 h186 ih x0 x195 x7)
noncomputable def S38_286 (x12 : IV) (h108 : Hp) (ih : Handler) (x0 : IV) (x7 : IV) : Option (IV × Hp) :=
  ixS 3 x12 (.fv (.int .i64 0)) fun x173 => loadA 3 x173 h108 fun x174 _ => isoS [] false false ih 29 [x0, .fv (.int .i64 0), x174] h108 fun x176 h177 _ _ => extS 0 x176 fun x180 => extS 1 x176 fun x181 => S38_285 h177 x180 x181 x7 x12 ih x0
noncomputable def S38_287 (h223 : Hp) (x7 : IV) (x222 : IV) : Option (IV × Hp) :=
  cellS true 3 x7 h223 fun x226 => outS1 [x226, x222] h223
noncomputable def S38_288 (r219 : List Ref) (w220 : List Ref) (x217 : IV) (h218 : Hp) (x7 : IV) : Option (IV × Hp) :=
  chkS [] r219 w220 (extS 0 x217 fun x221 => extS 1 x217 fun x222 => storeA 3 x7 x221 h218 fun h223 r224 w225 => chkS [] r224 w225 (S38_287 h223 x7 x222))
noncomputable def S38_289 (r213 : List Ref) (x12 : IV) (h108 : Hp) (ih : Handler) (x0 : IV) (x212 : IV) (x7 : IV) : Option (IV × Hp) :=
  chkS [] r213 [] (ixS 3 x12 (.fv (.int .i64 1)) fun x214 => loadA 3 x214 h108 fun x215 r216 => chkS [(r213, [])] r216 [] (isoS [] false false ih 57 [x0, x212, x215] h108 fun x217 h218 r219 w220 => S38_288 r219 w220 x217 h218 x7))
noncomputable def S38_290 (h250 : Hp) (x7 : IV) (x236 : IV) : Option (IV × Hp) :=
  cellS true 3 x7 h250 fun x253 => outS1 [x253, x236] h250
noncomputable def S38_291 (h232 : Hp) (x235 : IV) (ih : Handler) (x7 : IV) (x236 : IV) : Option (IV × Hp) :=
  newS 39875592 (.row [.fv (.int .i64 0), .fv (.int .i64 0), .nils] false) (.ptr (.own 39875592) 0) h232 fun x237 h238 _ _ => storeA 3 x237 x235 h238 fun h241 _ _ => loadA 3 x237 h241 fun x244 _ => isoS [] false false ih 52 [x244, .fv (.int .i64 0)] h241 fun x246 h247 _ _ => storeA 3 x7 x246 h247 fun h250 _ _ => S38_290 h250 x7 x236
noncomputable def S38_292 (x12 : IV) (h108 : Hp) (ih : Handler) (x0 : IV) (x7 : IV) : Option (IV × Hp) :=
  ixS 3 x12 (.fv (.int .i64 0)) fun x228 => loadA 3 x228 h108 fun x229 _ => isoS [] false false ih 50 [x0, .fv (.int .i64 1), x229, .fv (.int .i64 18)] h108 fun x231 h232 _ _ => extS 0 x231 fun x235 => extS 1 x231 fun x236 => S38_291 h232 x235 ih x7 x236
noncomputable def S38_293 (h108 : Hp) (x18 : IV) (x7 : IV) : Option (IV × Hp) :=
  loadA 3 x18 h108 fun x254 _ => storeA 3 x7 x254 h108 fun h256 _ _ => cellS true 3 x7 h256 fun x259 => outS1 [x259, .fv (.int .i64 0)] h256
noncomputable def S38_294 (x26 : IV) (x12 : IV) (h108 : Hp) (ih : Handler) (x0 : IV) (x7 : IV) (x18 : IV) : Option (IV × Hp) :=
  eqS EE 3 x26 (.fv (.int .i64 29)) fun x210 => condS x210 (ixS 3 x12 (.fv (.int .i64 0)) fun x211 => loadA 3 x211 h108 fun x212 r213 => S38_289 r213 x12 h108 ih x0 x212 x7) (eqS EE 3 x26 (.fv (.int .i64 30)) fun x227 => condS x227 (S38_292 x12 h108 ih x0 x7) (S38_293 h108 x18 x7))
noncomputable def S38_295 (x26 : IV) (x12 : IV) (h108 : Hp) (ih : Handler) (x0 : IV) (x7 : IV) (x18 : IV) : Option (IV × Hp) :=
  eqS EE 3 x26 (.fv (.int .i64 27)) fun x152 => condS x152 (ixS 3 x12 (.fv (.int .i64 0)) fun x153 => loadA 3 x153 h108 fun x154 r155 => S38_280 r155 x12 h108 ih x0 x154 x7) (eqS EE 3 x26 (.fv (.int .i64 28)) fun x172 => condS x172 (S38_286 x12 h108 ih x0 x7) (S38_294 x26 x12 h108 ih x0 x7 x18))
noncomputable def S38_296 (x107 : IV) (x12 : IV) (h108 : Hp) (ih : Handler) (x0 : IV) (x3 : IV) (x7 : IV) (x26 : IV) (x18 : IV) : Option (IV × Hp) :=
  condS x107 (ixS 3 x12 (.fv (.int .i64 0)) fun x109 => loadA 3 x109 h108 fun x110 _ => S38_275 ih h108 x0 x110 x3 x7) (eqS EE 3 x26 (.fv (.int .i64 26)) fun x139 => condS x139 (S38_277 h108 x18 ih x0 x12 x7) (S38_295 x26 x12 h108 ih x0 x7 x18))
noncomputable def S38_297 (x12 : IV) (ih : Handler) (x0 : IV) (x3 : IV) (x7 : IV) (x26 : IV) (x18 : IV) (h22 : Hp) : Option (IV × Hp) :=
  (fun (j1_106 : IV → Hp → Option (IV × Hp)) => eqS EE 3 x26 (.fv (.int .i64 23)) fun x260 => condS x260 (j1_106 x260 h22) (eqS EE 3 x26 (.fv (.int .i64 24)) fun x261 => j1_106 x261 h22)) fun x107 h108 => S38_296 x107 x12 h108 ih x0 x3 x7 x26 x18
noncomputable def S38_298 (x26 : IV) (x12 : IV) (h22 : Hp) (ih : Handler) (x0 : IV) (x7 : IV) (x3 : IV) (x18 : IV) : Option (IV × Hp) :=
  eqS EE 3 x26 (.fv (.int .i64 21)) fun x45 => condS x45 (ixS 3 x12 (.fv (.int .i64 0)) fun x46 => loadA 3 x46 h22 fun x47 _ => S38_269 ih h22 x0 x47 x7 x12) (eqS EE 3 x26 (.fv (.int .i64 22)) fun x89 => condS x89 (S38_272 x12 h22 ih x0 x7) (S38_297 x12 ih x0 x3 x7 x26 x18 h22))
noncomputable def S38_299 (h19 : Hp) (x18 : IV) (x14 : IV) (x3 : IV) (x12 : IV) (ih : Handler) (x0 : IV) (x7 : IV) : Option (IV × Hp) :=
  storeA 3 x18 x14 h19 fun h22 _ _ => faddrS 0 x3 fun x25 => load1 x25 h22 fun x26 _ => eqS EE 3 x26 (.fv (.int .i64 20)) fun x28 => condS x28 (S38_264 x12 h22 ih x0 x7) (S38_298 x26 x12 h22 ih x0 x7 x3 x18)
noncomputable def S38 (ih : Handler) (n : Nat) (x0 : IV) (x1 : IV) (h2 : Hp) : Option (IV × Hp) :=
  boxS 39845888 x1 h2 fun x3 h4 _ _ => newS 39845889 (.row [.fv (.int .i64 0), .fv (.int .i64 0), .nils] false) (.ptr (.own 39845889) 0) h4 fun x7 h8 _ _ => faddrS 2 x3 fun x11 => load1 x11 h8 fun x12 _ => isoS [] false false ih 48 [.fv (.int .i64 15), .nils] h8 fun x14 h15 _ _ => newS 39847937 (.row [.fv (.int .i64 0), .fv (.int .i64 0), .nils] false) (.ptr (.own 39847937) 0) h15 fun x18 h19 _ _ => S38_299 h19 x18 x14 x3 x12 ih x0 x7
theorem S38_ok (ih : Handler) (n : Nat) (x0 : IV) (x1 : IV) (h2 : Hp) : funS EE ih ft.get n 38 [x0, x1] h2 = S38 ih n x0 x1 h2 := by kernel_rfl
/-! Function 39. -/
noncomputable def S39_163 (h23 : Hp) (x7 : IV) : Option (IV × Hp) :=
  cellS true 3 x7 h23 fun x26 => outS1 [x26, .fv (.int .i64 13)] h23
noncomputable def S39_164 (x28 : IV) (h8 : Hp) (x7 : IV) : Option (IV × Hp) :=
  addS EE 3 x28 (.fv (.int .i64 1)) fun x30 => bldS [.fv (.int .i64 0), .fv (.int .i64 0), .nils] [(0, 1, .fv (.int .i64 2)), (1, 1, x30)] fun x31 => storeA 3 x7 x31 h8 fun h32 _ _ => cellS true 3 x7 h32 fun x35 => outS1 [x35, .fv (.int .i64 0)] h32
noncomputable def S39_165 (x19 : IV) (h8 : Hp) (x7 : IV) (x3 : IV) : Option (IV × Hp) :=
  geS EE 3 x19 (.fv (.int .i64 2)) fun x21 => condS x21 (bldS [.fv (.int .i64 0), .fv (.int .i64 0), .nils] [] fun x22 => storeA 3 x7 x22 h8 fun h23 _ _ => S39_163 h23 x7) (faddrS 1 x3 fun x27 => load1 x27 h8 fun x28 _ => S39_164 x28 h8 x7)
noncomputable def S39_166 (h51 : Hp) (x7 : IV) (x50 : IV) : Option (IV × Hp) :=
  cellS true 3 x7 h51 fun x54 => outS1 [x54, x50] h51
noncomputable def S39_167 (r47 : List Ref) (w48 : List Ref) (x45 : IV) (h46 : Hp) (x7 : IV) : Option (IV × Hp) :=
  chkS [] r47 w48 (extS 0 x45 fun x49 => extS 1 x45 fun x50 => storeA 3 x7 x49 h46 fun h51 r52 w53 => chkS [] r52 w53 (S39_166 h51 x7 x50))
noncomputable def S39_168 (r41 : List Ref) (x12 : IV) (h38 : Hp) (ih : Handler) (x0 : IV) (x40 : IV) (x7 : IV) : Option (IV × Hp) :=
  chkS [] r41 [] (ixS 3 x12 (.fv (.int .i64 1)) fun x42 => loadA 3 x42 h38 fun x43 r44 => chkS [(r41, [])] r44 [] (isoS [] false false ih 58 [x0, x40, x43] h38 fun x45 h46 r47 w48 => S39_167 r47 w48 x45 h46 x7))
noncomputable def S39_169 (h63 : Hp) (x7 : IV) (x66 : IV) (x67 : IV) : Option (IV × Hp) :=
  storeA 3 x7 x66 h63 fun h68 r69 w70 => chkS [] r69 w70 (cellS true 3 x7 h68 fun x71 => outS1 [x71, x67] h68)
noncomputable def S39_170 (r61 : List Ref) (r58 : List Ref) (ih : Handler) (h38 : Hp) (x0 : IV) (x57 : IV) (x60 : IV) (x7 : IV) : Option (IV × Hp) :=
  chkS [(r58, [])] r61 [] (isoS [] false false ih 59 [x0, x57, x60] h38 fun x62 h63 r64 w65 => chkS [] r64 w65 (extS 0 x62 fun x66 => extS 1 x62 fun x67 => S39_169 h63 x7 x66 x67))
noncomputable def S39_171 (x12 : IV) (h38 : Hp) (ih : Handler) (x0 : IV) (x7 : IV) : Option (IV × Hp) :=
  ixS 3 x12 (.fv (.int .i64 0)) fun x56 => loadA 3 x56 h38 fun x57 r58 => chkS [] r58 [] (ixS 3 x12 (.fv (.int .i64 1)) fun x59 => loadA 3 x59 h38 fun x60 r61 => S39_170 r61 r58 ih h38 x0 x57 x60 x7)
noncomputable def S39_172 (h85 : Hp) (x7 : IV) (x84 : IV) : Option (IV × Hp) :=
  cellS true 3 x7 h85 fun x88 => outS1 [x88, x84] h85
noncomputable def S39_173 (r81 : List Ref) (w82 : List Ref) (x79 : IV) (h80 : Hp) (x7 : IV) : Option (IV × Hp) :=
  chkS [] r81 w82 (extS 0 x79 fun x83 => extS 1 x79 fun x84 => storeA 3 x7 x83 h80 fun h85 r86 w87 => chkS [] r86 w87 (S39_172 h85 x7 x84))
noncomputable def S39_174 (r75 : List Ref) (x12 : IV) (h38 : Hp) (ih : Handler) (x0 : IV) (x74 : IV) (x7 : IV) : Option (IV × Hp) :=
  chkS [] r75 [] (ixS 3 x12 (.fv (.int .i64 1)) fun x76 => loadA 3 x76 h38 fun x77 r78 => chkS [(r75, [])] r78 [] (isoS [] false false ih 60 [x0, x74, x77] h38 fun x79 h80 r81 w82 => S39_173 r81 w82 x79 h80 x7))
noncomputable def S39_175 (h105 : Hp) (x7 : IV) (x104 : IV) : Option (IV × Hp) :=
  cellS true 3 x7 h105 fun x108 => outS1 [x108, x104] h105
noncomputable def S39_176 (r101 : List Ref) (w102 : List Ref) (x99 : IV) (h100 : Hp) (x7 : IV) : Option (IV × Hp) :=
  chkS [] r101 w102 (extS 0 x99 fun x103 => extS 1 x99 fun x104 => storeA 3 x7 x103 h100 fun h105 r106 w107 => chkS [] r106 w107 (S39_175 h105 x7 x104))
noncomputable def S39_177 (r95 : List Ref) (r92 : List Ref) (x12 : IV) (h38 : Hp) (ih : Handler) (x0 : IV) (x91 : IV) (x94 : IV) (x7 : IV) : Option (IV × Hp) :=
  chkS [(r92, [])] r95 [] (ixS 3 x12 (.fv (.int .i64 2)) fun x96 => loadA 3 x96 h38 fun x97 r98 => chkS [(r95, []), (r92, [])] r98 [] (isoS [] false false ih 61 [x0, x91, x94, x97] h38 fun x99 h100 r101 w102 => S39_176 r101 w102 x99 h100 x7))
noncomputable def S39_178 (x12 : IV) (h38 : Hp) (ih : Handler) (x0 : IV) (x7 : IV) : Option (IV × Hp) :=
  ixS 3 x12 (.fv (.int .i64 0)) fun x90 => loadA 3 x90 h38 fun x91 r92 => chkS [] r92 [] (ixS 3 x12 (.fv (.int .i64 1)) fun x93 => loadA 3 x93 h38 fun x94 r95 => S39_177 r95 r92 x12 h38 ih x0 x91 x94 x7)
noncomputable def S39_179 (x114 : IV) (h115 : Hp) (x7 : IV) : Option (IV × Hp) :=
  extS 0 x114 fun x118 => extS 1 x114 fun x119 => storeA 3 x7 x118 h115 fun h120 _ _ => cellS true 3 x7 h120 fun x123 => outS1 [x123, x119] h120
noncomputable def S39_180 (x137 : IV) (h138 : Hp) (x7 : IV) (x141 : IV) : Option (IV × Hp) :=
  extS 1 x137 fun x142 => storeA 3 x7 x141 h138 fun h143 r144 w145 => chkS [] r144 w145 (cellS true 3 x7 h143 fun x146 => outS1 [x146, x142] h143)
noncomputable def S39_181 (h111 : Hp) (x134 : IV) (r133 : List Ref) (r130 : List Ref) (r127 : List Ref) (ih : Handler) (x0 : IV) (x126 : IV) (x129 : IV) (x132 : IV) (x7 : IV) : Option (IV × Hp) :=
  loadA 3 x134 h111 fun x135 r136 => chkS [(r133, []), (r130, []), (r127, [])] r136 [] (isoS [] false false ih 63 [x0, x126, x129, x132, x135] h111 fun x137 h138 r139 w140 => chkS [] r139 w140 (extS 0 x137 fun x141 => S39_180 x137 h138 x7 x141))
noncomputable def S39_182 (r130 : List Ref) (r127 : List Ref) (x12 : IV) (h111 : Hp) (ih : Handler) (x0 : IV) (x126 : IV) (x129 : IV) (x7 : IV) : Option (IV × Hp) :=
  chkS [(r127, [])] r130 [] (ixS 3 x12 (.fv (.int .i64 2)) fun x131 => loadA 3 x131 h111 fun x132 r133 => chkS [(r130, []), (r127, [])] r133 [] (ixS 3 x12 (.fv (.int .i64 3)) fun x134 => S39_181 h111 x134 r133 r130 r127 ih x0 x126 x129 x132 x7))
noncomputable def S39_183 (x12 : IV) (h111 : Hp) (ih : Handler) (x0 : IV) (x7 : IV) : Option (IV × Hp) :=
  ixS 3 x12 (.fv (.int .i64 0)) fun x125 => loadA 3 x125 h111 fun x126 r127 => chkS [] r127 [] (ixS 3 x12 (.fv (.int .i64 1)) fun x128 => loadA 3 x128 h111 fun x129 r130 => S39_182 r130 r127 x12 h111 ih x0 x126 x129 x7)
noncomputable def S39_184 (h155 : Hp) (x7 : IV) (x154 : IV) : Option (IV × Hp) :=
  cellS true 3 x7 h155 fun x158 => outS1 [x158, x154] h155
noncomputable def S39_185 (h111 : Hp) (x3 : IV) (ih : Handler) (x0 : IV) (x7 : IV) : Option (IV × Hp) :=
  loadA 3 x3 h111 fun x147 _ => isoS [] false false ih 64 [x0, x147] h111 fun x149 h150 _ _ => extS 0 x149 fun x153 => extS 1 x149 fun x154 => storeA 3 x7 x153 h150 fun h155 _ _ => S39_184 h155 x7 x154
noncomputable def S39_186 (x110 : IV) (h111 : Hp) (x3 : IV) (ih : Handler) (x0 : IV) (x7 : IV) (x15 : IV) (x12 : IV) : Option (IV × Hp) :=
  condS x110 (loadA 3 x3 h111 fun x112 _ => isoS [] false false ih 62 [x0, x112] h111 fun x114 h115 _ _ => S39_179 x114 h115 x7) (eqS EE 3 x15 (.fv (.int .i64 13)) fun x124 => condS x124 (S39_183 x12 h111 ih x0 x7) (S39_185 h111 x3 ih x0 x7))
noncomputable def S39_187 (x3 : IV) (ih : Handler) (x0 : IV) (x7 : IV) (x15 : IV) (x12 : IV) (h38 : Hp) : Option (IV × Hp) :=
  (fun (j1_109 : IV → Hp → Option (IV × Hp)) => eqS EE 3 x15 (.fv (.int .i64 8)) fun x159 => condS x159 (j1_109 x159 h38) (eqS EE 3 x15 (.fv (.int .i64 9)) fun x160 => j1_109 x160 h38)) fun x110 h111 => S39_186 x110 h111 x3 ih x0 x7 x15 x12
noncomputable def S39_188 (x15 : IV) (x12 : IV) (h38 : Hp) (ih : Handler) (x0 : IV) (x7 : IV) (x3 : IV) : Option (IV × Hp) :=
  eqS EE 3 x15 (.fv (.int .i64 5)) fun x72 => condS x72 (ixS 3 x12 (.fv (.int .i64 0)) fun x73 => loadA 3 x73 h38 fun x74 r75 => S39_174 r75 x12 h38 ih x0 x74 x7) (eqS EE 3 x15 (.fv (.int .i64 7)) fun x89 => condS x89 (S39_178 x12 h38 ih x0 x7) (S39_187 x3 ih x0 x7 x15 x12 h38))
noncomputable def S39_189 (x37 : IV) (x12 : IV) (h38 : Hp) (ih : Handler) (x0 : IV) (x7 : IV) (x15 : IV) (x3 : IV) : Option (IV × Hp) :=
  condS x37 (ixS 3 x12 (.fv (.int .i64 0)) fun x39 => loadA 3 x39 h38 fun x40 r41 => S39_168 r41 x12 h38 ih x0 x40 x7) (eqS EE 3 x15 (.fv (.int .i64 4)) fun x55 => condS x55 (S39_171 x12 h38 ih x0 x7) (S39_188 x15 x12 h38 ih x0 x7 x3))
noncomputable def S39_190 (x161 : IV) (j1_36 : IV → Hp → Option (IV × Hp)) (h8 : Hp) (x15 : IV) : Option (IV × Hp) :=
  condS x161 (j1_36 x161 h8) (eqS EE 3 x15 (.fv (.int .i64 6)) fun x162 => j1_36 x162 h8)
noncomputable def S39_191 (x15 : IV) (x3 : IV) (h8 : Hp) (x7 : IV) (x12 : IV) (ih : Handler) (x0 : IV) : Option (IV × Hp) :=
  eqS EE 3 x15 (.fv (.int .i64 2)) fun x17 => condS x17 (faddrS 1 x3 fun x18 => load1 x18 h8 fun x19 _ => S39_165 x19 h8 x7 x3) ((fun (j1_36 : IV → Hp → Option (IV × Hp)) => eqS EE 3 x15 (.fv (.int .i64 3)) fun x161 => S39_190 x161 j1_36 h8 x15) fun x37 h38 => S39_189 x37 x12 h38 ih x0 x7 x15 x3)
noncomputable def S39 (ih : Handler) (n : Nat) (x0 : IV) (x1 : IV) (h2 : Hp) : Option (IV × Hp) :=
  boxS 40894464 x1 h2 fun x3 h4 _ _ => newS 40894465 (.row [.fv (.int .i64 0), .fv (.int .i64 0), .nils] false) (.ptr (.own 40894465) 0) h4 fun x7 h8 _ _ => faddrS 2 x3 fun x11 => load1 x11 h8 fun x12 _ => faddrS 0 x3 fun x14 => load1 x14 h8 fun x15 _ => S39_191 x15 x3 h8 x7 x12 ih x0
theorem S39_ok (ih : Handler) (n : Nat) (x0 : IV) (x1 : IV) (h2 : Hp) : funS EE ih ft.get n 39 [x0, x1] h2 = S39 ih n x0 x1 h2 := by kernel_rfl
/-! Function 40. -/
noncomputable def S40_59 (r43 : List Ref) (h34 : Hp) (x42 : IV) : Option (IV × Hp) :=
  chkS [] r43 [] (outS1 [.fv (.bool false), x42] h34)
noncomputable def S40_60 (r50 : List Ref) (h34 : Hp) (x49 : IV) : Option (IV × Hp) :=
  chkS [] r50 [] (outS1 [.fv (.bool false), x49] h34)
noncomputable def S40_61 (ih : Handler) (h34 : Hp) (x51 : IV) (x53 : IV) : Option (IV × Hp) :=
  dynS EE ih (.fv (.func (.func 66) [] [])) [x51, x53] h34 fun x55 h56 _ _ => outS1 [x55, .fv (.int .i64 0)] h56
noncomputable def S40_62 (x45 : IV) (x27 : IV) (h34 : Hp) (x23 : IV) (ih : Handler) : Option (IV × Hp) :=
  neS EE 39 x45 (.fv (.int .i64 0)) fun x47 => condS x47 (faddrS 3 x27 fun x48 => load1 x48 h34 fun x49 r50 => S40_60 r50 h34 x49) (loadA 4 x23 h34 fun x51 _ => loadA 4 x27 h34 fun x53 _ => S40_61 ih h34 x51 x53)
noncomputable def S40_63 (x40 : IV) (x23 : IV) (h34 : Hp) (x27 : IV) (ih : Handler) : Option (IV × Hp) :=
  condS x40 (faddrS 3 x23 fun x41 => load1 x41 h34 fun x42 r43 => S40_59 r43 h34 x42) (faddrS 3 x27 fun x44 => load1 x44 h34 fun x45 _ => S40_62 x45 x27 h34 x23 ih)
noncomputable def S40_64 (h31 : Hp) (x27 : IV) (x19 : IV) (x23 : IV) (ih : Handler) : Option (IV × Hp) :=
  storeA 4 x27 x19 h31 fun h34 r35 w36 => chkS [] r35 w36 (faddrS 3 x23 fun x37 => load1 x37 h34 fun x38 _ => neS EE 39 x38 (.fv (.int .i64 0)) fun x40 => S40_63 x40 x23 h34 x27 ih)
noncomputable def S40_65 (r25 : List Ref) (w26 : List Ref) (r21 : List Ref) (w22 : List Ref) (r18 : List Ref) (r15 : List Ref) (w16 : List Ref) (r12 : List Ref) (h24 : Hp) (x23 : IV) (x13 : IV) (x19 : IV) (ih : Handler) : Option (IV × Hp) :=
  chkS [(r21, w22), (r18, []), (r15, w16), (r12, [])] r25 w26 (newS 41944069 (.row [.fv (.int .i64 0), .fv (.int .i64 0), .nils, .fv (.int .i64 0)] false) (.ptr (.own 41944069) 0) h24 fun x27 h28 r29 w30 => chkS [(r25, w26), (r21, w22), (r18, []), (r15, w16), (r12, [])] r29 w30 (storeA 4 x23 x13 h28 fun h31 r32 w33 => chkS [] r32 w33 (S40_64 h31 x27 x19 x23 ih)))
noncomputable def S40_66 (h14 : Hp) (x7 : IV) (r15 : List Ref) (w16 : List Ref) (r12 : List Ref) (ih : Handler) (x13 : IV) : Option (IV × Hp) :=
  loadA 3 x7 h14 fun x17 r18 => chkS [(r15, w16), (r12, [])] r18 [] (isoS [] false false ih 65 [x17] h14 fun x19 h20 r21 w22 => chkS [] r21 w22 (newS 41944068 (.row [.fv (.int .i64 0), .fv (.int .i64 0), .nils, .fv (.int .i64 0)] false) (.ptr (.own 41944068) 0) h20 fun x23 h24 r25 w26 => S40_65 r25 w26 r21 w22 r18 r15 w16 r12 h24 x23 x13 x19 ih))
noncomputable def S40 (ih : Handler) (n : Nat) (x0 : IV) (x1 : IV) (h2 : Hp) : Option (IV × Hp) :=
  boxS 41943040 x0 h2 fun x3 h4 _ _ => boxS 41943041 x1 h4 fun x7 h8 _ _ => loadA 3 x3 h8 fun x11 r12 => chkS [] r12 [] (isoS [] false false ih 65 [x11] h8 fun x13 h14 r15 w16 => chkS [] r15 w16 (S40_66 h14 x7 r15 w16 r12 ih x13))
theorem S40_ok (ih : Handler) (n : Nat) (x0 : IV) (x1 : IV) (h2 : Hp) : funS EE ih ft.get n 40 [x0, x1] h2 = S40 ih n x0 x1 h2 := by kernel_rfl
/-! Function 41. -/
noncomputable def S41_29 (x13 : IV) (x21 : IV) (h22 : Hp) (x6 : IV) (x0 : IV) : Option (IV × Hp) :=
  pickS x13 (.fv (.bool true)) x21 fun x25 => condS x25 (outS1 [.fv (.int .i64 (-1))] h22) (ixA 31 1 x6 x0 fun x26 => load1 x26 h22 fun x27 _ => outS1 [x27] h22)
noncomputable def S41 (ih : Handler) (n : Nat) (x0 : IV) (h1 : Hp) : Option (IV × Hp) :=
  genS (pcBuild EE 87 [(0, .fv (.int .i64 (-1))), (1, .fv (.int .i64 0)), (2, .fv (.int .i64 0)), (3, .fv (.int .i64 2)), (4, .fv (.int .i64 2)), (5, .fv (.int .i64 2)), (6, .fv (.int .i64 2)), (7, .fv (.int .i64 3)), (8, .fv (.int .i64 1)), (9, .fv (.int .i64 1)), (10, .fv (.int .i64 0)), (11, .fv (.int .i64 0)), (12, .fv (.int .i64 1)), (13, .fv (.int .i64 4)), (14, .fv (.int .i64 0)), (15, .fv (.int .i64 0)), (16, .fv (.int .i64 2)), (17, .fv (.int .i64 2)), (18, .fv (.int .i64 1)), (19, .fv (.int .i64 1)), (20, .fv (.int .i64 2)), (21, .fv (.int .i64 2)), (22, .fv (.int .i64 2)), (23, .fv (.int .i64 1)), (24, .fv (.int .i64 1)), (25, .fv (.int .i64 0)), (26, .fv (.int .i64 2)), (27, .fv (.int .i64 3)), (28, .fv (.int .i64 2)), (29, .fv (.int .i64 2)), (30, .fv (.int .i64 1))]) 42992640 h1 fun x2 h3 _ _ => newS 42992641 (.row [.fv (.int .i64 0), .fv (.int .i64 0), .fv (.int .i64 0), .fv (.int .i64 0), .fv (.int .i64 0), .fv (.int .i64 0), .fv (.int .i64 0), .fv (.int .i64 0), .fv (.int .i64 0), .fv (.int .i64 0), .fv (.int .i64 0), .fv (.int .i64 0), .fv (.int .i64 0), .fv (.int .i64 0), .fv (.int .i64 0), .fv (.int .i64 0), .fv (.int .i64 0), .fv (.int .i64 0), .fv (.int .i64 0), .fv (.int .i64 0), .fv (.int .i64 0), .fv (.int .i64 0), .fv (.int .i64 0), .fv (.int .i64 0), .fv (.int .i64 0), .fv (.int .i64 0), .fv (.int .i64 0), .fv (.int .i64 0), .fv (.int .i64 0), .fv (.int .i64 0), .fv (.int .i64 0)] false) (.ptr (.own 42992641) 0) h3 fun x6 h7 _ _ => storeA 31 x6 x2 h7 fun h10 _ _ => ltS EE 63 x0 (.fv (.int .i64 0)) fun x13 => guardS x13 false h10 (fun k14 => k14 x0 h10 [] []) fun x15 h16 _ _ => guardS x13 false h16 (fun k19 => geS EE 3 x15 (.fv (.int .i64 31)) fun x20 => k19 x20 h16 [] []) fun x21 h22 _ _ => S41_29 x13 x21 h22 x6 x0
theorem S41_ok (ih : Handler) (n : Nat) (x0 : IV) (h1 : Hp) : funS EE ih ft.get n 41 [x0] h1 = S41 ih n x0 h1 := by kernel_rfl
/-! Function 42. -/
noncomputable def S42_47 (h7 : Hp) (x4 : IV) (x6 : IV) : Option (IV × Hp) :=
  guardS x4 true h7 (fun k10 => leS EE 3 x6 (.fv (.int .i64 3000)) fun x11 => k10 x11 h7 [] []) fun x12 h13 _ _ => pickS x4 x12 (.fv (.bool false)) fun x16 => outS1 [x16] h13
noncomputable def S42_48 (x1 : IV) (h2 : Hp) : Option (IV × Hp) :=
  geS EE 3 x1 (.fv (.int .i64 0)) fun x18 => guardS x18 true h2 (fun k19 => k19 x1 h2 [] []) fun x20 h21 _ _ => guardS x18 true h21 (fun k24 => leS EE 3 x20 (.fv (.int .i64 2)) fun x25 => k24 x25 h21 [] []) fun x26 h27 _ _ => pickS x18 x26 (.fv (.bool false)) fun x30 => outS1 [x30] h27
noncomputable def S42_49 (h35 : Hp) (x32 : IV) (x34 : IV) : Option (IV × Hp) :=
  guardS x32 true h35 (fun k38 => leS EE 3 x34 (.fv (.int .i64 4)) fun x39 => k38 x39 h35 [] []) fun x40 h41 _ _ => pickS x32 x40 (.fv (.bool false)) fun x44 => outS1 [x44] h41
noncomputable def S42_50 (x1 : IV) (h2 : Hp) : Option (IV × Hp) :=
  eqS EE 3 x1 (.fv (.int .i64 0)) fun x46 => outS1 [x46] h2
noncomputable def S42_51 (x0 : IV) (x1 : IV) (h2 : Hp) : Option (IV × Hp) :=
  eqS EE 3 x0 (.fv (.int .i64 26)) fun x31 => condS x31 (geS EE 3 x1 (.fv (.int .i64 0)) fun x32 => guardS x32 true h2 (fun k33 => k33 x1 h2 [] []) fun x34 h35 _ _ => S42_49 h35 x32 x34) (eqS EE 3 x0 (.fv (.int .i64 25)) fun x45 => condS x45 (outS1 [.fv (.bool true)] h2) (S42_50 x1 h2))
noncomputable def S42 (ih : Handler) (n : Nat) (x0 : IV) (x1 : IV) (h2 : Hp) : Option (IV × Hp) :=
  eqS EE 3 x0 (.fv (.int .i64 1)) fun x3 => condS x3 (geS EE 3 x1 (.fv (.int .i64 0)) fun x4 => guardS x4 true h2 (fun k5 => k5 x1 h2 [] []) fun x6 h7 _ _ => S42_47 h7 x4 x6) (eqS EE 3 x0 (.fv (.int .i64 2)) fun x17 => condS x17 (S42_48 x1 h2) (S42_51 x0 x1 h2))
theorem S42_ok (ih : Handler) (n : Nat) (x0 : IV) (x1 : IV) (h2 : Hp) : funS EE ih ft.get n 42 [x0, x1] h2 = S42 ih n x0 x1 h2 := by kernel_rfl
/-! Function 43. -/
noncomputable def S43_129 (h1 : Hp) (h119 : Hp) (x102 : IV) (x103 : IV) (x123 : IV) (q99 : List IV → Hp → Option (IV × Hp)) : Option (IV × Hp) :=
  dropS (h1.own.map (·.1)) [45094914] [x102, x103, x123] h119 fun h124 => q99 [x102, x103, x123] h124
noncomputable def S43_130 (ih : Handler) (h113 : Hp) (x116 : IV) (x104 : IV) (h1 : Hp) (x102 : IV) (x103 : IV) (q99 : List IV → Hp → Option (IV × Hp)) : Option (IV × Hp) :=
  isoS [] false false ih 43 [x116] h113 fun x118 h119 _ _ => optS (unR .not x118) fun x122 => condS x122 (outS1 [.fv (.bool false)] h119) (addS EE 3 x104 (.fv (.int .i64 1)) fun x123 => S43_129 h1 h119 x102 x103 x123 q99)
noncomputable def S43_131 (x102 : IV) (x104 : IV) (h101 : Hp) (ih : Handler) (h1 : Hp) (x103 : IV) (q99 : List IV → Hp → Option (IV × Hp)) : Option (IV × Hp) :=
  ixS 3 x102 x104 fun x106 => loadA 3 x106 h101 fun x107 _ => newS 45094914 (.row [.fv (.int .i64 0), .fv (.int .i64 0), .nils] false) (.ptr (.own 45094914) 0) h101 fun x109 h110 _ _ => storeA 3 x109 x107 h110 fun h113 _ _ => loadA 3 x109 h113 fun x116 _ => S43_130 ih h113 x116 x104 h1 x102 x103 q99
noncomputable def S43_132 (l100 : List IV) (h101 : Hp) (ih : Handler) (h1 : Hp) (q99 : List IV → Hp → Option (IV × Hp)) : Option (IV × Hp) :=
  uncS l100 fun x102 l125 => uncS l125 fun x103 l126 => uncS l126 fun x104 _ => ltS EE 3 x104 x103 fun x105 => condS x105 (S43_131 x102 x104 h101 ih h1 x103 q99) (outS1 [.fv (.bool true)] h101)
noncomputable def S43_133 (x2 : IV) (h91 : Hp) (h1 : Hp) (n : Nat) (ih : Handler) : Option (IV × Hp) :=
  faddrS 2 x2 fun x95 => load1 x95 h91 fun x96 _ => lenS x96 fun x98 => dropS (h1.own.map (·.1)) [45094914] [x96, x98, .fv (.int .i64 0)] h91 fun h128 => loopS n (fun q99 l100 h101 => S43_132 l100 h101 ih h1 q99) [x96, x98, .fv (.int .i64 0)] h128
noncomputable def S43_134 (h72 : Hp) (x65 : IV) (x71 : IV) (x44 : IV) (x2 : IV) (h1 : Hp) (n : Nat) (ih : Handler) : Option (IV × Hp) :=
  guardS x65 true h72 (fun k75 => load1 x71 h72 fun x76 r77 => k75 x76 h72 r77 []) fun x78 h79 _ _ => guardS x65 true h79 (fun k82 => ltS EE 3 x78 (.fv (.int .i64 0)) fun x83 => k82 x83 h79 [] []) fun x84 h85 _ _ => guardS x44 false h85 (fun k88 => pickS x65 x84 (.fv (.bool false)) fun x89 => k88 x89 h85 [] []) fun x90 h91 _ _ => pickS x44 (.fv (.bool true)) x90 fun x94 => condS x94 (outS1 [.fv (.bool false)] h91) (S43_133 x2 h91 h1 n ih)
noncomputable def S43_135 (h41 : Hp) (x44 : IV) (x2 : IV) (h1 : Hp) (n : Nat) (ih : Handler) : Option (IV × Hp) :=
  guardS x44 false h41 (fun k45 => faddrS 0 x2 fun x46 => k45 x46 h41 [] []) fun x47 h48 _ _ => guardS x44 false h48 (fun k51 => load1 x47 h48 fun x52 r53 => k51 x52 h48 r53 []) fun x54 h55 _ _ => guardS x44 false h55 (fun k58 => eqS EE 3 x54 (.fv (.int .i64 1)) fun x59 => k58 x59 h55 [] []) fun x60 h61 _ _ => guardS x44 false h61 (fun k64 => k64 x60 h61 [] []) fun x65 h66 _ _ => guardS x65 true h66 (fun k69 => faddrS 1 x2 fun x70 => k69 x70 h66 [] []) fun x71 h72 _ _ => S43_134 h72 x65 x71 x44 x2 h1 n ih
noncomputable def S43_136 (h16 : Hp) (x13 : IV) (x2 : IV) (x15 : IV) (h1 : Hp) (n : Nat) (ih : Handler) : Option (IV × Hp) :=
  guardS x13 true h16 (fun k19 => faddrS 2 x2 fun x20 => k19 x20 h16 [] []) fun x21 h22 _ _ => guardS x13 true h22 (fun k25 => load1 x21 h22 fun x26 r27 => k25 x26 h22 r27 []) fun x28 h29 _ _ => guardS x13 true h29 (fun k32 => lenS x28 fun x33 => k32 x33 h29 [] []) fun x34 h35 _ _ => guardS x13 true h35 (fun k38 => neS EE 3 x15 x34 fun x39 => k38 x39 h35 [] []) fun x40 h41 _ _ => pickS x13 x40 (.fv (.bool false)) fun x44 => S43_135 h41 x44 x2 h1 n ih
noncomputable def S43 (ih : Handler) (n : Nat) (x0 : IV) (h1 : Hp) : Option (IV × Hp) :=
  boxS 45088768 x0 h1 fun x2 h3 _ _ => faddrS 0 x2 fun x6 => load1 x6 h3 fun x7 _ => isoS [] false false ih 67 [x7] h3 fun x9 h10 _ _ => geS EE 3 x9 (.fv (.int .i64 0)) fun x13 => guardS x13 true h10 (fun k14 => k14 x9 h10 [] []) fun x15 h16 _ _ => S43_136 h16 x13 x2 x15 h1 n ih
theorem S43_ok (ih : Handler) (n : Nat) (x0 : IV) (h1 : Hp) : funS EE ih ft.get n 43 [x0] h1 = S43 ih n x0 h1 := by kernel_rfl
/-! Function 44. -/
noncomputable def S44_69 (x2 : IV) (h61 : Hp) (x6 : IV) : Option (IV × Hp) :=
  nilS x2 fun x64 => faddrS 4 x64 fun x65 => store1 x65 x6 h61 fun h66 _ _ => outS1 [x2] h66
noncomputable def S44_70 (x46 : IV) (h47 : Hp) (x6 : IV) (x2 : IV) : Option (IV × Hp) :=
  bldS [.fv (.nilf)] [(0, 1, x46)] fun x50 => genS (pcInsert EE 70 x6 (.fv (.int .i64 30)) x50) 46139413 h47 fun _ h52 _ _ => genS (val (mkFunc (.func 72) [x2] [])) 46139415 h52 fun x55 h56 _ _ => bldS [.fv (.nilf)] [(0, 1, x55)] fun x59 => genS (pcInsert EE 70 x6 (.fv (.int .i64 19)) x59) 46139417 h56 fun _ h61 _ _ => S44_69 x2 h61 x6
noncomputable def S44_71 (h29 : Hp) (x6 : IV) (x32 : IV) (x2 : IV) : Option (IV × Hp) :=
  genS (pcInsert EE 70 x6 (.fv (.int .i64 9)) x32) 46139405 h29 fun _ h34 _ _ => genS (val (mkFunc (.func 70) [x2] [])) 46139407 h34 fun x37 h38 _ _ => bldS [.fv (.nilf)] [(0, 1, x37)] fun x41 => genS (pcInsert EE 70 x6 (.fv (.int .i64 13)) x41) 46139409 h38 fun _ h43 _ _ => genS (val (mkFunc (.func 71) [x2] [])) 46139411 h43 fun x46 h47 _ _ => S44_70 x46 h47 x6 x2
noncomputable def S44_72 (h16 : Hp) (x2 : IV) (x6 : IV) : Option (IV × Hp) :=
  genS (val (mkFunc (.func 69) [x2] [])) 46139399 h16 fun x19 h20 _ _ => bldS [.fv (.nilf)] [(0, 1, x19)] fun x23 => genS (pcInsert EE 70 x6 (.fv (.int .i64 8)) x23) 46139401 h20 fun _ h25 _ _ => genS (val (mkFunc (.func 69) [x2] [])) 46139403 h25 fun x28 h29 _ _ => bldS [.fv (.nilf)] [(0, 1, x28)] fun x32 => S44_71 h29 x6 x32 x2
noncomputable def S44 (ih : Handler) (n : Nat) (h0 : Hp) : Option (IV × Hp) :=
  bldS [.fv (.int .i64 0), .fv (.int .i64 0), .fv (.int .i64 0), .fv (.int .i64 0), .dead] [(0, 1, .fv (.int .i64 100000)), (1, 1, .fv (.int .i64 5000000))] fun x1 => boxS 46138369 x1 h0 fun x2 h3 _ _ => genS (pcMakeMap 46139393) 46139393 h3 fun x6 h7 _ _ => genS (val (mkFunc (.func 68) [x2] [])) 46139395 h7 fun x10 h11 _ _ => bldS [.fv (.nilf)] [(0, 1, x10)] fun x14 => genS (pcInsert EE 70 x6 (.fv (.int .i64 5)) x14) 46139397 h11 fun _ h16 _ _ => S44_72 h16 x2 x6
theorem S44_ok (ih : Handler) (n : Nat) (h0 : Hp) : funS EE ih ft.get n 44 [] h0 = S44 ih n h0 := by kernel_rfl
end Idl
end Go.Proofs.Ytnenpcghegcnhaa

/-
  THE SHALLOW FORM OF THE SEAT'S FUNCTIONS, a part; each is what its code's shallow run is. Printed by a program of mine (gen-sh). No statement is proved here.
-/
import Derived.Test.YtaifgaidaglblaaTab
import Derived.Test.YtaifgaidaglblaaIdl31
set_option maxRecDepth 100000
set_option linter.unusedVariables false
namespace Go.Proofs.Ytaifgaidaglblaa
namespace Idl
/-! Function 13. -/
noncomputable def S13_177 (r85 : List Ref) (w86 : List Ref) (h84 : Hp) (x13 : IV) (x17 : IV) (x21 : IV) : Option (IV × Hp) :=
  chkS [] r85 w86 (cellS true 3 x13 h84 fun x87 => cellS true 3 x17 h84 fun x88 => outS1 [x21, x87, x88, .fv (.bool false)] h84)
noncomputable def S13_178 (ih : Handler) (h71 : Hp) (r76 : List Ref) (x13 : IV) (x75 : IV) (x17 : IV) (x21 : IV) : Option (IV × Hp) :=
  isoS [] false false ih 36 [.fv (.int .i64 0)] h71 fun x77 h78 r79 w80 => chkS [(r76, [])] r79 w80 (storeA 3 x13 x75 h78 fun h81 r82 w83 => chkS [] r82 w83 (storeA 3 x17 x77 h81 fun h84 r85 w86 => S13_177 r85 w86 h84 x13 x17 x21))
noncomputable def S13_179 (r97 : List Ref) (w98 : List Ref) (h96 : Hp) (x13 : IV) (x17 : IV) (x21 : IV) : Option (IV × Hp) :=
  chkS [] r97 w98 (cellS true 3 x13 h96 fun x99 => cellS true 3 x17 h96 fun x100 => outS1 [x21, x99, x100, .fv (.bool true)] h96)
noncomputable def S13_180 (h71 : Hp) (x48 : IV) (r90 : List Ref) (x13 : IV) (x89 : IV) (x17 : IV) (x21 : IV) : Option (IV × Hp) :=
  loadA 3 x48 h71 fun x91 r92 => chkS [(r90, [])] r92 [] (storeA 3 x13 x89 h71 fun h93 r94 w95 => chkS [(r92, [])] r94 w95 (storeA 3 x17 x91 h93 fun h96 r97 w98 => S13_179 r97 w98 h96 x13 x17 x21))
noncomputable def S13_181 (x55 : IV) (x70 : IV) (h71 : Hp) (x31 : IV) (ih : Handler) (x13 : IV) (x17 : IV) (x21 : IV) (x48 : IV) : Option (IV × Hp) :=
  pickS x55 (.fv (.bool true)) x70 fun x74 => condS x74 (loadA 3 x31 h71 fun x75 r76 => chkS [] r76 [] (S13_178 ih h71 r76 x13 x75 x17 x21)) (loadA 3 x31 h71 fun x89 r90 => chkS [] r90 [] (S13_180 h71 x48 r90 x13 x89 x17 x21))
noncomputable def S13_182 (h49 : Hp) (x48 : IV) (x46 : IV) (x47 : IV) (ih : Handler) (x31 : IV) (x13 : IV) (x17 : IV) (x21 : IV) : Option (IV × Hp) :=
  storeA 3 x48 x46 h49 fun h52 _ _ => optS (unR .not x47) fun x55 => guardS x55 false h52 (fun k56 => loadA 3 x48 h52 fun x57 r58 => k56 x57 h52 r58 []) fun x59 h60 _ _ => guardS x55 false h60 (fun k63 => isoS [] false false ih 27 [x59] h60 k63) fun x64 h65 _ _ => guardS x55 false h65 (fun k68 => neS EE 3 x64 (.fv (.int .i64 0)) fun x69 => k68 x69 h65 [] []) fun x70 h71 _ _ => S13_181 x55 x70 h71 x31 ih x13 x17 x21 x48
noncomputable def S13_183 (h35 : Hp) (x5 : IV) (ih : Handler) (x21 : IV) (x38 : IV) (x31 : IV) (x13 : IV) (x17 : IV) : Option (IV × Hp) :=
  loadA 3 x5 h35 fun x40 _ => isoS [] false false ih 35 [x21, x38, x40, .fv (.int .i64 5)] h35 fun x42 h43 _ _ => extS 0 x42 fun x46 => extS 1 x42 fun x47 => newS 13635591 (.row [.fv (.int .i64 0), .fv (.int .i64 0), .nils] false) (.ptr (.own 13635591) 0) h43 fun x48 h49 _ _ => S13_182 h49 x48 x46 x47 ih x31 x13 x17 x21
noncomputable def S13_184 (h22 : Hp) (x9 : IV) (ih : Handler) (x5 : IV) (x21 : IV) (x13 : IV) (x17 : IV) : Option (IV × Hp) :=
  loadA 3 x9 h22 fun x25 _ => isoS [] false false ih 34 [x25, .fv (.int .i64 2)] h22 fun x27 h28 _ _ => newS 13634562 (.row [.fv (.int .i64 0), .fv (.int .i64 0), .nils] false) (.ptr (.own 13634562) 0) h28 fun x31 h32 _ _ => storeA 3 x31 x27 h32 fun h35 _ _ => loadA 3 x31 h35 fun x38 _ => S13_183 h35 x5 ih x21 x38 x31 x13 x17
noncomputable def S13_185 (r161 : List Ref) (w162 : List Ref) (h160 : Hp) (x13 : IV) (x17 : IV) (x21 : IV) : Option (IV × Hp) :=
  chkS [] r161 w162 (cellS true 3 x13 h160 fun x163 => cellS true 3 x17 h160 fun x164 => outS1 [x21, x163, x164, .fv (.bool false)] h160)
noncomputable def S13_186 (ih : Handler) (h147 : Hp) (r152 : List Ref) (x13 : IV) (x151 : IV) (x17 : IV) (x21 : IV) : Option (IV × Hp) :=
  isoS [] false false ih 24 [.fv (.int .i64 11), .nils] h147 fun x153 h154 r155 w156 => chkS [(r152, [])] r155 w156 (storeA 3 x13 x151 h154 fun h157 r158 w159 => chkS [] r158 w159 (storeA 3 x17 x153 h157 fun h160 r161 w162 => S13_185 r161 w162 h160 x13 x17 x21))
noncomputable def S13_187 (r173 : List Ref) (w174 : List Ref) (h172 : Hp) (x13 : IV) (x17 : IV) (x21 : IV) : Option (IV × Hp) :=
  chkS [] r173 w174 (cellS true 3 x13 h172 fun x175 => cellS true 3 x17 h172 fun x176 => outS1 [x21, x175, x176, .fv (.bool true)] h172)
noncomputable def S13_188 (h147 : Hp) (x124 : IV) (r166 : List Ref) (x13 : IV) (x165 : IV) (x17 : IV) (x21 : IV) : Option (IV × Hp) :=
  loadA 3 x124 h147 fun x167 r168 => chkS [(r166, [])] r168 [] (storeA 3 x13 x165 h147 fun h169 r170 w171 => chkS [(r168, [])] r170 w171 (storeA 3 x17 x167 h169 fun h172 r173 w174 => S13_187 r173 w174 h172 x13 x17 x21))
noncomputable def S13_189 (x131 : IV) (x146 : IV) (h147 : Hp) (x107 : IV) (ih : Handler) (x13 : IV) (x17 : IV) (x21 : IV) (x124 : IV) : Option (IV × Hp) :=
  pickS x131 (.fv (.bool true)) x146 fun x150 => condS x150 (loadA 3 x107 h147 fun x151 r152 => chkS [] r152 [] (S13_186 ih h147 r152 x13 x151 x17 x21)) (loadA 3 x107 h147 fun x165 r166 => chkS [] r166 [] (S13_188 h147 x124 r166 x13 x165 x17 x21))
noncomputable def S13_190 (h125 : Hp) (x124 : IV) (x122 : IV) (x123 : IV) (ih : Handler) (x107 : IV) (x13 : IV) (x17 : IV) (x21 : IV) : Option (IV × Hp) :=
  storeA 3 x124 x122 h125 fun h128 _ _ => optS (unR .not x123) fun x131 => guardS x131 false h128 (fun k132 => loadA 3 x124 h128 fun x133 r134 => k132 x133 h128 r134 []) fun x135 h136 _ _ => guardS x131 false h136 (fun k139 => isoS [] false false ih 27 [x135] h136 k139) fun x140 h141 _ _ => guardS x131 false h141 (fun k144 => neS EE 3 x140 (.fv (.int .i64 0)) fun x145 => k144 x145 h141 [] []) fun x146 h147 _ _ => S13_189 x131 x146 h147 x107 ih x13 x17 x21 x124
noncomputable def S13_191 (h111 : Hp) (x5 : IV) (ih : Handler) (x21 : IV) (x114 : IV) (x107 : IV) (x13 : IV) (x17 : IV) : Option (IV × Hp) :=
  loadA 3 x5 h111 fun x116 _ => isoS [] false false ih 23 [x21, x114, x116, .fv (.int .i64 5)] h111 fun x118 h119 _ _ => extS 0 x118 fun x122 => extS 1 x118 fun x123 => newS 13640711 (.row [.fv (.int .i64 0), .fv (.int .i64 0), .nils] false) (.ptr (.own 13640711) 0) h119 fun x124 h125 _ _ => S13_190 h125 x124 x122 x123 ih x107 x13 x17 x21
noncomputable def S13_192 (h22 : Hp) (x9 : IV) (ih : Handler) (x21 : IV) (x5 : IV) (x13 : IV) (x17 : IV) : Option (IV × Hp) :=
  loadA 3 x9 h22 fun x101 _ => isoS [] false false ih 21 [x21, x101, .fv (.int .i64 2)] h22 fun x103 h104 _ _ => newS 13639683 (.row [.fv (.int .i64 0), .fv (.int .i64 0), .nils] false) (.ptr (.own 13639683) 0) h104 fun x107 h108 _ _ => storeA 3 x107 x103 h108 fun h111 _ _ => loadA 3 x107 h111 fun x114 _ => S13_191 h111 x5 ih x21 x114 x107 x13 x17
noncomputable def S13 (ih : Handler) (n : Nat) (x0 : IV) (x1 : IV) (x2 : IV) (x3 : IV) (h4 : Hp) : Option (IV × Hp) :=
  boxS 13631488 x1 h4 fun x5 h6 _ _ => boxS 13631489 x2 h6 fun x9 h10 _ _ => newS 13631491 (.row [.fv (.int .i64 0), .fv (.int .i64 0), .nils] false) (.ptr (.own 13631491) 0) h10 fun x13 h14 _ _ => newS 13631492 (.row [.fv (.int .i64 0), .fv (.int .i64 0), .nils] false) (.ptr (.own 13631492) 0) h14 fun x17 h18 _ _ => isoS [] false false ih 20 [x0] h18 fun x21 h22 _ _ => condS x3 (S13_184 h22 x9 ih x5 x21 x13 x17) (S13_192 h22 x9 ih x21 x5 x13 x17)
theorem S13_ok (ih : Handler) (n : Nat) (x0 : IV) (x1 : IV) (x2 : IV) (x3 : IV) (h4 : Hp) : funS EE ih ft.get n 13 [x0, x1, x2, x3] h4 = S13 ih n x0 x1 x2 x3 h4 := by kernel_rfl
/-! Function 14. -/
noncomputable def S14_59 (r53 : List Ref) (w54 : List Ref) (ih : Handler) (h52 : Hp) (x45 : IV) (x51 : IV) : Option (IV × Hp) :=
  chkS [] r53 w54 (isoS [] false false ih 37 [x45, x51] h52 fun x55 h56 r57 w58 => chkS [] r57 w58 (outS1 [x55, .fv (.int .i64 0)] h56))
noncomputable def S14_60 (ih : Handler) (h39 : Hp) (x43 : IV) (x35 : IV) (r44 : List Ref) : Option (IV × Hp) :=
  isoS [] false false ih 38 [x43] h39 fun x45 h46 r47 w48 => chkS [] r47 w48 (loadA 3 x35 h46 fun x49 r50 => chkS [(r47, w48), (r44, [])] r50 [] (isoS [] false false ih 38 [x49] h46 fun x51 h52 r53 w54 => S14_59 r53 w54 ih h52 x45 x51))
noncomputable def S14_61 (x34 : IV) (h39 : Hp) (x19 : IV) (ih : Handler) (x35 : IV) : Option (IV × Hp) :=
  neS EE 3 x34 (.fv (.int .i64 0)) fun x42 => condS x42 (outS1 [.fv (.bool false), x34] h39) (loadA 3 x19 h39 fun x43 r44 => chkS [] r44 [] (S14_60 ih h39 x43 x35 r44))
noncomputable def S14_62 (ih : Handler) (h23 : Hp) (x27 : IV) (x19 : IV) : Option (IV × Hp) :=
  isoS [] false false ih 17 [x27] h23 fun x29 h30 _ _ => extS 0 x29 fun x33 => extS 1 x29 fun x34 => newS 14684165 (.row [.fv (.int .i64 0), .fv (.int .i64 0), .nils] false) (.ptr (.own 14684165) 0) h30 fun x35 h36 _ _ => storeA 3 x35 x33 h36 fun h39 _ _ => S14_61 x34 h39 x19 ih x35
noncomputable def S14_63 (h14 : Hp) (x17 : IV) (x18 : IV) (x7 : IV) (ih : Handler) : Option (IV × Hp) :=
  newS 14681093 (.row [.fv (.int .i64 0), .fv (.int .i64 0), .nils] false) (.ptr (.own 14681093) 0) h14 fun x19 h20 _ _ => storeA 3 x19 x17 h20 fun h23 _ _ => neS EE 3 x18 (.fv (.int .i64 0)) fun x26 => condS x26 (outS1 [.fv (.bool false), x18] h23) (loadA 3 x7 h23 fun x27 _ => S14_62 ih h23 x27 x19)
noncomputable def S14 (ih : Handler) (n : Nat) (x0 : IV) (x1 : IV) (h2 : Hp) : Option (IV × Hp) :=
  boxS 14680064 x0 h2 fun x3 h4 _ _ => boxS 14680065 x1 h4 fun x7 h8 _ _ => loadA 3 x3 h8 fun x11 _ => isoS [] false false ih 17 [x11] h8 fun x13 h14 _ _ => extS 0 x13 fun x17 => extS 1 x13 fun x18 => S14_63 h14 x17 x18 x7 ih
theorem S14_ok (ih : Handler) (n : Nat) (x0 : IV) (x1 : IV) (h2 : Hp) : funS EE ih ft.get n 14 [x0, x1] h2 = S14 ih n x0 x1 h2 := by kernel_rfl
/-! Function 15. -/
noncomputable def S15 (ih : Handler) (n : Nat) (x0 : IV) (h1 : Hp) : Option (IV × Hp) :=
  eqS EE 3 x0 (.fv (.int .i64 17)) fun x2 => guardS x2 false h1 (fun k3 => k3 x0 h1 [] []) fun x4 h5 _ _ => guardS x2 false h5 (fun k8 => eqS EE 3 x4 (.fv (.int .i64 5)) fun x9 => k8 x9 h5 [] []) fun x10 h11 _ _ => pickS x2 (.fv (.bool true)) x10 fun x14 => outS1 [x14] h11
theorem S15_ok (ih : Handler) (n : Nat) (x0 : IV) (h1 : Hp) : funS EE ih ft.get n 15 [x0] h1 = S15 ih n x0 h1 := by kernel_rfl
/-! Function 16. -/
noncomputable def S16_59 (r43 : List Ref) (h34 : Hp) (x42 : IV) : Option (IV × Hp) :=
  chkS [] r43 [] (outS1 [.fv (.bool false), x42] h34)
noncomputable def S16_60 (r50 : List Ref) (h34 : Hp) (x49 : IV) : Option (IV × Hp) :=
  chkS [] r50 [] (outS1 [.fv (.bool false), x49] h34)
noncomputable def S16_61 (ih : Handler) (h34 : Hp) (x51 : IV) (x53 : IV) : Option (IV × Hp) :=
  dynS EE ih (.fv (.func (.func 40) [] [])) [x51, x53] h34 fun x55 h56 _ _ => outS1 [x55, .fv (.int .i64 0)] h56
noncomputable def S16_62 (x45 : IV) (x27 : IV) (h34 : Hp) (x23 : IV) (ih : Handler) : Option (IV × Hp) :=
  neS EE 37 x45 (.fv (.int .i64 0)) fun x47 => condS x47 (faddrS 3 x27 fun x48 => load1 x48 h34 fun x49 r50 => S16_60 r50 h34 x49) (loadA 4 x23 h34 fun x51 _ => loadA 4 x27 h34 fun x53 _ => S16_61 ih h34 x51 x53)
noncomputable def S16_63 (x40 : IV) (x23 : IV) (h34 : Hp) (x27 : IV) (ih : Handler) : Option (IV × Hp) :=
  condS x40 (faddrS 3 x23 fun x41 => load1 x41 h34 fun x42 r43 => S16_59 r43 h34 x42) (faddrS 3 x27 fun x44 => load1 x44 h34 fun x45 _ => S16_62 x45 x27 h34 x23 ih)
noncomputable def S16_64 (h31 : Hp) (x27 : IV) (x19 : IV) (x23 : IV) (ih : Handler) : Option (IV × Hp) :=
  storeA 4 x27 x19 h31 fun h34 r35 w36 => chkS [] r35 w36 (faddrS 3 x23 fun x37 => load1 x37 h34 fun x38 _ => neS EE 37 x38 (.fv (.int .i64 0)) fun x40 => S16_63 x40 x23 h34 x27 ih)
noncomputable def S16_65 (r25 : List Ref) (w26 : List Ref) (r21 : List Ref) (w22 : List Ref) (r18 : List Ref) (r15 : List Ref) (w16 : List Ref) (r12 : List Ref) (h24 : Hp) (x23 : IV) (x13 : IV) (x19 : IV) (ih : Handler) : Option (IV × Hp) :=
  chkS [(r21, w22), (r18, []), (r15, w16), (r12, [])] r25 w26 (newS 16778245 (.row [.fv (.int .i64 0), .fv (.int .i64 0), .nils, .fv (.int .i64 0)] false) (.ptr (.own 16778245) 0) h24 fun x27 h28 r29 w30 => chkS [(r25, w26), (r21, w22), (r18, []), (r15, w16), (r12, [])] r29 w30 (storeA 4 x23 x13 h28 fun h31 r32 w33 => chkS [] r32 w33 (S16_64 h31 x27 x19 x23 ih)))
noncomputable def S16_66 (h14 : Hp) (x7 : IV) (r15 : List Ref) (w16 : List Ref) (r12 : List Ref) (ih : Handler) (x13 : IV) : Option (IV × Hp) :=
  loadA 3 x7 h14 fun x17 r18 => chkS [(r15, w16), (r12, [])] r18 [] (isoS [] false false ih 39 [x17] h14 fun x19 h20 r21 w22 => chkS [] r21 w22 (newS 16778244 (.row [.fv (.int .i64 0), .fv (.int .i64 0), .nils, .fv (.int .i64 0)] false) (.ptr (.own 16778244) 0) h20 fun x23 h24 r25 w26 => S16_65 r25 w26 r21 w22 r18 r15 w16 r12 h24 x23 x13 x19 ih))
noncomputable def S16 (ih : Handler) (n : Nat) (x0 : IV) (x1 : IV) (h2 : Hp) : Option (IV × Hp) :=
  boxS 16777216 x0 h2 fun x3 h4 _ _ => boxS 16777217 x1 h4 fun x7 h8 _ _ => loadA 3 x3 h8 fun x11 r12 => chkS [] r12 [] (isoS [] false false ih 39 [x11] h8 fun x13 h14 r15 w16 => chkS [] r15 w16 (S16_66 h14 x7 r15 w16 r12 ih x13))
theorem S16_ok (ih : Handler) (n : Nat) (x0 : IV) (x1 : IV) (h2 : Hp) : funS EE ih ft.get n 16 [x0, x1] h2 = S16 ih n x0 x1 h2 := by kernel_rfl
/-! Function 17. -/
noncomputable def S17_52 (r43 : List Ref) (w44 : List Ref) (r41 : List Ref) (h42 : Hp) (x6 : IV) (x40 : IV) : Option (IV × Hp) :=
  chkS [(r41, [])] r43 w44 (cellS true 3 x6 h42 fun x45 => outS1 [x45, x40] h42)
noncomputable def S17_53 (x11 : IV) (h29 : Hp) (x6 : IV) (x37 : IV) : Option (IV × Hp) :=
  nilS x11 fun x38 => faddrS 2 x38 fun x39 => load1 x39 h29 fun x40 r41 => chkS [] r41 [] (storeA 3 x6 x37 h29 fun h42 r43 w44 => S17_52 r43 w44 r41 h42 x6 x40)
noncomputable def S17_54 (h29 : Hp) (x6 : IV) (x46 : IV) : Option (IV × Hp) :=
  storeA 3 x6 x46 h29 fun h48 _ _ => cellS true 3 x6 h48 fun x51 => outS1 [x51, .fv (.int .i64 0)] h48
noncomputable def S17_55 (h29 : Hp) (x33 : IV) (x11 : IV) (x6 : IV) (x25 : IV) : Option (IV × Hp) :=
  load1 x33 h29 fun x34 _ => neS EE 3 x34 (.fv (.int .i64 0)) fun x36 => condS x36 (bldS [.fv (.int .i64 0), .fv (.int .i64 0), .nils] [] fun x37 => S17_53 x11 h29 x6 x37) (loadA 3 x25 h29 fun x46 _ => S17_54 h29 x6 x46)
noncomputable def S17_56 (ih : Handler) (h18 : Hp) (x11 : IV) (x17 : IV) (x6 : IV) : Option (IV × Hp) :=
  isoS [true, false, false, false] false false ih 41 [x11, x17, .fv (.int .i64 0), .fv (.int .i64 1)] h18 fun x21 h22 _ _ => newS 17827845 (.row [.fv (.int .i64 0), .fv (.int .i64 0), .nils] false) (.ptr (.own 17827845) 0) h22 fun x25 h26 _ _ => storeA 3 x25 x21 h26 fun h29 _ _ => nilS x11 fun x32 => faddrS 2 x32 fun x33 => S17_55 h29 x33 x11 x6 x25
noncomputable def S17 (ih : Handler) (n : Nat) (x0 : IV) (h1 : Hp) : Option (IV × Hp) :=
  boxS 17825792 x0 h1 fun x2 h3 _ _ => newS 17825793 (.row [.fv (.int .i64 0), .fv (.int .i64 0), .nils] false) (.ptr (.own 17825793) 0) h3 fun x6 h7 _ _ => bldS [.fv (.int .i64 0), .fv (.int .i64 0), .fv (.int .i64 0)] [] fun x10 => boxS 17826817 x10 h7 fun x11 h12 _ _ => loadA 3 x2 h12 fun x15 _ => isoS [true, false, false] false false ih 42 [x11, x15, .nils] h12 fun x17 h18 _ _ => S17_56 ih h18 x11 x17 x6
theorem S17_ok (ih : Handler) (n : Nat) (x0 : IV) (h1 : Hp) : funS EE ih ft.get n 17 [x0] h1 = S17 ih n x0 h1 := by kernel_rfl
/-! Function 18. -/
noncomputable def S18_32 (x11 : IV) (q6 : List IV → Hp → Option (IV × Hp)) (h24 : Hp) (x9 : IV) (x27 : IV) : Option (IV × Hp) :=
  addS EE 3 x11 (.fv (.int .i64 1)) fun x28 => q6 [x9, x27, x28] h24
noncomputable def S18_33 (h8 : Hp) (x17 : IV) (x11 : IV) (ih : Handler) (x10 : IV) (q6 : List IV → Hp → Option (IV × Hp)) (x9 : IV) : Option (IV × Hp) :=
  load1 x17 h8 fun x18 _ => ixS 3 x18 x11 fun x20 => loadA 3 x20 h8 fun x21 _ => isoS [] false false ih 18 [x21] h8 fun x23 h24 _ _ => addS EE 3 x10 x23 fun x27 => S18_32 x11 q6 h24 x9 x27
noncomputable def S18_34 (x13 : IV) (x11 : IV) (x9 : IV) (h8 : Hp) (ih : Handler) (x10 : IV) (q6 : List IV → Hp → Option (IV × Hp)) : Option (IV × Hp) :=
  lenS x13 fun x15 => ltS EE 3 x11 x15 fun x16 => condS x16 (faddrS 2 x9 fun x17 => S18_33 h8 x17 x11 ih x10 q6 x9) (outS1 [x10] h8)
noncomputable def S18_35 (l7 : List IV) (h8 : Hp) (ih : Handler) (q6 : List IV → Hp → Option (IV × Hp)) : Option (IV × Hp) :=
  uncS l7 fun x9 l29 => uncS l29 fun x10 l30 => uncS l30 fun x11 _ => faddrS 2 x9 fun x12 => load1 x12 h8 fun x13 _ => S18_34 x13 x11 x9 h8 ih x10 q6
noncomputable def S18 (ih : Handler) (n : Nat) (x0 : IV) (h1 : Hp) : Option (IV × Hp) :=
  boxS 18874368 x0 h1 fun x2 h3 _ _ => loopS n (fun q6 l7 h8 => S18_35 l7 h8 ih q6) [x2, .fv (.int .i64 1), .fv (.int .i64 0)] h3
theorem S18_ok (ih : Handler) (n : Nat) (x0 : IV) (h1 : Hp) : funS EE ih ft.get n 18 [x0] h1 = S18 ih n x0 h1 := by kernel_rfl
/-! Function 19. -/
noncomputable def S19_179 (r49 : List Ref) (w50 : List Ref) (h48 : Hp) (x12 : IV) : Option (IV × Hp) :=
  chkS [] r49 w50 (cellS true 3 x12 h48 fun x51 => outS1 [x51] h48)
noncomputable def S19_180 (h37 : Hp) (x32 : IV) (x36 : IV) (ih : Handler) (x12 : IV) : Option (IV × Hp) :=
  genS (pcBuildSlice EE 29 2 [(0, x32), (1, x36)]) 19927043 h37 fun x40 h41 r42 w43 => chkS [] r42 w43 (isoS [] false false ih 24 [.fv (.int .i64 4), x40] h41 fun x44 h45 r46 w47 => chkS [] r46 w47 (storeA 3 x12 x44 h45 fun h48 r49 w50 => S19_179 r49 w50 h48 x12))
noncomputable def S19_181 (r33 : List Ref) (h28 : Hp) (x8 : IV) (ih : Handler) (x32 : IV) (x12 : IV) : Option (IV × Hp) :=
  chkS [] r33 [] (loadA 3 x8 h28 fun x34 r35 => chkS [(r33, [])] r35 [] (isoS [] false false ih 25 [x34, .fv (.int .i64 1), .fv (.int .i64 0)] h28 fun x36 h37 r38 w39 => chkS [(r33, [])] r38 w39 (S19_180 h37 x32 x36 ih x12)))
noncomputable def S19_182 (r80 : List Ref) (w81 : List Ref) (h79 : Hp) (x12 : IV) : Option (IV × Hp) :=
  chkS [] r80 w81 (cellS true 3 x12 h79 fun x82 => outS1 [x82] h79)
noncomputable def S19_183 (h68 : Hp) (x61 : IV) (x65 : IV) (x67 : IV) (ih : Handler) (x12 : IV) : Option (IV × Hp) :=
  genS (pcBuildSlice EE 29 3 [(0, x61), (1, x65), (2, x67)]) 19929094 h68 fun x71 h72 r73 w74 => chkS [] r73 w74 (isoS [] false false ih 24 [.fv (.int .i64 7), x71] h72 fun x75 h76 r77 w78 => chkS [] r77 w78 (storeA 3 x12 x75 h76 fun h79 r80 w81 => S19_182 r80 w81 h79 x12))
noncomputable def S19_184 (r63 : List Ref) (w64 : List Ref) (h62 : Hp) (x8 : IV) (r59 : List Ref) (w60 : List Ref) (r56 : List Ref) (r54 : List Ref) (ih : Handler) (x61 : IV) (x12 : IV) : Option (IV × Hp) :=
  chkS [] r63 w64 (loadA 3 x8 h62 fun x65 r66 => chkS [(r63, w64), (r59, w60), (r56, []), (r54, [])] r66 [] (isoS [] false false ih 24 [.fv (.int .i64 11), .nils] h62 fun x67 h68 r69 w70 => chkS [(r66, [])] r69 w70 (S19_183 h68 x61 x65 x67 ih x12)))
noncomputable def S19_185 (h28 : Hp) (x20 : IV) (r54 : List Ref) (x53 : IV) (ih : Handler) (x8 : IV) (x12 : IV) : Option (IV × Hp) :=
  loadA 3 x20 h28 fun x55 r56 => chkS [(r54, [])] r56 [] (genS (pcBuildSlice EE 29 2 [(0, x53), (1, x55)]) 19929090 h28 fun x57 h58 r59 w60 => chkS [] r59 w60 (isoS [] false false ih 24 [.fv (.int .i64 6), x57] h58 fun x61 h62 r63 w64 => S19_184 r63 w64 h62 x8 r59 w60 r56 r54 ih x61 x12))
noncomputable def S19_186 (r109 : List Ref) (w110 : List Ref) (h108 : Hp) (x12 : IV) : Option (IV × Hp) :=
  chkS [] r109 w110 (cellS true 3 x12 h108 fun x111 => outS1 [x111] h108)
noncomputable def S19_187 (h95 : Hp) (x94 : IV) (x98 : IV) (ih : Handler) (x12 : IV) : Option (IV × Hp) :=
  genS (pcBuildSlice EE 29 2 [(0, x94), (1, x98)]) 19931141 h95 fun x100 h101 r102 w103 => chkS [] r102 w103 (isoS [] false false ih 24 [.fv (.int .i64 5), x100] h101 fun x104 h105 r106 w107 => chkS [] r106 w107 (storeA 3 x12 x104 h105 fun h108 r109 w110 => S19_186 r109 w110 h108 x12))
noncomputable def S19_188 (r92 : List Ref) (w93 : List Ref) (ih : Handler) (h91 : Hp) (x90 : IV) (x8 : IV) (r88 : List Ref) (w89 : List Ref) (r85 : List Ref) (x12 : IV) : Option (IV × Hp) :=
  chkS [] r92 w93 (isoS [] false false ih 24 [.fv (.int .i64 4), x90] h91 fun x94 h95 r96 w97 => chkS [] r96 w97 (loadA 3 x8 h95 fun x98 r99 => chkS [(r96, w97), (r92, w93), (r88, w89), (r85, [])] r99 [] (S19_187 h95 x94 x98 ih x12)))
noncomputable def S19_189 (h28 : Hp) (x4 : IV) (ih : Handler) (x8 : IV) (x12 : IV) : Option (IV × Hp) :=
  loadA 3 x4 h28 fun x84 r85 => chkS [] r85 [] (isoS [] false false ih 26 [.fv (.int .i64 0)] h28 fun x86 h87 r88 w89 => chkS [(r85, [])] r88 w89 (genS (pcBuildSlice EE 29 2 [(0, x84), (1, x86)]) 19931138 h87 fun x90 h91 r92 w93 => S19_188 r92 w93 ih h91 x90 x8 r88 w89 r85 x12))
noncomputable def S19_190 (ih : Handler) (h130 : Hp) (x129 : IV) (x12 : IV) : Option (IV × Hp) :=
  isoS [] false false ih 24 [.fv (.int .i64 13), x129] h130 fun x133 h134 r135 w136 => chkS [] r135 w136 (storeA 3 x12 x133 h134 fun h137 r138 w139 => chkS [] r138 w139 (cellS true 3 x12 h137 fun x140 => outS1 [x140] h137))
noncomputable def S19_191 (r123 : List Ref) (w124 : List Ref) (r120 : List Ref) (ih : Handler) (h122 : Hp) (x115 : IV) (x119 : IV) (x121 : IV) (x12 : IV) : Option (IV × Hp) :=
  chkS [(r120, [])] r123 w124 (isoS [] false false ih 29 [.fv (.int .i64 1)] h122 fun x125 h126 r127 w128 => chkS [(r120, [])] r127 w128 (genS (pcBuildSlice EE 29 4 [(0, x115), (1, x119), (2, x121), (3, x125)]) 19933189 h126 fun x129 h130 r131 w132 => chkS [] r131 w132 (S19_190 ih h130 x129 x12)))
noncomputable def S19_192 (ih : Handler) (h28 : Hp) (x113 : IV) (x8 : IV) (r114 : List Ref) (x12 : IV) : Option (IV × Hp) :=
  isoS [] false false ih 25 [x113, .fv (.int .i64 1), .fv (.int .i64 0)] h28 fun x115 h116 r117 w118 => chkS [] r117 w118 (loadA 3 x8 h116 fun x119 r120 => chkS [(r117, w118), (r114, [])] r120 [] (isoS [] false false ih 26 [.fv (.int .i64 0)] h116 fun x121 h122 r123 w124 => S19_191 r123 w124 r120 ih h122 x115 x119 x121 x12))
noncomputable def S19_193 (h175 : Hp) (x12 : IV) : Option (IV × Hp) :=
  cellS true 3 x12 h175 fun x178 => outS1 [x178] h175
noncomputable def S19_194 (r169 : List Ref) (w170 : List Ref) (ih : Handler) (h168 : Hp) (x167 : IV) (x12 : IV) : Option (IV × Hp) :=
  chkS [] r169 w170 (isoS [] false false ih 24 [.fv (.int .i64 8), x167] h168 fun x171 h172 r173 w174 => chkS [] r173 w174 (storeA 3 x12 x171 h172 fun h175 r176 w177 => chkS [] r176 w177 (S19_193 h175 x12)))
noncomputable def S19_195 (h156 : Hp) (x149 : IV) (x153 : IV) (x155 : IV) (ih : Handler) (x12 : IV) : Option (IV × Hp) :=
  genS (pcBuildSlice EE 29 3 [(0, x149), (1, x153), (2, x155)]) 19934214 h156 fun x159 h160 r161 w162 => chkS [] r161 w162 (isoS [] false false ih 24 [.fv (.int .i64 7), x159] h160 fun x163 h164 r165 w166 => chkS [] r165 w166 (genS (pcBuildSlice EE 29 1 [(0, x163)]) 19934216 h164 fun x167 h168 r169 w170 => S19_194 r169 w170 ih h168 x167 x12))
noncomputable def S19_196 (r151 : List Ref) (w152 : List Ref) (h150 : Hp) (x8 : IV) (r147 : List Ref) (w148 : List Ref) (r144 : List Ref) (r142 : List Ref) (ih : Handler) (x149 : IV) (x12 : IV) : Option (IV × Hp) :=
  chkS [] r151 w152 (loadA 3 x8 h150 fun x153 r154 => chkS [(r151, w152), (r147, w148), (r144, []), (r142, [])] r154 [] (isoS [] false false ih 24 [.fv (.int .i64 11), .nils] h150 fun x155 h156 r157 w158 => chkS [(r154, [])] r157 w158 (S19_195 h156 x149 x153 x155 ih x12)))
noncomputable def S19_197 (h28 : Hp) (x20 : IV) (r142 : List Ref) (x141 : IV) (ih : Handler) (x8 : IV) (x12 : IV) : Option (IV × Hp) :=
  loadA 3 x20 h28 fun x143 r144 => chkS [(r142, [])] r144 [] (genS (pcBuildSlice EE 29 2 [(0, x141), (1, x143)]) 19934210 h28 fun x145 h146 r147 w148 => chkS [] r147 w148 (isoS [] false false ih 24 [.fv (.int .i64 6), x145] h146 fun x149 h150 r151 w152 => S19_196 r151 w152 h150 x8 r147 w148 r144 r142 ih x149 x12))
noncomputable def S19_198 (x27 : IV) (h28 : Hp) (x4 : IV) (ih : Handler) (x8 : IV) (x12 : IV) (x20 : IV) : Option (IV × Hp) :=
  eqS EE 3 x27 (.fv (.int .i64 3)) fun x112 => condS x112 (loadA 3 x4 h28 fun x113 r114 => chkS [] r114 [] (S19_192 ih h28 x113 x8 r114 x12)) (loadA 3 x4 h28 fun x141 r142 => chkS [] r142 [] (S19_197 h28 x20 r142 x141 ih x8 x12))
noncomputable def S19_199 (x52 : IV) (h28 : Hp) (x4 : IV) (x20 : IV) (ih : Handler) (x8 : IV) (x12 : IV) (x27 : IV) : Option (IV × Hp) :=
  condS x52 (loadA 3 x4 h28 fun x53 r54 => chkS [] r54 [] (S19_185 h28 x20 r54 x53 ih x8 x12)) (eqS EE 3 x27 (.fv (.int .i64 2)) fun x83 => condS x83 (S19_189 h28 x4 ih x8 x12) (S19_198 x27 h28 x4 ih x8 x12 x20))
noncomputable def S19_200 (ih : Handler) (h24 : Hp) (x2 : IV) (x20 : IV) (x8 : IV) (x12 : IV) (x4 : IV) : Option (IV × Hp) :=
  isoS [] false false ih 28 [x2, .fv (.int .i64 5)] h24 fun x27 h28 _ _ => eqS EE 3 x27 (.fv (.int .i64 0)) fun x31 => condS x31 (loadA 3 x20 h28 fun x32 r33 => S19_181 r33 h28 x8 ih x32 x12) (eqS EE 3 x27 (.fv (.int .i64 1)) fun x52 => S19_199 x52 h28 x4 x20 ih x8 x12 x27)
noncomputable def S19 (ih : Handler) (n : Nat) (x0 : IV) (x1 : IV) (x2 : IV) (h3 : Hp) : Option (IV × Hp) :=
  boxS 19922944 x0 h3 fun x4 h5 _ _ => boxS 19922945 x1 h5 fun x8 h9 _ _ => newS 19922946 (.row [.fv (.int .i64 0), .fv (.int .i64 0), .nils] false) (.ptr (.own 19922946) 0) h9 fun x12 h13 _ _ => isoS [] false false ih 24 [.fv (.int .i64 10), .nils] h13 fun x16 h17 _ _ => newS 19923969 (.row [.fv (.int .i64 0), .fv (.int .i64 0), .nils] false) (.ptr (.own 19923969) 0) h17 fun x20 h21 _ _ => storeA 3 x20 x16 h21 fun h24 _ _ => S19_200 ih h24 x2 x20 x8 x12 x4
theorem S19_ok (ih : Handler) (n : Nat) (x0 : IV) (x1 : IV) (x2 : IV) (h3 : Hp) : funS EE ih ft.get n 19 [x0, x1, x2] h3 = S19 ih n x0 x1 x2 h3 := by kernel_rfl
/-! Function 20. -/
noncomputable def S20_80 (x7 : IV) (h1 : Hp) (h24 : Hp) (x5 : IV) (x23 : IV) (q2 : List IV → Hp → Option (IV × Hp)) : Option (IV × Hp) :=
  addS EE 3 x7 (.fv (.int .i64 1)) fun x25 => dropS (h1.own.map (·.1)) [20977674] [x5, x23, x25] h24 fun h26 => q2 [x5, x23, x25] h26
noncomputable def S20_81 (ih : Handler) (h53 : Hp) (x6 : IV) (x59 : IV) (j1_56 : IV → Hp → Option (IV × Hp)) : Option (IV × Hp) :=
  isoS [] false false ih 22 [x6, .fv (.int .i64 0), x59] h53 fun x61 h62 _ _ => j1_56 x61 h62
noncomputable def S20_82 (r54 : List Ref) (w55 : List Ref) (j1_22 : IV → Hp → Option (IV × Hp)) (x48 : IV) (h53 : Hp) (x49 : IV) (ih : Handler) (x6 : IV) : Option (IV × Hp) :=
  chkS [] r54 w55 ((fun (j1_56 : IV → Hp → Option (IV × Hp)) => condS x48 (loadA 3 x49 h53 fun x59 _ => S20_81 ih h53 x6 x59 j1_56) (j1_56 x6 h53)) fun x57 h58 => j1_22 x57 h58)
noncomputable def S20_83 (x43 : IV) (h44 : Hp) (r45 : List Ref) (w46 : List Ref) (r42 : List Ref) (r38 : List Ref) (w39 : List Ref) (j1_22 : IV → Hp → Option (IV × Hp)) (ih : Handler) (x6 : IV) : Option (IV × Hp) :=
  extS 0 x43 fun x47 => extS 1 x43 fun x48 => newS 20977674 (.row [.fv (.int .i64 0), .fv (.int .i64 0), .nils] false) (.ptr (.own 20977674) 0) h44 fun x49 h50 r51 w52 => chkS [(r45, w46), (r42, []), (r38, w39)] r51 w52 (storeA 3 x49 x47 h50 fun h53 r54 w55 => S20_82 r54 w55 j1_22 x48 h53 x49 ih x6)
noncomputable def S20_84 (x5 : IV) (x7 : IV) (h37 : Hp) (r38 : List Ref) (w39 : List Ref) (ih : Handler) (x6 : IV) (x36 : IV) (j1_22 : IV → Hp → Option (IV × Hp)) : Option (IV × Hp) :=
  ixS 3 x5 x7 fun x40 => loadA 3 x40 h37 fun x41 r42 => chkS [(r38, w39)] r42 [] (isoS [] false false ih 23 [x6, x36, x41, .fv (.int .i64 2)] h37 fun x43 h44 r45 w46 => chkS [] r45 w46 (S20_83 x43 h44 r45 w46 r42 r38 w39 j1_22 ih x6))
noncomputable def S20_85 (ih : Handler) (h32 : Hp) (x6 : IV) (x66 : IV) (j1_22 : IV → Hp → Option (IV × Hp)) : Option (IV × Hp) :=
  isoS [] false false ih 21 [x6, x66, .fv (.int .i64 2)] h32 fun x68 h69 _ _ => isoS [] false false ih 22 [x6, .fv (.int .i64 1), x68] h69 fun x72 h73 _ _ => j1_22 x72 h73
noncomputable def S20_86 (x35 : IV) (ih : Handler) (h32 : Hp) (x5 : IV) (x7 : IV) (x6 : IV) (j1_22 : IV → Hp → Option (IV × Hp)) : Option (IV × Hp) :=
  condS x35 (isoS [] false false ih 24 [.fv (.int .i64 14), .nils] h32 fun x36 h37 r38 w39 => chkS [] r38 w39 (S20_84 x5 x7 h37 r38 w39 ih x6 x36 j1_22)) (ixS 3 x5 x7 fun x65 => loadA 3 x65 h32 fun x66 _ => S20_85 ih h32 x6 x66 j1_22)
noncomputable def S20_87 (x5 : IV) (x7 : IV) (h18 : Hp) (ih : Handler) (x6 : IV) (j1_22 : IV → Hp → Option (IV × Hp)) : Option (IV × Hp) :=
  ixS 3 x5 x7 fun x27 => faddrS 1 x27 fun x28 => load1 x28 h18 fun x29 _ => isoS [] false false ih 43 [x29, .fv (.int .i64 3)] h18 fun x31 h32 _ _ => eqS EE 3 x31 (.fv (.int .i64 0)) fun x35 => S20_86 x35 ih h32 x5 x7 x6 j1_22
noncomputable def S20_88 (h4 : Hp) (x9 : IV) (x7 : IV) (h1 : Hp) (x5 : IV) (q2 : List IV → Hp → Option (IV × Hp)) (ih : Handler) (x6 : IV) : Option (IV × Hp) :=
  guardS x9 true h4 (fun k10 => k10 x7 h4 [] []) fun x11 h12 _ _ => guardS x9 true h12 (fun k15 => ltS EE 3 x11 (.fv (.int .i64 4)) fun x16 => k15 x16 h12 [] []) fun x17 h18 _ _ => pickS x9 x17 (.fv (.bool false)) fun x21 => condS x21 ((fun (j1_22 : IV → Hp → Option (IV × Hp)) => S20_87 x5 x7 h18 ih x6 j1_22) fun x23 h24 => S20_80 x7 h1 h24 x5 x23 q2) (outS1 [x6] h18)
noncomputable def S20_89 (l3 : List IV) (h4 : Hp) (h1 : Hp) (q2 : List IV → Hp → Option (IV × Hp)) (ih : Handler) : Option (IV × Hp) :=
  uncS l3 fun x5 l76 => uncS l76 fun x6 l77 => uncS l77 fun x7 _ => lenS x5 fun x8 => ltS EE 3 x7 x8 fun x9 => S20_88 h4 x9 x7 h1 x5 q2 ih x6
noncomputable def S20 (ih : Handler) (n : Nat) (x0 : IV) (h1 : Hp) : Option (IV × Hp) :=
  dropS (h1.own.map (·.1)) [20977674] [x0, .nils, .fv (.int .i64 0)] h1 fun h79 => loopS n (fun q2 l3 h4 => S20_89 l3 h4 h1 q2 ih) [x0, .nils, .fv (.int .i64 0)] h79
theorem S20_ok (ih : Handler) (n : Nat) (x0 : IV) (h1 : Hp) : funS EE ih ft.get n 20 [x0] h1 = S20 ih n x0 h1 := by kernel_rfl
/-! Function 21. -/
noncomputable def S21_237 (h29 : Hp) (x8 : IV) : Option (IV × Hp) :=
  cellS true 3 x8 h29 fun x32 => outS1 [x32] h29
noncomputable def S21_238 (ih : Handler) (h24 : Hp) (x8 : IV) : Option (IV × Hp) :=
  isoS [] false false ih 24 [.fv (.int .i64 14), .nils] h24 fun x34 h35 _ _ => storeA 3 x8 x34 h35 fun h38 _ _ => cellS true 3 x8 h38 fun x41 => outS1 [x41] h38
noncomputable def S21_239 (h46 : Hp) (x45 : IV) (ih : Handler) (x8 : IV) : Option (IV × Hp) :=
  genS (pcBuildSlice EE 29 1 [(0, x45)]) 22031362 h46 fun x49 h50 _ _ => isoS [] false false ih 24 [.fv (.int .i64 18), x49] h50 fun x53 h54 _ _ => storeA 3 x8 x53 h54 fun h57 _ _ => cellS true 3 x8 h57 fun x60 => outS1 [x60] h57
noncomputable def S21_240 (ih : Handler) (h24 : Hp) (x8 : IV) : Option (IV × Hp) :=
  isoS [] false false ih 45 [.fv (.int .i64 0)] h24 fun x62 h63 _ _ => storeA 3 x8 x62 h63 fun h66 _ _ => cellS true 3 x8 h66 fun x69 => outS1 [x69] h66
noncomputable def S21_241 (r116 : List Ref) (w117 : List Ref) (h115 : Hp) (x8 : IV) (x114 : IV) : Option (IV × Hp) :=
  chkS [] r116 w117 (storeA 3 x8 x114 h115 fun h118 r119 w120 => chkS [] r119 w120 (cellS true 3 x8 h118 fun x121 => outS1 [x121] h118))
noncomputable def S21_242 (ih : Handler) (h102 : Hp) (x95 : IV) (x101 : IV) (x105 : IV) (r92 : List Ref) (x91 : IV) (x8 : IV) : Option (IV × Hp) :=
  isoS [] false false ih 21 [x95, x101, x105] h102 fun x106 h107 r108 w109 => chkS [(r92, [])] r108 w109 (genS (pcBuildSlice EE 29 2 [(0, x91), (1, x106)]) 22037513 h107 fun x110 h111 r112 w113 => chkS [] r112 w113 (isoS [] false false ih 24 [.fv (.int .i64 3), x110] h111 fun x114 h115 r116 w117 => S21_241 r116 w117 h115 x8 x114))
noncomputable def S21_243 (h96 : Hp) (x4 : IV) (r97 : List Ref) (w98 : List Ref) (r94 : List Ref) (r92 : List Ref) (ih : Handler) (x2 : IV) (x95 : IV) (x91 : IV) (x8 : IV) : Option (IV × Hp) :=
  loadA 3 x4 h96 fun x99 r100 => chkS [(r97, w98), (r94, []), (r92, [])] r100 [] (isoS [] false false ih 46 [x99, .fv (.int .i64 1)] h96 fun x101 h102 r103 w104 => chkS [(r92, [])] r103 w104 (subS EE 3 x2 (.fv (.int .i64 1)) fun x105 => S21_242 ih h102 x95 x101 x105 r92 x91 x8))
noncomputable def S21_244 (r92 : List Ref) (h88 : Hp) (x84 : IV) (ih : Handler) (x0 : IV) (x4 : IV) (x2 : IV) (x91 : IV) (x8 : IV) : Option (IV × Hp) :=
  chkS [] r92 [] (loadA 3 x84 h88 fun x93 r94 => chkS [(r92, [])] r94 [] (isoS [] false false ih 22 [x0, .fv (.int .i64 1), x93] h88 fun x95 h96 r97 w98 => chkS [(r92, [])] r97 w98 (S21_243 h96 x4 r97 w98 r94 r92 ih x2 x95 x91 x8)))
noncomputable def S21_245 (x2 : IV) (ih : Handler) (h76 : Hp) (x0 : IV) (x75 : IV) (x4 : IV) (x8 : IV) : Option (IV × Hp) :=
  subS EE 3 x2 (.fv (.int .i64 1)) fun x79 => isoS [] false false ih 21 [x0, x75, x79] h76 fun x80 h81 _ _ => newS 22036486 (.row [.fv (.int .i64 0), .fv (.int .i64 0), .nils] false) (.ptr (.own 22036486) 0) h81 fun x84 h85 _ _ => storeA 3 x84 x80 h85 fun h88 _ _ => loadA 3 x84 h88 fun x91 r92 => S21_244 r92 h88 x84 ih x0 x4 x2 x91 x8
noncomputable def S21_246 (h168 : Hp) (x8 : IV) : Option (IV × Hp) :=
  cellS true 3 x8 h168 fun x171 => outS1 [x171] h168
noncomputable def S21_247 (r162 : List Ref) (w163 : List Ref) (ih : Handler) (h161 : Hp) (x160 : IV) (x8 : IV) : Option (IV × Hp) :=
  chkS [] r162 w163 (isoS [] false false ih 24 [.fv (.int .i64 6), x160] h161 fun x164 h165 r166 w167 => chkS [] r166 w167 (storeA 3 x8 x164 h165 fun h168 r169 w170 => chkS [] r169 w170 (S21_246 h168 x8)))
noncomputable def S21_248 (r153 : List Ref) (w154 : List Ref) (r142 : List Ref) (x2 : IV) (ih : Handler) (h152 : Hp) (x145 : IV) (x151 : IV) (x141 : IV) (x8 : IV) : Option (IV × Hp) :=
  chkS [(r142, [])] r153 w154 (subS EE 3 x2 (.fv (.int .i64 1)) fun x155 => isoS [] false false ih 21 [x145, x151, x155] h152 fun x156 h157 r158 w159 => chkS [(r142, [])] r158 w159 (genS (pcBuildSlice EE 29 2 [(0, x141), (1, x156)]) 22040585 h157 fun x160 h161 r162 w163 => S21_247 r162 w163 ih h161 x160 x8))
noncomputable def S21_249 (ih : Handler) (h138 : Hp) (x0 : IV) (x143 : IV) (r142 : List Ref) (x4 : IV) (r144 : List Ref) (x2 : IV) (x141 : IV) (x8 : IV) : Option (IV × Hp) :=
  isoS [] false false ih 22 [x0, .fv (.int .i64 1), x143] h138 fun x145 h146 r147 w148 => chkS [(r142, [])] r147 w148 (loadA 3 x4 h146 fun x149 r150 => chkS [(r147, w148), (r144, []), (r142, [])] r150 [] (isoS [] false false ih 46 [x149, .fv (.int .i64 1)] h146 fun x151 h152 r153 w154 => S21_248 r153 w154 r142 x2 ih h152 x145 x151 x141 x8))
noncomputable def S21_250 (h135 : Hp) (x134 : IV) (x130 : IV) (ih : Handler) (x0 : IV) (x4 : IV) (x2 : IV) (x8 : IV) : Option (IV × Hp) :=
  storeA 3 x134 x130 h135 fun h138 _ _ => loadA 3 x134 h138 fun x141 r142 => chkS [] r142 [] (loadA 3 x134 h138 fun x143 r144 => chkS [(r142, [])] r144 [] (S21_249 ih h138 x0 x143 r142 x4 r144 x2 x141 x8))
noncomputable def S21_251 (h72 : Hp) (x4 : IV) (ih : Handler) (x2 : IV) (x0 : IV) (x8 : IV) : Option (IV × Hp) :=
  loadA 3 x4 h72 fun x123 _ => isoS [] false false ih 46 [x123, .fv (.int .i64 0)] h72 fun x125 h126 _ _ => subS EE 3 x2 (.fv (.int .i64 1)) fun x129 => isoS [] false false ih 21 [x0, x125, x129] h126 fun x130 h131 _ _ => newS 22039558 (.row [.fv (.int .i64 0), .fv (.int .i64 0), .nils] false) (.ptr (.own 22039558) 0) h131 fun x134 h135 _ _ => S21_250 h135 x134 x130 ih x0 x4 x2 x8
noncomputable def S21_252 (h201 : Hp) (x8 : IV) : Option (IV × Hp) :=
  cellS true 3 x8 h201 fun x204 => outS1 [x204] h201
noncomputable def S21_253 (ih : Handler) (h208 : Hp) (x207 : IV) (x8 : IV) : Option (IV × Hp) :=
  isoS [] false false ih 24 [.fv (.int .i64 18), x207] h208 fun x211 h212 _ _ => storeA 3 x8 x211 h212 fun h215 _ _ => cellS true 3 x8 h215 fun x218 => outS1 [x218] h215
noncomputable def S21_254 (x188 : IV) (ih : Handler) (h193 : Hp) (x8 : IV) (x189 : IV) : Option (IV × Hp) :=
  optS (unR .not x188) fun x196 => condS x196 (isoS [] false false ih 44 [] h193 fun x197 h198 _ _ => storeA 3 x8 x197 h198 fun h201 _ _ => S21_252 h201 x8) (loadA 3 x189 h193 fun x205 _ => genS (pcBuildSlice EE 29 1 [(0, x205)]) 22044673 h193 fun x207 h208 _ _ => S21_253 ih h208 x207 x8)
noncomputable def S21_255 (x183 : IV) (h184 : Hp) (r185 : List Ref) (w186 : List Ref) (r180 : List Ref) (w181 : List Ref) (r177 : List Ref) (r174 : List Ref) (w175 : List Ref) (x187 : IV) (ih : Handler) (x8 : IV) : Option (IV × Hp) :=
  extS 1 x183 fun x188 => newS 22041610 (.row [.fv (.int .i64 0), .fv (.int .i64 0), .nils] false) (.ptr (.own 22041610) 0) h184 fun x189 h190 r191 w192 => chkS [(r185, w186), (r180, w181), (r177, []), (r174, w175)] r191 w192 (storeA 3 x189 x187 h190 fun h193 r194 w195 => chkS [] r194 w195 (S21_254 x188 ih h193 x8 x189))
noncomputable def S21_256 (r180 : List Ref) (w181 : List Ref) (x2 : IV) (ih : Handler) (h179 : Hp) (x0 : IV) (x172 : IV) (x178 : IV) (r177 : List Ref) (r174 : List Ref) (w175 : List Ref) (x8 : IV) : Option (IV × Hp) :=
  chkS [] r180 w181 (subS EE 3 x2 (.fv (.int .i64 1)) fun x182 => isoS [] false false ih 23 [x0, x172, x178, x182] h179 fun x183 h184 r185 w186 => chkS [] r185 w186 (extS 0 x183 fun x187 => S21_255 x183 h184 r185 w186 r180 w181 r177 r174 w175 x187 ih x8))
noncomputable def S21_257 (ih : Handler) (h72 : Hp) (x4 : IV) (x2 : IV) (x0 : IV) (x8 : IV) : Option (IV × Hp) :=
  isoS [] false false ih 24 [.fv (.int .i64 14), .nils] h72 fun x172 h173 r174 w175 => chkS [] r174 w175 (loadA 3 x4 h173 fun x176 r177 => chkS [(r174, w175)] r177 [] (isoS [] false false ih 46 [x176, .fv (.int .i64 0)] h173 fun x178 h179 r180 w181 => S21_256 r180 w181 x2 ih h179 x0 x172 x178 r177 r174 w175 x8))
noncomputable def S21_258 (x71 : IV) (h72 : Hp) (x4 : IV) (ih : Handler) (x2 : IV) (x0 : IV) (x8 : IV) (x20 : IV) : Option (IV × Hp) :=
  condS x71 (loadA 3 x4 h72 fun x73 _ => isoS [] false false ih 46 [x73, .fv (.int .i64 0)] h72 fun x75 h76 _ _ => S21_245 x2 ih h76 x0 x75 x4 x8) (eqS EE 3 x20 (.fv (.int .i64 7)) fun x122 => condS x122 (S21_251 h72 x4 ih x2 x0 x8) (S21_257 ih h72 x4 x2 x0 x8))
noncomputable def S21_259 (x4 : IV) (ih : Handler) (x2 : IV) (x0 : IV) (x8 : IV) (x20 : IV) (h24 : Hp) : Option (IV × Hp) :=
  (fun (j1_70 : IV → Hp → Option (IV × Hp)) => eqS EE 3 x20 (.fv (.int .i64 5)) fun x219 => condS x219 (j1_70 x219 h24) (eqS EE 3 x20 (.fv (.int .i64 6)) fun x220 => j1_70 x220 h24)) fun x71 h72 => S21_258 x71 h72 x4 ih x2 x0 x8 x20
noncomputable def S21_260 (x20 : IV) (h24 : Hp) (x4 : IV) (ih : Handler) (x8 : IV) (x2 : IV) (x0 : IV) : Option (IV × Hp) :=
  eqS EE 3 x20 (.fv (.int .i64 3)) fun x42 => condS x42 (loadA 3 x4 h24 fun x43 _ => isoS [] false false ih 34 [x43, .fv (.int .i64 1)] h24 fun x45 h46 _ _ => S21_239 h46 x45 ih x8) (eqS EE 3 x20 (.fv (.int .i64 4)) fun x61 => condS x61 (S21_240 ih h24 x8) (S21_259 x4 ih x2 x0 x8 x20 h24))
noncomputable def S21_261 (x23 : IV) (ih : Handler) (h24 : Hp) (x8 : IV) (x20 : IV) (x4 : IV) (x2 : IV) (x0 : IV) : Option (IV × Hp) :=
  condS x23 (isoS [] false false ih 44 [] h24 fun x25 h26 _ _ => storeA 3 x8 x25 h26 fun h29 _ _ => S21_237 h29 x8) (eqS EE 3 x20 (.fv (.int .i64 2)) fun x33 => condS x33 (S21_238 ih h24 x8) (S21_260 x20 h24 x4 ih x8 x2 x0))
noncomputable def S21_262 (ih : Handler) (x8 : IV) (x20 : IV) (x4 : IV) (x2 : IV) (x0 : IV) (h21 : Hp) : Option (IV × Hp) :=
  (fun (j1_22 : IV → Hp → Option (IV × Hp)) => eqS EE 3 x20 (.fv (.int .i64 0)) fun x221 => condS x221 (j1_22 x221 h21) (eqS EE 3 x20 (.fv (.int .i64 1)) fun x222 => j1_22 x222 h21)) fun x23 h24 => S21_261 x23 ih h24 x8 x20 x4 x2 x0
noncomputable def S21_263 (x15 : IV) (j1_19 : IV → Hp → Option (IV × Hp)) (h232 : Hp) : Option (IV × Hp) :=
  binS EE 3 .rem x15 (.fv (.int .i64 5)) fun x236 => j1_19 x236 h232
noncomputable def S21_264 (x2 : IV) (h16 : Hp) (x15 : IV) (j1_19 : IV → Hp → Option (IV × Hp)) : Option (IV × Hp) :=
  leS EE 3 x2 (.fv (.int .i64 0)) fun x223 => guardS x223 true h16 (fun k224 => k224 x15 h16 [] []) fun x225 h226 _ _ => guardS x223 true h226 (fun k229 => gtS EE 3 x225 (.fv (.int .i64 4)) fun x230 => k229 x230 h226 [] []) fun x231 h232 _ _ => pickS x223 x231 (.fv (.bool false)) fun x235 => condS x235 (S21_263 x15 j1_19 h232) (j1_19 x15 h232)
noncomputable def S21 (ih : Handler) (n : Nat) (x0 : IV) (x1 : IV) (x2 : IV) (h3 : Hp) : Option (IV × Hp) :=
  boxS 22020096 x1 h3 fun x4 h5 _ _ => newS 22020097 (.row [.fv (.int .i64 0), .fv (.int .i64 0), .nils] false) (.ptr (.own 22020097) 0) h5 fun x8 h9 _ _ => faddrS 0 x4 fun x12 => load1 x12 h9 fun x13 _ => isoS [] false false ih 43 [x13, .fv (.int .i64 9)] h9 fun x15 h16 _ _ => (fun (j1_19 : IV → Hp → Option (IV × Hp)) => S21_264 x2 h16 x15 j1_19) fun x20 h21 => S21_262 ih x8 x20 x4 x2 x0 h21
theorem S21_ok (ih : Handler) (n : Nat) (x0 : IV) (x1 : IV) (x2 : IV) (h3 : Hp) : funS EE ih ft.get n 21 [x0, x1, x2] h3 = S21 ih n x0 x1 x2 h3 := by kernel_rfl
/-! Function 22. -/
noncomputable def S22_27 (r25 : List Ref) (w26 : List Ref) (h24 : Hp) (x23 : IV) : Option (IV × Hp) :=
  chkS [] r25 w26 (outS1 [x23] h24)
noncomputable def S22_28 (r17 : List Ref) (r14 : List Ref) (w15 : List Ref) (r10 : List Ref) (w11 : List Ref) (x1 : IV) (x16 : IV) (h13 : Hp) (x12 : IV) : Option (IV × Hp) :=
  chkS [(r14, w15), (r10, w11)] r17 [] (bldS [.fv (.int .i64 0), .fv (.int .i64 0), .fv (.int .i64 0), .nils] [(0, 1, x1), (1, 3, x16)] fun x18 => genS (pcBuildSlice EE 28 1 [(0, x18)]) 23069702 h13 fun x19 h20 r21 w22 => chkS [(r14, w15), (r10, w11)] r21 w22 (genS (builtinR EE 23069703 false .append [28, 28] [x12, x19]) 23069703 h20 fun x23 h24 r25 w26 => S22_27 r25 w26 h24 x23))
noncomputable def S22 (ih : Handler) (n : Nat) (x0 : IV) (x1 : IV) (x2 : IV) (h3 : Hp) : Option (IV × Hp) :=
  boxS 23068672 x2 h3 fun x4 h5 _ _ => genS (pcBuildSlice EE 28 0 []) 23069696 h5 fun x8 h9 r10 w11 => chkS [] r10 w11 (genS (builtinR EE 23069698 false .append [28, 28] [x8, x0]) 23069698 h9 fun x12 h13 r14 w15 => chkS [] r14 w15 (loadA 3 x4 h13 fun x16 r17 => S22_28 r17 r14 w15 r10 w11 x1 x16 h13 x12))
theorem S22_ok (ih : Handler) (n : Nat) (x0 : IV) (x1 : IV) (x2 : IV) (h3 : Hp) : funS EE ih ft.get n 22 [x0, x1, x2] h3 = S22 ih n x0 x1 x2 h3 := by kernel_rfl
/-! Function 23. -/
noncomputable def S23_346 (h25 : Hp) (x13 : IV) (x29 : IV) : Option (IV × Hp) :=
  storeA 3 x13 x29 h25 fun h30 _ _ => cellS true 3 x13 h30 fun x33 => outS1 [x33, .fv (.bool false)] h30
noncomputable def S23_347 (h91 : Hp) (x13 : IV) (x44 : IV) : Option (IV × Hp) :=
  cellS true 3 x13 h91 fun x94 => outS1 [x94, x44] h91
noncomputable def S23_348 (h126 : Hp) (x13 : IV) (x129 : IV) (x130 : IV) : Option (IV × Hp) :=
  storeA 3 x13 x129 h126 fun h131 _ _ => cellS true 3 x13 h131 fun x134 => outS1 [x134, x130] h131
noncomputable def S23_349 (h117 : Hp) (x5 : IV) (x9 : IV) (ih : Handler) (x0 : IV) (x3 : IV) (x13 : IV) : Option (IV × Hp) :=
  loadA 3 x5 h117 fun x121 _ => loadA 3 x9 h117 fun x123 _ => isoS [] false false ih 48 [x0, x121, x123, x3] h117 fun x125 h126 _ _ => extS 0 x125 fun x129 => extS 1 x125 fun x130 => S23_348 h126 x13 x129 x130
noncomputable def S23_350 (ih : Handler) (h140 : Hp) (x0 : IV) (x141 : IV) (x143 : IV) (x3 : IV) (x13 : IV) : Option (IV × Hp) :=
  isoS [] false false ih 49 [x0, x141, x143, x3] h140 fun x145 h146 _ _ => extS 0 x145 fun x149 => extS 1 x145 fun x150 => storeA 3 x13 x149 h146 fun h151 _ _ => cellS true 3 x13 h151 fun x154 => outS1 [x154, x150] h151
noncomputable def S23_351 (r209 : List Ref) (w210 : List Ref) (h208 : Hp) (x13 : IV) (x184 : IV) : Option (IV × Hp) :=
  chkS [] r209 w210 (cellS true 3 x13 h208 fun x211 => outS1 [x211, x184] h208)
noncomputable def S23_352 (h189 : Hp) (x196 : IV) (x198 : IV) (ih : Handler) (x13 : IV) (x184 : IV) : Option (IV × Hp) :=
  genS (pcBuildSlice EE 29 2 [(0, x196), (1, x198)]) 24133637 h189 fun x200 h201 r202 w203 => chkS [] r202 w203 (isoS [] false false ih 24 [.fv (.int .i64 4), x200] h201 fun x204 h205 r206 w207 => chkS [] r206 w207 (storeA 3 x13 x204 h205 fun h208 r209 w210 => S23_351 r209 w210 h208 x13 x184))
noncomputable def S23_353 (x193 : IV) (h189 : Hp) (x185 : IV) (r194 : List Ref) (ih : Handler) (x13 : IV) (x184 : IV) : Option (IV × Hp) :=
  ixS 3 x193 (.fv (.int .i64 0)) fun x195 => loadA 3 x195 h189 fun x196 r197 => chkS [] r197 [] (loadA 3 x185 h189 fun x198 r199 => chkS [(r197, []), (r194, [])] r199 [] (S23_352 h189 x196 x198 ih x13 x184))
noncomputable def S23_354 (h186 : Hp) (x185 : IV) (x183 : IV) (x5 : IV) (ih : Handler) (x13 : IV) (x184 : IV) : Option (IV × Hp) :=
  storeA 3 x185 x183 h186 fun h189 r190 w191 => chkS [] r190 w191 (faddrS 2 x5 fun x192 => load1 x192 h189 fun x193 r194 => chkS [] r194 [] (S23_353 x193 h189 x185 r194 ih x13 x184))
noncomputable def S23_355 (r181 : List Ref) (w182 : List Ref) (x179 : IV) (h180 : Hp) (r176 : List Ref) (w177 : List Ref) (r173 : List Ref) (r171 : List Ref) (r168 : List Ref) (r164 : List Ref) (w165 : List Ref) (r161 : List Ref) (r158 : List Ref) (x5 : IV) (ih : Handler) (x13 : IV) : Option (IV × Hp) :=
  chkS [] r181 w182 (extS 0 x179 fun x183 => extS 1 x179 fun x184 => newS 24132626 (.row [.fv (.int .i64 0), .fv (.int .i64 0), .nils] false) (.ptr (.own 24132626) 0) h180 fun x185 h186 r187 w188 => chkS [(r181, w182), (r176, w177), (r173, []), (r171, []), (r168, []), (r164, w165), (r161, []), (r158, [])] r187 w188 (S23_354 h186 x185 x183 x5 ih x13 x184))
noncomputable def S23_356 (r173 : List Ref) (r171 : List Ref) (r168 : List Ref) (r164 : List Ref) (w165 : List Ref) (r161 : List Ref) (r158 : List Ref) (ih : Handler) (h163 : Hp) (x172 : IV) (x3 : IV) (x162 : IV) (x170 : IV) (x5 : IV) (x13 : IV) : Option (IV × Hp) :=
  chkS [(r171, []), (r168, []), (r164, w165), (r161, []), (r158, [])] r173 [] (isoS [] false false ih 46 [x172, .fv (.int .i64 0)] h163 fun x174 h175 r176 w177 => chkS [(r171, []), (r168, [])] r176 w177 (subS EE 3 x3 (.fv (.int .i64 1)) fun x178 => isoS [] false false ih 23 [x162, x170, x174, x178] h175 fun x179 h180 r181 w182 => S23_355 r181 w182 x179 h180 r176 w177 r173 r171 r168 r164 w165 r161 r158 x5 ih x13))
noncomputable def S23_357 (r168 : List Ref) (r164 : List Ref) (w165 : List Ref) (r161 : List Ref) (r158 : List Ref) (x167 : IV) (h163 : Hp) (x9 : IV) (ih : Handler) (x3 : IV) (x162 : IV) (x5 : IV) (x13 : IV) : Option (IV × Hp) :=
  chkS [(r164, w165), (r161, []), (r158, [])] r168 [] (ixS 3 x167 (.fv (.int .i64 1)) fun x169 => loadA 3 x169 h163 fun x170 r171 => chkS [(r164, w165), (r161, []), (r158, [])] r171 [] (loadA 3 x9 h163 fun x172 r173 => S23_356 r173 r171 r168 r164 w165 r161 r158 ih h163 x172 x3 x162 x170 x5 x13))
noncomputable def S23_358 (r161 : List Ref) (ih : Handler) (h140 : Hp) (x0 : IV) (x160 : IV) (x5 : IV) (r158 : List Ref) (x9 : IV) (x3 : IV) (x13 : IV) : Option (IV × Hp) :=
  chkS [] r161 [] (isoS [] false false ih 22 [x0, .fv (.int .i64 1), x160] h140 fun x162 h163 r164 w165 => chkS [] r164 w165 (faddrS 2 x5 fun x166 => load1 x166 h163 fun x167 r168 => S23_357 r168 r164 w165 r161 r158 x167 h163 x9 ih x3 x162 x5 x13))
noncomputable def S23_359 (x5 : IV) (h140 : Hp) (ih : Handler) (x0 : IV) (x9 : IV) (x3 : IV) (x13 : IV) : Option (IV × Hp) :=
  faddrS 2 x5 fun x156 => load1 x156 h140 fun x157 r158 => chkS [] r158 [] (ixS 3 x157 (.fv (.int .i64 0)) fun x159 => loadA 3 x159 h140 fun x160 r161 => S23_358 r161 ih h140 x0 x160 x5 r158 x9 x3 x13)
noncomputable def S23_360 (h236 : Hp) (x13 : IV) (x240 : IV) (x44 : IV) : Option (IV × Hp) :=
  storeA 3 x13 x240 h236 fun h242 _ _ => cellS true 3 x13 h242 fun x245 => outS1 [x245, x44] h242
noncomputable def S23_361 (h275 : Hp) (x278 : IV) (x280 : IV) (x282 : IV) (ih : Handler) (x13 : IV) (x270 : IV) : Option (IV × Hp) :=
  genS (pcBuildSlice EE 29 3 [(0, x278), (1, x280), (2, x282)]) 24139779 h275 fun x284 h285 _ _ => isoS [] false false ih 24 [.fv (.int .i64 7), x284] h285 fun x288 h289 _ _ => storeA 3 x13 x288 h289 fun h292 _ _ => cellS true 3 x13 h292 fun x295 => outS1 [x295, x270] h292
noncomputable def S23_362 (h272 : Hp) (x271 : IV) (x269 : IV) (x5 : IV) (x232 : IV) (ih : Handler) (x13 : IV) (x270 : IV) : Option (IV × Hp) :=
  storeA 3 x271 x269 h272 fun h275 r276 w277 => chkS [] r276 w277 (loadA 3 x5 h275 fun x278 _ => loadA 3 x232 h275 fun x280 _ => loadA 3 x271 h275 fun x282 _ => S23_361 h275 x278 x280 x282 ih x13 x270)
noncomputable def S23_363 (r267 : List Ref) (w268 : List Ref) (x265 : IV) (h266 : Hp) (r262 : List Ref) (w263 : List Ref) (r259 : List Ref) (r256 : List Ref) (w257 : List Ref) (r253 : List Ref) (r251 : List Ref) (r248 : List Ref) (x5 : IV) (x232 : IV) (ih : Handler) (x13 : IV) : Option (IV × Hp) :=
  chkS [] r267 w268 (extS 0 x265 fun x269 => extS 1 x265 fun x270 => newS 24138767 (.row [.fv (.int .i64 0), .fv (.int .i64 0), .nils] false) (.ptr (.own 24138767) 0) h266 fun x271 h272 r273 w274 => chkS [(r267, w268), (r262, w263), (r259, []), (r256, w257), (r253, []), (r251, []), (r248, [])] r273 w274 (S23_362 h272 x271 x269 x5 x232 ih x13 x270))
noncomputable def S23_364 (r259 : List Ref) (r256 : List Ref) (w257 : List Ref) (r253 : List Ref) (r251 : List Ref) (r248 : List Ref) (ih : Handler) (h255 : Hp) (x258 : IV) (x3 : IV) (x0 : IV) (x254 : IV) (x5 : IV) (x232 : IV) (x13 : IV) : Option (IV × Hp) :=
  chkS [(r256, w257), (r253, []), (r251, []), (r248, [])] r259 [] (isoS [] false false ih 46 [x258, .fv (.int .i64 1)] h255 fun x260 h261 r262 w263 => chkS [] r262 w263 (subS EE 3 x3 (.fv (.int .i64 1)) fun x264 => isoS [] false false ih 23 [x0, x254, x260, x264] h261 fun x265 h266 r267 w268 => S23_363 r267 w268 x265 h266 r262 w263 r259 r256 w257 r253 r251 r248 x5 x232 ih x13))
noncomputable def S23_365 (h236 : Hp) (x232 : IV) (r251 : List Ref) (r248 : List Ref) (ih : Handler) (x250 : IV) (x9 : IV) (x3 : IV) (x0 : IV) (x5 : IV) (x13 : IV) : Option (IV × Hp) :=
  loadA 3 x232 h236 fun x252 r253 => chkS [(r251, []), (r248, [])] r253 [] (isoS [] false false ih 50 [x250, .fv (.int .i64 0), x252] h236 fun x254 h255 r256 w257 => chkS [] r256 w257 (loadA 3 x9 h255 fun x258 r259 => S23_364 r259 r256 w257 r253 r251 r248 ih h255 x258 x3 x0 x254 x5 x232 x13))
noncomputable def S23_366 (h236 : Hp) (x246 : IV) (x232 : IV) (ih : Handler) (x9 : IV) (x3 : IV) (x0 : IV) (x5 : IV) (x13 : IV) : Option (IV × Hp) :=
  load1 x246 h236 fun x247 r248 => chkS [] r248 [] (ixS 3 x247 (.fv (.int .i64 1)) fun x249 => loadA 3 x249 h236 fun x250 r251 => chkS [] r251 [] (S23_365 h236 x232 r251 r248 ih x250 x9 x3 x0 x5 x13))
noncomputable def S23_367 (h233 : Hp) (x232 : IV) (x230 : IV) (x231 : IV) (x45 : IV) (x13 : IV) (x44 : IV) (x5 : IV) (ih : Handler) (x9 : IV) (x3 : IV) (x0 : IV) : Option (IV × Hp) :=
  storeA 3 x232 x230 h233 fun h236 r237 w238 => chkS [] r237 w238 (optS (unR .not x231) fun x239 => condS x239 (loadA 3 x45 h236 fun x240 _ => S23_360 h236 x13 x240 x44) (faddrS 2 x5 fun x246 => S23_366 h236 x246 x232 ih x9 x3 x0 x5 x13))
noncomputable def S23_368 (r228 : List Ref) (w229 : List Ref) (x226 : IV) (h227 : Hp) (r223 : List Ref) (w224 : List Ref) (r220 : List Ref) (r218 : List Ref) (r215 : List Ref) (x45 : IV) (x13 : IV) (x44 : IV) (x5 : IV) (ih : Handler) (x9 : IV) (x3 : IV) (x0 : IV) : Option (IV × Hp) :=
  chkS [] r228 w229 (extS 0 x226 fun x230 => extS 1 x226 fun x231 => newS 24135693 (.row [.fv (.int .i64 0), .fv (.int .i64 0), .nils] false) (.ptr (.own 24135693) 0) h227 fun x232 h233 r234 w235 => chkS [(r228, w229), (r223, w224), (r220, []), (r218, []), (r215, [])] r234 w235 (S23_367 h233 x232 x230 x231 x45 x13 x44 x5 ih x9 x3 x0))
noncomputable def S23_369 (r220 : List Ref) (r218 : List Ref) (r215 : List Ref) (ih : Handler) (h140 : Hp) (x219 : IV) (x3 : IV) (x0 : IV) (x217 : IV) (x45 : IV) (x13 : IV) (x44 : IV) (x5 : IV) (x9 : IV) : Option (IV × Hp) :=
  chkS [(r218, []), (r215, [])] r220 [] (isoS [] false false ih 46 [x219, .fv (.int .i64 0)] h140 fun x221 h222 r223 w224 => chkS [(r218, []), (r215, [])] r223 w224 (subS EE 3 x3 (.fv (.int .i64 1)) fun x225 => isoS [] false false ih 23 [x0, x217, x221, x225] h222 fun x226 h227 r228 w229 => S23_368 r228 w229 x226 h227 r223 w224 r220 r218 r215 x45 x13 x44 x5 ih x9 x3 x0))
noncomputable def S23_370 (r215 : List Ref) (x214 : IV) (h140 : Hp) (x9 : IV) (ih : Handler) (x3 : IV) (x0 : IV) (x45 : IV) (x13 : IV) (x44 : IV) (x5 : IV) : Option (IV × Hp) :=
  chkS [] r215 [] (ixS 3 x214 (.fv (.int .i64 0)) fun x216 => loadA 3 x216 h140 fun x217 r218 => chkS [] r218 [] (loadA 3 x9 h140 fun x219 r220 => S23_369 r220 r218 r215 ih h140 x219 x3 x0 x217 x45 x13 x44 x5 x9))
noncomputable def S23_371 (h320 : Hp) (x323 : IV) (ih : Handler) (x13 : IV) (x315 : IV) : Option (IV × Hp) :=
  genS (pcBuildSlice EE 29 1 [(0, x323)]) 24142849 h320 fun x325 h326 _ _ => isoS [] false false ih 24 [.fv (.int .i64 19), x325] h326 fun x329 h330 _ _ => storeA 3 x13 x329 h330 fun h333 _ _ => cellS true 3 x13 h333 fun x336 => outS1 [x336, x315] h333
noncomputable def S23_372 (h311 : Hp) (r312 : List Ref) (w313 : List Ref) (r307 : List Ref) (w308 : List Ref) (r304 : List Ref) (r302 : List Ref) (r299 : List Ref) (x314 : IV) (ih : Handler) (x13 : IV) (x315 : IV) : Option (IV × Hp) :=
  newS 24141837 (.row [.fv (.int .i64 0), .fv (.int .i64 0), .nils] false) (.ptr (.own 24141837) 0) h311 fun x316 h317 r318 w319 => chkS [(r312, w313), (r307, w308), (r304, []), (r302, []), (r299, [])] r318 w319 (storeA 3 x316 x314 h317 fun h320 r321 w322 => chkS [] r321 w322 (loadA 3 x316 h320 fun x323 _ => S23_371 h320 x323 ih x13 x315))
noncomputable def S23_373 (x3 : IV) (ih : Handler) (h306 : Hp) (x0 : IV) (x301 : IV) (x305 : IV) (r307 : List Ref) (w308 : List Ref) (r304 : List Ref) (r302 : List Ref) (r299 : List Ref) (x13 : IV) : Option (IV × Hp) :=
  subS EE 3 x3 (.fv (.int .i64 1)) fun x309 => isoS [] false false ih 35 [x0, x301, x305, x309] h306 fun x310 h311 r312 w313 => chkS [] r312 w313 (extS 0 x310 fun x314 => extS 1 x310 fun x315 => S23_372 h311 r312 w313 r307 w308 r304 r302 r299 x314 ih x13 x315)
noncomputable def S23_374 (r302 : List Ref) (h140 : Hp) (x9 : IV) (r299 : List Ref) (ih : Handler) (x3 : IV) (x0 : IV) (x301 : IV) (x13 : IV) : Option (IV × Hp) :=
  chkS [] r302 [] (loadA 3 x9 h140 fun x303 r304 => chkS [(r302, []), (r299, [])] r304 [] (isoS [] false false ih 46 [x303, .fv (.int .i64 0)] h140 fun x305 h306 r307 w308 => chkS [(r302, []), (r299, [])] r307 w308 (S23_373 x3 ih h306 x0 x301 x305 r307 w308 r304 r302 r299 x13)))
noncomputable def S23_375 (x5 : IV) (h140 : Hp) (x9 : IV) (ih : Handler) (x3 : IV) (x0 : IV) (x13 : IV) : Option (IV × Hp) :=
  faddrS 2 x5 fun x297 => load1 x297 h140 fun x298 r299 => chkS [] r299 [] (ixS 3 x298 (.fv (.int .i64 0)) fun x300 => loadA 3 x300 h140 fun x301 r302 => S23_374 r302 h140 x9 r299 ih x3 x0 x301 x13)
noncomputable def S23_376 (h140 : Hp) (x45 : IV) (x13 : IV) (x44 : IV) : Option (IV × Hp) :=
  loadA 3 x45 h140 fun x337 _ => storeA 3 x13 x337 h140 fun h339 _ _ => cellS true 3 x13 h339 fun x342 => outS1 [x342, x44] h339
noncomputable def S23_377 (x136 : IV) (x5 : IV) (h140 : Hp) (x9 : IV) (ih : Handler) (x3 : IV) (x0 : IV) (x45 : IV) (x13 : IV) (x44 : IV) : Option (IV × Hp) :=
  eqS EE 3 x136 (.fv (.int .i64 6)) fun x212 => condS x212 (faddrS 2 x5 fun x213 => load1 x213 h140 fun x214 r215 => S23_370 r215 x214 h140 x9 ih x3 x0 x45 x13 x44 x5) (eqS EE 3 x136 (.fv (.int .i64 18)) fun x296 => condS x296 (S23_375 x5 h140 x9 ih x3 x0 x13) (S23_376 h140 x45 x13 x44))
noncomputable def S23_378 (x139 : IV) (h140 : Hp) (x5 : IV) (x9 : IV) (ih : Handler) (x0 : IV) (x3 : IV) (x13 : IV) (x136 : IV) (x45 : IV) (x44 : IV) : Option (IV × Hp) :=
  condS x139 (loadA 3 x5 h140 fun x141 _ => loadA 3 x9 h140 fun x143 _ => S23_350 ih h140 x0 x141 x143 x3 x13) (eqS EE 3 x136 (.fv (.int .i64 3)) fun x155 => condS x155 (S23_359 x5 h140 ih x0 x9 x3 x13) (S23_377 x136 x5 h140 x9 ih x3 x0 x45 x13 x44))
noncomputable def S23_379 (x136 : IV) (j1_138 : IV → Hp → Option (IV × Hp)) (h117 : Hp) : Option (IV × Hp) :=
  eqS EE 3 x136 (.fv (.int .i64 14)) fun x344 => condS x344 (j1_138 x344 h117) (eqS EE 3 x136 (.fv (.int .i64 2)) fun x345 => j1_138 x345 h117)
noncomputable def S23_380 (x5 : IV) (h117 : Hp) (x9 : IV) (ih : Handler) (x0 : IV) (x3 : IV) (x13 : IV) (x45 : IV) (x44 : IV) : Option (IV × Hp) :=
  faddrS 0 x5 fun x135 => load1 x135 h117 fun x136 _ => (fun (j1_138 : IV → Hp → Option (IV × Hp)) => eqS EE 3 x136 (.fv (.int .i64 10)) fun x343 => condS x343 (j1_138 x343 h117) (S23_379 x136 j1_138 h117)) fun x139 h140 => S23_378 x139 h140 x5 x9 ih x0 x3 x13 x136 x45 x44
noncomputable def S23_381 (h99 : Hp) (x95 : IV) (x98 : IV) (ih : Handler) (x5 : IV) (x9 : IV) (x0 : IV) (x3 : IV) (x13 : IV) (x45 : IV) (x44 : IV) : Option (IV × Hp) :=
  guardS x95 true h99 (fun k102 => load1 x98 h99 fun x103 r104 => k102 x103 h99 r104 []) fun x105 h106 _ _ => guardS x95 true h106 (fun k109 => isoS [] false false ih 43 [x105, .fv (.int .i64 7)] h106 k109) fun x110 h111 _ _ => guardS x95 true h111 (fun k114 => eqS EE 3 x110 (.fv (.int .i64 6)) fun x115 => k114 x115 h111 [] []) fun x116 h117 _ _ => pickS x95 x116 (.fv (.bool false)) fun x120 => condS x120 (S23_349 h117 x5 x9 ih x0 x3 x13) (S23_380 x5 h117 x9 ih x0 x3 x13 x45 x44)
noncomputable def S23_382 (x88 : IV) (h85 : Hp) (x45 : IV) (x13 : IV) (x44 : IV) (x3 : IV) (x9 : IV) (ih : Handler) (x5 : IV) (x0 : IV) : Option (IV × Hp) :=
  condS x88 (loadA 3 x45 h85 fun x89 _ => storeA 3 x13 x89 h85 fun h91 _ _ => S23_347 h91 x13 x44) (gtS EE 3 x3 (.fv (.int .i64 0)) fun x95 => guardS x95 true h85 (fun k96 => faddrS 0 x9 fun x97 => k96 x97 h85 [] []) fun x98 h99 _ _ => S23_381 h99 x95 x98 ih x5 x9 x0 x3 x13 x45 x44)
noncomputable def S23_383 (h67 : Hp) (x44 : IV) (x66 : IV) (x3 : IV) (x45 : IV) (x13 : IV) (x9 : IV) (ih : Handler) (x5 : IV) (x0 : IV) : Option (IV × Hp) :=
  guardS x44 true h67 (fun k70 => eqS EE 3 x66 (.fv (.int .i64 0)) fun x71 => k70 x71 h67 [] []) fun x72 h73 _ _ => pickS x44 x72 (.fv (.bool false)) fun x76 => guardS x76 false h73 (fun k77 => k77 x3 h73 [] []) fun x78 h79 _ _ => guardS x76 false h79 (fun k82 => ltS EE 3 x78 (.fv (.int .i64 (-4))) fun x83 => k82 x83 h79 [] []) fun x84 h85 _ _ => pickS x76 (.fv (.bool true)) x84 fun x88 => S23_382 x88 h85 x45 x13 x44 x3 x9 ih x5 x0
noncomputable def S23_384 (h40 : Hp) (x43 : IV) (x44 : IV) (x9 : IV) (ih : Handler) (x3 : IV) (x13 : IV) (x5 : IV) (x0 : IV) : Option (IV × Hp) :=
  newS 24121352 (.row [.fv (.int .i64 0), .fv (.int .i64 0), .nils] false) (.ptr (.own 24121352) 0) h40 fun x45 h46 _ _ => storeA 3 x45 x43 h46 fun h49 _ _ => guardS x44 true h49 (fun k52 => faddrS 0 x9 fun x53 => k52 x53 h49 [] []) fun x54 h55 _ _ => guardS x44 true h55 (fun k58 => load1 x54 h55 fun x59 r60 => k58 x59 h55 r60 []) fun x61 h62 _ _ => guardS x44 true h62 (fun k65 => isoS [] false false ih 43 [x61, .fv (.int .i64 3)] h62 k65) fun x66 h67 _ _ => S23_383 h67 x44 x66 x3 x45 x13 x9 ih x5 x0
noncomputable def S23_385 (x9 : IV) (h25 : Hp) (ih : Handler) (x0 : IV) (x34 : IV) (x3 : IV) (x13 : IV) (x5 : IV) : Option (IV × Hp) :=
  faddrS 1 x9 fun x36 => load1 x36 h25 fun x37 _ => isoS [] false false ih 47 [x0, .fv (.int .i64 1), x34, x37] h25 fun x39 h40 _ _ => extS 0 x39 fun x43 => extS 1 x39 fun x44 => S23_384 h40 x43 x44 x9 ih x3 x13 x5 x0
noncomputable def S23_386 (x19 : IV) (h20 : Hp) (x5 : IV) (x23 : IV) (x13 : IV) (x9 : IV) (ih : Handler) (x0 : IV) (x3 : IV) : Option (IV × Hp) :=
  extS 1 x19 fun x24 => storeA 3 x5 x23 h20 fun h25 _ _ => neS EE 3 x24 (.fv (.int .i64 0)) fun x28 => condS x28 (bldS [.fv (.int .i64 0), .fv (.int .i64 0), .nils] [] fun x29 => S23_346 h25 x13 x29) (loadA 3 x5 h25 fun x34 _ => S23_385 x9 h25 ih x0 x34 x3 x13 x5)
noncomputable def S23 (ih : Handler) (n : Nat) (x0 : IV) (x1 : IV) (x2 : IV) (x3 : IV) (h4 : Hp) : Option (IV × Hp) :=
  boxS 24117248 x1 h4 fun x5 h6 _ _ => boxS 24117249 x2 h6 fun x9 h10 _ _ => newS 24117250 (.row [.fv (.int .i64 0), .fv (.int .i64 0), .nils] false) (.ptr (.own 24117250) 0) h10 fun x13 h14 _ _ => loadA 3 x5 h14 fun x17 _ => isoS [] false false ih 17 [x17] h14 fun x19 h20 _ _ => extS 0 x19 fun x23 => S23_386 x19 h20 x5 x23 x13 x9 ih x0 x3
theorem S23_ok (ih : Handler) (n : Nat) (x0 : IV) (x1 : IV) (x2 : IV) (x3 : IV) (h4 : Hp) : funS EE ih ft.get n 23 [x0, x1, x2, x3] h4 = S23 ih n x0 x1 x2 x3 h4 := by kernel_rfl
/-! Function 24. -/
noncomputable def S24 (ih : Handler) (n : Nat) (x0 : IV) (x1 : IV) (h2 : Hp) : Option (IV × Hp) :=
  newS 25165824 (.row [.fv (.int .i64 0), .fv (.int .i64 0), .nils] false) (.ptr (.own 25165824) 0) h2 fun x3 h4 _ _ => bldS [.fv (.int .i64 0), .fv (.int .i64 0), .nils] [(0, 1, x0), (2, 1, x1)] fun x7 => storeA 3 x3 x7 h4 fun h8 _ _ => cellS true 3 x3 h8 fun x11 => outS1 [x11] h8
theorem S24_ok (ih : Handler) (n : Nat) (x0 : IV) (x1 : IV) (h2 : Hp) : funS EE ih ft.get n 24 [x0, x1] h2 = S24 ih n x0 x1 h2 := by kernel_rfl
end Idl
end Go.Proofs.Ytaifgaidaglblaa

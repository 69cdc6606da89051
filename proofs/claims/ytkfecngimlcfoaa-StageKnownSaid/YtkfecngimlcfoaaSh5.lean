/-
  THE SHALLOW FORM OF THE SEAT'S FUNCTIONS, a part; each is what its code's shallow run is. Printed by a program of mine (gen-sh). No statement is proved here.
-/
import Derived.Test.YtkfecngimlcfoaaTab
import Derived.Test.YtkfecngimlcfoaaIdl31
set_option maxRecDepth 100000
set_option linter.unusedVariables false
namespace Go.Proofs.Ytkfecngimlcfoaa
namespace Idl
/-! thyrsus/norm.Normal -/
noncomputable def S41_77 (h13 : Hp) (x6 : IV) : Option (IV × Hp) :=
  bldS [.fv (.int .i64 0), .fv (.int .i64 0), .nils] [] fun x17 => storeA 3 x6 x17 h13 fun h18 _ _ => cellS true 3 x6 h18 fun x21 => outS1 [x21, .fv (.int .i64 1)] h18
noncomputable def S41_78 (r43 : List Ref) (w44 : List Ref) (r41 : List Ref) (h42 : Hp) (x6 : IV) (x40 : IV) : Option (IV × Hp) :=
  chkS [(r41, [])] r43 w44 (cellS true 3 x6 h42 fun x45 => outS1 [x45, x40] h42)
noncomputable def S41_79 (x22 : IV) (h29 : Hp) (x6 : IV) (x37 : IV) : Option (IV × Hp) :=
  nilS x22 fun x38 => faddrS 3 x38 fun x39 => load1 x39 h29 fun x40 r41 => chkS [] r41 [] (storeA 3 x6 x37 h29 fun h42 r43 w44 => S41_78 r43 w44 r41 h42 x6 x40)
noncomputable def S41_80 (h67 : Hp) (x6 : IV) (x65 : IV) : Option (IV × Hp) :=
  cellS true 3 x6 h67 fun x70 => outS1 [x70, x65] h67
noncomputable def S41_81 (x63 : IV) (h54 : Hp) (x6 : IV) (x62 : IV) : Option (IV × Hp) :=
  faddrS 3 x63 fun x64 => load1 x64 h54 fun x65 r66 => chkS [] r66 [] (storeA 3 x6 x62 h54 fun h67 r68 w69 => chkS [(r66, [])] r68 w69 (S41_80 h67 x6 x65))
noncomputable def S41_82 (h73 : Hp) (x6 : IV) : Option (IV × Hp) :=
  cellS true 3 x6 h73 fun x76 => outS1 [x76, .fv (.int .i64 0)] h73
noncomputable def S41_83 (x59 : IV) (x22 : IV) (h54 : Hp) (x6 : IV) (x50 : IV) : Option (IV × Hp) :=
  neS EE 36 x59 (.fv (.int .i64 0)) fun x61 => condS x61 (bldS [.fv (.int .i64 0), .fv (.int .i64 0), .nils] [] fun x62 => nilS x22 fun x63 => S41_81 x63 h54 x6 x62) (loadA 3 x50 h54 fun x71 _ => storeA 3 x6 x71 h54 fun h73 _ _ => S41_82 h73 x6)
noncomputable def S41_84 (h47 : Hp) (x46 : IV) (x22 : IV) (x6 : IV) : Option (IV × Hp) :=
  newS 42998787 (.row [.fv (.int .i64 0), .fv (.int .i64 0), .nils] false) (.ptr (.own 42998787) 0) h47 fun x50 h51 _ _ => storeA 3 x50 x46 h51 fun h54 _ _ => nilS x22 fun x57 => faddrS 3 x57 fun x58 => load1 x58 h54 fun x59 _ => S41_83 x59 x22 h54 x6 x50
noncomputable def S41_85 (h29 : Hp) (x33 : IV) (x22 : IV) (x6 : IV) (ih : Handler) (x28 : IV) : Option (IV × Hp) :=
  load1 x33 h29 fun x34 _ => neS EE 36 x34 (.fv (.int .i64 0)) fun x36 => condS x36 (bldS [.fv (.int .i64 0), .fv (.int .i64 0), .nils] [] fun x37 => S41_79 x22 h29 x6 x37) (isoS [true, false, false, false] false false ih 72 [x22, x28, .fv (.int .i64 0), .fv (.int .i64 1)] h29 fun x46 h47 _ _ => S41_84 h47 x46 x22 x6)
noncomputable def S41_86 (ih : Handler) (h13 : Hp) (x2 : IV) (x6 : IV) : Option (IV × Hp) :=
  inlS ih 70 [] h13 fun x22 h23 _ _ => loadA 3 x2 h23 fun x26 _ => isoS [true, false, false] false false ih 71 [x22, .fv .nilp, x26] h23 fun x28 h29 _ _ => nilS x22 fun x32 => faddrS 3 x32 fun x33 => S41_85 h29 x33 x22 x6 ih x28
noncomputable def S41 (ih : Handler) (n : Nat) (x0 : IV) (h1 : Hp) : Option (IV × Hp) :=
  boxS 42991616 x0 h1 fun x2 h3 _ _ => newS 42991617 (.row [.fv (.int .i64 0), .fv (.int .i64 0), .nils] false) (.ptr (.own 42991617) 0) h3 fun x6 h7 _ _ => loadA 3 x2 h7 fun x10 _ => isoS [] false false ih 69 [x10] h7 fun x12 h13 _ _ => optS (unR .not x12) fun x16 => condS x16 (S41_77 h13 x6) (S41_86 ih h13 x2 x6)
theorem S41_ok (ih : Handler) (n : Nat) (x0 : IV) (h1 : Hp) : funS EE ih ft.get n 41 [x0] h1 = S41 ih n x0 h1 := by kernel_rfl
/-! (thyrsus/stage.plainly).has -/
noncomputable def S42_88 (h23 : Hp) (x26 : IV) (x19 : IV) (ih : Handler) : Option (IV × Hp) :=
  load1 x26 h23 fun x27 _ => genS (val (mkFunc (.func 74) [] [x19])) 44049410 h23 fun x29 h30 _ _ => isoS [] false false ih 73 [x27, x29] h30 fun x33 h34 _ _ => optS (unR .not x33) fun x37 => outS1 [x37] h34
noncomputable def S42_89 (h12 : Hp) (x3 : IV) (x7 : IV) (ih : Handler) : Option (IV × Hp) :=
  loadA 2 x3 h12 fun x13 _ => genS (val (mkFunc (.func 42) [x13] [])) 44048385 h12 fun x15 h16 _ _ => newS 44048386 (.row [.fv (.nilf)] false) (.ptr (.own 44048386) 0) h16 fun x19 h20 _ _ => store1 x19 x15 h20 fun h23 _ _ => faddrS 2 x7 fun x26 => S42_88 h23 x26 x19 ih
noncomputable def S42_90 (h61 : Hp) (x50 : IV) (x3 : IV) (x60 : IV) (j0_11 : Hp → Option (IV × Hp)) : Option (IV × Hp) :=
  guardS x50 false h61 (fun k64 => faddrS 1 x3 fun x65 => k64 x65 h61 [] []) fun x66 h67 _ _ => guardS x50 false h67 (fun k70 => load1 x66 h67 fun x71 r72 => k70 x71 h67 r72 []) fun x73 h74 _ _ => guardS x50 false h74 (fun k77 => gtS EE 3 x60 x73 fun x78 => k77 x78 h74 [] []) fun x79 h80 _ _ => pickS x50 (.fv (.bool true)) x79 fun x83 => condS x83 (outS1 [.fv (.bool false)] h80) (j0_11 h80)
noncomputable def S42_91 (x3 : IV) (h43 : Hp) (x45 : IV) (x7 : IV) (j0_11 : Hp → Option (IV × Hp)) : Option (IV × Hp) :=
  faddrS 0 x3 fun x47 => load1 x47 h43 fun x48 _ => ltS EE 3 x45 x48 fun x50 => guardS x50 false h43 (fun k51 => faddrS 0 x7 fun x52 => k51 x52 h43 [] []) fun x53 h54 _ _ => guardS x50 false h54 (fun k57 => load1 x53 h54 fun x58 r59 => k57 x58 h54 r59 []) fun x60 h61 _ _ => S42_90 h61 x50 x3 x60 j0_11
noncomputable def S42_92 (x42 : IV) (j0_11 : Hp → Option (IV × Hp)) (h43 : Hp) (x7 : IV) (x3 : IV) : Option (IV × Hp) :=
  condS x42 (j0_11 h43) (faddrS 0 x7 fun x44 => load1 x44 h43 fun x45 _ => S42_91 x3 h43 x45 x7 j0_11)
noncomputable def S42_93 (x39 : IV) (j1_41 : IV → Hp → Option (IV × Hp)) (h8 : Hp) : Option (IV × Hp) :=
  eqS EE 3 x39 (.fv (.int .i64 16)) fun x86 => condS x86 (j1_41 x86 h8) (eqS EE 3 x39 (.fv (.int .i64 17)) fun x87 => j1_41 x87 h8)
noncomputable def S42_94 (x39 : IV) (j1_41 : IV → Hp → Option (IV × Hp)) (h8 : Hp) : Option (IV × Hp) :=
  eqS EE 3 x39 (.fv (.int .i64 1)) fun x84 => condS x84 (j1_41 x84 h8) (eqS EE 3 x39 (.fv (.int .i64 15)) fun x85 => condS x85 (j1_41 x85 h8) (S42_93 x39 j1_41 h8))
noncomputable def S42 (ih : Handler) (n : Nat) (x0 : IV) (x1 : IV) (h2 : Hp) : Option (IV × Hp) :=
  boxS 44040192 x0 h2 fun x3 h4 _ _ => boxS 44040193 x1 h4 fun x7 h8 _ _ => (fun (j0_11 : Hp → Option (IV × Hp)) => faddrS 0 x7 fun x38 => load1 x38 h8 fun x39 _ => (fun (j1_41 : IV → Hp → Option (IV × Hp)) => S42_94 x39 j1_41 h8) fun x42 h43 => S42_92 x42 j0_11 h43 x7 x3) fun h12 => S42_89 h12 x3 x7 ih
theorem S42_ok (ih : Handler) (n : Nat) (x0 : IV) (x1 : IV) (h2 : Hp) : funS EE ih ft.get n 42 [x0, x1] h2 = S42 ih n x0 x1 h2 := by kernel_rfl
/-! thyrsus/thyrsusref11.infer -/
noncomputable def S43_486 (h22 : Hp) (x18 : IV) (x7 : IV) : Option (IV × Hp) :=
  loadA 3 x18 h22 fun x34 _ => storeA 3 x7 x34 h22 fun h36 _ _ => cellS true 3 x7 h36 fun x39 => outS1 [x39, .fv (.int .i64 8)] h36
noncomputable def S43_487 (x0 : IV) (x45 : IV) (h22 : Hp) (x7 : IV) : Option (IV × Hp) :=
  ixS 3 x0 x45 fun x46 => loadA 3 x46 h22 fun x47 _ => storeA 3 x7 x47 h22 fun h49 _ _ => cellS true 3 x7 h49 fun x52 => outS1 [x52, .fv (.int .i64 0)] h49
noncomputable def S43_488 (x0 : IV) (x3 : IV) (h22 : Hp) (x7 : IV) : Option (IV × Hp) :=
  lenS x0 fun x40 => subS EE 3 x40 (.fv (.int .i64 1)) fun x41 => faddrS 1 x3 fun x42 => load1 x42 h22 fun x43 _ => subS EE 3 x41 x43 fun x45 => S43_487 x0 x45 h22 x7
noncomputable def S43_489 (x3 : IV) (h22 : Hp) (x0 : IV) (x18 : IV) (x7 : IV) : Option (IV × Hp) :=
  faddrS 1 x3 fun x29 => load1 x29 h22 fun x30 _ => lenS x0 fun x32 => geS EE 3 x30 x32 fun x33 => condS x33 (S43_486 h22 x18 x7) (S43_488 x0 x3 h22 x7)
noncomputable def S43_490 (h56 : Hp) (x7 : IV) : Option (IV × Hp) :=
  cellS true 3 x7 h56 fun x59 => outS1 [x59, .fv (.int .i64 0)] h56
noncomputable def S43_491 (h72 : Hp) (x18 : IV) (x7 : IV) (x71 : IV) : Option (IV × Hp) :=
  loadA 3 x18 h72 fun x73 _ => storeA 3 x7 x73 h72 fun h75 _ _ => cellS true 3 x7 h75 fun x78 => outS1 [x78, x71] h75
noncomputable def S43_492 (ih : Handler) (h67 : Hp) (x0 : IV) (x81 : IV) (x83 : IV) (j1_70 : IV → Hp → Option (IV × Hp)) : Option (IV × Hp) :=
  isoS [] false false ih 75 [x0, x81, x83] h67 fun x85 h86 r87 w88 => chkS [] r87 w88 (j1_70 x85 h86)
noncomputable def S43_493 (x12 : IV) (h67 : Hp) (x18 : IV) (ih : Handler) (x0 : IV) (j1_70 : IV → Hp → Option (IV × Hp)) : Option (IV × Hp) :=
  ixS 3 x12 (.fv (.int .i64 1)) fun x80 => loadA 3 x80 h67 fun x81 r82 => chkS [] r82 [] (loadA 3 x18 h67 fun x83 r84 => chkS [(r82, [])] r84 [] (S43_492 ih h67 x0 x81 x83 j1_70))
noncomputable def S43_494 (ih : Handler) (h22 : Hp) (x0 : IV) (x62 : IV) (x64 : IV) (x18 : IV) (x7 : IV) (x12 : IV) : Option (IV × Hp) :=
  isoS [] false false ih 75 [x0, x62, x64] h22 fun x66 h67 r68 w69 => chkS [] r68 w69 ((fun (j1_70 : IV → Hp → Option (IV × Hp)) => eqS EE 3 x66 (.fv (.int .i64 0)) fun x79 => condS x79 (S43_493 x12 h67 x18 ih x0 j1_70) (j1_70 x66 h67)) fun x71 h72 => S43_491 h72 x18 x7 x71)
noncomputable def S43_495 (x12 : IV) (h22 : Hp) (x18 : IV) (ih : Handler) (x0 : IV) (x7 : IV) : Option (IV × Hp) :=
  ixS 3 x12 (.fv (.int .i64 0)) fun x61 => loadA 3 x61 h22 fun x62 r63 => chkS [] r63 [] (loadA 3 x18 h22 fun x64 r65 => chkS [(r63, [])] r65 [] (S43_494 ih h22 x0 x62 x64 x18 x7 x12))
noncomputable def S43_496 (h96 : Hp) (x7 : IV) (x100 : IV) : Option (IV × Hp) :=
  storeA 3 x7 x100 h96 fun h102 _ _ => cellS true 3 x7 h102 fun x105 => outS1 [x105, .fv (.int .i64 10)] h102
noncomputable def S43_497 (h127 : Hp) (x7 : IV) (x111 : IV) (x126 : IV) : Option (IV × Hp) :=
  storeA 3 x7 x111 h127 fun h130 r131 w132 => chkS [] r131 w132 (cellS true 3 x7 h130 fun x133 => outS1 [x133, x126] h130)
noncomputable def S43_498 (x12 : IV) (h117 : Hp) (r122 : List Ref) (r118 : List Ref) (w119 : List Ref) (r115 : List Ref) (r112 : List Ref) (ih : Handler) (x116 : IV) (x121 : IV) (x7 : IV) (x111 : IV) : Option (IV × Hp) :=
  ixS 3 x12 (.fv (.int .i64 0)) fun x123 => loadA 3 x123 h117 fun x124 r125 => chkS [(r122, []), (r118, w119), (r115, []), (r112, [])] r125 [] (isoS [] false false ih 75 [x116, x121, x124] h117 fun x126 h127 r128 w129 => chkS [(r112, [])] r128 w129 (S43_497 h127 x7 x111 x126))
noncomputable def S43_499 (ih : Handler) (h96 : Hp) (x0 : IV) (x114 : IV) (r112 : List Ref) (x12 : IV) (r115 : List Ref) (x7 : IV) (x111 : IV) : Option (IV × Hp) :=
  isoS [] false false ih 76 [x0, x114] h96 fun x116 h117 r118 w119 => chkS [(r112, [])] r118 w119 (ixS 3 x12 (.fv (.int .i64 1)) fun x120 => loadA 3 x120 h117 fun x121 r122 => chkS [(r118, w119), (r115, []), (r112, [])] r122 [] (S43_498 x12 h117 r122 r118 w119 r115 r112 ih x116 x121 x7 x111))
noncomputable def S43_500 (h96 : Hp) (x110 : IV) (x12 : IV) (ih : Handler) (x0 : IV) (x7 : IV) : Option (IV × Hp) :=
  loadA 3 x110 h96 fun x111 r112 => chkS [] r112 [] (ixS 3 x12 (.fv (.int .i64 0)) fun x113 => loadA 3 x113 h96 fun x114 r115 => chkS [(r112, [])] r115 [] (S43_499 ih h96 x0 x114 r112 x12 r115 x7 x111))
noncomputable def S43_501 (h176 : Hp) (x7 : IV) (x175 : IV) : Option (IV × Hp) :=
  cellS true 3 x7 h176 fun x179 => outS1 [x179, x175] h176
noncomputable def S43_502 (r172 : List Ref) (w173 : List Ref) (x170 : IV) (h171 : Hp) (x7 : IV) : Option (IV × Hp) :=
  chkS [] r172 w173 (extS 0 x170 fun x174 => extS 1 x170 fun x175 => storeA 3 x7 x174 h171 fun h176 r177 w178 => chkS [] r177 w178 (S43_501 h176 x7 x175))
noncomputable def S43_503 (h154 : Hp) (x158 : IV) (x160 : IV) (ih : Handler) (x149 : IV) (x7 : IV) : Option (IV × Hp) :=
  genS (pcBuildSlice EE 28 2 [(0, x158), (1, x160)]) 45111300 h154 fun x162 h163 r164 w165 => chkS [] r164 w165 (isoS [] false false ih 24 [.fv (.int .i64 16), x162] h163 fun x166 h167 r168 w169 => chkS [] r168 w169 (isoS [] false false ih 77 [x166, x149] h167 fun x170 h171 r172 w173 => S43_502 r172 w173 x170 h171 x7))
noncomputable def S43_504 (x12 : IV) (h154 : Hp) (x150 : IV) (ih : Handler) (x149 : IV) (x7 : IV) : Option (IV × Hp) :=
  ixS 3 x12 (.fv (.int .i64 0)) fun x157 => loadA 3 x157 h154 fun x158 r159 => chkS [] r159 [] (loadA 3 x150 h154 fun x160 r161 => chkS [(r159, [])] r161 [] (S43_503 h154 x158 x160 ih x149 x7))
noncomputable def S43_505 (x144 : IV) (h145 : Hp) (r146 : List Ref) (w147 : List Ref) (r143 : List Ref) (r139 : List Ref) (w140 : List Ref) (r136 : List Ref) (x148 : IV) (x12 : IV) (ih : Handler) (x7 : IV) : Option (IV × Hp) :=
  extS 1 x144 fun x149 => newS 45110284 (.row [.fv (.int .i64 0), .fv (.int .i64 0), .nils] false) (.ptr (.own 45110284) 0) h145 fun x150 h151 r152 w153 => chkS [(r146, w147), (r143, []), (r139, w140), (r136, [])] r152 w153 (storeA 3 x150 x148 h151 fun h154 r155 w156 => chkS [] r155 w156 (S43_504 x12 h154 x150 ih x149 x7))
noncomputable def S43_506 (h138 : Hp) (x141 : IV) (r139 : List Ref) (w140 : List Ref) (r136 : List Ref) (ih : Handler) (x137 : IV) (x12 : IV) (x7 : IV) : Option (IV × Hp) :=
  loadA 3 x141 h138 fun x142 r143 => chkS [(r139, w140), (r136, [])] r143 [] (isoS [] false false ih 19 [x137, x142] h138 fun x144 h145 r146 w147 => chkS [] r146 w147 (extS 0 x144 fun x148 => S43_505 x144 h145 r146 w147 r143 r139 w140 r136 x148 x12 ih x7))
noncomputable def S43_507 (h96 : Hp) (x134 : IV) (ih : Handler) (x0 : IV) (x12 : IV) (x7 : IV) : Option (IV × Hp) :=
  loadA 3 x134 h96 fun x135 r136 => chkS [] r136 [] (isoS [] false false ih 76 [x0, x135] h96 fun x137 h138 r139 w140 => chkS [] r139 w140 (ixS 3 x12 (.fv (.int .i64 1)) fun x141 => S43_506 h138 x141 r139 w140 r136 ih x137 x12 x7))
noncomputable def S43_508 (h96 : Hp) (x106 : IV) (x12 : IV) (ih : Handler) (x0 : IV) (x7 : IV) : Option (IV × Hp) :=
  load1 x106 h96 fun x107 _ => eqS EE 3 x107 (.fv (.int .i64 29)) fun x109 => condS x109 (ixS 3 x12 (.fv (.int .i64 0)) fun x110 => S43_500 h96 x110 x12 ih x0 x7) (ixS 3 x12 (.fv (.int .i64 0)) fun x134 => S43_507 h96 x134 ih x0 x12 x7)
noncomputable def S43_509 (ih : Handler) (h91 : Hp) (x93 : IV) (x18 : IV) (x7 : IV) (x3 : IV) (x12 : IV) (x0 : IV) : Option (IV × Hp) :=
  isoS [] false false ih 29 [x93] h91 fun x95 h96 _ _ => optS (unR .not x95) fun x99 => condS x99 (loadA 3 x18 h96 fun x100 _ => S43_496 h96 x7 x100) (faddrS 0 x3 fun x106 => S43_508 h96 x106 x12 ih x0 x7)
noncomputable def S43_510 (h194 : Hp) (x7 : IV) (x198 : IV) (x189 : IV) : Option (IV × Hp) :=
  storeA 3 x7 x198 h194 fun h200 _ _ => cellS true 3 x7 h200 fun x203 => outS1 [x203, x189] h200
noncomputable def S43_511 (h214 : Hp) (x7 : IV) (x217 : IV) (x218 : IV) : Option (IV × Hp) :=
  storeA 3 x7 x217 h214 fun h219 r220 w221 => chkS [] r220 w221 (cellS true 3 x7 h219 fun x222 => outS1 [x222, x218] h219)
noncomputable def S43_512 (r212 : List Ref) (r208 : List Ref) (w209 : List Ref) (r205 : List Ref) (ih : Handler) (h207 : Hp) (x206 : IV) (x211 : IV) (x7 : IV) : Option (IV × Hp) :=
  chkS [(r208, w209), (r205, [])] r212 [] (isoS [] false false ih 19 [x206, x211] h207 fun x213 h214 r215 w216 => chkS [] r215 w216 (extS 0 x213 fun x217 => extS 1 x213 fun x218 => S43_511 h214 x7 x217 x218))
noncomputable def S43_513 (r205 : List Ref) (ih : Handler) (h194 : Hp) (x0 : IV) (x204 : IV) (x12 : IV) (x7 : IV) : Option (IV × Hp) :=
  chkS [] r205 [] (isoS [] false false ih 76 [x0, x204] h194 fun x206 h207 r208 w209 => chkS [] r208 w209 (ixS 3 x12 (.fv (.int .i64 1)) fun x210 => loadA 3 x210 h207 fun x211 r212 => S43_512 r212 r208 w209 r205 ih h207 x206 x211 x7))
noncomputable def S43_514 (h185 : Hp) (x188 : IV) (x189 : IV) (x7 : IV) (ih : Handler) (x0 : IV) (x12 : IV) : Option (IV × Hp) :=
  newS 45113352 (.row [.fv (.int .i64 0), .fv (.int .i64 0), .nils] false) (.ptr (.own 45113352) 0) h185 fun x190 h191 _ _ => storeA 3 x190 x188 h191 fun h194 _ _ => neS EE 3 x189 (.fv (.int .i64 0)) fun x197 => condS x197 (loadA 3 x190 h194 fun x198 _ => S43_510 h194 x7 x198 x189) (loadA 3 x190 h194 fun x204 r205 => S43_513 r205 ih h194 x0 x204 x12 x7)
noncomputable def S43_515 (x12 : IV) (h91 : Hp) (ih : Handler) (x0 : IV) (x7 : IV) : Option (IV × Hp) :=
  ixS 3 x12 (.fv (.int .i64 0)) fun x181 => loadA 3 x181 h91 fun x182 _ => isoS [] false false ih 19 [x0, x182] h91 fun x184 h185 _ _ => extS 0 x184 fun x188 => extS 1 x184 fun x189 => S43_514 h185 x188 x189 x7 ih x0 x12
noncomputable def S43_516 (h236 : Hp) (x7 : IV) (x229 : IV) : Option (IV × Hp) :=
  cellS true 3 x7 h236 fun x239 => outS1 [x239, x229] h236
noncomputable def S43_517 (h258 : Hp) (x249 : IV) (x7 : IV) (x257 : IV) : Option (IV × Hp) :=
  loadA 3 x249 h258 fun x259 _ => storeA 3 x7 x259 h258 fun h261 _ _ => cellS true 3 x7 h261 fun x264 => outS1 [x264, x257] h261
noncomputable def S43_518 (r273 : List Ref) (w274 : List Ref) (j1_256 : IV → Hp → Option (IV × Hp)) (h272 : Hp) (x271 : IV) : Option (IV × Hp) :=
  chkS [] r273 w274 (j1_256 x271 h272)
noncomputable def S43_519 (h253 : Hp) (x266 : IV) (x249 : IV) (ih : Handler) (x0 : IV) (j1_256 : IV → Hp → Option (IV × Hp)) : Option (IV × Hp) :=
  loadA 3 x266 h253 fun x267 r268 => chkS [] r268 [] (loadA 3 x249 h253 fun x269 r270 => chkS [(r268, [])] r270 [] (isoS [] false false ih 75 [x0, x267, x269] h253 fun x271 h272 r273 w274 => S43_518 r273 w274 j1_256 h272 x271))
noncomputable def S43_520 (x249 : IV) (x7 : IV) (x248 : IV) (x12 : IV) (h253 : Hp) (ih : Handler) (x0 : IV) : Option (IV × Hp) :=
  (fun (j1_256 : IV → Hp → Option (IV × Hp)) => eqS EE 3 x248 (.fv (.int .i64 0)) fun x265 => condS x265 (ixS 3 x12 (.fv (.int .i64 2)) fun x266 => S43_519 h253 x266 x249 ih x0 j1_256) (j1_256 x248 h253)) fun x257 h258 => S43_517 h258 x249 x7 x257
noncomputable def S43_521 (ih : Handler) (h230 : Hp) (x0 : IV) (x241 : IV) (x7 : IV) (x12 : IV) : Option (IV × Hp) :=
  isoS [] false false ih 19 [x0, x241] h230 fun x243 h244 _ _ => extS 0 x243 fun x247 => extS 1 x243 fun x248 => newS 45121544 (.row [.fv (.int .i64 0), .fv (.int .i64 0), .nils] false) (.ptr (.own 45121544) 0) h244 fun x249 h250 _ _ => storeA 3 x249 x247 h250 fun h253 _ _ => S43_520 x249 x7 x248 x12 h253 ih x0
noncomputable def S43_522 (x229 : IV) (h230 : Hp) (x18 : IV) (x7 : IV) (x12 : IV) (ih : Handler) (x0 : IV) : Option (IV × Hp) :=
  neS EE 3 x229 (.fv (.int .i64 0)) fun x233 => condS x233 (loadA 3 x18 h230 fun x234 _ => storeA 3 x7 x234 h230 fun h236 _ _ => S43_516 h236 x7 x229) (ixS 3 x12 (.fv (.int .i64 1)) fun x240 => loadA 3 x240 h230 fun x241 _ => S43_521 ih h230 x0 x241 x7 x12)
noncomputable def S43_523 (r226 : List Ref) (h91 : Hp) (x18 : IV) (ih : Handler) (x0 : IV) (x225 : IV) (x7 : IV) (x12 : IV) : Option (IV × Hp) :=
  chkS [] r226 [] (loadA 3 x18 h91 fun x227 r228 => chkS [(r226, [])] r228 [] (isoS [] false false ih 75 [x0, x225, x227] h91 fun x229 h230 r231 w232 => chkS [] r231 w232 (S43_522 x229 h230 x18 x7 x12 ih x0)))
noncomputable def S43_524 (h289 : Hp) (x7 : IV) (x293 : IV) (x284 : IV) : Option (IV × Hp) :=
  storeA 3 x7 x293 h289 fun h295 _ _ => cellS true 3 x7 h295 fun x298 => outS1 [x298, x284] h295
noncomputable def S43_525 (ih : Handler) (h324 : Hp) (x323 : IV) (x307 : IV) (x7 : IV) : Option (IV × Hp) :=
  isoS [] false false ih 77 [x323, x307] h324 fun x327 h328 _ _ => extS 0 x327 fun x331 => extS 1 x327 fun x332 => storeA 3 x7 x331 h328 fun h333 _ _ => cellS true 3 x7 h333 fun x336 => outS1 [x336, x332] h333
noncomputable def S43_526 (h309 : Hp) (x308 : IV) (x306 : IV) (x285 : IV) (ih : Handler) (x307 : IV) (x7 : IV) : Option (IV × Hp) :=
  storeA 3 x308 x306 h309 fun h312 _ _ => loadA 3 x285 h312 fun x315 _ => loadA 3 x308 h312 fun x317 _ => genS (pcBuildSlice EE 28 2 [(0, x315), (1, x317)]) 45130754 h312 fun x319 h320 _ _ => isoS [] false false ih 24 [.fv (.int .i64 17), x319] h320 fun x323 h324 _ _ => S43_525 ih h324 x323 x307 x7
noncomputable def S43_527 (h289 : Hp) (x299 : IV) (ih : Handler) (x0 : IV) (x285 : IV) (x7 : IV) : Option (IV × Hp) :=
  loadA 3 x299 h289 fun x300 _ => isoS [] false false ih 19 [x0, x300] h289 fun x302 h303 _ _ => extS 0 x302 fun x306 => extS 1 x302 fun x307 => newS 45129736 (.row [.fv (.int .i64 0), .fv (.int .i64 0), .nils] false) (.ptr (.own 45129736) 0) h303 fun x308 h309 _ _ => S43_526 h309 x308 x306 x285 ih x307 x7
noncomputable def S43_528 (h280 : Hp) (x283 : IV) (x284 : IV) (x7 : IV) (x12 : IV) (ih : Handler) (x0 : IV) : Option (IV × Hp) :=
  newS 45126664 (.row [.fv (.int .i64 0), .fv (.int .i64 0), .nils] false) (.ptr (.own 45126664) 0) h280 fun x285 h286 _ _ => storeA 3 x285 x283 h286 fun h289 _ _ => neS EE 3 x284 (.fv (.int .i64 0)) fun x292 => condS x292 (loadA 3 x285 h289 fun x293 _ => S43_524 h289 x7 x293 x284) (ixS 3 x12 (.fv (.int .i64 1)) fun x299 => S43_527 h289 x299 ih x0 x285 x7)
noncomputable def S43_529 (x12 : IV) (h91 : Hp) (ih : Handler) (x0 : IV) (x7 : IV) : Option (IV × Hp) :=
  ixS 3 x12 (.fv (.int .i64 0)) fun x276 => loadA 3 x276 h91 fun x277 _ => isoS [] false false ih 19 [x0, x277] h91 fun x279 h280 _ _ => extS 0 x279 fun x283 => extS 1 x279 fun x284 => S43_528 h280 x283 x284 x7 x12 ih x0
noncomputable def S43_530 (h363 : Hp) (x7 : IV) (x358 : IV) : Option (IV × Hp) :=
  cellS true 3 x7 h363 fun x366 => outS1 [x366, x358] h363
noncomputable def S43_531 (x368 : IV) (h359 : Hp) (x7 : IV) : Option (IV × Hp) :=
  ixS 3 x368 (.fv (.int .i64 1)) fun x370 => loadA 3 x370 h359 fun x371 _ => storeA 3 x7 x371 h359 fun h373 _ _ => cellS true 3 x7 h373 fun x376 => outS1 [x376, .fv (.int .i64 0)] h373
noncomputable def S43_532 (x358 : IV) (h359 : Hp) (x18 : IV) (x7 : IV) (x347 : IV) : Option (IV × Hp) :=
  neS EE 3 x358 (.fv (.int .i64 0)) fun x360 => condS x360 (loadA 3 x18 h359 fun x361 _ => storeA 3 x7 x361 h359 fun h363 _ _ => S43_530 h363 x7 x358) (faddrS 2 x347 fun x367 => load1 x367 h359 fun x368 _ => S43_531 x368 h359 x7)
noncomputable def S43_533 (x382 : IV) (h356 : Hp) (r380 : List Ref) (ih : Handler) (x0 : IV) (x379 : IV) (j1_357 : IV → Hp → Option (IV × Hp)) : Option (IV × Hp) :=
  ixS 3 x382 (.fv (.int .i64 0)) fun x384 => loadA 3 x384 h356 fun x385 r386 => chkS [(r380, [])] r386 [] (isoS [] false false ih 75 [x0, x379, x385] h356 fun x387 h388 r389 w390 => chkS [] r389 w390 (j1_357 x387 h388))
noncomputable def S43_534 (h356 : Hp) (x378 : IV) (x347 : IV) (ih : Handler) (x0 : IV) (j1_357 : IV → Hp → Option (IV × Hp)) : Option (IV × Hp) :=
  loadA 3 x378 h356 fun x379 r380 => chkS [] r380 [] (faddrS 2 x347 fun x381 => load1 x381 h356 fun x382 r383 => chkS [(r380, [])] r383 [] (S43_533 x382 h356 r380 ih x0 x379 j1_357))
noncomputable def S43_535 (x18 : IV) (x7 : IV) (x347 : IV) (x355 : IV) (x12 : IV) (h356 : Hp) (ih : Handler) (x0 : IV) : Option (IV × Hp) :=
  (fun (j1_357 : IV → Hp → Option (IV × Hp)) => eqS EE 3 x355 (.fv (.int .i64 0)) fun x377 => condS x377 (ixS 3 x12 (.fv (.int .i64 1)) fun x378 => S43_534 h356 x378 x347 ih x0 j1_357) (j1_357 x355 h356)) fun x358 h359 => S43_532 x358 h359 x18 x7 x347
noncomputable def S43_536 (x391 : IV) (x407 : IV) (j1_354 : IV → Hp → Option (IV × Hp)) (h408 : Hp) (x346 : IV) : Option (IV × Hp) :=
  pickS x391 x407 (.fv (.bool false)) fun x411 => condS x411 (j1_354 (.fv (.int .i64 12)) h408) (j1_354 x346 h408)
noncomputable def S43_537 (x18 : IV) (x7 : IV) (x347 : IV) (x12 : IV) (ih : Handler) (x0 : IV) (x346 : IV) (h351 : Hp) : Option (IV × Hp) :=
  (fun (j1_354 : IV → Hp → Option (IV × Hp)) => eqS EE 3 x346 (.fv (.int .i64 0)) fun x391 => guardS x391 true h351 (fun k392 => faddrS 0 x347 fun x393 => k392 x393 h351 [] []) fun x394 h395 _ _ => guardS x391 true h395 (fun k398 => load1 x394 h395 fun x399 r400 => k398 x399 h395 r400 []) fun x401 h402 _ _ => guardS x391 true h402 (fun k405 => neS EE 3 x401 (.fv (.int .i64 16)) fun x406 => k405 x406 h402 [] []) fun x407 h408 _ _ => S43_536 x391 x407 j1_354 h408 x346) fun x355 h356 => S43_535 x18 x7 x347 x355 x12 h356 ih x0
noncomputable def S43_538 (ih : Handler) (h91 : Hp) (x0 : IV) (x339 : IV) (x18 : IV) (x7 : IV) (x12 : IV) : Option (IV × Hp) :=
  isoS [] false false ih 19 [x0, x339] h91 fun x341 h342 _ _ => extS 0 x341 fun x345 => extS 1 x341 fun x346 => newS 45132808 (.row [.fv (.int .i64 0), .fv (.int .i64 0), .nils] false) (.ptr (.own 45132808) 0) h342 fun x347 h348 _ _ => storeA 3 x347 x345 h348 fun h351 _ _ => S43_537 x18 x7 x347 x12 ih x0 x346 h351
noncomputable def S43_539 (h437 : Hp) (x7 : IV) (x432 : IV) : Option (IV × Hp) :=
  cellS true 3 x7 h437 fun x440 => outS1 [x440, x432] h437
noncomputable def S43_540 (h433 : Hp) (x7 : IV) (x449 : IV) : Option (IV × Hp) :=
  storeA 3 x7 x449 h433 fun h451 _ _ => cellS true 3 x7 h451 fun x454 => outS1 [x454, .fv (.int .i64 0)] h451
noncomputable def S43_541 (x3 : IV) (h433 : Hp) (x442 : IV) (x7 : IV) : Option (IV × Hp) :=
  faddrS 0 x3 fun x444 => load1 x444 h433 fun x445 _ => subS EE 3 x445 (.fv (.int .i64 23)) fun x447 => ixS 3 x442 x447 fun x448 => loadA 3 x448 h433 fun x449 _ => S43_540 h433 x7 x449
noncomputable def S43_542 (x432 : IV) (h433 : Hp) (x18 : IV) (x7 : IV) (x424 : IV) (x3 : IV) : Option (IV × Hp) :=
  neS EE 3 x432 (.fv (.int .i64 0)) fun x434 => condS x434 (loadA 3 x18 h433 fun x435 _ => storeA 3 x7 x435 h433 fun h437 _ _ => S43_539 h437 x7 x432) (faddrS 2 x424 fun x441 => load1 x441 h433 fun x442 _ => S43_541 x3 h433 x442 x7)
noncomputable def S43_543 (x455 : IV) (x471 : IV) (j1_431 : IV → Hp → Option (IV × Hp)) (h472 : Hp) (x423 : IV) : Option (IV × Hp) :=
  pickS x455 x471 (.fv (.bool false)) fun x475 => condS x475 (j1_431 (.fv (.int .i64 12)) h472) (j1_431 x423 h472)
noncomputable def S43_544 (x18 : IV) (x7 : IV) (x424 : IV) (x3 : IV) (x423 : IV) (h428 : Hp) : Option (IV × Hp) :=
  (fun (j1_431 : IV → Hp → Option (IV × Hp)) => eqS EE 3 x423 (.fv (.int .i64 0)) fun x455 => guardS x455 true h428 (fun k456 => faddrS 0 x424 fun x457 => k456 x457 h428 [] []) fun x458 h459 _ _ => guardS x455 true h459 (fun k462 => load1 x458 h459 fun x463 r464 => k462 x463 h459 r464 []) fun x465 h466 _ _ => guardS x455 true h466 (fun k469 => neS EE 3 x465 (.fv (.int .i64 17)) fun x470 => k469 x470 h466 [] []) fun x471 h472 _ _ => S43_543 x455 x471 j1_431 h472 x423) fun x432 h433 => S43_542 x432 h433 x18 x7 x424 x3
noncomputable def S43_545 (ih : Handler) (h414 : Hp) (x0 : IV) (x416 : IV) (x18 : IV) (x7 : IV) (x3 : IV) : Option (IV × Hp) :=
  isoS [] false false ih 19 [x0, x416] h414 fun x418 h419 _ _ => extS 0 x418 fun x422 => extS 1 x418 fun x423 => newS 45143048 (.row [.fv (.int .i64 0), .fv (.int .i64 0), .nils] false) (.ptr (.own 45143048) 0) h419 fun x424 h425 _ _ => storeA 3 x424 x422 h425 fun h428 _ _ => S43_544 x18 x7 x424 x3 x423 h428
noncomputable def S43_546 (h478 : Hp) (x7 : IV) : Option (IV × Hp) :=
  cellS true 3 x7 h478 fun x481 => outS1 [x481, .fv (.int .i64 10)] h478
noncomputable def S43_547 (x413 : IV) (x12 : IV) (h414 : Hp) (ih : Handler) (x0 : IV) (x18 : IV) (x7 : IV) (x3 : IV) : Option (IV × Hp) :=
  condS x413 (ixS 3 x12 (.fv (.int .i64 0)) fun x415 => loadA 3 x415 h414 fun x416 _ => S43_545 ih h414 x0 x416 x18 x7 x3) (loadA 3 x18 h414 fun x476 _ => storeA 3 x7 x476 h414 fun h478 _ _ => S43_546 h478 x7)
noncomputable def S43_548 (x482 : IV) (j1_412 : IV → Hp → Option (IV × Hp)) (h91 : Hp) (x26 : IV) : Option (IV × Hp) :=
  condS x482 (j1_412 x482 h91) (eqS EE 3 x26 (.fv (.int .i64 24)) fun x483 => j1_412 x483 h91)
noncomputable def S43_549 (x26 : IV) (x12 : IV) (h91 : Hp) (ih : Handler) (x0 : IV) (x18 : IV) (x7 : IV) (x3 : IV) : Option (IV × Hp) :=
  eqS EE 3 x26 (.fv (.int .i64 21)) fun x337 => condS x337 (ixS 3 x12 (.fv (.int .i64 0)) fun x338 => loadA 3 x338 h91 fun x339 _ => S43_538 ih h91 x0 x339 x18 x7 x12) ((fun (j1_412 : IV → Hp → Option (IV × Hp)) => eqS EE 3 x26 (.fv (.int .i64 23)) fun x482 => S43_548 x482 j1_412 h91 x26) fun x413 h414 => S43_547 x413 x12 h414 ih x0 x18 x7 x3)
noncomputable def S43_550 (x26 : IV) (x12 : IV) (h91 : Hp) (x18 : IV) (ih : Handler) (x0 : IV) (x7 : IV) (x3 : IV) : Option (IV × Hp) :=
  eqS EE 3 x26 (.fv (.int .i64 27)) fun x223 => condS x223 (ixS 3 x12 (.fv (.int .i64 0)) fun x224 => loadA 3 x224 h91 fun x225 r226 => S43_523 r226 h91 x18 ih x0 x225 x7 x12) (eqS EE 3 x26 (.fv (.int .i64 22)) fun x275 => condS x275 (S43_529 x12 h91 ih x0 x7) (S43_549 x26 x12 h91 ih x0 x18 x7 x3))
noncomputable def S43_551 (x90 : IV) (x12 : IV) (h91 : Hp) (ih : Handler) (x18 : IV) (x7 : IV) (x3 : IV) (x0 : IV) (x26 : IV) : Option (IV × Hp) :=
  condS x90 (ixS 3 x12 (.fv (.int .i64 0)) fun x92 => loadA 3 x92 h91 fun x93 _ => S43_509 ih h91 x93 x18 x7 x3 x12 x0) (eqS EE 3 x26 (.fv (.int .i64 28)) fun x180 => condS x180 (S43_515 x12 h91 ih x0 x7) (S43_550 x26 x12 h91 x18 ih x0 x7 x3))
noncomputable def S43_552 (x12 : IV) (ih : Handler) (x18 : IV) (x7 : IV) (x3 : IV) (x0 : IV) (x26 : IV) (h22 : Hp) : Option (IV × Hp) :=
  (fun (j1_89 : IV → Hp → Option (IV × Hp)) => eqS EE 3 x26 (.fv (.int .i64 20)) fun x484 => condS x484 (j1_89 x484 h22) (eqS EE 3 x26 (.fv (.int .i64 29)) fun x485 => j1_89 x485 h22)) fun x90 h91 => S43_551 x90 x12 h91 ih x18 x7 x3 x0 x26
noncomputable def S43_553 (x26 : IV) (h22 : Hp) (x18 : IV) (x7 : IV) (x12 : IV) (ih : Handler) (x0 : IV) (x3 : IV) : Option (IV × Hp) :=
  eqS EE 3 x26 (.fv (.int .i64 25)) fun x53 => condS x53 (loadA 3 x18 h22 fun x54 _ => storeA 3 x7 x54 h22 fun h56 _ _ => S43_490 h56 x7) (eqS EE 3 x26 (.fv (.int .i64 26)) fun x60 => condS x60 (S43_495 x12 h22 x18 ih x0 x7) (S43_552 x12 ih x18 x7 x3 x0 x26 h22))
noncomputable def S43_554 (h19 : Hp) (x18 : IV) (x14 : IV) (x3 : IV) (x0 : IV) (x7 : IV) (x12 : IV) (ih : Handler) : Option (IV × Hp) :=
  storeA 3 x18 x14 h19 fun h22 _ _ => faddrS 0 x3 fun x25 => load1 x25 h22 fun x26 _ => eqS EE 3 x26 (.fv (.int .i64 1)) fun x28 => condS x28 (S43_489 x3 h22 x0 x18 x7) (S43_553 x26 h22 x18 x7 x12 ih x0 x3)
noncomputable def S43 (ih : Handler) (n : Nat) (x0 : IV) (x1 : IV) (h2 : Hp) : Option (IV × Hp) :=
  boxS 45088768 x1 h2 fun x3 h4 _ _ => newS 45088769 (.row [.fv (.int .i64 0), .fv (.int .i64 0), .nils] false) (.ptr (.own 45088769) 0) h4 fun x7 h8 _ _ => faddrS 2 x3 fun x11 => load1 x11 h8 fun x12 _ => isoS [] false false ih 24 [.fv (.int .i64 15), .nils] h8 fun x14 h15 _ _ => newS 45090817 (.row [.fv (.int .i64 0), .fv (.int .i64 0), .nils] false) (.ptr (.own 45090817) 0) h15 fun x18 h19 _ _ => S43_554 h19 x18 x14 x3 x0 x7 x12 ih
theorem S43_ok (ih : Handler) (n : Nat) (x0 : IV) (x1 : IV) (h2 : Hp) : funS EE ih ft.get n 43 [x0, x1] h2 = S43 ih n x0 x1 h2 := by kernel_rfl
/-! thyrsus/thyrsusref7.none -/
noncomputable def S44 (ih : Handler) (n : Nat) (x0 : IV) (h1 : Hp) : Option (IV × Hp) :=
  newS 46137344 (.row [.fv (.int .i64 0), .fv (.int .i64 0), .nils] false) (.ptr (.own 46137344) 0) h1 fun x2 h3 _ _ => bldS [.fv (.int .i64 0), .fv (.int .i64 0), .nils] [] fun x6 => storeA 3 x2 x6 h3 fun h7 _ _ => cellS true 3 x2 h7 fun x10 => outS1 [x10, x0] h7
theorem S44_ok (ih : Handler) (n : Nat) (x0 : IV) (h1 : Hp) : funS EE ih ft.get n 44 [x0] h1 = S44 ih n x0 h1 := by kernel_rfl
/-! thyrsus/thyrsusref4.Shift -/
noncomputable def S45_127 (h68 : Hp) (x71 : IV) (x67 : IV) (x36 : IV) (h3 : Hp) (x31 : IV) (x32 : IV) (x33 : IV) (x34 : IV) (x35 : IV) (q28 : List IV → Hp → Option (IV × Hp)) : Option (IV × Hp) :=
  store1 x71 x67 h68 fun h72 r73 w74 => chkS [] r73 w74 (addS EE 3 x36 (.fv (.int .i64 1)) fun x75 => dropS (h3.own.map (·.1)) [47193104] [x31, x32, x33, x34, x35, x75] h72 fun h76 => q28 [x31, x32, x33, x34, x35, x75] h76)
noncomputable def S45_128 (h60 : Hp) (x59 : IV) (r44 : List Ref) (x43 : IV) (x35 : IV) (x36 : IV) (h3 : Hp) (x31 : IV) (x32 : IV) (x33 : IV) (x34 : IV) (q28 : List IV → Hp → Option (IV × Hp)) : Option (IV × Hp) :=
  genS (pcBuildSlice EE 28 1 [(0, x59)]) 47193103 h60 fun x63 h64 r65 w66 => chkS [(r44, [])] r65 w66 (genS (builtinR EE 47193104 false .append [28, 28] [x43, x63]) 47193104 h64 fun x67 h68 r69 w70 => chkS [] r69 w70 (faddrS 2 x35 fun x71 => S45_127 h68 x71 x67 x36 h3 x31 x32 x33 x34 x35 q28))
noncomputable def S45_129 (ih : Handler) (h30 : Hp) (x52 : IV) (x36 : IV) (r50 : List Ref) (r47 : List Ref) (r44 : List Ref) (x32 : IV) (x49 : IV) (x31 : IV) (x43 : IV) (x35 : IV) (h3 : Hp) (x33 : IV) (x34 : IV) (q28 : List IV → Hp → Option (IV × Hp)) : Option (IV × Hp) :=
  isoS [] false false ih 54 [x52, x36] h30 fun x54 h55 r56 w57 => chkS [(r50, []), (r47, []), (r44, [])] r56 w57 (addS EE 3 x32 x54 fun x58 => isoS [] false false ih 45 [x49, x31, x58] h55 fun x59 h60 r61 w62 => chkS [(r44, [])] r61 w62 (S45_128 h60 x59 r44 x43 x35 x36 h3 x31 x32 x33 x34 q28))
noncomputable def S45_130 (h30 : Hp) (x48 : IV) (r44 : List Ref) (x33 : IV) (r47 : List Ref) (ih : Handler) (x36 : IV) (x32 : IV) (x31 : IV) (x43 : IV) (x35 : IV) (h3 : Hp) (x34 : IV) (q28 : List IV → Hp → Option (IV × Hp)) : Option (IV × Hp) :=
  loadA 3 x48 h30 fun x49 r50 => chkS [(r44, [])] r50 [] (faddrS 0 x33 fun x51 => load1 x51 h30 fun x52 r53 => chkS [(r50, []), (r47, []), (r44, [])] r53 [] (S45_129 ih h30 x52 x36 r50 r47 r44 x32 x49 x31 x43 x35 h3 x33 x34 q28))
noncomputable def S45_131 (r44 : List Ref) (x33 : IV) (h30 : Hp) (x36 : IV) (ih : Handler) (x32 : IV) (x31 : IV) (x43 : IV) (x35 : IV) (h3 : Hp) (x34 : IV) (q28 : List IV → Hp → Option (IV × Hp)) : Option (IV × Hp) :=
  chkS [] r44 [] (faddrS 2 x33 fun x45 => load1 x45 h30 fun x46 r47 => chkS [(r44, [])] r47 [] (ixS 3 x46 x36 fun x48 => S45_130 h30 x48 r44 x33 r47 ih x36 x32 x31 x43 x35 h3 x34 q28))
noncomputable def S45_132 (h79 : Hp) (x34 : IV) : Option (IV × Hp) :=
  cellS true 3 x34 h79 fun x82 => outS1 [x82] h79
noncomputable def S45_133 (x41 : IV) (x35 : IV) (h30 : Hp) (x33 : IV) (x36 : IV) (ih : Handler) (x32 : IV) (x31 : IV) (h3 : Hp) (x34 : IV) (q28 : List IV → Hp → Option (IV × Hp)) : Option (IV × Hp) :=
  condS x41 (faddrS 2 x35 fun x42 => load1 x42 h30 fun x43 r44 => S45_131 r44 x33 h30 x36 ih x32 x31 x43 x35 h3 x34 q28) (loadA 3 x35 h30 fun x77 _ => storeA 3 x34 x77 h30 fun h79 _ _ => S45_132 h79 x34)
noncomputable def S45_134 (l87 : List IV) (x33 : IV) (h30 : Hp) (x35 : IV) (ih : Handler) (x32 : IV) (x31 : IV) (h3 : Hp) (x34 : IV) (q28 : List IV → Hp → Option (IV × Hp)) : Option (IV × Hp) :=
  uncS l87 fun x36 _ => faddrS 2 x33 fun x37 => load1 x37 h30 fun x38 _ => lenS x38 fun x40 => ltS EE 3 x36 x40 fun x41 => S45_133 x41 x35 h30 x33 x36 ih x32 x31 h3 x34 q28
noncomputable def S45_135 (l29 : List IV) (h30 : Hp) (ih : Handler) (h3 : Hp) (q28 : List IV → Hp → Option (IV × Hp)) : Option (IV × Hp) :=
  uncS l29 fun x31 l83 => uncS l83 fun x32 l84 => uncS l84 fun x33 l85 => uncS l85 fun x34 l86 => uncS l86 fun x35 l87 => S45_134 l87 x33 h30 x35 ih x32 x31 h3 x34 q28
noncomputable def S45_136 (h3 : Hp) (h27 : Hp) (x1 : IV) (x2 : IV) (x4 : IV) (x8 : IV) (x19 : IV) (n : Nat) (ih : Handler) : Option (IV × Hp) :=
  dropS (h3.own.map (·.1)) [47193104] [x1, x2, x4, x8, x19, .fv (.int .i64 0)] h27 fun h89 => loopS n (fun q28 l29 h30 => S45_135 l29 h30 ih h3 q28) [x1, x2, x4, x8, x19, .fv (.int .i64 0)] h89
noncomputable def S45_137 (h115 : Hp) (x119 : IV) (x1 : IV) (x19 : IV) (j0_26 : Hp → Option (IV × Hp)) : Option (IV × Hp) :=
  load1 x119 h115 fun x120 _ => addS EE 3 x120 x1 fun x122 => faddrS 1 x19 fun x123 => store1 x123 x122 h115 fun h124 _ _ => j0_26 h124
noncomputable def S45_138 (h109 : Hp) (x93 : IV) (x103 : IV) (x108 : IV) (x4 : IV) (x1 : IV) (x19 : IV) (j0_26 : Hp → Option (IV × Hp)) : Option (IV × Hp) :=
  guardS x93 true h109 (fun k112 => geS EE 3 x103 x108 fun x113 => k112 x113 h109 [] []) fun x114 h115 _ _ => pickS x93 x114 (.fv (.bool false)) fun x118 => condS x118 (faddrS 1 x4 fun x119 => S45_137 h115 x119 x1 x19 j0_26) (j0_26 h115)
noncomputable def S45_139 (h23 : Hp) (x90 : IV) (x4 : IV) (x2 : IV) (x1 : IV) (x19 : IV) (j0_26 : Hp → Option (IV × Hp)) : Option (IV × Hp) :=
  load1 x90 h23 fun x91 _ => eqS EE 3 x91 (.fv (.int .i64 1)) fun x93 => guardS x93 true h23 (fun k94 => faddrS 1 x4 fun x95 => k94 x95 h23 [] []) fun x96 h97 _ _ => guardS x93 true h97 (fun k100 => load1 x96 h97 fun x101 r102 => k100 x101 h97 r102 []) fun x103 h104 _ _ => guardS x93 true h104 (fun k107 => k107 x2 h104 [] []) fun x108 h109 _ _ => S45_138 h109 x93 x103 x108 x4 x1 x19 j0_26
noncomputable def S45_140 (x13 : IV) (x16 : IV) (h9 : Hp) (h3 : Hp) (x1 : IV) (x2 : IV) (x4 : IV) (x8 : IV) (n : Nat) (ih : Handler) : Option (IV × Hp) :=
  bldS [.fv (.int .i64 0), .fv (.int .i64 0), .nils] [(0, 1, x13), (1, 1, x16)] fun x18 => newS 47186949 (.row [.fv (.int .i64 0), .fv (.int .i64 0), .nils] false) (.ptr (.own 47186949) 0) h9 fun x19 h20 _ _ => storeA 3 x19 x18 h20 fun h23 _ _ => (fun (j0_26 : Hp → Option (IV × Hp)) => faddrS 0 x4 fun x90 => S45_139 h23 x90 x4 x2 x1 x19 j0_26) fun h27 => S45_136 h3 h27 x1 x2 x4 x8 x19 n ih
noncomputable def S45 (ih : Handler) (n : Nat) (x0 : IV) (x1 : IV) (x2 : IV) (h3 : Hp) : Option (IV × Hp) :=
  boxS 47185920 x0 h3 fun x4 h5 _ _ => newS 47185921 (.row [.fv (.int .i64 0), .fv (.int .i64 0), .nils] false) (.ptr (.own 47185921) 0) h5 fun x8 h9 _ _ => faddrS 0 x4 fun x12 => load1 x12 h9 fun x13 _ => faddrS 1 x4 fun x15 => load1 x15 h9 fun x16 _ => S45_140 x13 x16 h9 h3 x1 x2 x4 x8 n ih
theorem S45_ok (ih : Handler) (n : Nat) (x0 : IV) (x1 : IV) (x2 : IV) (h3 : Hp) : funS EE ih ft.get n 45 [x0, x1, x2] h3 = S45 ih n x0 x1 x2 h3 := by kernel_rfl
/-! thyrsus/thyrsusref7.object -/
noncomputable def S46_296 (h33 : Hp) (x7 : IV) (x40 : IV) : Option (IV × Hp) :=
  storeA 3 x7 x40 h33 fun h42 _ _ => cellS true 3 x7 h42 fun x45 => outS1 [x45, .fv (.int .i64 0)] h42
noncomputable def S46_297 (x54 : IV) (h55 : Hp) (x7 : IV) (x58 : IV) : Option (IV × Hp) :=
  extS 1 x54 fun x59 => storeA 3 x7 x58 h55 fun h60 _ _ => cellS true 3 x7 h60 fun x63 => outS1 [x63, x59] h60
noncomputable def S46_298 (h66 : Hp) (x7 : IV) : Option (IV × Hp) :=
  cellS true 3 x7 h66 fun x69 => outS1 [x69, .fv (.int .i64 0)] h66
noncomputable def S46_299 (x49 : IV) (ih : Handler) (h50 : Hp) (x7 : IV) (x29 : IV) : Option (IV × Hp) :=
  neS EE 3 x49 (.fv (.int .i64 0)) fun x53 => condS x53 (isoS [] false false ih 44 [x49] h50 fun x54 h55 _ _ => extS 0 x54 fun x58 => S46_297 x54 h55 x7 x58) (loadA 3 x29 h50 fun x64 _ => storeA 3 x7 x64 h50 fun h66 _ _ => S46_298 h66 x7)
noncomputable def S46_300 (x81 : IV) (h82 : Hp) (x7 : IV) : Option (IV × Hp) :=
  extS 0 x81 fun x85 => extS 1 x81 fun x86 => storeA 3 x7 x85 h82 fun h87 _ _ => cellS true 3 x7 h87 fun x90 => outS1 [x90, x86] h87
noncomputable def S46_301 (ih : Handler) (h107 : Hp) (x102 : IV) (x7 : IV) : Option (IV × Hp) :=
  isoS [] false false ih 44 [x102] h107 fun x111 h112 _ _ => extS 0 x111 fun x115 => extS 1 x111 fun x116 => storeA 3 x7 x115 h112 fun h117 _ _ => cellS true 3 x7 h117 fun x120 => outS1 [x120, x116] h117
noncomputable def S46_302 (h140 : Hp) (x7 : IV) (x139 : IV) : Option (IV × Hp) :=
  cellS true 3 x7 h140 fun x143 => outS1 [x143, x139] h140
noncomputable def S46_303 (r136 : List Ref) (w137 : List Ref) (x134 : IV) (h135 : Hp) (x7 : IV) : Option (IV × Hp) :=
  chkS [] r136 w137 (extS 0 x134 fun x138 => extS 1 x134 fun x139 => storeA 3 x7 x138 h135 fun h140 r141 w142 => chkS [] r141 w142 (S46_302 h140 x7 x139))
noncomputable def S46_304 (h107 : Hp) (x122 : IV) (x124 : IV) (ih : Handler) (x7 : IV) : Option (IV × Hp) :=
  genS (pcBuildSlice EE 28 2 [(0, x122), (1, x124)]) 48253956 h107 fun x126 h127 r128 w129 => chkS [] r128 w129 (isoS [] false false ih 24 [.fv (.int .i64 16), x126] h127 fun x130 h131 r132 w133 => chkS [] r132 w133 (isoS [] false false ih 34 [x130] h131 fun x134 h135 r136 w137 => S46_303 r136 w137 x134 h135 x7))
noncomputable def S46_305 (x12 : IV) (h107 : Hp) (x103 : IV) (ih : Handler) (x7 : IV) : Option (IV × Hp) :=
  ixS 3 x12 (.fv (.int .i64 0)) fun x121 => loadA 3 x121 h107 fun x122 r123 => chkS [] r123 [] (loadA 3 x103 h107 fun x124 r125 => chkS [(r123, [])] r125 [] (S46_304 h107 x122 x124 ih x7))
noncomputable def S46_306 (r105 : List Ref) (w106 : List Ref) (r99 : List Ref) (w100 : List Ref) (r96 : List Ref) (r93 : List Ref) (h104 : Hp) (x103 : IV) (x101 : IV) (x102 : IV) (ih : Handler) (x7 : IV) (x12 : IV) : Option (IV × Hp) :=
  chkS [(r99, w100), (r96, []), (r93, [])] r105 w106 (storeA 3 x103 x101 h104 fun h107 r108 w109 => chkS [] r108 w109 (neS EE 3 x102 (.fv (.int .i64 0)) fun x110 => condS x110 (S46_301 ih h107 x102 x7) (S46_305 x12 h107 x103 ih x7)))
noncomputable def S46_307 (ih : Handler) (h77 : Hp) (x0 : IV) (x92 : IV) (x95 : IV) (r96 : List Ref) (r93 : List Ref) (x7 : IV) (x12 : IV) : Option (IV × Hp) :=
  isoS [] false false ih 78 [x0, x92, x95] h77 fun x97 h98 r99 w100 => chkS [] r99 w100 (extS 0 x97 fun x101 => extS 1 x97 fun x102 => newS 48250891 (.row [.fv (.int .i64 0), .fv (.int .i64 0), .nils] false) (.ptr (.own 48250891) 0) h98 fun x103 h104 r105 w106 => S46_306 r105 w106 r99 w100 r96 r93 h104 x103 x101 x102 ih x7 x12)
noncomputable def S46_308 (h77 : Hp) (x91 : IV) (x12 : IV) (ih : Handler) (x0 : IV) (x7 : IV) : Option (IV × Hp) :=
  loadA 3 x91 h77 fun x92 r93 => chkS [] r93 [] (ixS 3 x12 (.fv (.int .i64 1)) fun x94 => loadA 3 x94 h77 fun x95 r96 => chkS [(r93, [])] r96 [] (S46_307 ih h77 x0 x92 x95 r96 r93 x7 x12))
noncomputable def S46_309 (ih : Handler) (h33 : Hp) (x0 : IV) (x72 : IV) (x74 : IV) (x7 : IV) (x12 : IV) : Option (IV × Hp) :=
  isoS [] false false ih 48 [x0, .fv (.int .i64 1), x72, x74] h33 fun x76 h77 r78 w79 => chkS [] r78 w79 (neS EE 3 x76 (.fv (.int .i64 0)) fun x80 => condS x80 (isoS [] false false ih 44 [x76] h77 fun x81 h82 _ _ => S46_300 x81 h82 x7) (ixS 3 x12 (.fv (.int .i64 0)) fun x91 => S46_308 h77 x91 x12 ih x0 x7))
noncomputable def S46_310 (x12 : IV) (h33 : Hp) (x18 : IV) (ih : Handler) (x0 : IV) (x7 : IV) : Option (IV × Hp) :=
  ixS 3 x12 (.fv (.int .i64 0)) fun x71 => loadA 3 x71 h33 fun x72 r73 => chkS [] r73 [] (loadA 3 x18 h33 fun x74 r75 => chkS [(r73, [])] r75 [] (S46_309 ih h33 x0 x72 x74 x7 x12))
noncomputable def S46_311 (x158 : IV) (h159 : Hp) (x7 : IV) (x162 : IV) : Option (IV × Hp) :=
  extS 1 x158 fun x163 => storeA 3 x7 x162 h159 fun h164 _ _ => cellS true 3 x7 h164 fun x167 => outS1 [x167, x163] h164
noncomputable def S46_312 (ih : Handler) (h156 : Hp) (x169 : IV) (x7 : IV) : Option (IV × Hp) :=
  isoS [] false false ih 34 [x169] h156 fun x171 h172 _ _ => extS 0 x171 fun x175 => extS 1 x171 fun x176 => storeA 3 x7 x175 h172 fun h177 _ _ => cellS true 3 x7 h177 fun x180 => outS1 [x180, x176] h177
noncomputable def S46_313 (x155 : IV) (ih : Handler) (h156 : Hp) (x7 : IV) (x12 : IV) : Option (IV × Hp) :=
  neS EE 3 x155 (.fv (.int .i64 0)) fun x157 => condS x157 (isoS [] false false ih 44 [x155] h156 fun x158 h159 _ _ => extS 0 x158 fun x162 => S46_311 x158 h159 x7 x162) (ixS 3 x12 (.fv (.int .i64 0)) fun x168 => loadA 3 x168 h156 fun x169 _ => S46_312 ih h156 x169 x7)
noncomputable def S46_314 (ih : Handler) (h186 : Hp) (x193 : IV) (r191 : List Ref) (x185 : IV) (x190 : IV) (j1_154 : IV → Hp → Option (IV × Hp)) : Option (IV × Hp) :=
  isoS [] false false ih 45 [x193, .fv (.int .i64 1), .fv (.int .i64 0)] h186 fun x195 h196 r197 w198 => chkS [(r191, [])] r197 w198 (isoS [] false false ih 48 [x185, .fv (.int .i64 0), x190, x195] h196 fun x199 h200 r201 w202 => chkS [] r201 w202 (j1_154 x199 h200))
noncomputable def S46_315 (h186 : Hp) (x189 : IV) (r187 : List Ref) (w188 : List Ref) (r184 : List Ref) (x12 : IV) (ih : Handler) (x185 : IV) (j1_154 : IV → Hp → Option (IV × Hp)) : Option (IV × Hp) :=
  loadA 3 x189 h186 fun x190 r191 => chkS [(r187, w188), (r184, [])] r191 [] (ixS 3 x12 (.fv (.int .i64 0)) fun x192 => loadA 3 x192 h186 fun x193 r194 => chkS [(r191, []), (r187, w188), (r184, [])] r194 [] (S46_314 ih h186 x193 r191 x185 x190 j1_154))
noncomputable def S46_316 (h151 : Hp) (x182 : IV) (ih : Handler) (x0 : IV) (x12 : IV) (j1_154 : IV → Hp → Option (IV × Hp)) : Option (IV × Hp) :=
  loadA 3 x182 h151 fun x183 r184 => chkS [] r184 [] (isoS [] false false ih 79 [x0, .fv (.int .i64 0), x183] h151 fun x185 h186 r187 w188 => chkS [] r187 w188 (ixS 3 x12 (.fv (.int .i64 1)) fun x189 => S46_315 h186 x189 r187 w188 r184 x12 ih x185 j1_154))
noncomputable def S46_317 (ih : Handler) (x7 : IV) (x12 : IV) (x150 : IV) (h151 : Hp) (x0 : IV) : Option (IV × Hp) :=
  (fun (j1_154 : IV → Hp → Option (IV × Hp)) => eqS EE 3 x150 (.fv (.int .i64 0)) fun x181 => condS x181 (ixS 3 x12 (.fv (.int .i64 0)) fun x182 => S46_316 h151 x182 ih x0 x12 j1_154) (j1_154 x150 h151)) fun x155 h156 => S46_313 x155 ih h156 x7 x12
noncomputable def S46_318 (r147 : List Ref) (h33 : Hp) (x18 : IV) (ih : Handler) (x0 : IV) (x146 : IV) (x7 : IV) (x12 : IV) : Option (IV × Hp) :=
  chkS [] r147 [] (loadA 3 x18 h33 fun x148 r149 => chkS [(r147, [])] r149 [] (isoS [] false false ih 48 [x0, .fv (.int .i64 1), x146, x148] h33 fun x150 h151 r152 w153 => chkS [] r152 w153 (S46_317 ih x7 x12 x150 h151 x0)))
noncomputable def S46_319 (x221 : IV) (h222 : Hp) (x7 : IV) : Option (IV × Hp) :=
  extS 0 x221 fun x225 => extS 1 x221 fun x226 => storeA 3 x7 x225 h222 fun h227 _ _ => cellS true 3 x7 h227 fun x230 => outS1 [x230, x226] h227
noncomputable def S46_320 (h242 : Hp) (x7 : IV) (x241 : IV) : Option (IV × Hp) :=
  cellS true 3 x7 h242 fun x245 => outS1 [x245, x241] h242
noncomputable def S46_321 (r238 : List Ref) (w239 : List Ref) (x236 : IV) (h237 : Hp) (x7 : IV) : Option (IV × Hp) :=
  chkS [] r238 w239 (extS 0 x236 fun x240 => extS 1 x236 fun x241 => storeA 3 x7 x240 h237 fun h242 r243 w244 => chkS [] r243 w244 (S46_320 h242 x7 x241))
noncomputable def S46_322 (r232 : List Ref) (x12 : IV) (h217 : Hp) (ih : Handler) (x0 : IV) (x231 : IV) (x7 : IV) : Option (IV × Hp) :=
  chkS [] r232 [] (ixS 3 x12 (.fv (.int .i64 1)) fun x233 => loadA 3 x233 h217 fun x234 r235 => chkS [(r232, [])] r235 [] (isoS [] false false ih 78 [x0, x231, x234] h217 fun x236 h237 r238 w239 => S46_321 r238 w239 x236 h237 x7))
noncomputable def S46_323 (h208 : Hp) (x211 : IV) (x212 : IV) (ih : Handler) (x7 : IV) (x12 : IV) (x0 : IV) : Option (IV × Hp) :=
  newS 48263176 (.row [.fv (.int .i64 0), .fv (.int .i64 0), .nils] false) (.ptr (.own 48263176) 0) h208 fun x213 h214 _ _ => storeA 3 x213 x211 h214 fun h217 _ _ => neS EE 3 x212 (.fv (.int .i64 0)) fun x220 => condS x220 (isoS [] false false ih 44 [x212] h217 fun x221 h222 _ _ => S46_319 x221 h222 x7) (loadA 3 x213 h217 fun x231 r232 => S46_322 r232 x12 h217 ih x0 x231 x7)
noncomputable def S46_324 (x12 : IV) (h33 : Hp) (ih : Handler) (x0 : IV) (x7 : IV) : Option (IV × Hp) :=
  ixS 3 x12 (.fv (.int .i64 0)) fun x204 => loadA 3 x204 h33 fun x205 _ => isoS [] false false ih 20 [x0, .fv (.int .i64 0), x205] h33 fun x207 h208 _ _ => extS 0 x207 fun x211 => extS 1 x207 fun x212 => S46_323 h208 x211 x212 ih x7 x12 x0
noncomputable def S46_325 (x264 : IV) (h265 : Hp) (x7 : IV) (x268 : IV) : Option (IV × Hp) :=
  extS 1 x264 fun x269 => storeA 3 x7 x268 h265 fun h270 _ _ => cellS true 3 x7 h270 fun x273 => outS1 [x273, x269] h270
noncomputable def S46_326 (x275 : IV) (h260 : Hp) (x7 : IV) : Option (IV × Hp) :=
  ixS 3 x275 (.fv (.int .i64 0)) fun x277 => loadA 3 x277 h260 fun x278 _ => storeA 3 x7 x278 h260 fun h280 _ _ => cellS true 3 x7 h280 fun x283 => outS1 [x283, .fv (.int .i64 0)] h280
noncomputable def S46_327 (x255 : IV) (ih : Handler) (h260 : Hp) (x7 : IV) (x256 : IV) : Option (IV × Hp) :=
  neS EE 3 x255 (.fv (.int .i64 0)) fun x263 => condS x263 (isoS [] false false ih 44 [x255] h260 fun x264 h265 _ _ => extS 0 x264 fun x268 => S46_325 x264 h265 x7 x268) (faddrS 2 x256 fun x274 => load1 x274 h260 fun x275 _ => S46_326 x275 h260 x7)
noncomputable def S46_328 (ih : Handler) (h33 : Hp) (x0 : IV) (x248 : IV) (x7 : IV) : Option (IV × Hp) :=
  isoS [] false false ih 80 [x0, .fv (.int .i64 1), x248, .fv (.int .i64 18)] h33 fun x250 h251 _ _ => extS 0 x250 fun x254 => extS 1 x250 fun x255 => newS 48268296 (.row [.fv (.int .i64 0), .fv (.int .i64 0), .nils] false) (.ptr (.own 48268296) 0) h251 fun x256 h257 _ _ => storeA 3 x256 x254 h257 fun h260 _ _ => S46_327 x255 ih h260 x7 x256
noncomputable def S46_329 (x286 : IV) (h287 : Hp) (x7 : IV) : Option (IV × Hp) :=
  extS 0 x286 fun x290 => extS 1 x286 fun x291 => storeA 3 x7 x290 h287 fun h292 _ _ => cellS true 3 x7 h292 fun x295 => outS1 [x295, x291] h292
noncomputable def S46_330 (x37 : IV) (x12 : IV) (h33 : Hp) (ih : Handler) (x0 : IV) (x7 : IV) (x3 : IV) : Option (IV × Hp) :=
  eqS EE 3 x37 (.fv (.int .i64 30)) fun x246 => condS x246 (ixS 3 x12 (.fv (.int .i64 0)) fun x247 => loadA 3 x247 h33 fun x248 _ => S46_328 ih h33 x0 x248 x7) (loadA 3 x3 h33 fun x284 _ => isoS [] false false ih 81 [x0, x284] h33 fun x286 h287 _ _ => S46_329 x286 h287 x7)
noncomputable def S46_331 (x37 : IV) (x12 : IV) (h33 : Hp) (x18 : IV) (ih : Handler) (x0 : IV) (x7 : IV) (x3 : IV) : Option (IV × Hp) :=
  eqS EE 3 x37 (.fv (.int .i64 29)) fun x144 => condS x144 (ixS 3 x12 (.fv (.int .i64 0)) fun x145 => loadA 3 x145 h33 fun x146 r147 => S46_318 r147 h33 x18 ih x0 x146 x7 x12) (eqS EE 3 x37 (.fv (.int .i64 28)) fun x203 => condS x203 (S46_324 x12 h33 ih x0 x7) (S46_330 x37 x12 h33 ih x0 x7 x3))
noncomputable def S46_332 (x46 : IV) (h33 : Hp) (x29 : IV) (ih : Handler) (x0 : IV) (x12 : IV) (x7 : IV) (x37 : IV) (x18 : IV) (x3 : IV) : Option (IV × Hp) :=
  condS x46 (loadA 3 x29 h33 fun x47 _ => isoS [] false false ih 49 [x0, .fv (.int .i64 0), x12, x47] h33 fun x49 h50 _ _ => S46_299 x49 ih h50 x7 x29) (eqS EE 3 x37 (.fv (.int .i64 20)) fun x70 => condS x70 (S46_310 x12 h33 x18 ih x0 x7) (S46_331 x37 x12 h33 x18 ih x0 x7 x3))
noncomputable def S46_333 (h33 : Hp) (x36 : IV) (x29 : IV) (x7 : IV) (ih : Handler) (x0 : IV) (x12 : IV) (x18 : IV) (x3 : IV) : Option (IV × Hp) :=
  load1 x36 h33 fun x37 _ => eqS EE 3 x37 (.fv (.int .i64 25)) fun x39 => condS x39 (loadA 3 x29 h33 fun x40 _ => S46_296 h33 x7 x40) (eqS EE 3 x37 (.fv (.int .i64 26)) fun x46 => S46_332 x46 h33 x29 ih x0 x12 x7 x37 x18 x3)
noncomputable def S46_334 (h19 : Hp) (x18 : IV) (x14 : IV) (ih : Handler) (x3 : IV) (x7 : IV) (x0 : IV) (x12 : IV) : Option (IV × Hp) :=
  storeA 3 x18 x14 h19 fun h22 _ _ => isoS [] false false ih 24 [.fv (.int .i64 15), .nils] h22 fun x25 h26 _ _ => newS 48237569 (.row [.fv (.int .i64 0), .fv (.int .i64 0), .nils] false) (.ptr (.own 48237569) 0) h26 fun x29 h30 _ _ => storeA 3 x29 x25 h30 fun h33 _ _ => faddrS 0 x3 fun x36 => S46_333 h33 x36 x29 x7 ih x0 x12 x18 x3
noncomputable def S46 (ih : Handler) (n : Nat) (x0 : IV) (x1 : IV) (h2 : Hp) : Option (IV × Hp) :=
  boxS 48234496 x1 h2 fun x3 h4 _ _ => newS 48234497 (.row [.fv (.int .i64 0), .fv (.int .i64 0), .nils] false) (.ptr (.own 48234497) 0) h4 fun x7 h8 _ _ => faddrS 2 x3 fun x11 => load1 x11 h8 fun x12 _ => isoS [] false false ih 24 [.fv (.int .i64 14), .nils] h8 fun x14 h15 _ _ => newS 48236545 (.row [.fv (.int .i64 0), .fv (.int .i64 0), .nils] false) (.ptr (.own 48236545) 0) h15 fun x18 h19 _ _ => S46_334 h19 x18 x14 ih x3 x7 x0 x12
theorem S46_ok (ih : Handler) (n : Nat) (x0 : IV) (x1 : IV) (h2 : Hp) : funS EE ih ft.get n 46 [x0, x1] h2 = S46 ih n x0 x1 h2 := by kernel_rfl
/-! thyrsus/thyrsusref4.Uni -/
noncomputable def S47 (ih : Handler) (n : Nat) (x0 : IV) (h1 : Hp) : Option (IV × Hp) :=
  newS 49283072 (.row [.fv (.int .i64 0), .fv (.int .i64 0), .nils] false) (.ptr (.own 49283072) 0) h1 fun x2 h3 _ _ => bldS [.fv (.int .i64 0), .fv (.int .i64 0), .nils] [(0, 1, .fv (.int .i64 2)), (1, 1, x0)] fun x6 => storeA 3 x2 x6 h3 fun h7 _ _ => cellS true 3 x2 h7 fun x10 => outS1 [x10] h7
theorem S47_ok (ih : Handler) (n : Nat) (x0 : IV) (h1 : Hp) : funS EE ih ft.get n 47 [x0] h1 = S47 ih n x0 h1 := by kernel_rfl
/-! thyrsus/thyrsusref7.Check -/
noncomputable def S48_55 (x38 : IV) (h34 : Hp) (x37 : IV) (j1_39 : IV → Hp → Option (IV × Hp)) : Option (IV × Hp) :=
  eqS EE 3 x38 (.fv (.int .i64 0)) fun x42 => guardS x42 true h34 (fun k43 => k43 x37 h34 [] []) fun x44 h45 _ _ => guardS x42 true h45 (fun k48 => optS (unR .not x44) fun x49 => k48 x49 h45 [] []) fun x50 h51 _ _ => pickS x42 x50 (.fv (.bool false)) fun x54 => condS x54 (j1_39 (.fv (.int .i64 11)) h51) (j1_39 x38 h51)
noncomputable def S48_56 (h25 : Hp) (x9 : IV) (ih : Handler) (x29 : IV) : Option (IV × Hp) :=
  loadA 3 x9 h25 fun x31 _ => isoS [] false false ih 82 [x29, x31] h25 fun x33 h34 _ _ => extS 0 x33 fun x37 => extS 1 x33 fun x38 => (fun (j1_39 : IV → Hp → Option (IV × Hp)) => S48_55 x38 h34 x37 j1_39) fun x40 h41 => outS1 [x40] h41
noncomputable def S48_57 (h16 : Hp) (x19 : IV) (x20 : IV) (x9 : IV) (ih : Handler) : Option (IV × Hp) :=
  newS 50332679 (.row [.fv (.int .i64 0), .fv (.int .i64 0), .nils] false) (.ptr (.own 50332679) 0) h16 fun x21 h22 _ _ => storeA 3 x21 x19 h22 fun h25 _ _ => neS EE 3 x20 (.fv (.int .i64 0)) fun x28 => condS x28 (outS1 [x20] h25) (loadA 3 x21 h25 fun x29 _ => S48_56 h25 x9 ih x29)
noncomputable def S48 (ih : Handler) (n : Nat) (x0 : IV) (x1 : IV) (x2 : IV) (x3 : IV) (h4 : Hp) : Option (IV × Hp) :=
  boxS 50331648 x2 h4 fun x5 h6 _ _ => boxS 50331649 x3 h6 fun x9 h10 _ _ => loadA 3 x5 h10 fun x13 _ => isoS [] false false ih 20 [x0, x1, x13] h10 fun x15 h16 _ _ => extS 0 x15 fun x19 => extS 1 x15 fun x20 => S48_57 h16 x19 x20 x9 ih
theorem S48_ok (ih : Handler) (n : Nat) (x0 : IV) (x1 : IV) (x2 : IV) (x3 : IV) (h4 : Hp) : funS EE ih ft.get n 48 [x0, x1, x2, x3] h4 = S48 ih n x0 x1 x2 x3 h4 := by kernel_rfl
/-! thyrsus/thyrsusref7.Checks -/
noncomputable def S49_35 (r26 : List Ref) (w27 : List Ref) (x24 : IV) (h25 : Hp) (x16 : IV) (q9 : List IV → Hp → Option (IV × Hp)) (x12 : IV) (x13 : IV) (x14 : IV) (x15 : IV) : Option (IV × Hp) :=
  chkS [] r26 w27 (neS EE 3 x24 (.fv (.int .i64 0)) fun x28 => condS x28 (outS1 [x24] h25) (addS EE 3 x16 (.fv (.int .i64 1)) fun x29 => q9 [x12, x13, x14, x15, x29] h25))
noncomputable def S49_36 (h11 : Hp) (x19 : IV) (x15 : IV) (ih : Handler) (x12 : IV) (x13 : IV) (x16 : IV) (q9 : List IV → Hp → Option (IV × Hp)) (x14 : IV) : Option (IV × Hp) :=
  loadA 3 x19 h11 fun x20 r21 => chkS [] r21 [] (loadA 3 x15 h11 fun x22 r23 => chkS [(r21, [])] r23 [] (isoS [] false false ih 48 [x12, x13, x20, x22] h11 fun x24 h25 r26 w27 => S49_35 r26 w27 x24 h25 x16 q9 x12 x13 x14 x15))
noncomputable def S49_37 (x14 : IV) (x16 : IV) (h11 : Hp) (x15 : IV) (ih : Handler) (x12 : IV) (x13 : IV) (q9 : List IV → Hp → Option (IV × Hp)) : Option (IV × Hp) :=
  lenS x14 fun x17 => ltS EE 3 x16 x17 fun x18 => condS x18 (ixS 3 x14 x16 fun x19 => S49_36 h11 x19 x15 ih x12 x13 x16 q9 x14) (outS1 [.fv (.int .i64 0)] h11)
noncomputable def S49_38 (l10 : List IV) (h11 : Hp) (ih : Handler) (q9 : List IV → Hp → Option (IV × Hp)) : Option (IV × Hp) :=
  uncS l10 fun x12 l30 => uncS l30 fun x13 l31 => uncS l31 fun x14 l32 => uncS l32 fun x15 l33 => uncS l33 fun x16 _ => S49_37 x14 x16 h11 x15 ih x12 x13 q9
noncomputable def S49 (ih : Handler) (n : Nat) (x0 : IV) (x1 : IV) (x2 : IV) (x3 : IV) (h4 : Hp) : Option (IV × Hp) :=
  boxS 51380224 x3 h4 fun x5 h6 _ _ => loopS n (fun q9 l10 h11 => S49_38 l10 h11 ih q9) [x0, x1, x2, x5, .fv (.int .i64 0)] h6
theorem S49_ok (ih : Handler) (n : Nat) (x0 : IV) (x1 : IV) (x2 : IV) (x3 : IV) (h4 : Hp) : funS EE ih ft.get n 49 [x0, x1, x2, x3] h4 = S49 ih n x0 x1 x2 x3 h4 := by kernel_rfl
end Idl
end Go.Proofs.Ytkfecngimlcfoaa

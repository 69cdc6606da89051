/-
  THE SHALLOW FORM OF THE SEAT'S FUNCTIONS, a part; each is what its code's shallow run is. Printed by a program of mine (gen-sh). No statement is proved here.
-/
import Derived.Test.YtdibmackcbpniaaTab
import Derived.Test.YtdibmackcbpniaaIdl31
set_option maxRecDepth 100000
set_option linter.unusedVariables false
namespace Go.Proofs.Ytdibmackcbpniaa
namespace Idl
/-! (thyrsus/obj.scope).binder -/
noncomputable def S74_116 (h40 : Hp) (x7 : IV) : Option (IV × Hp) :=
  bldS [.fv (.int .i64 0), .fv (.int .i64 0), .nils] [] fun x44 => storeA 3 x7 x44 h40 fun h45 _ _ => cellS true 3 x7 h45 fun x48 => outS1 [x48, .fv (.int .i64 10)] h45
noncomputable def S74_117 (r67 : List Ref) (w68 : List Ref) (r54 : List Ref) (h66 : Hp) (x7 : IV) (x53 : IV) (x65 : IV) : Option (IV × Hp) :=
  chkS [(r54, [])] r67 w68 (storeA 3 x7 x53 h66 fun h69 r70 w71 => chkS [] r70 w71 (cellS true 3 x7 h69 fun x72 => outS1 [x72, x65] h69))
noncomputable def S74_118 (h58 : Hp) (x27 : IV) (r59 : List Ref) (w60 : List Ref) (r56 : List Ref) (r54 : List Ref) (x23 : IV) (ih : Handler) (x57 : IV) (x7 : IV) (x53 : IV) : Option (IV × Hp) :=
  loadA 3 x27 h58 fun x61 r62 => chkS [(r59, w60), (r56, []), (r54, [])] r62 [] (loadA 3 x23 h58 fun x63 r64 => chkS [(r62, []), (r59, w60), (r56, []), (r54, [])] r64 [] (isoS [] false false ih 73 [x57, x61, x63] h58 fun x65 h66 r67 w68 => S74_117 r67 w68 r54 h66 x7 x53 x65))
noncomputable def S74_119 (r54 : List Ref) (h40 : Hp) (x23 : IV) (ih : Handler) (x0 : IV) (x27 : IV) (x7 : IV) (x53 : IV) : Option (IV × Hp) :=
  chkS [] r54 [] (loadA 3 x23 h40 fun x55 r56 => chkS [(r54, [])] r56 [] (isoS [] false false ih 75 [x0, x55] h40 fun x57 h58 r59 w60 => chkS [(r54, [])] r59 w60 (S74_118 h58 x27 r59 w60 r56 r54 x23 ih x57 x7 x53)))
noncomputable def S74_120 (h107 : Hp) (x7 : IV) (x110 : IV) (x111 : IV) : Option (IV × Hp) :=
  storeA 3 x7 x110 h107 fun h112 _ _ => cellS true 3 x7 h112 fun x115 => outS1 [x115, x111] h112
noncomputable def S74_121 (h91 : Hp) (x94 : IV) (x96 : IV) (ih : Handler) (x86 : IV) (x7 : IV) : Option (IV × Hp) :=
  genS (pcBuildSlice EE 28 2 [(0, x94), (1, x96)]) 77601794 h91 fun x98 h99 _ _ => isoS [] false false ih 64 [.fv (.int .i64 16), x98] h99 fun x102 h103 _ _ => isoS [] false false ih 105 [x102, x86] h103 fun x106 h107 _ _ => extS 0 x106 fun x110 => extS 1 x106 fun x111 => S74_120 h107 x7 x110 x111
noncomputable def S74_122 (r89 : List Ref) (w90 : List Ref) (r83 : List Ref) (w84 : List Ref) (r80 : List Ref) (r77 : List Ref) (w78 : List Ref) (r74 : List Ref) (h88 : Hp) (x87 : IV) (x85 : IV) (x23 : IV) (ih : Handler) (x86 : IV) (x7 : IV) : Option (IV × Hp) :=
  chkS [(r83, w84), (r80, []), (r77, w78), (r74, [])] r89 w90 (storeA 3 x87 x85 h88 fun h91 r92 w93 => chkS [] r92 w93 (loadA 3 x23 h91 fun x94 _ => loadA 3 x87 h91 fun x96 _ => S74_121 h91 x94 x96 ih x86 x7))
noncomputable def S74_123 (ih : Handler) (h76 : Hp) (x75 : IV) (x79 : IV) (r80 : List Ref) (r77 : List Ref) (w78 : List Ref) (r74 : List Ref) (x23 : IV) (x7 : IV) : Option (IV × Hp) :=
  isoS [] false false ih 53 [x75, x79] h76 fun x81 h82 r83 w84 => chkS [] r83 w84 (extS 0 x81 fun x85 => extS 1 x81 fun x86 => newS 77600776 (.row [.fv (.int .i64 0), .fv (.int .i64 0), .nils] false) (.ptr (.own 77600776) 0) h82 fun x87 h88 r89 w90 => S74_122 r89 w90 r83 w84 r80 r77 w78 r74 h88 x87 x85 x23 ih x86 x7)
noncomputable def S74_124 (r74 : List Ref) (ih : Handler) (h40 : Hp) (x0 : IV) (x73 : IV) (x27 : IV) (x23 : IV) (x7 : IV) : Option (IV × Hp) :=
  chkS [] r74 [] (isoS [] false false ih 75 [x0, x73] h40 fun x75 h76 r77 w78 => chkS [] r77 w78 (loadA 3 x27 h76 fun x79 r80 => chkS [(r77, w78), (r74, [])] r80 [] (S74_123 ih h76 x75 x79 r80 r77 w78 r74 x23 x7)))
noncomputable def S74_125 (x3 : IV) (h40 : Hp) (x23 : IV) (ih : Handler) (x0 : IV) (x27 : IV) (x7 : IV) : Option (IV × Hp) :=
  faddrS 0 x3 fun x49 => load1 x49 h40 fun x50 _ => eqS EE 3 x50 (.fv (.int .i64 29)) fun x52 => condS x52 (loadA 3 x23 h40 fun x53 r54 => S74_119 r54 h40 x23 ih x0 x27 x7 x53) (loadA 3 x23 h40 fun x73 r74 => S74_124 r74 ih h40 x0 x73 x27 x23 x7)
noncomputable def S74_126 (r35 : List Ref) (w36 : List Ref) (h34 : Hp) (x23 : IV) (ih : Handler) (x7 : IV) (x3 : IV) (x0 : IV) (x27 : IV) : Option (IV × Hp) :=
  chkS [] r35 w36 (loadA 3 x23 h34 fun x37 _ => isoS [] false false ih 52 [x37] h34 fun x39 h40 _ _ => optS (unR .not x39) fun x43 => condS x43 (S74_116 h40 x7) (S74_125 x3 h40 x23 ih x0 x27 x7))
noncomputable def S74_127 (h24 : Hp) (r25 : List Ref) (w26 : List Ref) (r22 : List Ref) (r19 : List Ref) (r16 : List Ref) (r13 : List Ref) (x23 : IV) (x15 : IV) (x21 : IV) (ih : Handler) (x7 : IV) (x3 : IV) (x0 : IV) : Option (IV × Hp) :=
  newS 77595657 (.row [.fv (.int .i64 0), .fv (.int .i64 0), .nils] false) (.ptr (.own 77595657) 0) h24 fun x27 h28 r29 w30 => chkS [(r25, w26), (r22, []), (r19, []), (r16, []), (r13, [])] r29 w30 (storeA 3 x23 x15 h28 fun h31 r32 w33 => chkS [(r22, []), (r19, [])] r32 w33 (storeA 3 x27 x21 h31 fun h34 r35 w36 => S74_126 r35 w36 h34 x23 ih x7 x3 x0 x27))
noncomputable def S74_128 (x18 : IV) (h8 : Hp) (r16 : List Ref) (r13 : List Ref) (r19 : List Ref) (x15 : IV) (ih : Handler) (x7 : IV) (x3 : IV) (x0 : IV) : Option (IV × Hp) :=
  ixS 3 x18 (.fv (.int .i64 1)) fun x20 => loadA 3 x20 h8 fun x21 r22 => chkS [(r16, []), (r13, [])] r22 [] (newS 77595656 (.row [.fv (.int .i64 0), .fv (.int .i64 0), .nils] false) (.ptr (.own 77595656) 0) h8 fun x23 h24 r25 w26 => chkS [(r22, []), (r19, []), (r16, []), (r13, [])] r25 w26 (S74_127 h24 r25 w26 r22 r19 r16 r13 x23 x15 x21 ih x7 x3 x0))
noncomputable def S74_129 (h8 : Hp) (x14 : IV) (x3 : IV) (r13 : List Ref) (ih : Handler) (x7 : IV) (x0 : IV) : Option (IV × Hp) :=
  loadA 3 x14 h8 fun x15 r16 => chkS [] r16 [] (faddrS 2 x3 fun x17 => load1 x17 h8 fun x18 r19 => chkS [(r16, []), (r13, [])] r19 [] (S74_128 x18 h8 r16 r13 r19 x15 ih x7 x3 x0))
noncomputable def S74 (ih : Handler) (n : Nat) (x0 : IV) (x1 : IV) (h2 : Hp) : Option (IV × Hp) :=
  boxS 77594624 x1 h2 fun x3 h4 _ _ => newS 77594625 (.row [.fv (.int .i64 0), .fv (.int .i64 0), .nils] false) (.ptr (.own 77594625) 0) h4 fun x7 h8 _ _ => faddrS 2 x3 fun x11 => load1 x11 h8 fun x12 r13 => chkS [] r13 [] (ixS 3 x12 (.fv (.int .i64 0)) fun x14 => S74_129 h8 x14 x3 r13 ih x7 x0)
theorem S74_ok (ih : Handler) (n : Nat) (x0 : IV) (x1 : IV) (h2 : Hp) : funS EE ih ft.get n 74 [x0, x1] h2 = S74 ih n x0 x1 h2 := by kernel_rfl
/-! (thyrsus/obj.scope).with -/
noncomputable def S75_25 (r16 : List Ref) (r13 : List Ref) (w14 : List Ref) (r9 : List Ref) (w10 : List Ref) (h12 : Hp) (x15 : IV) (x11 : IV) : Option (IV × Hp) :=
  chkS [(r13, w14), (r9, w10)] r16 [] (genS (pcBuildSlice EE 78 1 [(0, x15)]) 78644228 h12 fun x17 h18 r19 w20 => chkS [(r13, w14), (r9, w10)] r19 w20 (genS (builtinR EE 78644229 false .append [78, 78] [x11, x17]) 78644229 h18 fun x21 h22 r23 w24 => chkS [] r23 w24 (outS1 [x21] h22)))
noncomputable def S75 (ih : Handler) (n : Nat) (x0 : IV) (x1 : IV) (h2 : Hp) : Option (IV × Hp) :=
  boxS 78643200 x1 h2 fun x3 h4 _ _ => isoS [] true false ih 107 [x0] h4 fun x7 h8 r9 w10 => chkS [] r9 w10 (isoS [] false true ih 106 [x7] h8 fun x11 h12 r13 w14 => chkS [] r13 w14 (loadA 3 x3 h12 fun x15 r16 => S75_25 r16 r13 w14 r9 w10 h12 x15 x11))
theorem S75_ok (ih : Handler) (n : Nat) (x0 : IV) (x1 : IV) (h2 : Hp) : funS EE ih ft.get n 75 [x0, x1] h2 = S75 ih n x0 x1 h2 := by kernel_rfl
/-! (thyrsus/obj.scope).parts -/
noncomputable def S76_191 (h36 : Hp) (x7 : IV) (x26 : IV) : Option (IV × Hp) :=
  cellS true 3 x7 h36 fun x39 => outS1 [x39, x26] h36
noncomputable def S76_192 (x68 : IV) (h69 : Hp) (x7 : IV) : Option (IV × Hp) :=
  extS 0 x68 fun x72 => extS 1 x68 fun x73 => storeA 3 x7 x72 h69 fun h74 _ _ => cellS true 3 x7 h74 fun x77 => outS1 [x77, x73] h74
noncomputable def S76_193 (h53 : Hp) (x27 : IV) (x49 : IV) (ih : Handler) (x48 : IV) (x7 : IV) : Option (IV × Hp) :=
  loadA 3 x27 h53 fun x56 _ => loadA 3 x49 h53 fun x58 _ => genS (pcBuildSlice EE 28 2 [(0, x56), (1, x58)]) 79699970 h53 fun x60 h61 _ _ => isoS [] false false ih 64 [.fv (.int .i64 17), x60] h61 fun x64 h65 _ _ => isoS [] false false ih 105 [x64, x48] h65 fun x68 h69 _ _ => S76_192 x68 h69 x7
noncomputable def S76_194 (ih : Handler) (h31 : Hp) (x0 : IV) (x41 : IV) (x27 : IV) (x7 : IV) : Option (IV × Hp) :=
  isoS [] false false ih 53 [x0, x41] h31 fun x43 h44 _ _ => extS 0 x43 fun x47 => extS 1 x43 fun x48 => newS 79698952 (.row [.fv (.int .i64 0), .fv (.int .i64 0), .nils] false) (.ptr (.own 79698952) 0) h44 fun x49 h50 _ _ => storeA 3 x49 x47 h50 fun h53 _ _ => S76_193 h53 x27 x49 ih x48 x7
noncomputable def S76_195 (x26 : IV) (h31 : Hp) (x7 : IV) (x12 : IV) (ih : Handler) (x0 : IV) (x27 : IV) : Option (IV × Hp) :=
  neS EE 35 x26 (.fv (.int .i64 0)) fun x34 => condS x34 (bldS [.fv (.int .i64 0), .fv (.int .i64 0), .nils] [] fun x35 => storeA 3 x7 x35 h31 fun h36 _ _ => S76_191 h36 x7 x26) (ixS 3 x12 (.fv (.int .i64 1)) fun x40 => loadA 3 x40 h31 fun x41 _ => S76_194 ih h31 x0 x41 x27 x7)
noncomputable def S76_196 (ih : Handler) (h8 : Hp) (x0 : IV) (x19 : IV) (x7 : IV) (x12 : IV) : Option (IV × Hp) :=
  isoS [] false false ih 53 [x0, x19] h8 fun x21 h22 _ _ => extS 0 x21 fun x25 => extS 1 x21 fun x26 => newS 79695880 (.row [.fv (.int .i64 0), .fv (.int .i64 0), .nils] false) (.ptr (.own 79695880) 0) h22 fun x27 h28 _ _ => storeA 3 x27 x25 h28 fun h31 _ _ => S76_195 x26 h31 x7 x12 ih x0 x27
noncomputable def S76_197 (h105 : Hp) (x7 : IV) (x88 : IV) : Option (IV × Hp) :=
  cellS true 3 x7 h105 fun x108 => outS1 [x108, x88] h105
noncomputable def S76_198 (ih : Handler) (h100 : Hp) (x0 : IV) (x112 : IV) (x114 : IV) (r110 : List Ref) (x7 : IV) (x109 : IV) : Option (IV × Hp) :=
  isoS [] false false ih 73 [x0, x112, x114] h100 fun x116 h117 r118 w119 => chkS [(r110, [])] r118 w119 (storeA 3 x7 x109 h117 fun h120 r121 w122 => chkS [] r121 w122 (cellS true 3 x7 h120 fun x123 => outS1 [x123, x116] h120))
noncomputable def S76_199 (x12 : IV) (h100 : Hp) (r110 : List Ref) (x89 : IV) (ih : Handler) (x0 : IV) (x7 : IV) (x109 : IV) : Option (IV × Hp) :=
  ixS 3 x12 (.fv (.int .i64 1)) fun x111 => loadA 3 x111 h100 fun x112 r113 => chkS [(r110, [])] r113 [] (loadA 3 x89 h100 fun x114 r115 => chkS [(r113, []), (r110, [])] r115 [] (S76_198 ih h100 x0 x112 x114 r110 x7 x109))
noncomputable def S76_200 (x88 : IV) (h100 : Hp) (x7 : IV) (x93 : IV) (x12 : IV) (x89 : IV) (ih : Handler) (x0 : IV) : Option (IV × Hp) :=
  neS EE 35 x88 (.fv (.int .i64 0)) fun x103 => condS x103 (bldS [.fv (.int .i64 0), .fv (.int .i64 0), .nils] [] fun x104 => storeA 3 x7 x104 h100 fun h105 _ _ => S76_197 h105 x7 x88) (loadA 3 x93 h100 fun x109 r110 => chkS [] r110 [] (S76_199 x12 h100 r110 x89 ih x0 x7 x109))
noncomputable def S76_201 (x82 : IV) (h83 : Hp) (x86 : IV) (x87 : IV) (x7 : IV) (x12 : IV) (ih : Handler) (x0 : IV) : Option (IV × Hp) :=
  extS 2 x82 fun x88 => newS 79702025 (.row [.fv (.int .i64 0), .fv (.int .i64 0), .nils] false) (.ptr (.own 79702025) 0) h83 fun x89 h90 _ _ => newS 79702026 (.row [.fv (.int .i64 0), .fv (.int .i64 0), .nils] false) (.ptr (.own 79702026) 0) h90 fun x93 h94 _ _ => storeA 3 x89 x86 h94 fun h97 _ _ => storeA 3 x93 x87 h97 fun h100 _ _ => S76_200 x88 h100 x7 x93 x12 x89 ih x0
noncomputable def S76_202 (x12 : IV) (h8 : Hp) (ih : Handler) (x0 : IV) (x7 : IV) : Option (IV × Hp) :=
  ixS 3 x12 (.fv (.int .i64 0)) fun x79 => loadA 3 x79 h8 fun x80 _ => isoS [] false false ih 108 [x0, x80, .fv (.int .i64 16)] h8 fun x82 h83 _ _ => extS 0 x82 fun x86 => extS 1 x82 fun x87 => S76_201 x82 h83 x86 x87 x7 x12 ih x0
noncomputable def S76_203 (h151 : Hp) (x7 : IV) (x134 : IV) : Option (IV × Hp) :=
  cellS true 3 x7 h151 fun x154 => outS1 [x154, x134] h151
noncomputable def S76_204 (h136 : Hp) (x135 : IV) (x132 : IV) (x133 : IV) (x7 : IV) (x134 : IV) : Option (IV × Hp) :=
  newS 79707146 (.row [.fv (.int .i64 0), .fv (.int .i64 0), .nils] false) (.ptr (.own 79707146) 0) h136 fun x139 h140 _ _ => storeA 3 x135 x132 h140 fun h143 _ _ => storeA 3 x139 x133 h143 fun h146 _ _ => loadA 3 x135 h146 fun x149 _ => storeA 3 x7 x149 h146 fun h151 _ _ => S76_203 h151 x7 x134
noncomputable def S76_205 (ih : Handler) (h8 : Hp) (x0 : IV) (x126 : IV) (x7 : IV) : Option (IV × Hp) :=
  isoS [] false false ih 108 [x0, x126, .fv (.int .i64 17)] h8 fun x128 h129 _ _ => extS 0 x128 fun x132 => extS 1 x128 fun x133 => extS 2 x128 fun x134 => newS 79707145 (.row [.fv (.int .i64 0), .fv (.int .i64 0), .nils] false) (.ptr (.own 79707145) 0) h129 fun x135 h136 _ _ => S76_204 h136 x135 x132 x133 x7 x134
noncomputable def S76_206 (h177 : Hp) (x170 : IV) (x7 : IV) (x165 : IV) : Option (IV × Hp) :=
  loadA 3 x170 h177 fun x180 _ => storeA 3 x7 x180 h177 fun h182 _ _ => cellS true 3 x7 h182 fun x185 => outS1 [x185, x165] h182
noncomputable def S76_207 (x159 : IV) (h160 : Hp) (x163 : IV) (x164 : IV) (x7 : IV) : Option (IV × Hp) :=
  extS 2 x159 fun x165 => newS 79710217 (.row [.fv (.int .i64 0), .fv (.int .i64 0), .nils] false) (.ptr (.own 79710217) 0) h160 fun x166 h167 _ _ => newS 79710218 (.row [.fv (.int .i64 0), .fv (.int .i64 0), .nils] false) (.ptr (.own 79710218) 0) h167 fun x170 h171 _ _ => storeA 3 x166 x163 h171 fun h174 _ _ => storeA 3 x170 x164 h174 fun h177 _ _ => S76_206 h177 x170 x7 x165
noncomputable def S76_208 (x12 : IV) (h8 : Hp) (ih : Handler) (x0 : IV) (x7 : IV) : Option (IV × Hp) :=
  ixS 3 x12 (.fv (.int .i64 0)) fun x156 => loadA 3 x156 h8 fun x157 _ => isoS [] false false ih 108 [x0, x157, .fv (.int .i64 17)] h8 fun x159 h160 _ _ => extS 0 x159 fun x163 => extS 1 x159 fun x164 => S76_207 x159 h160 x163 x164 x7
noncomputable def S76_209 (h8 : Hp) (x7 : IV) : Option (IV × Hp) :=
  bldS [.fv (.int .i64 0), .fv (.int .i64 0), .nils] [] fun x186 => storeA 3 x7 x186 h8 fun h187 _ _ => cellS true 3 x7 h187 fun x190 => outS1 [x190, .fv (.int .i64 10)] h187
noncomputable def S76_210 (x15 : IV) (x12 : IV) (h8 : Hp) (ih : Handler) (x0 : IV) (x7 : IV) : Option (IV × Hp) :=
  eqS EE 3 x15 (.fv (.int .i64 23)) fun x124 => condS x124 (ixS 3 x12 (.fv (.int .i64 0)) fun x125 => loadA 3 x125 h8 fun x126 _ => S76_205 ih h8 x0 x126 x7) (eqS EE 3 x15 (.fv (.int .i64 24)) fun x155 => condS x155 (S76_208 x12 h8 ih x0 x7) (S76_209 h8 x7))
noncomputable def S76_211 (x15 : IV) (x12 : IV) (h8 : Hp) (ih : Handler) (x0 : IV) (x7 : IV) : Option (IV × Hp) :=
  eqS EE 3 x15 (.fv (.int .i64 22)) fun x17 => condS x17 (ixS 3 x12 (.fv (.int .i64 0)) fun x18 => loadA 3 x18 h8 fun x19 _ => S76_196 ih h8 x0 x19 x7 x12) (eqS EE 3 x15 (.fv (.int .i64 21)) fun x78 => condS x78 (S76_202 x12 h8 ih x0 x7) (S76_210 x15 x12 h8 ih x0 x7))
noncomputable def S76 (ih : Handler) (n : Nat) (x0 : IV) (x1 : IV) (h2 : Hp) : Option (IV × Hp) :=
  boxS 79691776 x1 h2 fun x3 h4 _ _ => newS 79691777 (.row [.fv (.int .i64 0), .fv (.int .i64 0), .nils] false) (.ptr (.own 79691777) 0) h4 fun x7 h8 _ _ => faddrS 2 x3 fun x11 => load1 x11 h8 fun x12 _ => faddrS 0 x3 fun x14 => load1 x14 h8 fun x15 _ => S76_211 x15 x12 h8 ih x0 x7
theorem S76_ok (ih : Handler) (n : Nat) (x0 : IV) (x1 : IV) (h2 : Hp) : funS EE ih ft.get n 76 [x0, x1] h2 = S76 ih n x0 x1 h2 := by kernel_rfl
/-! thyrsus/thyrsusref11.check -/
noncomputable def S77_57 (h35 : Hp) (x30 : IV) (x20 : IV) (ih : Handler) (x34 : IV) (j1_27 : IV → Hp → Option (IV × Hp)) (x19 : IV) : Option (IV × Hp) :=
  guardS x30 true h35 (fun k38 => loadA 3 x20 h35 fun x39 r40 => k38 x39 h35 r40 []) fun x41 h42 _ _ => guardS x30 true h42 (fun k45 => isoS [] false false ih 18 [x34, x41] h42 k45) fun x46 h47 _ _ => guardS x30 true h47 (fun k50 => optS (unR .not x46) fun x51 => k50 x51 h47 [] []) fun x52 h53 _ _ => pickS x30 x52 (.fv (.bool false)) fun x56 => condS x56 (j1_27 (.fv (.int .i64 11)) h53) (j1_27 x19 h53)
noncomputable def S77_58 (h15 : Hp) (x18 : IV) (x19 : IV) (x8 : IV) (ih : Handler) : Option (IV × Hp) :=
  newS 80741382 (.row [.fv (.int .i64 0), .fv (.int .i64 0), .nils] false) (.ptr (.own 80741382) 0) h15 fun x20 h21 _ _ => storeA 3 x20 x18 h21 fun h24 _ _ => (fun (j1_27 : IV → Hp → Option (IV × Hp)) => eqS EE 3 x19 (.fv (.int .i64 0)) fun x30 => guardS x30 true h24 (fun k31 => loadA 3 x8 h24 fun x32 r33 => k31 x32 h24 r33 []) fun x34 h35 _ _ => S77_57 h35 x30 x20 ih x34 j1_27 x19) fun x28 h29 => outS1 [x28] h29
noncomputable def S77 (ih : Handler) (n : Nat) (x0 : IV) (x1 : IV) (x2 : IV) (h3 : Hp) : Option (IV × Hp) :=
  boxS 80740352 x1 h3 fun x4 h5 _ _ => boxS 80740353 x2 h5 fun x8 h9 _ _ => loadA 3 x4 h9 fun x12 _ => isoS [] false false ih 19 [x0, x12] h9 fun x14 h15 _ _ => extS 0 x14 fun x18 => extS 1 x14 fun x19 => S77_58 h15 x18 x19 x8 ih
theorem S77_ok (ih : Handler) (n : Nat) (x0 : IV) (x1 : IV) (x2 : IV) (h3 : Hp) : funS EE ih ft.get n 77 [x0, x1, x2] h3 = S77 ih n x0 x1 x2 h3 := by kernel_rfl
/-! thyrsus/thyrsusref11.plus -/
noncomputable def S78_25 (r16 : List Ref) (r13 : List Ref) (w14 : List Ref) (r9 : List Ref) (w10 : List Ref) (h12 : Hp) (x15 : IV) (x11 : IV) : Option (IV × Hp) :=
  chkS [(r13, w14), (r9, w10)] r16 [] (genS (pcBuildSlice EE 28 1 [(0, x15)]) 81789956 h12 fun x17 h18 r19 w20 => chkS [(r13, w14), (r9, w10)] r19 w20 (genS (builtinR EE 81789957 false .append [28, 28] [x11, x17]) 81789957 h18 fun x21 h22 r23 w24 => chkS [] r23 w24 (outS1 [x21] h22)))
noncomputable def S78 (ih : Handler) (n : Nat) (x0 : IV) (x1 : IV) (h2 : Hp) : Option (IV × Hp) :=
  boxS 81788928 x1 h2 fun x3 h4 _ _ => genS (pcBuildSlice EE 28 0 []) 81789952 h4 fun x7 h8 r9 w10 => chkS [] r9 w10 (genS (builtinR EE 81789954 false .append [28, 28] [x7, x0]) 81789954 h8 fun x11 h12 r13 w14 => chkS [] r13 w14 (loadA 3 x3 h12 fun x15 r16 => S78_25 r16 r13 w14 r9 w10 h12 x15 x11))
theorem S78_ok (ih : Handler) (n : Nat) (x0 : IV) (x1 : IV) (h2 : Hp) : funS EE ih ft.get n 78 [x0, x1] h2 = S78 ih n x0 x1 h2 := by kernel_rfl
/-! thyrsus/thyrsusref11.made -/
noncomputable def S79_27 (h13 : Hp) (x3 : IV) (x7 : IV) (x12 : IV) : Option (IV × Hp) :=
  loadA 3 x3 h13 fun x14 _ => storeA 3 x7 x14 h13 fun h16 _ _ => cellS true 3 x7 h16 fun x19 => outS1 [x19, x12] h16
noncomputable def S79_28 (ih : Handler) (h8 : Hp) (x21 : IV) (j1_11 : IV → Hp → Option (IV × Hp)) : Option (IV × Hp) :=
  isoS [] false false ih 25 [x21] h8 fun x23 h24 _ _ => j1_11 x23 h24
noncomputable def S79 (ih : Handler) (n : Nat) (x0 : IV) (x1 : IV) (h2 : Hp) : Option (IV × Hp) :=
  boxS 82837504 x0 h2 fun x3 h4 _ _ => newS 82837505 (.row [.fv (.int .i64 0), .fv (.int .i64 0), .nils] false) (.ptr (.own 82837505) 0) h4 fun x7 h8 _ _ => (fun (j1_11 : IV → Hp → Option (IV × Hp)) => eqS EE 3 x1 (.fv (.int .i64 0)) fun x20 => condS x20 (loadA 3 x3 h8 fun x21 _ => S79_28 ih h8 x21 j1_11) (j1_11 x1 h8)) fun x12 h13 => S79_27 h13 x3 x7 x12
theorem S79_ok (ih : Handler) (n : Nat) (x0 : IV) (x1 : IV) (h2 : Hp) : funS EE ih ft.get n 79 [x0, x1] h2 = S79 ih n x0 x1 h2 := by kernel_rfl
/-! thyrsus/thyrsusref4.number -/
noncomputable def S80_47 (h7 : Hp) (x4 : IV) (x6 : IV) : Option (IV × Hp) :=
  guardS x4 true h7 (fun k10 => leS EE 3 x6 (.fv (.int .i64 3000)) fun x11 => k10 x11 h7 [] []) fun x12 h13 _ _ => pickS x4 x12 (.fv (.bool false)) fun x16 => outS1 [x16] h13
noncomputable def S80_48 (x1 : IV) (h2 : Hp) : Option (IV × Hp) :=
  geS EE 3 x1 (.fv (.int .i64 0)) fun x18 => guardS x18 true h2 (fun k19 => k19 x1 h2 [] []) fun x20 h21 _ _ => guardS x18 true h21 (fun k24 => leS EE 3 x20 (.fv (.int .i64 2)) fun x25 => k24 x25 h21 [] []) fun x26 h27 _ _ => pickS x18 x26 (.fv (.bool false)) fun x30 => outS1 [x30] h27
noncomputable def S80_49 (h35 : Hp) (x32 : IV) (x34 : IV) : Option (IV × Hp) :=
  guardS x32 true h35 (fun k38 => leS EE 3 x34 (.fv (.int .i64 4)) fun x39 => k38 x39 h35 [] []) fun x40 h41 _ _ => pickS x32 x40 (.fv (.bool false)) fun x44 => outS1 [x44] h41
noncomputable def S80_50 (x1 : IV) (h2 : Hp) : Option (IV × Hp) :=
  eqS EE 3 x1 (.fv (.int .i64 0)) fun x46 => outS1 [x46] h2
noncomputable def S80_51 (x0 : IV) (x1 : IV) (h2 : Hp) : Option (IV × Hp) :=
  eqS EE 3 x0 (.fv (.int .i64 26)) fun x31 => condS x31 (geS EE 3 x1 (.fv (.int .i64 0)) fun x32 => guardS x32 true h2 (fun k33 => k33 x1 h2 [] []) fun x34 h35 _ _ => S80_49 h35 x32 x34) (eqS EE 3 x0 (.fv (.int .i64 25)) fun x45 => condS x45 (outS1 [.fv (.bool true)] h2) (S80_50 x1 h2))
noncomputable def S80 (ih : Handler) (n : Nat) (x0 : IV) (x1 : IV) (h2 : Hp) : Option (IV × Hp) :=
  eqS EE 3 x0 (.fv (.int .i64 1)) fun x3 => condS x3 (geS EE 3 x1 (.fv (.int .i64 0)) fun x4 => guardS x4 true h2 (fun k5 => k5 x1 h2 [] []) fun x6 h7 _ _ => S80_47 h7 x4 x6) (eqS EE 3 x0 (.fv (.int .i64 2)) fun x17 => condS x17 (S80_48 x1 h2) (S80_51 x0 x1 h2))
theorem S80_ok (ih : Handler) (n : Nat) (x0 : IV) (x1 : IV) (h2 : Hp) : funS EE ih ft.get n 80 [x0, x1] h2 = S80 ih n x0 x1 h2 := by kernel_rfl
/-! (*thyrsus/thyrsusref5.machine).read -/
noncomputable def S81_264 (h20 : Hp) (x5 : IV) : Option (IV × Hp) :=
  bldS [.fv (.int .i64 0), .fv (.int .i64 0), .nils] [] fun x26 => storeA 3 x5 x26 h20 fun h27 _ _ => cellS true 3 x5 h27 fun x30 => outS1 [x30] h27
noncomputable def S81_265 (ih : Handler) (h20 : Hp) (x41 : IV) (x5 : IV) : Option (IV × Hp) :=
  isoS [] false false ih 29 [x41] h20 fun x42 h43 _ _ => storeA 3 x5 x42 h43 fun h46 _ _ => cellS true 3 x5 h46 fun x49 => outS1 [x49] h46
noncomputable def S81_266 (x2 : IV) (x1 : IV) (h20 : Hp) (ih : Handler) (x5 : IV) : Option (IV × Hp) :=
  subS EE 3 x2 (.fv (.int .i64 1)) fun x36 => nilS x1 fun x37 => faddrS 1 x37 fun x38 => load1 x38 h20 fun x39 _ => subS EE 3 x36 x39 fun x41 => S81_265 ih h20 x41 x5
noncomputable def S81_267 (h4 : Hp) (h126 : Hp) (x98 : IV) (x99 : IV) (x100 : IV) (x101 : IV) (x102 : IV) (x103 : IV) (x129 : IV) (q66 : List IV → Hp → Option (IV × Hp)) : Option (IV × Hp) :=
  dropS (h4.own.map (·.1)) [84954117, 84956171] [x98, x99, x100, x101, x102, x103, x129] h126 fun h130 => q66 [x98, x99, x100, x101, x102, x103, x129] h130
noncomputable def S81_268 (r123 : List Ref) (w124 : List Ref) (x103 : IV) (h122 : Hp) (x121 : IV) (x104 : IV) (h4 : Hp) (x98 : IV) (x99 : IV) (x100 : IV) (x101 : IV) (x102 : IV) (q66 : List IV → Hp → Option (IV × Hp)) : Option (IV × Hp) :=
  chkS [] r123 w124 (faddrS 2 x103 fun x125 => store1 x125 x121 h122 fun h126 r127 w128 => chkS [] r127 w128 (addS EE 3 x104 (.fv (.int .i64 1)) fun x129 => S81_267 h4 h126 x98 x99 x100 x101 x102 x103 x129 q66))
noncomputable def S81_269 (ih : Handler) (h107 : Hp) (x98 : IV) (x106 : IV) (x111 : IV) (x112 : IV) (r110 : List Ref) (x109 : IV) (x103 : IV) (x104 : IV) (h4 : Hp) (x99 : IV) (x100 : IV) (x101 : IV) (x102 : IV) (q66 : List IV → Hp → Option (IV × Hp)) : Option (IV × Hp) :=
  isoS [true, false, false, false] false false ih 81 [x98, x106, x111, x112] h107 fun x113 h114 r115 w116 => chkS [(r110, [])] r115 w116 (genS (pcBuildSlice EE 28 1 [(0, x113)]) 84956170 h114 fun x117 h118 r119 w120 => chkS [(r110, [])] r119 w120 (genS (builtinR EE 84956171 false .append [28, 28] [x109, x117]) 84956171 h118 fun x121 h122 r123 w124 => S81_268 r123 w124 x103 h122 x121 x104 h4 x98 x99 x100 x101 x102 q66))
noncomputable def S81_270 (x103 : IV) (h107 : Hp) (x100 : IV) (x105 : IV) (x101 : IV) (ih : Handler) (x98 : IV) (x106 : IV) (x104 : IV) (h4 : Hp) (x99 : IV) (x102 : IV) (q66 : List IV → Hp → Option (IV × Hp)) : Option (IV × Hp) :=
  faddrS 2 x103 fun x108 => load1 x108 h107 fun x109 r110 => chkS [] r110 [] (addS EE 3 x100 x105 fun x111 => addS EE 3 x101 (.fv (.int .i64 1)) fun x112 => S81_269 ih h107 x98 x106 x111 x112 r110 x109 x103 x104 h4 x99 x100 x101 x102 q66)
noncomputable def S81_271 (h4 : Hp) (h162 : Hp) (x139 : IV) (x140 : IV) (x141 : IV) (x142 : IV) (x143 : IV) (x144 : IV) (x145 : IV) (x146 : IV) (x147 : IV) (x161 : IV) (x165 : IV) (q136 : List IV → Hp → Option (IV × Hp)) : Option (IV × Hp) :=
  dropS (h4.own.map (·.1)) [84954117] [x139, x140, x141, x142, x143, x144, x145, x146, x147, x161, x165] h162 fun h166 => q136 [x139, x140, x141, x142, x143, x144, x145, x146, x147, x161, x165] h166
noncomputable def S81_272 (x151 : IV) (h138 : Hp) (ih : Handler) (x148 : IV) (x149 : IV) (h4 : Hp) (x139 : IV) (x140 : IV) (x141 : IV) (x142 : IV) (x143 : IV) (x144 : IV) (x145 : IV) (x146 : IV) (x147 : IV) (q136 : List IV → Hp → Option (IV × Hp)) : Option (IV × Hp) :=
  bldS [.fv (.int .i64 0), .fv (.int .i64 0), .nils, .nils, .fv (.int .i64 0), .fv (.int .i64 0), .nils] [(0, 1, .fv (.int .i64 1)), (1, 1, x151)] fun x152 => fzS (pcBox true 84954117 x152) 84954117 x152 h138 fun x153 h154 _ _ => genS (pcBuildSlice EE 129 1 [(0, x153)]) 84954118 h154 fun x157 h158 _ _ => isoS [] false false ih 109 [x148, x157] h158 fun x161 h162 _ _ => addS EE 3 x149 (.fv (.int .i64 1)) fun x165 => S81_271 h4 h162 x139 x140 x141 x142 x143 x144 x145 x146 x147 x161 x165 q136
noncomputable def S81_273 (x167 : IV) (h138 : Hp) (ih : Handler) (x139 : IV) (x148 : IV) (j9_97 : IV → IV → IV → IV → IV → IV → IV → IV → IV → Hp → Option (IV × Hp)) (x140 : IV) (x141 : IV) (x142 : IV) (x143 : IV) (x144 : IV) (x145 : IV) (x146 : IV) : Option (IV × Hp) :=
  faddrS 4 x167 fun x168 => loadA 3 x168 h138 fun x169 _ => isoS [true, false, false] false false ih 82 [x139, x169, x148] h138 fun x171 h172 _ _ => j9_97 x139 x140 x141 x142 x143 x144 x145 x146 x171 h172
noncomputable def S81_274 (l184 : List IV) (x146 : IV) (x141 : IV) (h138 : Hp) (ih : Handler) (x148 : IV) (h4 : Hp) (x139 : IV) (x140 : IV) (x142 : IV) (x143 : IV) (x144 : IV) (x145 : IV) (x147 : IV) (q136 : List IV → Hp → Option (IV × Hp)) (j9_97 : IV → IV → IV → IV → IV → IV → IV → IV → IV → Hp → Option (IV × Hp)) : Option (IV × Hp) :=
  uncS l184 fun x149 _ => ltS EE 3 x149 x146 fun x150 => condS x150 (addS EE 3 x141 x149 fun x151 => S81_272 x151 h138 ih x148 x149 h4 x139 x140 x141 x142 x143 x144 x145 x146 x147 q136) (nilS x147 fun x167 => S81_273 x167 h138 ih x139 x148 j9_97 x140 x141 x142 x143 x144 x145 x146)
noncomputable def S81_275 (l179 : List IV) (x141 : IV) (h138 : Hp) (ih : Handler) (h4 : Hp) (x139 : IV) (x140 : IV) (x142 : IV) (x143 : IV) (q136 : List IV → Hp → Option (IV × Hp)) (j9_97 : IV → IV → IV → IV → IV → IV → IV → IV → IV → Hp → Option (IV × Hp)) : Option (IV × Hp) :=
  uncS l179 fun x144 l180 => uncS l180 fun x145 l181 => uncS l181 fun x146 l182 => uncS l182 fun x147 l183 => uncS l183 fun x148 l184 => S81_274 l184 x146 x141 h138 ih x148 h4 x139 x140 x142 x143 x144 x145 x147 q136 j9_97
noncomputable def S81_276 (l137 : List IV) (h138 : Hp) (ih : Handler) (h4 : Hp) (q136 : List IV → Hp → Option (IV × Hp)) (j9_97 : IV → IV → IV → IV → IV → IV → IV → IV → IV → Hp → Option (IV × Hp)) : Option (IV × Hp) :=
  uncS l137 fun x139 l175 => uncS l175 fun x140 l176 => uncS l176 fun x141 l177 => uncS l177 fun x142 l178 => uncS l178 fun x143 l179 => S81_275 l179 x141 h138 ih h4 x139 x140 x142 x143 q136 j9_97
noncomputable def S81_277 (h87 : Hp) (x133 : IV) (h4 : Hp) (x69 : IV) (x70 : IV) (x71 : IV) (x72 : IV) (x73 : IV) (x74 : IV) (x75 : IV) (x86 : IV) (x95 : IV) (n : Nat) (ih : Handler) (j9_97 : IV → IV → IV → IV → IV → IV → IV → IV → IV → Hp → Option (IV × Hp)) : Option (IV × Hp) :=
  load1 x133 h87 fun x134 _ => dropS (h4.own.map (·.1)) [84954117] [x69, x70, x71, x72, x73, x74, x75, x86, x95, x134, .fv (.int .i64 0)] h87 fun h186 => loopS n (fun q136 l137 h138 => S81_276 l137 h138 ih h4 q136 j9_97) [x69, x70, x71, x72, x73, x74, x75, x86, x95, x134, .fv (.int .i64 0)] h186
noncomputable def S81_278 (x131 : IV) (x95 : IV) (h87 : Hp) (h4 : Hp) (x69 : IV) (x70 : IV) (x71 : IV) (x72 : IV) (x73 : IV) (x74 : IV) (x75 : IV) (x86 : IV) (n : Nat) (ih : Handler) (j9_97 : IV → IV → IV → IV → IV → IV → IV → IV → IV → Hp → Option (IV × Hp)) : Option (IV × Hp) :=
  condS x131 (nilS x95 fun x132 => faddrS 3 x132 fun x133 => S81_277 h87 x133 h4 x69 x70 x71 x72 x73 x74 x75 x86 x95 n ih j9_97) (j9_97 x69 x70 x71 x72 x73 x74 x75 x86 x95 h87)
noncomputable def S81_279 (h87 : Hp) (x91 : IV) (x75 : IV) (ih : Handler) (h4 : Hp) (q66 : List IV → Hp → Option (IV × Hp)) (x86 : IV) (x69 : IV) (x70 : IV) (x71 : IV) (x72 : IV) (x73 : IV) (x74 : IV) (n : Nat) : Option (IV × Hp) :=
  load1 x91 h87 fun x92 _ => ixS 1 x92 x75 fun x94 => load1 x94 h87 fun x95 _ => (fun (j9_97 : IV → IV → IV → IV → IV → IV → IV → IV → IV → Hp → Option (IV × Hp)) => gtS EE 3 x86 (.fv (.int .i64 0)) fun x131 => S81_278 x131 x95 h87 h4 x69 x70 x71 x72 x73 x74 x75 x86 n ih j9_97) fun x98 x99 x100 x101 x102 x103 x104 x105 x106 h107 => S81_270 x103 h107 x100 x105 x101 ih x98 x106 x104 h4 x99 x102 q66
noncomputable def S81_280 (x82 : IV) (h68 : Hp) (ih : Handler) (x75 : IV) (x70 : IV) (h4 : Hp) (q66 : List IV → Hp → Option (IV × Hp)) (x69 : IV) (x71 : IV) (x72 : IV) (x73 : IV) (x74 : IV) (n : Nat) : Option (IV × Hp) :=
  faddrS 0 x82 fun x83 => load1 x83 h68 fun x84 _ => isoS [] false false ih 48 [x84, x75] h68 fun x86 h87 _ _ => nilS x70 fun x90 => faddrS 2 x90 fun x91 => S81_279 h87 x91 x75 ih h4 q66 x86 x69 x70 x71 x72 x73 x74 n
noncomputable def S81_281 (h68 : Hp) (x73 : IV) (x187 : IV) : Option (IV × Hp) :=
  storeA 3 x73 x187 h68 fun h189 _ _ => cellS true 3 x73 h189 fun x192 => outS1 [x192] h189
noncomputable def S81_282 (x78 : IV) (x75 : IV) (x70 : IV) (h68 : Hp) (ih : Handler) (h4 : Hp) (q66 : List IV → Hp → Option (IV × Hp)) (x69 : IV) (x71 : IV) (x72 : IV) (x73 : IV) (x74 : IV) (n : Nat) : Option (IV × Hp) :=
  lenS x78 fun x80 => ltS EE 3 x75 x80 fun x81 => condS x81 (nilS x70 fun x82 => S81_280 x82 h68 ih x75 x70 h4 q66 x69 x71 x72 x73 x74 n) (loadA 3 x74 h68 fun x187 _ => S81_281 h68 x73 x187)
noncomputable def S81_283 (l197 : List IV) (x70 : IV) (h68 : Hp) (ih : Handler) (h4 : Hp) (q66 : List IV → Hp → Option (IV × Hp)) (x69 : IV) (x71 : IV) (x72 : IV) (x73 : IV) (n : Nat) : Option (IV × Hp) :=
  uncS l197 fun x74 l198 => uncS l198 fun x75 _ => nilS x70 fun x76 => faddrS 2 x76 fun x77 => load1 x77 h68 fun x78 _ => S81_282 x78 x75 x70 h68 ih h4 q66 x69 x71 x72 x73 x74 n
noncomputable def S81_284 (l67 : List IV) (h68 : Hp) (ih : Handler) (h4 : Hp) (q66 : List IV → Hp → Option (IV × Hp)) (n : Nat) : Option (IV × Hp) :=
  uncS l67 fun x69 l193 => uncS l193 fun x70 l194 => uncS l194 fun x71 l195 => uncS l195 fun x72 l196 => uncS l196 fun x73 l197 => S81_283 l197 x70 h68 ih h4 q66 x69 x71 x72 x73 n
noncomputable def S81_285 (r61 : List Ref) (w62 : List Ref) (r57 : List Ref) (r53 : List Ref) (h60 : Hp) (x59 : IV) (x58 : IV) (h4 : Hp) (x0 : IV) (x1 : IV) (x2 : IV) (x3 : IV) (x5 : IV) (n : Nat) (ih : Handler) : Option (IV × Hp) :=
  chkS [(r57, []), (r53, [])] r61 w62 (storeA 3 x59 x58 h60 fun h63 r64 w65 => chkS [] r64 w65 (dropS (h4.own.map (·.1)) [84954117, 84956171] [x0, x1, x2, x3, x5, x59, .fv (.int .i64 0)] h63 fun h200 => loopS n (fun q66 l67 h68 => S81_284 l67 h68 ih h4 q66 n) [x0, x1, x2, x3, x5, x59, .fv (.int .i64 0)] h200))
noncomputable def S81_286 (x54 : IV) (h20 : Hp) (r53 : List Ref) (x52 : IV) (h4 : Hp) (x0 : IV) (x1 : IV) (x2 : IV) (x3 : IV) (x5 : IV) (n : Nat) (ih : Handler) : Option (IV × Hp) :=
  faddrS 1 x54 fun x55 => load1 x55 h20 fun x56 r57 => chkS [(r53, [])] r57 [] (bldS [.fv (.int .i64 0), .fv (.int .i64 0), .nils] [(0, 1, x52), (1, 1, x56)] fun x58 => newS 84942857 (.row [.fv (.int .i64 0), .fv (.int .i64 0), .nils] false) (.ptr (.own 84942857) 0) h20 fun x59 h60 r61 w62 => S81_285 r61 w62 r57 r53 h60 x59 x58 h4 x0 x1 x2 x3 x5 n ih)
noncomputable def S81_287 (x1 : IV) (h20 : Hp) (h4 : Hp) (x0 : IV) (x2 : IV) (x3 : IV) (x5 : IV) (n : Nat) (ih : Handler) : Option (IV × Hp) :=
  nilS x1 fun x50 => faddrS 0 x50 fun x51 => load1 x51 h20 fun x52 r53 => chkS [] r53 [] (nilS x1 fun x54 => S81_286 x54 h20 r53 x52 h4 x0 x1 x2 x3 x5 n ih)
noncomputable def S81_288 (x1 : IV) (h20 : Hp) (x2 : IV) (ih : Handler) (x5 : IV) (h4 : Hp) (x0 : IV) (x3 : IV) (n : Nat) : Option (IV × Hp) :=
  nilS x1 fun x31 => faddrS 0 x31 fun x32 => load1 x32 h20 fun x33 _ => eqS EE 3 x33 (.fv (.int .i64 1)) fun x35 => condS x35 (S81_266 x2 x1 h20 ih x5) (S81_287 x1 h20 h4 x0 x2 x3 x5 n ih)
noncomputable def S81_289 (x0 : IV) (h20 : Hp) (x5 : IV) (x1 : IV) (x2 : IV) (ih : Handler) (h4 : Hp) (x3 : IV) (n : Nat) : Option (IV × Hp) :=
  nilS x0 fun x21 => faddrS 2 x21 fun x22 => load1 x22 h20 fun x23 _ => neS EE 3 x23 (.fv (.int .i64 0)) fun x25 => condS x25 (S81_264 h20 x5) (S81_288 x1 h20 x2 ih x5 h4 x0 x3 n)
noncomputable def S81_290 (x259 : IV) (h255 : Hp) (j0_19 : Hp → Option (IV × Hp)) : Option (IV × Hp) :=
  faddrS 2 x259 fun x260 => store1 x260 (.fv (.int .i64 5)) h255 fun h261 _ _ => j0_19 h261
noncomputable def S81_291 (h249 : Hp) (x205 : IV) (x237 : IV) (x248 : IV) (x0 : IV) (j0_19 : Hp → Option (IV × Hp)) : Option (IV × Hp) :=
  guardS x205 true h249 (fun k252 => pickS x237 (.fv (.bool true)) x248 fun x253 => k252 x253 h249 [] []) fun x254 h255 _ _ => pickS x205 x254 (.fv (.bool false)) fun x258 => condS x258 (nilS x0 fun x259 => S81_290 x259 h255 j0_19) (j0_19 h255)
noncomputable def S81_292 (h220 : Hp) (x205 : IV) (x219 : IV) (x3 : IV) (x0 : IV) (j0_19 : Hp → Option (IV × Hp)) : Option (IV × Hp) :=
  guardS x205 true h220 (fun k223 => load1 x219 h220 fun x224 r225 => k223 x224 h220 r225 []) fun x226 h227 _ _ => guardS x205 true h227 (fun k230 => gtS EE 3 x226 (.fv (.int .i64 3000)) fun x231 => k230 x231 h227 [] []) fun x232 h233 _ _ => guardS x205 true h233 (fun k236 => k236 x232 h233 [] []) fun x237 h238 _ _ => guardS x237 false h238 (fun k241 => k241 x3 h238 [] []) fun x242 h243 _ _ => guardS x237 false h243 (fun k246 => gtS EE 3 x242 (.fv (.int .i64 120)) fun x247 => k246 x247 h243 [] []) fun x248 h249 _ _ => S81_291 h249 x205 x237 x248 x0 j0_19
noncomputable def S81_293 (h16 : Hp) (x202 : IV) (x0 : IV) (x3 : IV) (j0_19 : Hp → Option (IV × Hp)) : Option (IV × Hp) :=
  load1 x202 h16 fun x203 _ => eqS EE 3 x203 (.fv (.int .i64 0)) fun x205 => guardS x205 true h16 (fun k206 => k206 x0 h16 [] []) fun x207 h208 _ _ => guardS x205 true h208 (fun k211 => nilS x207 fun x212 => k211 x212 h208 [] []) fun x213 h214 _ _ => guardS x205 true h214 (fun k217 => faddrS 1 x213 fun x218 => k217 x218 h214 [] []) fun x219 h220 _ _ => S81_292 h220 x205 x219 x3 x0 j0_19
noncomputable def S81_294 (x14 : IV) (h6 : Hp) (x13 : IV) (x0 : IV) (x5 : IV) (x1 : IV) (x2 : IV) (ih : Handler) (h4 : Hp) (x3 : IV) (n : Nat) : Option (IV × Hp) :=
  faddrS 1 x14 fun x15 => store1 x15 x13 h6 fun h16 _ _ => (fun (j0_19 : Hp → Option (IV × Hp)) => nilS x0 fun x201 => faddrS 2 x201 fun x202 => S81_293 h16 x202 x0 x3 j0_19) fun h20 => S81_289 x0 h20 x5 x1 x2 ih h4 x3 n
noncomputable def S81 (ih : Handler) (n : Nat) (x0 : IV) (x1 : IV) (x2 : IV) (x3 : IV) (h4 : Hp) : Option (IV × Hp) :=
  newS 84934656 (.row [.fv (.int .i64 0), .fv (.int .i64 0), .nils] false) (.ptr (.own 84934656) 0) h4 fun x5 h6 _ _ => nilS x0 fun x9 => faddrS 1 x9 fun x10 => load1 x10 h6 fun x11 _ => addS EE 3 x11 (.fv (.int .i64 1)) fun x13 => nilS x0 fun x14 => S81_294 x14 h6 x13 x0 x5 x1 x2 ih h4 x3 n
theorem S81_ok (ih : Handler) (n : Nat) (x0 : IV) (x1 : IV) (x2 : IV) (x3 : IV) (h4 : Hp) : funS EE ih ft.get n 81 [x0, x1, x2, x3] h4 = S81 ih n x0 x1 x2 x3 h4 := by kernel_rfl
/-! (*thyrsus/thyrsusref5.machine).eval -/
noncomputable def S82_148 (h5 : Hp) : Option (IV × Hp) :=
  bldS [.fv (.int .i64 0), .fv (.int .i64 0), .nils, .nils, .fv (.int .i64 0), .fv (.int .i64 0), .nils] [(0, 1, .fv (.int .i64 11))] fun x13 => boxS 85985281 x13 h5 fun x14 h15 _ _ => outS1 [x14] h15
noncomputable def S82_149 (h5 : Hp) (x33 : IV) : Option (IV × Hp) :=
  load1 x33 h5 fun x34 _ => outS1 [x34] h5
noncomputable def S82_150 (x27 : IV) (x4 : IV) (h5 : Hp) (x2 : IV) : Option (IV × Hp) :=
  subS EE 3 x27 (.fv (.int .i64 1)) fun x28 => faddrS 1 x4 fun x29 => load1 x29 h5 fun x30 _ => subS EE 3 x28 x30 fun x32 => ixS 1 x2 x32 fun x33 => S82_149 h5 x33
noncomputable def S82_151 (h5 : Hp) (x42 : IV) : Option (IV × Hp) :=
  boxS 85989383 x42 h5 fun x43 h44 _ _ => outS1 [x43] h44
noncomputable def S82_152 (x36 : IV) (x4 : IV) (h5 : Hp) : Option (IV × Hp) :=
  subS EE 3 x36 (.fv (.int .i64 1)) fun x37 => faddrS 1 x4 fun x38 => load1 x38 h5 fun x39 _ => subS EE 3 x37 x39 fun x41 => bldS [.fv (.int .i64 0), .fv (.int .i64 0), .nils, .nils, .fv (.int .i64 0), .fv (.int .i64 0), .nils] [(0, 1, .fv (.int .i64 1)), (1, 1, x41)] fun x42 => S82_151 h5 x42
noncomputable def S82_153 (h5 : Hp) (x22 : IV) (x2 : IV) (x4 : IV) : Option (IV × Hp) :=
  load1 x22 h5 fun x23 _ => lenS x2 fun x25 => ltS EE 3 x23 x25 fun x26 => condS x26 (lenS x2 fun x27 => S82_150 x27 x4 h5 x2) (lenS x2 fun x36 => S82_152 x36 x4 h5)
noncomputable def S82_154 (x65 : IV) (h3 : Hp) (h72 : Hp) (x61 : IV) (x62 : IV) (x63 : IV) (x64 : IV) (q58 : List IV → Hp → Option (IV × Hp)) : Option (IV × Hp) :=
  addS EE 3 x65 (.fv (.int .i64 1)) fun x73 => dropS (h3.own.map (·.1)) [85995532, 85995534, 85996558] [x61, x62, x63, x64, x73] h72 fun h74 => q58 [x61, x62, x63, x64, x73] h74
noncomputable def S82_155 (x64 : IV) (h103 : Hp) (x102 : IV) (j0_71 : Hp → Option (IV × Hp)) : Option (IV × Hp) :=
  nilS x64 fun x106 => faddrS 2 x106 fun x107 => store1 x107 x102 h103 fun h108 r109 w110 => chkS [] r109 w110 (j0_71 h108)
noncomputable def S82_156 (r96 : List Ref) (w97 : List Ref) (r86 : List Ref) (h95 : Hp) (x94 : IV) (x85 : IV) (x64 : IV) (j0_71 : Hp → Option (IV × Hp)) : Option (IV × Hp) :=
  chkS [(r86, [])] r96 w97 (genS (pcBuildSlice EE 129 1 [(0, x94)]) 85995533 h95 fun x98 h99 r100 w101 => chkS [(r86, [])] r100 w101 (genS (builtinR EE 85995534 false .append [129, 129] [x85, x98]) 85995534 h99 fun x102 h103 r104 w105 => chkS [] r104 w105 (S82_155 x64 h103 x102 j0_71)))
noncomputable def S82_157 (x88 : IV) (x65 : IV) (h79 : Hp) (r86 : List Ref) (x62 : IV) (x85 : IV) (x64 : IV) (j0_71 : Hp → Option (IV × Hp)) : Option (IV × Hp) :=
  ixS 3 x88 x65 fun x90 => loadA 3 x90 h79 fun x91 r92 => chkS [(r86, [])] r92 [] (bldS [.fv (.int .i64 0), .fv (.int .i64 0), .nils, .nils, .fv (.int .i64 0), .fv (.int .i64 0), .nils] [(3, 1, x62), (4, 3, x91)] fun x93 => boxS 85995532 x93 h79 fun x94 h95 r96 w97 => S82_156 r96 w97 r86 h95 x94 x85 x64 j0_71)
noncomputable def S82_158 (h79 : Hp) (x84 : IV) (x63 : IV) (x65 : IV) (x62 : IV) (x64 : IV) (j0_71 : Hp → Option (IV × Hp)) : Option (IV × Hp) :=
  load1 x84 h79 fun x85 r86 => chkS [] r86 [] (faddrS 2 x63 fun x87 => load1 x87 h79 fun x88 r89 => chkS [(r86, [])] r89 [] (S82_157 x88 x65 h79 r86 x62 x85 x64 j0_71))
noncomputable def S82_159 (x133 : IV) (h130 : Hp) (x129 : IV) (j0_71 : Hp → Option (IV × Hp)) : Option (IV × Hp) :=
  faddrS 2 x133 fun x134 => store1 x134 x129 h130 fun h135 r136 w137 => chkS [] r136 w137 (j0_71 h135)
noncomputable def S82_160 (h122 : Hp) (x121 : IV) (r114 : List Ref) (x113 : IV) (x64 : IV) (j0_71 : Hp → Option (IV × Hp)) : Option (IV × Hp) :=
  genS (pcBuildSlice EE 129 1 [(0, x121)]) 85996557 h122 fun x125 h126 r127 w128 => chkS [(r114, [])] r127 w128 (genS (builtinR EE 85996558 false .append [129, 129] [x113, x125]) 85996558 h126 fun x129 h130 r131 w132 => chkS [] r131 w132 (nilS x64 fun x133 => S82_159 x133 h130 x129 j0_71))
noncomputable def S82_161 (x116 : IV) (x65 : IV) (h79 : Hp) (r114 : List Ref) (ih : Handler) (x61 : IV) (x62 : IV) (x113 : IV) (x64 : IV) (j0_71 : Hp → Option (IV × Hp)) : Option (IV × Hp) :=
  ixS 3 x116 x65 fun x118 => loadA 3 x118 h79 fun x119 r120 => chkS [(r114, [])] r120 [] (isoS [true, false, false] false false ih 82 [x61, x119, x62] h79 fun x121 h122 r123 w124 => chkS [(r114, [])] r123 w124 (S82_160 h122 x121 r114 x113 x64 j0_71))
noncomputable def S82_162 (h79 : Hp) (x112 : IV) (x63 : IV) (x65 : IV) (ih : Handler) (x61 : IV) (x62 : IV) (x64 : IV) (j0_71 : Hp → Option (IV × Hp)) : Option (IV × Hp) :=
  load1 x112 h79 fun x113 r114 => chkS [] r114 [] (faddrS 2 x63 fun x115 => load1 x115 h79 fun x116 r117 => chkS [(r114, [])] r117 [] (S82_161 x116 x65 h79 r114 ih x61 x62 x113 x64 j0_71))
noncomputable def S82_163 (x82 : IV) (x64 : IV) (h79 : Hp) (x63 : IV) (x65 : IV) (x62 : IV) (j0_71 : Hp → Option (IV × Hp)) (ih : Handler) (x61 : IV) : Option (IV × Hp) :=
  condS x82 (nilS x64 fun x83 => faddrS 2 x83 fun x84 => S82_158 h79 x84 x63 x65 x62 x64 j0_71) (nilS x64 fun x111 => faddrS 2 x111 fun x112 => S82_162 h79 x112 x63 x65 ih x61 x62 x64 j0_71)
noncomputable def S82_164 (x65 : IV) (h3 : Hp) (x61 : IV) (x62 : IV) (x63 : IV) (x64 : IV) (q58 : List IV → Hp → Option (IV × Hp)) (h60 : Hp) (ih : Handler) : Option (IV × Hp) :=
  (fun (j0_71 : Hp → Option (IV × Hp)) => faddrS 0 x63 fun x75 => load1 x75 h60 fun x76 _ => isoS [] false false ih 48 [x76, x65] h60 fun x78 h79 _ _ => gtS EE 3 x78 (.fv (.int .i64 0)) fun x82 => S82_163 x82 x64 h79 x63 x65 x62 j0_71 ih x61) fun h72 => S82_154 x65 h3 h72 x61 x62 x63 x64 q58
noncomputable def S82_165 (ih : Handler) (h60 : Hp) (x61 : IV) (x64 : IV) : Option (IV × Hp) :=
  isoS [true, false] false false ih 110 [x61, x64] h60 fun x138 h139 _ _ => outS1 [x138] h139
noncomputable def S82_166 (x63 : IV) (h60 : Hp) (x65 : IV) (h3 : Hp) (x61 : IV) (x62 : IV) (x64 : IV) (q58 : List IV → Hp → Option (IV × Hp)) (ih : Handler) : Option (IV × Hp) :=
  faddrS 2 x63 fun x66 => load1 x66 h60 fun x67 _ => lenS x67 fun x69 => ltS EE 3 x65 x69 fun x70 => condS x70 (S82_164 x65 h3 x61 x62 x63 x64 q58 h60 ih) (S82_165 ih h60 x61 x64)
noncomputable def S82_167 (l59 : List IV) (h60 : Hp) (h3 : Hp) (q58 : List IV → Hp → Option (IV × Hp)) (ih : Handler) : Option (IV × Hp) :=
  uncS l59 fun x61 l142 => uncS l142 fun x62 l143 => uncS l143 fun x63 l144 => uncS l144 fun x64 l145 => uncS l145 fun x65 _ => S82_166 x63 h60 x65 h3 x61 x62 x64 q58 ih
noncomputable def S82_168 (h3 : Hp) (h55 : Hp) (x0 : IV) (x2 : IV) (x4 : IV) (x54 : IV) (n : Nat) (ih : Handler) : Option (IV × Hp) :=
  dropS (h3.own.map (·.1)) [85995532, 85995534, 85996558] [x0, x2, x4, x54, .fv (.int .i64 0)] h55 fun h147 => loopS n (fun q58 l59 h60 => S82_167 l59 h60 h3 q58 ih) [x0, x2, x4, x54, .fv (.int .i64 0)] h147
noncomputable def S82_169 (h5 : Hp) (x47 : IV) (x4 : IV) (h3 : Hp) (x0 : IV) (x2 : IV) (n : Nat) (ih : Handler) : Option (IV × Hp) :=
  load1 x47 h5 fun x48 _ => faddrS 1 x4 fun x50 => load1 x50 h5 fun x51 _ => bldS [.fv (.int .i64 0), .fv (.int .i64 0), .nils, .nils, .fv (.int .i64 0), .fv (.int .i64 0), .nils] [(0, 1, x48), (1, 1, x51)] fun x53 => boxS 85990405 x53 h5 fun x54 h55 _ _ => S82_168 h3 h55 x0 x2 x4 x54 n ih
noncomputable def S82_170 (x4 : IV) (h5 : Hp) (x2 : IV) (h3 : Hp) (x0 : IV) (n : Nat) (ih : Handler) : Option (IV × Hp) :=
  faddrS 0 x4 fun x18 => load1 x18 h5 fun x19 _ => eqS EE 3 x19 (.fv (.int .i64 1)) fun x21 => condS x21 (faddrS 1 x4 fun x22 => S82_153 h5 x22 x2 x4) (faddrS 0 x4 fun x47 => S82_169 h5 x47 x4 h3 x0 x2 n ih)
noncomputable def S82 (ih : Handler) (n : Nat) (x0 : IV) (x1 : IV) (x2 : IV) (h3 : Hp) : Option (IV × Hp) :=
  boxS 85983232 x1 h3 fun x4 h5 _ _ => nilS x0 fun x8 => faddrS 2 x8 fun x9 => load1 x9 h5 fun x10 _ => neS EE 3 x10 (.fv (.int .i64 0)) fun x12 => condS x12 (S82_148 h5) (S82_170 x4 h5 x2 h3 x0 n ih)
theorem S82_ok (ih : Handler) (n : Nat) (x0 : IV) (x1 : IV) (x2 : IV) (h3 : Hp) : funS EE ih ft.get n 82 [x0, x1, x2] h3 = S82 ih n x0 x1 x2 h3 := by kernel_rfl
/-! thyrsus/thyrsusref7.under -/
noncomputable def S83_60 (x38 : IV) (h39 : Hp) (x12 : IV) : Option (IV × Hp) :=
  extS 0 x38 fun x42 => extS 1 x38 fun x43 => storeA 3 x12 x42 h39 fun h44 _ _ => cellS true 3 x12 h44 fun x47 => outS1 [x47, x43] h44
noncomputable def S83_61 (ih : Handler) (h34 : Hp) (x48 : IV) (x12 : IV) : Option (IV × Hp) :=
  isoS [] false false ih 111 [x48] h34 fun x50 h51 _ _ => extS 0 x50 fun x54 => extS 1 x50 fun x55 => storeA 3 x12 x54 h51 fun h56 _ _ => cellS true 3 x12 h56 fun x59 => outS1 [x59, x55] h56
noncomputable def S83_62 (r35 : List Ref) (w36 : List Ref) (x29 : IV) (ih : Handler) (h34 : Hp) (x12 : IV) (x30 : IV) : Option (IV × Hp) :=
  chkS [] r35 w36 (neS EE 3 x29 (.fv (.int .i64 0)) fun x37 => condS x37 (isoS [] false false ih 57 [x29] h34 fun x38 h39 _ _ => S83_60 x38 h39 x12) (loadA 3 x30 h34 fun x48 _ => S83_61 ih h34 x48 x12))
noncomputable def S83_63 (x24 : IV) (h25 : Hp) (r26 : List Ref) (w27 : List Ref) (r23 : List Ref) (r20 : List Ref) (w21 : List Ref) (r17 : List Ref) (ih : Handler) (x12 : IV) : Option (IV × Hp) :=
  extS 0 x24 fun x28 => extS 1 x24 fun x29 => newS 87032840 (.row [.fv (.int .i64 0), .fv (.int .i64 0), .nils] false) (.ptr (.own 87032840) 0) h25 fun x30 h31 r32 w33 => chkS [(r26, w27), (r23, []), (r20, w21), (r17, [])] r32 w33 (storeA 3 x30 x28 h31 fun h34 r35 w36 => S83_62 r35 w36 x29 ih h34 x12 x30)
noncomputable def S83_64 (r20 : List Ref) (w21 : List Ref) (h19 : Hp) (x8 : IV) (r17 : List Ref) (ih : Handler) (x18 : IV) (x12 : IV) : Option (IV × Hp) :=
  chkS [] r20 w21 (loadA 3 x8 h19 fun x22 r23 => chkS [(r20, w21), (r17, [])] r23 [] (isoS [] false false ih 26 [x18, .fv (.int .i64 0), x22] h19 fun x24 h25 r26 w27 => chkS [] r26 w27 (S83_63 x24 h25 r26 w27 r23 r20 w21 r17 ih x12)))
noncomputable def S83 (ih : Handler) (n : Nat) (x0 : IV) (x1 : IV) (x2 : IV) (h3 : Hp) : Option (IV × Hp) :=
  boxS 87031808 x1 h3 fun x4 h5 _ _ => boxS 87031809 x2 h5 fun x8 h9 _ _ => newS 87031810 (.row [.fv (.int .i64 0), .fv (.int .i64 0), .nils] false) (.ptr (.own 87031810) 0) h9 fun x12 h13 _ _ => loadA 3 x4 h13 fun x16 r17 => chkS [] r17 [] (isoS [] false false ih 84 [x0, .fv (.int .i64 0), x16] h13 fun x18 h19 r20 w21 => S83_64 r20 w21 h19 x8 r17 ih x18 x12)
theorem S83_ok (ih : Handler) (n : Nat) (x0 : IV) (x1 : IV) (x2 : IV) (h3 : Hp) : funS EE ih ft.get n 83 [x0, x1, x2] h3 = S83 ih n x0 x1 x2 h3 := by kernel_rfl
/-! thyrsus/thyrsusref7.below -/
noncomputable def S84_27 (r25 : List Ref) (w26 : List Ref) (h24 : Hp) (x23 : IV) : Option (IV × Hp) :=
  chkS [] r25 w26 (outS1 [x23] h24)
noncomputable def S84_28 (r17 : List Ref) (r14 : List Ref) (w15 : List Ref) (r10 : List Ref) (w11 : List Ref) (x1 : IV) (x16 : IV) (h13 : Hp) (x12 : IV) : Option (IV × Hp) :=
  chkS [(r14, w15), (r10, w11)] r17 [] (bldS [.fv (.int .i64 0), .fv (.int .i64 0), .fv (.int .i64 0), .nils] [(0, 1, x1), (1, 3, x16)] fun x18 => genS (pcBuildSlice EE 71 1 [(0, x18)]) 88081414 h13 fun x19 h20 r21 w22 => chkS [(r14, w15), (r10, w11)] r21 w22 (genS (builtinR EE 88081415 false .append [71, 71] [x12, x19]) 88081415 h20 fun x23 h24 r25 w26 => S84_27 r25 w26 h24 x23))
noncomputable def S84 (ih : Handler) (n : Nat) (x0 : IV) (x1 : IV) (x2 : IV) (h3 : Hp) : Option (IV × Hp) :=
  boxS 88080384 x2 h3 fun x4 h5 _ _ => genS (pcBuildSlice EE 71 0 []) 88081408 h5 fun x8 h9 r10 w11 => chkS [] r10 w11 (genS (builtinR EE 88081410 false .append [71, 71] [x8, x0]) 88081410 h9 fun x12 h13 r14 w15 => chkS [] r14 w15 (loadA 3 x4 h13 fun x16 r17 => S84_28 r17 r14 w15 r10 w11 x1 x16 h13 x12))
theorem S84_ok (ih : Handler) (n : Nat) (x0 : IV) (x1 : IV) (x2 : IV) (h3 : Hp) : funS EE ih ft.get n 84 [x0, x1, x2] h3 = S84 ih n x0 x1 x2 h3 := by kernel_rfl
/-! thyrsus/thyrsusref7.shaped -/
noncomputable def S85_74 (x32 : IV) (h33 : Hp) (x9 : IV) (x36 : IV) : Option (IV × Hp) :=
  extS 1 x32 fun x37 => storeA 3 x9 x36 h33 fun h38 _ _ => cellS true 3 x9 h38 fun x41 => outS1 [x41, x37] h38
noncomputable def S85_75 (h44 : Hp) (x9 : IV) : Option (IV × Hp) :=
  cellS true 3 x9 h44 fun x47 => outS1 [x47, .fv (.int .i64 0)] h44
noncomputable def S85_76 (x29 : IV) (ih : Handler) (h30 : Hp) (x9 : IV) (x21 : IV) : Option (IV × Hp) :=
  neS EE 3 x29 (.fv (.int .i64 0)) fun x31 => condS x31 (isoS [] false false ih 57 [x29] h30 fun x32 h33 _ _ => extS 0 x32 fun x36 => S85_74 x32 h33 x9 x36) (loadA 3 x21 h30 fun x42 _ => storeA 3 x9 x42 h30 fun h44 _ _ => S85_75 h44 x9)
noncomputable def S85_77 (h52 : Hp) (x48 : IV) (x51 : IV) (x3 : IV) (j1_28 : IV → Hp → Option (IV × Hp)) (x20 : IV) : Option (IV × Hp) :=
  guardS x48 true h52 (fun k55 => load1 x51 h52 fun x56 r57 => k55 x56 h52 r57 []) fun x58 h59 _ _ => guardS x48 true h59 (fun k62 => k62 x3 h59 [] []) fun x63 h64 _ _ => guardS x48 true h64 (fun k67 => neS EE 3 x58 x63 fun x68 => k67 x68 h64 [] []) fun x69 h70 _ _ => pickS x48 x69 (.fv (.bool false)) fun x73 => condS x73 (j1_28 (.fv (.int .i64 12)) h70) (j1_28 x20 h70)
noncomputable def S85_78 (h16 : Hp) (x19 : IV) (ih : Handler) (x9 : IV) (x20 : IV) (x3 : IV) : Option (IV × Hp) :=
  newS 89129991 (.row [.fv (.int .i64 0), .fv (.int .i64 0), .nils] false) (.ptr (.own 89129991) 0) h16 fun x21 h22 _ _ => storeA 3 x21 x19 h22 fun h25 _ _ => (fun (j1_28 : IV → Hp → Option (IV × Hp)) => eqS EE 3 x20 (.fv (.int .i64 0)) fun x48 => guardS x48 true h25 (fun k49 => faddrS 0 x21 fun x50 => k49 x50 h25 [] []) fun x51 h52 _ _ => S85_77 h52 x48 x51 x3 j1_28 x20) fun x29 h30 => S85_76 x29 ih h30 x9 x21
noncomputable def S85 (ih : Handler) (n : Nat) (x0 : IV) (x1 : IV) (x2 : IV) (x3 : IV) (h4 : Hp) : Option (IV × Hp) :=
  boxS 89128960 x2 h4 fun x5 h6 _ _ => newS 89128961 (.row [.fv (.int .i64 0), .fv (.int .i64 0), .nils] false) (.ptr (.own 89128961) 0) h6 fun x9 h10 _ _ => loadA 3 x5 h10 fun x13 _ => isoS [] false false ih 26 [x0, x1, x13] h10 fun x15 h16 _ _ => extS 0 x15 fun x19 => extS 1 x15 fun x20 => S85_78 h16 x19 ih x9 x20 x3
theorem S85_ok (ih : Handler) (n : Nat) (x0 : IV) (x1 : IV) (x2 : IV) (x3 : IV) (h4 : Hp) : funS EE ih ft.get n 85 [x0, x1, x2, x3] h4 = S85 ih n x0 x1 x2 x3 h4 := by kernel_rfl
/-! thyrsus/thyrsusref7.parts -/
noncomputable def S86_259 (x38 : IV) (h39 : Hp) (x7 : IV) (x42 : IV) : Option (IV × Hp) :=
  extS 1 x38 fun x43 => storeA 3 x7 x42 h39 fun h44 _ _ => cellS true 3 x7 h44 fun x47 => outS1 [x47, x43] h44
noncomputable def S86_260 (x49 : IV) (h36 : Hp) (x7 : IV) : Option (IV × Hp) :=
  ixS 3 x49 (.fv (.int .i64 1)) fun x51 => loadA 3 x51 h36 fun x52 _ => storeA 3 x7 x52 h36 fun h54 _ _ => cellS true 3 x7 h54 fun x57 => outS1 [x57, .fv (.int .i64 0)] h54
noncomputable def S86_261 (x35 : IV) (ih : Handler) (h36 : Hp) (x7 : IV) (x27 : IV) : Option (IV × Hp) :=
  neS EE 3 x35 (.fv (.int .i64 0)) fun x37 => condS x37 (isoS [] false false ih 57 [x35] h36 fun x38 h39 _ _ => extS 0 x38 fun x42 => S86_259 x38 h39 x7 x42) (faddrS 2 x27 fun x48 => load1 x48 h36 fun x49 _ => S86_260 x49 h36 x7)
noncomputable def S86_262 (x63 : IV) (h31 : Hp) (r61 : List Ref) (ih : Handler) (x0 : IV) (x60 : IV) (j1_34 : IV → Hp → Option (IV × Hp)) : Option (IV × Hp) :=
  ixS 3 x63 (.fv (.int .i64 0)) fun x65 => loadA 3 x65 h31 fun x66 r67 => chkS [(r61, [])] r67 [] (isoS [] false false ih 61 [x0, .fv (.int .i64 0), x60, x66] h31 fun x68 h69 r70 w71 => chkS [] r70 w71 (j1_34 x68 h69))
noncomputable def S86_263 (h31 : Hp) (x59 : IV) (x27 : IV) (ih : Handler) (x0 : IV) (j1_34 : IV → Hp → Option (IV × Hp)) : Option (IV × Hp) :=
  loadA 3 x59 h31 fun x60 r61 => chkS [] r61 [] (faddrS 2 x27 fun x62 => load1 x62 h31 fun x63 r64 => chkS [(r61, [])] r64 [] (S86_262 x63 h31 r61 ih x0 x60 j1_34))
noncomputable def S86_264 (ih : Handler) (x7 : IV) (x27 : IV) (x26 : IV) (x12 : IV) (h31 : Hp) (x0 : IV) : Option (IV × Hp) :=
  (fun (j1_34 : IV → Hp → Option (IV × Hp)) => eqS EE 3 x26 (.fv (.int .i64 0)) fun x58 => condS x58 (ixS 3 x12 (.fv (.int .i64 1)) fun x59 => S86_263 h31 x59 x27 ih x0 j1_34) (j1_34 x26 h31)) fun x35 h36 => S86_261 x35 ih h36 x7 x27
noncomputable def S86_265 (ih : Handler) (h8 : Hp) (x0 : IV) (x19 : IV) (x7 : IV) (x12 : IV) : Option (IV × Hp) :=
  isoS [] false false ih 85 [x0, .fv (.int .i64 0), x19, .fv (.int .i64 16)] h8 fun x21 h22 _ _ => extS 0 x21 fun x25 => extS 1 x21 fun x26 => newS 90181640 (.row [.fv (.int .i64 0), .fv (.int .i64 0), .nils] false) (.ptr (.own 90181640) 0) h22 fun x27 h28 _ _ => storeA 3 x27 x25 h28 fun h31 _ _ => S86_264 ih x7 x27 x26 x12 h31 x0
noncomputable def S86_266 (x90 : IV) (h91 : Hp) (x7 : IV) : Option (IV × Hp) :=
  extS 0 x90 fun x94 => extS 1 x90 fun x95 => storeA 3 x7 x94 h91 fun h96 _ _ => cellS true 3 x7 h96 fun x99 => outS1 [x99, x95] h96
noncomputable def S86_267 (x117 : IV) (h118 : Hp) (x7 : IV) : Option (IV × Hp) :=
  extS 0 x117 fun x121 => extS 1 x117 fun x122 => storeA 3 x7 x121 h118 fun h123 _ _ => cellS true 3 x7 h123 fun x126 => outS1 [x126, x122] h123
noncomputable def S86_268 (x139 : IV) (h140 : Hp) (x7 : IV) (x143 : IV) : Option (IV × Hp) :=
  extS 1 x139 fun x144 => storeA 3 x7 x143 h140 fun h145 _ _ => cellS true 3 x7 h145 fun x148 => outS1 [x148, x144] h145
noncomputable def S86_269 (h113 : Hp) (x109 : IV) (x127 : IV) (ih : Handler) (x7 : IV) : Option (IV × Hp) :=
  loadA 3 x109 h113 fun x129 _ => genS (pcBuildSlice EE 28 2 [(0, x127), (1, x129)]) 90194946 h113 fun x131 h132 _ _ => isoS [] false false ih 30 [.fv (.int .i64 17), x131] h132 fun x135 h136 _ _ => isoS [] false false ih 58 [x135] h136 fun x139 h140 _ _ => extS 0 x139 fun x143 => S86_268 x139 h140 x7 x143
noncomputable def S86_270 (h110 : Hp) (x109 : IV) (x107 : IV) (x108 : IV) (ih : Handler) (x7 : IV) (x82 : IV) : Option (IV × Hp) :=
  storeA 3 x109 x107 h110 fun h113 _ _ => neS EE 3 x108 (.fv (.int .i64 0)) fun x116 => condS x116 (isoS [] false false ih 57 [x108] h113 fun x117 h118 _ _ => S86_267 x117 h118 x7) (loadA 3 x82 h113 fun x127 _ => S86_269 h113 x109 x127 ih x7)
noncomputable def S86_271 (h86 : Hp) (x100 : IV) (ih : Handler) (x0 : IV) (x7 : IV) (x82 : IV) : Option (IV × Hp) :=
  loadA 3 x100 h86 fun x101 _ => isoS [] false false ih 26 [x0, .fv (.int .i64 0), x101] h86 fun x103 h104 _ _ => extS 0 x103 fun x107 => extS 1 x103 fun x108 => newS 90191880 (.row [.fv (.int .i64 0), .fv (.int .i64 0), .nils] false) (.ptr (.own 90191880) 0) h104 fun x109 h110 _ _ => S86_270 h110 x109 x107 x108 ih x7 x82
noncomputable def S86_272 (h77 : Hp) (x80 : IV) (x81 : IV) (ih : Handler) (x7 : IV) (x12 : IV) (x0 : IV) : Option (IV × Hp) :=
  newS 90188808 (.row [.fv (.int .i64 0), .fv (.int .i64 0), .nils] false) (.ptr (.own 90188808) 0) h77 fun x82 h83 _ _ => storeA 3 x82 x80 h83 fun h86 _ _ => neS EE 3 x81 (.fv (.int .i64 0)) fun x89 => condS x89 (isoS [] false false ih 57 [x81] h86 fun x90 h91 _ _ => S86_266 x90 h91 x7) (ixS 3 x12 (.fv (.int .i64 1)) fun x100 => S86_271 h86 x100 ih x0 x7 x82)
noncomputable def S86_273 (x12 : IV) (h8 : Hp) (ih : Handler) (x0 : IV) (x7 : IV) : Option (IV × Hp) :=
  ixS 3 x12 (.fv (.int .i64 0)) fun x73 => loadA 3 x73 h8 fun x74 _ => isoS [] false false ih 26 [x0, .fv (.int .i64 0), x74] h8 fun x76 h77 _ _ => extS 0 x76 fun x80 => extS 1 x76 fun x81 => S86_272 h77 x80 x81 ih x7 x12 x0
noncomputable def S86_274 (x162 : IV) (h163 : Hp) (x7 : IV) (x166 : IV) : Option (IV × Hp) :=
  extS 1 x162 fun x167 => storeA 3 x7 x166 h163 fun h168 _ _ => cellS true 3 x7 h168 fun x171 => outS1 [x171, x167] h168
noncomputable def S86_275 (x192 : IV) (h193 : Hp) (x7 : IV) (x196 : IV) : Option (IV × Hp) :=
  extS 1 x192 fun x197 => storeA 3 x7 x196 h193 fun h198 _ _ => cellS true 3 x7 h198 fun x201 => outS1 [x201, x197] h198
noncomputable def S86_276 (h204 : Hp) (x7 : IV) : Option (IV × Hp) :=
  cellS true 3 x7 h204 fun x207 => outS1 [x207, .fv (.int .i64 0)] h204
noncomputable def S86_277 (x189 : IV) (ih : Handler) (h190 : Hp) (x7 : IV) (x181 : IV) : Option (IV × Hp) :=
  neS EE 3 x189 (.fv (.int .i64 0)) fun x191 => condS x191 (isoS [] false false ih 57 [x189] h190 fun x192 h193 _ _ => extS 0 x192 fun x196 => S86_275 x192 h193 x7 x196) (loadA 3 x181 h190 fun x202 _ => storeA 3 x7 x202 h190 fun h204 _ _ => S86_276 h204 x7)
noncomputable def S86_278 (r216 : List Ref) (w217 : List Ref) (j1_188 : IV → Hp → Option (IV × Hp)) (h215 : Hp) (x214 : IV) : Option (IV × Hp) :=
  chkS [] r216 w217 (j1_188 x214 h215)
noncomputable def S86_279 (h185 : Hp) (x209 : IV) (x181 : IV) (ih : Handler) (x0 : IV) (j1_188 : IV → Hp → Option (IV × Hp)) : Option (IV × Hp) :=
  loadA 3 x209 h185 fun x210 r211 => chkS [] r211 [] (loadA 3 x181 h185 fun x212 r213 => chkS [(r211, [])] r213 [] (isoS [] false false ih 61 [x0, .fv (.int .i64 0), x210, x212] h185 fun x214 h215 r216 w217 => S86_278 r216 w217 j1_188 h215 x214))
noncomputable def S86_280 (ih : Handler) (x7 : IV) (x181 : IV) (x180 : IV) (x12 : IV) (h185 : Hp) (x0 : IV) : Option (IV × Hp) :=
  (fun (j1_188 : IV → Hp → Option (IV × Hp)) => eqS EE 3 x180 (.fv (.int .i64 0)) fun x208 => condS x208 (ixS 3 x12 (.fv (.int .i64 2)) fun x209 => S86_279 h185 x209 x181 ih x0 j1_188) (j1_188 x180 h185)) fun x189 h190 => S86_277 x189 ih h190 x7 x181
noncomputable def S86_281 (ih : Handler) (h158 : Hp) (x0 : IV) (x173 : IV) (x7 : IV) (x12 : IV) : Option (IV × Hp) :=
  isoS [] false false ih 26 [x0, .fv (.int .i64 0), x173] h158 fun x175 h176 _ _ => extS 0 x175 fun x179 => extS 1 x175 fun x180 => newS 90200072 (.row [.fv (.int .i64 0), .fv (.int .i64 0), .nils] false) (.ptr (.own 90200072) 0) h176 fun x181 h182 _ _ => storeA 3 x181 x179 h182 fun h185 _ _ => S86_280 ih x7 x181 x180 x12 h185 x0
noncomputable def S86_282 (x157 : IV) (ih : Handler) (h158 : Hp) (x7 : IV) (x12 : IV) (x0 : IV) : Option (IV × Hp) :=
  neS EE 3 x157 (.fv (.int .i64 0)) fun x161 => condS x161 (isoS [] false false ih 57 [x157] h158 fun x162 h163 _ _ => extS 0 x162 fun x166 => S86_274 x162 h163 x7 x166) (ixS 3 x12 (.fv (.int .i64 1)) fun x172 => loadA 3 x172 h158 fun x173 _ => S86_281 ih h158 x0 x173 x7 x12)
noncomputable def S86_283 (r152 : List Ref) (ih : Handler) (h8 : Hp) (x0 : IV) (x151 : IV) (x7 : IV) (x12 : IV) : Option (IV × Hp) :=
  chkS [] r152 [] (isoS [] false false ih 30 [.fv (.int .i64 15), .nils] h8 fun x153 h154 r155 w156 => chkS [(r152, [])] r155 w156 (isoS [] false false ih 61 [x0, .fv (.int .i64 0), x151, x153] h154 fun x157 h158 r159 w160 => chkS [] r159 w160 (S86_282 x157 ih h158 x7 x12 x0)))
noncomputable def S86_284 (x235 : IV) (h236 : Hp) (x7 : IV) (x239 : IV) : Option (IV × Hp) :=
  extS 1 x235 fun x240 => storeA 3 x7 x239 h236 fun h241 _ _ => cellS true 3 x7 h241 fun x244 => outS1 [x244, x240] h241
noncomputable def S86_285 (h231 : Hp) (x7 : IV) (x253 : IV) : Option (IV × Hp) :=
  storeA 3 x7 x253 h231 fun h255 _ _ => cellS true 3 x7 h255 fun x258 => outS1 [x258, .fv (.int .i64 0)] h255
noncomputable def S86_286 (x3 : IV) (h231 : Hp) (x246 : IV) (x7 : IV) : Option (IV × Hp) :=
  faddrS 0 x3 fun x248 => load1 x248 h231 fun x249 _ => subS EE 3 x249 (.fv (.int .i64 23)) fun x251 => ixS 3 x246 x251 fun x252 => loadA 3 x252 h231 fun x253 _ => S86_285 h231 x7 x253
noncomputable def S86_287 (x226 : IV) (ih : Handler) (h231 : Hp) (x7 : IV) (x227 : IV) (x3 : IV) : Option (IV × Hp) :=
  neS EE 3 x226 (.fv (.int .i64 0)) fun x234 => condS x234 (isoS [] false false ih 57 [x226] h231 fun x235 h236 _ _ => extS 0 x235 fun x239 => S86_284 x235 h236 x7 x239) (faddrS 2 x227 fun x245 => load1 x245 h231 fun x246 _ => S86_286 x3 h231 x246 x7)
noncomputable def S86_288 (ih : Handler) (h8 : Hp) (x0 : IV) (x219 : IV) (x7 : IV) (x3 : IV) : Option (IV × Hp) :=
  isoS [] false false ih 85 [x0, .fv (.int .i64 0), x219, .fv (.int .i64 17)] h8 fun x221 h222 _ _ => extS 0 x221 fun x225 => extS 1 x221 fun x226 => newS 90206216 (.row [.fv (.int .i64 0), .fv (.int .i64 0), .nils] false) (.ptr (.own 90206216) 0) h222 fun x227 h228 _ _ => storeA 3 x227 x225 h228 fun h231 _ _ => S86_287 x226 ih h231 x7 x227 x3
noncomputable def S86_289 (x15 : IV) (x12 : IV) (h8 : Hp) (ih : Handler) (x0 : IV) (x7 : IV) (x3 : IV) : Option (IV × Hp) :=
  eqS EE 3 x15 (.fv (.int .i64 27)) fun x149 => condS x149 (ixS 3 x12 (.fv (.int .i64 0)) fun x150 => loadA 3 x150 h8 fun x151 r152 => S86_283 r152 ih h8 x0 x151 x7 x12) (ixS 3 x12 (.fv (.int .i64 0)) fun x218 => loadA 3 x218 h8 fun x219 _ => S86_288 ih h8 x0 x219 x7 x3)
noncomputable def S86_290 (x15 : IV) (x12 : IV) (h8 : Hp) (ih : Handler) (x0 : IV) (x7 : IV) (x3 : IV) : Option (IV × Hp) :=
  eqS EE 3 x15 (.fv (.int .i64 21)) fun x17 => condS x17 (ixS 3 x12 (.fv (.int .i64 0)) fun x18 => loadA 3 x18 h8 fun x19 _ => S86_265 ih h8 x0 x19 x7 x12) (eqS EE 3 x15 (.fv (.int .i64 22)) fun x72 => condS x72 (S86_273 x12 h8 ih x0 x7) (S86_289 x15 x12 h8 ih x0 x7 x3))
noncomputable def S86 (ih : Handler) (n : Nat) (x0 : IV) (x1 : IV) (h2 : Hp) : Option (IV × Hp) :=
  boxS 90177536 x1 h2 fun x3 h4 _ _ => newS 90177537 (.row [.fv (.int .i64 0), .fv (.int .i64 0), .nils] false) (.ptr (.own 90177537) 0) h4 fun x7 h8 _ _ => faddrS 2 x3 fun x11 => load1 x11 h8 fun x12 _ => faddrS 0 x3 fun x14 => load1 x14 h8 fun x15 _ => S86_290 x15 x12 h8 ih x0 x7 x3
theorem S86_ok (ih : Handler) (n : Nat) (x0 : IV) (x1 : IV) (h2 : Hp) : funS EE ih ft.get n 86 [x0, x1] h2 = S86 ih n x0 x1 h2 := by kernel_rfl
end Idl
end Go.Proofs.Ytdibmackcbpniaa

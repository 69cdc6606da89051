/-
  Texts of a proof, part 8: an ideal semantics of the program, its functions in shallow form, contracts of them. No statement of the seat is proved here.
-/
import Derived.Test.YtkfecngimlcfoaaStagePlainK7
set_option linter.all false
noncomputable section
set_option maxRecDepth 100000
set_option linter.unusedVariables false
namespace Go.Proofs.Ytkfecngimlcfoaa
namespace Idl
noncomputable section
abbrev OH:=Option (IV×Hp)
abbrev AC:=List Ref
abbrev iq (n:Int):IV:=.fv (.int .i64 n)
def Ael (x161 x177:IV) (h178:Hp):OH :=
 AI x161 x177 (.fv (.bool false)) fun x181=>Al [x181] h178
def AdE (h155:Hp) (x154 x152 x153 x126:IV) (ih:Aa):OH :=
 Af 3 x154 x152 h155 fun h158 _ _=>AN EE 36 x153 (.fv (.int .i64 0)) fun x161=>Ac x161 true h158 (fun k162=>Ag 3 x154 h158 fun x163 r164=>k162 x163 h158 r164 []) fun x165 h166 _ _=>Ac x161 true h166 (fun k169=>Ag 3 x126 h166 fun x170 r171=>k169 x170 h166 r171 []) fun x172 h173 _ _=>Ac x161 true h173 (fun k176=>Ah [] false false ih 17 [x165,x172] h173 k176) fun x177 h178 _ _=>Ael x161 x177 h178
def Afa (h142:Hp) (x126:IV) (ih:Aa):OH :=
 Ag 3 x126 h142 fun x146 _=>Ah [] false false ih 16 [x146] h142 fun x148 h149 _ _=>Ar 0 x148 fun x152=>Ar 1 x148 fun x153=>AD 4206597 (.row [.fv (.int .i64 0),.fv (.int .i64 0),.nils] false) (.ptr (.own 4206597) 0) h149 fun x154 h155 _ _=>AdE h155 x154 x152 x153 x126 ih
def Agp (x103:IV) (h130:Hp) (x125 x126:IV) (ih:Aa):OH :=
 CL (LR .not x103) fun x133=>Ac x133 false h130 (fun k134=>k134 x125 h130 [] []) fun x135 h136 _ _=>Ac x133 false h136 (fun k139=>Ch EE 3 x135 (.fv (.int .i64 0)) fun x140=>k139 x140 h136 [] []) fun x141 h142 _ _=>AI x133 (.fv (.bool true)) x141 fun x145=>Ai x145 (Al [.fv (.bool true)] h142) (Afa h142 x126 ih)
def AfA (ih:Aa) (h115:Hp) (x118 x103:IV):OH :=
 Ah [] false false ih 14 [x118] h115 fun x120 h121 _ _=>Ar 0 x120 fun x124=>Ar 1 x120 fun x125=>AD 4203525 (.row [.fv (.int .i64 0),.fv (.int .i64 0),.nils] false) (.ptr (.own 4203525) 0) h121 fun x126 h127 _ _=>Af 3 x126 x124 h127 fun h130 _ _=>Agp x103 h130 x125 x126 ih
def AfI (h97:Hp) (x101 x102:IV) (ih:Aa) (x103:IV):OH :=
 AD 4202504 (.row [.fv (.int .i64 0),.fv (.int .i64 0),.nils] false) (.ptr (.own 4202504) 0) h97 fun x104 h105 _ _=>AD 4202505 (.row [.fv (.int .i64 0),.fv (.int .i64 0),.nils] false) (.ptr (.own 4202505) 0) h105 fun x108 h109 _ _=>Af 3 x104 x101 h109 fun h112 _ _=>Af 3 x108 x102 h112 fun h115 _ _=>Ag 3 x108 h115 fun x118 _=>AfA ih h115 x118 x103
def Afp (ih:Aa) (h88:Hp) (x92 x94:IV):OH :=
 Ah [] false false ih 13 [.nils,x92,x94,.fv (.bool true)] h88 fun x96 h97 _ _=>Ar 0 x96 fun _=>Ar 1 x96 fun x101=>Ar 2 x96 fun x102=>Ar 3 x96 fun x103=>AfI h97 x101 x102 ih x103
def Ae4 (x81 x87:IV) (h88:Hp) (x8 x12:IV) (ih:Aa):OH :=
 Ch EE 4 x81 x87 fun x91=>Ai x91 (Al [.fv (.bool false)] h88) (Ag 3 x8 h88 fun x92 _=>Ag 3 x12 h88 fun x94 _=>Afp ih h88 x92 x94)
def Aeq (r83 w84:AC) (h82:Hp) (x72:IV) (r80:AC) (ih:Aa) (x81 x8 x12:IV):OH :=
 Ad [] r83 w84 (Ag 3 x72 h82 fun x85 r86=>Ad [(r83,w84),(r80,[])] r86 [] (Ah [] false false ih 22 [x85] h82 fun x87 h88 r89 w90=>Ad [] r89 w90 (Ae4 x81 x87 h88 x8 x12 ih)))
def AeL (h69:Hp) (x68:IV) (ih:Aa) (x8 x12:IV):OH :=
 AD 4199426 (.row [.fv (.int .i64 0),.fv (.int .i64 0),.nils] false) (.ptr (.own 4199426) 0) h69 fun x72 h73 _ _=>Af 3 x72 x68 h73 fun h76 _ _=>Ag 3 x72 h76 fun x79 r80=>Ad [] r80 [] (Ah [] false false ih 18 [x79] h76 fun x81 h82 r83 w84=>Aeq r83 w84 h82 x72 r80 ih x81 x8 x12)
def AfR (x46 x61:IV) (h62:Hp) (x4:IV) (ih:Aa) (x8 x12:IV):OH :=
 AI x46 (.fv (.bool true)) x61 fun x65=>Ai x65 (Al [.fv (.bool true)] h62) (Ag 3 x4 h62 fun x66 _=>Ah [] false false ih 21 [x66,.fv (.int .i64 6),.fv (.int .i64 2)] h62 fun x68 h69 _ _=>AeL h69 x68 ih x8 x12)
def AgS (h37:Hp) (x27 x36 x12:IV) (ih:Aa) (x4 x8:IV):OH :=
 Ac x27 false h37 (fun k40=>CL (LR .not x36) fun x41=>k40 x41 h37 [] []) fun x42 h43 _ _=>AI x27 (.fv (.bool true)) x42 fun x46=>Ac x46 false h43 (fun k47=>Ag 3 x12 h43 fun x48 r49=>k47 x48 h43 r49 []) fun x50 h51 _ _=>Ac x46 false h51 (fun k54=>Ah [] false false ih 12 [x50] h51 k54) fun x55 h56 _ _=>Ac x46 false h56 (fun k59=>CL (LR .not x55) fun x60=>k59 x60 h56 [] []) fun x61 h62 _ _=>AfR x46 x61 h62 x4 ih x8 x12
def Aei (h17:Hp) (x4:IV) (ih:Aa) (x8 x12:IV):OH :=
 Ag 3 x4 h17 fun x21 _=>Ah [] false false ih 12 [x21] h17 fun x23 h24 _ _=>CL (LR .not x23) fun x27=>Ac x27 false h24 (fun k28=>Ag 3 x8 h24 fun x29 r30=>k28 x29 h24 r30 []) fun x31 h32 _ _=>Ac x27 false h32 (fun k35=>Ah [] false false ih 12 [x31] h32 k35) fun x36 h37 _ _=>AgS h37 x27 x36 x12 ih x4 x8
def S4 (ih:Aa) (n:Nat) (x0 x1 x2:IV) (h3:Hp):OH :=
 AX 4194304 x0 h3 fun x4 h5 _ _=>AX 4194305 x1 h5 fun x8 h9 _ _=>AX 4194306 x2 h9 fun x12 h13 _ _=>Ah [] false false ih 11 [] h13 fun x16 h17 _ _=>CL (LR .not x16) fun x20=>Ai x20 (Al [.fv (.bool false)] h17) (Aei h17 x4 ih x8 x12)
theorem ArO (ih:Aa) (n:Nat) (x0 x1 x2:IV) (h3:Hp):Aw EE ih ft.get n 4 [x0,x1,x2] h3=S4 ih n x0 x1 x2 h3:=by kernel_rfl
def Aoc (r61 w62:AC) (h60:Hp) (x52 x59:IV):OH :=
 Ad [] r61 w62 (Ac x52 true h60 (fun k63=>CL (LR .not x59) fun x64=>k63 x64 h60 [] []) fun x65 h66 _ _=>AI x52 x65 (.fv (.bool false)) fun x69=>Al [x69] h66)
def Ao6 (r50 w51:AC) (x34 x48:IV) (h49:Hp) (ih:Aa):OH :=
 Ad [] r50 w51 (AI x34 x48 (.fv (.bool false)) fun x52=>Ac x52 true h49 (fun k53=>Ah [] false false ih 24 [.fv (.int .i64 10),.nils] h49 k53) fun x54 h55 r56 w57=>Ad [] r56 w57 (Ac x52 true h55 (fun k58=>Ah [] false false ih 18 [x54] h55 k58) fun x59 h60 r61 w62=>Aoc r61 w62 h60 x52 x59))
def Aow (h31:Hp) (x34 x27:IV) (ih:Aa):OH :=
 Ac x34 true h31 (fun k35=>Ag 3 x27 h31 fun x36 r37=>k35 x36 h31 r37 []) fun x38 h39 r40 w41=>Ad [] r40 w41 (Ac x34 true h39 (fun k42=>Ah [] false false ih 26 [.fv (.int .i64 3)] h39 k42) fun x43 h44 r45 w46=>Ad [(r40,w41)] r45 w46 (Ac x34 true h44 (fun k47=>Ah [] false false ih 17 [x38,x43] h44 k47) fun x48 h49 r50 w51=>Ao6 r50 w51 x34 x48 h49 ih))
def Aou (x21:IV) (h22:Hp) (ih:Aa):OH :=
 Ar 0 x21 fun x25=>Ar 1 x21 fun x26=>AD 11535369 (.row [.fv (.int .i64 0),.fv (.int .i64 0),.nils] false) (.ptr (.own 11535369) 0) h22 fun x27 h28 _ _=>Af 3 x27 x25 h28 fun h31 _ _=>AN EE 36 x26 (.fv (.int .i64 0)) fun x34=>Aow h31 x34 x27 ih
def S11 (ih:Aa) (n:Nat) (h0:Hp):OH :=
 Ah [] false false ih 26 [.fv (.int .i64 3)] h0 fun x1 h2 _ _=>Ay (Ak EE 28 1 [(0,x1)]) 11535361 h2 fun x5 h6 _ _=>Ah [] false false ih 24 [.fv (.int .i64 19),x5] h6 fun x9 h10 _ _=>Ay (Ak EE 28 1 [(0,x9)]) 11535363 h10 fun x13 h14 _ _=>Ah [] false false ih 24 [.fv (.int .i64 30),x13] h14 fun x17 h18 _ _=>Ah [] false false ih 16 [x17] h18 fun x21 h22 _ _=>Aou x21 h22 ih
theorem AqK (ih:Aa) (n:Nat) (h0:Hp):Aw EE ih ft.get n 11 [] h0=S11 ih n h0:=by kernel_rfl
def S12 (ih:Aa) (n:Nat) (x0:IV) (h1:Hp):OH :=
 AX 12582912 x0 h1 fun x2 h3 _ _=>Ag 3 x2 h3 fun x6 _=>Ah [] false false ih 36 [x6,.fv (.int .i64 300)] h3 fun x8 h9 _ _=>F8 EE 3 x8 (.fv (.int .i64 300)) fun x12=>Al [x12] h9
theorem An4 (ih:Aa) (n:Nat) (x0:IV) (h1:Hp):Aw EE ih ft.get n 12 [x0] h1=S12 ih n x0 h1:=by kernel_rfl
def Xn (r85 w86:AC) (h84:Hp) (x13 x17 x21:IV):OH :=
 Ad [] r85 w86 (As true 3 x13 h84 fun x87=>As true 3 x17 h84 fun x88=>Al [x21,x87,x88,.fv (.bool false)] h84)
def AbX (ih:Aa) (h71:Hp) (r76:AC) (x13 x75 x17 x21:IV):OH :=
 Ah [] false false ih 26 [.fv (.int .i64 0)] h71 fun x77 h78 r79 w80=>Ad [(r76,[])] r79 w80 (Af 3 x13 x75 h78 fun h81 r82 w83=>Ad [] r82 w83 (Af 3 x17 x77 h81 fun h84 r85 w86=>Xn r85 w86 h84 x13 x17 x21))
def XL (r97 w98:AC) (h96:Hp) (x13 x17 x21:IV):OH :=
 Ad [] r97 w98 (As true 3 x13 h96 fun x99=>As true 3 x17 h96 fun x100=>Al [x21,x99,x100,.fv (.bool true)] h96)
def YA (h71:Hp) (x48:IV) (r90:AC) (x13 x89 x17 x21:IV):OH :=
 Ag 3 x48 h71 fun x91 r92=>Ad [(r90,[])] r92 [] (Af 3 x13 x89 h71 fun h93 r94 w95=>Ad [(r92,[])] r94 w95 (Af 3 x17 x91 h93 fun h96 r97 w98=>XL r97 w98 h96 x13 x17 x21))
def Aa6 (x55 x70:IV) (h71:Hp) (x31:IV) (ih:Aa) (x13 x17 x21 x48:IV):OH :=
 AI x55 (.fv (.bool true)) x70 fun x74=>Ai x74 (Ag 3 x31 h71 fun x75 r76=>Ad [] r76 [] (AbX ih h71 r76 x13 x75 x17 x21)) (Ag 3 x31 h71 fun x89 r90=>Ad [] r90 [] (YA h71 x48 r90 x13 x89 x17 x21))
def Wv (h49:Hp) (x48 x46 x47:IV) (ih:Aa) (x31 x13 x17 x21:IV):OH :=
 Af 3 x48 x46 h49 fun h52 _ _=>CL (LR .not x47) fun x55=>Ac x55 false h52 (fun k56=>Ag 3 x48 h52 fun x57 r58=>k56 x57 h52 r58 []) fun x59 h60 _ _=>Ac x55 false h60 (fun k63=>Ah [] false false ih 35 [x59] h60 k63) fun x64 h65 _ _=>Ac x55 false h65 (fun k68=>Ch EE 3 x64 (.fv (.int .i64 0)) fun x69=>k68 x69 h65 [] []) fun x70 h71 _ _=>Aa6 x55 x70 h71 x31 ih x13 x17 x21 x48
def YB (h35:Hp) (x5:IV) (ih:Aa) (x21 x38 x31 x13 x17:IV):OH :=
 Ag 3 x5 h35 fun x40 _=>Ah [] false false ih 33 [x21,x38,x40,.fv (.int .i64 5)] h35 fun x42 h43 _ _=>Ar 0 x42 fun x46=>Ar 1 x42 fun x47=>AD 13635591 (.row [.fv (.int .i64 0),.fv (.int .i64 0),.nils] false) (.ptr (.own 13635591) 0) h43 fun x48 h49 _ _=>Wv h49 x48 x46 x47 ih x31 x13 x17 x21
def Xm (h22:Hp) (x9:IV) (ih:Aa) (x5 x21 x13 x17:IV):OH :=
 Ag 3 x9 h22 fun x25 _=>Ah [] false false ih 28 [x25,.fv (.int .i64 2)] h22 fun x27 h28 _ _=>AD 13634562 (.row [.fv (.int .i64 0),.fv (.int .i64 0),.nils] false) (.ptr (.own 13634562) 0) h28 fun x31 h32 _ _=>Af 3 x31 x27 h32 fun h35 _ _=>Ag 3 x31 h35 fun x38 _=>YB h35 x5 ih x21 x38 x31 x13 x17
def X0 (r161 w162:AC) (h160:Hp) (x13 x17 x21:IV):OH :=
 Ad [] r161 w162 (As true 3 x13 h160 fun x163=>As true 3 x17 h160 fun x164=>Al [x21,x163,x164,.fv (.bool false)] h160)
def AaZ (ih:Aa) (h147:Hp) (r152:AC) (x13 x151 x17 x21:IV):OH :=
 Ah [] false false ih 24 [.fv (.int .i64 11),.nils] h147 fun x153 h154 r155 w156=>Ad [(r152,[])] r155 w156 (Af 3 x13 x151 h154 fun h157 r158 w159=>Ad [] r158 w159 (Af 3 x17 x153 h157 fun h160 r161 w162=>X0 r161 w162 h160 x13 x17 x21))
def Wq (r173 w174:AC) (h172:Hp) (x13 x17 x21:IV):OH :=
 Ad [] r173 w174 (As true 3 x13 h172 fun x175=>As true 3 x17 h172 fun x176=>Al [x21,x175,x176,.fv (.bool true)] h172)
def ZA (h147:Hp) (x124:IV) (r166:AC) (x13 x165 x17 x21:IV):OH :=
 Ag 3 x124 h147 fun x167 r168=>Ad [(r166,[])] r168 [] (Af 3 x13 x165 h147 fun h169 r170 w171=>Ad [(r168,[])] r170 w171 (Af 3 x17 x167 h169 fun h172 r173 w174=>Wq r173 w174 h172 x13 x17 x21))
def WC (x131 x146:IV) (h147:Hp) (x107:IV) (ih:Aa) (x13 x17 x21 x124:IV):OH :=
 AI x131 (.fv (.bool true)) x146 fun x150=>Ai x150 (Ag 3 x107 h147 fun x151 r152=>Ad [] r152 [] (AaZ ih h147 r152 x13 x151 x17 x21)) (Ag 3 x107 h147 fun x165 r166=>Ad [] r166 [] (ZA h147 x124 r166 x13 x165 x17 x21))
def Xi (h125:Hp) (x124 x122 x123:IV) (ih:Aa) (x107 x13 x17 x21:IV):OH :=
 Af 3 x124 x122 h125 fun h128 _ _=>CL (LR .not x123) fun x131=>Ac x131 false h128 (fun k132=>Ag 3 x124 h128 fun x133 r134=>k132 x133 h128 r134 []) fun x135 h136 _ _=>Ac x131 false h136 (fun k139=>Ah [] false false ih 35 [x135] h136 k139) fun x140 h141 _ _=>Ac x131 false h141 (fun k144=>Ch EE 3 x140 (.fv (.int .i64 0)) fun x145=>k144 x145 h141 [] []) fun x146 h147 _ _=>WC x131 x146 h147 x107 ih x13 x17 x21 x124
def WE (h111:Hp) (x5:IV) (ih:Aa) (x21 x114 x107 x13 x17:IV):OH :=
 Ag 3 x5 h111 fun x116 _=>Ah [] false false ih 39 [x21,x114,x116,.fv (.int .i64 5)] h111 fun x118 h119 _ _=>Ar 0 x118 fun x122=>Ar 1 x118 fun x123=>AD 13640711 (.row [.fv (.int .i64 0),.fv (.int .i64 0),.nils] false) (.ptr (.own 13640711) 0) h119 fun x124 h125 _ _=>Xi h125 x124 x122 x123 ih x107 x13 x17 x21
def Ack (h22:Hp) (x9:IV) (ih:Aa) (x21 x5 x13 x17:IV):OH :=
 Ag 3 x9 h22 fun x101 _=>Ah [] false false ih 38 [x21,x101,.fv (.int .i64 2)] h22 fun x103 h104 _ _=>AD 13639683 (.row [.fv (.int .i64 0),.fv (.int .i64 0),.nils] false) (.ptr (.own 13639683) 0) h104 fun x107 h108 _ _=>Af 3 x107 x103 h108 fun h111 _ _=>Ag 3 x107 h111 fun x114 _=>WE h111 x5 ih x21 x114 x107 x13 x17
def S13 (ih:Aa) (n:Nat) (x0 x1 x2 x3:IV) (h4:Hp):OH :=
 AX 13631488 x1 h4 fun x5 h6 _ _=>AX 13631489 x2 h6 fun x9 h10 _ _=>AD 13631491 (.row [.fv (.int .i64 0),.fv (.int .i64 0),.nils] false) (.ptr (.own 13631491) 0) h10 fun x13 h14 _ _=>AD 13631492 (.row [.fv (.int .i64 0),.fv (.int .i64 0),.nils] false) (.ptr (.own 13631492) 0) h14 fun x17 h18 _ _=>Ah [] false false ih 37 [x0] h18 fun x21 h22 _ _=>Ai x3 (Xm h22 x9 ih x5 x21 x13 x17) (Ack h22 x9 ih x21 x5 x13 x17)
theorem Aob (ih:Aa) (n:Nat) (x0 x1 x2 x3:IV) (h4:Hp):Aw EE ih ft.get n 13 [x0,x1,x2,x3] h4=S13 ih n x0 x1 x2 x3 h4:=by kernel_rfl
def V0 (h22:Hp) (x6 x26 x17:IV):OH :=
 Af 3 x6 x26 h22 fun h27 _ _=>As true 3 x6 h27 fun x30=>Al [x30,x17] h27
def Vr (h22:Hp) (x6 x31:IV):OH :=
 Af 3 x6 x31 h22 fun h33 _ _=>As true 3 x6 h33 fun x36=>Al [x36,.fv (.int .i64 0)] h33
def VV (h13:Hp) (x16 x17 x6:IV):OH :=
 AD 14681093 (.row [.fv (.int .i64 0),.fv (.int .i64 0),.nils] false) (.ptr (.own 14681093) 0) h13 fun x18 h19 _ _=>Af 3 x18 x16 h19 fun h22 _ _=>Ch EE 3 x17 (.fv (.int .i64 0)) fun x25=>Ai x25 (Bw [.fv (.int .i64 0),.fv (.int .i64 0),.nils] [] fun x26=>V0 h22 x6 x26 x17) (Ag 3 x18 h22 fun x31 _=>Vr h22 x6 x31)
def S14 (ih:Aa) (n:Nat) (x0:IV) (h1:Hp):OH :=
 AX 14680064 x0 h1 fun x2 h3 _ _=>AD 14680065 (.row [.fv (.int .i64 0),.fv (.int .i64 0),.nils] false) (.ptr (.own 14680065) 0) h3 fun x6 h7 _ _=>Ag 3 x2 h7 fun x10 _=>Ah [] false false ih 34 [x10] h7 fun x12 h13 _ _=>Ar 0 x12 fun x16=>Ar 1 x12 fun x17=>VV h13 x16 x17 x6
theorem Ap3 (ih:Aa) (n:Nat) (x0:IV) (h1:Hp):Aw EE ih ft.get n 14 [x0] h1=S14 ih n x0 h1:=by kernel_rfl
def S15 (ih:Aa) (n:Nat) (x0:IV) (h1:Hp):OH :=
 AN EE 3 x0 (.fv (.int .i64 17)) fun x2=>Ac x2 false h1 (fun k3=>k3 x0 h1 [] []) fun x4 h5 _ _=>Ac x2 false h5 (fun k8=>AN EE 3 x4 (.fv (.int .i64 5)) fun x9=>k8 x9 h5 [] []) fun x10 h11 _ _=>AI x2 (.fv (.bool true)) x10 fun x14=>Al [x14] h11
theorem An7 (ih:Aa) (n:Nat) (x0:IV) (h1:Hp):Aw EE ih ft.get n 15 [x0] h1=S15 ih n x0 h1:=by kernel_rfl
def Afj (h13:Hp) (x6:IV):OH :=
 Bw [.fv (.int .i64 0),.fv (.int .i64 0),.nils] [] fun x17=>Af 3 x6 x17 h13 fun h18 _ _=>As true 3 x6 h18 fun x21=>Al [x21,.fv (.int .i64 1)] h18
def Aej (h34:Hp) (x6 x38 x29:IV):OH :=
 Af 3 x6 x38 h34 fun h39 _ _=>As true 3 x6 h39 fun x42=>Al [x42,x29] h39
def AdL (h46:Hp) (x6 x50:IV):OH :=
 Af 3 x6 x50 h46 fun h51 _ _=>As true 3 x6 h51 fun x54=>Al [x54,.fv (.int .i64 10)] h51
def Agn (h46:Hp) (x6 x55:IV):OH :=
 Af 3 x6 x55 h46 fun h57 _ _=>As true 3 x6 h57 fun x60=>Al [x60,.fv (.int .i64 0)] h57
def Ae6 (ih:Aa) (h34:Hp) (x43 x6 x30:IV):OH :=
 Ah [] false false ih 18 [x43] h34 fun x45 h46 _ _=>CL (LR .not x45) fun x49=>Ai x49 (Bw [.fv (.int .i64 0),.fv (.int .i64 0),.nils] [] fun x50=>AdL h46 x6 x50) (Ag 3 x30 h46 fun x55 _=>Agn h46 x6 x55)
def Aes (h31:Hp) (x30 x28 x29 x6:IV) (ih:Aa):OH :=
 Af 3 x30 x28 h31 fun h34 _ _=>Ch EE 36 x29 (.fv (.int .i64 0)) fun x37=>Ai x37 (Bw [.fv (.int .i64 0),.fv (.int .i64 0),.nils] [] fun x38=>Aej h34 x6 x38 x29) (Ag 3 x30 h34 fun x43 _=>Ae6 ih h34 x43 x6 x30)
def AfT (h13:Hp) (x2:IV) (ih:Aa) (x6:IV):OH :=
 Ag 3 x2 h13 fun x22 _=>Ah [] false false ih 41 [x22] h13 fun x24 h25 _ _=>Ar 0 x24 fun x28=>Ar 1 x24 fun x29=>AD 16780293 (.row [.fv (.int .i64 0),.fv (.int .i64 0),.nils] false) (.ptr (.own 16780293) 0) h25 fun x30 h31 _ _=>Aes h31 x30 x28 x29 x6 ih
def S16 (ih:Aa) (n:Nat) (x0:IV) (h1:Hp):OH :=
 AX 16777216 x0 h1 fun x2 h3 _ _=>AD 16777217 (.row [.fv (.int .i64 0),.fv (.int .i64 0),.nils] false) (.ptr (.own 16777217) 0) h3 fun x6 h7 _ _=>Ag 3 x2 h7 fun x10 _=>Ah [] false false ih 40 [x10] h7 fun x12 h13 _ _=>Ch EE 36 x12 (.fv (.int .i64 0)) fun x16=>Ai x16 (Afj h13 x6) (AfT h13 x2 ih x6)
theorem Aoy (ih:Aa) (n:Nat) (x0:IV) (h1:Hp):Aw EE ih ft.get n 16 [x0] h1=S16 ih n x0 h1:=by kernel_rfl
def FR (x101:IV) (q96:List IV→Hp→OH) (h120:Hp) (x99 x100:IV):OH :=
 Bp EE 3 x101 (.fv (.int .i64 1)) fun x124=>q96 [x99,x100,x124] h120
def Gp (r118 r112 r109:AC) (ih:Aa) (h98:Hp) (x111 x117 x101:IV) (q96:List IV→Hp→OH) (x99 x100:IV):OH :=
 Ad [(r112,[]),(r109,[])] r118 [] (Ah [] false false ih 17 [x111,x117] h98 fun x119 h120 r121 w122=>Ad [] r121 w122 (CL (LR .not x119) fun x123=>Ai x123 (Al [.fv (.bool false)] h120) (FR x101 q96 h120 x99 x100)))
def Gq (x100:IV) (h98:Hp) (r112 r109:AC) (x101:IV) (ih:Aa) (x111:IV) (q96:List IV→Hp→OH) (x99:IV):OH :=
 Ab 2 x100 fun x113=>Ae x113 h98 fun x114 r115=>Ad [(r112,[]),(r109,[])] r115 [] (AT 3 x114 x101 fun x116=>Ag 3 x116 h98 fun x117 r118=>Gp r118 r112 r109 ih h98 x111 x117 x101 q96 x99 x100)
def FU (h98:Hp) (x107 x101 x100:IV) (ih:Aa) (q96:List IV→Hp→OH) (x99:IV):OH :=
 Ae x107 h98 fun x108 r109=>Ad [] r109 [] (AT 3 x108 x101 fun x110=>Ag 3 x110 h98 fun x111 r112=>Ad [] r112 [] (Gq x100 h98 r112 r109 x101 ih x111 q96 x99))
def FW (x103 x101 x99:IV) (h98:Hp) (x100:IV) (ih:Aa) (q96:List IV→Hp→OH):OH :=
 B0 x103 fun x105=>F8 EE 3 x101 x105 fun x106=>Ai x106 (Ab 2 x99 fun x107=>FU h98 x107 x101 x100 ih q96 x99) (Al [.fv (.bool true)] h98)
def MJ (l97:List IV) (h98:Hp) (ih:Aa) (q96:List IV→Hp→OH):OH :=
 AA l97 fun x99 l125=>AA l125 fun x100 l126=>AA l126 fun x101 _=>Ab 2 x99 fun x102=>Ae x102 h98 fun x103 _=>FW x103 x101 x99 h98 x100 ih q96
def Gb (x95:IV) (h92:Hp) (n:Nat) (x3 x7:IV) (ih:Aa):OH :=
 Ai x95 (Al [.fv (.bool false)] h92) (By n (fun q96 l97 h98=>MJ l97 h98 ih q96) [x3,x7,.fv (.int .i64 0)] h92)
def F6 (h67:Hp) (x50 x7 x66:IV) (n:Nat) (x3:IV) (ih:Aa):OH :=
 Ac x50 false h67 (fun k70=>Ab 2 x7 fun x71=>k70 x71 h67 [] []) fun x72 h73 _ _=>Ac x50 false h73 (fun k76=>Ae x72 h73 fun x77 r78=>k76 x77 h73 r78 []) fun x79 h80 _ _=>Ac x50 false h80 (fun k83=>B0 x79 fun x84=>k83 x84 h80 [] []) fun x85 h86 _ _=>Ac x50 false h86 (fun k89=>Ch EE 3 x66 x85 fun x90=>k89 x90 h86 [] []) fun x91 h92 _ _=>AI x50 (.fv (.bool true)) x91 fun x95=>Gb x95 h92 n x3 x7 ih
def Gf (h41:Hp) (x17 x27 x40 x3 x7:IV) (n:Nat) (ih:Aa):OH :=
 Ac x17 false h41 (fun k44=>Ch EE 3 x27 x40 fun x45=>k44 x45 h41 [] []) fun x46 h47 _ _=>AI x17 (.fv (.bool true)) x46 fun x50=>Ac x50 false h47 (fun k51=>Ab 2 x3 fun x52=>k51 x52 h47 [] []) fun x53 h54 _ _=>Ac x50 false h54 (fun k57=>Ae x53 h54 fun x58 r59=>k57 x58 h54 r59 []) fun x60 h61 _ _=>Ac x50 false h61 (fun k64=>B0 x60 fun x65=>k64 x65 h61 [] []) fun x66 h67 _ _=>F6 h67 x50 x7 x66 n x3 ih
def Gi (x12 x15:IV) (h8:Hp) (x3 x7:IV) (n:Nat) (ih:Aa):OH :=
 Ch EE 3 x12 x15 fun x17=>Ac x17 false h8 (fun k18=>Ab 1 x3 fun x19=>k18 x19 h8 [] []) fun x20 h21 _ _=>Ac x17 false h21 (fun k24=>Ae x20 h21 fun x25 r26=>k24 x25 h21 r26 []) fun x27 h28 _ _=>Ac x17 false h28 (fun k31=>Ab 1 x7 fun x32=>k31 x32 h28 [] []) fun x33 h34 _ _=>Ac x17 false h34 (fun k37=>Ae x33 h34 fun x38 r39=>k37 x38 h34 r39 []) fun x40 h41 _ _=>Gf h41 x17 x27 x40 x3 x7 n ih
def S17 (ih:Aa) (n:Nat) (x0 x1:IV) (h2:Hp):OH :=
 AX 17825792 x0 h2 fun x3 h4 _ _=>AX 17825793 x1 h4 fun x7 h8 _ _=>Ab 0 x3 fun x11=>Ae x11 h8 fun x12 _=>Ab 0 x7 fun x14=>Ae x14 h8 fun x15 _=>Gi x12 x15 h8 x3 x7 n ih
theorem Am7 (ih:Aa) (n:Nat) (x0 x1:IV) (h2:Hp):Aw EE ih ft.get n 17 [x0,x1] h2=S17 ih n x0 x1 h2:=by kernel_rfl
def S18 (ih:Aa) (n:Nat) (x0:IV) (h1:Hp):OH :=
 AX 18874368 x0 h1 fun x2 h3 _ _=>Bw [.fv (.int .i64 0),.fv (.int .i64 0)] [(0,1,.fv (.int .i64 20)),(1,1,.fv (.int .i64 29))] fun x6=>Ag 3 x2 h3 fun x7 _=>Ah [] false false ih 42 [x6,x7] h3 fun x9 h10 _ _=>Al [x9] h10
theorem AnV (ih:Aa) (n:Nat) (x0:IV) (h1:Hp):Aw EE ih ft.get n 18 [x0] h1=S18 ih n x0 h1:=by kernel_rfl
def Aje (ih:Aa) (h9:Hp) (x8:IV):OH :=
 Ah [] false false ih 44 [.fv (.int .i64 8)] h9 fun x21 h22 _ _=>Ar 0 x21 fun x25=>Ar 1 x21 fun x26=>Af 3 x8 x25 h22 fun h27 _ _=>As true 3 x8 h27 fun x30=>Al [x30,x26] h27
def Ahs (x51:IV) (h52:Hp) (x8:IV):OH :=
 Ar 0 x51 fun x55=>Ar 1 x51 fun x56=>Af 3 x8 x55 h52 fun h57 _ _=>As true 3 x8 h57 fun x60=>Al [x60,x56] h57
def AlC (ih:Aa) (h69:Hp) (x68 x8:IV):OH :=
 Ah [] false false ih 34 [x68] h69 fun x72 h73 _ _=>Ar 0 x72 fun x76=>Ar 1 x72 fun x77=>Af 3 x8 x76 h73 fun h78 _ _=>As true 3 x8 h78 fun x81=>Al [x81,x77] h78
def AjN (h44:Hp) (x61 x4:IV) (ih:Aa) (x8:IV):OH :=
 Ag 3 x61 h44 fun x62 _=>Ab 1 x4 fun x64=>Ae x64 h44 fun x65 _=>Bp EE 3 x65 (.fv (.int .i64 1)) fun x67=>Ah [] false false ih 45 [x62,x67,.fv (.int .i64 0)] h44 fun x68 h69 _ _=>AlC ih h69 x68 x8
def Ah3 (h44:Hp) (x47 x1:IV) (ih:Aa) (x8 x40 x4:IV):OH :=
 Ae x47 h44 fun x48 _=>Ch EE 3 x48 x1 fun x50=>Ai x50 (Ah [] false false ih 44 [.fv (.int .i64 10)] h44 fun x51 h52 _ _=>Ahs x51 h52 x8) (Ab 1 x40 fun x61=>AjN h44 x61 x4 ih x8)
def Aml (x0 x36:IV) (h9:Hp) (x1:IV) (ih:Aa) (x8 x4:IV):OH :=
 AT 4 x0 x36 fun x37=>Ag 4 x37 h9 fun x38 _=>AD 20975625 (.row [.fv (.int .i64 0),.fv (.int .i64 0),.fv (.int .i64 0),.nils] false) (.ptr (.own 20975625) 0) h9 fun x40 h41 _ _=>Af 4 x40 x38 h41 fun h44 _ _=>Ab 0 x40 fun x47=>Ah3 h44 x47 x1 ih x8 x40 x4
def Aif (x0 x4:IV) (h9:Hp) (x1:IV) (ih:Aa) (x8:IV):OH :=
 B0 x0 fun x31=>Bd EE 3 x31 (.fv (.int .i64 1)) fun x32=>Ab 1 x4 fun x33=>Ae x33 h9 fun x34 _=>Bd EE 3 x32 x34 fun x36=>Aml x0 x36 h9 x1 ih x8 x4
def Aho (x4:IV) (h9:Hp) (x0:IV) (ih:Aa) (x8 x1:IV):OH :=
 Ab 1 x4 fun x16=>Ae x16 h9 fun x17 _=>B0 x0 fun x19=>Uv EE 3 x17 x19 fun x20=>Ai x20 (Aje ih h9 x8) (Aif x0 x4 h9 x1 ih x8)
def AlB (x88:IV) (h89:Hp) (x8 x92:IV):OH :=
 Ar 1 x88 fun x93=>Af 3 x8 x92 h89 fun h94 _ _=>As true 3 x8 h94 fun x97=>Al [x97,x93] h94
def Aku (h107:Hp) (x8 x106:IV):OH :=
 As true 3 x8 h107 fun x110=>Al [x110,x106] h107
def Alj (h9:Hp) (x4:IV) (ih:Aa) (x0 x8:IV):OH :=
 Ag 3 x4 h9 fun x99 _=>Ah [] false false ih 46 [x0,x99] h9 fun x101 h102 _ _=>Ar 0 x101 fun x105=>Ar 1 x101 fun x106=>Af 3 x8 x105 h102 fun h107 _ _=>Aku h107 x8 x106
def Akq (x119:IV) (h120:Hp) (x8:IV):OH :=
 Ar 0 x119 fun x123=>Ar 1 x119 fun x124=>Af 3 x8 x123 h120 fun h125 _ _=>As true 3 x8 h125 fun x128=>Al [x128,x124] h125
def Aj5 (h9:Hp) (x129:IV) (ih:Aa) (x8:IV):OH :=
 Ae x129 h9 fun x130 _=>Bp EE 3 x130 (.fv (.int .i64 1)) fun x132=>Ah [] false false ih 47 [x132] h9 fun x133 h134 _ _=>Af 3 x8 x133 h134 fun h137 _ _=>As true 3 x8 h137 fun x140=>Al [x140,.fv (.int .i64 0)] h137
def Akc (h9:Hp) (x115:IV) (ih:Aa) (x8 x4:IV):OH :=
 Ae x115 h9 fun x116 _=>AN EE 3 x116 (.fv (.int .i64 2)) fun x118=>Ai x118 (Ah [] false false ih 44 [.fv (.int .i64 13)] h9 fun x119 h120 _ _=>Akq x119 h120 x8) (Ab 1 x4 fun x129=>Aj5 h9 x129 ih x8)
def AkD (h148:Hp) (x8:IV):OH :=
 As true 3 x8 h148 fun x151=>Al [x151,.fv (.int .i64 0)] h148
def Aj0 (ih:Aa) (h143:Hp) (x8:IV):OH :=
 Ah [] false false ih 24 [.fv (.int .i64 10),.nils] h143 fun x153 h154 _ _=>Af 3 x8 x153 h154 fun h157 _ _=>As true 3 x8 h157 fun x160=>Al [x160,.fv (.int .i64 0)] h157
def Akh (ih:Aa) (h173:Hp) (x172 x8:IV):OH :=
 Ah [] false false ih 44 [x172] h173 fun x177 h178 _ _=>Ar 0 x177 fun x181=>Ar 1 x177 fun x182=>Af 3 x8 x181 h178 fun h183 _ _=>As true 3 x8 h183 fun x186=>Al [x186,x182] h183
def AkG (ih:Aa) (h173:Hp) (x8:IV):OH :=
 Ah [] false false ih 24 [.fv (.int .i64 10),.nils] h173 fun x187 h188 _ _=>Af 3 x8 x187 h188 fun h191 _ _=>As true 3 x8 h191 fun x194=>Al [x194,.fv (.int .i64 0)] h191
def Alr (r170 w171 r167 r164:AC) (ih:Aa) (h169:Hp) (x0 x166 x168 x8:IV):OH :=
 Ad [(r167,[]),(r164,[])] r170 w171 (Ah [] false false ih 48 [x0,.fv (.int .i64 1),x166,x168] h169 fun x172 h173 r174 w175=>Ad [] r174 w175 (Ch EE 3 x172 (.fv (.int .i64 0)) fun x176=>Ai x176 (Akh ih h173 x172 x8) (AkG ih h173 x8)))
def AjY (r164:AC) (x163:IV) (h143:Hp) (ih:Aa) (x0 x8:IV):OH :=
 Ad [] r164 [] (AT 3 x163 (.fv (.int .i64 0)) fun x165=>Ag 3 x165 h143 fun x166 r167=>Ad [] r167 [] (Ah [] false false ih 24 [.fv (.int .i64 10),.nils] h143 fun x168 h169 r170 w171=>Alr r170 w171 r167 r164 ih h169 x0 x166 x168 x8))
def AlN (x210:IV) (h211:Hp) (x8 x214:IV):OH :=
 Ar 1 x210 fun x215=>Af 3 x8 x214 h211 fun h216 _ _=>As true 3 x8 h216 fun x219=>Al [x219,x215] h216
def Aio (h224:Hp) (x8:IV):OH :=
 As true 3 x8 h224 fun x227=>Al [x227,.fv (.int .i64 0)] h224
def Aig (x205:IV) (ih:Aa) (h206:Hp) (x8:IV):OH :=
 Ch EE 3 x205 (.fv (.int .i64 0)) fun x209=>Ai x209 (Ah [] false false ih 44 [x205] h206 fun x210 h211 _ _=>Ar 0 x210 fun x214=>AlN x210 h211 x8 x214) (Ah [] false false ih 24 [.fv (.int .i64 14),.nils] h206 fun x220 h221 _ _=>Af 3 x8 x220 h221 fun h224 _ _=>Aio h224 x8)
def Aiw (r200:AC) (ih:Aa) (h197:Hp) (x0 x199 x8:IV):OH :=
 Ad [] r200 [] (Ah [] false false ih 24 [.fv (.int .i64 14),.nils] h197 fun x201 h202 r203 w204=>Ad [(r200,[])] r203 w204 (Ah [] false false ih 49 [x0,.fv (.int .i64 1),x199,x201] h202 fun x205 h206 r207 w208=>Ad [] r207 w208 (Aig x205 ih h206 x8)))
def AhB (x244:IV) (h245:Hp) (x8 x248:IV):OH :=
 Ar 1 x244 fun x249=>Af 3 x8 x248 h245 fun h250 _ _=>As true 3 x8 h250 fun x253=>Al [x253,x249] h250
def Ahl (h258:Hp) (x8:IV):OH :=
 As true 3 x8 h258 fun x261=>Al [x261,.fv (.int .i64 0)] h258
def Aii (x239:IV) (ih:Aa) (h240:Hp) (x8:IV):OH :=
 Ch EE 3 x239 (.fv (.int .i64 0)) fun x243=>Ai x243 (Ah [] false false ih 44 [x239] h240 fun x244 h245 _ _=>Ar 0 x244 fun x248=>AhB x244 h245 x8 x248) (Ah [] false false ih 47 [.fv (.int .i64 0)] h240 fun x254 h255 _ _=>Af 3 x8 x254 h255 fun h258 _ _=>Ahl h258 x8)
def AjM (r234:AC) (ih:Aa) (h197:Hp) (r231:AC) (x0 x233 x8:IV):OH :=
 Ad [] r234 [] (Ah [] false false ih 24 [.fv (.int .i64 14),.nils] h197 fun x235 h236 r237 w238=>Ad [(r234,[]),(r231,[])] r237 w238 (Ah [] false false ih 48 [x0,.fv (.int .i64 1),x233,x235] h236 fun x239 h240 r241 w242=>Ad [] r241 w242 (Aii x239 ih h240 x8)))
def Ahp (x4:IV) (h197:Hp) (ih:Aa) (x0 x8:IV):OH :=
 Ab 2 x4 fun x229=>Ae x229 h197 fun x230 r231=>Ad [] r231 [] (AT 3 x230 (.fv (.int .i64 0)) fun x232=>Ag 3 x232 h197 fun x233 r234=>AjM r234 ih h197 r231 x0 x233 x8)
def AhN (x283:IV) (h284:Hp) (x8:IV):OH :=
 Ar 0 x283 fun x287=>Ar 1 x283 fun x288=>Af 3 x8 x287 h284 fun h289 _ _=>As true 3 x8 h289 fun x292=>Al [x292,x288] h289
def Ag5 (h279:Hp) (x293:IV) (ih:Aa) (x8:IV):OH :=
 Ay (Ak EE 28 1 [(0,x293)]) 21015553 h279 fun x295 h296 _ _=>Ah [] false false ih 24 [.fv (.int .i64 18),x295] h296 fun x299 h300 _ _=>Af 3 x8 x299 h300 fun h303 _ _=>As true 3 x8 h303 fun x306=>Al [x306,.fv (.int .i64 0)] h303
def Ak7 (h270:Hp) (x273 x274:IV) (ih:Aa) (x8:IV):OH :=
 AD 21012489 (.row [.fv (.int .i64 0),.fv (.int .i64 0),.nils] false) (.ptr (.own 21012489) 0) h270 fun x275 h276 _ _=>Af 3 x275 x273 h276 fun h279 _ _=>Ch EE 3 x274 (.fv (.int .i64 0)) fun x282=>Ai x282 (Ah [] false false ih 44 [x274] h279 fun x283 h284 _ _=>AhN x283 h284 x8) (Ag 3 x275 h279 fun x293 _=>Ag5 h279 x293 ih x8)
def Ajm (x264:IV) (h197:Hp) (ih:Aa) (x0 x8:IV):OH :=
 AT 3 x264 (.fv (.int .i64 0)) fun x266=>Ag 3 x266 h197 fun x267 _=>Ah [] false false ih 20 [x0,.fv (.int .i64 0),x267] h197 fun x269 h270 _ _=>Ar 0 x269 fun x273=>Ar 1 x269 fun x274=>Ak7 h270 x273 x274 ih x8
def AiO (x309:IV) (h310:Hp) (x8:IV):OH :=
 Ar 0 x309 fun x313=>Ar 1 x309 fun x314=>Af 3 x8 x313 h310 fun h315 _ _=>As true 3 x8 h315 fun x318=>Al [x318,x314] h315
def Aji (x112 x4:IV) (h197:Hp) (ih:Aa) (x0 x8:IV):OH :=
 AN EE 3 x112 (.fv (.int .i64 19)) fun x262=>Ai x262 (Ab 2 x4 fun x263=>Ae x263 h197 fun x264 _=>Ajm x264 h197 ih x0 x8) (Ag 3 x4 h197 fun x307 _=>Ah [] false false ih 50 [x0,x307] h197 fun x309 h310 _ _=>AiO x309 h310 x8)
def AkE (x196 x4:IV) (h197:Hp) (ih:Aa) (x0 x8 x112:IV):OH :=
 Ai x196 (Ab 2 x4 fun x198=>Ae x198 h197 fun x199 r200=>Aiw r200 ih h197 x0 x199 x8) (AN EE 3 x112 (.fv (.int .i64 18)) fun x228=>Ai x228 (Ahp x4 h197 ih x0 x8) (Aji x112 x4 h197 ih x0 x8))
def Amk (x112:IV) (j1_195:IV→Hp→OH) (h143:Hp):OH :=
 AN EE 3 x112 (.fv (.int .i64 17)) fun x321=>j1_195 x321 h143
def Aj2 (x319:IV) (j1_195:IV→Hp→OH) (h143:Hp) (x112:IV):OH :=
 Ai x319 (j1_195 x319 h143) (AN EE 3 x112 (.fv (.int .i64 16)) fun x320=>Ai x320 (j1_195 x320 h143) (Amk x112 j1_195 h143))
def AjP (x112 x4:IV) (h143:Hp) (ih:Aa) (x0 x8:IV):OH :=
 AN EE 3 x112 (.fv (.int .i64 12)) fun x161=>Ai x161 (Ab 2 x4 fun x162=>Ae x162 h143 fun x163 r164=>AjY r164 x163 h143 ih x0 x8) ((fun (j1_195:IV→Hp→OH)=>AN EE 3 x112 (.fv (.int .i64 15)) fun x319=>Aj2 x319 j1_195 h143 x112) fun x196 h197=>AkE x196 x4 h197 ih x0 x8 x112)
def Ajq (x142:IV) (ih:Aa) (h143:Hp) (x8 x112 x4 x0:IV):OH :=
 Ai x142 (Ah [] false false ih 47 [.fv (.int .i64 0)] h143 fun x144 h145 _ _=>Af 3 x8 x144 h145 fun h148 _ _=>AkD h148 x8) (AN EE 3 x112 (.fv (.int .i64 11)) fun x152=>Ai x152 (Aj0 ih h143 x8) (AjP x112 x4 h143 ih x0 x8))
def AjR (x112:IV) (j1_141:IV→Hp→OH) (h9:Hp):OH :=
 AN EE 3 x112 (.fv (.int .i64 10)) fun x322=>Ai x322 (j1_141 x322 h9) (AN EE 3 x112 (.fv (.int .i64 14)) fun x323=>j1_141 x323 h9)
def AlV (x4:IV) (h9:Hp) (ih:Aa) (x8 x0:IV):OH :=
 Ab 0 x4 fun x111=>Ae x111 h9 fun x112 _=>AN EE 3 x112 (.fv (.int .i64 2)) fun x114=>Ai x114 (Ab 1 x4 fun x115=>Akc h9 x115 ih x8 x4) ((fun (j1_141:IV→Hp→OH)=>AjR x112 j1_141 h9) fun x142 h143=>Ajq x142 ih h143 x8 x112 x4 x0)
def AiE (x87:IV) (ih:Aa) (h9:Hp) (x8 x1 x4 x0:IV):OH :=
 Ai x87 (Ah [] false false ih 44 [.fv (.int .i64 10)] h9 fun x88 h89 _ _=>Ar 0 x88 fun x92=>AlB x88 h89 x8 x92) (AN EE 3 x1 (.fv (.int .i64 0)) fun x98=>Ai x98 (Alj h9 x4 ih x0 x8) (AlV x4 h9 ih x8 x0))
def AjW (x4:IV) (h9:Hp) (x1:IV) (ih:Aa) (x8 x0:IV):OH :=
 Ab 0 x4 fun x82=>Ae x82 h9 fun x83 _=>Uv EE 3 x83 (.fv (.int .i64 20)) fun x85=>AN EE 3 x1 (.fv (.int .i64 0)) fun x86=>Ch EE 4 x85 x86 fun x87=>AiE x87 ih h9 x8 x1 x4 x0
def S20 (ih:Aa) (n:Nat) (x0 x1 x2:IV) (h3:Hp):OH :=
 AX 20971520 x2 h3 fun x4 h5 _ _=>AD 20971521 (.row [.fv (.int .i64 0),.fv (.int .i64 0),.nils] false) (.ptr (.own 20971521) 0) h5 fun x8 h9 _ _=>Ab 0 x4 fun x12=>Ae x12 h9 fun x13 _=>AN EE 3 x13 (.fv (.int .i64 1)) fun x15=>Ai x15 (Aho x4 h9 x0 ih x8 x1) (AjW x4 h9 x1 ih x8 x0)
theorem Aqy (ih:Aa) (n:Nat) (x0 x1 x2:IV) (h3:Hp):Aw EE ih ft.get n 20 [x0,x1,x2] h3=S20 ih n x0 x1 x2 h3:=by kernel_rfl
def H3 (x42:IV) (h3 h76:Hp) (x36 x37 x38 x39 x40 x41:IV) (q33:List IV→Hp→OH):OH :=
 Bp EE 3 x42 (.fv (.int .i64 1)) fun x79=>Bs (h3.own.map (·.1)) [22037518] [x36,x37,x38,x39,x40,x41,x79] h76 fun h80=>q33 [x36,x37,x38,x39,x40,x41,x79] h80
def IG (h68:Hp) (x49 x67 x41 x42:IV) (h3:Hp) (x36 x37 x38 x39 x40:IV) (q33:List IV→Hp→OH):OH :=
 Ay (AS EE 22037518 false .append [28,28] [x49,x67]) 22037518 h68 fun x71 h72 r73 w74=>Ad [] r73 w74 (Ab 2 x41 fun x75=>A9 x75 x71 h72 fun h76 r77 w78=>Ad [] r77 w78 (H3 x42 h3 h76 x36 x37 x38 x39 x40 x41 q33))
def IX (x37 x58:IV) (ih:Aa) (h59:Hp) (x53 x57:IV) (r50:AC) (x49 x41 x42:IV) (h3:Hp) (x36 x38 x39 x40:IV) (q33:List IV→Hp→OH):OH :=
 Bp EE 3 x37 x58 fun x62=>Ah [] false false ih 21 [x53,x57,x62] h59 fun x63 h64 r65 w66=>Ad [(r50,[])] r65 w66 (Ay (Ak EE 28 1 [(0,x63)]) 22037517 h64 fun x67 h68 r69 w70=>Ad [(r50,[])] r69 w70 (IG h68 x49 x67 x41 x42 h3 x36 x37 x38 x39 x40 q33))
def HZ (ih:Aa) (h44:Hp) (x51 x42:IV) (r50:AC) (x36 x40 x37 x49 x41:IV) (h3:Hp) (x38 x39:IV) (q33:List IV→Hp→OH):OH :=
 Ah [] false false ih 53 [x51,x42] h44 fun x53 h54 r55 w56=>Ad [(r50,[])] r55 w56 (Bd EE 3 x36 (.fv (.int .i64 1)) fun x57=>Ah [] false false ih 54 [x40,x42] h54 fun x58 h59 r60 w61=>Ad [(r50,[])] r60 w61 (IX x37 x58 ih h59 x53 x57 r50 x49 x41 x42 h3 x36 x38 x39 x40 q33))
def In (x41:IV) (h44:Hp) (x38:IV) (ih:Aa) (x42 x36 x40 x37:IV) (h3:Hp) (x39:IV) (q33:List IV→Hp→OH):OH :=
 Ab 2 x41 fun x48=>Ae x48 h44 fun x49 r50=>Ad [] r50 [] (Ag 3 x38 h44 fun x51 r52=>Ad [(r50,[])] r52 [] (HZ ih h44 x51 x42 r50 x36 x40 x37 x49 x41 h3 x38 x39 q33))
def Ik (h44:Hp) (x41 x39:IV):OH :=
 Ag 3 x41 h44 fun x81 _=>Af 3 x39 x81 h44 fun h83 _ _=>As true 3 x39 h83 fun x86=>Al [x86] h83
def H4 (l91:List IV) (ih:Aa) (h35:Hp) (x40 x38 x36 x37:IV) (h3:Hp) (x39:IV) (q33:List IV→Hp→OH):OH :=
 AA l91 fun x41 l92=>AA l92 fun x42 _=>Ah [] false false ih 52 [x40] h35 fun x43 h44 _ _=>F8 EE 3 x42 x43 fun x47=>Ai x47 (In x41 h44 x38 ih x42 x36 x40 x37 h3 x39 q33) (Ik h44 x41 x39)
def If (l34:List IV) (ih:Aa) (h35 h3:Hp) (q33:List IV→Hp→OH):OH :=
 AA l34 fun x36 l87=>AA l87 fun x37 l88=>AA l88 fun x38 l89=>AA l89 fun x39 l90=>AA l90 fun x40 l91=>H4 l91 ih h35 x40 x38 x36 x37 h3 x39 q33
def It (h3 h32:Hp) (x1 x2 x4 x8 x21 x24:IV) (n:Nat) (ih:Aa):OH :=
 Bs (h3.own.map (·.1)) [22037518] [x1,x2,x4,x8,x21,x24,.fv (.int .i64 0)] h32 fun h94=>By n (fun q33 l34 h35=>If l34 ih h35 h3 q33) [x1,x2,x4,x8,x21,x24,.fv (.int .i64 0)] h94
def I4 (x2:IV) (ih:Aa) (h28:Hp) (x97 x24:IV) (j0_31:Hp→OH):OH :=
 Bp EE 3 x2 (.fv (.int .i64 1)) fun x99=>Ah [] false false ih 51 [x97,x99] h28 fun x100 h101 _ _=>Ab 1 x24 fun x104=>A9 x104 x100 h101 fun h105 _ _=>j0_31 h105
def Im (x4:IV) (h28:Hp) (ih:Aa) (x24:IV) (j0_31:Hp→OH):OH :=
 Ab 1 x4 fun x109=>Ae x109 h28 fun x110 _=>Ah [] false false ih 51 [x110,.fv (.int .i64 3)] h28 fun x112 h113 _ _=>Ab 1 x24 fun x116=>A9 x116 x112 h113 fun h117 _ _=>j0_31 h117
def HV (ih:Aa) (h28:Hp) (x122 x24:IV) (j0_31:Hp→OH):OH :=
 Ah [] false false ih 51 [x122,.fv (.int .i64 5)] h28 fun x124 h125 _ _=>Ab 1 x24 fun x128=>A9 x128 x124 h125 fun h129 _ _=>j0_31 h129
def Iu (x4:IV) (h28:Hp) (x24:IV) (j0_31:Hp→OH):OH :=
 Ab 1 x4 fun x133=>Ae x133 h28 fun x134 _=>Ab 1 x24 fun x136=>A9 x136 x134 h28 fun h137 _ _=>j0_31 h137
def HN (x21 x4:IV) (h28:Hp) (ih:Aa) (x24:IV) (j0_31:Hp→OH):OH :=
 AN EE 3 x21 (.fv (.int .i64 26)) fun x120=>Ai x120 (Ab 1 x4 fun x121=>Ae x121 h28 fun x122 _=>HV ih h28 x122 x24 j0_31) (AN EE 3 x21 (.fv (.int .i64 25)) fun x132=>Ai x132 (Iu x4 h28 x24 j0_31) (j0_31 h28))
def Ie (x95 x4:IV) (h28:Hp) (x2:IV) (ih:Aa) (x24:IV) (j0_31:Hp→OH) (x21:IV):OH :=
 Ai x95 (Ab 1 x4 fun x96=>Ae x96 h28 fun x97 _=>I4 x2 ih h28 x97 x24 j0_31) (AN EE 3 x21 (.fv (.int .i64 2)) fun x108=>Ai x108 (Im x4 h28 ih x24 j0_31) (HN x21 x4 h28 ih x24 j0_31))
def GY (x21:IV) (h22 h3:Hp) (x1 x2 x4 x8:IV) (n:Nat) (ih:Aa):OH :=
 Bw [.fv (.int .i64 0),.fv (.int .i64 0),.nils] [(0,1,x21)] fun x23=>AD 22024194 (.row [.fv (.int .i64 0),.fv (.int .i64 0),.nils] false) (.ptr (.own 22024194) 0) h22 fun x24 h25 _ _=>Af 3 x24 x23 h25 fun h28 _ _=>(fun (j0_31:Hp→OH)=>AN EE 3 x21 (.fv (.int .i64 1)) fun x95=>Ie x95 x4 h28 x2 ih x24 j0_31 x21) fun h32=>It h3 h32 x1 x2 x4 x8 x21 x24 n ih
def E0 (h159:Hp) (x162:IV) (ih:Aa) (x158:IV) (j1_20:IV→Hp→OH):OH :=
 Ae x162 h159 fun x163 _=>Ah [] false false ih 51 [x163,.fv (.int .i64 5)] h159 fun x165 h166 _ _=>AT 1 x158 x165 fun x169=>Ae x169 h166 fun x170 _=>j1_20 x170 h166
def Fb (x140 x153:IV) (h154:Hp) (x4:IV) (ih:Aa) (j1_20:IV→Hp→OH) (x19:IV):OH :=
 AI x140 x153 (.fv (.bool false)) fun x157=>Ai x157 (Ay (Ak EE 75 5 [(0,.fv (.int .i64 1)),(1,.fv (.int .i64 11)),(2,.fv (.int .i64 25)),(3,.fv (.int .i64 15)),(4,.fv (.int .i64 10))]) 22023168 h154 fun x158 h159 _ _=>Ab 0 x4 fun x162=>E0 h159 x162 ih x158 j1_20) (j1_20 x19 h154)
def Fg (h3:Hp) (x1 x2 x4 x8:IV) (n:Nat) (ih:Aa) (h16:Hp) (x19:IV):OH :=
 (fun (j1_20:IV→Hp→OH)=>leS EE 3 x1 (.fv (.int .i64 0)) fun x140=>Ac x140 true h16 (fun k141=>k141 x19 h16 [] []) fun x142 h143 _ _=>Ac x140 true h143 (fun k146=>Ah [] false false ih 52 [x142] h143 k146) fun x147 h148 _ _=>Ac x140 true h148 (fun k151=>Ke EE 3 x147 (.fv (.int .i64 0)) fun x152=>k151 x152 h148 [] []) fun x153 h154 _ _=>Fb x140 x153 h154 x4 ih j1_20 x19) fun x21 h22=>GY x21 h22 h3 x1 x2 x4 x8 n ih
def S21 (ih:Aa) (n:Nat) (x0 x1 x2:IV) (h3:Hp):OH :=
 AX 22020096 x0 h3 fun x4 h5 _ _=>AD 22020097 (.row [.fv (.int .i64 0),.fv (.int .i64 0),.nils] false) (.ptr (.own 22020097) 0) h5 fun x8 h9 _ _=>Ab 0 x4 fun x12=>Ae x12 h9 fun x13 _=>Ah [] false false ih 51 [x13,.fv (.int .i64 30)] h9 fun x15 h16 _ _=>Bp EE 3 (.fv (.int .i64 1)) x15 fun x19=>Fg h3 x1 x2 x4 x8 n ih h16 x19
theorem Aop (ih:Aa) (n:Nat) (x0 x1 x2:IV) (h3:Hp):Aw EE ih ft.get n 21 [x0,x1,x2] h3=S21 ih n x0 x1 x2 h3:=by kernel_rfl
def KO (x115:IV) (q110:List IV→Hp→OH) (h134:Hp) (x113 x133:IV):OH :=
 Bp EE 3 x115 (.fv (.int .i64 1)) fun x137=>q110 [x113,x133,x137] h134
def JJ (x113:IV) (h123:Hp) (x115:IV) (ih:Aa) (q110:List IV→Hp→OH):OH :=
 Ab 2 x113 fun x127=>Ae x127 h123 fun x128 _=>AT 3 x128 x115 fun x130=>Ag 3 x130 h123 fun x131 _=>Ah [] false false ih 22 [x131] h123 fun x133 h134 _ _=>KO x115 q110 h134 x113 x133
def Kx (x117 x115:IV) (h112:Hp) (x114 x113:IV) (ih:Aa) (q110:List IV→Hp→OH):OH :=
 B0 x117 fun x119=>F8 EE 3 x115 x119 fun x120=>Ac x120 true h112 (fun k121=>k121 x114 h112 [] []) fun x122 h123 _ _=>AI x120 x122 (.fv (.bool false)) fun x126=>Ai x126 (JJ x113 h123 x115 ih q110) (Al [x114] h123)
def JI (l111:List IV) (h112:Hp) (ih:Aa) (q110:List IV→Hp→OH):OH :=
 AA l111 fun x113 l138=>AA l138 fun x114 l139=>AA l139 fun x115 _=>Ab 2 x113 fun x116=>Ae x116 h112 fun x117 _=>Kx x117 x115 h112 x114 x113 ih q110
def JO (h93:Hp) (x89 x92:IV) (n:Nat) (x2:IV) (ih:Aa):OH :=
 Ac x89 false h93 (fun k96=>Ae x92 h93 fun x97 r98=>k96 x97 h93 r98 []) fun x99 h100 _ _=>Ac x89 false h100 (fun k103=>AN EE 3 x99 (.fv (.int .i64 17)) fun x104=>k103 x104 h100 [] []) fun x105 h106 _ _=>AI x89 (.fv (.bool true)) x105 fun x109=>By n (fun q110 l111 h112=>JI l111 h112 ih q110) [x2,x109,.fv (.int .i64 0)] h106
def Kt (h66:Hp) (x69 x2:IV) (n:Nat) (ih:Aa):OH :=
 Ac x69 false h66 (fun k70=>Ab 0 x2 fun x71=>k70 x71 h66 [] []) fun x72 h73 _ _=>Ac x69 false h73 (fun k76=>Ae x72 h73 fun x77 r78=>k76 x77 h73 r78 []) fun x79 h80 _ _=>Ac x69 false h80 (fun k83=>AN EE 3 x79 (.fv (.int .i64 16)) fun x84=>k83 x84 h80 [] []) fun x85 h86 _ _=>AI x69 (.fv (.bool true)) x85 fun x89=>Ac x89 false h86 (fun k90=>Ab 0 x2 fun x91=>k90 x91 h86 [] []) fun x92 h93 _ _=>JO h93 x89 x92 n x2 ih
def KB (x29 x45:IV) (h46:Hp) (x2:IV) (n:Nat) (ih:Aa):OH :=
 AI x29 (.fv (.bool true)) x45 fun x49=>Ac x49 false h46 (fun k50=>Ab 0 x2 fun x51=>k50 x51 h46 [] []) fun x52 h53 _ _=>Ac x49 false h53 (fun k56=>Ae x52 h53 fun x57 r58=>k56 x57 h53 r58 []) fun x59 h60 _ _=>Ac x49 false h60 (fun k63=>AN EE 3 x59 (.fv (.int .i64 15)) fun x64=>k63 x64 h60 [] []) fun x65 h66 _ _=>AI x49 (.fv (.bool true)) x65 fun x69=>Kt h66 x69 x2 n ih
def Kn (h20:Hp) (x9 x19 x2:IV) (n:Nat) (ih:Aa):OH :=
 Ac x9 true h20 (fun k23=>F8 EE 3 x19 (.fv (.int .i64 30)) fun x24=>k23 x24 h20 [] []) fun x25 h26 _ _=>AI x9 x25 (.fv (.bool false)) fun x29=>Ac x29 false h26 (fun k30=>Ab 0 x2 fun x31=>k30 x31 h26 [] []) fun x32 h33 _ _=>Ac x29 false h33 (fun k36=>Ae x32 h33 fun x37 r38=>k36 x37 h33 r38 []) fun x39 h40 _ _=>Ac x29 false h40 (fun k43=>AN EE 3 x39 (.fv (.int .i64 1)) fun x44=>k43 x44 h40 [] []) fun x45 h46 _ _=>KB x29 x45 h46 x2 n ih
def S22 (ih:Aa) (n:Nat) (x0:IV) (h1:Hp):OH :=
 AX 23068672 x0 h1 fun x2 h3 _ _=>Ab 0 x2 fun x6=>Ae x6 h3 fun x7 _=>Uv EE 3 x7 (.fv (.int .i64 20)) fun x9=>Ac x9 true h3 (fun k10=>Ab 0 x2 fun x11=>k10 x11 h3 [] []) fun x12 h13 _ _=>Ac x9 true h13 (fun k16=>Ae x12 h13 fun x17 r18=>k16 x17 h13 r18 []) fun x19 h20 _ _=>Kn h20 x9 x19 x2 n ih
theorem AnQ (ih:Aa) (n:Nat) (x0:IV) (h1:Hp):Aw EE ih ft.get n 22 [x0] h1=S22 ih n x0 h1:=by kernel_rfl
def S24 (ih:Aa) (n:Nat) (x0 x1:IV) (h2:Hp):OH :=
 AD 25165824 (.row [.fv (.int .i64 0),.fv (.int .i64 0),.nils] false) (.ptr (.own 25165824) 0) h2 fun x3 h4 _ _=>Bw [.fv (.int .i64 0),.fv (.int .i64 0),.nils] [(0,1,x0),(2,1,x1)] fun x7=>Af 3 x3 x7 h4 fun h8 _ _=>As true 3 x3 h8 fun x11=>Al [x11] h8
theorem Aph (ih:Aa) (n:Nat) (x0 x1:IV) (h2:Hp):Aw EE ih ft.get n 24 [x0,x1] h2=S24 ih n x0 x1 h2:=by kernel_rfl
def S25 (ih:Aa) (n:Nat) (x0:IV) (h1:Hp):OH :=
 AD 26214400 (.row [.fv (.int .i64 0),.fv (.int .i64 0),.nils] false) (.ptr (.own 26214400) 0) h1 fun x2 h3 _ _=>Bw [.fv (.int .i64 0),.fv (.int .i64 0),.nils] [(0,1,.fv (.int .i64 1)),(1,1,x0)] fun x6=>Af 3 x2 x6 h3 fun h7 _ _=>As true 3 x2 h7 fun x10=>Al [x10] h7
theorem Aqj (ih:Aa) (n:Nat) (x0:IV) (h1:Hp):Aw EE ih ft.get n 25 [x0] h1=S25 ih n x0 h1:=by kernel_rfl
def S26 (ih:Aa) (n:Nat) (x0:IV) (h1:Hp):OH :=
 AD 27262976 (.row [.fv (.int .i64 0),.fv (.int .i64 0),.nils] false) (.ptr (.own 27262976) 0) h1 fun x2 h3 _ _=>Bw [.fv (.int .i64 0),.fv (.int .i64 0),.nils] [(0,1,.fv (.int .i64 25)),(1,1,x0)] fun x6=>Af 3 x2 x6 h3 fun h7 _ _=>As true 3 x2 h7 fun x10=>Al [x10] h7
theorem Aoo (ih:Aa) (n:Nat) (x0:IV) (h1:Hp):Aw EE ih ft.get n 26 [x0] h1=S26 ih n x0 h1:=by kernel_rfl
def Sx (ih:Aa) (h28:Hp) (x27 x22 x23:IV) (q17:List IV→Hp→OH) (x20 x21:IV):OH :=
 Ah [] false false ih 24 [.fv (.int .i64 12),x27] h28 fun x31 h32 _ _=>Af 3 x22 x31 h32 fun h35 _ _=>Bp EE 3 x23 (.fv (.int .i64 1)) fun x38=>q17 [x20,x21,x22,x38] h35
def RI (h41:Hp) (x21:IV):OH :=
 As true 3 x21 h41 fun x44=>Al [x44] h41
def QT (x24:IV) (h19:Hp) (x22:IV) (ih:Aa) (x23:IV) (q17:List IV→Hp→OH) (x20 x21:IV):OH :=
 Ai x24 (Ag 3 x22 h19 fun x25 _=>Ay (Ak EE 28 1 [(0,x25)]) 28316673 h19 fun x27 h28 _ _=>Sx ih h28 x27 x22 x23 q17 x20 x21) (Ag 3 x22 h19 fun x39 _=>Af 3 x21 x39 h19 fun h41 _ _=>RI h41 x21)
def Uz (l18:List IV) (h19:Hp) (ih:Aa) (q17:List IV→Hp→OH):OH :=
 AA l18 fun x20 l45=>AA l45 fun x21 l46=>AA l46 fun x22 l47=>AA l47 fun x23 _=>F8 EE 3 x23 x20 fun x24=>QT x24 h19 x22 ih x23 q17 x20 x21
def S27 (ih:Aa) (n:Nat) (x0:IV) (h1:Hp):OH :=
 AD 28311552 (.row [.fv (.int .i64 0),.fv (.int .i64 0),.nils] false) (.ptr (.own 28311552) 0) h1 fun x2 h3 _ _=>Ah [] false false ih 24 [.fv (.int .i64 11),.nils] h3 fun x6 h7 _ _=>AD 28312577 (.row [.fv (.int .i64 0),.fv (.int .i64 0),.nils] false) (.ptr (.own 28312577) 0) h7 fun x10 h11 _ _=>Af 3 x10 x6 h11 fun h14 _ _=>By n (fun q17 l18 h19=>Uz l18 h19 ih q17) [x0,x2,x10,.fv (.int .i64 0)] h14
theorem Aqn (ih:Aa) (n:Nat) (x0:IV) (h1:Hp):Aw EE ih ft.get n 27 [x0] h1=S27 ih n x0 h1:=by kernel_rfl
def P8 (h32:Hp) (x7 x31:IV):OH :=
 Af 3 x7 x31 h32 fun h35 _ _=>As true 3 x7 h35 fun x38=>Al [x38] h35
def PG (r72 w73:AC) (h71:Hp) (x7:IV):OH :=
 Ad [] r72 w73 (As true 3 x7 h71 fun x74=>Al [x74] h71)
def Sv (h60:Hp) (x48 x59:IV) (ih:Aa) (x40 x7:IV):OH :=
 Ay (Ak EE 28 2 [(0,x48),(1,x59)]) 29364237 h60 fun x63 h64 r65 w66=>Ad [] r65 w66 (Ah [] false false ih 24 [x40,x63] h64 fun x67 h68 r69 w70=>Ad [] r69 w70 (Af 3 x7 x67 h68 fun h71 r72 w73=>PG r72 w73 h71 x7))
def R6 (ih:Aa) (h49:Hp) (x52 x1 x48 x40 x7:IV):OH :=
 Ah [] false false ih 56 [x52,.fv (.int .i64 1)] h49 fun x54 h55 r56 w57=>Ad [] r56 w57 (Bd EE 3 x1 (.fv (.int .i64 1)) fun x58=>Ah [] false false ih 28 [x54,x58] h55 fun x59 h60 r61 w62=>Ad [] r61 w62 (Sv h60 x48 x59 ih x40 x7))
def Se (x1:IV) (ih:Aa) (h44:Hp) (x43 x3:IV) (r45 w46 r42:AC) (x40 x7:IV):OH :=
 Bd EE 3 x1 (.fv (.int .i64 1)) fun x47=>Ah [] false false ih 28 [x43,x47] h44 fun x48 h49 r50 w51=>Ad [] r50 w51 (Ag 3 x3 h49 fun x52 r53=>Ad [(r50,w51),(r45,w46),(r42,[])] r53 [] (R6 ih h49 x52 x1 x48 x40 x7))
def Ru (x39:IV) (h27:Hp) (x3:IV) (ih:Aa) (x1 x7:IV):OH :=
 Bd EE 3 x39 (.fv (.int .i64 2)) fun x40=>Ag 3 x3 h27 fun x41 r42=>Ad [] r42 [] (Ah [] false false ih 56 [x41,.fv (.int .i64 0)] h27 fun x43 h44 r45 w46=>Ad [] r45 w46 (Se x1 ih h44 x43 x3 r45 w46 r42 x40 x7))
def Qj (h15:Hp) (x18 x14:IV) (ih:Aa) (x7 x3 x1:IV):OH :=
 Ac x18 false h15 (fun k19=>k19 x14 h15 [] []) fun x20 h21 _ _=>Ac x18 false h21 (fun k24=>F8 EE 3 x20 (.fv (.int .i64 2)) fun x25=>k24 x25 h21 [] []) fun x26 h27 _ _=>AI x18 (.fv (.bool true)) x26 fun x30=>Ai x30 (Ah [] false false ih 24 [.fv (.int .i64 15),.nils] h27 fun x31 h32 _ _=>P8 h32 x7 x31) (Bp EE 3 (.fv (.int .i64 16)) x14 fun x39=>Ru x39 h27 x3 ih x1 x7)
def S28 (ih:Aa) (n:Nat) (x0 x1:IV) (h2:Hp):OH :=
 AX 29360128 x0 h2 fun x3 h4 _ _=>AD 29360129 (.row [.fv (.int .i64 0),.fv (.int .i64 0),.nils] false) (.ptr (.own 29360129) 0) h4 fun x7 h8 _ _=>Ab 1 x3 fun x11=>Ae x11 h8 fun x12 _=>Ah [] false false ih 55 [x12,.fv (.int .i64 4)] h8 fun x14 h15 _ _=>leS EE 3 x1 (.fv (.int .i64 0)) fun x18=>Qj h15 x18 x14 ih x7 x3 x1
theorem AnL (ih:Aa) (n:Nat) (x0 x1:IV) (h2:Hp):Aw EE ih ft.get n 28 [x0,x1] h2=S28 ih n x0 x1 h2:=by kernel_rfl
def Ww (h25:Hp) (x13 x29:IV):OH :=
 Af 3 x13 x29 h25 fun h30 _ _=>As true 3 x13 h30 fun x33=>Al [x33,.fv (.bool false)] h30
def Z0 (h91:Hp) (x13 x44:IV):OH :=
 As true 3 x13 h91 fun x94=>Al [x94,x44] h91
def Zy (h126:Hp) (x13 x129 x130:IV):OH :=
 Af 3 x13 x129 h126 fun h131 _ _=>As true 3 x13 h131 fun x134=>Al [x134,x130] h131
def WB (h117:Hp) (x5 x9:IV) (ih:Aa) (x0 x3 x13:IV):OH :=
 Ag 3 x5 h117 fun x121 _=>Ag 3 x9 h117 fun x123 _=>Ah [] false false ih 59 [x0,x121,x123,x3] h117 fun x125 h126 _ _=>Ar 0 x125 fun x129=>Ar 1 x125 fun x130=>Zy h126 x13 x129 x130
def ZO (h221:Hp) (x179 x201 x13 x224:IV):OH :=
 Ac x179 true h221 (fun k225=>k225 x201 h221 [] []) fun x226 h227 _ _=>AI x179 x226 (.fv (.bool false)) fun x230=>Af 3 x13 x224 h227 fun h231 r232 w233=>Ad [] r232 w233 (As true 3 x13 h231 fun x234=>Al [x234,x230] h231)
def Ab8 (h213:Hp) (x202:IV) (r217 r214 w215 r211:AC) (x216 x212 x179 x201 x13:IV):OH :=
 Ag 3 x202 h213 fun x218 r219=>Ad [(r217,[]),(r214,w215),(r211,[])] r219 [] (Ay (Ak EE 28 2 [(0,x216),(1,x218)]) 34617349 h213 fun x220 h221 r222 w223=>Ad [(r214,w215),(r211,[])] r222 w223 (Bw [.fv (.int .i64 0),.fv (.int .i64 0),.nils] [(0,1,.fv (.int .i64 26)),(1,1,x212),(2,1,x220)] fun x224=>ZO h221 x179 x201 x13 x224))
def Wm (r211:AC) (ih:Aa) (h206:Hp) (x210 x180 x202 x179 x201 x13:IV):OH :=
 Ad [] r211 [] (Ah [] false false ih 55 [x210,.fv (.int .i64 5)] h206 fun x212 h213 r214 w215=>Ad [] r214 w215 (Ag 3 x180 h213 fun x216 r217=>Ad [(r214,w215),(r211,[])] r217 [] (Ab8 h213 x202 r217 r214 w215 r211 x216 x212 x179 x201 x13)))
def WV (r204 w205 r198 w199 r193 w194 r190 r188:AC) (h203:Hp) (x202 x200 x9:IV) (ih:Aa) (x180 x179 x201 x13:IV):OH :=
 Ad [(r198,w199),(r193,w194),(r190,[]),(r188,[])] r204 w205 (Af 3 x202 x200 h203 fun h206 r207 w208=>Ad [] r207 w208 (Ab 1 x9 fun x209=>Ae x209 h206 fun x210 r211=>Wm r211 ih h206 x210 x180 x202 x179 x201 x13))
def XG (ih:Aa) (h192:Hp) (x0 x187 x191 x195:IV) (r193 w194 r190 r188:AC) (x9 x180 x179 x13:IV):OH :=
 Ah [] false false ih 33 [x0,x187,x191,x195] h192 fun x196 h197 r198 w199=>Ad [] r198 w199 (Ar 0 x196 fun x200=>Ar 1 x196 fun x201=>AD 34616330 (.row [.fv (.int .i64 0),.fv (.int .i64 0),.nils] false) (.ptr (.own 34616330) 0) h197 fun x202 h203 r204 w205=>WV r204 w205 r198 w199 r193 w194 r190 r188 h203 x202 x200 x9 ih x180 x179 x201 x13)
def WO (h184:Hp) (x9:IV) (r188:AC) (ih:Aa) (x3 x0 x187 x180 x179 x13:IV):OH :=
 Ag 3 x9 h184 fun x189 r190=>Ad [(r188,[])] r190 [] (Ah [] false false ih 56 [x189,.fv (.int .i64 1)] h184 fun x191 h192 r193 w194=>Ad [(r188,[])] r193 w194 (Bd EE 3 x3 (.fv (.int .i64 1)) fun x195=>XG ih h192 x0 x187 x191 x195 r193 w194 r190 r188 x9 x180 x179 x13))
def Ace (r182 w183 r176 w177 r171 w172 r168 r166:AC) (h181:Hp) (x180 x178 x5 x9:IV) (ih:Aa) (x3 x0 x179 x13:IV):OH :=
 Ad [(r176,w177),(r171,w172),(r168,[]),(r166,[])] r182 w183 (Af 3 x180 x178 h181 fun h184 r185 w186=>Ad [] r185 w186 (Ag 3 x5 h184 fun x187 r188=>Ad [] r188 [] (WO h184 x9 r188 ih x3 x0 x187 x180 x179 x13)))
def Yz (ih:Aa) (h170:Hp) (x0 x165 x169 x173:IV) (r171 w172 r168 r166:AC) (x5 x9 x3 x13:IV):OH :=
 Ah [] false false ih 33 [x0,x165,x169,x173] h170 fun x174 h175 r176 w177=>Ad [] r176 w177 (Ar 0 x174 fun x178=>Ar 1 x174 fun x179=>AD 34615306 (.row [.fv (.int .i64 0),.fv (.int .i64 0),.nils] false) (.ptr (.own 34615306) 0) h175 fun x180 h181 r182 w183=>Ace r182 w183 r176 w177 r171 w172 r168 r166 h181 x180 x178 x5 x9 ih x3 x0 x179 x13)
def X4 (h161:Hp) (x9:IV) (r166:AC) (ih:Aa) (x3 x0 x165 x5 x13:IV):OH :=
 Ag 3 x9 h161 fun x167 r168=>Ad [(r166,[])] r168 [] (Ah [] false false ih 56 [x167,.fv (.int .i64 0)] h161 fun x169 h170 r171 w172=>Ad [(r166,[])] r171 w172 (Bd EE 3 x3 (.fv (.int .i64 1)) fun x173=>Yz ih h170 x0 x165 x169 x173 r171 w172 r168 r166 x5 x9 x3 x13))
def YU (ih:Aa) (h161:Hp) (x236 x13:IV):OH :=
 Ah [] false false ih 55 [x236,.fv (.int .i64 20)] h161 fun x238 h239 _ _=>Bd EE 3 x238 (.fv (.int .i64 5)) fun x242=>Ah [] false false ih 26 [x242] h239 fun x243 h244 _ _=>Af 3 x13 x243 h244 fun h247 _ _=>As true 3 x13 h247 fun x250=>Al [x250,.fv (.bool true)] h247
def AbJ (x164:IV) (h161:Hp) (x5 x9:IV) (ih:Aa) (x3 x0 x13:IV):OH :=
 Ai x164 (Ag 3 x5 h161 fun x165 r166=>Ad [] r166 [] (X4 h161 x9 r166 ih x3 x0 x165 x5 x13)) (Ab 1 x9 fun x235=>Ae x235 h161 fun x236 _=>YU ih h161 x236 x13)
def W2 (h117:Hp) (x139 x9:IV) (ih:Aa) (x5 x3 x0 x13:IV):OH :=
 Ac x139 true h117 (fun k140=>Ab 0 x9 fun x141=>k140 x141 h117 [] []) fun x142 h143 _ _=>Ac x139 true h143 (fun k146=>Ae x142 h143 fun x147 r148=>k146 x147 h143 r148 []) fun x149 h150 _ _=>Ac x139 true h150 (fun k153=>Ah [] false false ih 55 [x149,.fv (.int .i64 2)] h150 k153) fun x154 h155 _ _=>Ac x139 true h155 (fun k158=>AN EE 3 x154 (.fv (.int .i64 1)) fun x159=>k158 x159 h155 [] []) fun x160 h161 _ _=>AI x139 x160 (.fv (.bool false)) fun x164=>AbJ x164 h161 x5 x9 ih x3 x0 x13
def YZ (r309 w310:AC) (h308:Hp) (x13 x284:IV):OH :=
 Ad [] r309 w310 (As true 3 x13 h308 fun x311=>Al [x311,x284] h308)
def ZP (h289:Hp) (x296 x298:IV) (ih:Aa) (x13 x284:IV):OH :=
 Ay (Ak EE 28 2 [(0,x296),(1,x298)]) 34621445 h289 fun x300 h301 r302 w303=>Ad [] r302 w303 (Ah [] false false ih 24 [.fv (.int .i64 20),x300] h301 fun x304 h305 r306 w307=>Ad [] r306 w307 (Af 3 x13 x304 h305 fun h308 r309 w310=>YZ r309 w310 h308 x13 x284))
def ZK (x293:IV) (h289:Hp) (x285:IV) (r294:AC) (ih:Aa) (x13 x284:IV):OH :=
 AT 3 x293 (.fv (.int .i64 0)) fun x295=>Ag 3 x295 h289 fun x296 r297=>Ad [] r297 [] (Ag 3 x285 h289 fun x298 r299=>Ad [(r297,[]),(r294,[])] r299 [] (ZP h289 x296 x298 ih x13 x284))
def Zm (h286:Hp) (x285 x283 x5:IV) (ih:Aa) (x13 x284:IV):OH :=
 Af 3 x285 x283 h286 fun h289 r290 w291=>Ad [] r290 w291 (Ab 2 x5 fun x292=>Ae x292 h289 fun x293 r294=>Ad [] r294 [] (ZK x293 h289 x285 r294 ih x13 x284))
def W8 (r281 w282:AC) (x279:IV) (h280:Hp) (r276 w277 r273 r270 w271 r267 r264 r260 w261 r257 r254:AC) (x5:IV) (ih:Aa) (x13:IV):OH :=
 Ad [] r281 w282 (Ar 0 x279 fun x283=>Ar 1 x279 fun x284=>AD 34620435 (.row [.fv (.int .i64 0),.fv (.int .i64 0),.nils] false) (.ptr (.own 34620435) 0) h280 fun x285 h286 r287 w288=>Ad [(r281,w282),(r276,w277),(r273,[]),(r270,w271),(r267,[]),(r264,[]),(r260,w261),(r257,[]),(r254,[])] r287 w288 (Zm h286 x285 x283 x5 ih x13 x284))
def WL (r273 r270 w271 r267 r264 r260 w261 r257 r254:AC) (ih:Aa) (h269:Hp) (x272 x3 x258 x268 x5 x13:IV):OH :=
 Ad [(r270,w271),(r267,[]),(r264,[]),(r260,w261),(r257,[]),(r254,[])] r273 [] (Ah [] false false ih 56 [x272,.fv (.int .i64 0)] h269 fun x274 h275 r276 w277=>Ad [] r276 w277 (Bd EE 3 x3 (.fv (.int .i64 1)) fun x278=>Ah [] false false ih 33 [x258,x268,x274,x278] h275 fun x279 h280 r281 w282=>W8 r281 w282 x279 h280 r276 w277 r273 r270 w271 r267 r264 r260 w261 r257 r254 x5 ih x13))
def YG (h259:Hp) (x265:IV) (r260 w261 r257 r254:AC) (ih:Aa) (x9:IV) (r264:AC) (x3 x258 x5 x13:IV):OH :=
 Ag 3 x265 h259 fun x266 r267=>Ad [(r260,w261),(r257,[]),(r254,[])] r267 [] (Ah [] false false ih 45 [x266,.fv (.int .i64 1),.fv (.int .i64 0)] h259 fun x268 h269 r270 w271=>Ad [] r270 w271 (Ag 3 x9 h269 fun x272 r273=>WL r273 r270 w271 r267 r264 r260 w261 r257 r254 ih h269 x272 x3 x258 x268 x5 x13))
def Acd (r260 w261:AC) (x5:IV) (h259:Hp) (r257 r254:AC) (ih:Aa) (x9 x3 x258 x13:IV):OH :=
 Ad [] r260 w261 (Ab 2 x5 fun x262=>Ae x262 h259 fun x263 r264=>Ad [(r260,w261),(r257,[]),(r254,[])] r264 [] (AT 3 x263 (.fv (.int .i64 1)) fun x265=>YG h259 x265 r260 w261 r257 r254 ih x9 r264 x3 x258 x5 x13))
def Aa5 (r254:AC) (x253:IV) (h117:Hp) (ih:Aa) (x0 x5 x9 x3 x13:IV):OH :=
 Ad [] r254 [] (AT 3 x253 (.fv (.int .i64 0)) fun x255=>Ag 3 x255 h117 fun x256 r257=>Ad [] r257 [] (Ah [] false false ih 60 [x0,.fv (.int .i64 0),x256] h117 fun x258 h259 r260 w261=>Acd r260 w261 x5 h259 r257 r254 ih x9 x3 x258 x13))
def Z1 (h383:Hp) (x13 x382:IV):OH :=
 As true 3 x13 h383 fun x386=>Al [x386,x382] h383
def Ya (h362:Hp) (x365 x367:IV) (ih:Aa) (x331 x357 x13:IV):OH :=
 Ay (Ak EE 28 2 [(0,x365),(1,x367)]) 34625538 h362 fun x369 h370 _ _=>Ah [] false false ih 24 [.fv (.int .i64 22),x369] h370 fun x373 h374 _ _=>Ac x331 true h374 (fun k377=>k377 x357 h374 [] []) fun x378 h379 _ _=>AI x331 x378 (.fv (.bool false)) fun x382=>Af 3 x13 x373 h379 fun h383 _ _=>Z1 h383 x13 x382
def WR (r360 w361 r354 w355 r349 w350 r346 r344 r341:AC) (h359:Hp) (x358 x356 x332:IV) (ih:Aa) (x331 x357 x13:IV):OH :=
 Ad [(r354,w355),(r349,w350),(r346,[]),(r344,[]),(r341,[])] r360 w361 (Af 3 x358 x356 h359 fun h362 r363 w364=>Ad [] r363 w364 (Ag 3 x332 h362 fun x365 _=>Ag 3 x358 h362 fun x367 _=>Ya h362 x365 x367 ih x331 x357 x13))
def Zs (ih:Aa) (h348:Hp) (x0 x343 x347 x351:IV) (r349 w350 r346 r344 r341:AC) (x332 x331 x13:IV):OH :=
 Ah [] false false ih 33 [x0,x343,x347,x351] h348 fun x352 h353 r354 w355=>Ad [] r354 w355 (Ar 0 x352 fun x356=>Ar 1 x352 fun x357=>AD 34624525 (.row [.fv (.int .i64 0),.fv (.int .i64 0),.nils] false) (.ptr (.own 34624525) 0) h353 fun x358 h359 r360 w361=>WR r360 w361 r354 w355 r349 w350 r346 r344 r341 h359 x358 x356 x332 ih x331 x357 x13)
def WH (h336:Hp) (x9:IV) (r344 r341:AC) (ih:Aa) (x3 x0 x343 x332 x331 x13:IV):OH :=
 Ag 3 x9 h336 fun x345 r346=>Ad [(r344,[]),(r341,[])] r346 [] (Ah [] false false ih 56 [x345,.fv (.int .i64 1)] h336 fun x347 h348 r349 w350=>Ad [(r344,[]),(r341,[])] r349 w350 (Bd EE 3 x3 (.fv (.int .i64 1)) fun x351=>Zs ih h348 x0 x343 x347 x351 r349 w350 r346 r344 r341 x332 x331 x13))
def AaY (h336:Hp) (x339 x9:IV) (ih:Aa) (x3 x0 x332 x331 x13:IV):OH :=
 Ae x339 h336 fun x340 r341=>Ad [] r341 [] (AT 3 x340 (.fv (.int .i64 1)) fun x342=>Ag 3 x342 h336 fun x343 r344=>Ad [] r344 [] (WH h336 x9 r344 r341 ih x3 x0 x343 x332 x331 x13))
def Abt (h327:Hp) (r328 w329 r323 w324 r320 r318 r315:AC) (x330 x5 x9:IV) (ih:Aa) (x3 x0 x331 x13:IV):OH :=
 AD 34623501 (.row [.fv (.int .i64 0),.fv (.int .i64 0),.nils] false) (.ptr (.own 34623501) 0) h327 fun x332 h333 r334 w335=>Ad [(r328,w329),(r323,w324),(r320,[]),(r318,[]),(r315,[])] r334 w335 (Af 3 x332 x330 h333 fun h336 r337 w338=>Ad [] r337 w338 (Ab 2 x5 fun x339=>AaY h336 x339 x9 ih x3 x0 x332 x331 x13))
def Ym (x3:IV) (ih:Aa) (h322:Hp) (x0 x317 x321:IV) (r323 w324 r320 r318 r315:AC) (x5 x9 x13:IV):OH :=
 Bd EE 3 x3 (.fv (.int .i64 1)) fun x325=>Ah [] false false ih 33 [x0,x317,x321,x325] h322 fun x326 h327 r328 w329=>Ad [] r328 w329 (Ar 0 x326 fun x330=>Ar 1 x326 fun x331=>Abt h327 r328 w329 r323 w324 r320 r318 r315 x330 x5 x9 ih x3 x0 x331 x13)
def Yn (r318:AC) (h117:Hp) (x9:IV) (r315:AC) (ih:Aa) (x3 x0 x317 x5 x13:IV):OH :=
 Ad [] r318 [] (Ag 3 x9 h117 fun x319 r320=>Ad [(r318,[]),(r315,[])] r320 [] (Ah [] false false ih 56 [x319,.fv (.int .i64 0)] h117 fun x321 h322 r323 w324=>Ad [(r318,[]),(r315,[])] r323 w324 (Ym x3 ih h322 x0 x317 x321 r323 w324 r320 r318 r315 x5 x9 x13)))
def XP (x5:IV) (h117:Hp) (x9:IV) (ih:Aa) (x3 x0 x13:IV):OH :=
 Ab 2 x5 fun x313=>Ae x313 h117 fun x314 r315=>Ad [] r315 [] (AT 3 x314 (.fv (.int .i64 0)) fun x316=>Ag 3 x316 h117 fun x317 r318=>Yn r318 h117 x9 r315 ih x3 x0 x317 x5 x13)
def AbN (h117:Hp) (x45 x13 x44:IV):OH :=
 Ag 3 x45 h117 fun x387 _=>Af 3 x13 x387 h117 fun h389 _ _=>As true 3 x13 h389 fun x392=>Al [x392,x44] h389
def XB (x251 x5:IV) (h117:Hp) (ih:Aa) (x0 x9 x3 x13 x136 x45 x44:IV):OH :=
 Ai x251 (Ab 2 x5 fun x252=>Ae x252 h117 fun x253 r254=>Aa5 r254 x253 h117 ih x0 x5 x9 x3 x13) (AN EE 3 x136 (.fv (.int .i64 17)) fun x312=>Ai x312 (XP x5 h117 x9 ih x3 x0 x13) (AbN h117 x45 x13 x44))
def Abd (x5:IV) (h117:Hp) (x3 x9:IV) (ih:Aa) (x0 x13 x45 x44:IV):OH :=
 Ab 0 x5 fun x135=>Ae x135 h117 fun x136 _=>AN EE 3 x136 (.fv (.int .i64 15)) fun x138=>Ai x138 (Ke EE 3 x3 (.fv (.int .i64 0)) fun x139=>W2 h117 x139 x9 ih x5 x3 x0 x13) (AN EE 3 x136 (.fv (.int .i64 16)) fun x251=>XB x251 x5 h117 ih x0 x9 x3 x13 x136 x45 x44)
def ZV (h99:Hp) (x95 x98:IV) (ih:Aa) (x5 x9 x0 x3 x13 x45 x44:IV):OH :=
 Ac x95 true h99 (fun k102=>Ae x98 h99 fun x103 r104=>k102 x103 h99 r104 []) fun x105 h106 _ _=>Ac x95 true h106 (fun k109=>Ah [] false false ih 55 [x105,.fv (.int .i64 3)] h106 k109) fun x110 h111 _ _=>Ac x95 true h111 (fun k114=>AN EE 3 x110 (.fv (.int .i64 1)) fun x115=>k114 x115 h111 [] []) fun x116 h117 _ _=>AI x95 x116 (.fv (.bool false)) fun x120=>Ai x120 (WB h117 x5 x9 ih x0 x3 x13) (Abd x5 h117 x3 x9 ih x0 x13 x45 x44)
def YF (x88:IV) (h85:Hp) (x45 x13 x44 x3 x9:IV) (ih:Aa) (x5 x0:IV):OH :=
 Ai x88 (Ag 3 x45 h85 fun x89 _=>Af 3 x13 x89 h85 fun h91 _ _=>Z0 h91 x13 x44) (Ke EE 3 x3 (.fv (.int .i64 0)) fun x95=>Ac x95 true h85 (fun k96=>Ab 0 x9 fun x97=>k96 x97 h85 [] []) fun x98 h99 _ _=>ZV h99 x95 x98 ih x5 x9 x0 x3 x13 x45 x44)
def ZT (h67:Hp) (x44 x66 x3 x45 x13 x9:IV) (ih:Aa) (x5 x0:IV):OH :=
 Ac x44 true h67 (fun k70=>AN EE 3 x66 (.fv (.int .i64 0)) fun x71=>k70 x71 h67 [] []) fun x72 h73 _ _=>AI x44 x72 (.fv (.bool false)) fun x76=>Ac x76 false h73 (fun k77=>k77 x3 h73 [] []) fun x78 h79 _ _=>Ac x76 false h79 (fun k82=>F8 EE 3 x78 (.fv (.int .i64 (-4))) fun x83=>k82 x83 h79 [] []) fun x84 h85 _ _=>AI x76 (.fv (.bool true)) x84 fun x88=>YF x88 h85 x45 x13 x44 x3 x9 ih x5 x0
def YS (h40:Hp) (x43 x44 x9:IV) (ih:Aa) (x3 x13 x5 x0:IV):OH :=
 AD 34607112 (.row [.fv (.int .i64 0),.fv (.int .i64 0),.nils] false) (.ptr (.own 34607112) 0) h40 fun x45 h46 _ _=>Af 3 x45 x43 h46 fun h49 _ _=>Ac x44 true h49 (fun k52=>Ab 0 x9 fun x53=>k52 x53 h49 [] []) fun x54 h55 _ _=>Ac x44 true h55 (fun k58=>Ae x54 h55 fun x59 r60=>k58 x59 h55 r60 []) fun x61 h62 _ _=>Ac x44 true h62 (fun k65=>Ah [] false false ih 55 [x61,.fv (.int .i64 3)] h62 k65) fun x66 h67 _ _=>ZT h67 x44 x66 x3 x45 x13 x9 ih x5 x0
def Xq (x9:IV) (h25:Hp) (ih:Aa) (x0 x34 x3 x13 x5:IV):OH :=
 Ab 1 x9 fun x36=>Ae x36 h25 fun x37 _=>Ah [] false false ih 58 [x0,.fv (.int .i64 0),x34,x37] h25 fun x39 h40 _ _=>Ar 0 x39 fun x43=>Ar 1 x39 fun x44=>YS h40 x43 x44 x9 ih x3 x13 x5 x0
def Yp (x19:IV) (h20:Hp) (x5 x23 x13 x9:IV) (ih:Aa) (x0 x3:IV):OH :=
 Ar 1 x19 fun x24=>Af 3 x5 x23 h20 fun h25 _ _=>Ch EE 3 x24 (.fv (.int .i64 0)) fun x28=>Ai x28 (Bw [.fv (.int .i64 0),.fv (.int .i64 0),.nils] [] fun x29=>Ww h25 x13 x29) (Ag 3 x5 h25 fun x34 _=>Xq x9 h25 ih x0 x34 x3 x13 x5)
def S33 (ih:Aa) (n:Nat) (x0 x1 x2 x3:IV) (h4:Hp):OH :=
 AX 34603008 x1 h4 fun x5 h6 _ _=>AX 34603009 x2 h6 fun x9 h10 _ _=>AD 34603010 (.row [.fv (.int .i64 0),.fv (.int .i64 0),.nils] false) (.ptr (.own 34603010) 0) h10 fun x13 h14 _ _=>Ag 3 x5 h14 fun x17 _=>Ah [] false false ih 34 [x17] h14 fun x19 h20 _ _=>Ar 0 x19 fun x23=>Yp x19 h20 x5 x23 x13 x9 ih x0 x3
theorem ApI (ih:Aa) (n:Nat) (x0 x1 x2 x3:IV) (h4:Hp):Aw EE ih ft.get n 33 [x0,x1,x2,x3] h4=S33 ih n x0 x1 x2 x3 h4:=by kernel_rfl
def VC (r43 w44 r41:AC) (h42:Hp) (x6 x40:IV):OH :=
 Ad [(r41,[])] r43 w44 (As true 3 x6 h42 fun x45=>Al [x45,x40] h42)
def VL (x11:IV) (h29:Hp) (x6 x37:IV):OH :=
 AH x11 fun x38=>Ab 2 x38 fun x39=>Ae x39 h29 fun x40 r41=>Ad [] r41 [] (Af 3 x6 x37 h29 fun h42 r43 w44=>VC r43 w44 r41 h42 x6 x40)
def Vg (h29:Hp) (x6 x46:IV):OH :=
 Af 3 x6 x46 h29 fun h48 _ _=>As true 3 x6 h48 fun x51=>Al [x51,.fv (.int .i64 0)] h48
def Wb (h29:Hp) (x33 x11 x6 x25:IV):OH :=
 Ae x33 h29 fun x34 _=>Ch EE 3 x34 (.fv (.int .i64 0)) fun x36=>Ai x36 (Bw [.fv (.int .i64 0),.fv (.int .i64 0),.nils] [] fun x37=>VL x11 h29 x6 x37) (Ag 3 x25 h29 fun x46 _=>Vg h29 x6 x46)
def Vw (ih:Aa) (h18:Hp) (x11 x17 x6:IV):OH :=
 Ah [true,false,false,false] false false ih 61 [x11,x17,.fv (.int .i64 0),.fv (.int .i64 1)] h18 fun x21 h22 _ _=>AD 35653637 (.row [.fv (.int .i64 0),.fv (.int .i64 0),.nils] false) (.ptr (.own 35653637) 0) h22 fun x25 h26 _ _=>Af 3 x25 x21 h26 fun h29 _ _=>AH x11 fun x32=>Ab 2 x32 fun x33=>Wb h29 x33 x11 x6 x25
def S34 (ih:Aa) (n:Nat) (x0:IV) (h1:Hp):OH :=
 AX 35651584 x0 h1 fun x2 h3 _ _=>AD 35651585 (.row [.fv (.int .i64 0),.fv (.int .i64 0),.nils] false) (.ptr (.own 35651585) 0) h3 fun x6 h7 _ _=>Bw [.fv (.int .i64 0),.fv (.int .i64 0),.fv (.int .i64 0)] [] fun x10=>AX 35652609 x10 h7 fun x11 h12 _ _=>Ag 3 x2 h12 fun x15 _=>Ah [true,false,false] false false ih 62 [x11,x15,.nils] h12 fun x17 h18 _ _=>Vw ih h18 x11 x17 x6
theorem Aqw (ih:Aa) (n:Nat) (x0:IV) (h1:Hp):Aw EE ih ft.get n 34 [x0] h1=S34 ih n x0 h1:=by kernel_rfl
def AgA (x17:IV) (h14:Hp):OH :=
 Ab 1 x17 fun x18=>Ae x18 h14 fun x19 _=>Al [x19] h14
def S35 (ih:Aa) (n:Nat) (x0:IV) (h1:Hp):OH :=
 AX 36700160 x0 h1 fun x2 h3 _ _=>Bw [.fv (.int .i64 0),.fv (.int .i64 0)] [] fun x6=>AX 36701185 x6 h3 fun x7 h8 _ _=>Ag 3 x2 h8 fun x11 _=>Ah [true,false,false] false false ih 63 [x7,x11,.fv (.int .i64 1)] h8 fun _ h14 _ _=>AH x7 fun x17=>AgA x17 h14
theorem ApH (ih:Aa) (n:Nat) (x0:IV) (h1:Hp):Aw EE ih ft.get n 35 [x0] h1=S35 ih n x0 h1:=by kernel_rfl
def NF (x12 x43 x13:IV) (q7:List IV→Hp→OH) (h44:Hp) (x10 x11:IV):OH :=
 Bp EE 3 x12 x43 fun x47=>Bp EE 3 x13 (.fv (.int .i64 1)) fun x48=>q7 [x10,x11,x47,x48] h44
def M9 (h32:Hp) (x36 x13 x10 x12:IV) (ih:Aa) (q7:List IV→Hp→OH) (x11:IV):OH :=
 Ae x36 h32 fun x37 _=>AT 3 x37 x13 fun x39=>Ag 3 x39 h32 fun x40 _=>Bd EE 3 x10 x12 fun x42=>Ah [] false false ih 36 [x40,x42] h32 fun x43 h44 _ _=>NF x12 x43 x13 q7 h44 x10 x11
def Oj (h26:Hp) (x18 x20 x25 x11 x13 x10 x12:IV) (ih:Aa) (q7:List IV→Hp→OH):OH :=
 Ac x18 true h26 (fun k29=>F8 EE 3 x20 x25 fun x30=>k29 x30 h26 [] []) fun x31 h32 _ _=>AI x18 x31 (.fv (.bool false)) fun x35=>Ai x35 (Ab 2 x11 fun x36=>M9 h32 x36 x13 x10 x12 ih q7 x11) (Al [x12] h32)
def NP (h9:Hp) (x14 x13 x12 x10 x11:IV) (ih:Aa) (q7:List IV→Hp→OH):OH :=
 Ae x14 h9 fun x15 _=>B0 x15 fun x17=>F8 EE 3 x13 x17 fun x18=>Ac x18 true h9 (fun k19=>k19 x12 h9 [] []) fun x20 h21 _ _=>Ac x18 true h21 (fun k24=>k24 x10 h21 [] []) fun x25 h26 _ _=>Oj h26 x18 x20 x25 x11 x13 x10 x12 ih q7
def Q8 (l8:List IV) (h9:Hp) (ih:Aa) (q7:List IV→Hp→OH):OH :=
 AA l8 fun x10 l49=>AA l49 fun x11 l50=>AA l50 fun x12 l51=>AA l51 fun x13 _=>Ab 2 x11 fun x14=>NP h9 x14 x13 x12 x10 x11 ih q7
def S36 (ih:Aa) (n:Nat) (x0 x1:IV) (h2:Hp):OH :=
 AX 37748736 x0 h2 fun x3 h4 _ _=>By n (fun q7 l8 h9=>Q8 l8 h9 ih q7) [x1,x3,.fv (.int .i64 1),.fv (.int .i64 0)] h4
theorem ApM (ih:Aa) (n:Nat) (x0 x1:IV) (h2:Hp):Aw EE ih ft.get n 36 [x0,x1] h2=S36 ih n x0 x1 h2:=by kernel_rfl
def UL (x7:IV) (h1 h24:Hp) (x5 x23:IV) (q2:List IV→Hp→OH):OH :=
 Bp EE 3 x7 (.fv (.int .i64 1)) fun x25=>Bs (h1.own.map (·.1)) [38803466] [x5,x23,x25] h24 fun h26=>q2 [x5,x23,x25] h26
def VJ (ih:Aa) (h53:Hp) (x6 x59:IV) (j1_56:IV→Hp→OH):OH :=
 Ah [] false false ih 60 [x6,.fv (.int .i64 0),x59] h53 fun x61 h62 _ _=>j1_56 x61 h62
def Vc (r54 w55:AC) (j1_22:IV→Hp→OH) (x48:IV) (h53:Hp) (x49:IV) (ih:Aa) (x6:IV):OH :=
 Ad [] r54 w55 ((fun (j1_56:IV→Hp→OH)=>Ai x48 (Ag 3 x49 h53 fun x59 _=>VJ ih h53 x6 x59 j1_56) (j1_56 x6 h53)) fun x57 h58=>j1_22 x57 h58)
def US (x43:IV) (h44:Hp) (r45 w46 r42 r38 w39:AC) (j1_22:IV→Hp→OH) (ih:Aa) (x6:IV):OH :=
 Ar 0 x43 fun x47=>Ar 1 x43 fun x48=>AD 38803466 (.row [.fv (.int .i64 0),.fv (.int .i64 0),.nils] false) (.ptr (.own 38803466) 0) h44 fun x49 h50 r51 w52=>Ad [(r45,w46),(r42,[]),(r38,w39)] r51 w52 (Af 3 x49 x47 h50 fun h53 r54 w55=>Vc r54 w55 j1_22 x48 h53 x49 ih x6)
def VZ (x5 x7:IV) (h37:Hp) (r38 w39:AC) (ih:Aa) (x6 x36:IV) (j1_22:IV→Hp→OH):OH :=
 AT 3 x5 x7 fun x40=>Ag 3 x40 h37 fun x41 r42=>Ad [(r38,w39)] r42 [] (Ah [] false false ih 39 [x6,x36,x41,.fv (.int .i64 2)] h37 fun x43 h44 r45 w46=>Ad [] r45 w46 (US x43 h44 r45 w46 r42 r38 w39 j1_22 ih x6))
def Vb (ih:Aa) (h32:Hp) (x6 x66:IV) (j1_22:IV→Hp→OH):OH :=
 Ah [] false false ih 38 [x6,x66,.fv (.int .i64 2)] h32 fun x68 h69 _ _=>Ah [] false false ih 60 [x6,.fv (.int .i64 1),x68] h69 fun x72 h73 _ _=>j1_22 x72 h73
def V1 (x35:IV) (ih:Aa) (h32:Hp) (x5 x7 x6:IV) (j1_22:IV→Hp→OH):OH :=
 Ai x35 (Ah [] false false ih 24 [.fv (.int .i64 14),.nils] h32 fun x36 h37 r38 w39=>Ad [] r38 w39 (VZ x5 x7 h37 r38 w39 ih x6 x36 j1_22)) (AT 3 x5 x7 fun x65=>Ag 3 x65 h32 fun x66 _=>Vb ih h32 x6 x66 j1_22)
def Vx (x5 x7:IV) (h18:Hp) (ih:Aa) (x6:IV) (j1_22:IV→Hp→OH):OH :=
 AT 3 x5 x7 fun x27=>Ab 1 x27 fun x28=>Ae x28 h18 fun x29 _=>Ah [] false false ih 55 [x29,.fv (.int .i64 3)] h18 fun x31 h32 _ _=>AN EE 3 x31 (.fv (.int .i64 0)) fun x35=>V1 x35 ih h32 x5 x7 x6 j1_22
def UY (h4:Hp) (x9 x7:IV) (h1:Hp) (x5:IV) (q2:List IV→Hp→OH) (ih:Aa) (x6:IV):OH :=
 Ac x9 true h4 (fun k10=>k10 x7 h4 [] []) fun x11 h12 _ _=>Ac x9 true h12 (fun k15=>F8 EE 3 x11 (.fv (.int .i64 4)) fun x16=>k15 x16 h12 [] []) fun x17 h18 _ _=>AI x9 x17 (.fv (.bool false)) fun x21=>Ai x21 ((fun (j1_22:IV→Hp→OH)=>Vx x5 x7 h18 ih x6 j1_22) fun x23 h24=>UL x7 h1 h24 x5 x23 q2) (Al [x6] h18)
def Agg (l3:List IV) (h4 h1:Hp) (q2:List IV→Hp→OH) (ih:Aa):OH :=
 AA l3 fun x5 l76=>AA l76 fun x6 l77=>AA l77 fun x7 _=>B0 x5 fun x8=>F8 EE 3 x7 x8 fun x9=>UY h4 x9 x7 h1 x5 q2 ih x6
def S37 (ih:Aa) (n:Nat) (x0:IV) (h1:Hp):OH :=
 Bs (h1.own.map (·.1)) [38803466] [x0,.nils,.fv (.int .i64 0)] h1 fun h79=>By n (fun q2 l3 h4=>Agg l3 h4 h1 q2 ih) [x0,.nils,.fv (.int .i64 0)] h79
theorem Ao0 (ih:Aa) (n:Nat) (x0:IV) (h1:Hp):Aw EE ih ft.get n 37 [x0] h1=S37 ih n x0 h1:=by kernel_rfl
def Wx (h29:Hp) (x8:IV):OH :=
 As true 3 x8 h29 fun x32=>Al [x32] h29
def Xf (ih:Aa) (h24:Hp) (x8:IV):OH :=
 Ah [] false false ih 24 [.fv (.int .i64 14),.nils] h24 fun x34 h35 _ _=>Af 3 x8 x34 h35 fun h38 _ _=>As true 3 x8 h38 fun x41=>Al [x41] h38
def AbO (h46:Hp) (x45:IV) (ih:Aa) (x8:IV):OH :=
 Ay (Ak EE 28 1 [(0,x45)]) 39857154 h46 fun x49 h50 _ _=>Ah [] false false ih 24 [.fv (.int .i64 18),x49] h50 fun x53 h54 _ _=>Af 3 x8 x53 h54 fun h57 _ _=>As true 3 x8 h57 fun x60=>Al [x60] h57
def Ws (ih:Aa) (h24:Hp) (x8:IV):OH :=
 Ah [] false false ih 47 [.fv (.int .i64 0)] h24 fun x62 h63 _ _=>Af 3 x8 x62 h63 fun h66 _ _=>As true 3 x8 h66 fun x69=>Al [x69] h66
def W1 (r116 w117:AC) (h115:Hp) (x8 x114:IV):OH :=
 Ad [] r116 w117 (Af 3 x8 x114 h115 fun h118 r119 w120=>Ad [] r119 w120 (As true 3 x8 h118 fun x121=>Al [x121] h118))
def Abs (ih:Aa) (h102:Hp) (x95 x101 x105:IV) (r92:AC) (x91 x8:IV):OH :=
 Ah [] false false ih 38 [x95,x101,x105] h102 fun x106 h107 r108 w109=>Ad [(r92,[])] r108 w109 (Ay (Ak EE 28 2 [(0,x91),(1,x106)]) 39863305 h107 fun x110 h111 r112 w113=>Ad [] r112 w113 (Ah [] false false ih 24 [.fv (.int .i64 3),x110] h111 fun x114 h115 r116 w117=>W1 r116 w117 h115 x8 x114))
def YJ (h96:Hp) (x4:IV) (r97 w98 r94 r92:AC) (ih:Aa) (x2 x95 x91 x8:IV):OH :=
 Ag 3 x4 h96 fun x99 r100=>Ad [(r97,w98),(r94,[]),(r92,[])] r100 [] (Ah [] false false ih 56 [x99,.fv (.int .i64 1)] h96 fun x101 h102 r103 w104=>Ad [(r92,[])] r103 w104 (Bd EE 3 x2 (.fv (.int .i64 1)) fun x105=>Abs ih h102 x95 x101 x105 r92 x91 x8))
def Aaa (r92:AC) (h88:Hp) (x84:IV) (ih:Aa) (x0 x4 x2 x91 x8:IV):OH :=
 Ad [] r92 [] (Ag 3 x84 h88 fun x93 r94=>Ad [(r92,[])] r94 [] (Ah [] false false ih 60 [x0,.fv (.int .i64 1),x93] h88 fun x95 h96 r97 w98=>Ad [(r92,[])] r97 w98 (YJ h96 x4 r97 w98 r94 r92 ih x2 x95 x91 x8)))
def Z6 (x2:IV) (ih:Aa) (h76:Hp) (x0 x75 x4 x8:IV):OH :=
 Bd EE 3 x2 (.fv (.int .i64 1)) fun x79=>Ah [] false false ih 38 [x0,x75,x79] h76 fun x80 h81 _ _=>AD 39862278 (.row [.fv (.int .i64 0),.fv (.int .i64 0),.nils] false) (.ptr (.own 39862278) 0) h81 fun x84 h85 _ _=>Af 3 x84 x80 h85 fun h88 _ _=>Ag 3 x84 h88 fun x91 r92=>Aaa r92 h88 x84 ih x0 x4 x2 x91 x8
def Xb (h168:Hp) (x8:IV):OH :=
 As true 3 x8 h168 fun x171=>Al [x171] h168
def XK (r162 w163:AC) (ih:Aa) (h161:Hp) (x160 x8:IV):OH :=
 Ad [] r162 w163 (Ah [] false false ih 24 [.fv (.int .i64 6),x160] h161 fun x164 h165 r166 w167=>Ad [] r166 w167 (Af 3 x8 x164 h165 fun h168 r169 w170=>Ad [] r169 w170 (Xb h168 x8)))
def Xd (r153 w154 r142:AC) (x2:IV) (ih:Aa) (h152:Hp) (x145 x151 x141 x8:IV):OH :=
 Ad [(r142,[])] r153 w154 (Bd EE 3 x2 (.fv (.int .i64 1)) fun x155=>Ah [] false false ih 38 [x145,x151,x155] h152 fun x156 h157 r158 w159=>Ad [(r142,[])] r158 w159 (Ay (Ak EE 28 2 [(0,x141),(1,x156)]) 39866377 h157 fun x160 h161 r162 w163=>XK r162 w163 ih h161 x160 x8))
def Xv (ih:Aa) (h138:Hp) (x0 x143:IV) (r142:AC) (x4:IV) (r144:AC) (x2 x141 x8:IV):OH :=
 Ah [] false false ih 60 [x0,.fv (.int .i64 1),x143] h138 fun x145 h146 r147 w148=>Ad [(r142,[])] r147 w148 (Ag 3 x4 h146 fun x149 r150=>Ad [(r147,w148),(r144,[]),(r142,[])] r150 [] (Ah [] false false ih 56 [x149,.fv (.int .i64 1)] h146 fun x151 h152 r153 w154=>Xd r153 w154 r142 x2 ih h152 x145 x151 x141 x8))
def Xx (h135:Hp) (x134 x130:IV) (ih:Aa) (x0 x4 x2 x8:IV):OH :=
 Af 3 x134 x130 h135 fun h138 _ _=>Ag 3 x134 h138 fun x141 r142=>Ad [] r142 [] (Ag 3 x134 h138 fun x143 r144=>Ad [(r142,[])] r144 [] (Xv ih h138 x0 x143 r142 x4 r144 x2 x141 x8))
def Abw (h72:Hp) (x4:IV) (ih:Aa) (x2 x0 x8:IV):OH :=
 Ag 3 x4 h72 fun x123 _=>Ah [] false false ih 56 [x123,.fv (.int .i64 0)] h72 fun x125 h126 _ _=>Bd EE 3 x2 (.fv (.int .i64 1)) fun x129=>Ah [] false false ih 38 [x0,x125,x129] h126 fun x130 h131 _ _=>AD 39865350 (.row [.fv (.int .i64 0),.fv (.int .i64 0),.nils] false) (.ptr (.own 39865350) 0) h131 fun x134 h135 _ _=>Xx h135 x134 x130 ih x0 x4 x2 x8
def Abl (h201:Hp) (x8:IV):OH :=
 As true 3 x8 h201 fun x204=>Al [x204] h201
def Z7 (ih:Aa) (h208:Hp) (x207 x8:IV):OH :=
 Ah [] false false ih 24 [.fv (.int .i64 18),x207] h208 fun x211 h212 _ _=>Af 3 x8 x211 h212 fun h215 _ _=>As true 3 x8 h215 fun x218=>Al [x218] h215
def YX (x188:IV) (ih:Aa) (h193:Hp) (x8 x189:IV):OH :=
 CL (LR .not x188) fun x196=>Ai x196 (Ah [] false false ih 64 [] h193 fun x197 h198 _ _=>Af 3 x8 x197 h198 fun h201 _ _=>Abl h201 x8) (Ag 3 x189 h193 fun x205 _=>Ay (Ak EE 28 1 [(0,x205)]) 39870465 h193 fun x207 h208 _ _=>Z7 ih h208 x207 x8)
def ZR (x183:IV) (h184:Hp) (r185 w186 r180 w181 r177 r174 w175:AC) (x187:IV) (ih:Aa) (x8:IV):OH :=
 Ar 1 x183 fun x188=>AD 39867402 (.row [.fv (.int .i64 0),.fv (.int .i64 0),.nils] false) (.ptr (.own 39867402) 0) h184 fun x189 h190 r191 w192=>Ad [(r185,w186),(r180,w181),(r177,[]),(r174,w175)] r191 w192 (Af 3 x189 x187 h190 fun h193 r194 w195=>Ad [] r194 w195 (YX x188 ih h193 x8 x189))
def YE (r180 w181:AC) (x2:IV) (ih:Aa) (h179:Hp) (x0 x172 x178:IV) (r177 r174 w175:AC) (x8:IV):OH :=
 Ad [] r180 w181 (Bd EE 3 x2 (.fv (.int .i64 1)) fun x182=>Ah [] false false ih 39 [x0,x172,x178,x182] h179 fun x183 h184 r185 w186=>Ad [] r185 w186 (Ar 0 x183 fun x187=>ZR x183 h184 r185 w186 r180 w181 r177 r174 w175 x187 ih x8))
def Aav (ih:Aa) (h72:Hp) (x4 x2 x0 x8:IV):OH :=
 Ah [] false false ih 24 [.fv (.int .i64 14),.nils] h72 fun x172 h173 r174 w175=>Ad [] r174 w175 (Ag 3 x4 h173 fun x176 r177=>Ad [(r174,w175)] r177 [] (Ah [] false false ih 56 [x176,.fv (.int .i64 0)] h173 fun x178 h179 r180 w181=>YE r180 w181 x2 ih h179 x0 x172 x178 r177 r174 w175 x8))
def AbB (x71:IV) (h72:Hp) (x4:IV) (ih:Aa) (x2 x0 x8 x20:IV):OH :=
 Ai x71 (Ag 3 x4 h72 fun x73 _=>Ah [] false false ih 56 [x73,.fv (.int .i64 0)] h72 fun x75 h76 _ _=>Z6 x2 ih h76 x0 x75 x4 x8) (AN EE 3 x20 (.fv (.int .i64 7)) fun x122=>Ai x122 (Abw h72 x4 ih x2 x0 x8) (Aav ih h72 x4 x2 x0 x8))
def Wl (x4:IV) (ih:Aa) (x2 x0 x8 x20:IV) (h24:Hp):OH :=
 (fun (j1_70:IV→Hp→OH)=>AN EE 3 x20 (.fv (.int .i64 5)) fun x219=>Ai x219 (j1_70 x219 h24) (AN EE 3 x20 (.fv (.int .i64 6)) fun x220=>j1_70 x220 h24)) fun x71 h72=>AbB x71 h72 x4 ih x2 x0 x8 x20
def Acb (x20:IV) (h24:Hp) (x4:IV) (ih:Aa) (x8 x2 x0:IV):OH :=
 AN EE 3 x20 (.fv (.int .i64 3)) fun x42=>Ai x42 (Ag 3 x4 h24 fun x43 _=>Ah [] false false ih 28 [x43,.fv (.int .i64 1)] h24 fun x45 h46 _ _=>AbO h46 x45 ih x8) (AN EE 3 x20 (.fv (.int .i64 4)) fun x61=>Ai x61 (Ws ih h24 x8) (Wl x4 ih x2 x0 x8 x20 h24))
def Wu (x23:IV) (ih:Aa) (h24:Hp) (x8 x20 x4 x2 x0:IV):OH :=
 Ai x23 (Ah [] false false ih 64 [] h24 fun x25 h26 _ _=>Af 3 x8 x25 h26 fun h29 _ _=>Wx h29 x8) (AN EE 3 x20 (.fv (.int .i64 2)) fun x33=>Ai x33 (Xf ih h24 x8) (Acb x20 h24 x4 ih x8 x2 x0))
def XF (ih:Aa) (x8 x20 x4 x2 x0:IV) (h21:Hp):OH :=
 (fun (j1_22:IV→Hp→OH)=>AN EE 3 x20 (.fv (.int .i64 0)) fun x221=>Ai x221 (j1_22 x221 h21) (AN EE 3 x20 (.fv (.int .i64 1)) fun x222=>j1_22 x222 h21)) fun x23 h24=>Wu x23 ih h24 x8 x20 x4 x2 x0
def Yv (x15:IV) (j1_19:IV→Hp→OH) (h232:Hp):OH :=
 CH EE 3 .rem x15 (.fv (.int .i64 5)) fun x236=>j1_19 x236 h232
def AbV (x2:IV) (h16:Hp) (x15:IV) (j1_19:IV→Hp→OH):OH :=
 leS EE 3 x2 (.fv (.int .i64 0)) fun x223=>Ac x223 true h16 (fun k224=>k224 x15 h16 [] []) fun x225 h226 _ _=>Ac x223 true h226 (fun k229=>Ke EE 3 x225 (.fv (.int .i64 4)) fun x230=>k229 x230 h226 [] []) fun x231 h232 _ _=>AI x223 x231 (.fv (.bool false)) fun x235=>Ai x235 (Yv x15 j1_19 h232) (j1_19 x15 h232)
def S38 (ih:Aa) (n:Nat) (x0 x1 x2:IV) (h3:Hp):OH :=
 AX 39845888 x1 h3 fun x4 h5 _ _=>AD 39845889 (.row [.fv (.int .i64 0),.fv (.int .i64 0),.nils] false) (.ptr (.own 39845889) 0) h5 fun x8 h9 _ _=>Ab 0 x4 fun x12=>Ae x12 h9 fun x13 _=>Ah [] false false ih 55 [x13,.fv (.int .i64 9)] h9 fun x15 h16 _ _=>(fun (j1_19:IV→Hp→OH)=>AbV x2 h16 x15 j1_19) fun x20 h21=>XF ih x8 x20 x4 x2 x0 h21
theorem Aoi (ih:Aa) (n:Nat) (x0 x1 x2:IV) (h3:Hp):Aw EE ih ft.get n 38 [x0,x1,x2] h3=S38 ih n x0 x1 x2 h3:=by kernel_rfl
def Y9 (h25:Hp) (x13 x29:IV):OH :=
 Af 3 x13 x29 h25 fun h30 _ _=>As true 3 x13 h30 fun x33=>Al [x33,.fv (.bool false)] h30
def YO (h91:Hp) (x13 x44:IV):OH :=
 As true 3 x13 h91 fun x94=>Al [x94,x44] h91
def YP (h126:Hp) (x13 x129 x130:IV):OH :=
 Af 3 x13 x129 h126 fun h131 _ _=>As true 3 x13 h131 fun x134=>Al [x134,x130] h131
def WD (h117:Hp) (x5 x9:IV) (ih:Aa) (x0 x3 x13:IV):OH :=
 Ag 3 x5 h117 fun x121 _=>Ag 3 x9 h117 fun x123 _=>Ah [] false false ih 65 [x0,x121,x123,x3] h117 fun x125 h126 _ _=>Ar 0 x125 fun x129=>Ar 1 x125 fun x130=>YP h126 x13 x129 x130
def AaD (ih:Aa) (h140:Hp) (x0 x141 x143 x3 x13:IV):OH :=
 Ah [] false false ih 66 [x0,x141,x143,x3] h140 fun x145 h146 _ _=>Ar 0 x145 fun x149=>Ar 1 x145 fun x150=>Af 3 x13 x149 h146 fun h151 _ _=>As true 3 x13 h151 fun x154=>Al [x154,x150] h151
def AbT (r209 w210:AC) (h208:Hp) (x13 x184:IV):OH :=
 Ad [] r209 w210 (As true 3 x13 h208 fun x211=>Al [x211,x184] h208)
def Xy (h189:Hp) (x196 x198:IV) (ih:Aa) (x13 x184:IV):OH :=
 Ay (Ak EE 28 2 [(0,x196),(1,x198)]) 40910853 h189 fun x200 h201 r202 w203=>Ad [] r202 w203 (Ah [] false false ih 24 [.fv (.int .i64 4),x200] h201 fun x204 h205 r206 w207=>Ad [] r206 w207 (Af 3 x13 x204 h205 fun h208 r209 w210=>AbT r209 w210 h208 x13 x184))
def AbG (x193:IV) (h189:Hp) (x185:IV) (r194:AC) (ih:Aa) (x13 x184:IV):OH :=
 AT 3 x193 (.fv (.int .i64 0)) fun x195=>Ag 3 x195 h189 fun x196 r197=>Ad [] r197 [] (Ag 3 x185 h189 fun x198 r199=>Ad [(r197,[]),(r194,[])] r199 [] (Xy h189 x196 x198 ih x13 x184))
def Zn (h186:Hp) (x185 x183 x5:IV) (ih:Aa) (x13 x184:IV):OH :=
 Af 3 x185 x183 h186 fun h189 r190 w191=>Ad [] r190 w191 (Ab 2 x5 fun x192=>Ae x192 h189 fun x193 r194=>Ad [] r194 [] (AbG x193 h189 x185 r194 ih x13 x184))
def Xs (r181 w182:AC) (x179:IV) (h180:Hp) (r176 w177 r173 r171 r168 r164 w165 r161 r158:AC) (x5:IV) (ih:Aa) (x13:IV):OH :=
 Ad [] r181 w182 (Ar 0 x179 fun x183=>Ar 1 x179 fun x184=>AD 40909842 (.row [.fv (.int .i64 0),.fv (.int .i64 0),.nils] false) (.ptr (.own 40909842) 0) h180 fun x185 h186 r187 w188=>Ad [(r181,w182),(r176,w177),(r173,[]),(r171,[]),(r168,[]),(r164,w165),(r161,[]),(r158,[])] r187 w188 (Zn h186 x185 x183 x5 ih x13 x184))
def ZJ (r173 r171 r168 r164 w165 r161 r158:AC) (ih:Aa) (h163:Hp) (x172 x3 x162 x170 x5 x13:IV):OH :=
 Ad [(r171,[]),(r168,[]),(r164,w165),(r161,[]),(r158,[])] r173 [] (Ah [] false false ih 56 [x172,.fv (.int .i64 0)] h163 fun x174 h175 r176 w177=>Ad [(r171,[]),(r168,[])] r176 w177 (Bd EE 3 x3 (.fv (.int .i64 1)) fun x178=>Ah [] false false ih 39 [x162,x170,x174,x178] h175 fun x179 h180 r181 w182=>Xs r181 w182 x179 h180 r176 w177 r173 r171 r168 r164 w165 r161 r158 x5 ih x13))
def Zw (r168 r164 w165 r161 r158:AC) (x167:IV) (h163:Hp) (x9:IV) (ih:Aa) (x3 x162 x5 x13:IV):OH :=
 Ad [(r164,w165),(r161,[]),(r158,[])] r168 [] (AT 3 x167 (.fv (.int .i64 1)) fun x169=>Ag 3 x169 h163 fun x170 r171=>Ad [(r164,w165),(r161,[]),(r158,[])] r171 [] (Ag 3 x9 h163 fun x172 r173=>ZJ r173 r171 r168 r164 w165 r161 r158 ih h163 x172 x3 x162 x170 x5 x13))
def Zg (r161:AC) (ih:Aa) (h140:Hp) (x0 x160 x5:IV) (r158:AC) (x9 x3 x13:IV):OH :=
 Ad [] r161 [] (Ah [] false false ih 60 [x0,.fv (.int .i64 1),x160] h140 fun x162 h163 r164 w165=>Ad [] r164 w165 (Ab 2 x5 fun x166=>Ae x166 h163 fun x167 r168=>Zw r168 r164 w165 r161 r158 x167 h163 x9 ih x3 x162 x5 x13))
def Aba (x5:IV) (h140:Hp) (ih:Aa) (x0 x9 x3 x13:IV):OH :=
 Ab 2 x5 fun x156=>Ae x156 h140 fun x157 r158=>Ad [] r158 [] (AT 3 x157 (.fv (.int .i64 0)) fun x159=>Ag 3 x159 h140 fun x160 r161=>Zg r161 ih h140 x0 x160 x5 r158 x9 x3 x13)
def Y5 (h236:Hp) (x13 x240 x44:IV):OH :=
 Af 3 x13 x240 h236 fun h242 _ _=>As true 3 x13 h242 fun x245=>Al [x245,x44] h242
def AaL (h275:Hp) (x278 x280 x282:IV) (ih:Aa) (x13 x270:IV):OH :=
 Ay (Ak EE 28 3 [(0,x278),(1,x280),(2,x282)]) 40916995 h275 fun x284 h285 _ _=>Ah [] false false ih 24 [.fv (.int .i64 7),x284] h285 fun x288 h289 _ _=>Af 3 x13 x288 h289 fun h292 _ _=>As true 3 x13 h292 fun x295=>Al [x295,x270] h292
def XH (h272:Hp) (x271 x269 x5 x232:IV) (ih:Aa) (x13 x270:IV):OH :=
 Af 3 x271 x269 h272 fun h275 r276 w277=>Ad [] r276 w277 (Ag 3 x5 h275 fun x278 _=>Ag 3 x232 h275 fun x280 _=>Ag 3 x271 h275 fun x282 _=>AaL h275 x278 x280 x282 ih x13 x270)
def Y6 (r267 w268:AC) (x265:IV) (h266:Hp) (r262 w263 r259 r256 w257 r253 r251 r248:AC) (x5 x232:IV) (ih:Aa) (x13:IV):OH :=
 Ad [] r267 w268 (Ar 0 x265 fun x269=>Ar 1 x265 fun x270=>AD 40915983 (.row [.fv (.int .i64 0),.fv (.int .i64 0),.nils] false) (.ptr (.own 40915983) 0) h266 fun x271 h272 r273 w274=>Ad [(r267,w268),(r262,w263),(r259,[]),(r256,w257),(r253,[]),(r251,[]),(r248,[])] r273 w274 (XH h272 x271 x269 x5 x232 ih x13 x270))
def Abv (r259 r256 w257 r253 r251 r248:AC) (ih:Aa) (h255:Hp) (x258 x3 x0 x254 x5 x232 x13:IV):OH :=
 Ad [(r256,w257),(r253,[]),(r251,[]),(r248,[])] r259 [] (Ah [] false false ih 56 [x258,.fv (.int .i64 1)] h255 fun x260 h261 r262 w263=>Ad [] r262 w263 (Bd EE 3 x3 (.fv (.int .i64 1)) fun x264=>Ah [] false false ih 39 [x0,x254,x260,x264] h261 fun x265 h266 r267 w268=>Y6 r267 w268 x265 h266 r262 w263 r259 r256 w257 r253 r251 r248 x5 x232 ih x13))
def XZ (h236:Hp) (x232:IV) (r251 r248:AC) (ih:Aa) (x250 x9 x3 x0 x5 x13:IV):OH :=
 Ag 3 x232 h236 fun x252 r253=>Ad [(r251,[]),(r248,[])] r253 [] (Ah [] false false ih 67 [x250,.fv (.int .i64 0),x252] h236 fun x254 h255 r256 w257=>Ad [] r256 w257 (Ag 3 x9 h255 fun x258 r259=>Abv r259 r256 w257 r253 r251 r248 ih h255 x258 x3 x0 x254 x5 x232 x13))
def AaB (h236:Hp) (x246 x232:IV) (ih:Aa) (x9 x3 x0 x5 x13:IV):OH :=
 Ae x246 h236 fun x247 r248=>Ad [] r248 [] (AT 3 x247 (.fv (.int .i64 1)) fun x249=>Ag 3 x249 h236 fun x250 r251=>Ad [] r251 [] (XZ h236 x232 r251 r248 ih x250 x9 x3 x0 x5 x13))
def Aai (h233:Hp) (x232 x230 x231 x45 x13 x44 x5:IV) (ih:Aa) (x9 x3 x0:IV):OH :=
 Af 3 x232 x230 h233 fun h236 r237 w238=>Ad [] r237 w238 (CL (LR .not x231) fun x239=>Ai x239 (Ag 3 x45 h236 fun x240 _=>Y5 h236 x13 x240 x44) (Ab 2 x5 fun x246=>AaB h236 x246 x232 ih x9 x3 x0 x5 x13))
def Yj (r228 w229:AC) (x226:IV) (h227:Hp) (r223 w224 r220 r218 r215:AC) (x45 x13 x44 x5:IV) (ih:Aa) (x9 x3 x0:IV):OH :=
 Ad [] r228 w229 (Ar 0 x226 fun x230=>Ar 1 x226 fun x231=>AD 40912909 (.row [.fv (.int .i64 0),.fv (.int .i64 0),.nils] false) (.ptr (.own 40912909) 0) h227 fun x232 h233 r234 w235=>Ad [(r228,w229),(r223,w224),(r220,[]),(r218,[]),(r215,[])] r234 w235 (Aai h233 x232 x230 x231 x45 x13 x44 x5 ih x9 x3 x0))
def Abe (r220 r218 r215:AC) (ih:Aa) (h140:Hp) (x219 x3 x0 x217 x45 x13 x44 x5 x9:IV):OH :=
 Ad [(r218,[]),(r215,[])] r220 [] (Ah [] false false ih 56 [x219,.fv (.int .i64 0)] h140 fun x221 h222 r223 w224=>Ad [(r218,[]),(r215,[])] r223 w224 (Bd EE 3 x3 (.fv (.int .i64 1)) fun x225=>Ah [] false false ih 39 [x0,x217,x221,x225] h222 fun x226 h227 r228 w229=>Yj r228 w229 x226 h227 r223 w224 r220 r218 r215 x45 x13 x44 x5 ih x9 x3 x0))
def Wr (r215:AC) (x214:IV) (h140:Hp) (x9:IV) (ih:Aa) (x3 x0 x45 x13 x44 x5:IV):OH :=
 Ad [] r215 [] (AT 3 x214 (.fv (.int .i64 0)) fun x216=>Ag 3 x216 h140 fun x217 r218=>Ad [] r218 [] (Ag 3 x9 h140 fun x219 r220=>Abe r220 r218 r215 ih h140 x219 x3 x0 x217 x45 x13 x44 x5 x9))
def Aao (h320:Hp) (x323:IV) (ih:Aa) (x13 x315:IV):OH :=
 Ay (Ak EE 28 1 [(0,x323)]) 40920065 h320 fun x325 h326 _ _=>Ah [] false false ih 24 [.fv (.int .i64 19),x325] h326 fun x329 h330 _ _=>Af 3 x13 x329 h330 fun h333 _ _=>As true 3 x13 h333 fun x336=>Al [x336,x315] h333
def Zl (h311:Hp) (r312 w313 r307 w308 r304 r302 r299:AC) (x314:IV) (ih:Aa) (x13 x315:IV):OH :=
 AD 40919053 (.row [.fv (.int .i64 0),.fv (.int .i64 0),.nils] false) (.ptr (.own 40919053) 0) h311 fun x316 h317 r318 w319=>Ad [(r312,w313),(r307,w308),(r304,[]),(r302,[]),(r299,[])] r318 w319 (Af 3 x316 x314 h317 fun h320 r321 w322=>Ad [] r321 w322 (Ag 3 x316 h320 fun x323 _=>Aao h320 x323 ih x13 x315))
def AbD (x3:IV) (ih:Aa) (h306:Hp) (x0 x301 x305:IV) (r307 w308 r304 r302 r299:AC) (x13:IV):OH :=
 Bd EE 3 x3 (.fv (.int .i64 1)) fun x309=>Ah [] false false ih 33 [x0,x301,x305,x309] h306 fun x310 h311 r312 w313=>Ad [] r312 w313 (Ar 0 x310 fun x314=>Ar 1 x310 fun x315=>Zl h311 r312 w313 r307 w308 r304 r302 r299 x314 ih x13 x315)
def Xh (r302:AC) (h140:Hp) (x9:IV) (r299:AC) (ih:Aa) (x3 x0 x301 x13:IV):OH :=
 Ad [] r302 [] (Ag 3 x9 h140 fun x303 r304=>Ad [(r302,[]),(r299,[])] r304 [] (Ah [] false false ih 56 [x303,.fv (.int .i64 0)] h140 fun x305 h306 r307 w308=>Ad [(r302,[]),(r299,[])] r307 w308 (AbD x3 ih h306 x0 x301 x305 r307 w308 r304 r302 r299 x13)))
def Ye (x5:IV) (h140:Hp) (x9:IV) (ih:Aa) (x3 x0 x13:IV):OH :=
 Ab 2 x5 fun x297=>Ae x297 h140 fun x298 r299=>Ad [] r299 [] (AT 3 x298 (.fv (.int .i64 0)) fun x300=>Ag 3 x300 h140 fun x301 r302=>Xh r302 h140 x9 r299 ih x3 x0 x301 x13)
def Yh (h140:Hp) (x45 x13 x44:IV):OH :=
 Ag 3 x45 h140 fun x337 _=>Af 3 x13 x337 h140 fun h339 _ _=>As true 3 x13 h339 fun x342=>Al [x342,x44] h339
def WG (x136 x5:IV) (h140:Hp) (x9:IV) (ih:Aa) (x3 x0 x45 x13 x44:IV):OH :=
 AN EE 3 x136 (.fv (.int .i64 6)) fun x212=>Ai x212 (Ab 2 x5 fun x213=>Ae x213 h140 fun x214 r215=>Wr r215 x214 h140 x9 ih x3 x0 x45 x13 x44 x5) (AN EE 3 x136 (.fv (.int .i64 18)) fun x296=>Ai x296 (Ye x5 h140 x9 ih x3 x0 x13) (Yh h140 x45 x13 x44))
def Xj (x139:IV) (h140:Hp) (x5 x9:IV) (ih:Aa) (x0 x3 x13 x136 x45 x44:IV):OH :=
 Ai x139 (Ag 3 x5 h140 fun x141 _=>Ag 3 x9 h140 fun x143 _=>AaD ih h140 x0 x141 x143 x3 x13) (AN EE 3 x136 (.fv (.int .i64 3)) fun x155=>Ai x155 (Aba x5 h140 ih x0 x9 x3 x13) (WG x136 x5 h140 x9 ih x3 x0 x45 x13 x44))
def Z3 (x136:IV) (j1_138:IV→Hp→OH) (h117:Hp):OH :=
 AN EE 3 x136 (.fv (.int .i64 14)) fun x344=>Ai x344 (j1_138 x344 h117) (AN EE 3 x136 (.fv (.int .i64 2)) fun x345=>j1_138 x345 h117)
def X9 (x5:IV) (h117:Hp) (x9:IV) (ih:Aa) (x0 x3 x13 x45 x44:IV):OH :=
 Ab 0 x5 fun x135=>Ae x135 h117 fun x136 _=>(fun (j1_138:IV→Hp→OH)=>AN EE 3 x136 (.fv (.int .i64 10)) fun x343=>Ai x343 (j1_138 x343 h117) (Z3 x136 j1_138 h117)) fun x139 h140=>Xj x139 h140 x5 x9 ih x0 x3 x13 x136 x45 x44
def Ab4 (h99:Hp) (x95 x98:IV) (ih:Aa) (x5 x9 x0 x3 x13 x45 x44:IV):OH :=
 Ac x95 true h99 (fun k102=>Ae x98 h99 fun x103 r104=>k102 x103 h99 r104 []) fun x105 h106 _ _=>Ac x95 true h106 (fun k109=>Ah [] false false ih 55 [x105,.fv (.int .i64 7)] h106 k109) fun x110 h111 _ _=>Ac x95 true h111 (fun k114=>AN EE 3 x110 (.fv (.int .i64 6)) fun x115=>k114 x115 h111 [] []) fun x116 h117 _ _=>AI x95 x116 (.fv (.bool false)) fun x120=>Ai x120 (WD h117 x5 x9 ih x0 x3 x13) (X9 x5 h117 x9 ih x0 x3 x13 x45 x44)
def Yi (x88:IV) (h85:Hp) (x45 x13 x44 x3 x9:IV) (ih:Aa) (x5 x0:IV):OH :=
 Ai x88 (Ag 3 x45 h85 fun x89 _=>Af 3 x13 x89 h85 fun h91 _ _=>YO h91 x13 x44) (Ke EE 3 x3 (.fv (.int .i64 0)) fun x95=>Ac x95 true h85 (fun k96=>Ab 0 x9 fun x97=>k96 x97 h85 [] []) fun x98 h99 _ _=>Ab4 h99 x95 x98 ih x5 x9 x0 x3 x13 x45 x44)
def AbY (h67:Hp) (x44 x66 x3 x45 x13 x9:IV) (ih:Aa) (x5 x0:IV):OH :=
 Ac x44 true h67 (fun k70=>AN EE 3 x66 (.fv (.int .i64 0)) fun x71=>k70 x71 h67 [] []) fun x72 h73 _ _=>AI x44 x72 (.fv (.bool false)) fun x76=>Ac x76 false h73 (fun k77=>k77 x3 h73 [] []) fun x78 h79 _ _=>Ac x76 false h79 (fun k82=>F8 EE 3 x78 (.fv (.int .i64 (-4))) fun x83=>k82 x83 h79 [] []) fun x84 h85 _ _=>AI x76 (.fv (.bool true)) x84 fun x88=>Yi x88 h85 x45 x13 x44 x3 x9 ih x5 x0
def AbL (h40:Hp) (x43 x44 x9:IV) (ih:Aa) (x3 x13 x5 x0:IV):OH :=
 AD 40898568 (.row [.fv (.int .i64 0),.fv (.int .i64 0),.nils] false) (.ptr (.own 40898568) 0) h40 fun x45 h46 _ _=>Af 3 x45 x43 h46 fun h49 _ _=>Ac x44 true h49 (fun k52=>Ab 0 x9 fun x53=>k52 x53 h49 [] []) fun x54 h55 _ _=>Ac x44 true h55 (fun k58=>Ae x54 h55 fun x59 r60=>k58 x59 h55 r60 []) fun x61 h62 _ _=>Ac x44 true h62 (fun k65=>Ah [] false false ih 55 [x61,.fv (.int .i64 3)] h62 k65) fun x66 h67 _ _=>AbY h67 x44 x66 x3 x45 x13 x9 ih x5 x0
def AbM (x9:IV) (h25:Hp) (ih:Aa) (x0 x34 x3 x13 x5:IV):OH :=
 Ab 1 x9 fun x36=>Ae x36 h25 fun x37 _=>Ah [] false false ih 58 [x0,.fv (.int .i64 1),x34,x37] h25 fun x39 h40 _ _=>Ar 0 x39 fun x43=>Ar 1 x39 fun x44=>AbL h40 x43 x44 x9 ih x3 x13 x5 x0
def Zi (x19:IV) (h20:Hp) (x5 x23 x13 x9:IV) (ih:Aa) (x0 x3:IV):OH :=
 Ar 1 x19 fun x24=>Af 3 x5 x23 h20 fun h25 _ _=>Ch EE 3 x24 (.fv (.int .i64 0)) fun x28=>Ai x28 (Bw [.fv (.int .i64 0),.fv (.int .i64 0),.nils] [] fun x29=>Y9 h25 x13 x29) (Ag 3 x5 h25 fun x34 _=>AbM x9 h25 ih x0 x34 x3 x13 x5)
def S39 (ih:Aa) (n:Nat) (x0 x1 x2 x3:IV) (h4:Hp):OH :=
 AX 40894464 x1 h4 fun x5 h6 _ _=>AX 40894465 x2 h6 fun x9 h10 _ _=>AD 40894466 (.row [.fv (.int .i64 0),.fv (.int .i64 0),.nils] false) (.ptr (.own 40894466) 0) h10 fun x13 h14 _ _=>Ag 3 x5 h14 fun x17 _=>Ah [] false false ih 34 [x17] h14 fun x19 h20 _ _=>Ar 0 x19 fun x23=>Zi x19 h20 x5 x23 x13 x9 ih x0 x3
theorem AnF (ih:Aa) (n:Nat) (x0 x1 x2 x3:IV) (h4:Hp):Aw EE ih ft.get n 39 [x0,x1,x2,x3] h4=S39 ih n x0 x1 x2 x3 h4:=by kernel_rfl
def S40 (ih:Aa) (n:Nat) (x0:IV) (h1:Hp):OH :=
 AX 41943040 x0 h1 fun x2 h3 _ _=>Ag 3 x2 h3 fun x6 _=>AD 41944065 (.row [.fv (.int .i64 0)] false) (.ptr (.own 41944065) 0) h3 fun x8 h9 _ _=>Ah [false,true,false] false false ih 68 [x6,x8,.fv (.int .i64 1)] h9 fun x12 h13 _ _=>Al [x12] h13
theorem Ap7 (ih:Aa) (n:Nat) (x0:IV) (h1:Hp):Aw EE ih ft.get n 40 [x0] h1=S40 ih n x0 h1:=by kernel_rfl
def NW (h13:Hp) (x6:IV):OH :=
 Bw [.fv (.int .i64 0),.fv (.int .i64 0),.nils] [] fun x17=>Af 3 x6 x17 h13 fun h18 _ _=>As true 3 x6 h18 fun x21=>Al [x21,.fv (.int .i64 1)] h18
def Oe (r43 w44 r41:AC) (h42:Hp) (x6 x40:IV):OH :=
 Ad [(r41,[])] r43 w44 (As true 3 x6 h42 fun x45=>Al [x45,x40] h42)
def N5 (x22:IV) (h29:Hp) (x6 x37:IV):OH :=
 AH x22 fun x38=>Ab 3 x38 fun x39=>Ae x39 h29 fun x40 r41=>Ad [] r41 [] (Af 3 x6 x37 h29 fun h42 r43 w44=>Oe r43 w44 r41 h42 x6 x40)
def Nh (h67:Hp) (x6 x65:IV):OH :=
 As true 3 x6 h67 fun x70=>Al [x70,x65] h67
def M7 (x63:IV) (h54:Hp) (x6 x62:IV):OH :=
 Ab 3 x63 fun x64=>Ae x64 h54 fun x65 r66=>Ad [] r66 [] (Af 3 x6 x62 h54 fun h67 r68 w69=>Ad [(r66,[])] r68 w69 (Nh h67 x6 x65))
def MT (h73:Hp) (x6:IV):OH :=
 As true 3 x6 h73 fun x76=>Al [x76,.fv (.int .i64 0)] h73
def On (x59 x22:IV) (h54:Hp) (x6 x50:IV):OH :=
 Ch EE 36 x59 (.fv (.int .i64 0)) fun x61=>Ai x61 (Bw [.fv (.int .i64 0),.fv (.int .i64 0),.nils] [] fun x62=>AH x22 fun x63=>M7 x63 h54 x6 x62) (Ag 3 x50 h54 fun x71 _=>Af 3 x6 x71 h54 fun h73 _ _=>MT h73 x6)
def Nt (h47:Hp) (x46 x22 x6:IV):OH :=
 AD 42998787 (.row [.fv (.int .i64 0),.fv (.int .i64 0),.nils] false) (.ptr (.own 42998787) 0) h47 fun x50 h51 _ _=>Af 3 x50 x46 h51 fun h54 _ _=>AH x22 fun x57=>Ab 3 x57 fun x58=>Ae x58 h54 fun x59 _=>On x59 x22 h54 x6 x50
def Oi (h29:Hp) (x33 x22 x6:IV) (ih:Aa) (x28:IV):OH :=
 Ae x33 h29 fun x34 _=>Ch EE 36 x34 (.fv (.int .i64 0)) fun x36=>Ai x36 (Bw [.fv (.int .i64 0),.fv (.int .i64 0),.nils] [] fun x37=>N5 x22 h29 x6 x37) (Ah [true,false,false,false] false false ih 72 [x22,x28,.fv (.int .i64 0),.fv (.int .i64 1)] h29 fun x46 h47 _ _=>Nt h47 x46 x22 x6)
def Na (ih:Aa) (h13:Hp) (x2 x6:IV):OH :=
 Af9 ih 70 [] h13 fun x22 h23 _ _=>Ag 3 x2 h23 fun x26 _=>Ah [true,false,false] false false ih 71 [x22,.fv .nilp,x26] h23 fun x28 h29 _ _=>AH x22 fun x32=>Ab 3 x32 fun x33=>Oi h29 x33 x22 x6 ih x28
def S41 (ih:Aa) (n:Nat) (x0:IV) (h1:Hp):OH :=
 AX 42991616 x0 h1 fun x2 h3 _ _=>AD 42991617 (.row [.fv (.int .i64 0),.fv (.int .i64 0),.nils] false) (.ptr (.own 42991617) 0) h3 fun x6 h7 _ _=>Ag 3 x2 h7 fun x10 _=>Ah [] false false ih 69 [x10] h7 fun x12 h13 _ _=>CL (LR .not x12) fun x16=>Ai x16 (NW h13 x6) (Na ih h13 x2 x6)
theorem Ao5 (ih:Aa) (n:Nat) (x0:IV) (h1:Hp):Aw EE ih ft.get n 41 [x0] h1=S41 ih n x0 h1:=by kernel_rfl
def Ol (h23:Hp) (x26 x19:IV) (ih:Aa):OH :=
 Ae x26 h23 fun x27 _=>Ay (val (CV (.func 74) [] [x19])) 44049410 h23 fun x29 h30 _ _=>Ah [] false false ih 73 [x27,x29] h30 fun x33 h34 _ _=>CL (LR .not x33) fun x37=>Al [x37] h34
def M0 (h12:Hp) (x3 x7:IV) (ih:Aa):OH :=
 Ag 2 x3 h12 fun x13 _=>Ay (val (CV (.func 42) [x13] [])) 44048385 h12 fun x15 h16 _ _=>AD 44048386 (.row [.fv (.nilf)] false) (.ptr (.own 44048386) 0) h16 fun x19 h20 _ _=>A9 x19 x15 h20 fun h23 _ _=>Ab 2 x7 fun x26=>Ol h23 x26 x19 ih
def Nf (h61:Hp) (x50 x3 x60:IV) (j0_11:Hp→OH):OH :=
 Ac x50 false h61 (fun k64=>Ab 1 x3 fun x65=>k64 x65 h61 [] []) fun x66 h67 _ _=>Ac x50 false h67 (fun k70=>Ae x66 h67 fun x71 r72=>k70 x71 h67 r72 []) fun x73 h74 _ _=>Ac x50 false h74 (fun k77=>Ke EE 3 x60 x73 fun x78=>k77 x78 h74 [] []) fun x79 h80 _ _=>AI x50 (.fv (.bool true)) x79 fun x83=>Ai x83 (Al [.fv (.bool false)] h80) (j0_11 h80)
def Ov (x3:IV) (h43:Hp) (x45 x7:IV) (j0_11:Hp→OH):OH :=
 Ab 0 x3 fun x47=>Ae x47 h43 fun x48 _=>F8 EE 3 x45 x48 fun x50=>Ac x50 false h43 (fun k51=>Ab 0 x7 fun x52=>k51 x52 h43 [] []) fun x53 h54 _ _=>Ac x50 false h54 (fun k57=>Ae x53 h54 fun x58 r59=>k57 x58 h54 r59 []) fun x60 h61 _ _=>Nf h61 x50 x3 x60 j0_11
def Oq (x42:IV) (j0_11:Hp→OH) (h43:Hp) (x7 x3:IV):OH :=
 Ai x42 (j0_11 h43) (Ab 0 x7 fun x44=>Ae x44 h43 fun x45 _=>Ov x3 h43 x45 x7 j0_11)
def OA (x39:IV) (j1_41:IV→Hp→OH) (h8:Hp):OH :=
 AN EE 3 x39 (.fv (.int .i64 16)) fun x86=>Ai x86 (j1_41 x86 h8) (AN EE 3 x39 (.fv (.int .i64 17)) fun x87=>j1_41 x87 h8)
def MV (x39:IV) (j1_41:IV→Hp→OH) (h8:Hp):OH :=
 AN EE 3 x39 (.fv (.int .i64 1)) fun x84=>Ai x84 (j1_41 x84 h8) (AN EE 3 x39 (.fv (.int .i64 15)) fun x85=>Ai x85 (j1_41 x85 h8) (OA x39 j1_41 h8))
def S42 (ih:Aa) (n:Nat) (x0 x1:IV) (h2:Hp):OH :=
 AX 44040192 x0 h2 fun x3 h4 _ _=>AX 44040193 x1 h4 fun x7 h8 _ _=>(fun (j0_11:Hp→OH)=>Ab 0 x7 fun x38=>Ae x38 h8 fun x39 _=>(fun (j1_41:IV→Hp→OH)=>MV x39 j1_41 h8) fun x42 h43=>Oq x42 j0_11 h43 x7 x3) fun h12=>M0 h12 x3 x7 ih
theorem Aoa (ih:Aa) (n:Nat) (x0 x1:IV) (h2:Hp):Aw EE ih ft.get n 42 [x0,x1] h2=S42 ih n x0 x1 h2:=by kernel_rfl
def S44 (ih:Aa) (n:Nat) (x0:IV) (h1:Hp):OH :=
 AD 46137344 (.row [.fv (.int .i64 0),.fv (.int .i64 0),.nils] false) (.ptr (.own 46137344) 0) h1 fun x2 h3 _ _=>Bw [.fv (.int .i64 0),.fv (.int .i64 0),.nils] [] fun x6=>Af 3 x2 x6 h3 fun h7 _ _=>As true 3 x2 h7 fun x10=>Al [x10,x0] h7
theorem ApC (ih:Aa) (n:Nat) (x0:IV) (h1:Hp):Aw EE ih ft.get n 44 [x0] h1=S44 ih n x0 h1:=by kernel_rfl
def F7 (h68:Hp) (x71 x67 x36:IV) (h3:Hp) (x31 x32 x33 x34 x35:IV) (q28:List IV→Hp→OH):OH :=
 A9 x71 x67 h68 fun h72 r73 w74=>Ad [] r73 w74 (Bp EE 3 x36 (.fv (.int .i64 1)) fun x75=>Bs (h3.own.map (·.1)) [47193104] [x31,x32,x33,x34,x35,x75] h72 fun h76=>q28 [x31,x32,x33,x34,x35,x75] h76)
def F4 (h60:Hp) (x59:IV) (r44:AC) (x43 x35 x36:IV) (h3:Hp) (x31 x32 x33 x34:IV) (q28:List IV→Hp→OH):OH :=
 Ay (Ak EE 28 1 [(0,x59)]) 47193103 h60 fun x63 h64 r65 w66=>Ad [(r44,[])] r65 w66 (Ay (AS EE 47193104 false .append [28,28] [x43,x63]) 47193104 h64 fun x67 h68 r69 w70=>Ad [] r69 w70 (Ab 2 x35 fun x71=>F7 h68 x71 x67 x36 h3 x31 x32 x33 x34 x35 q28))
def FZ (ih:Aa) (h30:Hp) (x52 x36:IV) (r50 r47 r44:AC) (x32 x49 x31 x43 x35:IV) (h3:Hp) (x33 x34:IV) (q28:List IV→Hp→OH):OH :=
 Ah [] false false ih 54 [x52,x36] h30 fun x54 h55 r56 w57=>Ad [(r50,[]),(r47,[]),(r44,[])] r56 w57 (Bp EE 3 x32 x54 fun x58=>Ah [] false false ih 45 [x49,x31,x58] h55 fun x59 h60 r61 w62=>Ad [(r44,[])] r61 w62 (F4 h60 x59 r44 x43 x35 x36 h3 x31 x32 x33 x34 q28))
def F5 (h30:Hp) (x48:IV) (r44:AC) (x33:IV) (r47:AC) (ih:Aa) (x36 x32 x31 x43 x35:IV) (h3:Hp) (x34:IV) (q28:List IV→Hp→OH):OH :=
 Ag 3 x48 h30 fun x49 r50=>Ad [(r44,[])] r50 [] (Ab 0 x33 fun x51=>Ae x51 h30 fun x52 r53=>Ad [(r50,[]),(r47,[]),(r44,[])] r53 [] (FZ ih h30 x52 x36 r50 r47 r44 x32 x49 x31 x43 x35 h3 x33 x34 q28))
def Gn (r44:AC) (x33:IV) (h30:Hp) (x36:IV) (ih:Aa) (x32 x31 x43 x35:IV) (h3:Hp) (x34:IV) (q28:List IV→Hp→OH):OH :=
 Ad [] r44 [] (Ab 2 x33 fun x45=>Ae x45 h30 fun x46 r47=>Ad [(r44,[])] r47 [] (AT 3 x46 x36 fun x48=>F5 h30 x48 r44 x33 r47 ih x36 x32 x31 x43 x35 h3 x34 q28))
def Gd (h79:Hp) (x34:IV):OH :=
 As true 3 x34 h79 fun x82=>Al [x82] h79
def Gm (x41 x35:IV) (h30:Hp) (x33 x36:IV) (ih:Aa) (x32 x31:IV) (h3:Hp) (x34:IV) (q28:List IV→Hp→OH):OH :=
 Ai x41 (Ab 2 x35 fun x42=>Ae x42 h30 fun x43 r44=>Gn r44 x33 h30 x36 ih x32 x31 x43 x35 h3 x34 q28) (Ag 3 x35 h30 fun x77 _=>Af 3 x34 x77 h30 fun h79 _ _=>Gd h79 x34)
def Ge (l87:List IV) (x33:IV) (h30:Hp) (x35:IV) (ih:Aa) (x32 x31:IV) (h3:Hp) (x34:IV) (q28:List IV→Hp→OH):OH :=
 AA l87 fun x36 _=>Ab 2 x33 fun x37=>Ae x37 h30 fun x38 _=>B0 x38 fun x40=>F8 EE 3 x36 x40 fun x41=>Gm x41 x35 h30 x33 x36 ih x32 x31 h3 x34 q28
def IC (l29:List IV) (h30:Hp) (ih:Aa) (h3:Hp) (q28:List IV→Hp→OH):OH :=
 AA l29 fun x31 l83=>AA l83 fun x32 l84=>AA l84 fun x33 l85=>AA l85 fun x34 l86=>AA l86 fun x35 l87=>Ge l87 x33 h30 x35 ih x32 x31 h3 x34 q28
def FQ (h3 h27:Hp) (x1 x2 x4 x8 x19:IV) (n:Nat) (ih:Aa):OH :=
 Bs (h3.own.map (·.1)) [47193104] [x1,x2,x4,x8,x19,.fv (.int .i64 0)] h27 fun h89=>By n (fun q28 l29 h30=>IC l29 h30 ih h3 q28) [x1,x2,x4,x8,x19,.fv (.int .i64 0)] h89
def Gh (h115:Hp) (x119 x1 x19:IV) (j0_26:Hp→OH):OH :=
 Ae x119 h115 fun x120 _=>Bp EE 3 x120 x1 fun x122=>Ab 1 x19 fun x123=>A9 x123 x122 h115 fun h124 _ _=>j0_26 h124
def F9 (h109:Hp) (x93 x103 x108 x4 x1 x19:IV) (j0_26:Hp→OH):OH :=
 Ac x93 true h109 (fun k112=>Uv EE 3 x103 x108 fun x113=>k112 x113 h109 [] []) fun x114 h115 _ _=>AI x93 x114 (.fv (.bool false)) fun x118=>Ai x118 (Ab 1 x4 fun x119=>Gh h115 x119 x1 x19 j0_26) (j0_26 h115)
def Gj (h23:Hp) (x90 x4 x2 x1 x19:IV) (j0_26:Hp→OH):OH :=
 Ae x90 h23 fun x91 _=>AN EE 3 x91 (.fv (.int .i64 1)) fun x93=>Ac x93 true h23 (fun k94=>Ab 1 x4 fun x95=>k94 x95 h23 [] []) fun x96 h97 _ _=>Ac x93 true h97 (fun k100=>Ae x96 h97 fun x101 r102=>k100 x101 h97 r102 []) fun x103 h104 _ _=>Ac x93 true h104 (fun k107=>k107 x2 h104 [] []) fun x108 h109 _ _=>F9 h109 x93 x103 x108 x4 x1 x19 j0_26
def Gg (x13 x16:IV) (h9 h3:Hp) (x1 x2 x4 x8:IV) (n:Nat) (ih:Aa):OH :=
 Bw [.fv (.int .i64 0),.fv (.int .i64 0),.nils] [(0,1,x13),(1,1,x16)] fun x18=>AD 47186949 (.row [.fv (.int .i64 0),.fv (.int .i64 0),.nils] false) (.ptr (.own 47186949) 0) h9 fun x19 h20 _ _=>Af 3 x19 x18 h20 fun h23 _ _=>(fun (j0_26:Hp→OH)=>Ab 0 x4 fun x90=>Gj h23 x90 x4 x2 x1 x19 j0_26) fun h27=>FQ h3 h27 x1 x2 x4 x8 x19 n ih
def S45 (ih:Aa) (n:Nat) (x0 x1 x2:IV) (h3:Hp):OH :=
 AX 47185920 x0 h3 fun x4 h5 _ _=>AD 47185921 (.row [.fv (.int .i64 0),.fv (.int .i64 0),.nils] false) (.ptr (.own 47185921) 0) h5 fun x8 h9 _ _=>Ab 0 x4 fun x12=>Ae x12 h9 fun x13 _=>Ab 1 x4 fun x15=>Ae x15 h9 fun x16 _=>Gg x13 x16 h9 h3 x1 x2 x4 x8 n ih
theorem Apb (ih:Aa) (n:Nat) (x0 x1 x2:IV) (h3:Hp):Aw EE ih ft.get n 45 [x0,x1,x2] h3=S45 ih n x0 x1 x2 h3:=by kernel_rfl
def Ajh (h33:Hp) (x7 x40:IV):OH :=
 Af 3 x7 x40 h33 fun h42 _ _=>As true 3 x7 h42 fun x45=>Al [x45,.fv (.int .i64 0)] h42
def AiP (x54:IV) (h55:Hp) (x7 x58:IV):OH :=
 Ar 1 x54 fun x59=>Af 3 x7 x58 h55 fun h60 _ _=>As true 3 x7 h60 fun x63=>Al [x63,x59] h60
def Aic (h66:Hp) (x7:IV):OH :=
 As true 3 x7 h66 fun x69=>Al [x69,.fv (.int .i64 0)] h66
def Ajl (x49:IV) (ih:Aa) (h50:Hp) (x7 x29:IV):OH :=
 Ch EE 3 x49 (.fv (.int .i64 0)) fun x53=>Ai x53 (Ah [] false false ih 44 [x49] h50 fun x54 h55 _ _=>Ar 0 x54 fun x58=>AiP x54 h55 x7 x58) (Ag 3 x29 h50 fun x64 _=>Af 3 x7 x64 h50 fun h66 _ _=>Aic h66 x7)
def Ak6 (x81:IV) (h82:Hp) (x7:IV):OH :=
 Ar 0 x81 fun x85=>Ar 1 x81 fun x86=>Af 3 x7 x85 h82 fun h87 _ _=>As true 3 x7 h87 fun x90=>Al [x90,x86] h87
def Ai2 (ih:Aa) (h107:Hp) (x102 x7:IV):OH :=
 Ah [] false false ih 44 [x102] h107 fun x111 h112 _ _=>Ar 0 x111 fun x115=>Ar 1 x111 fun x116=>Af 3 x7 x115 h112 fun h117 _ _=>As true 3 x7 h117 fun x120=>Al [x120,x116] h117
def Ais (h140:Hp) (x7 x139:IV):OH :=
 As true 3 x7 h140 fun x143=>Al [x143,x139] h140
def Ai0 (r136 w137:AC) (x134:IV) (h135:Hp) (x7:IV):OH :=
 Ad [] r136 w137 (Ar 0 x134 fun x138=>Ar 1 x134 fun x139=>Af 3 x7 x138 h135 fun h140 r141 w142=>Ad [] r141 w142 (Ais h140 x7 x139))
def AhT (h107:Hp) (x122 x124:IV) (ih:Aa) (x7:IV):OH :=
 Ay (Ak EE 28 2 [(0,x122),(1,x124)]) 48253956 h107 fun x126 h127 r128 w129=>Ad [] r128 w129 (Ah [] false false ih 24 [.fv (.int .i64 16),x126] h127 fun x130 h131 r132 w133=>Ad [] r132 w133 (Ah [] false false ih 34 [x130] h131 fun x134 h135 r136 w137=>Ai0 r136 w137 x134 h135 x7))
def AiC (x12:IV) (h107:Hp) (x103:IV) (ih:Aa) (x7:IV):OH :=
 AT 3 x12 (.fv (.int .i64 0)) fun x121=>Ag 3 x121 h107 fun x122 r123=>Ad [] r123 [] (Ag 3 x103 h107 fun x124 r125=>Ad [(r123,[])] r125 [] (AhT h107 x122 x124 ih x7))
def Ah9 (r105 w106 r99 w100 r96 r93:AC) (h104:Hp) (x103 x101 x102:IV) (ih:Aa) (x7 x12:IV):OH :=
 Ad [(r99,w100),(r96,[]),(r93,[])] r105 w106 (Af 3 x103 x101 h104 fun h107 r108 w109=>Ad [] r108 w109 (Ch EE 3 x102 (.fv (.int .i64 0)) fun x110=>Ai x110 (Ai2 ih h107 x102 x7) (AiC x12 h107 x103 ih x7)))
def Ah2 (ih:Aa) (h77:Hp) (x0 x92 x95:IV) (r96 r93:AC) (x7 x12:IV):OH :=
 Ah [] false false ih 78 [x0,x92,x95] h77 fun x97 h98 r99 w100=>Ad [] r99 w100 (Ar 0 x97 fun x101=>Ar 1 x97 fun x102=>AD 48250891 (.row [.fv (.int .i64 0),.fv (.int .i64 0),.nils] false) (.ptr (.own 48250891) 0) h98 fun x103 h104 r105 w106=>Ah9 r105 w106 r99 w100 r96 r93 h104 x103 x101 x102 ih x7 x12)
def Ahf (h77:Hp) (x91 x12:IV) (ih:Aa) (x0 x7:IV):OH :=
 Ag 3 x91 h77 fun x92 r93=>Ad [] r93 [] (AT 3 x12 (.fv (.int .i64 1)) fun x94=>Ag 3 x94 h77 fun x95 r96=>Ad [(r93,[])] r96 [] (Ah2 ih h77 x0 x92 x95 r96 r93 x7 x12))
def AhD (ih:Aa) (h33:Hp) (x0 x72 x74 x7 x12:IV):OH :=
 Ah [] false false ih 48 [x0,.fv (.int .i64 1),x72,x74] h33 fun x76 h77 r78 w79=>Ad [] r78 w79 (Ch EE 3 x76 (.fv (.int .i64 0)) fun x80=>Ai x80 (Ah [] false false ih 44 [x76] h77 fun x81 h82 _ _=>Ak6 x81 h82 x7) (AT 3 x12 (.fv (.int .i64 0)) fun x91=>Ahf h77 x91 x12 ih x0 x7))
def Alz (x12:IV) (h33:Hp) (x18:IV) (ih:Aa) (x0 x7:IV):OH :=
 AT 3 x12 (.fv (.int .i64 0)) fun x71=>Ag 3 x71 h33 fun x72 r73=>Ad [] r73 [] (Ag 3 x18 h33 fun x74 r75=>Ad [(r73,[])] r75 [] (AhD ih h33 x0 x72 x74 x7 x12))
def Ajv (x158:IV) (h159:Hp) (x7 x162:IV):OH :=
 Ar 1 x158 fun x163=>Af 3 x7 x162 h159 fun h164 _ _=>As true 3 x7 h164 fun x167=>Al [x167,x163] h164
def Ajk (ih:Aa) (h156:Hp) (x169 x7:IV):OH :=
 Ah [] false false ih 34 [x169] h156 fun x171 h172 _ _=>Ar 0 x171 fun x175=>Ar 1 x171 fun x176=>Af 3 x7 x175 h172 fun h177 _ _=>As true 3 x7 h177 fun x180=>Al [x180,x176] h177
def Ahk (x155:IV) (ih:Aa) (h156:Hp) (x7 x12:IV):OH :=
 Ch EE 3 x155 (.fv (.int .i64 0)) fun x157=>Ai x157 (Ah [] false false ih 44 [x155] h156 fun x158 h159 _ _=>Ar 0 x158 fun x162=>Ajv x158 h159 x7 x162) (AT 3 x12 (.fv (.int .i64 0)) fun x168=>Ag 3 x168 h156 fun x169 _=>Ajk ih h156 x169 x7)
def AkV (ih:Aa) (h186:Hp) (x193:IV) (r191:AC) (x185 x190:IV) (j1_154:IV→Hp→OH):OH :=
 Ah [] false false ih 45 [x193,.fv (.int .i64 1),.fv (.int .i64 0)] h186 fun x195 h196 r197 w198=>Ad [(r191,[])] r197 w198 (Ah [] false false ih 48 [x185,.fv (.int .i64 0),x190,x195] h196 fun x199 h200 r201 w202=>Ad [] r201 w202 (j1_154 x199 h200))
def Ait (h186:Hp) (x189:IV) (r187 w188 r184:AC) (x12:IV) (ih:Aa) (x185:IV) (j1_154:IV→Hp→OH):OH :=
 Ag 3 x189 h186 fun x190 r191=>Ad [(r187,w188),(r184,[])] r191 [] (AT 3 x12 (.fv (.int .i64 0)) fun x192=>Ag 3 x192 h186 fun x193 r194=>Ad [(r191,[]),(r187,w188),(r184,[])] r194 [] (AkV ih h186 x193 r191 x185 x190 j1_154))
def Ajw (h151:Hp) (x182:IV) (ih:Aa) (x0 x12:IV) (j1_154:IV→Hp→OH):OH :=
 Ag 3 x182 h151 fun x183 r184=>Ad [] r184 [] (Ah [] false false ih 79 [x0,.fv (.int .i64 0),x183] h151 fun x185 h186 r187 w188=>Ad [] r187 w188 (AT 3 x12 (.fv (.int .i64 1)) fun x189=>Ait h186 x189 r187 w188 r184 x12 ih x185 j1_154))
def AlY (ih:Aa) (x7 x12 x150:IV) (h151:Hp) (x0:IV):OH :=
 (fun (j1_154:IV→Hp→OH)=>AN EE 3 x150 (.fv (.int .i64 0)) fun x181=>Ai x181 (AT 3 x12 (.fv (.int .i64 0)) fun x182=>Ajw h151 x182 ih x0 x12 j1_154) (j1_154 x150 h151)) fun x155 h156=>Ahk x155 ih h156 x7 x12
def Amp (r147:AC) (h33:Hp) (x18:IV) (ih:Aa) (x0 x146 x7 x12:IV):OH :=
 Ad [] r147 [] (Ag 3 x18 h33 fun x148 r149=>Ad [(r147,[])] r149 [] (Ah [] false false ih 48 [x0,.fv (.int .i64 1),x146,x148] h33 fun x150 h151 r152 w153=>Ad [] r152 w153 (AlY ih x7 x12 x150 h151 x0)))
def Ald (x221:IV) (h222:Hp) (x7:IV):OH :=
 Ar 0 x221 fun x225=>Ar 1 x221 fun x226=>Af 3 x7 x225 h222 fun h227 _ _=>As true 3 x7 h227 fun x230=>Al [x230,x226] h227
def Akf (h242:Hp) (x7 x241:IV):OH :=
 As true 3 x7 h242 fun x245=>Al [x245,x241] h242
def AhL (r238 w239:AC) (x236:IV) (h237:Hp) (x7:IV):OH :=
 Ad [] r238 w239 (Ar 0 x236 fun x240=>Ar 1 x236 fun x241=>Af 3 x7 x240 h237 fun h242 r243 w244=>Ad [] r243 w244 (Akf h242 x7 x241))
def Akr (r232:AC) (x12:IV) (h217:Hp) (ih:Aa) (x0 x231 x7:IV):OH :=
 Ad [] r232 [] (AT 3 x12 (.fv (.int .i64 1)) fun x233=>Ag 3 x233 h217 fun x234 r235=>Ad [(r232,[])] r235 [] (Ah [] false false ih 78 [x0,x231,x234] h217 fun x236 h237 r238 w239=>AhL r238 w239 x236 h237 x7))
def Al6 (h208:Hp) (x211 x212:IV) (ih:Aa) (x7 x12 x0:IV):OH :=
 AD 48263176 (.row [.fv (.int .i64 0),.fv (.int .i64 0),.nils] false) (.ptr (.own 48263176) 0) h208 fun x213 h214 _ _=>Af 3 x213 x211 h214 fun h217 _ _=>Ch EE 3 x212 (.fv (.int .i64 0)) fun x220=>Ai x220 (Ah [] false false ih 44 [x212] h217 fun x221 h222 _ _=>Ald x221 h222 x7) (Ag 3 x213 h217 fun x231 r232=>Akr r232 x12 h217 ih x0 x231 x7)
def AjT (x12:IV) (h33:Hp) (ih:Aa) (x0 x7:IV):OH :=
 AT 3 x12 (.fv (.int .i64 0)) fun x204=>Ag 3 x204 h33 fun x205 _=>Ah [] false false ih 20 [x0,.fv (.int .i64 0),x205] h33 fun x207 h208 _ _=>Ar 0 x207 fun x211=>Ar 1 x207 fun x212=>Al6 h208 x211 x212 ih x7 x12 x0
def AhK (x264:IV) (h265:Hp) (x7 x268:IV):OH :=
 Ar 1 x264 fun x269=>Af 3 x7 x268 h265 fun h270 _ _=>As true 3 x7 h270 fun x273=>Al [x273,x269] h270
def AkJ (x275:IV) (h260:Hp) (x7:IV):OH :=
 AT 3 x275 (.fv (.int .i64 0)) fun x277=>Ag 3 x277 h260 fun x278 _=>Af 3 x7 x278 h260 fun h280 _ _=>As true 3 x7 h280 fun x283=>Al [x283,.fv (.int .i64 0)] h280
def Akx (x255:IV) (ih:Aa) (h260:Hp) (x7 x256:IV):OH :=
 Ch EE 3 x255 (.fv (.int .i64 0)) fun x263=>Ai x263 (Ah [] false false ih 44 [x255] h260 fun x264 h265 _ _=>Ar 0 x264 fun x268=>AhK x264 h265 x7 x268) (Ab 2 x256 fun x274=>Ae x274 h260 fun x275 _=>AkJ x275 h260 x7)
def Ajy (ih:Aa) (h33:Hp) (x0 x248 x7:IV):OH :=
 Ah [] false false ih 80 [x0,.fv (.int .i64 1),x248,.fv (.int .i64 18)] h33 fun x250 h251 _ _=>Ar 0 x250 fun x254=>Ar 1 x250 fun x255=>AD 48268296 (.row [.fv (.int .i64 0),.fv (.int .i64 0),.nils] false) (.ptr (.own 48268296) 0) h251 fun x256 h257 _ _=>Af 3 x256 x254 h257 fun h260 _ _=>Akx x255 ih h260 x7 x256
def AlH (x286:IV) (h287:Hp) (x7:IV):OH :=
 Ar 0 x286 fun x290=>Ar 1 x286 fun x291=>Af 3 x7 x290 h287 fun h292 _ _=>As true 3 x7 h292 fun x295=>Al [x295,x291] h292
def AkZ (x37 x12:IV) (h33:Hp) (ih:Aa) (x0 x7 x3:IV):OH :=
 AN EE 3 x37 (.fv (.int .i64 30)) fun x246=>Ai x246 (AT 3 x12 (.fv (.int .i64 0)) fun x247=>Ag 3 x247 h33 fun x248 _=>Ajy ih h33 x0 x248 x7) (Ag 3 x3 h33 fun x284 _=>Ah [] false false ih 81 [x0,x284] h33 fun x286 h287 _ _=>AlH x286 h287 x7)
def AhP (x37 x12:IV) (h33:Hp) (x18:IV) (ih:Aa) (x0 x7 x3:IV):OH :=
 AN EE 3 x37 (.fv (.int .i64 29)) fun x144=>Ai x144 (AT 3 x12 (.fv (.int .i64 0)) fun x145=>Ag 3 x145 h33 fun x146 r147=>Amp r147 h33 x18 ih x0 x146 x7 x12) (AN EE 3 x37 (.fv (.int .i64 28)) fun x203=>Ai x203 (AjT x12 h33 ih x0 x7) (AkZ x37 x12 h33 ih x0 x7 x3))
def AkC (x46:IV) (h33:Hp) (x29:IV) (ih:Aa) (x0 x12 x7 x37 x18 x3:IV):OH :=
 Ai x46 (Ag 3 x29 h33 fun x47 _=>Ah [] false false ih 49 [x0,.fv (.int .i64 0),x12,x47] h33 fun x49 h50 _ _=>Ajl x49 ih h50 x7 x29) (AN EE 3 x37 (.fv (.int .i64 20)) fun x70=>Ai x70 (Alz x12 h33 x18 ih x0 x7) (AhP x37 x12 h33 x18 ih x0 x7 x3))
def AiW (h33:Hp) (x36 x29 x7:IV) (ih:Aa) (x0 x12 x18 x3:IV):OH :=
 Ae x36 h33 fun x37 _=>AN EE 3 x37 (.fv (.int .i64 25)) fun x39=>Ai x39 (Ag 3 x29 h33 fun x40 _=>Ajh h33 x7 x40) (AN EE 3 x37 (.fv (.int .i64 26)) fun x46=>AkC x46 h33 x29 ih x0 x12 x7 x37 x18 x3)
def Aiy (h19:Hp) (x18 x14:IV) (ih:Aa) (x3 x7 x0 x12:IV):OH :=
 Af 3 x18 x14 h19 fun h22 _ _=>Ah [] false false ih 24 [.fv (.int .i64 15),.nils] h22 fun x25 h26 _ _=>AD 48237569 (.row [.fv (.int .i64 0),.fv (.int .i64 0),.nils] false) (.ptr (.own 48237569) 0) h26 fun x29 h30 _ _=>Af 3 x29 x25 h30 fun h33 _ _=>Ab 0 x3 fun x36=>AiW h33 x36 x29 x7 ih x0 x12 x18 x3
def S46 (ih:Aa) (n:Nat) (x0 x1:IV) (h2:Hp):OH :=
 AX 48234496 x1 h2 fun x3 h4 _ _=>AD 48234497 (.row [.fv (.int .i64 0),.fv (.int .i64 0),.nils] false) (.ptr (.own 48234497) 0) h4 fun x7 h8 _ _=>Ab 2 x3 fun x11=>Ae x11 h8 fun x12 _=>Ah [] false false ih 24 [.fv (.int .i64 14),.nils] h8 fun x14 h15 _ _=>AD 48236545 (.row [.fv (.int .i64 0),.fv (.int .i64 0),.nils] false) (.ptr (.own 48236545) 0) h15 fun x18 h19 _ _=>Aiy h19 x18 x14 ih x3 x7 x0 x12
theorem Am4 (ih:Aa) (n:Nat) (x0 x1:IV) (h2:Hp):Aw EE ih ft.get n 46 [x0,x1] h2=S46 ih n x0 x1 h2:=by kernel_rfl
def S47 (ih:Aa) (n:Nat) (x0:IV) (h1:Hp):OH :=
 AD 49283072 (.row [.fv (.int .i64 0),.fv (.int .i64 0),.nils] false) (.ptr (.own 49283072) 0) h1 fun x2 h3 _ _=>Bw [.fv (.int .i64 0),.fv (.int .i64 0),.nils] [(0,1,.fv (.int .i64 2)),(1,1,x0)] fun x6=>Af 3 x2 x6 h3 fun h7 _ _=>As true 3 x2 h7 fun x10=>Al [x10] h7
theorem AnG (ih:Aa) (n:Nat) (x0:IV) (h1:Hp):Aw EE ih ft.get n 47 [x0] h1=S47 ih n x0 h1:=by kernel_rfl
def AoN (x38:IV) (h34:Hp) (x37:IV) (j1_39:IV→Hp→OH):OH :=
 AN EE 3 x38 (.fv (.int .i64 0)) fun x42=>Ac x42 true h34 (fun k43=>k43 x37 h34 [] []) fun x44 h45 _ _=>Ac x42 true h45 (fun k48=>CL (LR .not x44) fun x49=>k48 x49 h45 [] []) fun x50 h51 _ _=>AI x42 x50 (.fv (.bool false)) fun x54=>Ai x54 (j1_39 (.fv (.int .i64 11)) h51) (j1_39 x38 h51)
def AnH (h25:Hp) (x9:IV) (ih:Aa) (x29:IV):OH :=
 Ag 3 x9 h25 fun x31 _=>Ah [] false false ih 82 [x29,x31] h25 fun x33 h34 _ _=>Ar 0 x33 fun x37=>Ar 1 x33 fun x38=>(fun (j1_39:IV→Hp→OH)=>AoN x38 h34 x37 j1_39) fun x40 h41=>Al [x40] h41
def Ana (h16:Hp) (x19 x20 x9:IV) (ih:Aa):OH :=
 AD 50332679 (.row [.fv (.int .i64 0),.fv (.int .i64 0),.nils] false) (.ptr (.own 50332679) 0) h16 fun x21 h22 _ _=>Af 3 x21 x19 h22 fun h25 _ _=>Ch EE 3 x20 (.fv (.int .i64 0)) fun x28=>Ai x28 (Al [x20] h25) (Ag 3 x21 h25 fun x29 _=>AnH h25 x9 ih x29)
def S48 (ih:Aa) (n:Nat) (x0 x1 x2 x3:IV) (h4:Hp):OH :=
 AX 50331648 x2 h4 fun x5 h6 _ _=>AX 50331649 x3 h6 fun x9 h10 _ _=>Ag 3 x5 h10 fun x13 _=>Ah [] false false ih 20 [x0,x1,x13] h10 fun x15 h16 _ _=>Ar 0 x15 fun x19=>Ar 1 x15 fun x20=>Ana h16 x19 x20 x9 ih
theorem Aqv (ih:Aa) (n:Nat) (x0 x1 x2 x3:IV) (h4:Hp):Aw EE ih ft.get n 48 [x0,x1,x2,x3] h4=S48 ih n x0 x1 x2 x3 h4:=by kernel_rfl
def Apl (r26 w27:AC) (x24:IV) (h25:Hp) (x16:IV) (q9:List IV→Hp→OH) (x12 x13 x14 x15:IV):OH :=
 Ad [] r26 w27 (Ch EE 3 x24 (.fv (.int .i64 0)) fun x28=>Ai x28 (Al [x24] h25) (Bp EE 3 x16 (.fv (.int .i64 1)) fun x29=>q9 [x12,x13,x14,x15,x29] h25))
def AoY (h11:Hp) (x19 x15:IV) (ih:Aa) (x12 x13 x16:IV) (q9:List IV→Hp→OH) (x14:IV):OH :=
 Ag 3 x19 h11 fun x20 r21=>Ad [] r21 [] (Ag 3 x15 h11 fun x22 r23=>Ad [(r21,[])] r23 [] (Ah [] false false ih 48 [x12,x13,x20,x22] h11 fun x24 h25 r26 w27=>Apl r26 w27 x24 h25 x16 q9 x12 x13 x14 x15))
def ApW (x14 x16:IV) (h11:Hp) (x15:IV) (ih:Aa) (x12 x13:IV) (q9:List IV→Hp→OH):OH :=
 B0 x14 fun x17=>F8 EE 3 x16 x17 fun x18=>Ai x18 (AT 3 x14 x16 fun x19=>AoY h11 x19 x15 ih x12 x13 x16 q9 x14) (Al [.fv (.int .i64 0)] h11)
def AnR (l10:List IV) (h11:Hp) (ih:Aa) (q9:List IV→Hp→OH):OH :=
 AA l10 fun x12 l30=>AA l30 fun x13 l31=>AA l31 fun x14 l32=>AA l32 fun x15 l33=>AA l33 fun x16 _=>ApW x14 x16 h11 x15 ih x12 x13 q9
def S49 (ih:Aa) (n:Nat) (x0 x1 x2 x3:IV) (h4:Hp):OH :=
 AX 51380224 x3 h4 fun x5 h6 _ _=>By n (fun q9 l10 h11=>AnR l10 h11 ih q9) [x0,x1,x2,x5,.fv (.int .i64 0)] h6
theorem Ap2 (ih:Aa) (n:Nat) (x0 x1 x2 x3:IV) (h4:Hp):Aw EE ih ft.get n 49 [x0,x1,x2,x3] h4=S49 ih n x0 x1 x2 x3 h4:=by kernel_rfl
def AlP (ih:Aa) (h24:Hp) (x28 x7:IV):OH :=
 Ah [] false false ih 44 [x28] h24 fun x30 h31 _ _=>Ar 0 x30 fun x34=>Ar 1 x30 fun x35=>Af 3 x7 x34 h31 fun h36 _ _=>As true 3 x7 h36 fun x39=>Al [x39,x35] h36
def Akl (x57:IV) (h58:Hp) (x7:IV):OH :=
 Ar 0 x57 fun x61=>Ar 1 x57 fun x62=>Af 3 x7 x61 h58 fun h63 _ _=>As true 3 x7 h63 fun x66=>Al [x66,x62] h63
def AkS (ih:Aa) (h68:Hp) (x67 x7:IV):OH :=
 Ah [] false false ih 47 [x67] h68 fun x71 h72 _ _=>Af 3 x7 x71 h72 fun h75 _ _=>As true 3 x7 h75 fun x78=>Al [x78,.fv (.int .i64 0)] h75
def AkL (x50:IV) (ih:Aa) (h51:Hp) (x7 x27:IV):OH :=
 Ar 0 x50 fun x54=>Ar 1 x50 fun x55=>Ch EE 3 x55 (.fv (.int .i64 0)) fun x56=>Ai x56 (Ah [] false false ih 44 [x55] h51 fun x57 h58 _ _=>Akl x57 h58 x7) (Ay (AS EE 52440066 false .max [3,3] [x27,x54]) 52440066 h51 fun x67 h68 _ _=>AkS ih h68 x67 x7)
def Aks (x12:IV) (h44:Hp) (r45 w46 r42:AC) (ih:Aa) (x43 x7 x27:IV):OH :=
 AT 3 x12 (.fv (.int .i64 1)) fun x47=>Ag 3 x47 h44 fun x48 r49=>Ad [(r45,w46),(r42,[])] r49 [] (Ah [] false false ih 83 [x43,x48] h44 fun x50 h51 r52 w53=>Ad [] r52 w53 (AkL x50 ih h51 x7 x27))
def AkH (x12:IV) (h24:Hp) (ih:Aa) (x0 x7 x27:IV):OH :=
 AT 3 x12 (.fv (.int .i64 0)) fun x40=>Ag 3 x40 h24 fun x41 r42=>Ad [] r42 [] (Ah [] false false ih 79 [x0,.fv (.int .i64 1),x41] h24 fun x43 h44 r45 w46=>Ad [] r45 w46 (Aks x12 h44 r45 w46 r42 ih x43 x7 x27))
def Ahj (ih:Aa) (h19:Hp) (x0 x21 x7 x12:IV):OH :=
 Ah [] false false ih 83 [x0,x21] h19 fun x23 h24 _ _=>Ar 0 x23 fun x27=>Ar 1 x23 fun x28=>Ch EE 3 x28 (.fv (.int .i64 0)) fun x29=>Ai x29 (AlP ih h24 x28 x7) (AkH x12 h24 ih x0 x7 x27)
def Akz (x90:IV) (h91:Hp) (x7 x94:IV):OH :=
 Ar 1 x90 fun x95=>Af 3 x7 x94 h91 fun h96 _ _=>As true 3 x7 h96 fun x99=>Al [x99,x95] h96
def AjQ (x124:IV) (h125:Hp) (x7 x128:IV):OH :=
 Ar 1 x124 fun x129=>Af 3 x7 x128 h125 fun h130 _ _=>As true 3 x7 h130 fun x133=>Al [x133,x129] h130
def Ajp (x147:IV) (h148:Hp) (x7 x151:IV):OH :=
 Ar 1 x147 fun x152=>Af 3 x7 x151 h148 fun h153 r154 w155=>Ad [] r154 w155 (As true 3 x7 h153 fun x156=>Al [x156,x152] h153)
def AlJ (ih:Aa) (h140:Hp) (x139 x7:IV):OH :=
 Ah [] false false ih 24 [.fv (.int .i64 3),x139] h140 fun x143 h144 r145 w146=>Ad [] r145 w146 (Ah [] false false ih 34 [x143] h144 fun x147 h148 r149 w150=>Ad [] r149 w150 (Ar 0 x147 fun x151=>Ajp x147 h148 x7 x151))
def AiA (r136:AC) (h120:Hp) (x116 x135:IV) (ih:Aa) (x7:IV):OH :=
 Ad [] r136 [] (Ag 3 x116 h120 fun x137 r138=>Ad [(r136,[])] r138 [] (Ay (Ak EE 28 2 [(0,x135),(1,x137)]) 52448260 h120 fun x139 h140 r141 w142=>Ad [] r141 w142 (AlJ ih h140 x139 x7)))
def Ahu (x123:IV) (ih:Aa) (h120:Hp) (x115 x7 x12 x116:IV):OH :=
 Ai x123 (Ah [] false false ih 44 [x115] h120 fun x124 h125 _ _=>Ar 0 x124 fun x128=>AjQ x124 h125 x7 x128) (AT 3 x12 (.fv (.int .i64 0)) fun x134=>Ag 3 x134 h120 fun x135 r136=>AiA r136 h120 x116 x135 ih x7)
def Amf (h111:Hp) (r112 w113 r109 r105 w106 r102:AC) (x114 x115:IV) (ih:Aa) (x7 x12:IV):OH :=
 AD 52445196 (.row [.fv (.int .i64 0),.fv (.int .i64 0),.nils] false) (.ptr (.own 52445196) 0) h111 fun x116 h117 r118 w119=>Ad [(r112,w113),(r109,[]),(r105,w106),(r102,[])] r118 w119 (Af 3 x116 x114 h117 fun h120 r121 w122=>Ad [] r121 w122 (Ch EE 3 x115 (.fv (.int .i64 0)) fun x123=>Ahu x123 ih h120 x115 x7 x12 x116))
def Al2 (r109 r105 w106 r102:AC) (ih:Aa) (h104:Hp) (x103 x108 x7 x12:IV):OH :=
 Ad [(r105,w106),(r102,[])] r109 [] (Ah [] false false ih 20 [x103,.fv (.int .i64 1),x108] h104 fun x110 h111 r112 w113=>Ad [] r112 w113 (Ar 0 x110 fun x114=>Ar 1 x110 fun x115=>Amf h111 r112 w113 r109 r105 w106 r102 x114 x115 ih x7 x12))
def Akj (r102:AC) (ih:Aa) (h84:Hp) (x0 x101 x12 x7:IV):OH :=
 Ad [] r102 [] (Ah [] false false ih 79 [x0,.fv (.int .i64 1),x101] h84 fun x103 h104 r105 w106=>Ad [] r105 w106 (AT 3 x12 (.fv (.int .i64 1)) fun x107=>Ag 3 x107 h104 fun x108 r109=>Al2 r109 r105 w106 r102 ih h104 x103 x108 x7 x12))
def Ak9 (x88:IV) (ih:Aa) (h84:Hp) (x7 x12 x0:IV):OH :=
 Ch EE 3 x88 (.fv (.int .i64 0)) fun x89=>Ai x89 (Ah [] false false ih 44 [x88] h84 fun x90 h91 _ _=>Ar 0 x90 fun x94=>Akz x90 h91 x7 x94) (AT 3 x12 (.fv (.int .i64 0)) fun x100=>Ag 3 x100 h84 fun x101 r102=>Akj r102 ih h84 x0 x101 x12 x7)
def Ami (x12:IV) (h19:Hp) (ih:Aa) (x0 x7:IV):OH :=
 AT 3 x12 (.fv (.int .i64 0)) fun x80=>Ag 3 x80 h19 fun x81 _=>Ah [] false false ih 83 [x0,x81] h19 fun x83 h84 _ _=>Ar 0 x83 fun _=>Ar 1 x83 fun x88=>Ak9 x88 ih h84 x7 x12 x0
def AjI (x178:IV) (h179:Hp) (x7 x182:IV):OH :=
 Ar 1 x178 fun x183=>Af 3 x7 x182 h179 fun h184 _ _=>As true 3 x7 h184 fun x187=>Al [x187,x183] h184
def AjZ (h207:Hp) (x7 x206:IV):OH :=
 As true 3 x7 h207 fun x210=>Al [x210,x206] h207
def Al7 (r203 w204:AC) (x201:IV) (h202:Hp) (x7:IV):OH :=
 Ad [] r203 w204 (Ar 0 x201 fun x205=>Ar 1 x201 fun x206=>Af 3 x7 x205 h202 fun h207 r208 w209=>Ad [] r208 w209 (AjZ h207 x7 x206))
def Aj9 (h176:Hp) (x194:IV) (r193 r190:AC) (ih:Aa) (x192 x7:IV):OH :=
 Ag 3 x194 h176 fun x195 r196=>Ad [(r193,[]),(r190,[])] r196 [] (Ah [] false false ih 67 [x192,.fv (.int .i64 0),x195] h176 fun x197 h198 r199 w200=>Ad [] r199 w200 (Ah [] false false ih 34 [x197] h198 fun x201 h202 r203 w204=>Al7 r203 w204 x201 h202 x7))
def Ak5 (r190:AC) (x189:IV) (h176:Hp) (x12:IV) (ih:Aa) (x7:IV):OH :=
 Ad [] r190 [] (AT 3 x189 (.fv (.int .i64 1)) fun x191=>Ag 3 x191 h176 fun x192 r193=>Ad [] r193 [] (AT 3 x12 (.fv (.int .i64 1)) fun x194=>Aj9 h176 x194 r193 r190 ih x192 x7))
def Alx (x175:IV) (ih:Aa) (h176:Hp) (x7 x167 x12:IV):OH :=
 Ch EE 3 x175 (.fv (.int .i64 0)) fun x177=>Ai x177 (Ah [] false false ih 44 [x175] h176 fun x178 h179 _ _=>Ar 0 x178 fun x182=>AjI x178 h179 x7 x182) (Ab 2 x167 fun x188=>Ae x188 h176 fun x189 r190=>Ak5 r190 x189 h176 x12 ih x7)
def Ajs (x216:IV) (h171:Hp) (r214:AC) (ih:Aa) (x0 x213:IV) (j1_174:IV→Hp→OH):OH :=
 AT 3 x216 (.fv (.int .i64 0)) fun x218=>Ag 3 x218 h171 fun x219 r220=>Ad [(r214,[])] r220 [] (Ah [] false false ih 48 [x0,.fv (.int .i64 1),x213,x219] h171 fun x221 h222 r223 w224=>Ad [] r223 w224 (j1_174 x221 h222))
def AkR (h171:Hp) (x212 x167:IV) (ih:Aa) (x0:IV) (j1_174:IV→Hp→OH):OH :=
 Ag 3 x212 h171 fun x213 r214=>Ad [] r214 [] (Ab 2 x167 fun x215=>Ae x215 h171 fun x216 r217=>Ad [(r214,[])] r217 [] (Ajs x216 h171 r214 ih x0 x213 j1_174))
def Ai3 (ih:Aa) (x7 x167 x12 x166:IV) (h171:Hp) (x0:IV):OH :=
 (fun (j1_174:IV→Hp→OH)=>AN EE 3 x166 (.fv (.int .i64 0)) fun x211=>Ai x211 (AT 3 x12 (.fv (.int .i64 1)) fun x212=>AkR h171 x212 x167 ih x0 j1_174) (j1_174 x166 h171)) fun x175 h176=>Alx x175 ih h176 x7 x167 x12
def Alo (ih:Aa) (h19:Hp) (x0 x159 x7 x12:IV):OH :=
 Ah [] false false ih 80 [x0,.fv (.int .i64 1),x159,.fv (.int .i64 3)] h19 fun x161 h162 _ _=>Ar 0 x161 fun x165=>Ar 1 x161 fun x166=>AD 52450312 (.row [.fv (.int .i64 0),.fv (.int .i64 0),.nils] false) (.ptr (.own 52450312) 0) h162 fun x167 h168 _ _=>Af 3 x167 x165 h168 fun h171 _ _=>Ai3 ih x7 x167 x12 x166 h171 x0
def AhQ (x245:IV) (h246:Hp) (x7 x249:IV):OH :=
 Ar 1 x245 fun x250=>Af 3 x7 x249 h246 fun h251 _ _=>As true 3 x7 h251 fun x254=>Al [x254,x250] h251
def Ag8 (x260:IV) (h241:Hp) (x7:IV):OH :=
 AT 3 x260 (.fv (.int .i64 0)) fun x262=>Ag 3 x262 h241 fun x263 _=>Af 3 x7 x263 h241 fun h265 _ _=>As true 3 x7 h265 fun x268=>Al [x268,.fv (.int .i64 0)] h265
def Als (x290:IV) (h291:Hp) (x7:IV):OH :=
 Ar 0 x290 fun x294=>Ar 1 x290 fun x295=>Af 3 x7 x294 h291 fun h296 r297 w298=>Ad [] r297 w298 (As true 3 x7 h296 fun x299=>Al [x299,x295] h296)
def Al0 (r284 w285 r274 r271:AC) (ih:Aa) (h283:Hp) (x273 x282 x7:IV):OH :=
 Ad [(r274,[]),(r271,[])] r284 w285 (Ah [] false false ih 67 [x273,.fv (.int .i64 0),x282] h283 fun x286 h287 r288 w289=>Ad [] r288 w289 (Ah [] false false ih 34 [x286] h287 fun x290 h291 r292 w293=>Ad [] r292 w293 (Als x290 h291 x7)))
def Ame (h241:Hp) (x275:IV) (r274 r271:AC) (ih:Aa) (x273 x7:IV):OH :=
 Ag 3 x275 h241 fun x276 r277=>Ad [(r274,[]),(r271,[])] r277 [] (Ay (Ak EE 28 1 [(0,x276)]) 52463623 h241 fun x278 h279 r280 w281=>Ad [(r274,[]),(r271,[])] r280 w281 (Ah [] false false ih 24 [.fv (.int .i64 8),x278] h279 fun x282 h283 r284 w285=>Al0 r284 w285 r274 r271 ih h283 x273 x282 x7))
def Akg (r271:AC) (x270:IV) (h241:Hp) (x12:IV) (ih:Aa) (x7:IV):OH :=
 Ad [] r271 [] (AT 3 x270 (.fv (.int .i64 1)) fun x272=>Ag 3 x272 h241 fun x273 r274=>Ad [] r274 [] (AT 3 x12 (.fv (.int .i64 0)) fun x275=>Ame h241 x275 r274 r271 ih x273 x7))
def Ag7 (x256 x237:IV) (h241:Hp) (x7 x12:IV) (ih:Aa):OH :=
 AN EE 3 x256 (.fv (.int .i64 8)) fun x258=>Ai x258 (Ab 2 x237 fun x259=>Ae x259 h241 fun x260 _=>Ag8 x260 h241 x7) (Ab 2 x237 fun x269=>Ae x269 h241 fun x270 r271=>Akg r271 x270 h241 x12 ih x7)
def AjO (x236:IV) (ih:Aa) (h241:Hp) (x7 x3 x237 x12:IV):OH :=
 Ch EE 3 x236 (.fv (.int .i64 0)) fun x244=>Ai x244 (Ah [] false false ih 44 [x236] h241 fun x245 h246 _ _=>Ar 0 x245 fun x249=>AhQ x245 h246 x7 x249) (Ab 0 x3 fun x255=>Ae x255 h241 fun x256 _=>Ag7 x256 x237 h241 x7 x12 ih)
def Ajn (ih:Aa) (h227:Hp) (x0 x229 x7 x3 x12:IV):OH :=
 Ah [] false false ih 80 [x0,.fv (.int .i64 1),x229,.fv (.int .i64 6)] h227 fun x231 h232 _ _=>Ar 0 x231 fun x235=>Ar 1 x231 fun x236=>AD 52458504 (.row [.fv (.int .i64 0),.fv (.int .i64 0),.nils] false) (.ptr (.own 52458504) 0) h232 fun x237 h238 _ _=>Af 3 x237 x235 h238 fun h241 _ _=>AjO x236 ih h241 x7 x3 x237 x12
def Amj (h309:Hp) (x7 x308:IV):OH :=
 As true 3 x7 h309 fun x312=>Al [x312,x308] h309
def AkQ (h227:Hp) (x3:IV) (ih:Aa) (x0 x7:IV):OH :=
 Ag 3 x3 h227 fun x301 _=>Ah [] false false ih 84 [x0,x301] h227 fun x303 h304 _ _=>Ar 0 x303 fun x307=>Ar 1 x303 fun x308=>Af 3 x7 x307 h304 fun h309 _ _=>Amj h309 x7 x308
def AiL (x316:IV) (h317:Hp) (x7:IV):OH :=
 Ar 0 x316 fun x320=>Ar 1 x316 fun x321=>Af 3 x7 x320 h317 fun h322 _ _=>As true 3 x7 h322 fun x325=>Al [x325,x321] h322
def AkY (x326:IV) (h327:Hp) (x7 x330:IV):OH :=
 Ar 1 x326 fun x331=>Af 3 x7 x330 h327 fun h332 _ _=>As true 3 x7 h332 fun x335=>Al [x335,x331] h332
def Ahr (x15:IV) (h227:Hp) (x3:IV) (ih:Aa) (x0 x7:IV):OH :=
 AN EE 3 x15 (.fv (.int .i64 13)) fun x313=>Ai x313 (Ag 3 x3 h227 fun x314 _=>Ah [] false false ih 85 [x0,x314] h227 fun x316 h317 _ _=>AiL x316 h317 x7) (Ah [] false false ih 44 [.fv (.int .i64 10)] h227 fun x326 h327 _ _=>Ar 0 x326 fun x330=>AkY x326 h327 x7 x330)
def AhA (x226 x12:IV) (h227:Hp) (ih:Aa) (x0 x7 x3 x15:IV):OH :=
 Ai x226 (AT 3 x12 (.fv (.int .i64 0)) fun x228=>Ag 3 x228 h227 fun x229 _=>Ajn ih h227 x0 x229 x7 x3 x12) (AN EE 3 x15 (.fv (.int .i64 7)) fun x300=>Ai x300 (AkQ h227 x3 ih x0 x7) (Ahr x15 h227 x3 ih x0 x7))
def Ahv (x336:IV) (j1_225:IV→Hp→OH) (h19:Hp) (x15:IV):OH :=
 Ai x336 (j1_225 x336 h19) (AN EE 3 x15 (.fv (.int .i64 9)) fun x337=>j1_225 x337 h19)
def Amq (x15 x12:IV) (h19:Hp) (ih:Aa) (x0 x7 x3:IV):OH :=
 AN EE 3 x15 (.fv (.int .i64 5)) fun x157=>Ai x157 (AT 3 x12 (.fv (.int .i64 0)) fun x158=>Ag 3 x158 h19 fun x159 _=>Alo ih h19 x0 x159 x7 x12) ((fun (j1_225:IV→Hp→OH)=>AN EE 3 x15 (.fv (.int .i64 8)) fun x336=>Ahv x336 j1_225 h19 x15) fun x226 h227=>AhA x226 x12 h227 ih x0 x7 x3 x15)
def Alg (x18 x12:IV) (h19:Hp) (ih:Aa) (x0 x7 x15 x3:IV):OH :=
 Ai x18 (AT 3 x12 (.fv (.int .i64 0)) fun x20=>Ag 3 x20 h19 fun x21 _=>Ahj ih h19 x0 x21 x7 x12) (AN EE 3 x15 (.fv (.int .i64 4)) fun x79=>Ai x79 (Ami x12 h19 ih x0 x7) (Amq x15 x12 h19 ih x0 x7 x3))
def AjX (x12:IV) (ih:Aa) (x0 x7 x15 x3:IV) (h8:Hp):OH :=
 (fun (j1_17:IV→Hp→OH)=>AN EE 3 x15 (.fv (.int .i64 3)) fun x338=>Ai x338 (j1_17 x338 h8) (AN EE 3 x15 (.fv (.int .i64 6)) fun x339=>j1_17 x339 h8)) fun x18 h19=>Alg x18 x12 h19 ih x0 x7 x15 x3
def S50 (ih:Aa) (n:Nat) (x0 x1:IV) (h2:Hp):OH :=
 AX 52428800 x1 h2 fun x3 h4 _ _=>AD 52428801 (.row [.fv (.int .i64 0),.fv (.int .i64 0),.nils] false) (.ptr (.own 52428801) 0) h4 fun x7 h8 _ _=>Ab 2 x3 fun x11=>Ae x11 h8 fun x12 _=>Ab 0 x3 fun x14=>Ae x14 h8 fun x15 _=>AjX x12 ih x0 x7 x15 x3 h8
theorem Aol (ih:Aa) (n:Nat) (x0 x1:IV) (h2:Hp):Aw EE ih ft.get n 50 [x0,x1] h2=S50 ih n x0 x1 h2:=by kernel_rfl
def S51 (ih:Aa) (n:Nat) (x0 x1:IV) (h2:Hp):OH :=
 CH EE 3 .rem x0 x1 fun x3=>(fun (j1_4:IV→Hp→OH)=>F8 EE 3 x3 (.fv (.int .i64 0)) fun x7=>Ai x7 (Bp EE 3 x3 x1 fun x8=>j1_4 x8 h2) (j1_4 x3 h2)) fun x5 h6=>Al [x5] h6
theorem AoH (ih:Aa) (n:Nat) (x0 x1:IV) (h2:Hp):Aw EE ih ft.get n 51 [x0,x1] h2=S51 ih n x0 x1 h2:=by kernel_rfl
def PO (x12:IV) (h13:Hp) (x0:IV):OH :=
 Ai x12 (Al [.fv (.int .i64 3)] h13) (AN EE 3 x0 (.fv (.int .i64 13)) fun x14=>Ai x14 (Al [.fv (.int .i64 4)] h13) (Al [.fv (.int .i64 (-1))] h13))
def PS (x15:IV) (j1_11:IV→Hp→OH) (h10:Hp) (x0:IV):OH :=
 Ai x15 (j1_11 x15 h10) (AN EE 3 x0 (.fv (.int .i64 27)) fun x16=>j1_11 x16 h10)
def SA (x9:IV) (h10:Hp) (x0:IV):OH :=
 Ai x9 (Al [.fv (.int .i64 2)] h10) ((fun (j1_11:IV→Hp→OH)=>AN EE 3 x0 (.fv (.int .i64 7)) fun x15=>PS x15 j1_11 h10 x0) fun x12 h13=>PO x12 h13 x0)
def Si (x0:IV) (j1_8:IV→Hp→OH) (h7:Hp):OH :=
 AN EE 3 x0 (.fv (.int .i64 28)) fun x27=>Ai x27 (j1_8 x27 h7) (AN EE 3 x0 (.fv (.int .i64 29)) fun x28=>j1_8 x28 h7)
def Ss (x0:IV) (j1_8:IV→Hp→OH) (h7:Hp):OH :=
 AN EE 3 x0 (.fv (.int .i64 22)) fun x25=>Ai x25 (j1_8 x25 h7) (AN EE 3 x0 (.fv (.int .i64 26)) fun x26=>Ai x26 (j1_8 x26 h7) (Si x0 j1_8 h7))
def Sc (x0:IV) (j1_8:IV→Hp→OH) (h7:Hp):OH :=
 AN EE 3 x0 (.fv (.int .i64 20)) fun x23=>Ai x23 (j1_8 x23 h7) (AN EE 3 x0 (.fv (.int .i64 21)) fun x24=>Ai x24 (j1_8 x24 h7) (Ss x0 j1_8 h7))
def RU (x0:IV) (j1_8:IV→Hp→OH) (h7:Hp):OH :=
 AN EE 3 x0 (.fv (.int .i64 16)) fun x21=>Ai x21 (j1_8 x21 h7) (AN EE 3 x0 (.fv (.int .i64 17)) fun x22=>Ai x22 (j1_8 x22 h7) (Sc x0 j1_8 h7))
def QK (x0:IV) (j1_8:IV→Hp→OH) (h7:Hp):OH :=
 AN EE 3 x0 (.fv (.int .i64 5)) fun x19=>Ai x19 (j1_8 x19 h7) (AN EE 3 x0 (.fv (.int .i64 6)) fun x20=>Ai x20 (j1_8 x20 h7) (RU x0 j1_8 h7))
def Qf (x17:IV) (j1_8:IV→Hp→OH) (h7:Hp) (x0:IV):OH :=
 Ai x17 (j1_8 x17 h7) (AN EE 3 x0 (.fv (.int .i64 4)) fun x18=>Ai x18 (j1_8 x18 h7) (QK x0 j1_8 h7))
def Re (x6:IV) (h7:Hp) (x0:IV):OH :=
 Ai x6 (Al [.fv (.int .i64 1)] h7) ((fun (j1_8:IV→Hp→OH)=>AN EE 3 x0 (.fv (.int .i64 3)) fun x17=>Qf x17 j1_8 h7 x0) fun x9 h10=>SA x9 h10 x0)
def Rb (x0:IV) (j1_5:IV→Hp→OH) (h4:Hp):OH :=
 AN EE 3 x0 (.fv (.int .i64 24)) fun x35=>Ai x35 (j1_5 x35 h4) (AN EE 3 x0 (.fv (.int .i64 30)) fun x36=>j1_5 x36 h4)
def RT (x0:IV) (j1_5:IV→Hp→OH) (h4:Hp):OH :=
 AN EE 3 x0 (.fv (.int .i64 19)) fun x33=>Ai x33 (j1_5 x33 h4) (AN EE 3 x0 (.fv (.int .i64 23)) fun x34=>Ai x34 (j1_5 x34 h4) (Rb x0 j1_5 h4))
def PR (x0:IV) (j1_5:IV→Hp→OH) (h4:Hp):OH :=
 AN EE 3 x0 (.fv (.int .i64 12)) fun x31=>Ai x31 (j1_5 x31 h4) (AN EE 3 x0 (.fv (.int .i64 18)) fun x32=>Ai x32 (j1_5 x32 h4) (RT x0 j1_5 h4))
def P9 (x29:IV) (j1_5:IV→Hp→OH) (h4:Hp) (x0:IV):OH :=
 Ai x29 (j1_5 x29 h4) (AN EE 3 x0 (.fv (.int .i64 9)) fun x30=>Ai x30 (j1_5 x30 h4) (PR x0 j1_5 h4))
def SF (x3:IV) (h4:Hp) (x0:IV):OH :=
 Ai x3 (Al [.fv (.int .i64 0)] h4) ((fun (j1_5:IV→Hp→OH)=>AN EE 3 x0 (.fv (.int .i64 8)) fun x29=>P9 x29 j1_5 h4 x0) fun x6 h7=>Re x6 h7 x0)
def QX (x0:IV) (j1_2:IV→Hp→OH) (h1:Hp):OH :=
 AN EE 3 x0 (.fv (.int .i64 25)) fun x43=>j1_2 x43 h1
def PL (x0:IV) (j1_2:IV→Hp→OH) (h1:Hp):OH :=
 AN EE 3 x0 (.fv (.int .i64 14)) fun x41=>Ai x41 (j1_2 x41 h1) (AN EE 3 x0 (.fv (.int .i64 15)) fun x42=>Ai x42 (j1_2 x42 h1) (QX x0 j1_2 h1))
def RP (x0:IV) (j1_2:IV→Hp→OH) (h1:Hp):OH :=
 AN EE 3 x0 (.fv (.int .i64 10)) fun x39=>Ai x39 (j1_2 x39 h1) (AN EE 3 x0 (.fv (.int .i64 11)) fun x40=>Ai x40 (j1_2 x40 h1) (PL x0 j1_2 h1))
def S52 (ih:Aa) (n:Nat) (x0:IV) (h1:Hp):OH :=
 (fun (j1_2:IV→Hp→OH)=>AN EE 3 x0 (.fv (.int .i64 1)) fun x37=>Ai x37 (j1_2 x37 h1) (AN EE 3 x0 (.fv (.int .i64 2)) fun x38=>Ai x38 (j1_2 x38 h1) (RP x0 j1_2 h1))) fun x3 h4=>SF x3 h4 x0
theorem ApN (ih:Aa) (n:Nat) (x0:IV) (h1:Hp):Aw EE ih ft.get n 52 [x0] h1=S52 ih n x0 h1:=by kernel_rfl
def UQ (x17 x1:IV) (h8:Hp) (x7:IV):OH :=
 AT 3 x17 x1 fun x19=>Ag 3 x19 h8 fun x20 _=>Af 3 x7 x20 h8 fun h22 _ _=>As true 3 x7 h22 fun x25=>Al [x25] h22
def UH (x27 x1:IV) (h8:Hp) (x7:IV):OH :=
 Bp EE 3 x27 x1 fun x29=>Bw [.fv (.int .i64 0),.fv (.int .i64 0),.nils] [(1,1,x29)] fun x30=>Af 3 x7 x30 h8 fun h31 _ _=>As true 3 x7 h31 fun x34=>Al [x34] h31
def Vl (x15 x3:IV) (h8:Hp) (x1 x7:IV):OH :=
 Ai x15 (Ab 2 x3 fun x16=>Ae x16 h8 fun x17 _=>UQ x17 x1 h8 x7) (Ab 1 x3 fun x26=>Ae x26 h8 fun x27 _=>UH x27 x1 h8 x7)
def S53 (ih:Aa) (n:Nat) (x0 x1:IV) (h2:Hp):OH :=
 AX 55574528 x0 h2 fun x3 h4 _ _=>AD 55574529 (.row [.fv (.int .i64 0),.fv (.int .i64 0),.nils] false) (.ptr (.own 55574529) 0) h4 fun x7 h8 _ _=>Ab 2 x3 fun x11=>Ae x11 h8 fun x12 _=>B0 x12 fun x14=>F8 EE 3 x1 x14 fun x15=>Vl x15 x3 h8 x1 x7
theorem AnZ (ih:Aa) (n:Nat) (x0 x1:IV) (h2:Hp):Aw EE ih ft.get n 53 [x0,x1] h2=S53 ih n x0 x1 h2:=by kernel_rfl
def Aet (x1:IV) (h7:Hp) (j0_3:Hp→OH):OH :=
 AN EE 3 x1 (.fv (.int .i64 0)) fun x10=>Ai x10 (Al [.fv (.int .i64 1)] h7) (AN EE 3 x1 (.fv (.int .i64 2)) fun x11=>Ai x11 (Al [.fv (.int .i64 2)] h7) (j0_3 h7))
def AeC (x6 x1:IV) (h7:Hp) (j0_3:Hp→OH) (x0:IV):OH :=
 Ai x6 (AN EE 3 x1 (.fv (.int .i64 1)) fun x8=>Ai x8 (Al [.fv (.int .i64 1)] h7) (j0_3 h7)) (AN EE 3 x0 (.fv (.int .i64 13)) fun x9=>Ai x9 (Aet x1 h7 j0_3) (j0_3 h7))
def Ad3 (x0:IV) (j1_5:IV→Hp→OH) (h2:Hp):OH :=
 AN EE 3 x0 (.fv (.int .i64 29)) fun x17=>j1_5 x17 h2
def Afw (x0:IV) (j1_5:IV→Hp→OH) (h2:Hp):OH :=
 AN EE 3 x0 (.fv (.int .i64 20)) fun x15=>Ai x15 (j1_5 x15 h2) (AN EE 3 x0 (.fv (.int .i64 28)) fun x16=>Ai x16 (j1_5 x16 h2) (Ad3 x0 j1_5 h2))
def Af3 (x13:IV) (j1_5:IV→Hp→OH) (h2:Hp) (x0:IV):OH :=
 Ai x13 (j1_5 x13 h2) (AN EE 3 x0 (.fv (.int .i64 6)) fun x14=>Ai x14 (j1_5 x14 h2) (Afw x0 j1_5 h2))
def S54 (ih:Aa) (n:Nat) (x0 x1:IV) (h2:Hp):OH :=
 (fun (j0_3:Hp→OH)=>(fun (j1_5:IV→Hp→OH)=>AN EE 3 x0 (.fv (.int .i64 3)) fun x12=>Ai x12 (j1_5 x12 h2) (AN EE 3 x0 (.fv (.int .i64 4)) fun x13=>Af3 x13 j1_5 h2 x0)) fun x6 h7=>AeC x6 x1 h7 j0_3 x0) fun h4=>Al [.fv (.int .i64 0)] h4
theorem Anl (ih:Aa) (n:Nat) (x0 x1:IV) (h2:Hp):Aw EE ih ft.get n 54 [x0,x1] h2=S54 ih n x0 x1 h2:=by kernel_rfl
def S55 (ih:Aa) (n:Nat) (x0 x1:IV) (h2:Hp):OH :=
 CH EE 3 .rem x0 x1 fun x3=>(fun (j1_4:IV→Hp→OH)=>F8 EE 3 x3 (.fv (.int .i64 0)) fun x7=>Ai x7 (Bp EE 3 x3 x1 fun x8=>j1_4 x8 h2) (j1_4 x3 h2)) fun x5 h6=>Al [x5] h6
theorem Aqo (ih:Aa) (n:Nat) (x0 x1:IV) (h2:Hp):Aw EE ih ft.get n 55 [x0,x1] h2=S55 ih n x0 x1 h2:=by kernel_rfl
def V7 (x17 x1:IV) (h8:Hp) (x7:IV):OH :=
 AT 3 x17 x1 fun x19=>Ag 3 x19 h8 fun x20 _=>Af 3 x7 x20 h8 fun h22 _ _=>As true 3 x7 h22 fun x25=>Al [x25] h22
def Vm (x1 x34 x30:IV) (h8:Hp) (x7:IV):OH :=
 CH EE 3 .mul (.fv (.int .i64 7)) x1 fun x35=>Bp EE 3 x34 x35 fun x36=>Bw [.fv (.int .i64 0),.fv (.int .i64 0),.nils] [(0,1,x30),(1,1,x36)] fun x37=>Af 3 x7 x37 h8 fun h38 _ _=>As true 3 x7 h38 fun x41=>Al [x41] h38
def UJ (x27 x1 x3:IV) (h8:Hp) (x7:IV):OH :=
 CH EE 3 .quo x27 (.fv (.int .i64 3)) fun x29=>Bp EE 3 x29 x1 fun x30=>Ab 1 x3 fun x31=>Ae x31 h8 fun x32 _=>CH EE 3 .quo x32 (.fv (.int .i64 5)) fun x34=>Vm x1 x34 x30 h8 x7
def Vo (x15 x3:IV) (h8:Hp) (x1 x7:IV):OH :=
 Ai x15 (Ab 2 x3 fun x16=>Ae x16 h8 fun x17 _=>V7 x17 x1 h8 x7) (Ab 0 x3 fun x26=>Ae x26 h8 fun x27 _=>UJ x27 x1 x3 h8 x7)
def S56 (ih:Aa) (n:Nat) (x0 x1:IV) (h2:Hp):OH :=
 AX 58720256 x0 h2 fun x3 h4 _ _=>AD 58720257 (.row [.fv (.int .i64 0),.fv (.int .i64 0),.nils] false) (.ptr (.own 58720257) 0) h4 fun x7 h8 _ _=>Ab 2 x3 fun x11=>Ae x11 h8 fun x12 _=>B0 x12 fun x14=>F8 EE 3 x1 x14 fun x15=>Vo x15 x3 h8 x1 x7
theorem Aqe (ih:Aa) (n:Nat) (x0 x1:IV) (h2:Hp):Aw EE ih ft.get n 56 [x0,x1] h2=S56 ih n x0 x1 h2:=by kernel_rfl
def Su (x22:IV) (h4 h27:Hp) (x16 x17 x18 x19 x20 x26:IV) (q13:List IV→Hp→OH):OH :=
 Bp EE 3 x22 (.fv (.int .i64 1)) fun x28=>Bs (h4.own.map (·.1)) [60823568,60825603] [x16,x17,x18,x19,x20,x26,x28] h27 fun h29=>q13 [x16,x17,x18,x19,x20,x26,x28] h29
def Sn (h90:Hp) (x22 x21:IV) (j1_25:IV→Hp→OH):OH :=
 Ay (Ak EE 75 1 [(0,x22)]) 60825602 h90 fun x94 h95 _ _=>Ay (AS EE 60825603 false .append [75,75] [x21,x94]) 60825603 h95 fun x98 h99 _ _=>j1_25 x98 h99
def PY (r86 w87:AC) (h85:Hp) (x63:IV) (ih:Aa) (x72 x84 x22 x21:IV) (j1_25:IV→Hp→OH):OH :=
 Ad [] r86 w87 (Ac x63 true h85 (fun k88=>Ah [] false false ih 17 [x72,x84] h85 k88) fun x89 h90 r91 w92=>Ad [] r91 w92 (AI x63 x89 (.fv (.bool false)) fun x93=>Ai x93 (Sn h90 x22 x21 j1_25) (j1_25 x21 h90)))
def PE (h68:Hp) (x63:IV) (ih:Aa) (x67 x19:IV) (r69 w70:AC) (x22 x21:IV) (j1_25:IV→Hp→OH):OH :=
 Ac x63 true h68 (fun k71=>Ah [] false false ih 86 [x67] h68 k71) fun x72 h73 r74 w75=>Ad [] r74 w75 (Ac x63 true h73 (fun k76=>Ag 3 x19 h73 fun x77 r78=>k76 x77 h73 r78 []) fun x79 h80 r81 w82=>Ad [(r74,w75),(r69,w70)] r81 w82 (Ac x63 true h80 (fun k83=>Ah [] false false ih 86 [x79] h80 k83) fun x84 h85 r86 w87=>PY r86 w87 h85 x63 ih x72 x84 x22 x21 j1_25))
def PF (h51:Hp) (x54 x55:IV) (ih:Aa) (x19 x22 x21:IV) (j1_25:IV→Hp→OH):OH :=
 AD 60823568 (.row [.fv (.int .i64 0),.fv (.int .i64 0),.nils] false) (.ptr (.own 60823568) 0) h51 fun x56 h57 _ _=>Af 3 x56 x54 h57 fun h60 _ _=>AN EE 3 x55 (.fv (.int .i64 0)) fun x63=>Ac x63 true h60 (fun k64=>Ag 3 x56 h60 fun x65 r66=>k64 x65 h60 r66 []) fun x67 h68 r69 w70=>Ad [] r69 w70 (PE h68 x63 ih x67 x19 r69 w70 x22 x21 j1_25)
def Sf (x22:IV) (ih:Aa) (h15:Hp) (x43 x19 x21:IV) (j1_25:IV→Hp→OH):OH :=
 Bp EE 3 x22 (.fv (.int .i64 1)) fun x45=>Ah [] false false ih 45 [x43,x45,.fv (.int .i64 0)] h15 fun x46 h47 _ _=>Ah [] false false ih 34 [x46] h47 fun x50 h51 _ _=>Ar 0 x50 fun x54=>Ar 1 x50 fun x55=>PF h51 x54 x55 ih x19 x22 x21 j1_25
def Rv (x38 x22 x16:IV) (h15:Hp) (ih:Aa) (x19 x21:IV) (j1_25:IV→Hp→OH):OH :=
 Bd EE 3 x38 (.fv (.int .i64 1)) fun x39=>Bd EE 3 x39 x22 fun x40=>AT 4 x16 x40 fun x41=>Ab 1 x41 fun x42=>Ag 3 x42 h15 fun x43 _=>Sf x22 ih h15 x43 x19 x21 j1_25
def QR (x33:IV) (h15:Hp) (x17:IV) (j1_25:IV→Hp→OH) (x21 x16 x22:IV) (ih:Aa) (x19:IV):OH :=
 Ab 0 x33 fun x34=>Ae x34 h15 fun x35 _=>Ch EE 3 x35 x17 fun x37=>Ai x37 (j1_25 x21 h15) (B0 x16 fun x38=>Rv x38 x22 x16 h15 ih x19 x21 j1_25)
def RZ (x22:IV) (h4:Hp) (x16 x17 x18 x19 x20:IV) (q13:List IV→Hp→OH) (h15:Hp) (x21:IV) (ih:Aa):OH :=
 (fun (j1_25:IV→Hp→OH)=>B0 x16 fun x30=>Bd EE 3 x30 (.fv (.int .i64 1)) fun x31=>Bd EE 3 x31 x22 fun x32=>AT 4 x16 x32 fun x33=>QR x33 h15 x17 j1_25 x21 x16 x22 ih x19) fun x26 h27=>Su x22 h4 h27 x16 x17 x18 x19 x20 x26 q13
def QJ (h15:Hp) (x20 x104:IV):OH :=
 Af 3 x20 x104 h15 fun h105 _ _=>As true 3 x20 h105 fun x108=>Al [x108,.fv (.bool false)] h105
def QD (h121:Hp) (x20:IV):OH :=
 As true 3 x20 h121 fun x124=>Al [x124,.fv (.bool true)] h121
def QG (ih:Aa) (h15:Hp) (x18 x109 x21 x20:IV):OH :=
 Ah [] false false ih 55 [x18,x109] h15 fun x110 h111 _ _=>AT 1 x21 x110 fun x114=>Ae x114 h111 fun x115 _=>Ah [] false false ih 25 [x115] h111 fun x117 h118 _ _=>Af 3 x20 x117 h118 fun h121 _ _=>QD h121 x20
def Rt (x21:IV) (h15:Hp) (x20:IV) (ih:Aa) (x18:IV):OH :=
 B0 x21 fun x102=>AN EE 3 x102 (.fv (.int .i64 0)) fun x103=>Ai x103 (Bw [.fv (.int .i64 0),.fv (.int .i64 0),.nils] [] fun x104=>QJ h15 x20 x104) (B0 x21 fun x109=>QG ih h15 x18 x109 x21 x20)
def PN (l129:List IV) (x16:IV) (h4:Hp) (x17 x18 x19 x20:IV) (q13:List IV→Hp→OH) (h15:Hp) (ih:Aa):OH :=
 AA l129 fun x21 l130=>AA l130 fun x22 _=>B0 x16 fun x23=>F8 EE 3 x22 x23 fun x24=>Ai x24 (RZ x22 h4 x16 x17 x18 x19 x20 q13 h15 x21 ih) (Rt x21 h15 x20 ih x18)
def AbK (l14:List IV) (h4:Hp) (q13:List IV→Hp→OH) (h15:Hp) (ih:Aa):OH :=
 AA l14 fun x16 l125=>AA l125 fun x17 l126=>AA l126 fun x18 l127=>AA l127 fun x19 l128=>AA l128 fun x20 l129=>PN l129 x16 h4 x17 x18 x19 x20 q13 h15 ih
def S58 (ih:Aa) (n:Nat) (x0 x1 x2 x3:IV) (h4:Hp):OH :=
 AX 60817408 x2 h4 fun x5 h6 _ _=>AD 60817409 (.row [.fv (.int .i64 0),.fv (.int .i64 0),.nils] false) (.ptr (.own 60817409) 0) h6 fun x9 h10 _ _=>Bs (h4.own.map (·.1)) [60823568,60825603] [x0,x1,x3,x5,x9,.nils,.fv (.int .i64 0)] h10 fun h132=>By n (fun q13 l14 h15=>AbK l14 h4 q13 h15 ih) [x0,x1,x3,x5,x9,.nils,.fv (.int .i64 0)] h132
theorem Apy (ih:Aa) (n:Nat) (x0 x1 x2 x3:IV) (h4:Hp):Aw EE ih ft.get n 58 [x0,x1,x2,x3] h4=S58 ih n x0 x1 x2 x3 h4:=by kernel_rfl
def Ach (h128:Hp) (x13 x127:IV):OH :=
 As true 3 x13 h128 fun x131=>Al [x131,x127] h128
def Yf (h113:Hp) (x50 x72 x94 x13 x112:IV):OH :=
 Ac x50 true h113 (fun k116=>k116 x72 h113 [] []) fun x117 h118 _ _=>AI x50 x117 (.fv (.bool false)) fun x121=>Ac x121 true h118 (fun k122=>k122 x94 h118 [] []) fun x123 h124 _ _=>AI x121 x123 (.fv (.bool false)) fun x127=>Af 3 x13 x112 h124 fun h128 _ _=>Ach h128 x13 x127
def Aal (h99:Hp) (x51 x73 x95:IV) (ih:Aa) (x50 x72 x94 x13:IV):OH :=
 Ag 3 x51 h99 fun x102 _=>Ag 3 x73 h99 fun x104 _=>Ag 3 x95 h99 fun x106 _=>Ay (Ak EE 28 3 [(0,x102),(1,x104),(2,x106)]) 61873155 h99 fun x108 h109 _ _=>Ah [] false false ih 24 [.fv (.int .i64 27),x108] h109 fun x112 h113 _ _=>Yf h113 x50 x72 x94 x13 x112
def ZX (x89:IV) (h90:Hp) (r91 w92 r86 w87 r83 r81:AC) (x93 x51 x73:IV) (ih:Aa) (x50 x72 x13:IV):OH :=
 Ar 1 x89 fun x94=>AD 61872138 (.row [.fv (.int .i64 0),.fv (.int .i64 0),.nils] false) (.ptr (.own 61872138) 0) h90 fun x95 h96 r97 w98=>Ad [(r91,w92),(r86,w87),(r83,[]),(r81,[])] r97 w98 (Af 3 x95 x93 h96 fun h99 r100 w101=>Ad [] r100 w101 (Aal h99 x51 x73 x95 ih x50 x72 x94 x13))
def Z8 (r86 w87 r81:AC) (x3:IV) (ih:Aa) (h85:Hp) (x0 x80 x84:IV) (r83:AC) (x51 x73 x50 x72 x13:IV):OH :=
 Ad [(r81,[])] r86 w87 (Bd EE 3 x3 (.fv (.int .i64 2)) fun x88=>Ah [] false false ih 33 [x0,x80,x84,x88] h85 fun x89 h90 r91 w92=>Ad [] r91 w92 (Ar 0 x89 fun x93=>ZX x89 h90 r91 w92 r86 w87 r83 r81 x93 x51 x73 ih x50 x72 x13))
def Xa (h77:Hp) (x5 x9:IV) (ih:Aa) (x3 x0 x51 x73 x50 x72 x13:IV):OH :=
 Ag 3 x5 h77 fun x80 r81=>Ad [] r81 [] (Ag 3 x9 h77 fun x82 r83=>Ad [(r81,[])] r83 [] (Ah [] false false ih 56 [x82,.fv (.int .i64 2)] h77 fun x84 h85 r86 w87=>Z8 r86 w87 r81 x3 ih h85 x0 x80 x84 r83 x51 x73 x50 x72 x13))
def ZG (x67:IV) (h68:Hp) (r69 w70 r64 w65 r61 r59:AC) (x71 x5 x9:IV) (ih:Aa) (x3 x0 x51 x50 x13:IV):OH :=
 Ar 1 x67 fun x72=>AD 61871114 (.row [.fv (.int .i64 0),.fv (.int .i64 0),.nils] false) (.ptr (.own 61871114) 0) h68 fun x73 h74 r75 w76=>Ad [(r69,w70),(r64,w65),(r61,[]),(r59,[])] r75 w76 (Af 3 x73 x71 h74 fun h77 r78 w79=>Ad [] r78 w79 (Xa h77 x5 x9 ih x3 x0 x51 x73 x50 x72 x13))
def Aa4 (r64 w65 r59:AC) (x3:IV) (ih:Aa) (h63:Hp) (x0 x58 x62:IV) (r61:AC) (x5 x9 x51 x50 x13:IV):OH :=
 Ad [(r59,[])] r64 w65 (Bd EE 3 x3 (.fv (.int .i64 2)) fun x66=>Ah [] false false ih 33 [x0,x58,x62,x66] h63 fun x67 h68 r69 w70=>Ad [] r69 w70 (Ar 0 x67 fun x71=>ZG x67 h68 r69 w70 r64 w65 r61 r59 x71 x5 x9 ih x3 x0 x51 x50 x13))
def Acm (h55:Hp) (x5 x9:IV) (ih:Aa) (x3 x0 x51 x50 x13:IV):OH :=
 Ag 3 x5 h55 fun x58 r59=>Ad [] r59 [] (Ag 3 x9 h55 fun x60 r61=>Ad [(r59,[])] r61 [] (Ah [] false false ih 56 [x60,.fv (.int .i64 1)] h55 fun x62 h63 r64 w65=>Aa4 r64 w65 r59 x3 ih h63 x0 x58 x62 r61 x5 x9 x51 x50 x13))
def X6 (x45:IV) (h46:Hp) (r47 w48 r42 w43 r39 r37:AC) (x49 x5 x9:IV) (ih:Aa) (x3 x0 x13:IV):OH :=
 Ar 1 x45 fun x50=>AD 61870090 (.row [.fv (.int .i64 0),.fv (.int .i64 0),.nils] false) (.ptr (.own 61870090) 0) h46 fun x51 h52 r53 w54=>Ad [(r47,w48),(r42,w43),(r39,[]),(r37,[])] r53 w54 (Af 3 x51 x49 h52 fun h55 r56 w57=>Ad [] r56 w57 (Acm h55 x5 x9 ih x3 x0 x51 x50 x13))
def YK (r42 w43 r37:AC) (x3:IV) (ih:Aa) (h41:Hp) (x0 x36 x40:IV) (r39:AC) (x5 x9 x13:IV):OH :=
 Ad [(r37,[])] r42 w43 (Bd EE 3 x3 (.fv (.int .i64 2)) fun x44=>Ah [] false false ih 33 [x0,x36,x40,x44] h41 fun x45 h46 r47 w48=>Ad [] r47 w48 (Ar 0 x45 fun x49=>X6 x45 h46 r47 w48 r42 w43 r39 r37 x49 x5 x9 ih x3 x0 x13))
def Abx (h32:Hp) (x21 x9:IV) (ih:Aa) (x3 x0 x5 x13:IV):OH :=
 Ag 3 x21 h32 fun x36 r37=>Ad [] r37 [] (Ag 3 x9 h32 fun x38 r39=>Ad [(r37,[])] r39 [] (Ah [] false false ih 56 [x38,.fv (.int .i64 0)] h32 fun x40 h41 r42 w43=>YK r42 w43 r37 x3 ih h41 x0 x36 x40 r39 x5 x9 x13))
def Aaw (h218:Hp) (x13 x212 x221:IV):OH :=
 Af 3 x13 x212 h218 fun h222 _ _=>As true 3 x13 h222 fun x225=>Al [x225,x221] h222
def Xp (h201:Hp) (x197 x204:IV) (ih:Aa) (x164 x196 x13:IV):OH :=
 Ag 3 x197 h201 fun x206 _=>Ay (Ak EE 28 2 [(0,x204),(1,x206)]) 61878274 h201 fun x208 h209 _ _=>Ah [] false false ih 24 [.fv (.int .i64 28),x208] h209 fun x212 h213 _ _=>Ac x164 true h213 (fun k216=>k216 x196 h213 [] []) fun x217 h218 _ _=>AI x164 x217 (.fv (.bool false)) fun x221=>Aaw h218 x13 x212 x221
def Acl (h192:Hp) (r193 w194 r188 w189 r185 r182 w183 r179 r176 w177 r173:AC) (x195 x165:IV) (ih:Aa) (x164 x196 x13:IV):OH :=
 AD 61877261 (.row [.fv (.int .i64 0),.fv (.int .i64 0),.nils] false) (.ptr (.own 61877261) 0) h192 fun x197 h198 r199 w200=>Ad [(r193,w194),(r188,w189),(r185,[]),(r182,w183),(r179,[]),(r176,w177),(r173,[])] r199 w200 (Af 3 x197 x195 h198 fun h201 r202 w203=>Ad [] r202 w203 (Ag 3 x165 h201 fun x204 _=>Xp h201 x197 x204 ih x164 x196 x13))
def Wp (x3:IV) (ih:Aa) (h187:Hp) (x174 x180 x186:IV) (r188 w189 r185 r182 w183 r179 r176 w177 r173:AC) (x165 x164 x13:IV):OH :=
 Bd EE 3 x3 (.fv (.int .i64 2)) fun x190=>Ah [] false false ih 33 [x174,x180,x186,x190] h187 fun x191 h192 r193 w194=>Ad [] r193 w194 (Ar 0 x191 fun x195=>Ar 1 x191 fun x196=>Acl h192 r193 w194 r188 w189 r185 r182 w183 r179 r176 w177 r173 x195 x165 ih x164 x196 x13)
def XN (r182 w183:AC) (h181:Hp) (x9:IV) (r179 r176 w177 r173:AC) (ih:Aa) (x3 x174 x180 x165 x164 x13:IV):OH :=
 Ad [] r182 w183 (Ag 3 x9 h181 fun x184 r185=>Ad [(r182,w183),(r179,[]),(r176,w177),(r173,[])] r185 [] (Ah [] false false ih 56 [x184,.fv (.int .i64 2)] h181 fun x186 h187 r188 w189=>Ad [] r188 w189 (Wp x3 ih h187 x174 x180 x186 r188 w189 r185 r182 w183 r179 r176 w177 r173 x165 x164 x13)))
def Abz (ih:Aa) (h169:Hp) (x0 x172 x5:IV) (r173:AC) (x9 x3 x165 x164 x13:IV):OH :=
 Ah [] false false ih 60 [x0,.fv (.int .i64 0),x172] h169 fun x174 h175 r176 w177=>Ad [] r176 w177 (Ag 3 x5 h175 fun x178 r179=>Ad [(r176,w177),(r173,[])] r179 [] (Ah [] false false ih 45 [x178,.fv (.int .i64 1),.fv (.int .i64 0)] h175 fun x180 h181 r182 w183=>XN r182 w183 h181 x9 r179 r176 w177 r173 ih x3 x174 x180 x165 x164 x13))
def X7 (r167 w168 r161 w162 r156 w157 r153 r151:AC) (h166:Hp) (x165 x163 x143:IV) (ih:Aa) (x0 x5 x9 x3 x164 x13:IV):OH :=
 Ad [(r161,w162),(r156,w157),(r153,[]),(r151,[])] r167 w168 (Af 3 x165 x163 h166 fun h169 r170 w171=>Ad [] r170 w171 (Ag 3 x143 h169 fun x172 r173=>Ad [] r173 [] (Abz ih h169 x0 x172 x5 r173 x9 x3 x165 x164 x13)))
def YH (ih:Aa) (h155:Hp) (x0 x150 x154 x158:IV) (r156 w157 r153 r151:AC) (x143 x5 x9 x3 x13:IV):OH :=
 Ah [] false false ih 33 [x0,x150,x154,x158] h155 fun x159 h160 r161 w162=>Ad [] r161 w162 (Ar 0 x159 fun x163=>Ar 1 x159 fun x164=>AD 61876234 (.row [.fv (.int .i64 0),.fv (.int .i64 0),.nils] false) (.ptr (.own 61876234) 0) h160 fun x165 h166 r167 w168=>X7 r167 w168 r161 w162 r156 w157 r153 r151 h166 x165 x163 x143 ih x0 x5 x9 x3 x164 x13)
def WY (h147:Hp) (x9:IV) (r151:AC) (ih:Aa) (x3 x0 x150 x143 x5 x13:IV):OH :=
 Ag 3 x9 h147 fun x152 r153=>Ad [(r151,[])] r153 [] (Ah [] false false ih 56 [x152,.fv (.int .i64 1)] h147 fun x154 h155 r156 w157=>Ad [(r151,[])] r156 w157 (Bd EE 3 x3 (.fv (.int .i64 2)) fun x158=>YH ih h155 x0 x150 x154 x158 r156 w157 r153 r151 x143 x5 x9 x3 x13))
def Abf (ih:Aa) (h136:Hp) (x135 x9 x3 x0 x5 x13:IV):OH :=
 Ah [] false false ih 28 [x135,.fv (.int .i64 1)] h136 fun x139 h140 _ _=>AD 61875203 (.row [.fv (.int .i64 0),.fv (.int .i64 0),.nils] false) (.ptr (.own 61875203) 0) h140 fun x143 h144 _ _=>Af 3 x143 x139 h144 fun h147 _ _=>Ag 3 x143 h147 fun x150 r151=>Ad [] r151 [] (WY h147 x9 r151 ih x3 x0 x150 x143 x5 x13)
def AaI (h317:Hp) (x258 x290 x13 x316:IV):OH :=
 Ac x258 true h317 (fun k320=>k320 x290 h317 [] []) fun x321 h322 _ _=>AI x258 x321 (.fv (.bool false)) fun x325=>Af 3 x13 x316 h322 fun h326 r327 w328=>Ad [] r327 w328 (As true 3 x13 h326 fun x329=>Al [x329,x325] h326)
def Zt (r311 r308 w309 r304 w305 r301 r299:AC) (h307:Hp) (x306 x310:IV) (ih:Aa) (x258 x290 x13:IV):OH :=
 Ad [(r308,w309),(r304,w305),(r301,[]),(r299,[])] r311 [] (Ay (Ak EE 28 2 [(0,x306),(1,x310)]) 61883397 h307 fun x312 h313 r314 w315=>Ad [] r314 w315 (Ah [] false false ih 24 [.fv (.int .i64 21),x312] h313 fun x316 h317 r318 w319=>Ad [] r318 w319 (AaI h317 x258 x290 x13 x316)))
def Zq (h295:Hp) (x298 x300:IV) (ih:Aa) (x259:IV) (r301 r299:AC) (x258 x290 x13:IV):OH :=
 Ay (Ak EE 28 2 [(0,x298),(1,x300)]) 61883394 h295 fun x302 h303 r304 w305=>Ad [] r304 w305 (Ah [] false false ih 24 [.fv (.int .i64 20),x302] h303 fun x306 h307 r308 w309=>Ad [] r308 w309 (Ag 3 x259 h307 fun x310 r311=>Zt r311 r308 w309 r304 w305 r301 r299 h307 x306 x310 ih x258 x290 x13))
def Zk (r296 w297:AC) (h295:Hp) (x237 x291:IV) (ih:Aa) (x259 x258 x290 x13:IV):OH :=
 Ad [] r296 w297 (Ag 3 x237 h295 fun x298 r299=>Ad [] r299 [] (Ag 3 x291 h295 fun x300 r301=>Ad [(r299,[])] r301 [] (Zq h295 x298 x300 ih x259 r301 r299 x258 x290 x13)))
def Aag (x285:IV) (h286:Hp) (r287 w288 r282 w283 r279 r276 w277 r273 r270 w271 r267:AC) (x237:IV) (ih:Aa) (x259 x258 x13:IV):OH :=
 Ar 0 x285 fun x289=>Ar 1 x285 fun x290=>AD 61882381 (.row [.fv (.int .i64 0),.fv (.int .i64 0),.nils] false) (.ptr (.own 61882381) 0) h286 fun x291 h292 r293 w294=>Ad [(r287,w288),(r282,w283),(r279,[]),(r276,w277),(r273,[]),(r270,w271),(r267,[])] r293 w294 (Af 3 x291 x289 h292 fun h295 r296 w297=>Zk r296 w297 h295 x237 x291 ih x259 x258 x290 x13)
def Abi (ih:Aa) (h275:Hp) (x278 x3 x268 x274:IV) (r279 r276 w277 r273 r270 w271 r267:AC) (x237 x259 x258 x13:IV):OH :=
 Ah [] false false ih 56 [x278,.fv (.int .i64 2)] h275 fun x280 h281 r282 w283=>Ad [] r282 w283 (Bd EE 3 x3 (.fv (.int .i64 2)) fun x284=>Ah [] false false ih 33 [x268,x274,x280,x284] h281 fun x285 h286 r287 w288=>Ad [] r287 w288 (Aag x285 h286 r287 w288 r282 w283 r279 r276 w277 r273 r270 w271 r267 x237 ih x259 x258 x13))
def YL (r273 r270 w271 r267:AC) (ih:Aa) (h269:Hp) (x272 x9 x3 x268 x237 x259 x258 x13:IV):OH :=
 Ad [(r270,w271),(r267,[])] r273 [] (Ah [] false false ih 45 [x272,.fv (.int .i64 1),.fv (.int .i64 0)] h269 fun x274 h275 r276 w277=>Ad [] r276 w277 (Ag 3 x9 h275 fun x278 r279=>Ad [(r276,w277),(r273,[]),(r270,w271),(r267,[])] r279 [] (Abi ih h275 x278 x3 x268 x274 r279 r276 w277 r273 r270 w271 r267 x237 x259 x258 x13)))
def Aam (h263:Hp) (x237:IV) (ih:Aa) (x0 x5 x9 x3 x259 x258 x13:IV):OH :=
 Ag 3 x237 h263 fun x266 r267=>Ad [] r267 [] (Ah [] false false ih 60 [x0,.fv (.int .i64 0),x266] h263 fun x268 h269 r270 w271=>Ad [] r270 w271 (Ag 3 x5 h269 fun x272 r273=>YL r273 r270 w271 r267 ih h269 x272 x9 x3 x268 x237 x259 x258 x13))
def Ab2 (x253:IV) (h254:Hp) (r255 w256 r250 w251 r247 r245:AC) (x257 x237:IV) (ih:Aa) (x0 x5 x9 x3 x13:IV):OH :=
 Ar 1 x253 fun x258=>AD 61881354 (.row [.fv (.int .i64 0),.fv (.int .i64 0),.nils] false) (.ptr (.own 61881354) 0) h254 fun x259 h260 r261 w262=>Ad [(r255,w256),(r250,w251),(r247,[]),(r245,[])] r261 w262 (Af 3 x259 x257 h260 fun h263 r264 w265=>Ad [] r264 w265 (Aam h263 x237 ih x0 x5 x9 x3 x259 x258 x13))
def Y1 (r250 w251 r245:AC) (x3:IV) (ih:Aa) (h249:Hp) (x0 x244 x248:IV) (r247:AC) (x237 x5 x9 x13:IV):OH :=
 Ad [(r245,[])] r250 w251 (Bd EE 3 x3 (.fv (.int .i64 2)) fun x252=>Ah [] false false ih 33 [x0,x244,x248,x252] h249 fun x253 h254 r255 w256=>Ad [] r255 w256 (Ar 0 x253 fun x257=>Ab2 x253 h254 r255 w256 r250 w251 r247 r245 x257 x237 ih x0 x5 x9 x3 x13))
def Aad (h241:Hp) (x237 x9:IV) (ih:Aa) (x3 x0 x5 x13:IV):OH :=
 Ag 3 x237 h241 fun x244 r245=>Ad [] r245 [] (Ag 3 x9 h241 fun x246 r247=>Ad [(r245,[])] r247 [] (Ah [] false false ih 56 [x246,.fv (.int .i64 1)] h241 fun x248 h249 r250 w251=>Y1 r250 w251 r245 x3 ih h249 x0 x244 x248 r247 x237 x5 x9 x13))
def Aby (h32:Hp) (x9:IV) (ih:Aa) (x3 x0 x5 x13:IV):OH :=
 Ag 3 x9 h32 fun x227 _=>Ah [] false false ih 56 [x227,.fv (.int .i64 0)] h32 fun x229 h230 _ _=>Ah [] false false ih 28 [x229,.fv (.int .i64 1)] h230 fun x233 h234 _ _=>AD 61880323 (.row [.fv (.int .i64 0),.fv (.int .i64 0),.nils] false) (.ptr (.own 61880323) 0) h234 fun x237 h238 _ _=>Af 3 x237 x233 h238 fun h241 _ _=>Aad h241 x237 x9 ih x3 x0 x5 x13
def Xr (x345 x396:IV) (h397:Hp) (x13 x391:IV):OH :=
 AI x345 x396 (.fv (.bool false)) fun x400=>Af 3 x13 x391 h397 fun h401 _ _=>As true 3 x13 h401 fun x404=>Al [x404,x400] h401
def Xe (h372:Hp) (x375 x377:IV) (ih:Aa) (x345 x367 x13:IV):OH :=
 Ay (Ak EE 28 2 [(0,x375),(1,x377)]) 61887490 h372 fun x379 h380 _ _=>Ah [] false false ih 24 [.fv (.int .i64 22),x379] h380 fun x383 h384 _ _=>Ay (Ak EE 28 1 [(0,x383)]) 61887492 h384 fun x387 h388 _ _=>Ah [] false false ih 24 [.fv (.int .i64 23),x387] h388 fun x391 h392 _ _=>Ac x345 true h392 (fun k395=>k395 x367 h392 [] []) fun x396 h397 _ _=>Xr x345 x396 h397 x13 x391
def AaG (r370 w371 r364 w365 r359 w360 r356 r354:AC) (h369:Hp) (x368 x366 x346:IV) (ih:Aa) (x345 x367 x13:IV):OH :=
 Ad [(r364,w365),(r359,w360),(r356,[]),(r354,[])] r370 w371 (Af 3 x368 x366 h369 fun h372 r373 w374=>Ad [] r373 w374 (Ag 3 x346 h372 fun x375 _=>Ag 3 x368 h372 fun x377 _=>Xe h372 x375 x377 ih x345 x367 x13))
def Abg (ih:Aa) (h358:Hp) (x0 x353 x357 x361:IV) (r359 w360 r356 r354:AC) (x346 x345 x13:IV):OH :=
 Ah [] false false ih 33 [x0,x353,x357,x361] h358 fun x362 h363 r364 w365=>Ad [] r364 w365 (Ar 0 x362 fun x366=>Ar 1 x362 fun x367=>AD 61886474 (.row [.fv (.int .i64 0),.fv (.int .i64 0),.nils] false) (.ptr (.own 61886474) 0) h363 fun x368 h369 r370 w371=>AaG r370 w371 r364 w365 r359 w360 r356 r354 h369 x368 x366 x346 ih x345 x367 x13)
def ZC (h350:Hp) (x9:IV) (r354:AC) (ih:Aa) (x3 x0 x353 x346 x345 x13:IV):OH :=
 Ag 3 x9 h350 fun x355 r356=>Ad [(r354,[])] r356 [] (Ah [] false false ih 56 [x355,.fv (.int .i64 1)] h350 fun x357 h358 r359 w360=>Ad [(r354,[])] r359 w360 (Bd EE 3 x3 (.fv (.int .i64 2)) fun x361=>Abg ih h358 x0 x353 x357 x361 r359 w360 r356 r354 x346 x345 x13))
def W0 (r348 w349 r342 w343 r337 w338 r334 r332:AC) (h347:Hp) (x346 x344 x21 x9:IV) (ih:Aa) (x3 x0 x345 x13:IV):OH :=
 Ad [(r342,w343),(r337,w338),(r334,[]),(r332,[])] r348 w349 (Af 3 x346 x344 h347 fun h350 r351 w352=>Ad [] r351 w352 (Ag 3 x21 h350 fun x353 r354=>Ad [] r354 [] (ZC h350 x9 r354 ih x3 x0 x353 x346 x345 x13)))
def WX (ih:Aa) (h336:Hp) (x0 x331 x335 x339:IV) (r337 w338 r334 r332:AC) (x21 x9 x3 x13:IV):OH :=
 Ah [] false false ih 33 [x0,x331,x335,x339] h336 fun x340 h341 r342 w343=>Ad [] r342 w343 (Ar 0 x340 fun x344=>Ar 1 x340 fun x345=>AD 61885450 (.row [.fv (.int .i64 0),.fv (.int .i64 0),.nils] false) (.ptr (.own 61885450) 0) h341 fun x346 h347 r348 w349=>W0 r348 w349 r342 w343 r337 w338 r334 r332 h347 x346 x344 x21 x9 ih x3 x0 x345 x13)
def Wk (h32:Hp) (x9:IV) (r332:AC) (ih:Aa) (x3 x0 x331 x21 x13:IV):OH :=
 Ag 3 x9 h32 fun x333 r334=>Ad [(r332,[])] r334 [] (Ah [] false false ih 56 [x333,.fv (.int .i64 0)] h32 fun x335 h336 r337 w338=>Ad [(r332,[])] r337 w338 (Bd EE 3 x3 (.fv (.int .i64 2)) fun x339=>WX ih h336 x0 x331 x335 x339 r337 w338 r334 r332 x21 x9 x3 x13))
def YN (h447:Hp) (x13 x446 x430:IV):OH :=
 Af 3 x13 x446 h447 fun h450 _ _=>As true 3 x13 h450 fun x453=>Al [x453,x430] h450
def AaJ (r436 w437:AC) (h435:Hp) (x5 x431:IV) (ih:Aa) (x13 x430:IV):OH :=
 Ad [] r436 w437 (Ag 3 x5 h435 fun x438 _=>Ag 3 x431 h435 fun x440 _=>Ay (Ak EE 28 2 [(0,x438),(1,x440)]) 61890562 h435 fun x442 h443 _ _=>Ah [] false false ih 24 [.fv (.int .i64 29),x442] h443 fun x446 h447 _ _=>YN h447 x13 x446 x430)
def ZU (x425:IV) (h426:Hp) (r427 w428 r422 w423 r419 r416 w417 r413 r410 w411 r407:AC) (x5:IV) (ih:Aa) (x13:IV):OH :=
 Ar 0 x425 fun x429=>Ar 1 x425 fun x430=>AD 61889549 (.row [.fv (.int .i64 0),.fv (.int .i64 0),.nils] false) (.ptr (.own 61889549) 0) h426 fun x431 h432 r433 w434=>Ad [(r427,w428),(r422,w423),(r419,[]),(r416,w417),(r413,[]),(r410,w411),(r407,[])] r433 w434 (Af 3 x431 x429 h432 fun h435 r436 w437=>AaJ r436 w437 h435 x5 x431 ih x13 x430)
def ZL (ih:Aa) (h415:Hp) (x418 x3 x408 x414:IV) (r419 r416 w417 r413 r410 w411 r407:AC) (x5 x13:IV):OH :=
 Ah [] false false ih 56 [x418,.fv (.int .i64 0)] h415 fun x420 h421 r422 w423=>Ad [] r422 w423 (Bd EE 3 x3 (.fv (.int .i64 2)) fun x424=>Ah [] false false ih 33 [x408,x414,x420,x424] h421 fun x425 h426 r427 w428=>Ad [] r427 w428 (ZU x425 h426 r427 w428 r422 w423 r419 r416 w417 r413 r410 w411 r407 x5 ih x13))
def YT (r413 r410 w411 r407:AC) (ih:Aa) (h409:Hp) (x412 x9 x3 x408 x5 x13:IV):OH :=
 Ad [(r410,w411),(r407,[])] r413 [] (Ah [] false false ih 45 [x412,.fv (.int .i64 1),.fv (.int .i64 0)] h409 fun x414 h415 r416 w417=>Ad [] r416 w417 (Ag 3 x9 h415 fun x418 r419=>Ad [(r416,w417),(r413,[]),(r410,w411),(r407,[])] r419 [] (ZL ih h415 x418 x3 x408 x414 r419 r416 w417 r413 r410 w411 r407 x5 x13)))
def Xu (h32:Hp) (x5:IV) (ih:Aa) (x0 x9 x3 x13:IV):OH :=
 Ag 3 x5 h32 fun x406 r407=>Ad [] r407 [] (Ah [] false false ih 60 [x0,.fv (.int .i64 0),x406] h32 fun x408 h409 r410 w411=>Ad [] r410 w411 (Ag 3 x5 h409 fun x412 r413=>YT r413 r410 w411 r407 ih h409 x412 x9 x3 x408 x5 x13))
def YQ (h481:Hp) (x484:IV) (ih:Aa) (x13 x476:IV):OH :=
 Ay (Ak EE 28 1 [(0,x484)]) 61892609 h481 fun x486 h487 _ _=>Ah [] false false ih 24 [.fv (.int .i64 30),x486] h487 fun x490 h491 _ _=>Af 3 x13 x490 h491 fun h494 _ _=>As true 3 x13 h494 fun x497=>Al [x497,x476] h494
def WJ (h472:Hp) (r473 w474 r468 w469 r465 r462 w463 r458 w459 r455:AC) (x475:IV) (ih:Aa) (x13 x476:IV):OH :=
 AD 61891596 (.row [.fv (.int .i64 0),.fv (.int .i64 0),.nils] false) (.ptr (.own 61891596) 0) h472 fun x477 h478 r479 w480=>Ad [(r473,w474),(r468,w469),(r465,[]),(r462,w463),(r458,w459),(r455,[])] r479 w480 (Af 3 x477 x475 h478 fun h481 r482 w483=>Ad [] r482 w483 (Ag 3 x477 h481 fun x484 _=>YQ h481 x484 ih x13 x476))
def Aaj (x3:IV) (ih:Aa) (h467:Hp) (x0 x460 x466:IV) (r468 w469 r465 r462 w463 r458 w459 r455:AC) (x13:IV):OH :=
 Bd EE 3 x3 (.fv (.int .i64 1)) fun x470=>Ah [] false false ih 39 [x0,x460,x466,x470] h467 fun x471 h472 r473 w474=>Ad [] r473 w474 (Ar 0 x471 fun x475=>Ar 1 x471 fun x476=>WJ h472 r473 w474 r468 w469 r465 r462 w463 r458 w459 r455 x475 ih x13 x476)
def Yc (r462 w463:AC) (h461:Hp) (x9:IV) (r458 w459 r455:AC) (ih:Aa) (x3 x0 x460 x13:IV):OH :=
 Ad [] r462 w463 (Ag 3 x9 h461 fun x464 r465=>Ad [(r462,w463),(r458,w459),(r455,[])] r465 [] (Ah [] false false ih 56 [x464,.fv (.int .i64 0)] h461 fun x466 h467 r468 w469=>Ad [] r468 w469 (Aaj x3 ih h467 x0 x460 x466 r468 w469 r465 r462 w463 r458 w459 r455 x13)))
def Zb (h32:Hp) (x5:IV) (ih:Aa) (x9 x3 x0 x13:IV):OH :=
 Ag 3 x5 h32 fun x454 r455=>Ad [] r455 [] (Ay (Ak EE 28 1 [(0,x454)]) 61891586 h32 fun x456 h457 r458 w459=>Ad [] r458 w459 (Ah [] false false ih 24 [.fv (.int .i64 18),x456] h457 fun x460 h461 r462 w463=>Yc r462 w463 h461 x9 r458 w459 r455 ih x3 x0 x460 x13))
def AaA (x31:IV) (h32:Hp) (x5 x9:IV) (ih:Aa) (x3 x0 x21 x13:IV):OH :=
 AN EE 3 x31 (.fv (.int .i64 3)) fun x330=>Ai x330 (Ag 3 x5 h32 fun x331 r332=>Ad [] r332 [] (Wk h32 x9 r332 ih x3 x0 x331 x21 x13)) (AN EE 3 x31 (.fv (.int .i64 4)) fun x405=>Ai x405 (Xu h32 x5 ih x0 x9 x3 x13) (Zb h32 x5 ih x9 x3 x0 x13))
def ZH (x31:IV) (h32:Hp) (x9:IV) (ih:Aa) (x3 x0 x5 x13 x21:IV):OH :=
 AN EE 3 x31 (.fv (.int .i64 1)) fun x132=>Ai x132 (Ag 3 x9 h32 fun x133 _=>Ah [] false false ih 56 [x133,.fv (.int .i64 0)] h32 fun x135 h136 _ _=>Abf ih h136 x135 x9 x3 x0 x5 x13) (AN EE 3 x31 (.fv (.int .i64 2)) fun x226=>Ai x226 (Aby h32 x9 ih x3 x0 x5 x13) (AaA x31 h32 x5 x9 ih x3 x0 x21 x13))
def Aa3 (x9:IV) (h25:Hp) (ih:Aa) (x21 x3 x0 x5 x13:IV):OH :=
 Ab 1 x9 fun x28=>Ae x28 h25 fun x29 _=>Ah [] false false ih 55 [x29,.fv (.int .i64 7)] h25 fun x31 h32 _ _=>AN EE 3 x31 (.fv (.int .i64 0)) fun x35=>Ai x35 (Abx h32 x21 x9 ih x3 x0 x5 x13) (ZH x31 h32 x9 ih x3 x0 x5 x13 x21)
def S59 (ih:Aa) (n:Nat) (x0 x1 x2 x3:IV) (h4:Hp):OH :=
 AX 61865984 x1 h4 fun x5 h6 _ _=>AX 61865985 x2 h6 fun x9 h10 _ _=>AD 61865986 (.row [.fv (.int .i64 0),.fv (.int .i64 0),.nils] false) (.ptr (.own 61865986) 0) h10 fun x13 h14 _ _=>Ah [] false false ih 24 [.fv (.int .i64 15),.nils] h14 fun x17 h18 _ _=>AD 61867009 (.row [.fv (.int .i64 0),.fv (.int .i64 0),.nils] false) (.ptr (.own 61867009) 0) h18 fun x21 h22 _ _=>Af 3 x21 x17 h22 fun h25 _ _=>Aa3 x9 h25 ih x21 x3 x0 x5 x13
theorem AoT (ih:Aa) (n:Nat) (x0 x1 x2 x3:IV) (h4:Hp):Aw EE ih ft.get n 59 [x0,x1,x2,x3] h4=S59 ih n x0 x1 x2 x3 h4:=by kernel_rfl
def UC (r25 w26:AC) (h24:Hp) (x23:IV):OH :=
 Ad [] r25 w26 (Al [x23] h24)
def U7 (r17 r14 w15 r10 w11:AC) (x1 x16:IV) (h13:Hp) (x12:IV):OH :=
 Ad [(r14,w15),(r10,w11)] r17 [] (Bw [.fv (.int .i64 0),.fv (.int .i64 0),.fv (.int .i64 0),.nils] [(0,1,x1),(1,3,x16)] fun x18=>Ay (Ak EE 27 1 [(0,x18)]) 62915590 h13 fun x19 h20 r21 w22=>Ad [(r14,w15),(r10,w11)] r21 w22 (Ay (AS EE 62915591 false .append [27,27] [x12,x19]) 62915591 h20 fun x23 h24 r25 w26=>UC r25 w26 h24 x23))
def S60 (ih:Aa) (n:Nat) (x0 x1 x2:IV) (h3:Hp):OH :=
 AX 62914560 x2 h3 fun x4 h5 _ _=>Ay (Ak EE 27 0 []) 62915584 h5 fun x8 h9 r10 w11=>Ad [] r10 w11 (Ay (AS EE 62915586 false .append [27,27] [x8,x0]) 62915586 h9 fun x12 h13 r14 w15=>Ad [] r14 w15 (Ag 3 x4 h13 fun x16 r17=>U7 r17 r14 w15 r10 w11 x1 x16 h13 x12))
theorem AqH (ih:Aa) (n:Nat) (x0 x1 x2:IV) (h3:Hp):Aw EE ih ft.get n 60 [x0,x1,x2] h3=S60 ih n x0 x1 x2 h3:=by kernel_rfl
def EO (h20:Hp) (x5:IV):OH :=
 Bw [.fv (.int .i64 0),.fv (.int .i64 0),.nils] [] fun x26=>Af 3 x5 x26 h20 fun h27 _ _=>As true 3 x5 h27 fun x30=>Al [x30] h27
def EA (ih:Aa) (h20:Hp) (x41 x5:IV):OH :=
 Ah [] false false ih 25 [x41] h20 fun x42 h43 _ _=>Af 3 x5 x42 h43 fun h46 _ _=>As true 3 x5 h46 fun x49=>Al [x49] h46
def En (x2 x1:IV) (h20:Hp) (ih:Aa) (x5:IV):OH :=
 Bd EE 3 x2 (.fv (.int .i64 1)) fun x36=>AH x1 fun x37=>Ab 1 x37 fun x38=>Ae x38 h20 fun x39 _=>Bd EE 3 x36 x39 fun x41=>EA ih h20 x41 x5
def EP (h4 h126:Hp) (x98 x99 x100 x101 x102 x103 x129:IV) (q66:List IV→Hp→OH):OH :=
 Bs (h4.own.map (·.1)) [63982597,63984651] [x98,x99,x100,x101,x102,x103,x129] h126 fun h130=>q66 [x98,x99,x100,x101,x102,x103,x129] h130
def Ek (r123 w124:AC) (x103:IV) (h122:Hp) (x121 x104:IV) (h4:Hp) (x98 x99 x100 x101 x102:IV) (q66:List IV→Hp→OH):OH :=
 Ad [] r123 w124 (Ab 2 x103 fun x125=>A9 x125 x121 h122 fun h126 r127 w128=>Ad [] r127 w128 (Bp EE 3 x104 (.fv (.int .i64 1)) fun x129=>EP h4 h126 x98 x99 x100 x101 x102 x103 x129 q66))
def Ew (ih:Aa) (h107:Hp) (x98 x106 x111 x112:IV) (r110:AC) (x109 x103 x104:IV) (h4:Hp) (x99 x100 x101 x102:IV) (q66:List IV→Hp→OH):OH :=
 Ah [true,false,false,false] false false ih 61 [x98,x106,x111,x112] h107 fun x113 h114 r115 w116=>Ad [(r110,[])] r115 w116 (Ay (Ak EE 28 1 [(0,x113)]) 63984650 h114 fun x117 h118 r119 w120=>Ad [(r110,[])] r119 w120 (Ay (AS EE 63984651 false .append [28,28] [x109,x117]) 63984651 h118 fun x121 h122 r123 w124=>Ek r123 w124 x103 h122 x121 x104 h4 x98 x99 x100 x101 x102 q66))
def G9 (x103:IV) (h107:Hp) (x100 x105 x101:IV) (ih:Aa) (x98 x106 x104:IV) (h4:Hp) (x99 x102:IV) (q66:List IV→Hp→OH):OH :=
 Ab 2 x103 fun x108=>Ae x108 h107 fun x109 r110=>Ad [] r110 [] (Bp EE 3 x100 x105 fun x111=>Bp EE 3 x101 (.fv (.int .i64 1)) fun x112=>Ew ih h107 x98 x106 x111 x112 r110 x109 x103 x104 h4 x99 x100 x101 x102 q66)
def Ep (h4 h162:Hp) (x139 x140 x141 x142 x143 x144 x145 x146 x147 x161 x165:IV) (q136:List IV→Hp→OH):OH :=
 Bs (h4.own.map (·.1)) [63982597] [x139,x140,x141,x142,x143,x144,x145,x146,x147,x161,x165] h162 fun h166=>q136 [x139,x140,x141,x142,x143,x144,x145,x146,x147,x161,x165] h166
def EJ (x151:IV) (h138:Hp) (ih:Aa) (x148 x149:IV) (h4:Hp) (x139 x140 x141 x142 x143 x144 x145 x146 x147:IV) (q136:List IV→Hp→OH):OH :=
 Bw [.fv (.int .i64 0),.fv (.int .i64 0),.nils,.nils,.fv (.int .i64 0),.fv (.int .i64 0),.nils] [(0,1,.fv (.int .i64 1)),(1,1,x151)] fun x152=>fzS (KE true 63982597 x152) 63982597 x152 h138 fun x153 h154 _ _=>Ay (Ak EE 114 1 [(0,x153)]) 63982598 h154 fun x157 h158 _ _=>Ah [] false false ih 87 [x148,x157] h158 fun x161 h162 _ _=>Bp EE 3 x149 (.fv (.int .i64 1)) fun x165=>Ep h4 h162 x139 x140 x141 x142 x143 x144 x145 x146 x147 x161 x165 q136
def EH (x167:IV) (h138:Hp) (ih:Aa) (x139 x148:IV) (j9_97:IV→IV→IV→IV→IV→IV→IV→IV→IV→Hp→OH) (x140 x141 x142 x143 x144 x145 x146:IV):OH :=
 Ab 4 x167 fun x168=>Ag 3 x168 h138 fun x169 _=>Ah [true,false,false] false false ih 62 [x139,x169,x148] h138 fun x171 h172 _ _=>j9_97 x139 x140 x141 x142 x143 x144 x145 x146 x171 h172
def EN (l184:List IV) (x146 x141:IV) (h138:Hp) (ih:Aa) (x148:IV) (h4:Hp) (x139 x140 x142 x143 x144 x145 x147:IV) (q136:List IV→Hp→OH) (j9_97:IV→IV→IV→IV→IV→IV→IV→IV→IV→Hp→OH):OH :=
 AA l184 fun x149 _=>F8 EE 3 x149 x146 fun x150=>Ai x150 (Bp EE 3 x141 x149 fun x151=>EJ x151 h138 ih x148 x149 h4 x139 x140 x141 x142 x143 x144 x145 x146 x147 q136) (AH x147 fun x167=>EH x167 h138 ih x139 x148 j9_97 x140 x141 x142 x143 x144 x145 x146)
def EF (l179:List IV) (x141:IV) (h138:Hp) (ih:Aa) (h4:Hp) (x139 x140 x142 x143:IV) (q136:List IV→Hp→OH) (j9_97:IV→IV→IV→IV→IV→IV→IV→IV→IV→Hp→OH):OH :=
 AA l179 fun x144 l180=>AA l180 fun x145 l181=>AA l181 fun x146 l182=>AA l182 fun x147 l183=>AA l183 fun x148 l184=>EN l184 x146 x141 h138 ih x148 h4 x139 x140 x142 x143 x144 x145 x147 q136 j9_97
def GS (l137:List IV) (h138:Hp) (ih:Aa) (h4:Hp) (q136:List IV→Hp→OH) (j9_97:IV→IV→IV→IV→IV→IV→IV→IV→IV→Hp→OH):OH :=
 AA l137 fun x139 l175=>AA l175 fun x140 l176=>AA l176 fun x141 l177=>AA l177 fun x142 l178=>AA l178 fun x143 l179=>EF l179 x141 h138 ih h4 x139 x140 x142 x143 q136 j9_97
def Ej (h87:Hp) (x133:IV) (h4:Hp) (x69 x70 x71 x72 x73 x74 x75 x86 x95:IV) (n:Nat) (ih:Aa) (j9_97:IV→IV→IV→IV→IV→IV→IV→IV→IV→Hp→OH):OH :=
 Ae x133 h87 fun x134 _=>Bs (h4.own.map (·.1)) [63982597] [x69,x70,x71,x72,x73,x74,x75,x86,x95,x134,.fv (.int .i64 0)] h87 fun h186=>By n (fun q136 l137 h138=>GS l137 h138 ih h4 q136 j9_97) [x69,x70,x71,x72,x73,x74,x75,x86,x95,x134,.fv (.int .i64 0)] h186
def Et (x131 x95:IV) (h87 h4:Hp) (x69 x70 x71 x72 x73 x74 x75 x86:IV) (n:Nat) (ih:Aa) (j9_97:IV→IV→IV→IV→IV→IV→IV→IV→IV→Hp→OH):OH :=
 Ai x131 (AH x95 fun x132=>Ab 3 x132 fun x133=>Ej h87 x133 h4 x69 x70 x71 x72 x73 x74 x75 x86 x95 n ih j9_97) (j9_97 x69 x70 x71 x72 x73 x74 x75 x86 x95 h87)
def EQ (h87:Hp) (x91 x75:IV) (ih:Aa) (h4:Hp) (q66:List IV→Hp→OH) (x86 x69 x70 x71 x72 x73 x74:IV) (n:Nat):OH :=
 Ae x91 h87 fun x92 _=>AT 1 x92 x75 fun x94=>Ae x94 h87 fun x95 _=>(fun (j9_97:IV→IV→IV→IV→IV→IV→IV→IV→IV→Hp→OH)=>Ke EE 3 x86 (.fv (.int .i64 0)) fun x131=>Et x131 x95 h87 h4 x69 x70 x71 x72 x73 x74 x75 x86 n ih j9_97) fun x98 x99 x100 x101 x102 x103 x104 x105 x106 h107=>G9 x103 h107 x100 x105 x101 ih x98 x106 x104 h4 x99 x102 q66
def Ez (x82:IV) (h68:Hp) (ih:Aa) (x75 x70:IV) (h4:Hp) (q66:List IV→Hp→OH) (x69 x71 x72 x73 x74:IV) (n:Nat):OH :=
 Ab 0 x82 fun x83=>Ae x83 h68 fun x84 _=>Ah [] false false ih 54 [x84,x75] h68 fun x86 h87 _ _=>AH x70 fun x90=>Ab 2 x90 fun x91=>EQ h87 x91 x75 ih h4 q66 x86 x69 x70 x71 x72 x73 x74 n
def Eo (h68:Hp) (x73 x187:IV):OH :=
 Af 3 x73 x187 h68 fun h189 _ _=>As true 3 x73 h189 fun x192=>Al [x192] h189
def EL (x78 x75 x70:IV) (h68:Hp) (ih:Aa) (h4:Hp) (q66:List IV→Hp→OH) (x69 x71 x72 x73 x74:IV) (n:Nat):OH :=
 B0 x78 fun x80=>F8 EE 3 x75 x80 fun x81=>Ai x81 (AH x70 fun x82=>Ez x82 h68 ih x75 x70 h4 q66 x69 x71 x72 x73 x74 n) (Ag 3 x74 h68 fun x187 _=>Eo h68 x73 x187)
def Ei (l197:List IV) (x70:IV) (h68:Hp) (ih:Aa) (h4:Hp) (q66:List IV→Hp→OH) (x69 x71 x72 x73:IV) (n:Nat):OH :=
 AA l197 fun x74 l198=>AA l198 fun x75 _=>AH x70 fun x76=>Ab 2 x76 fun x77=>Ae x77 h68 fun x78 _=>EL x78 x75 x70 h68 ih h4 q66 x69 x71 x72 x73 x74 n
def E9 (l67:List IV) (h68:Hp) (ih:Aa) (h4:Hp) (q66:List IV→Hp→OH) (n:Nat):OH :=
 AA l67 fun x69 l193=>AA l193 fun x70 l194=>AA l194 fun x71 l195=>AA l195 fun x72 l196=>AA l196 fun x73 l197=>Ei l197 x70 h68 ih h4 q66 x69 x71 x72 x73 n
def Eu (r61 w62 r57 r53:AC) (h60:Hp) (x59 x58:IV) (h4:Hp) (x0 x1 x2 x3 x5:IV) (n:Nat) (ih:Aa):OH :=
 Ad [(r57,[]),(r53,[])] r61 w62 (Af 3 x59 x58 h60 fun h63 r64 w65=>Ad [] r64 w65 (Bs (h4.own.map (·.1)) [63982597,63984651] [x0,x1,x2,x3,x5,x59,.fv (.int .i64 0)] h63 fun h200=>By n (fun q66 l67 h68=>E9 l67 h68 ih h4 q66 n) [x0,x1,x2,x3,x5,x59,.fv (.int .i64 0)] h200))
def EI (x54:IV) (h20:Hp) (r53:AC) (x52:IV) (h4:Hp) (x0 x1 x2 x3 x5:IV) (n:Nat) (ih:Aa):OH :=
 Ab 1 x54 fun x55=>Ae x55 h20 fun x56 r57=>Ad [(r53,[])] r57 [] (Bw [.fv (.int .i64 0),.fv (.int .i64 0),.nils] [(0,1,x52),(1,1,x56)] fun x58=>AD 63971337 (.row [.fv (.int .i64 0),.fv (.int .i64 0),.nils] false) (.ptr (.own 63971337) 0) h20 fun x59 h60 r61 w62=>Eu r61 w62 r57 r53 h60 x59 x58 h4 x0 x1 x2 x3 x5 n ih)
def EB (x1:IV) (h20 h4:Hp) (x0 x2 x3 x5:IV) (n:Nat) (ih:Aa):OH :=
 AH x1 fun x50=>Ab 0 x50 fun x51=>Ae x51 h20 fun x52 r53=>Ad [] r53 [] (AH x1 fun x54=>EI x54 h20 r53 x52 h4 x0 x1 x2 x3 x5 n ih)
def EM (x1:IV) (h20:Hp) (x2:IV) (ih:Aa) (x5:IV) (h4:Hp) (x0 x3:IV) (n:Nat):OH :=
 AH x1 fun x31=>Ab 0 x31 fun x32=>Ae x32 h20 fun x33 _=>AN EE 3 x33 (.fv (.int .i64 1)) fun x35=>Ai x35 (En x2 x1 h20 ih x5) (EB x1 h20 h4 x0 x2 x3 x5 n ih)
def EK (x0:IV) (h20:Hp) (x5 x1 x2:IV) (ih:Aa) (h4:Hp) (x3:IV) (n:Nat):OH :=
 AH x0 fun x21=>Ab 2 x21 fun x22=>Ae x22 h20 fun x23 _=>Ch EE 3 x23 (.fv (.int .i64 0)) fun x25=>Ai x25 (EO h20 x5) (EM x1 h20 x2 ih x5 h4 x0 x3 n)
def Em (x259:IV) (h255:Hp) (j0_19:Hp→OH):OH :=
 Ab 2 x259 fun x260=>A9 x260 (.fv (.int .i64 5)) h255 fun h261 _ _=>j0_19 h261
def EC (h249:Hp) (x205 x237 x248 x0:IV) (j0_19:Hp→OH):OH :=
 Ac x205 true h249 (fun k252=>AI x237 (.fv (.bool true)) x248 fun x253=>k252 x253 h249 [] []) fun x254 h255 _ _=>AI x205 x254 (.fv (.bool false)) fun x258=>Ai x258 (AH x0 fun x259=>Em x259 h255 j0_19) (j0_19 h255)
def Es (h220:Hp) (x205 x219 x3 x0:IV) (j0_19:Hp→OH):OH :=
 Ac x205 true h220 (fun k223=>Ae x219 h220 fun x224 r225=>k223 x224 h220 r225 []) fun x226 h227 _ _=>Ac x205 true h227 (fun k230=>Ke EE 3 x226 (.fv (.int .i64 3000)) fun x231=>k230 x231 h227 [] []) fun x232 h233 _ _=>Ac x205 true h233 (fun k236=>k236 x232 h233 [] []) fun x237 h238 _ _=>Ac x237 false h238 (fun k241=>k241 x3 h238 [] []) fun x242 h243 _ _=>Ac x237 false h243 (fun k246=>Ke EE 3 x242 (.fv (.int .i64 120)) fun x247=>k246 x247 h243 [] []) fun x248 h249 _ _=>EC h249 x205 x237 x248 x0 j0_19
def ED (h16:Hp) (x202 x0 x3:IV) (j0_19:Hp→OH):OH :=
 Ae x202 h16 fun x203 _=>AN EE 3 x203 (.fv (.int .i64 0)) fun x205=>Ac x205 true h16 (fun k206=>k206 x0 h16 [] []) fun x207 h208 _ _=>Ac x205 true h208 (fun k211=>AH x207 fun x212=>k211 x212 h208 [] []) fun x213 h214 _ _=>Ac x205 true h214 (fun k217=>Ab 1 x213 fun x218=>k217 x218 h214 [] []) fun x219 h220 _ _=>Es h220 x205 x219 x3 x0 j0_19
def Ey (x14:IV) (h6:Hp) (x13 x0 x5 x1 x2:IV) (ih:Aa) (h4:Hp) (x3:IV) (n:Nat):OH :=
 Ab 1 x14 fun x15=>A9 x15 x13 h6 fun h16 _ _=>(fun (j0_19:Hp→OH)=>AH x0 fun x201=>Ab 2 x201 fun x202=>ED h16 x202 x0 x3 j0_19) fun h20=>EK x0 h20 x5 x1 x2 ih h4 x3 n
def S61 (ih:Aa) (n:Nat) (x0 x1 x2 x3:IV) (h4:Hp):OH :=
 AD 63963136 (.row [.fv (.int .i64 0),.fv (.int .i64 0),.nils] false) (.ptr (.own 63963136) 0) h4 fun x5 h6 _ _=>AH x0 fun x9=>Ab 1 x9 fun x10=>Ae x10 h6 fun x11 _=>Bp EE 3 x11 (.fv (.int .i64 1)) fun x13=>AH x0 fun x14=>Ey x14 h6 x13 x0 x5 x1 x2 ih h4 x3 n
theorem Aqb (ih:Aa) (n:Nat) (x0 x1 x2 x3:IV) (h4:Hp):Aw EE ih ft.get n 61 [x0,x1,x2,x3] h4=S61 ih n x0 x1 x2 x3 h4:=by kernel_rfl
end
end Idl
end Go.Proofs.Ytkfecngimlcfoaa

/-
  Texts of a proof, part 8: an ideal semantics of the program, its functions in shallow form, contracts of them. No statement of the seat is proved here.
-/
import Derived.Test.YtaifgaidaglblaaEqualAllK7
set_option linter.all false
noncomputable section
set_option maxRecDepth 100000
set_option linter.unusedVariables false
namespace Go.Proofs.Ytaifgaidaglblaa
namespace Idl
noncomputable section
abbrev OH:=Option (IV×Hp)
abbrev AI:=List Ref
abbrev iq (n:Int):IV:=.fv (.int .i64 n)
def AeX (h228:Hp) (x220 x222 x227:IV):OH :=
 Ab x220 true h228 (fun k231=>A5 EE 4 x222 x227 fun x232=>k231 x232 h228 [] []) fun x233 h234 _ _=>AF x220 x233 (.fv (.bool false)) fun x237=>An [x237] h234
def Afj (h206:Hp) (x203 x145 x205 x189:IV):OH :=
 Ab x203 true h206 (fun k209=>k209 x145 h206 [] []) fun x210 h211 _ _=>Ab x203 true h211 (fun k214=>A5 EE 4 x205 x210 fun x215=>k214 x215 h211 [] []) fun x216 h217 _ _=>AF x203 x216 (.fv (.bool false)) fun x220=>Ab x220 true h217 (fun k221=>k221 x189 h217 [] []) fun x222 h223 _ _=>Ab x220 true h223 (fun k226=>k226 x145 h223 [] []) fun x227 h228 _ _=>AeX h228 x220 x222 x227
def Af1 (x180:IV) (h186:Hp) (x190 x179 x145 x189:IV):OH :=
 A5 EE 37 x180 (.fv (.int .i64 0)) fun x191=>Ab x191 true h186 (fun k192=>k192 x190 h186 [] []) fun x193 h194 _ _=>Ab x191 true h194 (fun k197=>A5 EE 37 x193 (.fv (.int .i64 0)) fun x198=>k197 x198 h194 [] []) fun x199 h200 _ _=>AF x191 x199 (.fv (.bool false)) fun x203=>Ab x203 true h200 (fun k204=>k204 x179 h200 [] []) fun x205 h206 _ _=>Afj h206 x203 x145 x205 x189
def AgX (h176:Hp) (x127 x101:IV) (ih:Aa) (x180 x179 x145:IV):OH :=
 Ai 3 x127 h176 fun x181 _=>Ai 3 x101 h176 fun x183 _=>Al [] false false ih 16 [x181,x183] h176 fun x185 h186 _ _=>AK 0 x185 fun x189=>AK 1 x185 fun x190=>Af1 x180 h186 x190 x179 x145 x189
def Ahg (h167:Hp) (x101 x127:IV) (ih:Aa) (x145:IV):OH :=
 Ai 3 x101 h167 fun x171 _=>Ai 3 x127 h167 fun x173 _=>Al [] false false ih 16 [x171,x173] h167 fun x175 h176 _ _=>AK 0 x175 fun x179=>AK 1 x175 fun x180=>AgX h176 x127 x101 ih x180 x179 x145
def Afo (x147 x155:IV) (h156:Hp) (x146:IV) (ih:Aa) (x101 x127 x145:IV):OH :=
 AF x147 (.fv (.bool true)) x155 fun x159=>Ab x159 false h156 (fun k160=>k160 x146 h156 [] []) fun x161 h162 _ _=>Ab x159 false h162 (fun k165=>Al [] false false ih 15 [x161] h162 k165) fun x166 h167 _ _=>AF x159 (.fv (.bool true)) x166 fun x170=>Am x170 (An [.fv (.bool true)] h167) (Ahg h167 x101 x127 ih x145)
def AeP (x141 x96:IV) (h142:Hp) (x122:IV) (ih:Aa) (x101 x127:IV):OH :=
 AK 0 x141 fun x145=>AK 1 x141 fun x146=>CF (Lz .not x96) fun x147=>Ab x147 false h142 (fun k148=>k148 x122 h142 [] []) fun x149 h150 _ _=>Ab x147 false h150 (fun k153=>CF (Lz .not x149) fun x154=>k153 x154 h150 [] []) fun x155 h156 _ _=>Afo x147 x155 h156 x146 ih x101 x127 x145
def Afr (h128:Hp) (x123 x120 x127 x121 x101:IV) (ih:Aa) (x96 x122:IV):OH :=
 Aj 3 x123 x120 h128 fun h131 _ _=>Aj 3 x127 x121 h131 fun h134 _ _=>Ai 3 x101 h134 fun x137 _=>Ai 3 x127 h134 fun x139 _=>Al [] false false ih 14 [x137,x139] h134 fun x141 h142 _ _=>AeP x141 x96 h142 x122 ih x101 x127
def AeZ (x115:IV) (h116:Hp) (x101:IV) (ih:Aa) (x96:IV):OH :=
 AK 1 x115 fun x120=>AK 2 x115 fun x121=>AK 3 x115 fun x122=>AH 3151882 (.row [.fv (.int .i64 0),.fv (.int .i64 0),.nils] false) (.ptr (.own 3151882) 0) h116 fun x123 h124 _ _=>AH 3151883 (.row [.fv (.int .i64 0),.fv (.int .i64 0),.nils] false) (.ptr (.own 3151883) 0) h124 fun x127 h128 _ _=>Afr h128 x123 x120 x127 x121 x101 ih x96 x122
def AfA (h105:Hp) (x101 x95 x10 x14:IV) (ih:Aa) (x0 x4 x96:IV):OH :=
 Aj 3 x101 x95 h105 fun h108 _ _=>Ai 3 x10 h108 fun x111 _=>Ai 3 x14 h108 fun x113 _=>Al [] false false ih 13 [x0,x111,x113,x4] h108 fun x115 h116 _ _=>AK 0 x115 fun _=>AeZ x115 h116 x101 ih x96
def AgO (x89:IV) (h90:Hp) (x94 x10 x14:IV) (ih:Aa) (x0 x4:IV):OH :=
 AK 2 x89 fun x95=>AK 3 x89 fun x96=>AH 3150858 (.row [.fv (.int .i64 0),.fv (.int .i64 0),.nils] false) (.ptr (.own 3150858) 0) h90 fun x97 h98 _ _=>AH 3150859 (.row [.fv (.int .i64 0),.fv (.int .i64 0),.nils] false) (.ptr (.own 3150859) 0) h98 fun x101 h102 _ _=>Aj 3 x97 x94 h102 fun h105 _ _=>AfA h105 x101 x95 x10 x14 ih x0 x4 x96
def AgI (h81:Hp) (x6 x14:IV) (ih:Aa) (x0 x4 x10:IV):OH :=
 Ai 3 x6 h81 fun x85 _=>Ai 3 x14 h81 fun x87 _=>Al [] false false ih 13 [x0,x85,x87,x4] h81 fun x89 h90 _ _=>AK 0 x89 fun _=>AK 1 x89 fun x94=>AgO x89 h90 x94 x10 x14 ih x0 x4
def AhE (h62:Hp) (x65 x14:IV) (ih:Aa) (x6 x0 x4 x10:IV):OH :=
 Ab x65 false h62 (fun k66=>Ai 3 x14 h62 fun x67 r68=>k66 x67 h62 r68 []) fun x69 h70 _ _=>Ab x65 false h70 (fun k73=>Al [] false false ih 12 [x69] h70 k73) fun x74 h75 _ _=>Ab x65 false h75 (fun k78=>CF (Lz .not x74) fun x79=>k78 x79 h75 [] []) fun x80 h81 _ _=>AF x65 (.fv (.bool true)) x80 fun x84=>Am x84 (An [.fv (.bool true)] h81) (AgI h81 x6 x14 ih x0 x4 x10)
def Agv (x27 x42:IV) (h43:Hp) (x10:IV) (ih:Aa) (x14 x6 x0 x4:IV):OH :=
 AF x27 (.fv (.bool true)) x42 fun x46=>Ab x46 false h43 (fun k47=>Ai 3 x10 h43 fun x48 r49=>k47 x48 h43 r49 []) fun x50 h51 _ _=>Ab x46 false h51 (fun k54=>Al [] false false ih 12 [x50] h51 k54) fun x55 h56 _ _=>Ab x46 false h56 (fun k59=>CF (Lz .not x55) fun x60=>k59 x60 h56 [] []) fun x61 h62 _ _=>AF x46 (.fv (.bool true)) x61 fun x65=>AhE h62 x65 x14 ih x6 x0 x4 x10
def AhC (ih:Aa) (h19:Hp) (x0 x6 x10 x14 x4:IV):OH :=
 Al [] false false ih 11 [x0] h19 fun x23 h24 _ _=>CF (Lz .not x23) fun x27=>Ab x27 false h24 (fun k28=>Ai 3 x6 h24 fun x29 r30=>k28 x29 h24 r30 []) fun x31 h32 _ _=>Ab x27 false h32 (fun k35=>Al [] false false ih 12 [x31] h32 k35) fun x36 h37 _ _=>Ab x27 false h37 (fun k40=>CF (Lz .not x36) fun x41=>k40 x41 h37 [] []) fun x42 h43 _ _=>Agv x27 x42 h43 x10 ih x14 x6 x0 x4
def S3 (ih:Aa) (n:Nat) (x0 x1 x2 x3 x4:IV) (h5:Hp):OH :=
 A1 3145728 x1 h5 fun x6 h7 _ _=>A1 3145729 x2 h7 fun x10 h11 _ _=>A1 3145730 x3 h11 fun x14 h15 _ _=>Al [] false false ih 10 [] h15 fun x18 h19 _ _=>CF (Lz .not x18) fun x22=>Am x22 (An [.fv (.bool false)] h19) (AhC ih h19 x0 x6 x10 x14 x4)
theorem AoX (ih:Aa) (n:Nat) (x0 x1 x2 x3 x4:IV) (h5:Hp):Ax EE ih ft.get n 3 [x0,x1,x2,x3,x4] h5=S3 ih n x0 x1 x2 x3 x4 h5:=by kernel_rfl
def Anl (x85 x93:IV) (h94:Hp):OH :=
 AF x85 x93 (.fv (.bool false)) fun x97=>An [x97] h94
def Ak6 (h70:Hp) (x73 x60 x61:IV):OH :=
 Ab x73 true h70 (fun k74=>k74 x60 h70 [] []) fun x75 h76 _ _=>Ab x73 true h76 (fun k79=>CF (Lz .not x75) fun x80=>k79 x80 h76 [] []) fun x81 h82 _ _=>AF x73 x81 (.fv (.bool false)) fun x85=>Ab x85 true h82 (fun k86=>k86 x61 h82 [] []) fun x87 h88 _ _=>Ab x85 true h88 (fun k91=>A5 EE 37 x87 (.fv (.int .i64 0)) fun x92=>k91 x92 h88 [] []) fun x93 h94 _ _=>Anl x85 x93 h94
def Aja (x56:IV) (h57:Hp) (x46 x47:IV):OH :=
 AK 0 x56 fun x60=>AK 1 x56 fun x61=>Ab x46 true h57 (fun k62=>k62 x47 h57 [] []) fun x63 h64 _ _=>Ab x46 true h64 (fun k67=>A5 EE 37 x63 (.fv (.int .i64 0)) fun x68=>k67 x68 h64 [] []) fun x69 h70 _ _=>AF x46 x69 (.fv (.bool false)) fun x73=>Ak6 h70 x73 x60 x61
def Ai3 (x42:IV) (ih:Aa) (h43:Hp):OH :=
 AK 0 x42 fun x46=>AK 1 x42 fun x47=>Al [] false false ih 29 [.fv (.int .i64 1)] h43 fun x48 h49 _ _=>Al [] false false ih 29 [.fv (.int .i64 2)] h49 fun x52 h53 _ _=>Al [] false false ih 16 [x48,x52] h53 fun x56 h57 _ _=>Aja x56 h57 x46 x47
def AiK (r36 w37 r13:AI) (ih:Aa) (h35:Hp) (x34 x12:IV):OH :=
 Ad [(r13,[])] r36 w37 (Al [] false false ih 24 [.fv (.int .i64 4),x34] h35 fun x38 h39 r40 w41=>Ad [(r13,[])] r40 w41 (Al [] false false ih 16 [x12,x38] h39 fun x42 h43 r44 w45=>Ad [] r44 w45 (Ai3 x42 ih h43)))
def AjC (h23:Hp) (x18 x22:IV) (r13:AI) (ih:Aa) (x14 x12:IV):OH :=
 Az (Ak EE 29 2 [(0,x18),(1,x22)]) 10487812 h23 fun x26 h27 r28 w29=>Ad [(r13,[])] r28 w29 (Al [] false false ih 24 [.fv (.int .i64 5),x26] h27 fun x30 h31 r32 w33=>Ad [(r13,[])] r32 w33 (Az (Ak EE 29 2 [(0,x14),(1,x30)]) 10487814 h31 fun x34 h35 r36 w37=>AiK r36 w37 r13 ih h35 x34 x12))
def AiD (r16 w17 r13:AI) (ih:Aa) (h15:Hp) (x14 x12:IV):OH :=
 Ad [(r13,[])] r16 w17 (Al [] false false ih 26 [.fv (.int .i64 1)] h15 fun x18 h19 r20 w21=>Ad [(r13,[])] r20 w21 (Al [] false false ih 26 [.fv (.int .i64 0)] h19 fun x22 h23 r24 w25=>Ad [(r13,[])] r24 w25 (AjC h23 x18 x22 r13 ih x14 x12)))
def S10 (ih:Aa) (n:Nat) (h0:Hp):OH :=
 Al [] false false ih 26 [.fv (.int .i64 0)] h0 fun x1 h2 _ _=>AH 10486785 (.row [.fv (.int .i64 0),.fv (.int .i64 0),.nils] false) (.ptr (.own 10486785) 0) h2 fun x5 h6 _ _=>Aj 3 x5 x1 h6 fun h9 _ _=>Ai 3 x5 h9 fun x12 r13=>Ad [] r13 [] (Al [] false false ih 24 [.fv (.int .i64 10),.nils] h9 fun x14 h15 r16 w17=>AiD r16 w17 r13 ih h15 x14 x12)
theorem AlN (ih:Aa) (n:Nat) (h0:Hp):Ax EE ih ft.get n 10 [] h0=S10 ih n h0:=by kernel_rfl
def Lw (x6:IV) (q2:List IV→Hp→OH) (h13:Hp) (x5:IV):OH :=
 BD EE 3 x6 (.fv (.int .i64 1)) fun x17=>q2 [x5,x17] h13
def Lo (x5 x6:IV) (h4:Hp) (ih:Aa) (q2:List IV→Hp→OH):OH :=
 A6 3 x5 x6 fun x9=>Ai 3 x9 h4 fun x10 _=>Al [] false false ih 12 [x10] h4 fun x12 h13 _ _=>CF (Lz .not x12) fun x16=>Am x16 (An [.fv (.bool false)] h13) (Lw x6 q2 h13 x5)
def LG (x5:IV) (h4:Hp):OH :=
 BQ x5 fun x18=>leS EE 3 x18 (.fv (.int .i64 6)) fun x19=>An [x19] h4
def Oc (l3:List IV) (h4:Hp) (ih:Aa) (q2:List IV→Hp→OH):OH :=
 Aw l3 fun x5 l20=>Aw l20 fun x6 _=>BQ x5 fun x7=>GQ EE 3 x6 x7 fun x8=>Am x8 (Lo x5 x6 h4 ih q2) (LG x5 h4)
def S11 (ih:Aa) (n:Nat) (x0:IV) (h1:Hp):OH :=
 BE n (fun q2 l3 h4=>Oc l3 h4 ih q2) [x0,.fv (.int .i64 0)] h1
theorem Anh (ih:Aa) (n:Nat) (x0:IV) (h1:Hp):Ax EE ih ft.get n 11 [x0] h1=S11 ih n x0 h1:=by kernel_rfl
def S12 (ih:Aa) (n:Nat) (x0:IV) (h1:Hp):OH :=
 A1 12582912 x0 h1 fun x2 h3 _ _=>Ai 3 x2 h3 fun x6 _=>Al [] false false ih 33 [x6,.fv (.int .i64 300)] h3 fun x8 h9 _ _=>GQ EE 3 x8 (.fv (.int .i64 300)) fun x12=>An [x12] h9
theorem Alo (ih:Aa) (n:Nat) (x0:IV) (h1:Hp):Ax EE ih ft.get n 12 [x0] h1=S12 ih n x0 h1:=by kernel_rfl
def AbT (r85 w86:AI) (h84:Hp) (x13 x17 x21:IV):OH :=
 Ad [] r85 w86 (Av true 3 x13 h84 fun x87=>Av true 3 x17 h84 fun x88=>An [x21,x87,x88,.fv (.bool false)] h84)
def Z9 (ih:Aa) (h71:Hp) (r76:AI) (x13 x75 x17 x21:IV):OH :=
 Al [] false false ih 36 [.fv (.int .i64 0)] h71 fun x77 h78 r79 w80=>Ad [(r76,[])] r79 w80 (Aj 3 x13 x75 h78 fun h81 r82 w83=>Ad [] r82 w83 (Aj 3 x17 x77 h81 fun h84 r85 w86=>AbT r85 w86 h84 x13 x17 x21))
def WE (r97 w98:AI) (h96:Hp) (x13 x17 x21:IV):OH :=
 Ad [] r97 w98 (Av true 3 x13 h96 fun x99=>Av true 3 x17 h96 fun x100=>An [x21,x99,x100,.fv (.bool true)] h96)
def Abj (h71:Hp) (x48:IV) (r90:AI) (x13 x89 x17 x21:IV):OH :=
 Ai 3 x48 h71 fun x91 r92=>Ad [(r90,[])] r92 [] (Aj 3 x13 x89 h71 fun h93 r94 w95=>Ad [(r92,[])] r94 w95 (Aj 3 x17 x91 h93 fun h96 r97 w98=>WE r97 w98 h96 x13 x17 x21))
def Aa0 (x55 x70:IV) (h71:Hp) (x31:IV) (ih:Aa) (x13 x17 x21 x48:IV):OH :=
 AF x55 (.fv (.bool true)) x70 fun x74=>Am x74 (Ai 3 x31 h71 fun x75 r76=>Ad [] r76 [] (Z9 ih h71 r76 x13 x75 x17 x21)) (Ai 3 x31 h71 fun x89 r90=>Ad [] r90 [] (Abj h71 x48 r90 x13 x89 x17 x21))
def W6 (h49:Hp) (x48 x46 x47:IV) (ih:Aa) (x31 x13 x17 x21:IV):OH :=
 Aj 3 x48 x46 h49 fun h52 _ _=>CF (Lz .not x47) fun x55=>Ab x55 false h52 (fun k56=>Ai 3 x48 h52 fun x57 r58=>k56 x57 h52 r58 []) fun x59 h60 _ _=>Ab x55 false h60 (fun k63=>Al [] false false ih 27 [x59] h60 k63) fun x64 h65 _ _=>Ab x55 false h65 (fun k68=>Gy EE 3 x64 (.fv (.int .i64 0)) fun x69=>k68 x69 h65 [] []) fun x70 h71 _ _=>Aa0 x55 x70 h71 x31 ih x13 x17 x21 x48
def Xe (h35:Hp) (x5:IV) (ih:Aa) (x21 x38 x31 x13 x17:IV):OH :=
 Ai 3 x5 h35 fun x40 _=>Al [] false false ih 35 [x21,x38,x40,.fv (.int .i64 5)] h35 fun x42 h43 _ _=>AK 0 x42 fun x46=>AK 1 x42 fun x47=>AH 13635591 (.row [.fv (.int .i64 0),.fv (.int .i64 0),.nils] false) (.ptr (.own 13635591) 0) h43 fun x48 h49 _ _=>W6 h49 x48 x46 x47 ih x31 x13 x17 x21
def Aby (h22:Hp) (x9:IV) (ih:Aa) (x5 x21 x13 x17:IV):OH :=
 Ai 3 x9 h22 fun x25 _=>Al [] false false ih 34 [x25,.fv (.int .i64 2)] h22 fun x27 h28 _ _=>AH 13634562 (.row [.fv (.int .i64 0),.fv (.int .i64 0),.nils] false) (.ptr (.own 13634562) 0) h28 fun x31 h32 _ _=>Aj 3 x31 x27 h32 fun h35 _ _=>Ai 3 x31 h35 fun x38 _=>Xe h35 x5 ih x21 x38 x31 x13 x17
def Zm (r161 w162:AI) (h160:Hp) (x13 x17 x21:IV):OH :=
 Ad [] r161 w162 (Av true 3 x13 h160 fun x163=>Av true 3 x17 h160 fun x164=>An [x21,x163,x164,.fv (.bool false)] h160)
def XJ (ih:Aa) (h147:Hp) (r152:AI) (x13 x151 x17 x21:IV):OH :=
 Al [] false false ih 24 [.fv (.int .i64 11),.nils] h147 fun x153 h154 r155 w156=>Ad [(r152,[])] r155 w156 (Aj 3 x13 x151 h154 fun h157 r158 w159=>Ad [] r158 w159 (Aj 3 x17 x153 h157 fun h160 r161 w162=>Zm r161 w162 h160 x13 x17 x21))
def YQ (r173 w174:AI) (h172:Hp) (x13 x17 x21:IV):OH :=
 Ad [] r173 w174 (Av true 3 x13 h172 fun x175=>Av true 3 x17 h172 fun x176=>An [x21,x175,x176,.fv (.bool true)] h172)
def Zi (h147:Hp) (x124:IV) (r166:AI) (x13 x165 x17 x21:IV):OH :=
 Ai 3 x124 h147 fun x167 r168=>Ad [(r166,[])] r168 [] (Aj 3 x13 x165 h147 fun h169 r170 w171=>Ad [(r168,[])] r170 w171 (Aj 3 x17 x167 h169 fun h172 r173 w174=>YQ r173 w174 h172 x13 x17 x21))
def YF (x131 x146:IV) (h147:Hp) (x107:IV) (ih:Aa) (x13 x17 x21 x124:IV):OH :=
 AF x131 (.fv (.bool true)) x146 fun x150=>Am x150 (Ai 3 x107 h147 fun x151 r152=>Ad [] r152 [] (XJ ih h147 r152 x13 x151 x17 x21)) (Ai 3 x107 h147 fun x165 r166=>Ad [] r166 [] (Zi h147 x124 r166 x13 x165 x17 x21))
def X1 (h125:Hp) (x124 x122 x123:IV) (ih:Aa) (x107 x13 x17 x21:IV):OH :=
 Aj 3 x124 x122 h125 fun h128 _ _=>CF (Lz .not x123) fun x131=>Ab x131 false h128 (fun k132=>Ai 3 x124 h128 fun x133 r134=>k132 x133 h128 r134 []) fun x135 h136 _ _=>Ab x131 false h136 (fun k139=>Al [] false false ih 27 [x135] h136 k139) fun x140 h141 _ _=>Ab x131 false h141 (fun k144=>Gy EE 3 x140 (.fv (.int .i64 0)) fun x145=>k144 x145 h141 [] []) fun x146 h147 _ _=>YF x131 x146 h147 x107 ih x13 x17 x21 x124
def Ab8 (h111:Hp) (x5:IV) (ih:Aa) (x21 x114 x107 x13 x17:IV):OH :=
 Ai 3 x5 h111 fun x116 _=>Al [] false false ih 23 [x21,x114,x116,.fv (.int .i64 5)] h111 fun x118 h119 _ _=>AK 0 x118 fun x122=>AK 1 x118 fun x123=>AH 13640711 (.row [.fv (.int .i64 0),.fv (.int .i64 0),.nils] false) (.ptr (.own 13640711) 0) h119 fun x124 h125 _ _=>X1 h125 x124 x122 x123 ih x107 x13 x17 x21
def Ab3 (h22:Hp) (x9:IV) (ih:Aa) (x21 x5 x13 x17:IV):OH :=
 Ai 3 x9 h22 fun x101 _=>Al [] false false ih 21 [x21,x101,.fv (.int .i64 2)] h22 fun x103 h104 _ _=>AH 13639683 (.row [.fv (.int .i64 0),.fv (.int .i64 0),.nils] false) (.ptr (.own 13639683) 0) h104 fun x107 h108 _ _=>Aj 3 x107 x103 h108 fun h111 _ _=>Ai 3 x107 h111 fun x114 _=>Ab8 h111 x5 ih x21 x114 x107 x13 x17
def S13 (ih:Aa) (n:Nat) (x0 x1 x2 x3:IV) (h4:Hp):OH :=
 A1 13631488 x1 h4 fun x5 h6 _ _=>A1 13631489 x2 h6 fun x9 h10 _ _=>AH 13631491 (.row [.fv (.int .i64 0),.fv (.int .i64 0),.nils] false) (.ptr (.own 13631491) 0) h10 fun x13 h14 _ _=>AH 13631492 (.row [.fv (.int .i64 0),.fv (.int .i64 0),.nils] false) (.ptr (.own 13631492) 0) h14 fun x17 h18 _ _=>Al [] false false ih 20 [x0] h18 fun x21 h22 _ _=>Am x3 (Aby h22 x9 ih x5 x21 x13 x17) (Ab3 h22 x9 ih x21 x5 x13 x17)
theorem AkG (ih:Aa) (n:Nat) (x0 x1 x2 x3:IV) (h4:Hp):Ax EE ih ft.get n 13 [x0,x1,x2,x3] h4=S13 ih n x0 x1 x2 x3 h4:=by kernel_rfl
def Rg (r53 w54:AI) (ih:Aa) (h52:Hp) (x45 x51:IV):OH :=
 Ad [] r53 w54 (Al [] false false ih 37 [x45,x51] h52 fun x55 h56 r57 w58=>Ad [] r57 w58 (An [x55,.fv (.int .i64 0)] h56))
def RB (ih:Aa) (h39:Hp) (x43 x35:IV) (r44:AI):OH :=
 Al [] false false ih 38 [x43] h39 fun x45 h46 r47 w48=>Ad [] r47 w48 (Ai 3 x35 h46 fun x49 r50=>Ad [(r47,w48),(r44,[])] r50 [] (Al [] false false ih 38 [x49] h46 fun x51 h52 r53 w54=>Rg r53 w54 ih h52 x45 x51))
def QZ (x34:IV) (h39:Hp) (x19:IV) (ih:Aa) (x35:IV):OH :=
 Gy EE 3 x34 (.fv (.int .i64 0)) fun x42=>Am x42 (An [.fv (.bool false),x34] h39) (Ai 3 x19 h39 fun x43 r44=>Ad [] r44 [] (RB ih h39 x43 x35 r44))
def QE (ih:Aa) (h23:Hp) (x27 x19:IV):OH :=
 Al [] false false ih 17 [x27] h23 fun x29 h30 _ _=>AK 0 x29 fun x33=>AK 1 x29 fun x34=>AH 14684165 (.row [.fv (.int .i64 0),.fv (.int .i64 0),.nils] false) (.ptr (.own 14684165) 0) h30 fun x35 h36 _ _=>Aj 3 x35 x33 h36 fun h39 _ _=>QZ x34 h39 x19 ih x35
def Qh (h14:Hp) (x17 x18 x7:IV) (ih:Aa):OH :=
 AH 14681093 (.row [.fv (.int .i64 0),.fv (.int .i64 0),.nils] false) (.ptr (.own 14681093) 0) h14 fun x19 h20 _ _=>Aj 3 x19 x17 h20 fun h23 _ _=>Gy EE 3 x18 (.fv (.int .i64 0)) fun x26=>Am x26 (An [.fv (.bool false),x18] h23) (Ai 3 x7 h23 fun x27 _=>QE ih h23 x27 x19)
def S14 (ih:Aa) (n:Nat) (x0 x1:IV) (h2:Hp):OH :=
 A1 14680064 x0 h2 fun x3 h4 _ _=>A1 14680065 x1 h4 fun x7 h8 _ _=>Ai 3 x3 h8 fun x11 _=>Al [] false false ih 17 [x11] h8 fun x13 h14 _ _=>AK 0 x13 fun x17=>AK 1 x13 fun x18=>Qh h14 x17 x18 x7 ih
theorem AnD (ih:Aa) (n:Nat) (x0 x1:IV) (h2:Hp):Ax EE ih ft.get n 14 [x0,x1] h2=S14 ih n x0 x1 h2:=by kernel_rfl
def S15 (ih:Aa) (n:Nat) (x0:IV) (h1:Hp):OH :=
 A5 EE 3 x0 (.fv (.int .i64 17)) fun x2=>Ab x2 false h1 (fun k3=>k3 x0 h1 [] []) fun x4 h5 _ _=>Ab x2 false h5 (fun k8=>A5 EE 3 x4 (.fv (.int .i64 5)) fun x9=>k8 x9 h5 [] []) fun x10 h11 _ _=>AF x2 (.fv (.bool true)) x10 fun x14=>An [x14] h11
theorem Ali (ih:Aa) (n:Nat) (x0:IV) (h1:Hp):Ax EE ih ft.get n 15 [x0] h1=S15 ih n x0 h1:=by kernel_rfl
def Ag6 (r43:AI) (h34:Hp) (x42:IV):OH :=
 Ad [] r43 [] (An [.fv (.bool false),x42] h34)
def AfU (r50:AI) (h34:Hp) (x49:IV):OH :=
 Ad [] r50 [] (An [.fv (.bool false),x49] h34)
def Ahs (ih:Aa) (h34:Hp) (x51 x53:IV):OH :=
 DY EE ih (.fv (.func (.func 40) [] [])) [x51,x53] h34 fun x55 h56 _ _=>An [x55,.fv (.int .i64 0)] h56
def Ae5 (x45 x27:IV) (h34:Hp) (x23:IV) (ih:Aa):OH :=
 Gy EE 37 x45 (.fv (.int .i64 0)) fun x47=>Am x47 (Ac 3 x27 fun x48=>Ae x48 h34 fun x49 r50=>AfU r50 h34 x49) (Ai 4 x23 h34 fun x51 _=>Ai 4 x27 h34 fun x53 _=>Ahs ih h34 x51 x53)
def Agy (x40 x23:IV) (h34:Hp) (x27:IV) (ih:Aa):OH :=
 Am x40 (Ac 3 x23 fun x41=>Ae x41 h34 fun x42 r43=>Ag6 r43 h34 x42) (Ac 3 x27 fun x44=>Ae x44 h34 fun x45 _=>Ae5 x45 x27 h34 x23 ih)
def AdX (h31:Hp) (x27 x19 x23:IV) (ih:Aa):OH :=
 Aj 4 x27 x19 h31 fun h34 r35 w36=>Ad [] r35 w36 (Ac 3 x23 fun x37=>Ae x37 h34 fun x38 _=>Gy EE 37 x38 (.fv (.int .i64 0)) fun x40=>Agy x40 x23 h34 x27 ih)
def AhH (r25 w26 r21 w22 r18 r15 w16 r12:AI) (h24:Hp) (x23 x13 x19:IV) (ih:Aa):OH :=
 Ad [(r21,w22),(r18,[]),(r15,w16),(r12,[])] r25 w26 (AH 16778245 (.row [.fv (.int .i64 0),.fv (.int .i64 0),.nils,.fv (.int .i64 0)] false) (.ptr (.own 16778245) 0) h24 fun x27 h28 r29 w30=>Ad [(r25,w26),(r21,w22),(r18,[]),(r15,w16),(r12,[])] r29 w30 (Aj 4 x23 x13 h28 fun h31 r32 w33=>Ad [] r32 w33 (AdX h31 x27 x19 x23 ih)))
def Aed (h14:Hp) (x7:IV) (r15 w16 r12:AI) (ih:Aa) (x13:IV):OH :=
 Ai 3 x7 h14 fun x17 r18=>Ad [(r15,w16),(r12,[])] r18 [] (Al [] false false ih 39 [x17] h14 fun x19 h20 r21 w22=>Ad [] r21 w22 (AH 16778244 (.row [.fv (.int .i64 0),.fv (.int .i64 0),.nils,.fv (.int .i64 0)] false) (.ptr (.own 16778244) 0) h20 fun x23 h24 r25 w26=>AhH r25 w26 r21 w22 r18 r15 w16 r12 h24 x23 x13 x19 ih))
def S16 (ih:Aa) (n:Nat) (x0 x1:IV) (h2:Hp):OH :=
 A1 16777216 x0 h2 fun x3 h4 _ _=>A1 16777217 x1 h4 fun x7 h8 _ _=>Ai 3 x3 h8 fun x11 r12=>Ad [] r12 [] (Al [] false false ih 39 [x11] h8 fun x13 h14 r15 w16=>Ad [] r15 w16 (Aed h14 x7 r15 w16 r12 ih x13))
theorem Alw (ih:Aa) (n:Nat) (x0 x1:IV) (h2:Hp):Ax EE ih ft.get n 16 [x0,x1] h2=S16 ih n x0 x1 h2:=by kernel_rfl
def UJ (r43 w44 r41:AI) (h42:Hp) (x6 x40:IV):OH :=
 Ad [(r41,[])] r43 w44 (Av true 3 x6 h42 fun x45=>An [x45,x40] h42)
def UN (x11:IV) (h29:Hp) (x6 x37:IV):OH :=
 AE x11 fun x38=>Ac 2 x38 fun x39=>Ae x39 h29 fun x40 r41=>Ad [] r41 [] (Aj 3 x6 x37 h29 fun h42 r43 w44=>UJ r43 w44 r41 h42 x6 x40)
def V9 (h29:Hp) (x6 x46:IV):OH :=
 Aj 3 x6 x46 h29 fun h48 _ _=>Av true 3 x6 h48 fun x51=>An [x51,.fv (.int .i64 0)] h48
def VF (h29:Hp) (x33 x11 x6 x25:IV):OH :=
 Ae x33 h29 fun x34 _=>Gy EE 3 x34 (.fv (.int .i64 0)) fun x36=>Am x36 (Bx [.fv (.int .i64 0),.fv (.int .i64 0),.nils] [] fun x37=>UN x11 h29 x6 x37) (Ai 3 x25 h29 fun x46 _=>V9 h29 x6 x46)
def Wm (ih:Aa) (h18:Hp) (x11 x17 x6:IV):OH :=
 Al [true,false,false,false] false false ih 41 [x11,x17,.fv (.int .i64 0),.fv (.int .i64 1)] h18 fun x21 h22 _ _=>AH 17827845 (.row [.fv (.int .i64 0),.fv (.int .i64 0),.nils] false) (.ptr (.own 17827845) 0) h22 fun x25 h26 _ _=>Aj 3 x25 x21 h26 fun h29 _ _=>AE x11 fun x32=>Ac 2 x32 fun x33=>VF h29 x33 x11 x6 x25
def S17 (ih:Aa) (n:Nat) (x0:IV) (h1:Hp):OH :=
 A1 17825792 x0 h1 fun x2 h3 _ _=>AH 17825793 (.row [.fv (.int .i64 0),.fv (.int .i64 0),.nils] false) (.ptr (.own 17825793) 0) h3 fun x6 h7 _ _=>Bx [.fv (.int .i64 0),.fv (.int .i64 0),.fv (.int .i64 0)] [] fun x10=>A1 17826817 x10 h7 fun x11 h12 _ _=>Ai 3 x2 h12 fun x15 _=>Al [true,false,false] false false ih 42 [x11,x15,.nils] h12 fun x17 h18 _ _=>Wm ih h18 x11 x17 x6
theorem Aof (ih:Aa) (n:Nat) (x0:IV) (h1:Hp):Ax EE ih ft.get n 17 [x0] h1=S17 ih n x0 h1:=by kernel_rfl
def Vn (x7:IV) (h1 h24:Hp) (x5 x23:IV) (q2:List IV→Hp→OH):OH :=
 BD EE 3 x7 (.fv (.int .i64 1)) fun x25=>Bg (h1.own.map (·.1)) [20977674] [x5,x23,x25] h24 fun h26=>q2 [x5,x23,x25] h26
def VO (ih:Aa) (h53:Hp) (x6 x59:IV) (j1_56:IV→Hp→OH):OH :=
 Al [] false false ih 22 [x6,.fv (.int .i64 0),x59] h53 fun x61 h62 _ _=>j1_56 x61 h62
def VX (r54 w55:AI) (j1_22:IV→Hp→OH) (x48:IV) (h53:Hp) (x49:IV) (ih:Aa) (x6:IV):OH :=
 Ad [] r54 w55 ((fun (j1_56:IV→Hp→OH)=>Am x48 (Ai 3 x49 h53 fun x59 _=>VO ih h53 x6 x59 j1_56) (j1_56 x6 h53)) fun x57 h58=>j1_22 x57 h58)
def V4 (x43:IV) (h44:Hp) (r45 w46 r42 r38 w39:AI) (j1_22:IV→Hp→OH) (ih:Aa) (x6:IV):OH :=
 AK 0 x43 fun x47=>AK 1 x43 fun x48=>AH 20977674 (.row [.fv (.int .i64 0),.fv (.int .i64 0),.nils] false) (.ptr (.own 20977674) 0) h44 fun x49 h50 r51 w52=>Ad [(r45,w46),(r42,[]),(r38,w39)] r51 w52 (Aj 3 x49 x47 h50 fun h53 r54 w55=>VX r54 w55 j1_22 x48 h53 x49 ih x6)
def VN (x5 x7:IV) (h37:Hp) (r38 w39:AI) (ih:Aa) (x6 x36:IV) (j1_22:IV→Hp→OH):OH :=
 A6 3 x5 x7 fun x40=>Ai 3 x40 h37 fun x41 r42=>Ad [(r38,w39)] r42 [] (Al [] false false ih 23 [x6,x36,x41,.fv (.int .i64 2)] h37 fun x43 h44 r45 w46=>Ad [] r45 w46 (V4 x43 h44 r45 w46 r42 r38 w39 j1_22 ih x6))
def Wk (ih:Aa) (h32:Hp) (x6 x66:IV) (j1_22:IV→Hp→OH):OH :=
 Al [] false false ih 21 [x6,x66,.fv (.int .i64 2)] h32 fun x68 h69 _ _=>Al [] false false ih 22 [x6,.fv (.int .i64 1),x68] h69 fun x72 h73 _ _=>j1_22 x72 h73
def VY (x35:IV) (ih:Aa) (h32:Hp) (x5 x7 x6:IV) (j1_22:IV→Hp→OH):OH :=
 Am x35 (Al [] false false ih 24 [.fv (.int .i64 14),.nils] h32 fun x36 h37 r38 w39=>Ad [] r38 w39 (VN x5 x7 h37 r38 w39 ih x6 x36 j1_22)) (A6 3 x5 x7 fun x65=>Ai 3 x65 h32 fun x66 _=>Wk ih h32 x6 x66 j1_22)
def VA (x5 x7:IV) (h18:Hp) (ih:Aa) (x6:IV) (j1_22:IV→Hp→OH):OH :=
 A6 3 x5 x7 fun x27=>Ac 1 x27 fun x28=>Ae x28 h18 fun x29 _=>Al [] false false ih 43 [x29,.fv (.int .i64 3)] h18 fun x31 h32 _ _=>A5 EE 3 x31 (.fv (.int .i64 0)) fun x35=>VY x35 ih h32 x5 x7 x6 j1_22
def U7 (h4:Hp) (x9 x7:IV) (h1:Hp) (x5:IV) (q2:List IV→Hp→OH) (ih:Aa) (x6:IV):OH :=
 Ab x9 true h4 (fun k10=>k10 x7 h4 [] []) fun x11 h12 _ _=>Ab x9 true h12 (fun k15=>GQ EE 3 x11 (.fv (.int .i64 4)) fun x16=>k15 x16 h12 [] []) fun x17 h18 _ _=>AF x9 x17 (.fv (.bool false)) fun x21=>Am x21 ((fun (j1_22:IV→Hp→OH)=>VA x5 x7 h18 ih x6 j1_22) fun x23 h24=>Vn x7 h1 h24 x5 x23 q2) (An [x6] h18)
def Afq (l3:List IV) (h4 h1:Hp) (q2:List IV→Hp→OH) (ih:Aa):OH :=
 Aw l3 fun x5 l76=>Aw l76 fun x6 l77=>Aw l77 fun x7 _=>BQ x5 fun x8=>GQ EE 3 x7 x8 fun x9=>U7 h4 x9 x7 h1 x5 q2 ih x6
def S20 (ih:Aa) (n:Nat) (x0:IV) (h1:Hp):OH :=
 Bg (h1.own.map (·.1)) [20977674] [x0,.nils,.fv (.int .i64 0)] h1 fun h79=>BE n (fun q2 l3 h4=>Afq l3 h4 h1 q2 ih) [x0,.nils,.fv (.int .i64 0)] h79
theorem Alt (ih:Aa) (n:Nat) (x0:IV) (h1:Hp):Ax EE ih ft.get n 20 [x0] h1=S20 ih n x0 h1:=by kernel_rfl
def Aab (h29:Hp) (x8:IV):OH :=
 Av true 3 x8 h29 fun x32=>An [x32] h29
def AaZ (ih:Aa) (h24:Hp) (x8:IV):OH :=
 Al [] false false ih 24 [.fv (.int .i64 14),.nils] h24 fun x34 h35 _ _=>Aj 3 x8 x34 h35 fun h38 _ _=>Av true 3 x8 h38 fun x41=>An [x41] h38
def Ab9 (h46:Hp) (x45:IV) (ih:Aa) (x8:IV):OH :=
 Az (Ak EE 29 1 [(0,x45)]) 22031362 h46 fun x49 h50 _ _=>Al [] false false ih 24 [.fv (.int .i64 18),x49] h50 fun x53 h54 _ _=>Aj 3 x8 x53 h54 fun h57 _ _=>Av true 3 x8 h57 fun x60=>An [x60] h57
def AcM (ih:Aa) (h24:Hp) (x8:IV):OH :=
 Al [] false false ih 45 [.fv (.int .i64 0)] h24 fun x62 h63 _ _=>Aj 3 x8 x62 h63 fun h66 _ _=>Av true 3 x8 h66 fun x69=>An [x69] h66
def XU (r116 w117:AI) (h115:Hp) (x8 x114:IV):OH :=
 Ad [] r116 w117 (Aj 3 x8 x114 h115 fun h118 r119 w120=>Ad [] r119 w120 (Av true 3 x8 h118 fun x121=>An [x121] h118))
def Y6 (ih:Aa) (h102:Hp) (x95 x101 x105:IV) (r92:AI) (x91 x8:IV):OH :=
 Al [] false false ih 21 [x95,x101,x105] h102 fun x106 h107 r108 w109=>Ad [(r92,[])] r108 w109 (Az (Ak EE 29 2 [(0,x91),(1,x106)]) 22037513 h107 fun x110 h111 r112 w113=>Ad [] r112 w113 (Al [] false false ih 24 [.fv (.int .i64 3),x110] h111 fun x114 h115 r116 w117=>XU r116 w117 h115 x8 x114))
def Aa5 (h96:Hp) (x4:IV) (r97 w98 r94 r92:AI) (ih:Aa) (x2 x95 x91 x8:IV):OH :=
 Ai 3 x4 h96 fun x99 r100=>Ad [(r97,w98),(r94,[]),(r92,[])] r100 [] (Al [] false false ih 46 [x99,.fv (.int .i64 1)] h96 fun x101 h102 r103 w104=>Ad [(r92,[])] r103 w104 (Bd EE 3 x2 (.fv (.int .i64 1)) fun x105=>Y6 ih h102 x95 x101 x105 r92 x91 x8))
def Abs (r92:AI) (h88:Hp) (x84:IV) (ih:Aa) (x0 x4 x2 x91 x8:IV):OH :=
 Ad [] r92 [] (Ai 3 x84 h88 fun x93 r94=>Ad [(r92,[])] r94 [] (Al [] false false ih 22 [x0,.fv (.int .i64 1),x93] h88 fun x95 h96 r97 w98=>Ad [(r92,[])] r97 w98 (Aa5 h96 x4 r97 w98 r94 r92 ih x2 x95 x91 x8)))
def Abl (x2:IV) (ih:Aa) (h76:Hp) (x0 x75 x4 x8:IV):OH :=
 Bd EE 3 x2 (.fv (.int .i64 1)) fun x79=>Al [] false false ih 21 [x0,x75,x79] h76 fun x80 h81 _ _=>AH 22036486 (.row [.fv (.int .i64 0),.fv (.int .i64 0),.nils] false) (.ptr (.own 22036486) 0) h81 fun x84 h85 _ _=>Aj 3 x84 x80 h85 fun h88 _ _=>Ai 3 x84 h88 fun x91 r92=>Abs r92 h88 x84 ih x0 x4 x2 x91 x8
def Aal (h168:Hp) (x8:IV):OH :=
 Av true 3 x8 h168 fun x171=>An [x171] h168
def YK (r162 w163:AI) (ih:Aa) (h161:Hp) (x160 x8:IV):OH :=
 Ad [] r162 w163 (Al [] false false ih 24 [.fv (.int .i64 6),x160] h161 fun x164 h165 r166 w167=>Ad [] r166 w167 (Aj 3 x8 x164 h165 fun h168 r169 w170=>Ad [] r169 w170 (Aal h168 x8)))
def Acz (r153 w154 r142:AI) (x2:IV) (ih:Aa) (h152:Hp) (x145 x151 x141 x8:IV):OH :=
 Ad [(r142,[])] r153 w154 (Bd EE 3 x2 (.fv (.int .i64 1)) fun x155=>Al [] false false ih 21 [x145,x151,x155] h152 fun x156 h157 r158 w159=>Ad [(r142,[])] r158 w159 (Az (Ak EE 29 2 [(0,x141),(1,x156)]) 22040585 h157 fun x160 h161 r162 w163=>YK r162 w163 ih h161 x160 x8))
def W8 (ih:Aa) (h138:Hp) (x0 x143:IV) (r142:AI) (x4:IV) (r144:AI) (x2 x141 x8:IV):OH :=
 Al [] false false ih 22 [x0,.fv (.int .i64 1),x143] h138 fun x145 h146 r147 w148=>Ad [(r142,[])] r147 w148 (Ai 3 x4 h146 fun x149 r150=>Ad [(r147,w148),(r144,[]),(r142,[])] r150 [] (Al [] false false ih 46 [x149,.fv (.int .i64 1)] h146 fun x151 h152 r153 w154=>Acz r153 w154 r142 x2 ih h152 x145 x151 x141 x8))
def Z0 (h135:Hp) (x134 x130:IV) (ih:Aa) (x0 x4 x2 x8:IV):OH :=
 Aj 3 x134 x130 h135 fun h138 _ _=>Ai 3 x134 h138 fun x141 r142=>Ad [] r142 [] (Ai 3 x134 h138 fun x143 r144=>Ad [(r142,[])] r144 [] (W8 ih h138 x0 x143 r142 x4 r144 x2 x141 x8))
def Acl (h72:Hp) (x4:IV) (ih:Aa) (x2 x0 x8:IV):OH :=
 Ai 3 x4 h72 fun x123 _=>Al [] false false ih 46 [x123,.fv (.int .i64 0)] h72 fun x125 h126 _ _=>Bd EE 3 x2 (.fv (.int .i64 1)) fun x129=>Al [] false false ih 21 [x0,x125,x129] h126 fun x130 h131 _ _=>AH 22039558 (.row [.fv (.int .i64 0),.fv (.int .i64 0),.nils] false) (.ptr (.own 22039558) 0) h131 fun x134 h135 _ _=>Z0 h135 x134 x130 ih x0 x4 x2 x8
def X7 (h201:Hp) (x8:IV):OH :=
 Av true 3 x8 h201 fun x204=>An [x204] h201
def Y7 (ih:Aa) (h208:Hp) (x207 x8:IV):OH :=
 Al [] false false ih 24 [.fv (.int .i64 18),x207] h208 fun x211 h212 _ _=>Aj 3 x8 x211 h212 fun h215 _ _=>Av true 3 x8 h215 fun x218=>An [x218] h215
def Yb (x188:IV) (ih:Aa) (h193:Hp) (x8 x189:IV):OH :=
 CF (Lz .not x188) fun x196=>Am x196 (Al [] false false ih 44 [] h193 fun x197 h198 _ _=>Aj 3 x8 x197 h198 fun h201 _ _=>X7 h201 x8) (Ai 3 x189 h193 fun x205 _=>Az (Ak EE 29 1 [(0,x205)]) 22044673 h193 fun x207 h208 _ _=>Y7 ih h208 x207 x8)
def Yy (x183:IV) (h184:Hp) (r185 w186 r180 w181 r177 r174 w175:AI) (x187:IV) (ih:Aa) (x8:IV):OH :=
 AK 1 x183 fun x188=>AH 22041610 (.row [.fv (.int .i64 0),.fv (.int .i64 0),.nils] false) (.ptr (.own 22041610) 0) h184 fun x189 h190 r191 w192=>Ad [(r185,w186),(r180,w181),(r177,[]),(r174,w175)] r191 w192 (Aj 3 x189 x187 h190 fun h193 r194 w195=>Ad [] r194 w195 (Yb x188 ih h193 x8 x189))
def Zj (r180 w181:AI) (x2:IV) (ih:Aa) (h179:Hp) (x0 x172 x178:IV) (r177 r174 w175:AI) (x8:IV):OH :=
 Ad [] r180 w181 (Bd EE 3 x2 (.fv (.int .i64 1)) fun x182=>Al [] false false ih 23 [x0,x172,x178,x182] h179 fun x183 h184 r185 w186=>Ad [] r185 w186 (AK 0 x183 fun x187=>Yy x183 h184 r185 w186 r180 w181 r177 r174 w175 x187 ih x8))
def YR (ih:Aa) (h72:Hp) (x4 x2 x0 x8:IV):OH :=
 Al [] false false ih 24 [.fv (.int .i64 14),.nils] h72 fun x172 h173 r174 w175=>Ad [] r174 w175 (Ai 3 x4 h173 fun x176 r177=>Ad [(r174,w175)] r177 [] (Al [] false false ih 46 [x176,.fv (.int .i64 0)] h173 fun x178 h179 r180 w181=>Zj r180 w181 x2 ih h179 x0 x172 x178 r177 r174 w175 x8))
def Acf (x71:IV) (h72:Hp) (x4:IV) (ih:Aa) (x2 x0 x8 x20:IV):OH :=
 Am x71 (Ai 3 x4 h72 fun x73 _=>Al [] false false ih 46 [x73,.fv (.int .i64 0)] h72 fun x75 h76 _ _=>Abl x2 ih h76 x0 x75 x4 x8) (A5 EE 3 x20 (.fv (.int .i64 7)) fun x122=>Am x122 (Acl h72 x4 ih x2 x0 x8) (YR ih h72 x4 x2 x0 x8))
def Acb (x4:IV) (ih:Aa) (x2 x0 x8 x20:IV) (h24:Hp):OH :=
 (fun (j1_70:IV→Hp→OH)=>A5 EE 3 x20 (.fv (.int .i64 5)) fun x219=>Am x219 (j1_70 x219 h24) (A5 EE 3 x20 (.fv (.int .i64 6)) fun x220=>j1_70 x220 h24)) fun x71 h72=>Acf x71 h72 x4 ih x2 x0 x8 x20
def AbD (x20:IV) (h24:Hp) (x4:IV) (ih:Aa) (x8 x2 x0:IV):OH :=
 A5 EE 3 x20 (.fv (.int .i64 3)) fun x42=>Am x42 (Ai 3 x4 h24 fun x43 _=>Al [] false false ih 34 [x43,.fv (.int .i64 1)] h24 fun x45 h46 _ _=>Ab9 h46 x45 ih x8) (A5 EE 3 x20 (.fv (.int .i64 4)) fun x61=>Am x61 (AcM ih h24 x8) (Acb x4 ih x2 x0 x8 x20 h24))
def Acd (x23:IV) (ih:Aa) (h24:Hp) (x8 x20 x4 x2 x0:IV):OH :=
 Am x23 (Al [] false false ih 44 [] h24 fun x25 h26 _ _=>Aj 3 x8 x25 h26 fun h29 _ _=>Aab h29 x8) (A5 EE 3 x20 (.fv (.int .i64 2)) fun x33=>Am x33 (AaZ ih h24 x8) (AbD x20 h24 x4 ih x8 x2 x0))
def WU (ih:Aa) (x8 x20 x4 x2 x0:IV) (h21:Hp):OH :=
 (fun (j1_22:IV→Hp→OH)=>A5 EE 3 x20 (.fv (.int .i64 0)) fun x221=>Am x221 (j1_22 x221 h21) (A5 EE 3 x20 (.fv (.int .i64 1)) fun x222=>j1_22 x222 h21)) fun x23 h24=>Acd x23 ih h24 x8 x20 x4 x2 x0
def Acm (x15:IV) (j1_19:IV→Hp→OH) (h232:Hp):OH :=
 CO EE 3 .rem x15 (.fv (.int .i64 5)) fun x236=>j1_19 x236 h232
def Yw (x2:IV) (h16:Hp) (x15:IV) (j1_19:IV→Hp→OH):OH :=
 leS EE 3 x2 (.fv (.int .i64 0)) fun x223=>Ab x223 true h16 (fun k224=>k224 x15 h16 [] []) fun x225 h226 _ _=>Ab x223 true h226 (fun k229=>Mk EE 3 x225 (.fv (.int .i64 4)) fun x230=>k229 x230 h226 [] []) fun x231 h232 _ _=>AF x223 x231 (.fv (.bool false)) fun x235=>Am x235 (Acm x15 j1_19 h232) (j1_19 x15 h232)
def S21 (ih:Aa) (n:Nat) (x0 x1 x2:IV) (h3:Hp):OH :=
 A1 22020096 x1 h3 fun x4 h5 _ _=>AH 22020097 (.row [.fv (.int .i64 0),.fv (.int .i64 0),.nils] false) (.ptr (.own 22020097) 0) h5 fun x8 h9 _ _=>Ac 0 x4 fun x12=>Ae x12 h9 fun x13 _=>Al [] false false ih 43 [x13,.fv (.int .i64 9)] h9 fun x15 h16 _ _=>(fun (j1_19:IV→Hp→OH)=>Yw x2 h16 x15 j1_19) fun x20 h21=>WU ih x8 x20 x4 x2 x0 h21
theorem AnP (ih:Aa) (n:Nat) (x0 x1 x2:IV) (h3:Hp):Ax EE ih ft.get n 21 [x0,x1,x2] h3=S21 ih n x0 x1 x2 h3:=by kernel_rfl
def Vf (r25 w26:AI) (h24:Hp) (x23:IV):OH :=
 Ad [] r25 w26 (An [x23] h24)
def Vs (r17 r14 w15 r10 w11:AI) (x1 x16:IV) (h13:Hp) (x12:IV):OH :=
 Ad [(r14,w15),(r10,w11)] r17 [] (Bx [.fv (.int .i64 0),.fv (.int .i64 0),.fv (.int .i64 0),.nils] [(0,1,x1),(1,3,x16)] fun x18=>Az (Ak EE 28 1 [(0,x18)]) 23069702 h13 fun x19 h20 r21 w22=>Ad [(r14,w15),(r10,w11)] r21 w22 (Az (AW EE 23069703 false .append [28,28] [x12,x19]) 23069703 h20 fun x23 h24 r25 w26=>Vf r25 w26 h24 x23))
def S22 (ih:Aa) (n:Nat) (x0 x1 x2:IV) (h3:Hp):OH :=
 A1 23068672 x2 h3 fun x4 h5 _ _=>Az (Ak EE 28 0 []) 23069696 h5 fun x8 h9 r10 w11=>Ad [] r10 w11 (Az (AW EE 23069698 false .append [28,28] [x8,x0]) 23069698 h9 fun x12 h13 r14 w15=>Ad [] r14 w15 (Ai 3 x4 h13 fun x16 r17=>Vs r17 r14 w15 r10 w11 x1 x16 h13 x12))
theorem AlU (ih:Aa) (n:Nat) (x0 x1 x2:IV) (h3:Hp):Ax EE ih ft.get n 22 [x0,x1,x2] h3=S22 ih n x0 x1 x2 h3:=by kernel_rfl
def XQ (h25:Hp) (x13 x29:IV):OH :=
 Aj 3 x13 x29 h25 fun h30 _ _=>Av true 3 x13 h30 fun x33=>An [x33,.fv (.bool false)] h30
def Y8 (h91:Hp) (x13 x44:IV):OH :=
 Av true 3 x13 h91 fun x94=>An [x94,x44] h91
def Y3 (h126:Hp) (x13 x129 x130:IV):OH :=
 Aj 3 x13 x129 h126 fun h131 _ _=>Av true 3 x13 h131 fun x134=>An [x134,x130] h131
def WR (h117:Hp) (x5 x9:IV) (ih:Aa) (x0 x3 x13:IV):OH :=
 Ai 3 x5 h117 fun x121 _=>Ai 3 x9 h117 fun x123 _=>Al [] false false ih 48 [x0,x121,x123,x3] h117 fun x125 h126 _ _=>AK 0 x125 fun x129=>AK 1 x125 fun x130=>Y3 h126 x13 x129 x130
def YG (ih:Aa) (h140:Hp) (x0 x141 x143 x3 x13:IV):OH :=
 Al [] false false ih 49 [x0,x141,x143,x3] h140 fun x145 h146 _ _=>AK 0 x145 fun x149=>AK 1 x145 fun x150=>Aj 3 x13 x149 h146 fun h151 _ _=>Av true 3 x13 h151 fun x154=>An [x154,x150] h151
def Xd (r209 w210:AI) (h208:Hp) (x13 x184:IV):OH :=
 Ad [] r209 w210 (Av true 3 x13 h208 fun x211=>An [x211,x184] h208)
def AcB (h189:Hp) (x196 x198:IV) (ih:Aa) (x13 x184:IV):OH :=
 Az (Ak EE 29 2 [(0,x196),(1,x198)]) 24133637 h189 fun x200 h201 r202 w203=>Ad [] r202 w203 (Al [] false false ih 24 [.fv (.int .i64 4),x200] h201 fun x204 h205 r206 w207=>Ad [] r206 w207 (Aj 3 x13 x204 h205 fun h208 r209 w210=>Xd r209 w210 h208 x13 x184))
def X8 (x193:IV) (h189:Hp) (x185:IV) (r194:AI) (ih:Aa) (x13 x184:IV):OH :=
 A6 3 x193 (.fv (.int .i64 0)) fun x195=>Ai 3 x195 h189 fun x196 r197=>Ad [] r197 [] (Ai 3 x185 h189 fun x198 r199=>Ad [(r197,[]),(r194,[])] r199 [] (AcB h189 x196 x198 ih x13 x184))
def Abd (h186:Hp) (x185 x183 x5:IV) (ih:Aa) (x13 x184:IV):OH :=
 Aj 3 x185 x183 h186 fun h189 r190 w191=>Ad [] r190 w191 (Ac 2 x5 fun x192=>Ae x192 h189 fun x193 r194=>Ad [] r194 [] (X8 x193 h189 x185 r194 ih x13 x184))
def ZT (r181 w182:AI) (x179:IV) (h180:Hp) (r176 w177 r173 r171 r168 r164 w165 r161 r158:AI) (x5:IV) (ih:Aa) (x13:IV):OH :=
 Ad [] r181 w182 (AK 0 x179 fun x183=>AK 1 x179 fun x184=>AH 24132626 (.row [.fv (.int .i64 0),.fv (.int .i64 0),.nils] false) (.ptr (.own 24132626) 0) h180 fun x185 h186 r187 w188=>Ad [(r181,w182),(r176,w177),(r173,[]),(r171,[]),(r168,[]),(r164,w165),(r161,[]),(r158,[])] r187 w188 (Abd h186 x185 x183 x5 ih x13 x184))
def W5 (r173 r171 r168 r164 w165 r161 r158:AI) (ih:Aa) (h163:Hp) (x172 x3 x162 x170 x5 x13:IV):OH :=
 Ad [(r171,[]),(r168,[]),(r164,w165),(r161,[]),(r158,[])] r173 [] (Al [] false false ih 46 [x172,.fv (.int .i64 0)] h163 fun x174 h175 r176 w177=>Ad [(r171,[]),(r168,[])] r176 w177 (Bd EE 3 x3 (.fv (.int .i64 1)) fun x178=>Al [] false false ih 23 [x162,x170,x174,x178] h175 fun x179 h180 r181 w182=>ZT r181 w182 x179 h180 r176 w177 r173 r171 r168 r164 w165 r161 r158 x5 ih x13))
def WC (r168 r164 w165 r161 r158:AI) (x167:IV) (h163:Hp) (x9:IV) (ih:Aa) (x3 x162 x5 x13:IV):OH :=
 Ad [(r164,w165),(r161,[]),(r158,[])] r168 [] (A6 3 x167 (.fv (.int .i64 1)) fun x169=>Ai 3 x169 h163 fun x170 r171=>Ad [(r164,w165),(r161,[]),(r158,[])] r171 [] (Ai 3 x9 h163 fun x172 r173=>W5 r173 r171 r168 r164 w165 r161 r158 ih h163 x172 x3 x162 x170 x5 x13))
def XC (r161:AI) (ih:Aa) (h140:Hp) (x0 x160 x5:IV) (r158:AI) (x9 x3 x13:IV):OH :=
 Ad [] r161 [] (Al [] false false ih 22 [x0,.fv (.int .i64 1),x160] h140 fun x162 h163 r164 w165=>Ad [] r164 w165 (Ac 2 x5 fun x166=>Ae x166 h163 fun x167 r168=>WC r168 r164 w165 r161 r158 x167 h163 x9 ih x3 x162 x5 x13))
def Aba (x5:IV) (h140:Hp) (ih:Aa) (x0 x9 x3 x13:IV):OH :=
 Ac 2 x5 fun x156=>Ae x156 h140 fun x157 r158=>Ad [] r158 [] (A6 3 x157 (.fv (.int .i64 0)) fun x159=>Ai 3 x159 h140 fun x160 r161=>XC r161 ih h140 x0 x160 x5 r158 x9 x3 x13)
def Yg (h236:Hp) (x13 x240 x44:IV):OH :=
 Aj 3 x13 x240 h236 fun h242 _ _=>Av true 3 x13 h242 fun x245=>An [x245,x44] h242
def Xq (h275:Hp) (x278 x280 x282:IV) (ih:Aa) (x13 x270:IV):OH :=
 Az (Ak EE 29 3 [(0,x278),(1,x280),(2,x282)]) 24139779 h275 fun x284 h285 _ _=>Al [] false false ih 24 [.fv (.int .i64 7),x284] h285 fun x288 h289 _ _=>Aj 3 x13 x288 h289 fun h292 _ _=>Av true 3 x13 h292 fun x295=>An [x295,x270] h292
def Xb (h272:Hp) (x271 x269 x5 x232:IV) (ih:Aa) (x13 x270:IV):OH :=
 Aj 3 x271 x269 h272 fun h275 r276 w277=>Ad [] r276 w277 (Ai 3 x5 h275 fun x278 _=>Ai 3 x232 h275 fun x280 _=>Ai 3 x271 h275 fun x282 _=>Xq h275 x278 x280 x282 ih x13 x270)
def Aay (r267 w268:AI) (x265:IV) (h266:Hp) (r262 w263 r259 r256 w257 r253 r251 r248:AI) (x5 x232:IV) (ih:Aa) (x13:IV):OH :=
 Ad [] r267 w268 (AK 0 x265 fun x269=>AK 1 x265 fun x270=>AH 24138767 (.row [.fv (.int .i64 0),.fv (.int .i64 0),.nils] false) (.ptr (.own 24138767) 0) h266 fun x271 h272 r273 w274=>Ad [(r267,w268),(r262,w263),(r259,[]),(r256,w257),(r253,[]),(r251,[]),(r248,[])] r273 w274 (Xb h272 x271 x269 x5 x232 ih x13 x270))
def W3 (r259 r256 w257 r253 r251 r248:AI) (ih:Aa) (h255:Hp) (x258 x3 x0 x254 x5 x232 x13:IV):OH :=
 Ad [(r256,w257),(r253,[]),(r251,[]),(r248,[])] r259 [] (Al [] false false ih 46 [x258,.fv (.int .i64 1)] h255 fun x260 h261 r262 w263=>Ad [] r262 w263 (Bd EE 3 x3 (.fv (.int .i64 1)) fun x264=>Al [] false false ih 23 [x0,x254,x260,x264] h261 fun x265 h266 r267 w268=>Aay r267 w268 x265 h266 r262 w263 r259 r256 w257 r253 r251 r248 x5 x232 ih x13))
def AbK (h236:Hp) (x232:IV) (r251 r248:AI) (ih:Aa) (x250 x9 x3 x0 x5 x13:IV):OH :=
 Ai 3 x232 h236 fun x252 r253=>Ad [(r251,[]),(r248,[])] r253 [] (Al [] false false ih 50 [x250,.fv (.int .i64 0),x252] h236 fun x254 h255 r256 w257=>Ad [] r256 w257 (Ai 3 x9 h255 fun x258 r259=>W3 r259 r256 w257 r253 r251 r248 ih h255 x258 x3 x0 x254 x5 x232 x13))
def WX (h236:Hp) (x246 x232:IV) (ih:Aa) (x9 x3 x0 x5 x13:IV):OH :=
 Ae x246 h236 fun x247 r248=>Ad [] r248 [] (A6 3 x247 (.fv (.int .i64 1)) fun x249=>Ai 3 x249 h236 fun x250 r251=>Ad [] r251 [] (AbK h236 x232 r251 r248 ih x250 x9 x3 x0 x5 x13))
def Aai (h233:Hp) (x232 x230 x231 x45 x13 x44 x5:IV) (ih:Aa) (x9 x3 x0:IV):OH :=
 Aj 3 x232 x230 h233 fun h236 r237 w238=>Ad [] r237 w238 (CF (Lz .not x231) fun x239=>Am x239 (Ai 3 x45 h236 fun x240 _=>Yg h236 x13 x240 x44) (Ac 2 x5 fun x246=>WX h236 x246 x232 ih x9 x3 x0 x5 x13))
def Aat (r228 w229:AI) (x226:IV) (h227:Hp) (r223 w224 r220 r218 r215:AI) (x45 x13 x44 x5:IV) (ih:Aa) (x9 x3 x0:IV):OH :=
 Ad [] r228 w229 (AK 0 x226 fun x230=>AK 1 x226 fun x231=>AH 24135693 (.row [.fv (.int .i64 0),.fv (.int .i64 0),.nils] false) (.ptr (.own 24135693) 0) h227 fun x232 h233 r234 w235=>Ad [(r228,w229),(r223,w224),(r220,[]),(r218,[]),(r215,[])] r234 w235 (Aai h233 x232 x230 x231 x45 x13 x44 x5 ih x9 x3 x0))
def AaK (r220 r218 r215:AI) (ih:Aa) (h140:Hp) (x219 x3 x0 x217 x45 x13 x44 x5 x9:IV):OH :=
 Ad [(r218,[]),(r215,[])] r220 [] (Al [] false false ih 46 [x219,.fv (.int .i64 0)] h140 fun x221 h222 r223 w224=>Ad [(r218,[]),(r215,[])] r223 w224 (Bd EE 3 x3 (.fv (.int .i64 1)) fun x225=>Al [] false false ih 23 [x0,x217,x221,x225] h222 fun x226 h227 r228 w229=>Aat r228 w229 x226 h227 r223 w224 r220 r218 r215 x45 x13 x44 x5 ih x9 x3 x0))
def YZ (r215:AI) (x214:IV) (h140:Hp) (x9:IV) (ih:Aa) (x3 x0 x45 x13 x44 x5:IV):OH :=
 Ad [] r215 [] (A6 3 x214 (.fv (.int .i64 0)) fun x216=>Ai 3 x216 h140 fun x217 r218=>Ad [] r218 [] (Ai 3 x9 h140 fun x219 r220=>AaK r220 r218 r215 ih h140 x219 x3 x0 x217 x45 x13 x44 x5 x9))
def XZ (h320:Hp) (x323:IV) (ih:Aa) (x13 x315:IV):OH :=
 Az (Ak EE 29 1 [(0,x323)]) 24142849 h320 fun x325 h326 _ _=>Al [] false false ih 24 [.fv (.int .i64 19),x325] h326 fun x329 h330 _ _=>Aj 3 x13 x329 h330 fun h333 _ _=>Av true 3 x13 h333 fun x336=>An [x336,x315] h333
def Abf (h311:Hp) (r312 w313 r307 w308 r304 r302 r299:AI) (x314:IV) (ih:Aa) (x13 x315:IV):OH :=
 AH 24141837 (.row [.fv (.int .i64 0),.fv (.int .i64 0),.nils] false) (.ptr (.own 24141837) 0) h311 fun x316 h317 r318 w319=>Ad [(r312,w313),(r307,w308),(r304,[]),(r302,[]),(r299,[])] r318 w319 (Aj 3 x316 x314 h317 fun h320 r321 w322=>Ad [] r321 w322 (Ai 3 x316 h320 fun x323 _=>XZ h320 x323 ih x13 x315))
def WD (x3:IV) (ih:Aa) (h306:Hp) (x0 x301 x305:IV) (r307 w308 r304 r302 r299:AI) (x13:IV):OH :=
 Bd EE 3 x3 (.fv (.int .i64 1)) fun x309=>Al [] false false ih 35 [x0,x301,x305,x309] h306 fun x310 h311 r312 w313=>Ad [] r312 w313 (AK 0 x310 fun x314=>AK 1 x310 fun x315=>Abf h311 r312 w313 r307 w308 r304 r302 r299 x314 ih x13 x315)
def Zv (r302:AI) (h140:Hp) (x9:IV) (r299:AI) (ih:Aa) (x3 x0 x301 x13:IV):OH :=
 Ad [] r302 [] (Ai 3 x9 h140 fun x303 r304=>Ad [(r302,[]),(r299,[])] r304 [] (Al [] false false ih 46 [x303,.fv (.int .i64 0)] h140 fun x305 h306 r307 w308=>Ad [(r302,[]),(r299,[])] r307 w308 (WD x3 ih h306 x0 x301 x305 r307 w308 r304 r302 r299 x13)))
def Aak (x5:IV) (h140:Hp) (x9:IV) (ih:Aa) (x3 x0 x13:IV):OH :=
 Ac 2 x5 fun x297=>Ae x297 h140 fun x298 r299=>Ad [] r299 [] (A6 3 x298 (.fv (.int .i64 0)) fun x300=>Ai 3 x300 h140 fun x301 r302=>Zv r302 h140 x9 r299 ih x3 x0 x301 x13)
def W2 (h140:Hp) (x45 x13 x44:IV):OH :=
 Ai 3 x45 h140 fun x337 _=>Aj 3 x13 x337 h140 fun h339 _ _=>Av true 3 x13 h339 fun x342=>An [x342,x44] h339
def XF (x136 x5:IV) (h140:Hp) (x9:IV) (ih:Aa) (x3 x0 x45 x13 x44:IV):OH :=
 A5 EE 3 x136 (.fv (.int .i64 6)) fun x212=>Am x212 (Ac 2 x5 fun x213=>Ae x213 h140 fun x214 r215=>YZ r215 x214 h140 x9 ih x3 x0 x45 x13 x44 x5) (A5 EE 3 x136 (.fv (.int .i64 18)) fun x296=>Am x296 (Aak x5 h140 x9 ih x3 x0 x13) (W2 h140 x45 x13 x44))
def Xm (x139:IV) (h140:Hp) (x5 x9:IV) (ih:Aa) (x0 x3 x13 x136 x45 x44:IV):OH :=
 Am x139 (Ai 3 x5 h140 fun x141 _=>Ai 3 x9 h140 fun x143 _=>YG ih h140 x0 x141 x143 x3 x13) (A5 EE 3 x136 (.fv (.int .i64 3)) fun x155=>Am x155 (Aba x5 h140 ih x0 x9 x3 x13) (XF x136 x5 h140 x9 ih x3 x0 x45 x13 x44))
def Yd (x136:IV) (j1_138:IV→Hp→OH) (h117:Hp):OH :=
 A5 EE 3 x136 (.fv (.int .i64 14)) fun x344=>Am x344 (j1_138 x344 h117) (A5 EE 3 x136 (.fv (.int .i64 2)) fun x345=>j1_138 x345 h117)
def Xr (x5:IV) (h117:Hp) (x9:IV) (ih:Aa) (x0 x3 x13 x45 x44:IV):OH :=
 Ac 0 x5 fun x135=>Ae x135 h117 fun x136 _=>(fun (j1_138:IV→Hp→OH)=>A5 EE 3 x136 (.fv (.int .i64 10)) fun x343=>Am x343 (j1_138 x343 h117) (Yd x136 j1_138 h117)) fun x139 h140=>Xm x139 h140 x5 x9 ih x0 x3 x13 x136 x45 x44
def XR (h99:Hp) (x95 x98:IV) (ih:Aa) (x5 x9 x0 x3 x13 x45 x44:IV):OH :=
 Ab x95 true h99 (fun k102=>Ae x98 h99 fun x103 r104=>k102 x103 h99 r104 []) fun x105 h106 _ _=>Ab x95 true h106 (fun k109=>Al [] false false ih 43 [x105,.fv (.int .i64 7)] h106 k109) fun x110 h111 _ _=>Ab x95 true h111 (fun k114=>A5 EE 3 x110 (.fv (.int .i64 6)) fun x115=>k114 x115 h111 [] []) fun x116 h117 _ _=>AF x95 x116 (.fv (.bool false)) fun x120=>Am x120 (WR h117 x5 x9 ih x0 x3 x13) (Xr x5 h117 x9 ih x0 x3 x13 x45 x44)
def Xz (x88:IV) (h85:Hp) (x45 x13 x44 x3 x9:IV) (ih:Aa) (x5 x0:IV):OH :=
 Am x88 (Ai 3 x45 h85 fun x89 _=>Aj 3 x13 x89 h85 fun h91 _ _=>Y8 h91 x13 x44) (Mk EE 3 x3 (.fv (.int .i64 0)) fun x95=>Ab x95 true h85 (fun k96=>Ac 0 x9 fun x97=>k96 x97 h85 [] []) fun x98 h99 _ _=>XR h99 x95 x98 ih x5 x9 x0 x3 x13 x45 x44)
def Zz (h67:Hp) (x44 x66 x3 x45 x13 x9:IV) (ih:Aa) (x5 x0:IV):OH :=
 Ab x44 true h67 (fun k70=>A5 EE 3 x66 (.fv (.int .i64 0)) fun x71=>k70 x71 h67 [] []) fun x72 h73 _ _=>AF x44 x72 (.fv (.bool false)) fun x76=>Ab x76 false h73 (fun k77=>k77 x3 h73 [] []) fun x78 h79 _ _=>Ab x76 false h79 (fun k82=>GQ EE 3 x78 (.fv (.int .i64 (-4))) fun x83=>k82 x83 h79 [] []) fun x84 h85 _ _=>AF x76 (.fv (.bool true)) x84 fun x88=>Xz x88 h85 x45 x13 x44 x3 x9 ih x5 x0
def AaM (h40:Hp) (x43 x44 x9:IV) (ih:Aa) (x3 x13 x5 x0:IV):OH :=
 AH 24121352 (.row [.fv (.int .i64 0),.fv (.int .i64 0),.nils] false) (.ptr (.own 24121352) 0) h40 fun x45 h46 _ _=>Aj 3 x45 x43 h46 fun h49 _ _=>Ab x44 true h49 (fun k52=>Ac 0 x9 fun x53=>k52 x53 h49 [] []) fun x54 h55 _ _=>Ab x44 true h55 (fun k58=>Ae x54 h55 fun x59 r60=>k58 x59 h55 r60 []) fun x61 h62 _ _=>Ab x44 true h62 (fun k65=>Al [] false false ih 43 [x61,.fv (.int .i64 3)] h62 k65) fun x66 h67 _ _=>Zz h67 x44 x66 x3 x45 x13 x9 ih x5 x0
def ZX (x9:IV) (h25:Hp) (ih:Aa) (x0 x34 x3 x13 x5:IV):OH :=
 Ac 1 x9 fun x36=>Ae x36 h25 fun x37 _=>Al [] false false ih 47 [x0,.fv (.int .i64 1),x34,x37] h25 fun x39 h40 _ _=>AK 0 x39 fun x43=>AK 1 x39 fun x44=>AaM h40 x43 x44 x9 ih x3 x13 x5 x0
def W7 (x19:IV) (h20:Hp) (x5 x23 x13 x9:IV) (ih:Aa) (x0 x3:IV):OH :=
 AK 1 x19 fun x24=>Aj 3 x5 x23 h20 fun h25 _ _=>Gy EE 3 x24 (.fv (.int .i64 0)) fun x28=>Am x28 (Bx [.fv (.int .i64 0),.fv (.int .i64 0),.nils] [] fun x29=>XQ h25 x13 x29) (Ai 3 x5 h25 fun x34 _=>ZX x9 h25 ih x0 x34 x3 x13 x5)
def S23 (ih:Aa) (n:Nat) (x0 x1 x2 x3:IV) (h4:Hp):OH :=
 A1 24117248 x1 h4 fun x5 h6 _ _=>A1 24117249 x2 h6 fun x9 h10 _ _=>AH 24117250 (.row [.fv (.int .i64 0),.fv (.int .i64 0),.nils] false) (.ptr (.own 24117250) 0) h10 fun x13 h14 _ _=>Ai 3 x5 h14 fun x17 _=>Al [] false false ih 17 [x17] h14 fun x19 h20 _ _=>AK 0 x19 fun x23=>W7 x19 h20 x5 x23 x13 x9 ih x0 x3
theorem Aoa (ih:Aa) (n:Nat) (x0 x1 x2 x3:IV) (h4:Hp):Ax EE ih ft.get n 23 [x0,x1,x2,x3] h4=S23 ih n x0 x1 x2 x3 h4:=by kernel_rfl
def S24 (ih:Aa) (n:Nat) (x0 x1:IV) (h2:Hp):OH :=
 AH 25165824 (.row [.fv (.int .i64 0),.fv (.int .i64 0),.nils] false) (.ptr (.own 25165824) 0) h2 fun x3 h4 _ _=>Bx [.fv (.int .i64 0),.fv (.int .i64 0),.nils] [(0,1,x0),(2,1,x1)] fun x7=>Aj 3 x3 x7 h4 fun h8 _ _=>Av true 3 x3 h8 fun x11=>An [x11] h8
theorem AkX (ih:Aa) (n:Nat) (x0 x1:IV) (h2:Hp):Ax EE ih ft.get n 24 [x0,x1] h2=S24 ih n x0 x1 h2:=by kernel_rfl
def Gj (h68:Hp) (x71 x67 x36:IV) (h3:Hp) (x31 x32 x33 x34 x35:IV) (q28:List IV→Hp→OH):OH :=
 BA x71 x67 h68 fun h72 r73 w74=>Ad [] r73 w74 (BD EE 3 x36 (.fv (.int .i64 1)) fun x75=>Bg (h3.own.map (·.1)) [26221584] [x31,x32,x33,x34,x35,x75] h72 fun h76=>q28 [x31,x32,x33,x34,x35,x75] h76)
def Gg (h60:Hp) (x59:IV) (r44:AI) (x43 x35 x36:IV) (h3:Hp) (x31 x32 x33 x34:IV) (q28:List IV→Hp→OH):OH :=
 Az (Ak EE 29 1 [(0,x59)]) 26221583 h60 fun x63 h64 r65 w66=>Ad [(r44,[])] r65 w66 (Az (AW EE 26221584 false .append [29,29] [x43,x63]) 26221584 h64 fun x67 h68 r69 w70=>Ad [] r69 w70 (Ac 2 x35 fun x71=>Gj h68 x71 x67 x36 h3 x31 x32 x33 x34 x35 q28))
def Gh (ih:Aa) (h30:Hp) (x52 x36:IV) (r50 r47 r44:AI) (x32 x49 x31 x43 x35:IV) (h3:Hp) (x33 x34:IV) (q28:List IV→Hp→OH):OH :=
 Al [] false false ih 51 [x52,x36] h30 fun x54 h55 r56 w57=>Ad [(r50,[]),(r47,[]),(r44,[])] r56 w57 (BD EE 3 x32 x54 fun x58=>Al [] false false ih 25 [x49,x31,x58] h55 fun x59 h60 r61 w62=>Ad [(r44,[])] r61 w62 (Gg h60 x59 r44 x43 x35 x36 h3 x31 x32 x33 x34 q28))
def FZ (h30:Hp) (x48:IV) (r44:AI) (x33:IV) (r47:AI) (ih:Aa) (x36 x32 x31 x43 x35:IV) (h3:Hp) (x34:IV) (q28:List IV→Hp→OH):OH :=
 Ai 3 x48 h30 fun x49 r50=>Ad [(r44,[])] r50 [] (Ac 0 x33 fun x51=>Ae x51 h30 fun x52 r53=>Ad [(r50,[]),(r47,[]),(r44,[])] r53 [] (Gh ih h30 x52 x36 r50 r47 r44 x32 x49 x31 x43 x35 h3 x33 x34 q28))
def F7 (r44:AI) (x33:IV) (h30:Hp) (x36:IV) (ih:Aa) (x32 x31 x43 x35:IV) (h3:Hp) (x34:IV) (q28:List IV→Hp→OH):OH :=
 Ad [] r44 [] (Ac 2 x33 fun x45=>Ae x45 h30 fun x46 r47=>Ad [(r44,[])] r47 [] (A6 3 x46 x36 fun x48=>FZ h30 x48 r44 x33 r47 ih x36 x32 x31 x43 x35 h3 x34 q28))
def FU (h79:Hp) (x34:IV):OH :=
 Av true 3 x34 h79 fun x82=>An [x82] h79
def Gm (x41 x35:IV) (h30:Hp) (x33 x36:IV) (ih:Aa) (x32 x31:IV) (h3:Hp) (x34:IV) (q28:List IV→Hp→OH):OH :=
 Am x41 (Ac 2 x35 fun x42=>Ae x42 h30 fun x43 r44=>F7 r44 x33 h30 x36 ih x32 x31 x43 x35 h3 x34 q28) (Ai 3 x35 h30 fun x77 _=>Aj 3 x34 x77 h30 fun h79 _ _=>FU h79 x34)
def FQ (l87:List IV) (x33:IV) (h30:Hp) (x35:IV) (ih:Aa) (x32 x31:IV) (h3:Hp) (x34:IV) (q28:List IV→Hp→OH):OH :=
 Aw l87 fun x36 _=>Ac 2 x33 fun x37=>Ae x37 h30 fun x38 _=>BQ x38 fun x40=>GQ EE 3 x36 x40 fun x41=>Gm x41 x35 h30 x33 x36 ih x32 x31 h3 x34 q28
def H3 (l29:List IV) (h30:Hp) (ih:Aa) (h3:Hp) (q28:List IV→Hp→OH):OH :=
 Aw l29 fun x31 l83=>Aw l83 fun x32 l84=>Aw l84 fun x33 l85=>Aw l85 fun x34 l86=>Aw l86 fun x35 l87=>FQ l87 x33 h30 x35 ih x32 x31 h3 x34 q28
def F4 (h3 h27:Hp) (x1 x2 x4 x8 x19:IV) (n:Nat) (ih:Aa):OH :=
 Bg (h3.own.map (·.1)) [26221584] [x1,x2,x4,x8,x19,.fv (.int .i64 0)] h27 fun h89=>BE n (fun q28 l29 h30=>H3 l29 h30 ih h3 q28) [x1,x2,x4,x8,x19,.fv (.int .i64 0)] h89
def FY (h115:Hp) (x119 x1 x19:IV) (j0_26:Hp→OH):OH :=
 Ae x119 h115 fun x120 _=>BD EE 3 x120 x1 fun x122=>Ac 1 x19 fun x123=>BA x123 x122 h115 fun h124 _ _=>j0_26 h124
def FX (h109:Hp) (x93 x103 x108 x4 x1 x19:IV) (j0_26:Hp→OH):OH :=
 Ab x93 true h109 (fun k112=>geS EE 3 x103 x108 fun x113=>k112 x113 h109 [] []) fun x114 h115 _ _=>AF x93 x114 (.fv (.bool false)) fun x118=>Am x118 (Ac 1 x4 fun x119=>FY h115 x119 x1 x19 j0_26) (j0_26 h115)
def Ga (h23:Hp) (x90 x4 x2 x1 x19:IV) (j0_26:Hp→OH):OH :=
 Ae x90 h23 fun x91 _=>A5 EE 3 x91 (.fv (.int .i64 1)) fun x93=>Ab x93 true h23 (fun k94=>Ac 1 x4 fun x95=>k94 x95 h23 [] []) fun x96 h97 _ _=>Ab x93 true h97 (fun k100=>Ae x96 h97 fun x101 r102=>k100 x101 h97 r102 []) fun x103 h104 _ _=>Ab x93 true h104 (fun k107=>k107 x2 h104 [] []) fun x108 h109 _ _=>FX h109 x93 x103 x108 x4 x1 x19 j0_26
def F8 (x13 x16:IV) (h9 h3:Hp) (x1 x2 x4 x8:IV) (n:Nat) (ih:Aa):OH :=
 Bx [.fv (.int .i64 0),.fv (.int .i64 0),.nils] [(0,1,x13),(1,1,x16)] fun x18=>AH 26215429 (.row [.fv (.int .i64 0),.fv (.int .i64 0),.nils] false) (.ptr (.own 26215429) 0) h9 fun x19 h20 _ _=>Aj 3 x19 x18 h20 fun h23 _ _=>(fun (j0_26:Hp→OH)=>Ac 0 x4 fun x90=>Ga h23 x90 x4 x2 x1 x19 j0_26) fun h27=>F4 h3 h27 x1 x2 x4 x8 x19 n ih
def S25 (ih:Aa) (n:Nat) (x0 x1 x2:IV) (h3:Hp):OH :=
 A1 26214400 x0 h3 fun x4 h5 _ _=>AH 26214401 (.row [.fv (.int .i64 0),.fv (.int .i64 0),.nils] false) (.ptr (.own 26214401) 0) h5 fun x8 h9 _ _=>Ac 0 x4 fun x12=>Ae x12 h9 fun x13 _=>Ac 1 x4 fun x15=>Ae x15 h9 fun x16 _=>F8 x13 x16 h9 h3 x1 x2 x4 x8 n ih
theorem Ano (ih:Aa) (n:Nat) (x0 x1 x2:IV) (h3:Hp):Ax EE ih ft.get n 25 [x0,x1,x2] h3=S25 ih n x0 x1 x2 h3:=by kernel_rfl
def S26 (ih:Aa) (n:Nat) (x0:IV) (h1:Hp):OH :=
 AH 27262976 (.row [.fv (.int .i64 0),.fv (.int .i64 0),.nils] false) (.ptr (.own 27262976) 0) h1 fun x2 h3 _ _=>Bx [.fv (.int .i64 0),.fv (.int .i64 0),.nils] [(0,1,.fv (.int .i64 1)),(1,1,x0)] fun x6=>Aj 3 x2 x6 h3 fun h7 _ _=>Av true 3 x2 h7 fun x10=>An [x10] h7
theorem Anw (ih:Aa) (n:Nat) (x0:IV) (h1:Hp):Ax EE ih ft.get n 26 [x0] h1=S26 ih n x0 h1:=by kernel_rfl
def Ahf (x17:IV) (h14:Hp):OH :=
 Ac 1 x17 fun x18=>Ae x18 h14 fun x19 _=>An [x19] h14
def S27 (ih:Aa) (n:Nat) (x0:IV) (h1:Hp):OH :=
 A1 28311552 x0 h1 fun x2 h3 _ _=>Bx [.fv (.int .i64 0),.fv (.int .i64 0)] [] fun x6=>A1 28312577 x6 h3 fun x7 h8 _ _=>Ai 3 x2 h8 fun x11 _=>Al [true,false,false] false false ih 52 [x7,x11,.fv (.int .i64 1)] h8 fun _ h14 _ _=>AE x7 fun x17=>Ahf x17 h14
theorem Ank (ih:Aa) (n:Nat) (x0:IV) (h1:Hp):Ax EE ih ft.get n 27 [x0] h1=S27 ih n x0 h1:=by kernel_rfl
def Ru (ih:Aa) (h28:Hp) (x27 x22 x23:IV) (q17:List IV→Hp→OH) (x20 x21:IV):OH :=
 Al [] false false ih 24 [.fv (.int .i64 12),x27] h28 fun x31 h32 _ _=>Aj 3 x22 x31 h32 fun h35 _ _=>BD EE 3 x23 (.fv (.int .i64 1)) fun x38=>q17 [x20,x21,x22,x38] h35
def Ss (h41:Hp) (x21:IV):OH :=
 Av true 3 x21 h41 fun x44=>An [x44] h41
def SM (x24:IV) (h19:Hp) (x22:IV) (ih:Aa) (x23:IV) (q17:List IV→Hp→OH) (x20 x21:IV):OH :=
 Am x24 (Ai 3 x22 h19 fun x25 _=>Az (Ak EE 29 1 [(0,x25)]) 30413825 h19 fun x27 h28 _ _=>Ru ih h28 x27 x22 x23 q17 x20 x21) (Ai 3 x22 h19 fun x39 _=>Aj 3 x21 x39 h19 fun h41 _ _=>Ss h41 x21)
def Wa (l18:List IV) (h19:Hp) (ih:Aa) (q17:List IV→Hp→OH):OH :=
 Aw l18 fun x20 l45=>Aw l45 fun x21 l46=>Aw l46 fun x22 l47=>Aw l47 fun x23 _=>GQ EE 3 x23 x20 fun x24=>SM x24 h19 x22 ih x23 q17 x20 x21
def S29 (ih:Aa) (n:Nat) (x0:IV) (h1:Hp):OH :=
 AH 30408704 (.row [.fv (.int .i64 0),.fv (.int .i64 0),.nils] false) (.ptr (.own 30408704) 0) h1 fun x2 h3 _ _=>Al [] false false ih 24 [.fv (.int .i64 11),.nils] h3 fun x6 h7 _ _=>AH 30409729 (.row [.fv (.int .i64 0),.fv (.int .i64 0),.nils] false) (.ptr (.own 30409729) 0) h7 fun x10 h11 _ _=>Aj 3 x10 x6 h11 fun h14 _ _=>BE n (fun q17 l18 h19=>Wa l18 h19 ih q17) [x0,x2,x10,.fv (.int .i64 0)] h14
theorem AnU (ih:Aa) (n:Nat) (x0:IV) (h1:Hp):Ax EE ih ft.get n 29 [x0] h1=S29 ih n x0 h1:=by kernel_rfl
def Nk (x12 x43 x13:IV) (q7:List IV→Hp→OH) (h44:Hp) (x10 x11:IV):OH :=
 BD EE 3 x12 x43 fun x47=>BD EE 3 x13 (.fv (.int .i64 1)) fun x48=>q7 [x10,x11,x47,x48] h44
def Oj (h32:Hp) (x36 x13 x10 x12:IV) (ih:Aa) (q7:List IV→Hp→OH) (x11:IV):OH :=
 Ae x36 h32 fun x37 _=>A6 3 x37 x13 fun x39=>Ai 3 x39 h32 fun x40 _=>Bd EE 3 x10 x12 fun x42=>Al [] false false ih 33 [x40,x42] h32 fun x43 h44 _ _=>Nk x12 x43 x13 q7 h44 x10 x11
def OV (h26:Hp) (x18 x20 x25 x11 x13 x10 x12:IV) (ih:Aa) (q7:List IV→Hp→OH):OH :=
 Ab x18 true h26 (fun k29=>GQ EE 3 x20 x25 fun x30=>k29 x30 h26 [] []) fun x31 h32 _ _=>AF x18 x31 (.fv (.bool false)) fun x35=>Am x35 (Ac 2 x11 fun x36=>Oj h32 x36 x13 x10 x12 ih q7 x11) (An [x12] h32)
def Of (h9:Hp) (x14 x13 x12 x10 x11:IV) (ih:Aa) (q7:List IV→Hp→OH):OH :=
 Ae x14 h9 fun x15 _=>BQ x15 fun x17=>GQ EE 3 x13 x17 fun x18=>Ab x18 true h9 (fun k19=>k19 x12 h9 [] []) fun x20 h21 _ _=>Ab x18 true h21 (fun k24=>k24 x10 h21 [] []) fun x25 h26 _ _=>OV h26 x18 x20 x25 x11 x13 x10 x12 ih q7
def SN (l8:List IV) (h9:Hp) (ih:Aa) (q7:List IV→Hp→OH):OH :=
 Aw l8 fun x10 l49=>Aw l49 fun x11 l50=>Aw l50 fun x12 l51=>Aw l51 fun x13 _=>Ac 2 x11 fun x14=>Of h9 x14 x13 x12 x10 x11 ih q7
def S33 (ih:Aa) (n:Nat) (x0 x1:IV) (h2:Hp):OH :=
 A1 34603008 x0 h2 fun x3 h4 _ _=>BE n (fun q7 l8 h9=>SN l8 h9 ih q7) [x1,x3,.fv (.int .i64 1),.fv (.int .i64 0)] h4
theorem Alc (ih:Aa) (n:Nat) (x0 x1:IV) (h2:Hp):Ax EE ih ft.get n 33 [x0,x1] h2=S33 ih n x0 x1 h2:=by kernel_rfl
def QA (h32:Hp) (x7 x31:IV):OH :=
 Aj 3 x7 x31 h32 fun h35 _ _=>Av true 3 x7 h35 fun x38=>An [x38] h35
def P3 (r72 w73:AI) (h71:Hp) (x7:IV):OH :=
 Ad [] r72 w73 (Av true 3 x7 h71 fun x74=>An [x74] h71)
def Su (h60:Hp) (x48 x59:IV) (ih:Aa) (x40 x7:IV):OH :=
 Az (Ak EE 29 2 [(0,x48),(1,x59)]) 35655693 h60 fun x63 h64 r65 w66=>Ad [] r65 w66 (Al [] false false ih 24 [x40,x63] h64 fun x67 h68 r69 w70=>Ad [] r69 w70 (Aj 3 x7 x67 h68 fun h71 r72 w73=>P3 r72 w73 h71 x7))
def QN (ih:Aa) (h49:Hp) (x52 x1 x48 x40 x7:IV):OH :=
 Al [] false false ih 46 [x52,.fv (.int .i64 1)] h49 fun x54 h55 r56 w57=>Ad [] r56 w57 (Bd EE 3 x1 (.fv (.int .i64 1)) fun x58=>Al [] false false ih 34 [x54,x58] h55 fun x59 h60 r61 w62=>Ad [] r61 w62 (Su h60 x48 x59 ih x40 x7))
def R7 (x1:IV) (ih:Aa) (h44:Hp) (x43 x3:IV) (r45 w46 r42:AI) (x40 x7:IV):OH :=
 Bd EE 3 x1 (.fv (.int .i64 1)) fun x47=>Al [] false false ih 34 [x43,x47] h44 fun x48 h49 r50 w51=>Ad [] r50 w51 (Ai 3 x3 h49 fun x52 r53=>Ad [(r50,w51),(r45,w46),(r42,[])] r53 [] (QN ih h49 x52 x1 x48 x40 x7))
def RT (x39:IV) (h27:Hp) (x3:IV) (ih:Aa) (x1 x7:IV):OH :=
 Bd EE 3 x39 (.fv (.int .i64 2)) fun x40=>Ai 3 x3 h27 fun x41 r42=>Ad [] r42 [] (Al [] false false ih 46 [x41,.fv (.int .i64 0)] h27 fun x43 h44 r45 w46=>Ad [] r45 w46 (R7 x1 ih h44 x43 x3 r45 w46 r42 x40 x7))
def SU (h15:Hp) (x18 x14:IV) (ih:Aa) (x7 x3 x1:IV):OH :=
 Ab x18 false h15 (fun k19=>k19 x14 h15 [] []) fun x20 h21 _ _=>Ab x18 false h21 (fun k24=>GQ EE 3 x20 (.fv (.int .i64 2)) fun x25=>k24 x25 h21 [] []) fun x26 h27 _ _=>AF x18 (.fv (.bool true)) x26 fun x30=>Am x30 (Al [] false false ih 24 [.fv (.int .i64 15),.nils] h27 fun x31 h32 _ _=>QA h32 x7 x31) (BD EE 3 (.fv (.int .i64 16)) x14 fun x39=>RT x39 h27 x3 ih x1 x7)
def S34 (ih:Aa) (n:Nat) (x0 x1:IV) (h2:Hp):OH :=
 A1 35651584 x0 h2 fun x3 h4 _ _=>AH 35651585 (.row [.fv (.int .i64 0),.fv (.int .i64 0),.nils] false) (.ptr (.own 35651585) 0) h4 fun x7 h8 _ _=>Ac 1 x3 fun x11=>Ae x11 h8 fun x12 _=>Al [] false false ih 43 [x12,.fv (.int .i64 4)] h8 fun x14 h15 _ _=>leS EE 3 x1 (.fv (.int .i64 0)) fun x18=>SU h15 x18 x14 ih x7 x3 x1
theorem AnK (ih:Aa) (n:Nat) (x0 x1:IV) (h2:Hp):Ax EE ih ft.get n 34 [x0,x1] h2=S34 ih n x0 x1 h2:=by kernel_rfl
def Zk (h25:Hp) (x13 x29:IV):OH :=
 Aj 3 x13 x29 h25 fun h30 _ _=>Av true 3 x13 h30 fun x33=>An [x33,.fv (.bool false)] h30
def Aax (h91:Hp) (x13 x44:IV):OH :=
 Av true 3 x13 h91 fun x94=>An [x94,x44] h91
def AbJ (h126:Hp) (x13 x129 x130:IV):OH :=
 Aj 3 x13 x129 h126 fun h131 _ _=>Av true 3 x13 h131 fun x134=>An [x134,x130] h131
def ZD (h117:Hp) (x5 x9:IV) (ih:Aa) (x0 x3 x13:IV):OH :=
 Ai 3 x5 h117 fun x121 _=>Ai 3 x9 h117 fun x123 _=>Al [] false false ih 53 [x0,x121,x123,x3] h117 fun x125 h126 _ _=>AK 0 x125 fun x129=>AK 1 x125 fun x130=>AbJ h126 x13 x129 x130
def Wu (h221:Hp) (x179 x201 x13 x224:IV):OH :=
 Ab x179 true h221 (fun k225=>k225 x201 h221 [] []) fun x226 h227 _ _=>AF x179 x226 (.fv (.bool false)) fun x230=>Aj 3 x13 x224 h227 fun h231 r232 w233=>Ad [] r232 w233 (Av true 3 x13 h231 fun x234=>An [x234,x230] h231)
def YW (h213:Hp) (x202:IV) (r217 r214 w215 r211:AI) (x216 x212 x179 x201 x13:IV):OH :=
 Ai 3 x202 h213 fun x218 r219=>Ad [(r217,[]),(r214,w215),(r211,[])] r219 [] (Az (Ak EE 29 2 [(0,x216),(1,x218)]) 36714501 h213 fun x220 h221 r222 w223=>Ad [(r214,w215),(r211,[])] r222 w223 (Bx [.fv (.int .i64 0),.fv (.int .i64 0),.nils] [(0,1,.fv (.int .i64 26)),(1,1,x212),(2,1,x220)] fun x224=>Wu h221 x179 x201 x13 x224))
def Y2 (r211:AI) (ih:Aa) (h206:Hp) (x210 x180 x202 x179 x201 x13:IV):OH :=
 Ad [] r211 [] (Al [] false false ih 43 [x210,.fv (.int .i64 5)] h206 fun x212 h213 r214 w215=>Ad [] r214 w215 (Ai 3 x180 h213 fun x216 r217=>Ad [(r214,w215),(r211,[])] r217 [] (YW h213 x202 r217 r214 w215 r211 x216 x212 x179 x201 x13)))
def AbY (r204 w205 r198 w199 r193 w194 r190 r188:AI) (h203:Hp) (x202 x200 x9:IV) (ih:Aa) (x180 x179 x201 x13:IV):OH :=
 Ad [(r198,w199),(r193,w194),(r190,[]),(r188,[])] r204 w205 (Aj 3 x202 x200 h203 fun h206 r207 w208=>Ad [] r207 w208 (Ac 1 x9 fun x209=>Ae x209 h206 fun x210 r211=>Y2 r211 ih h206 x210 x180 x202 x179 x201 x13))
def Yv (ih:Aa) (h192:Hp) (x0 x187 x191 x195:IV) (r193 w194 r190 r188:AI) (x9 x180 x179 x13:IV):OH :=
 Al [] false false ih 35 [x0,x187,x191,x195] h192 fun x196 h197 r198 w199=>Ad [] r198 w199 (AK 0 x196 fun x200=>AK 1 x196 fun x201=>AH 36713482 (.row [.fv (.int .i64 0),.fv (.int .i64 0),.nils] false) (.ptr (.own 36713482) 0) h197 fun x202 h203 r204 w205=>AbY r204 w205 r198 w199 r193 w194 r190 r188 h203 x202 x200 x9 ih x180 x179 x201 x13)
def Acp (h184:Hp) (x9:IV) (r188:AI) (ih:Aa) (x3 x0 x187 x180 x179 x13:IV):OH :=
 Ai 3 x9 h184 fun x189 r190=>Ad [(r188,[])] r190 [] (Al [] false false ih 46 [x189,.fv (.int .i64 1)] h184 fun x191 h192 r193 w194=>Ad [(r188,[])] r193 w194 (Bd EE 3 x3 (.fv (.int .i64 1)) fun x195=>Yv ih h192 x0 x187 x191 x195 r193 w194 r190 r188 x9 x180 x179 x13))
def YJ (r182 w183 r176 w177 r171 w172 r168 r166:AI) (h181:Hp) (x180 x178 x5 x9:IV) (ih:Aa) (x3 x0 x179 x13:IV):OH :=
 Ad [(r176,w177),(r171,w172),(r168,[]),(r166,[])] r182 w183 (Aj 3 x180 x178 h181 fun h184 r185 w186=>Ad [] r185 w186 (Ai 3 x5 h184 fun x187 r188=>Ad [] r188 [] (Acp h184 x9 r188 ih x3 x0 x187 x180 x179 x13)))
def Aa8 (ih:Aa) (h170:Hp) (x0 x165 x169 x173:IV) (r171 w172 r168 r166:AI) (x5 x9 x3 x13:IV):OH :=
 Al [] false false ih 35 [x0,x165,x169,x173] h170 fun x174 h175 r176 w177=>Ad [] r176 w177 (AK 0 x174 fun x178=>AK 1 x174 fun x179=>AH 36712458 (.row [.fv (.int .i64 0),.fv (.int .i64 0),.nils] false) (.ptr (.own 36712458) 0) h175 fun x180 h181 r182 w183=>YJ r182 w183 r176 w177 r171 w172 r168 r166 h181 x180 x178 x5 x9 ih x3 x0 x179 x13)
def Xv (h161:Hp) (x9:IV) (r166:AI) (ih:Aa) (x3 x0 x165 x5 x13:IV):OH :=
 Ai 3 x9 h161 fun x167 r168=>Ad [(r166,[])] r168 [] (Al [] false false ih 46 [x167,.fv (.int .i64 0)] h161 fun x169 h170 r171 w172=>Ad [(r166,[])] r171 w172 (Bd EE 3 x3 (.fv (.int .i64 1)) fun x173=>Aa8 ih h170 x0 x165 x169 x173 r171 w172 r168 r166 x5 x9 x3 x13))
def AaU (ih:Aa) (h161:Hp) (x236 x13:IV):OH :=
 Al [] false false ih 43 [x236,.fv (.int .i64 20)] h161 fun x238 h239 _ _=>Bd EE 3 x238 (.fv (.int .i64 5)) fun x242=>Al [] false false ih 36 [x242] h239 fun x243 h244 _ _=>Aj 3 x13 x243 h244 fun h247 _ _=>Av true 3 x13 h247 fun x250=>An [x250,.fv (.bool true)] h247
def Z8 (x164:IV) (h161:Hp) (x5 x9:IV) (ih:Aa) (x3 x0 x13:IV):OH :=
 Am x164 (Ai 3 x5 h161 fun x165 r166=>Ad [] r166 [] (Xv h161 x9 r166 ih x3 x0 x165 x5 x13)) (Ac 1 x9 fun x235=>Ae x235 h161 fun x236 _=>AaU ih h161 x236 x13)
def X5 (h117:Hp) (x139 x9:IV) (ih:Aa) (x5 x3 x0 x13:IV):OH :=
 Ab x139 true h117 (fun k140=>Ac 0 x9 fun x141=>k140 x141 h117 [] []) fun x142 h143 _ _=>Ab x139 true h143 (fun k146=>Ae x142 h143 fun x147 r148=>k146 x147 h143 r148 []) fun x149 h150 _ _=>Ab x139 true h150 (fun k153=>Al [] false false ih 43 [x149,.fv (.int .i64 2)] h150 k153) fun x154 h155 _ _=>Ab x139 true h155 (fun k158=>A5 EE 3 x154 (.fv (.int .i64 1)) fun x159=>k158 x159 h155 [] []) fun x160 h161 _ _=>AF x139 x160 (.fv (.bool false)) fun x164=>Z8 x164 h161 x5 x9 ih x3 x0 x13
def Aam (r309 w310:AI) (h308:Hp) (x13 x284:IV):OH :=
 Ad [] r309 w310 (Av true 3 x13 h308 fun x311=>An [x311,x284] h308)
def ZV (h289:Hp) (x296 x298:IV) (ih:Aa) (x13 x284:IV):OH :=
 Az (Ak EE 29 2 [(0,x296),(1,x298)]) 36718597 h289 fun x300 h301 r302 w303=>Ad [] r302 w303 (Al [] false false ih 24 [.fv (.int .i64 20),x300] h301 fun x304 h305 r306 w307=>Ad [] r306 w307 (Aj 3 x13 x304 h305 fun h308 r309 w310=>Aam r309 w310 h308 x13 x284))
def XH (x293:IV) (h289:Hp) (x285:IV) (r294:AI) (ih:Aa) (x13 x284:IV):OH :=
 A6 3 x293 (.fv (.int .i64 0)) fun x295=>Ai 3 x295 h289 fun x296 r297=>Ad [] r297 [] (Ai 3 x285 h289 fun x298 r299=>Ad [(r297,[]),(r294,[])] r299 [] (ZV h289 x296 x298 ih x13 x284))
def AaV (h286:Hp) (x285 x283 x5:IV) (ih:Aa) (x13 x284:IV):OH :=
 Aj 3 x285 x283 h286 fun h289 r290 w291=>Ad [] r290 w291 (Ac 2 x5 fun x292=>Ae x292 h289 fun x293 r294=>Ad [] r294 [] (XH x293 h289 x285 r294 ih x13 x284))
def Yx (r281 w282:AI) (x279:IV) (h280:Hp) (r276 w277 r273 r270 w271 r267 r264 r260 w261 r257 r254:AI) (x5:IV) (ih:Aa) (x13:IV):OH :=
 Ad [] r281 w282 (AK 0 x279 fun x283=>AK 1 x279 fun x284=>AH 36717587 (.row [.fv (.int .i64 0),.fv (.int .i64 0),.nils] false) (.ptr (.own 36717587) 0) h280 fun x285 h286 r287 w288=>Ad [(r281,w282),(r276,w277),(r273,[]),(r270,w271),(r267,[]),(r264,[]),(r260,w261),(r257,[]),(r254,[])] r287 w288 (AaV h286 x285 x283 x5 ih x13 x284))
def Acv (r273 r270 w271 r267 r264 r260 w261 r257 r254:AI) (ih:Aa) (h269:Hp) (x272 x3 x258 x268 x5 x13:IV):OH :=
 Ad [(r270,w271),(r267,[]),(r264,[]),(r260,w261),(r257,[]),(r254,[])] r273 [] (Al [] false false ih 46 [x272,.fv (.int .i64 0)] h269 fun x274 h275 r276 w277=>Ad [] r276 w277 (Bd EE 3 x3 (.fv (.int .i64 1)) fun x278=>Al [] false false ih 35 [x258,x268,x274,x278] h275 fun x279 h280 r281 w282=>Yx r281 w282 x279 h280 r276 w277 r273 r270 w271 r267 r264 r260 w261 r257 r254 x5 ih x13))
def Abr (h259:Hp) (x265:IV) (r260 w261 r257 r254:AI) (ih:Aa) (x9:IV) (r264:AI) (x3 x258 x5 x13:IV):OH :=
 Ai 3 x265 h259 fun x266 r267=>Ad [(r260,w261),(r257,[]),(r254,[])] r267 [] (Al [] false false ih 25 [x266,.fv (.int .i64 1),.fv (.int .i64 0)] h259 fun x268 h269 r270 w271=>Ad [] r270 w271 (Ai 3 x9 h269 fun x272 r273=>Acv r273 r270 w271 r267 r264 r260 w261 r257 r254 ih h269 x272 x3 x258 x268 x5 x13))
def AaY (r260 w261:AI) (x5:IV) (h259:Hp) (r257 r254:AI) (ih:Aa) (x9 x3 x258 x13:IV):OH :=
 Ad [] r260 w261 (Ac 2 x5 fun x262=>Ae x262 h259 fun x263 r264=>Ad [(r260,w261),(r257,[]),(r254,[])] r264 [] (A6 3 x263 (.fv (.int .i64 1)) fun x265=>Abr h259 x265 r260 w261 r257 r254 ih x9 r264 x3 x258 x5 x13))
def Xl (r254:AI) (x253:IV) (h117:Hp) (ih:Aa) (x0 x5 x9 x3 x13:IV):OH :=
 Ad [] r254 [] (A6 3 x253 (.fv (.int .i64 0)) fun x255=>Ai 3 x255 h117 fun x256 r257=>Ad [] r257 [] (Al [] false false ih 22 [x0,.fv (.int .i64 0),x256] h117 fun x258 h259 r260 w261=>AaY r260 w261 x5 h259 r257 r254 ih x9 x3 x258 x13))
def Xx (h383:Hp) (x13 x382:IV):OH :=
 Av true 3 x13 h383 fun x386=>An [x386,x382] h383
def Yu (h362:Hp) (x365 x367:IV) (ih:Aa) (x331 x357 x13:IV):OH :=
 Az (Ak EE 29 2 [(0,x365),(1,x367)]) 36722690 h362 fun x369 h370 _ _=>Al [] false false ih 24 [.fv (.int .i64 22),x369] h370 fun x373 h374 _ _=>Ab x331 true h374 (fun k377=>k377 x357 h374 [] []) fun x378 h379 _ _=>AF x331 x378 (.fv (.bool false)) fun x382=>Aj 3 x13 x373 h379 fun h383 _ _=>Xx h383 x13 x382
def AcX (r360 w361 r354 w355 r349 w350 r346 r344 r341:AI) (h359:Hp) (x358 x356 x332:IV) (ih:Aa) (x331 x357 x13:IV):OH :=
 Ad [(r354,w355),(r349,w350),(r346,[]),(r344,[]),(r341,[])] r360 w361 (Aj 3 x358 x356 h359 fun h362 r363 w364=>Ad [] r363 w364 (Ai 3 x332 h362 fun x365 _=>Ai 3 x358 h362 fun x367 _=>Yu h362 x365 x367 ih x331 x357 x13))
def YY (ih:Aa) (h348:Hp) (x0 x343 x347 x351:IV) (r349 w350 r346 r344 r341:AI) (x332 x331 x13:IV):OH :=
 Al [] false false ih 35 [x0,x343,x347,x351] h348 fun x352 h353 r354 w355=>Ad [] r354 w355 (AK 0 x352 fun x356=>AK 1 x352 fun x357=>AH 36721677 (.row [.fv (.int .i64 0),.fv (.int .i64 0),.nils] false) (.ptr (.own 36721677) 0) h353 fun x358 h359 r360 w361=>AcX r360 w361 r354 w355 r349 w350 r346 r344 r341 h359 x358 x356 x332 ih x331 x357 x13)
def Z3 (h336:Hp) (x9:IV) (r344 r341:AI) (ih:Aa) (x3 x0 x343 x332 x331 x13:IV):OH :=
 Ai 3 x9 h336 fun x345 r346=>Ad [(r344,[]),(r341,[])] r346 [] (Al [] false false ih 46 [x345,.fv (.int .i64 1)] h336 fun x347 h348 r349 w350=>Ad [(r344,[]),(r341,[])] r349 w350 (Bd EE 3 x3 (.fv (.int .i64 1)) fun x351=>YY ih h348 x0 x343 x347 x351 r349 w350 r346 r344 r341 x332 x331 x13))
def AaC (h336:Hp) (x339 x9:IV) (ih:Aa) (x3 x0 x332 x331 x13:IV):OH :=
 Ae x339 h336 fun x340 r341=>Ad [] r341 [] (A6 3 x340 (.fv (.int .i64 1)) fun x342=>Ai 3 x342 h336 fun x343 r344=>Ad [] r344 [] (Z3 h336 x9 r344 r341 ih x3 x0 x343 x332 x331 x13))
def Abe (h327:Hp) (r328 w329 r323 w324 r320 r318 r315:AI) (x330 x5 x9:IV) (ih:Aa) (x3 x0 x331 x13:IV):OH :=
 AH 36720653 (.row [.fv (.int .i64 0),.fv (.int .i64 0),.nils] false) (.ptr (.own 36720653) 0) h327 fun x332 h333 r334 w335=>Ad [(r328,w329),(r323,w324),(r320,[]),(r318,[]),(r315,[])] r334 w335 (Aj 3 x332 x330 h333 fun h336 r337 w338=>Ad [] r337 w338 (Ac 2 x5 fun x339=>AaC h336 x339 x9 ih x3 x0 x332 x331 x13))
def Z1 (x3:IV) (ih:Aa) (h322:Hp) (x0 x317 x321:IV) (r323 w324 r320 r318 r315:AI) (x5 x9 x13:IV):OH :=
 Bd EE 3 x3 (.fv (.int .i64 1)) fun x325=>Al [] false false ih 35 [x0,x317,x321,x325] h322 fun x326 h327 r328 w329=>Ad [] r328 w329 (AK 0 x326 fun x330=>AK 1 x326 fun x331=>Abe h327 r328 w329 r323 w324 r320 r318 r315 x330 x5 x9 ih x3 x0 x331 x13)
def AbO (r318:AI) (h117:Hp) (x9:IV) (r315:AI) (ih:Aa) (x3 x0 x317 x5 x13:IV):OH :=
 Ad [] r318 [] (Ai 3 x9 h117 fun x319 r320=>Ad [(r318,[]),(r315,[])] r320 [] (Al [] false false ih 46 [x319,.fv (.int .i64 0)] h117 fun x321 h322 r323 w324=>Ad [(r318,[]),(r315,[])] r323 w324 (Z1 x3 ih h322 x0 x317 x321 r323 w324 r320 r318 r315 x5 x9 x13)))
def ZH (x5:IV) (h117:Hp) (x9:IV) (ih:Aa) (x3 x0 x13:IV):OH :=
 Ac 2 x5 fun x313=>Ae x313 h117 fun x314 r315=>Ad [] r315 [] (A6 3 x314 (.fv (.int .i64 0)) fun x316=>Ai 3 x316 h117 fun x317 r318=>AbO r318 h117 x9 r315 ih x3 x0 x317 x5 x13)
def Aci (h117:Hp) (x45 x13 x44:IV):OH :=
 Ai 3 x45 h117 fun x387 _=>Aj 3 x13 x387 h117 fun h389 _ _=>Av true 3 x13 h389 fun x392=>An [x392,x44] h389
def AcG (x251 x5:IV) (h117:Hp) (ih:Aa) (x0 x9 x3 x13 x136 x45 x44:IV):OH :=
 Am x251 (Ac 2 x5 fun x252=>Ae x252 h117 fun x253 r254=>Xl r254 x253 h117 ih x0 x5 x9 x3 x13) (A5 EE 3 x136 (.fv (.int .i64 17)) fun x312=>Am x312 (ZH x5 h117 x9 ih x3 x0 x13) (Aci h117 x45 x13 x44))
def AaA (x5:IV) (h117:Hp) (x3 x9:IV) (ih:Aa) (x0 x13 x45 x44:IV):OH :=
 Ac 0 x5 fun x135=>Ae x135 h117 fun x136 _=>A5 EE 3 x136 (.fv (.int .i64 15)) fun x138=>Am x138 (Mk EE 3 x3 (.fv (.int .i64 0)) fun x139=>X5 h117 x139 x9 ih x5 x3 x0 x13) (A5 EE 3 x136 (.fv (.int .i64 16)) fun x251=>AcG x251 x5 h117 ih x0 x9 x3 x13 x136 x45 x44)
def Abk (h99:Hp) (x95 x98:IV) (ih:Aa) (x5 x9 x0 x3 x13 x45 x44:IV):OH :=
 Ab x95 true h99 (fun k102=>Ae x98 h99 fun x103 r104=>k102 x103 h99 r104 []) fun x105 h106 _ _=>Ab x95 true h106 (fun k109=>Al [] false false ih 43 [x105,.fv (.int .i64 3)] h106 k109) fun x110 h111 _ _=>Ab x95 true h111 (fun k114=>A5 EE 3 x110 (.fv (.int .i64 1)) fun x115=>k114 x115 h111 [] []) fun x116 h117 _ _=>AF x95 x116 (.fv (.bool false)) fun x120=>Am x120 (ZD h117 x5 x9 ih x0 x3 x13) (AaA x5 h117 x3 x9 ih x0 x13 x45 x44)
def Wv (x88:IV) (h85:Hp) (x45 x13 x44 x3 x9:IV) (ih:Aa) (x5 x0:IV):OH :=
 Am x88 (Ai 3 x45 h85 fun x89 _=>Aj 3 x13 x89 h85 fun h91 _ _=>Aax h91 x13 x44) (Mk EE 3 x3 (.fv (.int .i64 0)) fun x95=>Ab x95 true h85 (fun k96=>Ac 0 x9 fun x97=>k96 x97 h85 [] []) fun x98 h99 _ _=>Abk h99 x95 x98 ih x5 x9 x0 x3 x13 x45 x44)
def Xf (h67:Hp) (x44 x66 x3 x45 x13 x9:IV) (ih:Aa) (x5 x0:IV):OH :=
 Ab x44 true h67 (fun k70=>A5 EE 3 x66 (.fv (.int .i64 0)) fun x71=>k70 x71 h67 [] []) fun x72 h73 _ _=>AF x44 x72 (.fv (.bool false)) fun x76=>Ab x76 false h73 (fun k77=>k77 x3 h73 [] []) fun x78 h79 _ _=>Ab x76 false h79 (fun k82=>GQ EE 3 x78 (.fv (.int .i64 (-4))) fun x83=>k82 x83 h79 [] []) fun x84 h85 _ _=>AF x76 (.fv (.bool true)) x84 fun x88=>Wv x88 h85 x45 x13 x44 x3 x9 ih x5 x0
def AbI (h40:Hp) (x43 x44 x9:IV) (ih:Aa) (x3 x13 x5 x0:IV):OH :=
 AH 36704264 (.row [.fv (.int .i64 0),.fv (.int .i64 0),.nils] false) (.ptr (.own 36704264) 0) h40 fun x45 h46 _ _=>Aj 3 x45 x43 h46 fun h49 _ _=>Ab x44 true h49 (fun k52=>Ac 0 x9 fun x53=>k52 x53 h49 [] []) fun x54 h55 _ _=>Ab x44 true h55 (fun k58=>Ae x54 h55 fun x59 r60=>k58 x59 h55 r60 []) fun x61 h62 _ _=>Ab x44 true h62 (fun k65=>Al [] false false ih 43 [x61,.fv (.int .i64 3)] h62 k65) fun x66 h67 _ _=>Xf h67 x44 x66 x3 x45 x13 x9 ih x5 x0
def Aah (x9:IV) (h25:Hp) (ih:Aa) (x0 x34 x3 x13 x5:IV):OH :=
 Ac 1 x9 fun x36=>Ae x36 h25 fun x37 _=>Al [] false false ih 47 [x0,.fv (.int .i64 0),x34,x37] h25 fun x39 h40 _ _=>AK 0 x39 fun x43=>AK 1 x39 fun x44=>AbI h40 x43 x44 x9 ih x3 x13 x5 x0
def AcH (x19:IV) (h20:Hp) (x5 x23 x13 x9:IV) (ih:Aa) (x0 x3:IV):OH :=
 AK 1 x19 fun x24=>Aj 3 x5 x23 h20 fun h25 _ _=>Gy EE 3 x24 (.fv (.int .i64 0)) fun x28=>Am x28 (Bx [.fv (.int .i64 0),.fv (.int .i64 0),.nils] [] fun x29=>Zk h25 x13 x29) (Ai 3 x5 h25 fun x34 _=>Aah x9 h25 ih x0 x34 x3 x13 x5)
def S35 (ih:Aa) (n:Nat) (x0 x1 x2 x3:IV) (h4:Hp):OH :=
 A1 36700160 x1 h4 fun x5 h6 _ _=>A1 36700161 x2 h6 fun x9 h10 _ _=>AH 36700162 (.row [.fv (.int .i64 0),.fv (.int .i64 0),.nils] false) (.ptr (.own 36700162) 0) h10 fun x13 h14 _ _=>Ai 3 x5 h14 fun x17 _=>Al [] false false ih 17 [x17] h14 fun x19 h20 _ _=>AK 0 x19 fun x23=>AcH x19 h20 x5 x23 x13 x9 ih x0 x3
theorem Anr (ih:Aa) (n:Nat) (x0 x1 x2 x3:IV) (h4:Hp):Ax EE ih ft.get n 35 [x0,x1,x2,x3] h4=S35 ih n x0 x1 x2 x3 h4:=by kernel_rfl
def S36 (ih:Aa) (n:Nat) (x0:IV) (h1:Hp):OH :=
 AH 37748736 (.row [.fv (.int .i64 0),.fv (.int .i64 0),.nils] false) (.ptr (.own 37748736) 0) h1 fun x2 h3 _ _=>Bx [.fv (.int .i64 0),.fv (.int .i64 0),.nils] [(0,1,.fv (.int .i64 25)),(1,1,x0)] fun x6=>Aj 3 x2 x6 h3 fun h7 _ _=>Av true 3 x2 h7 fun x10=>An [x10] h7
theorem AnN (ih:Aa) (n:Nat) (x0:IV) (h1:Hp):Ax EE ih ft.get n 36 [x0] h1=S36 ih n x0 h1:=by kernel_rfl
def FP (x101:IV) (q96:List IV→Hp→OH) (h120:Hp) (x99 x100:IV):OH :=
 BD EE 3 x101 (.fv (.int .i64 1)) fun x124=>q96 [x99,x100,x124] h120
def Gp (r118 r112 r109:AI) (ih:Aa) (h98:Hp) (x111 x117 x101:IV) (q96:List IV→Hp→OH) (x99 x100:IV):OH :=
 Ad [(r112,[]),(r109,[])] r118 [] (Al [] false false ih 37 [x111,x117] h98 fun x119 h120 r121 w122=>Ad [] r121 w122 (CF (Lz .not x119) fun x123=>Am x123 (An [.fv (.bool false)] h120) (FP x101 q96 h120 x99 x100)))
def Gc (x100:IV) (h98:Hp) (r112 r109:AI) (x101:IV) (ih:Aa) (x111:IV) (q96:List IV→Hp→OH) (x99:IV):OH :=
 Ac 2 x100 fun x113=>Ae x113 h98 fun x114 r115=>Ad [(r112,[]),(r109,[])] r115 [] (A6 3 x114 x101 fun x116=>Ai 3 x116 h98 fun x117 r118=>Gp r118 r112 r109 ih h98 x111 x117 x101 q96 x99 x100)
def Gk (h98:Hp) (x107 x101 x100:IV) (ih:Aa) (q96:List IV→Hp→OH) (x99:IV):OH :=
 Ae x107 h98 fun x108 r109=>Ad [] r109 [] (A6 3 x108 x101 fun x110=>Ai 3 x110 h98 fun x111 r112=>Ad [] r112 [] (Gc x100 h98 r112 r109 x101 ih x111 q96 x99))
def Gb (x103 x101 x99:IV) (h98:Hp) (x100:IV) (ih:Aa) (q96:List IV→Hp→OH):OH :=
 BQ x103 fun x105=>GQ EE 3 x101 x105 fun x106=>Am x106 (Ac 2 x99 fun x107=>Gk h98 x107 x101 x100 ih q96 x99) (An [.fv (.bool true)] h98)
def Mx (l97:List IV) (h98:Hp) (ih:Aa) (q96:List IV→Hp→OH):OH :=
 Aw l97 fun x99 l125=>Aw l125 fun x100 l126=>Aw l126 fun x101 _=>Ac 2 x99 fun x102=>Ae x102 h98 fun x103 _=>Gb x103 x101 x99 h98 x100 ih q96
def F9 (x95:IV) (h92:Hp) (n:Nat) (x3 x7:IV) (ih:Aa):OH :=
 Am x95 (An [.fv (.bool false)] h92) (BE n (fun q96 l97 h98=>Mx l97 h98 ih q96) [x3,x7,.fv (.int .i64 0)] h92)
def Gl (h67:Hp) (x50 x7 x66:IV) (n:Nat) (x3:IV) (ih:Aa):OH :=
 Ab x50 false h67 (fun k70=>Ac 2 x7 fun x71=>k70 x71 h67 [] []) fun x72 h73 _ _=>Ab x50 false h73 (fun k76=>Ae x72 h73 fun x77 r78=>k76 x77 h73 r78 []) fun x79 h80 _ _=>Ab x50 false h80 (fun k83=>BQ x79 fun x84=>k83 x84 h80 [] []) fun x85 h86 _ _=>Ab x50 false h86 (fun k89=>Gy EE 3 x66 x85 fun x90=>k89 x90 h86 [] []) fun x91 h92 _ _=>AF x50 (.fv (.bool true)) x91 fun x95=>F9 x95 h92 n x3 x7 ih
def Gn (h41:Hp) (x17 x27 x40 x3 x7:IV) (n:Nat) (ih:Aa):OH :=
 Ab x17 false h41 (fun k44=>Gy EE 3 x27 x40 fun x45=>k44 x45 h41 [] []) fun x46 h47 _ _=>AF x17 (.fv (.bool true)) x46 fun x50=>Ab x50 false h47 (fun k51=>Ac 2 x3 fun x52=>k51 x52 h47 [] []) fun x53 h54 _ _=>Ab x50 false h54 (fun k57=>Ae x53 h54 fun x58 r59=>k57 x58 h54 r59 []) fun x60 h61 _ _=>Ab x50 false h61 (fun k64=>BQ x60 fun x65=>k64 x65 h61 [] []) fun x66 h67 _ _=>Gl h67 x50 x7 x66 n x3 ih
def Ge (x12 x15:IV) (h8:Hp) (x3 x7:IV) (n:Nat) (ih:Aa):OH :=
 Gy EE 3 x12 x15 fun x17=>Ab x17 false h8 (fun k18=>Ac 1 x3 fun x19=>k18 x19 h8 [] []) fun x20 h21 _ _=>Ab x17 false h21 (fun k24=>Ae x20 h21 fun x25 r26=>k24 x25 h21 r26 []) fun x27 h28 _ _=>Ab x17 false h28 (fun k31=>Ac 1 x7 fun x32=>k31 x32 h28 [] []) fun x33 h34 _ _=>Ab x17 false h34 (fun k37=>Ae x33 h34 fun x38 r39=>k37 x38 h34 r39 []) fun x40 h41 _ _=>Gn h41 x17 x27 x40 x3 x7 n ih
def S37 (ih:Aa) (n:Nat) (x0 x1:IV) (h2:Hp):OH :=
 A1 38797312 x0 h2 fun x3 h4 _ _=>A1 38797313 x1 h4 fun x7 h8 _ _=>Ac 0 x3 fun x11=>Ae x11 h8 fun x12 _=>Ac 0 x7 fun x14=>Ae x14 h8 fun x15 _=>Ge x12 x15 h8 x3 x7 n ih
theorem Am6 (ih:Aa) (n:Nat) (x0 x1:IV) (h2:Hp):Ax EE ih ft.get n 37 [x0,x1] h2=S37 ih n x0 x1 h2:=by kernel_rfl
def Qj (x29:IV) (h65:Hp) (x64 x30:IV) (h1:Hp) (x27 x28:IV) (q24:List IV→Hp→OH):OH :=
 Ac 2 x29 fun x68=>BA x68 x64 h65 fun h69 _ _=>BD EE 3 x30 (.fv (.int .i64 1)) fun x72=>Bg (h1.own.map (·.1)) [39851014,39854084] [x27,x28,x29,x72] h69 fun h73=>q24 [x27,x28,x29,x72] h73
def QV (x29:IV) (h54:Hp) (x46 x30:IV) (h1:Hp) (x27 x28:IV) (q24:List IV→Hp→OH):OH :=
 Ac 2 x29 fun x55=>Ae x55 h54 fun x56 _=>Ai 3 x46 h54 fun x58 _=>Az (Ak EE 29 1 [(0,x58)]) 39854083 h54 fun x60 h61 _ _=>Az (AW EE 39854084 false .append [29,29] [x56,x60]) 39854084 h61 fun x64 h65 _ _=>Qj x29 h65 x64 x30 h1 x27 x28 q24
def Sw (h126:Hp) (x46 x125:IV) (j0_53:Hp→OH):OH :=
 Aj 3 x46 x125 h126 fun h129 _ _=>j0_53 h129
def Ra (h115:Hp) (x74 x95 x114:IV) (ih:Aa) (x46:IV) (j0_53:Hp→OH):OH :=
 Ab x74 true h115 (fun k118=>AF x95 (.fv (.bool true)) x114 fun x119=>k118 x119 h115 [] []) fun x120 h121 _ _=>AF x74 x120 (.fv (.bool false)) fun x124=>Am x124 (Al [] false false ih 24 [.fv (.int .i64 11),.nils] h121 fun x125 h126 _ _=>Sw h126 x46 x125 j0_53) (j0_53 h121)
def Qx (h85:Hp) (x74 x84 x27:IV) (ih:Aa) (x46:IV) (j0_53:Hp→OH):OH :=
 Ab x74 true h85 (fun k88=>A5 EE 3 x84 (.fv (.int .i64 4)) fun x89=>k88 x89 h85 [] []) fun x90 h91 _ _=>Ab x74 true h91 (fun k94=>k94 x90 h91 [] []) fun x95 h96 _ _=>Ab x95 false h96 (fun k99=>Ac 0 x27 fun x100=>k99 x100 h96 [] []) fun x101 h102 _ _=>Ab x95 false h102 (fun k105=>Ae x101 h102 fun x106 r107=>k105 x106 h102 r107 []) fun x108 h109 _ _=>Ab x95 false h109 (fun k112=>A5 EE 3 x108 (.fv (.int .i64 7)) fun x113=>k112 x113 h109 [] []) fun x114 h115 _ _=>Ra h115 x74 x95 x114 ih x46 j0_53
def Sq (h47:Hp) (x46 x42 x29 x30:IV) (h1:Hp) (x27 x28:IV) (q24:List IV→Hp→OH) (ih:Aa):OH :=
 Aj 3 x46 x42 h47 fun h50 _ _=>(fun (j0_53:Hp→OH)=>A5 EE 3 x30 (.fv (.int .i64 0)) fun x74=>Ab x74 true h50 (fun k75=>Ac 0 x27 fun x76=>k75 x76 h50 [] []) fun x77 h78 _ _=>Ab x74 true h78 (fun k81=>Ae x77 h78 fun x82 r83=>k81 x82 h78 r83 []) fun x84 h85 _ _=>Qx h85 x74 x84 x27 ih x46 j0_53) fun h54=>QV x29 h54 x46 x30 h1 x27 x28 q24
def Q8 (h26:Hp) (x36 x30:IV) (ih:Aa) (x29:IV) (h1:Hp) (x27 x28:IV) (q24:List IV→Hp→OH):OH :=
 Ae x36 h26 fun x37 _=>A6 3 x37 x30 fun x39=>Ai 3 x39 h26 fun x40 _=>Al [] false false ih 38 [x40] h26 fun x42 h43 _ _=>AH 39851014 (.row [.fv (.int .i64 0),.fv (.int .i64 0),.nils] false) (.ptr (.own 39851014) 0) h43 fun x46 h47 _ _=>Sq h47 x46 x42 x29 x30 h1 x27 x28 q24 ih
def Q5 (ih:Aa) (h299:Hp) (x296 x298 x28:IV):OH :=
 Al [] false false ih 50 [x296,.fv (.int .i64 0),x298] h299 fun x302 h303 r304 w305=>Ad [] r304 w305 (Aj 3 x28 x302 h303 fun h306 r307 w308=>Ad [] r307 w308 (Av true 3 x28 h306 fun x309=>An [x309] h306))
def Ql (x293:IV) (h284:Hp) (ih:Aa) (r294 r290:AI) (x28:IV):OH :=
 A6 3 x293 (.fv (.int .i64 0)) fun x295=>Ai 3 x295 h284 fun x296 r297=>Ad [] r297 [] (Al [] false false ih 24 [.fv (.int .i64 11),.nils] h284 fun x298 h299 r300 w301=>Ad [(r297,[]),(r294,[]),(r290,[])] r300 w301 (Q5 ih h299 x296 x298 x28))
def Rz (r290:AI) (x289:IV) (h284:Hp) (ih:Aa) (x28:IV):OH :=
 Ad [] r290 [] (A6 3 x289 (.fv (.int .i64 1)) fun x291=>Ac 2 x291 fun x292=>Ae x292 h284 fun x293 r294=>Ad [] r294 [] (Ql x293 h284 ih r294 r290 x28))
def QP (h484:Hp) (x495 x28:IV):OH :=
 Ai 3 x495 h484 fun x496 _=>Aj 3 x28 x496 h484 fun h498 _ _=>Av true 3 x28 h498 fun x501=>An [x501] h498
def SZ (h484:Hp) (x488 x28:IV):OH :=
 Ae x488 h484 fun x489 _=>A6 3 x489 (.fv (.int .i64 1)) fun x491=>Ac 2 x491 fun x492=>Ae x492 h484 fun x493 _=>A6 3 x493 (.fv (.int .i64 0)) fun x495=>QP h484 x495 x28
def Qy (h484:Hp) (x28 x502:IV):OH :=
 Aj 3 x28 x502 h484 fun h504 _ _=>Av true 3 x28 h504 fun x507=>An [x507] h504
def RL (h479:Hp) (x391:IV) (ih:Aa) (x433 x478 x29 x28:IV):OH :=
 Ab x391 true h479 (fun k482=>Al [] false false ih 37 [x433,x478] h479 k482) fun x483 h484 r485 w486=>Ad [] r485 w486 (AF x391 x483 (.fv (.bool false)) fun x487=>Am x487 (Ac 2 x29 fun x488=>SZ h484 x488 x28) (Ai 3 x29 h484 fun x502 _=>Qy h484 x28 x502))
def P9 (h459:Hp) (x391 x458:IV) (r435 w436 r422 w423 r403 w404:AI) (ih:Aa) (x433 x29 x28:IV):OH :=
 Ab x391 true h459 (fun k462=>Ae x458 h459 fun x463 r464=>k462 x463 h459 r464 []) fun x465 h466 r467 w468=>Ad [(r435,w436),(r422,w423),(r403,w404)] r467 w468 (Ab x391 true h466 (fun k469=>A6 3 x465 (.fv (.int .i64 0)) fun x470=>k469 x470 h466 [] []) fun x471 h472 _ _=>Ab x391 true h472 (fun k475=>Ai 3 x471 h472 fun x476 r477=>k475 x476 h472 r477 []) fun x478 h479 r480 w481=>Ad [(r435,w436),(r422,w423),(r403,w404)] r480 w481 (RL h479 x391 ih x433 x478 x29 x28))
def RM (h434:Hp) (x391 x29:IV) (r435 w436 r422 w423 r403 w404:AI) (ih:Aa) (x433 x28:IV):OH :=
 Ab x391 true h434 (fun k437=>Ac 2 x29 fun x438=>k437 x438 h434 [] []) fun x439 h440 _ _=>Ab x391 true h440 (fun k443=>Ae x439 h440 fun x444 r445=>k443 x444 h440 r445 []) fun x446 h447 r448 w449=>Ad [(r435,w436),(r422,w423),(r403,w404)] r448 w449 (Ab x391 true h447 (fun k450=>A6 3 x446 (.fv (.int .i64 2)) fun x451=>k450 x451 h447 [] []) fun x452 h453 _ _=>Ab x391 true h453 (fun k456=>Ac 2 x452 fun x457=>k456 x457 h453 [] []) fun x458 h459 _ _=>P9 h459 x391 x458 r435 w436 r422 w423 r403 w404 ih x433 x29 x28)
def SB (h414:Hp) (x391 x413 x29:IV) (r403 w404:AI) (ih:Aa) (x28:IV):OH :=
 Ab x391 true h414 (fun k417=>Ae x413 h414 fun x418 r419=>k417 x418 h414 r419 []) fun x420 h421 r422 w423=>Ad [] r422 w423 (Ab x391 true h421 (fun k424=>A6 3 x420 (.fv (.int .i64 0)) fun x425=>k424 x425 h421 [] []) fun x426 h427 _ _=>Ab x391 true h427 (fun k430=>Ai 3 x426 h427 fun x431 r432=>k430 x431 h427 r432 []) fun x433 h434 r435 w436=>Ad [] r435 w436 (RM h434 x391 x29 r435 w436 r422 w423 r403 w404 ih x433 x28))
def Sv (h388:Hp) (x391 x29:IV) (ih:Aa) (x28:IV):OH :=
 Ab x391 true h388 (fun k392=>Ac 2 x29 fun x393=>k392 x393 h388 [] []) fun x394 h395 _ _=>Ab x391 true h395 (fun k398=>Ae x394 h395 fun x399 r400=>k398 x399 h395 r400 []) fun x401 h402 r403 w404=>Ad [] r403 w404 (Ab x391 true h402 (fun k405=>A6 3 x401 (.fv (.int .i64 1)) fun x406=>k405 x406 h402 [] []) fun x407 h408 _ _=>Ab x391 true h408 (fun k411=>Ac 2 x407 fun x412=>k411 x412 h408 [] []) fun x413 h414 _ _=>SB h414 x391 x413 x29 r403 w404 ih x28)
def Rq (h369:Hp) (x352 x368 x29:IV) (ih:Aa) (x28:IV):OH :=
 Ab x352 true h369 (fun k372=>Ac 0 x368 fun x373=>k372 x373 h369 [] []) fun x374 h375 _ _=>Ab x352 true h375 (fun k378=>Ae x374 h375 fun x379 r380=>k378 x379 h375 r380 []) fun x381 h382 r383 w384=>Ad [] r383 w384 (Ab x352 true h382 (fun k385=>A5 EE 3 x381 (.fv (.int .i64 9)) fun x386=>k385 x386 h382 [] []) fun x387 h388 _ _=>AF x352 x387 (.fv (.bool false)) fun x391=>Sv h388 x391 x29 ih x28)
def SE (x313 x348:IV) (h349:Hp) (x29:IV) (ih:Aa) (x28:IV):OH :=
 AF x313 x348 (.fv (.bool false)) fun x352=>Ab x352 true h349 (fun k353=>Ac 2 x29 fun x354=>k353 x354 h349 [] []) fun x355 h356 _ _=>Ab x352 true h356 (fun k359=>Ae x355 h356 fun x360 r361=>k359 x360 h356 r361 []) fun x362 h363 r364 w365=>Ad [] r364 w365 (Ab x352 true h363 (fun k366=>A6 3 x362 (.fv (.int .i64 2)) fun x367=>k366 x367 h363 [] []) fun x368 h369 _ _=>Rq h369 x352 x368 x29 ih x28)
def Qv (h324:Hp) (x313 x323 x29:IV) (ih:Aa) (x28:IV):OH :=
 Ab x313 true h324 (fun k327=>A6 3 x323 (.fv (.int .i64 1)) fun x328=>k327 x328 h324 [] []) fun x329 h330 _ _=>Ab x313 true h330 (fun k333=>Ac 0 x329 fun x334=>k333 x334 h330 [] []) fun x335 h336 _ _=>Ab x313 true h336 (fun k339=>Ae x335 h336 fun x340 r341=>k339 x340 h336 r341 []) fun x342 h343 r344 w345=>Ad [] r344 w345 (Ab x313 true h343 (fun k346=>A5 EE 3 x342 (.fv (.int .i64 8)) fun x347=>k346 x347 h343 [] []) fun x348 h349 _ _=>SE x313 x348 h349 x29 ih x28)
def R0 (r312:AI) (x311:IV) (h284:Hp) (x29:IV) (ih:Aa) (x28:IV):OH :=
 Ad [] r312 [] (A5 EE 3 x311 (.fv (.int .i64 7)) fun x313=>Ab x313 true h284 (fun k314=>Ac 2 x29 fun x315=>k314 x315 h284 [] []) fun x316 h317 _ _=>Ab x313 true h317 (fun k320=>Ae x316 h317 fun x321 r322=>k320 x321 h317 r322 []) fun x323 h324 r325 w326=>Ad [] r325 w326 (Qv h324 x313 x323 x29 ih x28))
def R6 (x230 x283 x29:IV) (h284:Hp) (ih:Aa) (x28 x27:IV):OH :=
 AF x230 x283 (.fv (.bool false)) fun x287=>Am x287 (Ac 2 x29 fun x288=>Ae x288 h284 fun x289 r290=>Rz r290 x289 h284 ih x28) (Ac 0 x27 fun x310=>Ae x310 h284 fun x311 r312=>R0 r312 x311 h284 x29 ih x28)
def RG (h266:Hp) (x230 x265:IV) (ih:Aa) (x29 x28 x27:IV):OH :=
 Ab x230 true h266 (fun k269=>Ai 3 x265 h266 fun x270 r271=>k269 x270 h266 r271 []) fun x272 h273 r274 w275=>Ad [] r274 w275 (Ab x230 true h273 (fun k276=>Al [] false false ih 54 [x272,.fv (.int .i64 0)] h273 k276) fun x277 h278 r279 w280=>Ad [] r279 w280 (Ab x230 true h278 (fun k281=>CF (Lz .not x277) fun x282=>k281 x282 h278 [] []) fun x283 h284 _ _=>R6 x230 x283 x29 h284 ih x28 x27))
def P5 (h241:Hp) (x230 x240:IV) (ih:Aa) (x29 x28 x27:IV):OH :=
 Ab x230 true h241 (fun k244=>A6 3 x240 (.fv (.int .i64 1)) fun x245=>k244 x245 h241 [] []) fun x246 h247 _ _=>Ab x230 true h247 (fun k250=>Ac 2 x246 fun x251=>k250 x251 h247 [] []) fun x252 h253 _ _=>Ab x230 true h253 (fun k256=>Ae x252 h253 fun x257 r258=>k256 x257 h253 r258 []) fun x259 h260 r261 w262=>Ad [] r261 w262 (Ab x230 true h260 (fun k263=>A6 3 x259 (.fv (.int .i64 0)) fun x264=>k263 x264 h260 [] []) fun x265 h266 _ _=>RG h266 x230 x265 ih x29 x28 x27)
def Rj (r228 w229:AI) (x174 x226:IV) (h227:Hp) (x29:IV) (ih:Aa) (x28 x27:IV):OH :=
 Ad [] r228 w229 (AF x174 x226 (.fv (.bool false)) fun x230=>Ab x230 true h227 (fun k231=>Ac 2 x29 fun x232=>k231 x232 h227 [] []) fun x233 h234 _ _=>Ab x230 true h234 (fun k237=>Ae x233 h234 fun x238 r239=>k237 x238 h234 r239 []) fun x240 h241 r242 w243=>Ad [] r242 w243 (P5 h241 x230 x240 ih x29 x28 x27))
def Ry (h210:Hp) (x174 x209:IV) (ih:Aa) (r205 w206 r186 w187:AI) (x29 x28 x27:IV):OH :=
 Ab x174 true h210 (fun k213=>Ai 3 x209 h210 fun x214 r215=>k213 x214 h210 r215 []) fun x216 h217 r218 w219=>Ad [] r218 w219 (Ab x174 true h217 (fun k220=>Al [] false false ih 26 [.fv (.int .i64 0)] h217 k220) fun x221 h222 r223 w224=>Ad [(r218,w219),(r205,w206),(r186,w187)] r223 w224 (Ab x174 true h222 (fun k225=>Al [] false false ih 37 [x216,x221] h222 k225) fun x226 h227 r228 w229=>Rj r228 w229 x174 x226 h227 x29 ih x28 x27))
def Sf (h185:Hp) (x174 x184:IV) (ih:Aa) (r186 w187:AI) (x29 x28 x27:IV):OH :=
 Ab x174 true h185 (fun k188=>A6 3 x184 (.fv (.int .i64 1)) fun x189=>k188 x189 h185 [] []) fun x190 h191 _ _=>Ab x174 true h191 (fun k194=>Ac 2 x190 fun x195=>k194 x195 h191 [] []) fun x196 h197 _ _=>Ab x174 true h197 (fun k200=>Ae x196 h197 fun x201 r202=>k200 x201 h197 r202 []) fun x203 h204 r205 w206=>Ad [] r205 w206 (Ab x174 true h204 (fun k207=>A6 3 x203 (.fv (.int .i64 1)) fun x208=>k207 x208 h204 [] []) fun x209 h210 _ _=>Ry h210 x174 x209 ih r205 w206 r186 w187 x29 x28 x27)
def Sp (h165:Hp) (x135 x164 x29:IV) (ih:Aa) (x28 x27:IV):OH :=
 Ab x135 true h165 (fun k168=>A5 EE 3 x164 (.fv (.int .i64 5)) fun x169=>k168 x169 h165 [] []) fun x170 h171 _ _=>AF x135 x170 (.fv (.bool false)) fun x174=>Ab x174 true h171 (fun k175=>Ac 2 x29 fun x176=>k175 x176 h171 [] []) fun x177 h178 _ _=>Ab x174 true h178 (fun k181=>Ae x177 h178 fun x182 r183=>k181 x182 h178 r183 []) fun x184 h185 r186 w187=>Ad [] r186 w187 (Sf h185 x174 x184 ih r186 w187 x29 x28 x27)
def SK (r147 w148:AI) (h146:Hp) (x135 x145 x29:IV) (ih:Aa) (x28 x27:IV):OH :=
 Ad [] r147 w148 (Ab x135 true h146 (fun k149=>A6 3 x145 (.fv (.int .i64 1)) fun x150=>k149 x150 h146 [] []) fun x151 h152 _ _=>Ab x135 true h152 (fun k155=>Ac 0 x151 fun x156=>k155 x156 h152 [] []) fun x157 h158 _ _=>Ab x135 true h158 (fun k161=>Ae x157 h158 fun x162 r163=>k161 x162 h158 r163 []) fun x164 h165 r166 w167=>Ad [] r166 w167 (Sp h165 x135 x164 x29 ih x28 x27))
def RU (h26:Hp) (x132 x29:IV) (ih:Aa) (x28 x27:IV):OH :=
 Ae x132 h26 fun x133 r134=>Ad [] r134 [] (A5 EE 3 x133 (.fv (.int .i64 4)) fun x135=>Ab x135 true h26 (fun k136=>Ac 2 x29 fun x137=>k136 x137 h26 [] []) fun x138 h139 _ _=>Ab x135 true h139 (fun k142=>Ae x138 h139 fun x143 r144=>k142 x143 h139 r144 []) fun x145 h146 r147 w148=>SK r147 w148 h146 x135 x145 x29 ih x28 x27)
def SH (h26:Hp) (x31 x30 x27:IV) (ih:Aa) (x29:IV) (h1:Hp) (x28:IV) (q24:List IV→Hp→OH):OH :=
 Ae x31 h26 fun x32 _=>BQ x32 fun x34=>GQ EE 3 x30 x34 fun x35=>Am x35 (Ac 2 x27 fun x36=>Q8 h26 x36 x30 ih x29 h1 x27 x28 q24) (Ac 0 x27 fun x132=>RU h26 x132 x29 ih x28 x27)
def IL (l25:List IV) (h26:Hp) (ih:Aa) (h1:Hp) (q24:List IV→Hp→OH):OH :=
 Aw l25 fun x27 l508=>Aw l508 fun x28 l509=>Aw l509 fun x29 l510=>Aw l510 fun x30 _=>Ac 2 x27 fun x31=>SH h26 x31 x30 x27 ih x29 h1 x28 q24
def S7 (x11 x14:IV) (h7 h1:Hp) (x2 x6:IV) (n:Nat) (ih:Aa):OH :=
 Bx [.fv (.int .i64 0),.fv (.int .i64 0),.nils] [(0,1,x11),(1,1,x14)] fun x16=>AH 39846917 (.row [.fv (.int .i64 0),.fv (.int .i64 0),.nils] false) (.ptr (.own 39846917) 0) h7 fun x17 h18 _ _=>Aj 3 x17 x16 h18 fun h21 _ _=>Bg (h1.own.map (·.1)) [39851014,39854084] [x2,x6,x17,.fv (.int .i64 0)] h21 fun h512=>BE n (fun q24 l25 h26=>IL l25 h26 ih h1 q24) [x2,x6,x17,.fv (.int .i64 0)] h512
def S38 (ih:Aa) (n:Nat) (x0:IV) (h1:Hp):OH :=
 A1 39845888 x0 h1 fun x2 h3 _ _=>AH 39845889 (.row [.fv (.int .i64 0),.fv (.int .i64 0),.nils] false) (.ptr (.own 39845889) 0) h3 fun x6 h7 _ _=>Ac 0 x2 fun x10=>Ae x10 h7 fun x11 _=>Ac 1 x2 fun x13=>Ae x13 h7 fun x14 _=>S7 x11 x14 h7 h1 x2 x6 n ih
theorem AnR (ih:Aa) (n:Nat) (x0:IV) (h1:Hp):Ax EE ih ft.get n 38 [x0] h1=S38 ih n x0 h1:=by kernel_rfl
def Ahk (h22:Hp) (x6 x26:IV):OH :=
 Aj 4 x6 x26 h22 fun h27 _ _=>Av true 4 x6 h27 fun x30=>An [x30] h27
def AgC (ih:Aa) (h22:Hp) (x31 x6:IV):OH :=
 Al [] false false ih 56 [x31] h22 fun x33 h34 _ _=>Bx [.fv (.int .i64 0),.fv (.int .i64 0),.nils,.fv (.int .i64 0)] [(0,3,x33)] fun x37=>Aj 4 x6 x37 h34 fun h38 _ _=>Av true 4 x6 h38 fun x41=>An [x41] h38
def AhI (h13:Hp) (x16 x17 x6:IV) (ih:Aa):OH :=
 AH 40895493 (.row [.fv (.int .i64 0),.fv (.int .i64 0),.nils] false) (.ptr (.own 40895493) 0) h13 fun x18 h19 _ _=>Aj 3 x18 x16 h19 fun h22 _ _=>Gy EE 37 x17 (.fv (.int .i64 0)) fun x25=>Am x25 (Bx [.fv (.int .i64 0),.fv (.int .i64 0),.nils,.fv (.int .i64 0)] [(3,1,x17)] fun x26=>Ahk h22 x6 x26) (Ai 3 x18 h22 fun x31 _=>AgC ih h22 x31 x6)
def S39 (ih:Aa) (n:Nat) (x0:IV) (h1:Hp):OH :=
 A1 40894464 x0 h1 fun x2 h3 _ _=>AH 40894465 (.row [.fv (.int .i64 0),.fv (.int .i64 0),.nils,.fv (.int .i64 0)] false) (.ptr (.own 40894465) 0) h3 fun x6 h7 _ _=>Ai 3 x2 h7 fun x10 _=>Al [] false false ih 55 [x10] h7 fun x12 h13 _ _=>AK 0 x12 fun x16=>AK 1 x12 fun x17=>AhI h13 x16 x17 x6 ih
theorem Amc (ih:Aa) (n:Nat) (x0:IV) (h1:Hp):Ax EE ih ft.get n 39 [x0] h1=S39 ih n x0 h1:=by kernel_rfl
def AfV (ih:Aa) (h8:Hp) (x12 x15:IV):OH :=
 Al [] false false ih 57 [x12,x15] h8 fun x17 h18 _ _=>An [x17] h18
def S40 (ih:Aa) (n:Nat) (x0 x1:IV) (h2:Hp):OH :=
 A1 41943040 x0 h2 fun x3 h4 _ _=>A1 41943041 x1 h4 fun x7 h8 _ _=>Ac 0 x3 fun x11=>Ai 3 x11 h8 fun x12 _=>Ac 0 x7 fun x14=>Ai 3 x14 h8 fun x15 _=>AfV ih h8 x12 x15
theorem Ams (ih:Aa) (n:Nat) (x0 x1:IV) (h2:Hp):Ax EE ih ft.get n 40 [x0,x1] h2=S40 ih n x0 x1 h2:=by kernel_rfl
def Ep (h20:Hp) (x5:IV):OH :=
 Bx [.fv (.int .i64 0),.fv (.int .i64 0),.nils] [] fun x26=>Aj 3 x5 x26 h20 fun h27 _ _=>Av true 3 x5 h27 fun x30=>An [x30] h27
def EG (ih:Aa) (h20:Hp) (x41 x5:IV):OH :=
 Al [] false false ih 26 [x41] h20 fun x42 h43 _ _=>Aj 3 x5 x42 h43 fun h46 _ _=>Av true 3 x5 h46 fun x49=>An [x49] h46
def EQ (x2 x1:IV) (h20:Hp) (ih:Aa) (x5:IV):OH :=
 Bd EE 3 x2 (.fv (.int .i64 1)) fun x36=>AE x1 fun x37=>Ac 1 x37 fun x38=>Ae x38 h20 fun x39 _=>Bd EE 3 x36 x39 fun x41=>EG ih h20 x41 x5
def Ey (h4 h126:Hp) (x98 x99 x100 x101 x102 x103 x129:IV) (q66:List IV→Hp→OH):OH :=
 Bg (h4.own.map (·.1)) [43011077,43013131] [x98,x99,x100,x101,x102,x103,x129] h126 fun h130=>q66 [x98,x99,x100,x101,x102,x103,x129] h130
def Ez (r123 w124:AI) (x103:IV) (h122:Hp) (x121 x104:IV) (h4:Hp) (x98 x99 x100 x101 x102:IV) (q66:List IV→Hp→OH):OH :=
 Ad [] r123 w124 (Ac 2 x103 fun x125=>BA x125 x121 h122 fun h126 r127 w128=>Ad [] r127 w128 (BD EE 3 x104 (.fv (.int .i64 1)) fun x129=>Ey h4 h126 x98 x99 x100 x101 x102 x103 x129 q66))
def Ej (ih:Aa) (h107:Hp) (x98 x106 x111 x112:IV) (r110:AI) (x109 x103 x104:IV) (h4:Hp) (x99 x100 x101 x102:IV) (q66:List IV→Hp→OH):OH :=
 Al [true,false,false,false] false false ih 41 [x98,x106,x111,x112] h107 fun x113 h114 r115 w116=>Ad [(r110,[])] r115 w116 (Az (Ak EE 29 1 [(0,x113)]) 43013130 h114 fun x117 h118 r119 w120=>Ad [(r110,[])] r119 w120 (Az (AW EE 43013131 false .append [29,29] [x109,x117]) 43013131 h118 fun x121 h122 r123 w124=>Ez r123 w124 x103 h122 x121 x104 h4 x98 x99 x100 x101 x102 q66))
def GT (x103:IV) (h107:Hp) (x100 x105 x101:IV) (ih:Aa) (x98 x106 x104:IV) (h4:Hp) (x99 x102:IV) (q66:List IV→Hp→OH):OH :=
 Ac 2 x103 fun x108=>Ae x108 h107 fun x109 r110=>Ad [] r110 [] (BD EE 3 x100 x105 fun x111=>BD EE 3 x101 (.fv (.int .i64 1)) fun x112=>Ej ih h107 x98 x106 x111 x112 r110 x109 x103 x104 h4 x99 x100 x101 x102 q66)
def EI (h4 h162:Hp) (x139 x140 x141 x142 x143 x144 x145 x146 x147 x161 x165:IV) (q136:List IV→Hp→OH):OH :=
 Bg (h4.own.map (·.1)) [43011077] [x139,x140,x141,x142,x143,x144,x145,x146,x147,x161,x165] h162 fun h166=>q136 [x139,x140,x141,x142,x143,x144,x145,x146,x147,x161,x165] h166
def Ew (x151:IV) (h138:Hp) (ih:Aa) (x148 x149:IV) (h4:Hp) (x139 x140 x141 x142 x143 x144 x145 x146 x147:IV) (q136:List IV→Hp→OH):OH :=
 Bx [.fv (.int .i64 0),.fv (.int .i64 0),.nils,.nils,.fv (.int .i64 0),.fv (.int .i64 0),.nils] [(0,1,.fv (.int .i64 1)),(1,1,x151)] fun x152=>fzS (JI true 43011077 x152) 43011077 x152 h138 fun x153 h154 _ _=>Az (Ak EE 87 1 [(0,x153)]) 43011078 h154 fun x157 h158 _ _=>Al [] false false ih 58 [x148,x157] h158 fun x161 h162 _ _=>BD EE 3 x149 (.fv (.int .i64 1)) fun x165=>EI h4 h162 x139 x140 x141 x142 x143 x144 x145 x146 x147 x161 x165 q136
def EP (x167:IV) (h138:Hp) (ih:Aa) (x139 x148:IV) (j9_97:IV→IV→IV→IV→IV→IV→IV→IV→IV→Hp→OH) (x140 x141 x142 x143 x144 x145 x146:IV):OH :=
 Ac 4 x167 fun x168=>Ai 3 x168 h138 fun x169 _=>Al [true,false,false] false false ih 42 [x139,x169,x148] h138 fun x171 h172 _ _=>j9_97 x139 x140 x141 x142 x143 x144 x145 x146 x171 h172
def EL (l184:List IV) (x146 x141:IV) (h138:Hp) (ih:Aa) (x148:IV) (h4:Hp) (x139 x140 x142 x143 x144 x145 x147:IV) (q136:List IV→Hp→OH) (j9_97:IV→IV→IV→IV→IV→IV→IV→IV→IV→Hp→OH):OH :=
 Aw l184 fun x149 _=>GQ EE 3 x149 x146 fun x150=>Am x150 (BD EE 3 x141 x149 fun x151=>Ew x151 h138 ih x148 x149 h4 x139 x140 x141 x142 x143 x144 x145 x146 x147 q136) (AE x147 fun x167=>EP x167 h138 ih x139 x148 j9_97 x140 x141 x142 x143 x144 x145 x146)
def Eu (l179:List IV) (x141:IV) (h138:Hp) (ih:Aa) (h4:Hp) (x139 x140 x142 x143:IV) (q136:List IV→Hp→OH) (j9_97:IV→IV→IV→IV→IV→IV→IV→IV→IV→Hp→OH):OH :=
 Aw l179 fun x144 l180=>Aw l180 fun x145 l181=>Aw l181 fun x146 l182=>Aw l182 fun x147 l183=>Aw l183 fun x148 l184=>EL l184 x146 x141 h138 ih x148 h4 x139 x140 x142 x143 x144 x145 x147 q136 j9_97
def GZ (l137:List IV) (h138:Hp) (ih:Aa) (h4:Hp) (q136:List IV→Hp→OH) (j9_97:IV→IV→IV→IV→IV→IV→IV→IV→IV→Hp→OH):OH :=
 Aw l137 fun x139 l175=>Aw l175 fun x140 l176=>Aw l176 fun x141 l177=>Aw l177 fun x142 l178=>Aw l178 fun x143 l179=>Eu l179 x141 h138 ih h4 x139 x140 x142 x143 q136 j9_97
def El (h87:Hp) (x133:IV) (h4:Hp) (x69 x70 x71 x72 x73 x74 x75 x86 x95:IV) (n:Nat) (ih:Aa) (j9_97:IV→IV→IV→IV→IV→IV→IV→IV→IV→Hp→OH):OH :=
 Ae x133 h87 fun x134 _=>Bg (h4.own.map (·.1)) [43011077] [x69,x70,x71,x72,x73,x74,x75,x86,x95,x134,.fv (.int .i64 0)] h87 fun h186=>BE n (fun q136 l137 h138=>GZ l137 h138 ih h4 q136 j9_97) [x69,x70,x71,x72,x73,x74,x75,x86,x95,x134,.fv (.int .i64 0)] h186
def EM (x131 x95:IV) (h87 h4:Hp) (x69 x70 x71 x72 x73 x74 x75 x86:IV) (n:Nat) (ih:Aa) (j9_97:IV→IV→IV→IV→IV→IV→IV→IV→IV→Hp→OH):OH :=
 Am x131 (AE x95 fun x132=>Ac 3 x132 fun x133=>El h87 x133 h4 x69 x70 x71 x72 x73 x74 x75 x86 x95 n ih j9_97) (j9_97 x69 x70 x71 x72 x73 x74 x75 x86 x95 h87)
def EC (h87:Hp) (x91 x75:IV) (ih:Aa) (h4:Hp) (q66:List IV→Hp→OH) (x86 x69 x70 x71 x72 x73 x74:IV) (n:Nat):OH :=
 Ae x91 h87 fun x92 _=>A6 1 x92 x75 fun x94=>Ae x94 h87 fun x95 _=>(fun (j9_97:IV→IV→IV→IV→IV→IV→IV→IV→IV→Hp→OH)=>Mk EE 3 x86 (.fv (.int .i64 0)) fun x131=>EM x131 x95 h87 h4 x69 x70 x71 x72 x73 x74 x75 x86 n ih j9_97) fun x98 x99 x100 x101 x102 x103 x104 x105 x106 h107=>GT x103 h107 x100 x105 x101 ih x98 x106 x104 h4 x99 x102 q66
def EK (x82:IV) (h68:Hp) (ih:Aa) (x75 x70:IV) (h4:Hp) (q66:List IV→Hp→OH) (x69 x71 x72 x73 x74:IV) (n:Nat):OH :=
 Ac 0 x82 fun x83=>Ae x83 h68 fun x84 _=>Al [] false false ih 51 [x84,x75] h68 fun x86 h87 _ _=>AE x70 fun x90=>Ac 2 x90 fun x91=>EC h87 x91 x75 ih h4 q66 x86 x69 x70 x71 x72 x73 x74 n
def EA (h68:Hp) (x73 x187:IV):OH :=
 Aj 3 x73 x187 h68 fun h189 _ _=>Av true 3 x73 h189 fun x192=>An [x192] h189
def EF (x78 x75 x70:IV) (h68:Hp) (ih:Aa) (h4:Hp) (q66:List IV→Hp→OH) (x69 x71 x72 x73 x74:IV) (n:Nat):OH :=
 BQ x78 fun x80=>GQ EE 3 x75 x80 fun x81=>Am x81 (AE x70 fun x82=>EK x82 h68 ih x75 x70 h4 q66 x69 x71 x72 x73 x74 n) (Ai 3 x74 h68 fun x187 _=>EA h68 x73 x187)
def EH (l197:List IV) (x70:IV) (h68:Hp) (ih:Aa) (h4:Hp) (q66:List IV→Hp→OH) (x69 x71 x72 x73:IV) (n:Nat):OH :=
 Aw l197 fun x74 l198=>Aw l198 fun x75 _=>AE x70 fun x76=>Ac 2 x76 fun x77=>Ae x77 h68 fun x78 _=>EF x78 x75 x70 h68 ih h4 q66 x69 x71 x72 x73 x74 n
def E8 (l67:List IV) (h68:Hp) (ih:Aa) (h4:Hp) (q66:List IV→Hp→OH) (n:Nat):OH :=
 Aw l67 fun x69 l193=>Aw l193 fun x70 l194=>Aw l194 fun x71 l195=>Aw l195 fun x72 l196=>Aw l196 fun x73 l197=>EH l197 x70 h68 ih h4 q66 x69 x71 x72 x73 n
def Er (r61 w62 r57 r53:AI) (h60:Hp) (x59 x58:IV) (h4:Hp) (x0 x1 x2 x3 x5:IV) (n:Nat) (ih:Aa):OH :=
 Ad [(r57,[]),(r53,[])] r61 w62 (Aj 3 x59 x58 h60 fun h63 r64 w65=>Ad [] r64 w65 (Bg (h4.own.map (·.1)) [43011077,43013131] [x0,x1,x2,x3,x5,x59,.fv (.int .i64 0)] h63 fun h200=>BE n (fun q66 l67 h68=>E8 l67 h68 ih h4 q66 n) [x0,x1,x2,x3,x5,x59,.fv (.int .i64 0)] h200))
def En (x54:IV) (h20:Hp) (r53:AI) (x52:IV) (h4:Hp) (x0 x1 x2 x3 x5:IV) (n:Nat) (ih:Aa):OH :=
 Ac 1 x54 fun x55=>Ae x55 h20 fun x56 r57=>Ad [(r53,[])] r57 [] (Bx [.fv (.int .i64 0),.fv (.int .i64 0),.nils] [(0,1,x52),(1,1,x56)] fun x58=>AH 42999817 (.row [.fv (.int .i64 0),.fv (.int .i64 0),.nils] false) (.ptr (.own 42999817) 0) h20 fun x59 h60 r61 w62=>Er r61 w62 r57 r53 h60 x59 x58 h4 x0 x1 x2 x3 x5 n ih)
def Em (x1:IV) (h20 h4:Hp) (x0 x2 x3 x5:IV) (n:Nat) (ih:Aa):OH :=
 AE x1 fun x50=>Ac 0 x50 fun x51=>Ae x51 h20 fun x52 r53=>Ad [] r53 [] (AE x1 fun x54=>En x54 h20 r53 x52 h4 x0 x1 x2 x3 x5 n ih)
def EN (x1:IV) (h20:Hp) (x2:IV) (ih:Aa) (x5:IV) (h4:Hp) (x0 x3:IV) (n:Nat):OH :=
 AE x1 fun x31=>Ac 0 x31 fun x32=>Ae x32 h20 fun x33 _=>A5 EE 3 x33 (.fv (.int .i64 1)) fun x35=>Am x35 (EQ x2 x1 h20 ih x5) (Em x1 h20 h4 x0 x2 x3 x5 n ih)
def EJ (x0:IV) (h20:Hp) (x5 x1 x2:IV) (ih:Aa) (h4:Hp) (x3:IV) (n:Nat):OH :=
 AE x0 fun x21=>Ac 2 x21 fun x22=>Ae x22 h20 fun x23 _=>Gy EE 3 x23 (.fv (.int .i64 0)) fun x25=>Am x25 (Ep h20 x5) (EN x1 h20 x2 ih x5 h4 x0 x3 n)
def Es (x259:IV) (h255:Hp) (j0_19:Hp→OH):OH :=
 Ac 2 x259 fun x260=>BA x260 (.fv (.int .i64 5)) h255 fun h261 _ _=>j0_19 h261
def EB (h249:Hp) (x205 x237 x248 x0:IV) (j0_19:Hp→OH):OH :=
 Ab x205 true h249 (fun k252=>AF x237 (.fv (.bool true)) x248 fun x253=>k252 x253 h249 [] []) fun x254 h255 _ _=>AF x205 x254 (.fv (.bool false)) fun x258=>Am x258 (AE x0 fun x259=>Es x259 h255 j0_19) (j0_19 h255)
def Ek (h220:Hp) (x205 x219 x3 x0:IV) (j0_19:Hp→OH):OH :=
 Ab x205 true h220 (fun k223=>Ae x219 h220 fun x224 r225=>k223 x224 h220 r225 []) fun x226 h227 _ _=>Ab x205 true h227 (fun k230=>Mk EE 3 x226 (.fv (.int .i64 3000)) fun x231=>k230 x231 h227 [] []) fun x232 h233 _ _=>Ab x205 true h233 (fun k236=>k236 x232 h233 [] []) fun x237 h238 _ _=>Ab x237 false h238 (fun k241=>k241 x3 h238 [] []) fun x242 h243 _ _=>Ab x237 false h243 (fun k246=>Mk EE 3 x242 (.fv (.int .i64 120)) fun x247=>k246 x247 h243 [] []) fun x248 h249 _ _=>EB h249 x205 x237 x248 x0 j0_19
def ED (h16:Hp) (x202 x0 x3:IV) (j0_19:Hp→OH):OH :=
 Ae x202 h16 fun x203 _=>A5 EE 3 x203 (.fv (.int .i64 0)) fun x205=>Ab x205 true h16 (fun k206=>k206 x0 h16 [] []) fun x207 h208 _ _=>Ab x205 true h208 (fun k211=>AE x207 fun x212=>k211 x212 h208 [] []) fun x213 h214 _ _=>Ab x205 true h214 (fun k217=>Ac 1 x213 fun x218=>k217 x218 h214 [] []) fun x219 h220 _ _=>Ek h220 x205 x219 x3 x0 j0_19
def Et (x14:IV) (h6:Hp) (x13 x0 x5 x1 x2:IV) (ih:Aa) (h4:Hp) (x3:IV) (n:Nat):OH :=
 Ac 1 x14 fun x15=>BA x15 x13 h6 fun h16 _ _=>(fun (j0_19:Hp→OH)=>AE x0 fun x201=>Ac 2 x201 fun x202=>ED h16 x202 x0 x3 j0_19) fun h20=>EJ x0 h20 x5 x1 x2 ih h4 x3 n
def S41 (ih:Aa) (n:Nat) (x0 x1 x2 x3:IV) (h4:Hp):OH :=
 AH 42991616 (.row [.fv (.int .i64 0),.fv (.int .i64 0),.nils] false) (.ptr (.own 42991616) 0) h4 fun x5 h6 _ _=>AE x0 fun x9=>Ac 1 x9 fun x10=>Ae x10 h6 fun x11 _=>BD EE 3 x11 (.fv (.int .i64 1)) fun x13=>AE x0 fun x14=>Et x14 h6 x13 x0 x5 x1 x2 ih h4 x3 n
theorem AnW (ih:Aa) (n:Nat) (x0 x1 x2 x3:IV) (h4:Hp):Ax EE ih ft.get n 41 [x0,x1,x2,x3] h4=S41 ih n x0 x1 x2 x3 h4:=by kernel_rfl
def Iu (h5:Hp):OH :=
 Bx [.fv (.int .i64 0),.fv (.int .i64 0),.nils,.nils,.fv (.int .i64 0),.fv (.int .i64 0),.nils] [(0,1,.fv (.int .i64 11))] fun x13=>A1 44042241 x13 h5 fun x14 h15 _ _=>An [x14] h15
def ID (h5:Hp) (x33:IV):OH :=
 Ae x33 h5 fun x34 _=>An [x34] h5
def HQ (x27 x4:IV) (h5:Hp) (x2:IV):OH :=
 Bd EE 3 x27 (.fv (.int .i64 1)) fun x28=>Ac 1 x4 fun x29=>Ae x29 h5 fun x30 _=>Bd EE 3 x28 x30 fun x32=>A6 1 x2 x32 fun x33=>ID h5 x33
def Iz (h5:Hp) (x42:IV):OH :=
 A1 44046343 x42 h5 fun x43 h44 _ _=>An [x43] h44
def HL (x36 x4:IV) (h5:Hp):OH :=
 Bd EE 3 x36 (.fv (.int .i64 1)) fun x37=>Ac 1 x4 fun x38=>Ae x38 h5 fun x39 _=>Bd EE 3 x37 x39 fun x41=>Bx [.fv (.int .i64 0),.fv (.int .i64 0),.nils,.nils,.fv (.int .i64 0),.fv (.int .i64 0),.nils] [(0,1,.fv (.int .i64 1)),(1,1,x41)] fun x42=>Iz h5 x42
def I1 (h5:Hp) (x22 x2 x4:IV):OH :=
 Ae x22 h5 fun x23 _=>BQ x2 fun x25=>GQ EE 3 x23 x25 fun x26=>Am x26 (BQ x2 fun x27=>HQ x27 x4 h5 x2) (BQ x2 fun x36=>HL x36 x4 h5)
def Ia (x65:IV) (h3 h72:Hp) (x61 x62 x63 x64:IV) (q58:List IV→Hp→OH):OH :=
 BD EE 3 x65 (.fv (.int .i64 1)) fun x73=>Bg (h3.own.map (·.1)) [44052492,44052494,44053518] [x61,x62,x63,x64,x73] h72 fun h74=>q58 [x61,x62,x63,x64,x73] h74
def HV (x64:IV) (h103:Hp) (x102:IV) (j0_71:Hp→OH):OH :=
 AE x64 fun x106=>Ac 2 x106 fun x107=>BA x107 x102 h103 fun h108 r109 w110=>Ad [] r109 w110 (j0_71 h108)
def IY (r96 w97 r86:AI) (h95:Hp) (x94 x85 x64:IV) (j0_71:Hp→OH):OH :=
 Ad [(r86,[])] r96 w97 (Az (Ak EE 87 1 [(0,x94)]) 44052493 h95 fun x98 h99 r100 w101=>Ad [(r86,[])] r100 w101 (Az (AW EE 44052494 false .append [87,87] [x85,x98]) 44052494 h99 fun x102 h103 r104 w105=>Ad [] r104 w105 (HV x64 h103 x102 j0_71)))
def I0 (x88 x65:IV) (h79:Hp) (r86:AI) (x62 x85 x64:IV) (j0_71:Hp→OH):OH :=
 A6 3 x88 x65 fun x90=>Ai 3 x90 h79 fun x91 r92=>Ad [(r86,[])] r92 [] (Bx [.fv (.int .i64 0),.fv (.int .i64 0),.nils,.nils,.fv (.int .i64 0),.fv (.int .i64 0),.nils] [(3,1,x62),(4,3,x91)] fun x93=>A1 44052492 x93 h79 fun x94 h95 r96 w97=>IY r96 w97 r86 h95 x94 x85 x64 j0_71)
def Iq (h79:Hp) (x84 x63 x65 x62 x64:IV) (j0_71:Hp→OH):OH :=
 Ae x84 h79 fun x85 r86=>Ad [] r86 [] (Ac 2 x63 fun x87=>Ae x87 h79 fun x88 r89=>Ad [(r86,[])] r89 [] (I0 x88 x65 h79 r86 x62 x85 x64 j0_71))
def IR (x133:IV) (h130:Hp) (x129:IV) (j0_71:Hp→OH):OH :=
 Ac 2 x133 fun x134=>BA x134 x129 h130 fun h135 r136 w137=>Ad [] r136 w137 (j0_71 h135)
def Ir (h122:Hp) (x121:IV) (r114:AI) (x113 x64:IV) (j0_71:Hp→OH):OH :=
 Az (Ak EE 87 1 [(0,x121)]) 44053517 h122 fun x125 h126 r127 w128=>Ad [(r114,[])] r127 w128 (Az (AW EE 44053518 false .append [87,87] [x113,x125]) 44053518 h126 fun x129 h130 r131 w132=>Ad [] r131 w132 (AE x64 fun x133=>IR x133 h130 x129 j0_71))
def IP (x116 x65:IV) (h79:Hp) (r114:AI) (ih:Aa) (x61 x62 x113 x64:IV) (j0_71:Hp→OH):OH :=
 A6 3 x116 x65 fun x118=>Ai 3 x118 h79 fun x119 r120=>Ad [(r114,[])] r120 [] (Al [true,false,false] false false ih 42 [x61,x119,x62] h79 fun x121 h122 r123 w124=>Ad [(r114,[])] r123 w124 (Ir h122 x121 r114 x113 x64 j0_71))
def HZ (h79:Hp) (x112 x63 x65:IV) (ih:Aa) (x61 x62 x64:IV) (j0_71:Hp→OH):OH :=
 Ae x112 h79 fun x113 r114=>Ad [] r114 [] (Ac 2 x63 fun x115=>Ae x115 h79 fun x116 r117=>Ad [(r114,[])] r117 [] (IP x116 x65 h79 r114 ih x61 x62 x113 x64 j0_71))
def H8 (x82 x64:IV) (h79:Hp) (x63 x65 x62:IV) (j0_71:Hp→OH) (ih:Aa) (x61:IV):OH :=
 Am x82 (AE x64 fun x83=>Ac 2 x83 fun x84=>Iq h79 x84 x63 x65 x62 x64 j0_71) (AE x64 fun x111=>Ac 2 x111 fun x112=>HZ h79 x112 x63 x65 ih x61 x62 x64 j0_71)
def HO (x65:IV) (h3:Hp) (x61 x62 x63 x64:IV) (q58:List IV→Hp→OH) (h60:Hp) (ih:Aa):OH :=
 (fun (j0_71:Hp→OH)=>Ac 0 x63 fun x75=>Ae x75 h60 fun x76 _=>Al [] false false ih 51 [x76,x65] h60 fun x78 h79 _ _=>Mk EE 3 x78 (.fv (.int .i64 0)) fun x82=>H8 x82 x64 h79 x63 x65 x62 j0_71 ih x61) fun h72=>Ia x65 h3 h72 x61 x62 x63 x64 q58
def HP (ih:Aa) (h60:Hp) (x61 x64:IV):OH :=
 Al [true,false] false false ih 59 [x61,x64] h60 fun x138 h139 _ _=>An [x138] h139
def Ic (x63:IV) (h60:Hp) (x65:IV) (h3:Hp) (x61 x62 x64:IV) (q58:List IV→Hp→OH) (ih:Aa):OH :=
 Ac 2 x63 fun x66=>Ae x66 h60 fun x67 _=>BQ x67 fun x69=>GQ EE 3 x65 x69 fun x70=>Am x70 (HO x65 h3 x61 x62 x63 x64 q58 h60 ih) (HP ih h60 x61 x64)
def WY (l59:List IV) (h60 h3:Hp) (q58:List IV→Hp→OH) (ih:Aa):OH :=
 Aw l59 fun x61 l142=>Aw l142 fun x62 l143=>Aw l143 fun x63 l144=>Aw l144 fun x64 l145=>Aw l145 fun x65 _=>Ic x63 h60 x65 h3 x61 x62 x64 q58 ih
def IE (h3 h55:Hp) (x0 x2 x4 x54:IV) (n:Nat) (ih:Aa):OH :=
 Bg (h3.own.map (·.1)) [44052492,44052494,44053518] [x0,x2,x4,x54,.fv (.int .i64 0)] h55 fun h147=>BE n (fun q58 l59 h60=>WY l59 h60 h3 q58 ih) [x0,x2,x4,x54,.fv (.int .i64 0)] h147
def Ix (h5:Hp) (x47 x4:IV) (h3:Hp) (x0 x2:IV) (n:Nat) (ih:Aa):OH :=
 Ae x47 h5 fun x48 _=>Ac 1 x4 fun x50=>Ae x50 h5 fun x51 _=>Bx [.fv (.int .i64 0),.fv (.int .i64 0),.nils,.nils,.fv (.int .i64 0),.fv (.int .i64 0),.nils] [(0,1,x48),(1,1,x51)] fun x53=>A1 44047365 x53 h5 fun x54 h55 _ _=>IE h3 h55 x0 x2 x4 x54 n ih
def HY (x4:IV) (h5:Hp) (x2:IV) (h3:Hp) (x0:IV) (n:Nat) (ih:Aa):OH :=
 Ac 0 x4 fun x18=>Ae x18 h5 fun x19 _=>A5 EE 3 x19 (.fv (.int .i64 1)) fun x21=>Am x21 (Ac 1 x4 fun x22=>I1 h5 x22 x2 x4) (Ac 0 x4 fun x47=>Ix h5 x47 x4 h3 x0 x2 n ih)
def S42 (ih:Aa) (n:Nat) (x0 x1 x2:IV) (h3:Hp):OH :=
 A1 44040192 x1 h3 fun x4 h5 _ _=>AE x0 fun x8=>Ac 2 x8 fun x9=>Ae x9 h5 fun x10 _=>Gy EE 3 x10 (.fv (.int .i64 0)) fun x12=>Am x12 (Iu h5) (HY x4 h5 x2 h3 x0 n ih)
theorem AlF (ih:Aa) (n:Nat) (x0 x1 x2:IV) (h3:Hp):Ax EE ih ft.get n 42 [x0,x1,x2] h3=S42 ih n x0 x1 x2 h3:=by kernel_rfl
def S43 (ih:Aa) (n:Nat) (x0 x1:IV) (h2:Hp):OH :=
 CO EE 3 .rem x0 x1 fun x3=>(fun (j1_4:IV→Hp→OH)=>GQ EE 3 x3 (.fv (.int .i64 0)) fun x7=>Am x7 (BD EE 3 x3 x1 fun x8=>j1_4 x8 h2) (j1_4 x3 h2)) fun x5 h6=>An [x5] h6
theorem Anu (ih:Aa) (n:Nat) (x0 x1:IV) (h2:Hp):Ax EE ih ft.get n 43 [x0,x1] h2=S43 ih n x0 x1 h2:=by kernel_rfl
def S44 (ih:Aa) (n:Nat) (h0:Hp):OH :=
 AH 46137344 (.row [.fv (.int .i64 0),.fv (.int .i64 0),.nils] false) (.ptr (.own 46137344) 0) h0 fun x1 h2 _ _=>Al [] false false ih 24 [.fv (.int .i64 10),.nils] h2 fun x5 h6 _ _=>Aj 3 x1 x5 h6 fun h9 _ _=>Av true 3 x1 h9 fun x12=>An [x12] h9
theorem AmX (ih:Aa) (n:Nat) (h0:Hp):Ax EE ih ft.get n 44 [] h0=S44 ih n h0:=by kernel_rfl
def S45 (ih:Aa) (n:Nat) (x0:IV) (h1:Hp):OH :=
 AH 47185920 (.row [.fv (.int .i64 0),.fv (.int .i64 0),.nils] false) (.ptr (.own 47185920) 0) h1 fun x2 h3 _ _=>Bx [.fv (.int .i64 0),.fv (.int .i64 0),.nils] [(0,1,.fv (.int .i64 2)),(1,1,x0)] fun x6=>Aj 3 x2 x6 h3 fun h7 _ _=>Av true 3 x2 h7 fun x10=>An [x10] h7
theorem AlB (ih:Aa) (n:Nat) (x0:IV) (h1:Hp):Ax EE ih ft.get n 45 [x0] h1=S45 ih n x0 h1:=by kernel_rfl
def Vc (x17 x1:IV) (h8:Hp) (x7:IV):OH :=
 A6 3 x17 x1 fun x19=>Ai 3 x19 h8 fun x20 _=>Aj 3 x7 x20 h8 fun h22 _ _=>Av true 3 x7 h22 fun x25=>An [x25] h22
def UL (x1 x34 x30:IV) (h8:Hp) (x7:IV):OH :=
 CO EE 3 .mul (.fv (.int .i64 7)) x1 fun x35=>BD EE 3 x34 x35 fun x36=>Bx [.fv (.int .i64 0),.fv (.int .i64 0),.nils] [(0,1,x30),(1,1,x36)] fun x37=>Aj 3 x7 x37 h8 fun h38 _ _=>Av true 3 x7 h38 fun x41=>An [x41] h38
def Vk (x27 x1 x3:IV) (h8:Hp) (x7:IV):OH :=
 CO EE 3 .quo x27 (.fv (.int .i64 3)) fun x29=>BD EE 3 x29 x1 fun x30=>Ac 1 x3 fun x31=>Ae x31 h8 fun x32 _=>CO EE 3 .quo x32 (.fv (.int .i64 5)) fun x34=>UL x1 x34 x30 h8 x7
def Wl (x15 x3:IV) (h8:Hp) (x1 x7:IV):OH :=
 Am x15 (Ac 2 x3 fun x16=>Ae x16 h8 fun x17 _=>Vc x17 x1 h8 x7) (Ac 0 x3 fun x26=>Ae x26 h8 fun x27 _=>Vk x27 x1 x3 h8 x7)
def S46 (ih:Aa) (n:Nat) (x0 x1:IV) (h2:Hp):OH :=
 A1 48234496 x0 h2 fun x3 h4 _ _=>AH 48234497 (.row [.fv (.int .i64 0),.fv (.int .i64 0),.nils] false) (.ptr (.own 48234497) 0) h4 fun x7 h8 _ _=>Ac 2 x3 fun x11=>Ae x11 h8 fun x12 _=>BQ x12 fun x14=>GQ EE 3 x1 x14 fun x15=>Wl x15 x3 h8 x1 x7
theorem Aoe (ih:Aa) (n:Nat) (x0 x1:IV) (h2:Hp):Ax EE ih ft.get n 46 [x0,x1] h2=S46 ih n x0 x1 h2:=by kernel_rfl
def Ro (x22:IV) (h4 h27:Hp) (x16 x17 x18 x19 x20 x26:IV) (q13:List IV→Hp→OH):OH :=
 BD EE 3 x22 (.fv (.int .i64 1)) fun x28=>Bg (h4.own.map (·.1)) [49289232,49291267] [x16,x17,x18,x19,x20,x26,x28] h27 fun h29=>q13 [x16,x17,x18,x19,x20,x26,x28] h29
def SJ (h90:Hp) (x22 x21:IV) (j1_25:IV→Hp→OH):OH :=
 Az (Ak EE 92 1 [(0,x22)]) 49291266 h90 fun x94 h95 _ _=>Az (AW EE 49291267 false .append [92,92] [x21,x94]) 49291267 h95 fun x98 h99 _ _=>j1_25 x98 h99
def QS (r86 w87:AI) (h85:Hp) (x63:IV) (ih:Aa) (x72 x84 x22 x21:IV) (j1_25:IV→Hp→OH):OH :=
 Ad [] r86 w87 (Ab x63 true h85 (fun k88=>Al [] false false ih 37 [x72,x84] h85 k88) fun x89 h90 r91 w92=>Ad [] r91 w92 (AF x63 x89 (.fv (.bool false)) fun x93=>Am x93 (SJ h90 x22 x21 j1_25) (j1_25 x21 h90)))
def SD (h68:Hp) (x63:IV) (ih:Aa) (x67 x19:IV) (r69 w70:AI) (x22 x21:IV) (j1_25:IV→Hp→OH):OH :=
 Ab x63 true h68 (fun k71=>Al [] false false ih 38 [x67] h68 k71) fun x72 h73 r74 w75=>Ad [] r74 w75 (Ab x63 true h73 (fun k76=>Ai 3 x19 h73 fun x77 r78=>k76 x77 h73 r78 []) fun x79 h80 r81 w82=>Ad [(r74,w75),(r69,w70)] r81 w82 (Ab x63 true h80 (fun k83=>Al [] false false ih 38 [x79] h80 k83) fun x84 h85 r86 w87=>QS r86 w87 h85 x63 ih x72 x84 x22 x21 j1_25))
def Q0 (h51:Hp) (x54 x55:IV) (ih:Aa) (x19 x22 x21:IV) (j1_25:IV→Hp→OH):OH :=
 AH 49289232 (.row [.fv (.int .i64 0),.fv (.int .i64 0),.nils] false) (.ptr (.own 49289232) 0) h51 fun x56 h57 _ _=>Aj 3 x56 x54 h57 fun h60 _ _=>A5 EE 3 x55 (.fv (.int .i64 0)) fun x63=>Ab x63 true h60 (fun k64=>Ai 3 x56 h60 fun x65 r66=>k64 x65 h60 r66 []) fun x67 h68 r69 w70=>Ad [] r69 w70 (SD h68 x63 ih x67 x19 r69 w70 x22 x21 j1_25)
def Sb (x22:IV) (ih:Aa) (h15:Hp) (x43 x19 x21:IV) (j1_25:IV→Hp→OH):OH :=
 BD EE 3 x22 (.fv (.int .i64 1)) fun x45=>Al [] false false ih 25 [x43,x45,.fv (.int .i64 0)] h15 fun x46 h47 _ _=>Al [] false false ih 17 [x46] h47 fun x50 h51 _ _=>AK 0 x50 fun x54=>AK 1 x50 fun x55=>Q0 h51 x54 x55 ih x19 x22 x21 j1_25
def QR (x38 x22 x16:IV) (h15:Hp) (ih:Aa) (x19 x21:IV) (j1_25:IV→Hp→OH):OH :=
 Bd EE 3 x38 (.fv (.int .i64 1)) fun x39=>Bd EE 3 x39 x22 fun x40=>A6 4 x16 x40 fun x41=>Ac 1 x41 fun x42=>Ai 3 x42 h15 fun x43 _=>Sb x22 ih h15 x43 x19 x21 j1_25
def QM (x33:IV) (h15:Hp) (x17:IV) (j1_25:IV→Hp→OH) (x21 x16 x22:IV) (ih:Aa) (x19:IV):OH :=
 Ac 0 x33 fun x34=>Ae x34 h15 fun x35 _=>Gy EE 3 x35 x17 fun x37=>Am x37 (j1_25 x21 h15) (BQ x16 fun x38=>QR x38 x22 x16 h15 ih x19 x21 j1_25)
def R8 (x22:IV) (h4:Hp) (x16 x17 x18 x19 x20:IV) (q13:List IV→Hp→OH) (h15:Hp) (x21:IV) (ih:Aa):OH :=
 (fun (j1_25:IV→Hp→OH)=>BQ x16 fun x30=>Bd EE 3 x30 (.fv (.int .i64 1)) fun x31=>Bd EE 3 x31 x22 fun x32=>A6 4 x16 x32 fun x33=>QM x33 h15 x17 j1_25 x21 x16 x22 ih x19) fun x26 h27=>Ro x22 h4 h27 x16 x17 x18 x19 x20 x26 q13
def S0 (h15:Hp) (x20 x104:IV):OH :=
 Aj 3 x20 x104 h15 fun h105 _ _=>Av true 3 x20 h105 fun x108=>An [x108,.fv (.bool false)] h105
def Q9 (h121:Hp) (x20:IV):OH :=
 Av true 3 x20 h121 fun x124=>An [x124,.fv (.bool true)] h121
def SW (ih:Aa) (h15:Hp) (x18 x109 x21 x20:IV):OH :=
 Al [] false false ih 43 [x18,x109] h15 fun x110 h111 _ _=>A6 1 x21 x110 fun x114=>Ae x114 h111 fun x115 _=>Al [] false false ih 26 [x115] h111 fun x117 h118 _ _=>Aj 3 x20 x117 h118 fun h121 _ _=>Q9 h121 x20
def Qe (x21:IV) (h15:Hp) (x20:IV) (ih:Aa) (x18:IV):OH :=
 BQ x21 fun x102=>A5 EE 3 x102 (.fv (.int .i64 0)) fun x103=>Am x103 (Bx [.fv (.int .i64 0),.fv (.int .i64 0),.nils] [] fun x104=>S0 h15 x20 x104) (BQ x21 fun x109=>SW ih h15 x18 x109 x21 x20)
def Qp (l129:List IV) (x16:IV) (h4:Hp) (x17 x18 x19 x20:IV) (q13:List IV→Hp→OH) (h15:Hp) (ih:Aa):OH :=
 Aw l129 fun x21 l130=>Aw l130 fun x22 _=>BQ x16 fun x23=>GQ EE 3 x22 x23 fun x24=>Am x24 (R8 x22 h4 x16 x17 x18 x19 x20 q13 h15 x21 ih) (Qe x21 h15 x20 ih x18)
def Aa1 (l14:List IV) (h4:Hp) (q13:List IV→Hp→OH) (h15:Hp) (ih:Aa):OH :=
 Aw l14 fun x16 l125=>Aw l125 fun x17 l126=>Aw l126 fun x18 l127=>Aw l127 fun x19 l128=>Aw l128 fun x20 l129=>Qp l129 x16 h4 x17 x18 x19 x20 q13 h15 ih
def S47 (ih:Aa) (n:Nat) (x0 x1 x2 x3:IV) (h4:Hp):OH :=
 A1 49283072 x2 h4 fun x5 h6 _ _=>AH 49283073 (.row [.fv (.int .i64 0),.fv (.int .i64 0),.nils] false) (.ptr (.own 49283073) 0) h6 fun x9 h10 _ _=>Bg (h4.own.map (·.1)) [49289232,49291267] [x0,x1,x3,x5,x9,.nils,.fv (.int .i64 0)] h10 fun h132=>BE n (fun q13 l14 h15=>Aa1 l14 h4 q13 h15 ih) [x0,x1,x3,x5,x9,.nils,.fv (.int .i64 0)] h132
theorem Ann (ih:Aa) (n:Nat) (x0 x1 x2 x3:IV) (h4:Hp):Ax EE ih ft.get n 47 [x0,x1,x2,x3] h4=S47 ih n x0 x1 x2 x3 h4:=by kernel_rfl
def KY (x48 x132:IV) (h133:Hp) (x13 x127:IV):OH :=
 AF x48 x132 (.fv (.bool false)) fun x136=>Aj 3 x13 x127 h133 fun h137 _ _=>Av true 3 x13 h137 fun x140=>An [x140,x136] h137
def K4 (h106:Hp) (x109 x111 x113:IV) (ih:Aa) (x48 x78 x13:IV):OH :=
 Az (Ak EE 29 3 [(0,x109),(1,x111),(2,x113)]) 50337795 h106 fun x115 h116 _ _=>Al [] false false ih 24 [.fv (.int .i64 7),x115] h116 fun x119 h120 _ _=>Az (Ak EE 29 1 [(0,x119)]) 50337797 h120 fun x123 h124 _ _=>Al [] false false ih 24 [.fv (.int .i64 8),x123] h124 fun x127 h128 _ _=>Ab x48 true h128 (fun k131=>k131 x78 h128 [] []) fun x132 h133 _ _=>KY x48 x132 h133 x13 x127
def JC (h103:Hp) (x102 x98 x79 x49:IV) (ih:Aa) (x48 x78 x13:IV):OH :=
 Aj 3 x102 x98 h103 fun h106 r107 w108=>Ad [] r107 w108 (Ai 3 x102 h106 fun x109 _=>Ai 3 x79 h106 fun x111 _=>Ai 3 x49 h106 fun x113 _=>K4 h106 x109 x111 x113 ih x48 x78 x13)
def Kb (r96 w97:AI) (ih:Aa) (h95:Hp) (x94:IV) (r92 w93 r89 r87:AI) (x79 x49 x48 x78 x13:IV):OH :=
 Ad [] r96 w97 (Al [] false false ih 24 [.fv (.int .i64 6),x94] h95 fun x98 h99 r100 w101=>Ad [] r100 w101 (AH 50336773 (.row [.fv (.int .i64 0),.fv (.int .i64 0),.nils] false) (.ptr (.own 50336773) 0) h99 fun x102 h103 r104 w105=>Ad [(r100,w101),(r96,w97),(r92,w93),(r89,[]),(r87,[])] r104 w105 (JC h103 x102 x98 x79 x49 ih x48 x78 x13)))
def Ko (h83:Hp) (x27:IV) (r87:AI) (ih:Aa) (x86 x79 x49 x48 x78 x13:IV):OH :=
 Ai 3 x27 h83 fun x88 r89=>Ad [(r87,[])] r89 [] (Al [] false false ih 25 [x88,.fv (.int .i64 1),.fv (.int .i64 0)] h83 fun x90 h91 r92 w93=>Ad [(r87,[])] r92 w93 (Az (Ak EE 29 2 [(0,x86),(1,x90)]) 50336771 h91 fun x94 h95 r96 w97=>Kb r96 w97 ih h95 x94 r92 w93 r89 r87 x79 x49 x48 x78 x13))
def Jz (r81 w82 r75 w76 r70 w71 r67 r65:AI) (h80:Hp) (x79 x77 x5 x27:IV) (ih:Aa) (x49 x48 x78 x13:IV):OH :=
 Ad [(r75,w76),(r70,w71),(r67,[]),(r65,[])] r81 w82 (Aj 3 x79 x77 h80 fun h83 r84 w85=>Ad [] r84 w85 (Ai 3 x5 h83 fun x86 r87=>Ad [] r87 [] (Ko h83 x27 r87 ih x86 x79 x49 x48 x78 x13)))
def Kl (ih:Aa) (h69:Hp) (x0 x64 x68 x72:IV) (r70 w71 r67 r65:AI) (x5 x27 x49 x48 x13:IV):OH :=
 Al [] false false ih 23 [x0,x64,x68,x72] h69 fun x73 h74 r75 w76=>Ad [] r75 w76 (AK 0 x73 fun x77=>AK 1 x73 fun x78=>AH 50335754 (.row [.fv (.int .i64 0),.fv (.int .i64 0),.nils] false) (.ptr (.own 50335754) 0) h74 fun x79 h80 r81 w82=>Jz r81 w82 r75 w76 r70 w71 r67 r65 h80 x79 x77 x5 x27 ih x49 x48 x78 x13)
def Le (h60:Hp) (x9:IV) (r65:AI) (ih:Aa) (x3 x0 x64 x5 x27 x49 x48 x13:IV):OH :=
 Ai 3 x9 h60 fun x66 r67=>Ad [(r65,[])] r67 [] (Al [] false false ih 46 [x66,.fv (.int .i64 2)] h60 fun x68 h69 r70 w71=>Ad [(r65,[])] r70 w71 (Bd EE 3 x3 (.fv (.int .i64 2)) fun x72=>Kl ih h69 x0 x64 x68 x72 r70 w71 r67 r65 x5 x27 x49 x48 x13))
def Kr (h197:Hp) (x13 x191 x200:IV):OH :=
 Aj 3 x13 x191 h197 fun h201 r202 w203=>Ad [] r202 w203 (Av true 3 x13 h201 fun x204=>An [x204,x200] h201)
def KS (r189 w190:AI) (ih:Aa) (h188:Hp) (x187 x48 x165 x13:IV):OH :=
 Ad [] r189 w190 (Al [] false false ih 24 [.fv (.int .i64 5),x187] h188 fun x191 h192 r193 w194=>Ad [] r193 w194 (Ab x48 true h192 (fun k195=>k195 x165 h192 [] []) fun x196 h197 _ _=>AF x48 x196 (.fv (.bool false)) fun x200=>Kr h197 x13 x191 x200))
def JV (ih:Aa) (h178:Hp) (x177 x49:IV) (r179 w180 r176 r174:AI) (x48 x165 x13:IV):OH :=
 Al [] false false ih 24 [.fv (.int .i64 4),x177] h178 fun x181 h182 r183 w184=>Ad [] r183 w184 (Ai 3 x49 h182 fun x185 r186=>Ad [(r183,w184),(r179,w180),(r176,[]),(r174,[])] r186 [] (Az (Ak EE 29 2 [(0,x181),(1,x185)]) 50339845 h182 fun x187 h188 r189 w190=>KS r189 w190 ih h188 x187 x48 x165 x13))
def Kd (r174:AI) (h170:Hp) (x166 x173:IV) (ih:Aa) (x49 x48 x165 x13:IV):OH :=
 Ad [] r174 [] (Ai 3 x166 h170 fun x175 r176=>Ad [(r174,[])] r176 [] (Az (Ak EE 29 2 [(0,x173),(1,x175)]) 50339842 h170 fun x177 h178 r179 w180=>Ad [] r179 w180 (JV ih h178 x177 x49 r179 w180 r176 r174 x48 x165 x13)))
def JH (h161:Hp) (r162 w163 r157 w158 r154 r151 w152 r148 r145 w146 r142:AI) (x164 x27:IV) (ih:Aa) (x49 x48 x165 x13:IV):OH :=
 AH 50338829 (.row [.fv (.int .i64 0),.fv (.int .i64 0),.nils] false) (.ptr (.own 50338829) 0) h161 fun x166 h167 r168 w169=>Ad [(r162,w163),(r157,w158),(r154,[]),(r151,w152),(r148,[]),(r145,w146),(r142,[])] r168 w169 (Aj 3 x166 x164 h167 fun h170 r171 w172=>Ad [] r171 w172 (Ai 3 x27 h170 fun x173 r174=>Kd r174 h170 x166 x173 ih x49 x48 x165 x13))
def JS (x3:IV) (ih:Aa) (h156:Hp) (x143 x149 x155:IV) (r157 w158 r154 r151 w152 r148 r145 w146 r142:AI) (x27 x49 x48 x13:IV):OH :=
 Bd EE 3 x3 (.fv (.int .i64 2)) fun x159=>Al [] false false ih 23 [x143,x149,x155,x159] h156 fun x160 h161 r162 w163=>Ad [] r162 w163 (AK 0 x160 fun x164=>AK 1 x160 fun x165=>JH h161 r162 w163 r157 w158 r154 r151 w152 r148 r145 w146 r142 x164 x27 ih x49 x48 x165 x13)
def JU (r151 w152:AI) (h150:Hp) (x9:IV) (r148 r145 w146 r142:AI) (ih:Aa) (x3 x143 x149 x27 x49 x48 x13:IV):OH :=
 Ad [] r151 w152 (Ai 3 x9 h150 fun x153 r154=>Ad [(r151,w152),(r148,[]),(r145,w146),(r142,[])] r154 [] (Al [] false false ih 46 [x153,.fv (.int .i64 2)] h150 fun x155 h156 r157 w158=>Ad [] r157 w158 (JS x3 ih h156 x143 x149 x155 r157 w158 r154 r151 w152 r148 r145 w146 r142 x27 x49 x48 x13)))
def JM (ih:Aa) (h60:Hp) (x0 x141 x5:IV) (r142:AI) (x9 x3 x27 x49 x48 x13:IV):OH :=
 Al [] false false ih 22 [x0,.fv (.int .i64 1),x141] h60 fun x143 h144 r145 w146=>Ad [] r145 w146 (Ai 3 x5 h144 fun x147 r148=>Ad [(r145,w146),(r142,[])] r148 [] (Al [] false false ih 25 [x147,.fv (.int .i64 1),.fv (.int .i64 0)] h144 fun x149 h150 r151 w152=>JU r151 w152 h150 x9 r148 r145 w146 r142 ih x3 x143 x149 x27 x49 x48 x13))
def JB (x59:IV) (h60:Hp) (x5 x9:IV) (ih:Aa) (x3 x0 x27 x49 x48 x13:IV):OH :=
 A5 EE 3 x59 (.fv (.int .i64 0)) fun x63=>Am x63 (Ai 3 x5 h60 fun x64 r65=>Ad [] r65 [] (Le h60 x9 r65 ih x3 x0 x64 x5 x27 x49 x48 x13)) (Ai 3 x27 h60 fun x141 r142=>Ad [] r142 [] (JM ih h60 x0 x141 x5 r142 x9 x3 x27 x49 x48 x13))
def K6 (h50:Hp) (x49 x47 x9:IV) (ih:Aa) (x5 x3 x0 x27 x48 x13:IV):OH :=
 Aj 3 x49 x47 h50 fun h53 r54 w55=>Ad [] r54 w55 (Ac 1 x9 fun x56=>Ae x56 h53 fun x57 _=>Al [] false false ih 43 [x57,.fv (.int .i64 3)] h53 fun x59 h60 _ _=>JB x59 h60 x5 x9 ih x3 x0 x27 x49 x48 x13)
def KH (r45 w46:AI) (x43:IV) (h44:Hp) (r40 w41 r37 r35:AI) (x9:IV) (ih:Aa) (x5 x3 x0 x27 x13:IV):OH :=
 Ad [] r45 w46 (AK 0 x43 fun x47=>AK 1 x43 fun x48=>AH 50333706 (.row [.fv (.int .i64 0),.fv (.int .i64 0),.nils] false) (.ptr (.own 50333706) 0) h44 fun x49 h50 r51 w52=>Ad [(r45,w46),(r40,w41),(r37,[]),(r35,[])] r51 w52 (K6 h50 x49 x47 x9 ih x5 x3 x0 x27 x48 x13))
def Kx (r37 r35:AI) (ih:Aa) (h31:Hp) (x36 x3 x0 x34 x9 x5 x27 x13:IV):OH :=
 Ad [(r35,[])] r37 [] (Al [] false false ih 46 [x36,.fv (.int .i64 1)] h31 fun x38 h39 r40 w41=>Ad [(r35,[])] r40 w41 (Bd EE 3 x3 (.fv (.int .i64 2)) fun x42=>Al [] false false ih 23 [x0,x34,x38,x42] h39 fun x43 h44 r45 w46=>KH r45 w46 x43 h44 r40 w41 r37 r35 x9 ih x5 x3 x0 x27 x13))
def Kn (h24:Hp) (x23 x9:IV) (ih:Aa) (x3 x0 x5 x13:IV):OH :=
 AH 50332676 (.row [.fv (.int .i64 0),.fv (.int .i64 0),.nils] false) (.ptr (.own 50332676) 0) h24 fun x27 h28 _ _=>Aj 3 x27 x23 h28 fun h31 _ _=>Ai 3 x27 h31 fun x34 r35=>Ad [] r35 [] (Ai 3 x9 h31 fun x36 r37=>Kx r37 r35 ih h31 x36 x3 x0 x34 x9 x5 x27 x13)
def S48 (ih:Aa) (n:Nat) (x0 x1 x2 x3:IV) (h4:Hp):OH :=
 A1 50331648 x1 h4 fun x5 h6 _ _=>A1 50331649 x2 h6 fun x9 h10 _ _=>AH 50331650 (.row [.fv (.int .i64 0),.fv (.int .i64 0),.nils] false) (.ptr (.own 50331650) 0) h10 fun x13 h14 _ _=>Ai 3 x9 h14 fun x17 _=>Al [] false false ih 46 [x17,.fv (.int .i64 0)] h14 fun x19 h20 _ _=>Al [] false false ih 21 [x0,x19,.fv (.int .i64 1)] h20 fun x23 h24 _ _=>Kn h24 x23 x9 ih x3 x0 x5 x13
theorem Anx (ih:Aa) (n:Nat) (x0 x1 x2 x3:IV) (h4:Hp):Ax EE ih ft.get n 48 [x0,x1,x2,x3] h4=S48 ih n x0 x1 x2 x3 h4:=by kernel_rfl
def AbE (r186 w187:AI) (h185:Hp) (x13 x184:IV):OH :=
 Ad [] r186 w187 (Av true 3 x13 h185 fun x188=>An [x188,x184] h185)
def Aco (h170:Hp) (x79 x101 x145 x13 x169:IV):OH :=
 Ab x79 true h170 (fun k173=>k173 x101 h170 [] []) fun x174 h175 _ _=>AF x79 x174 (.fv (.bool false)) fun x178=>Ab x178 true h175 (fun k179=>k179 x145 h175 [] []) fun x180 h181 _ _=>AF x178 x180 (.fv (.bool false)) fun x184=>Aj 3 x13 x169 h181 fun h185 r186 w187=>AbE r186 w187 h185 x13 x184
def Abv (r164 r162 r160 r157 w158 r154:AI) (h156:Hp) (x155 x159 x161 x163:IV) (ih:Aa) (x79 x101 x145 x13:IV):OH :=
 Ad [(r162,[]),(r160,[]),(r157,w158),(r154,[])] r164 [] (Az (Ak EE 29 4 [(0,x155),(1,x159),(2,x161),(3,x163)]) 51385349 h156 fun x165 h166 r167 w168=>Ad [] r167 w168 (Al [] false false ih 24 [.fv (.int .i64 13),x165] h166 fun x169 h170 r171 w172=>Ad [] r171 w172 (Aco h170 x79 x101 x145 x13 x169)))
def AbW (h156:Hp) (x102:IV) (r157 w158 r154:AI) (x146 x80 x155:IV) (ih:Aa) (x79 x101 x145 x13:IV):OH :=
 Ai 3 x102 h156 fun x159 r160=>Ad [(r157,w158),(r154,[])] r160 [] (Ai 3 x146 h156 fun x161 r162=>Ad [(r160,[]),(r157,w158),(r154,[])] r162 [] (Ai 3 x80 h156 fun x163 r164=>Abv r164 r162 r160 r157 w158 r154 h156 x155 x159 x161 x163 ih x79 x101 x145 x13))
def XP (r151 w152:AI) (h150:Hp) (x5:IV) (ih:Aa) (x102 x146 x80 x79 x101 x145 x13:IV):OH :=
 Ad [] r151 w152 (Ai 3 x5 h150 fun x153 r154=>Ad [] r154 [] (Al [] false false ih 25 [x153,.fv (.int .i64 1),.fv (.int .i64 0)] h150 fun x155 h156 r157 w158=>Ad [] r157 w158 (AbW h156 x102 r157 w158 r154 x146 x80 x155 ih x79 x101 x145 x13)))
def WB (x140:IV) (h141:Hp) (r142 w143 r137 w138 r134 r131 w132 r128 r125 w126 r121 w122 r118 r115 w116 r111 w112:AI) (x5:IV) (ih:Aa) (x102 x80 x79 x101 x13:IV):OH :=
 AK 0 x140 fun x144=>AK 1 x140 fun x145=>AH 51384336 (.row [.fv (.int .i64 0),.fv (.int .i64 0),.nils] false) (.ptr (.own 51384336) 0) h141 fun x146 h147 r148 w149=>Ad [(r142,w143),(r137,w138),(r134,[]),(r131,w132),(r128,[]),(r125,w126),(r121,w122),(r118,[]),(r115,w116),(r111,w112)] r148 w149 (Aj 3 x146 x144 h147 fun h150 r151 w152=>XP r151 w152 h150 x5 ih x102 x146 x80 x79 x101 x145 x13)
def Zb (ih:Aa) (h130:Hp) (x133 x3 x123 x129:IV) (r134 r131 w132 r128 r125 w126 r121 w122 r118 r115 w116 r111 w112:AI) (x5 x102 x80 x79 x101 x13:IV):OH :=
 Al [] false false ih 46 [x133,.fv (.int .i64 2)] h130 fun x135 h136 r137 w138=>Ad [] r137 w138 (Bd EE 3 x3 (.fv (.int .i64 2)) fun x139=>Al [] false false ih 23 [x123,x129,x135,x139] h136 fun x140 h141 r142 w143=>Ad [] r142 w143 (WB x140 h141 r142 w143 r137 w138 r134 r131 w132 r128 r125 w126 r121 w122 r118 r115 w116 r111 w112 x5 ih x102 x80 x79 x101 x13))
def AbS (r128 r125 w126 r121 w122 r118 r115 w116 r111 w112:AI) (ih:Aa) (h124:Hp) (x127 x9 x3 x123 x5 x102 x80 x79 x101 x13:IV):OH :=
 Ad [(r125,w126),(r121,w122),(r118,[]),(r115,w116),(r111,w112)] r128 [] (Al [] false false ih 25 [x127,.fv (.int .i64 2),.fv (.int .i64 0)] h124 fun x129 h130 r131 w132=>Ad [] r131 w132 (Ai 3 x9 h130 fun x133 r134=>Ad [(r131,w132),(r128,[]),(r125,w126),(r121,w122),(r118,[]),(r115,w116),(r111,w112)] r134 [] (Zb ih h130 x133 x3 x123 x129 r134 r131 w132 r128 r125 w126 r121 w122 r118 r115 w116 r111 w112 x5 x102 x80 x79 x101 x13)))
def AaX (ih:Aa) (h114:Hp) (x117 x113 x5:IV) (r118 r115 w116 r111 w112:AI) (x9 x3 x102 x80 x79 x101 x13:IV):OH :=
 Al [] false false ih 25 [x117,.fv (.int .i64 1),.fv (.int .i64 0)] h114 fun x119 h120 r121 w122=>Ad [] r121 w122 (Al [] false false ih 22 [x113,.fv (.int .i64 1),x119] h120 fun x123 h124 r125 w126=>Ad [] r125 w126 (Ai 3 x5 h124 fun x127 r128=>AbS r128 r125 w126 r121 w122 r118 r115 w116 r111 w112 ih h124 x127 x9 x3 x123 x5 x102 x80 x79 x101 x13))
def Aar (r111 w112:AI) (ih:Aa) (h110:Hp) (x0 x109 x5 x9 x3 x102 x80 x79 x101 x13:IV):OH :=
 Ad [] r111 w112 (Al [] false false ih 22 [x0,.fv (.int .i64 1),x109] h110 fun x113 h114 r115 w116=>Ad [] r115 w116 (Ai 3 x5 h114 fun x117 r118=>Ad [(r115,w116),(r111,w112)] r118 [] (AaX ih h114 x117 x113 x5 r118 r115 w116 r111 w112 x9 x3 x102 x80 x79 x101 x13)))
def ZF (h97:Hp) (r98 w99 r93 w94 r90 r88:AI) (x100:IV) (ih:Aa) (x0 x5 x9 x3 x80 x79 x101 x13:IV):OH :=
 AH 51383306 (.row [.fv (.int .i64 0),.fv (.int .i64 0),.nils] false) (.ptr (.own 51383306) 0) h97 fun x102 h103 r104 w105=>Ad [(r98,w99),(r93,w94),(r90,[]),(r88,[])] r104 w105 (Aj 3 x102 x100 h103 fun h106 r107 w108=>Ad [] r107 w108 (Al [] false false ih 44 [] h106 fun x109 h110 r111 w112=>Aar r111 w112 ih h110 x0 x109 x5 x9 x3 x102 x80 x79 x101 x13))
def XB (x3:IV) (ih:Aa) (h92:Hp) (x0 x87 x91:IV) (r93 w94 r90 r88:AI) (x5 x9 x80 x79 x13:IV):OH :=
 Bd EE 3 x3 (.fv (.int .i64 2)) fun x95=>Al [] false false ih 23 [x0,x87,x91,x95] h92 fun x96 h97 r98 w99=>Ad [] r98 w99 (AK 0 x96 fun x100=>AK 1 x96 fun x101=>ZF h97 r98 w99 r93 w94 r90 r88 x100 ih x0 x5 x9 x3 x80 x79 x101 x13)
def YN (r88:AI) (h84:Hp) (x9:IV) (ih:Aa) (x3 x0 x87 x5 x80 x79 x13:IV):OH :=
 Ad [] r88 [] (Ai 3 x9 h84 fun x89 r90=>Ad [(r88,[])] r90 [] (Al [] false false ih 46 [x89,.fv (.int .i64 1)] h84 fun x91 h92 r93 w94=>Ad [(r88,[])] r93 w94 (XB x3 ih h92 x0 x87 x91 r93 w94 r90 r88 x5 x9 x80 x79 x13)))
def AcI (h75:Hp) (r76 w77 r71 w72 r68 r65 w66:AI) (x78 x5 x9:IV) (ih:Aa) (x3 x0 x79 x13:IV):OH :=
 AH 51382282 (.row [.fv (.int .i64 0),.fv (.int .i64 0),.nils] false) (.ptr (.own 51382282) 0) h75 fun x80 h81 r82 w83=>Ad [(r76,w77),(r71,w72),(r68,[]),(r65,w66)] r82 w83 (Aj 3 x80 x78 h81 fun h84 r85 w86=>Ad [] r85 w86 (Ai 3 x5 h84 fun x87 r88=>YN r88 h84 x9 ih x3 x0 x87 x5 x80 x79 x13))
def YA (x3:IV) (ih:Aa) (h70:Hp) (x0 x63 x69:IV) (r71 w72 r68 r65 w66:AI) (x5 x9 x13:IV):OH :=
 Bd EE 3 x3 (.fv (.int .i64 2)) fun x73=>Al [] false false ih 23 [x0,x63,x69,x73] h70 fun x74 h75 r76 w77=>Ad [] r76 w77 (AK 0 x74 fun x78=>AK 1 x74 fun x79=>AcI h75 r76 w77 r71 w72 r68 r65 w66 x78 x5 x9 ih x3 x0 x79 x13)
def Xj (r65 w66:AI) (h64:Hp) (x9:IV) (ih:Aa) (x3 x0 x63 x5 x13:IV):OH :=
 Ad [] r65 w66 (Ai 3 x9 h64 fun x67 r68=>Ad [(r65,w66)] r68 [] (Al [] false false ih 46 [x67,.fv (.int .i64 0)] h64 fun x69 h70 r71 w72=>Ad [] r71 w72 (YA x3 ih h70 x0 x63 x69 r71 w72 r68 r65 w66 x5 x9 x13)))
def ZB (ih:Aa) (h244:Hp) (x243 x13 x233:IV):OH :=
 Al [] false false ih 24 [.fv (.int .i64 12),x243] h244 fun x247 h248 _ _=>Aj 3 x13 x247 h248 fun h251 _ _=>Av true 3 x13 h251 fun x254=>An [x254,x233] h251
def Abn (r236 w237 r230 w231 r225 w226 r222 r220:AI) (h235:Hp) (x234 x232:IV) (ih:Aa) (x13 x233:IV):OH :=
 Ad [(r230,w231),(r225,w226),(r222,[]),(r220,[])] r236 w237 (Aj 3 x234 x232 h235 fun h238 r239 w240=>Ad [] r239 w240 (Ai 3 x234 h238 fun x241 _=>Az (Ak EE 29 1 [(0,x241)]) 51390465 h238 fun x243 h244 _ _=>ZB ih h244 x243 x13 x233))
def X0 (ih:Aa) (h224:Hp) (x0 x219 x223 x227:IV) (r225 w226 r222 r220:AI) (x13:IV):OH :=
 Al [] false false ih 23 [x0,x219,x223,x227] h224 fun x228 h229 r230 w231=>Ad [] r230 w231 (AK 0 x228 fun x232=>AK 1 x228 fun x233=>AH 51389450 (.row [.fv (.int .i64 0),.fv (.int .i64 0),.nils] false) (.ptr (.own 51389450) 0) h229 fun x234 h235 r236 w237=>Abn r236 w237 r230 w231 r225 w226 r222 r220 h235 x234 x232 ih x13 x233)
def WI (h215:Hp) (x9:IV) (r220:AI) (ih:Aa) (x3 x0 x219 x13:IV):OH :=
 Ai 3 x9 h215 fun x221 r222=>Ad [(r220,[])] r222 [] (Al [] false false ih 46 [x221,.fv (.int .i64 0)] h215 fun x223 h224 r225 w226=>Ad [(r220,[])] r225 w226 (Bd EE 3 x3 (.fv (.int .i64 1)) fun x227=>X0 ih h224 x0 x219 x223 x227 r225 w226 r222 r220 x13))
def Abc (ih:Aa) (h215:Hp) (x256 x13:IV):OH :=
 Al [] false false ih 43 [x256,.fv (.int .i64 4)] h215 fun x258 h259 _ _=>Al [] false false ih 29 [x258] h259 fun x262 h263 _ _=>Aj 3 x13 x262 h263 fun h266 _ _=>Av true 3 x13 h266 fun x269=>An [x269,.fv (.bool true)] h266
def Zp (x218:IV) (h215:Hp) (x5 x9:IV) (ih:Aa) (x3 x0 x13:IV):OH :=
 Am x218 (Ai 3 x5 h215 fun x219 r220=>Ad [] r220 [] (WI h215 x9 r220 ih x3 x0 x219 x13)) (Ac 1 x9 fun x255=>Ae x255 h215 fun x256 _=>Abc ih h215 x256 x13)
def Abp (h59:Hp) (x193 x9:IV) (ih:Aa) (x5 x3 x0 x13:IV):OH :=
 Ab x193 true h59 (fun k194=>Ac 0 x9 fun x195=>k194 x195 h59 [] []) fun x196 h197 _ _=>Ab x193 true h197 (fun k200=>Ae x196 h197 fun x201 r202=>k200 x201 h197 r202 []) fun x203 h204 _ _=>Ab x193 true h204 (fun k207=>Al [] false false ih 43 [x203,.fv (.int .i64 2)] h204 k207) fun x208 h209 _ _=>Ab x193 true h209 (fun k212=>A5 EE 3 x208 (.fv (.int .i64 1)) fun x213=>k212 x213 h209 [] []) fun x214 h215 _ _=>AF x193 x214 (.fv (.bool false)) fun x218=>Zp x218 h215 x5 x9 ih x3 x0 x13
def Aa3 (x311 x362:IV) (h363:Hp) (x13 x357:IV):OH :=
 AF x311 x362 (.fv (.bool false)) fun x366=>Aj 3 x13 x357 h363 fun h367 r368 w369=>Ad [] r368 w369 (Av true 3 x13 h367 fun x370=>An [x370,x366] h367)
def YH (h345:Hp) (x349 x351:IV) (r346 w347 r343:AI) (ih:Aa) (x348 x311 x333 x13:IV):OH :=
 Az (Ak EE 29 2 [(0,x349),(1,x351)]) 51396614 h345 fun x353 h354 r355 w356=>Ad [(r346,w347),(r343,[])] r355 w356 (Al [] false false ih 24 [x348,x353] h354 fun x357 h358 r359 w360=>Ad [] r359 w360 (Ab x311 true h358 (fun k361=>k361 x333 h358 [] []) fun x362 h363 _ _=>Aa3 x311 x362 h363 x13 x357))
def AcC (x344:IV) (h345:Hp) (x312:IV) (r346 w347 r343:AI) (x334:IV) (ih:Aa) (x311 x333 x13:IV):OH :=
 BD EE 3 (.fv (.int .i64 16)) x344 fun x348=>Ai 3 x312 h345 fun x349 r350=>Ad [(r346,w347),(r343,[])] r350 [] (Ai 3 x334 h345 fun x351 r352=>Ad [(r350,[]),(r346,w347),(r343,[])] r352 [] (YH h345 x349 x351 r346 w347 r343 ih x348 x311 x333 x13))
def Aaw (x9:IV) (h338:Hp) (ih:Aa) (x312 x334 x311 x333 x13:IV):OH :=
 Ac 1 x9 fun x341=>Ae x341 h338 fun x342 r343=>Ad [] r343 [] (Al [] false false ih 43 [x342,.fv (.int .i64 2)] h338 fun x344 h345 r346 w347=>Ad [] r346 w347 (AcC x344 h345 x312 r346 w347 r343 x334 ih x311 x333 x13))
def AbU (x328:IV) (h329:Hp) (r330 w331 r325 w326 r322 r320:AI) (x332 x9:IV) (ih:Aa) (x312 x311 x13:IV):OH :=
 AK 1 x328 fun x333=>AH 51395594 (.row [.fv (.int .i64 0),.fv (.int .i64 0),.nils] false) (.ptr (.own 51395594) 0) h329 fun x334 h335 r336 w337=>Ad [(r330,w331),(r325,w326),(r322,[]),(r320,[])] r336 w337 (Aj 3 x334 x332 h335 fun h338 r339 w340=>Ad [] r339 w340 (Aaw x9 h338 ih x312 x334 x311 x333 x13))
def YB (r325 w326 r320:AI) (x3:IV) (ih:Aa) (h324:Hp) (x0 x319 x323:IV) (r322:AI) (x9 x312 x311 x13:IV):OH :=
 Ad [(r320,[])] r325 w326 (Bd EE 3 x3 (.fv (.int .i64 1)) fun x327=>Al [] false false ih 23 [x0,x319,x323,x327] h324 fun x328 h329 r330 w331=>Ad [] r330 w331 (AK 0 x328 fun x332=>AbU x328 h329 r330 w331 r325 w326 r322 r320 x332 x9 ih x312 x311 x13))
def Acy (h316:Hp) (x5 x9:IV) (ih:Aa) (x3 x0 x312 x311 x13:IV):OH :=
 Ai 3 x5 h316 fun x319 r320=>Ad [] r320 [] (Ai 3 x9 h316 fun x321 r322=>Ad [(r320,[])] r322 [] (Al [] false false ih 46 [x321,.fv (.int .i64 1)] h316 fun x323 h324 r325 w326=>YB r325 w326 r320 x3 ih h324 x0 x319 x323 r322 x9 x312 x311 x13))
def ZQ (x306:IV) (h307:Hp) (r308 w309 r303 w304 r300 r298:AI) (x310 x5 x9:IV) (ih:Aa) (x3 x0 x13:IV):OH :=
 AK 1 x306 fun x311=>AH 51394570 (.row [.fv (.int .i64 0),.fv (.int .i64 0),.nils] false) (.ptr (.own 51394570) 0) h307 fun x312 h313 r314 w315=>Ad [(r308,w309),(r303,w304),(r300,[]),(r298,[])] r314 w315 (Aj 3 x312 x310 h313 fun h316 r317 w318=>Ad [] r317 w318 (Acy h316 x5 x9 ih x3 x0 x312 x311 x13))
def Abh (r303 w304 r298:AI) (x3:IV) (ih:Aa) (h302:Hp) (x0 x297 x301:IV) (r300:AI) (x5 x9 x13:IV):OH :=
 Ad [(r298,[])] r303 w304 (Bd EE 3 x3 (.fv (.int .i64 1)) fun x305=>Al [] false false ih 23 [x0,x297,x301,x305] h302 fun x306 h307 r308 w309=>Ad [] r308 w309 (AK 0 x306 fun x310=>ZQ x306 h307 r308 w309 r303 w304 r300 r298 x310 x5 x9 ih x3 x0 x13))
def AaF (h293:Hp) (x5 x9:IV) (ih:Aa) (x3 x0 x13:IV):OH :=
 Ai 3 x5 h293 fun x297 r298=>Ad [] r298 [] (Ai 3 x9 h293 fun x299 r300=>Ad [(r298,[])] r300 [] (Al [] false false ih 46 [x299,.fv (.int .i64 0)] h293 fun x301 h302 r303 w304=>Abh r303 w304 r298 x3 ih h302 x0 x297 x301 r300 x5 x9 x13))
def Aaq (ih:Aa) (h293:Hp) (x13:IV):OH :=
 Al [] false false ih 24 [.fv (.int .i64 15),.nils] h293 fun x371 h372 _ _=>Aj 3 x13 x371 h372 fun h375 _ _=>Av true 3 x13 h375 fun x378=>An [x378,.fv (.bool true)] h375
def YL (h275:Hp) (x271 x274:IV) (ih:Aa) (x5 x9 x3 x0 x13:IV):OH :=
 Ab x271 true h275 (fun k278=>Ae x274 h275 fun x279 r280=>k278 x279 h275 r280 []) fun x281 h282 _ _=>Ab x271 true h282 (fun k285=>Al [] false false ih 43 [x281,.fv (.int .i64 5)] h282 k285) fun x286 h287 _ _=>Ab x271 true h287 (fun k290=>Mk EE 3 x286 (.fv (.int .i64 1)) fun x291=>k290 x291 h287 [] []) fun x292 h293 _ _=>AF x271 x292 (.fv (.bool false)) fun x296=>Am x296 (AaF h293 x5 x9 ih x3 x0 x13) (Aaq ih h293 x13)
def Aap (x384:IV) (ih:Aa) (h59:Hp) (x13:IV):OH :=
 Bd EE 3 x384 (.fv (.int .i64 1)) fun x386=>Al [] false false ih 45 [x386] h59 fun x387 h388 _ _=>Aj 3 x13 x387 h388 fun h391 _ _=>Av true 3 x13 h391 fun x394=>An [x394,.fv (.bool true)] h391
def AbB (h491:Hp) (x13 x490:IV):OH :=
 Av true 3 x13 h491 fun x494=>An [x494,x490] h491
def Yh (r483 w484:AI) (h482:Hp) (x429 x457 x13 x481:IV):OH :=
 Ad [] r483 w484 (Ab x429 true h482 (fun k485=>k485 x457 h482 [] []) fun x486 h487 _ _=>AF x429 x486 (.fv (.bool false)) fun x490=>Aj 3 x13 x481 h487 fun h491 r492 w493=>Ad [] r492 w493 (AbB h491 x13 x490))
def Ww (h466:Hp) (x458:IV) (r474 r472 r467 w468:AI) (x473:IV) (ih:Aa) (x471 x429 x457 x13:IV):OH :=
 Ai 3 x458 h466 fun x475 r476=>Ad [(r474,[]),(r472,[]),(r467,w468)] r476 [] (Az (Ak EE 29 2 [(0,x473),(1,x475)]) 51404807 h466 fun x477 h478 r479 w480=>Ad [(r472,[]),(r467,w468)] r479 w480 (Al [] false false ih 24 [x471,x477] h478 fun x481 h482 r483 w484=>Yh r483 w484 h482 x429 x457 x13 x481))
def AaG (x465 x469:IV) (h466:Hp) (x430:IV) (r467 w468:AI) (x458:IV) (ih:Aa) (x429 x457 x13:IV):OH :=
 A6 1 x465 x469 fun x470=>Ae x470 h466 fun x471 r472=>Ad [] r472 [] (Ai 3 x430 h466 fun x473 r474=>Ad [(r472,[]),(r467,w468)] r474 [] (Ww h466 x458 r474 r472 r467 w468 x473 ih x471 x429 x457 x13))
def AcP (h459:Hp) (x458 x456 x398 x430:IV) (ih:Aa) (x429 x457 x13:IV):OH :=
 Aj 3 x458 x456 h459 fun h462 r463 w464=>Ad [] r463 w464 (Az (Ak EE 92 2 [(0,.fv (.int .i64 3)),(1,.fv (.int .i64 6))]) 51404800 h462 fun x465 h466 r467 w468=>Ad [] r467 w468 (Bd EE 3 x398 (.fv (.int .i64 2)) fun x469=>AaG x465 x469 h466 x430 r467 w468 x458 ih x429 x457 x13))
def Ys (r454 w455:AI) (x452:IV) (h453:Hp) (r449 w450 r446 r444 r441 w442 r438:AI) (x398 x430:IV) (ih:Aa) (x429 x13:IV):OH :=
 Ad [] r454 w455 (AK 0 x452 fun x456=>AK 1 x452 fun x457=>AH 51403788 (.row [.fv (.int .i64 0),.fv (.int .i64 0),.nils] false) (.ptr (.own 51403788) 0) h453 fun x458 h459 r460 w461=>Ad [(r454,w455),(r449,w450),(r446,[]),(r444,[]),(r441,w442),(r438,[])] r460 w461 (AcP h459 x458 x456 x398 x430 ih x429 x457 x13))
def Xo (r446 r444 r441 w442 r438:AI) (ih:Aa) (h440:Hp) (x445 x3 x439 x443 x398 x430 x429 x13:IV):OH :=
 Ad [(r444,[]),(r441,w442),(r438,[])] r446 [] (Al [] false false ih 46 [x445,.fv (.int .i64 1)] h440 fun x447 h448 r449 w450=>Ad [(r444,[])] r449 w450 (Bd EE 3 x3 (.fv (.int .i64 1)) fun x451=>Al [] false false ih 23 [x439,x443,x447,x451] h448 fun x452 h453 r454 w455=>Ys r454 w455 x452 h453 r449 w450 r446 r444 r441 w442 r438 x398 x430 ih x429 x13))
def Abg (ih:Aa) (h434:Hp) (x0 x437 x5:IV) (r438:AI) (x9 x3 x398 x430 x429 x13:IV):OH :=
 Al [] false false ih 22 [x0,.fv (.int .i64 1),x437] h434 fun x439 h440 r441 w442=>Ad [] r441 w442 (Ai 3 x5 h440 fun x443 r444=>Ad [(r441,w442),(r438,[])] r444 [] (Ai 3 x9 h440 fun x445 r446=>Xo r446 r444 r441 w442 r438 ih h440 x445 x3 x439 x443 x398 x430 x429 x13))
def Aad (r432 w433 r426 w427 r421 w422 r418 r416:AI) (h431:Hp) (x430 x428:IV) (ih:Aa) (x0 x5 x9 x3 x398 x429 x13:IV):OH :=
 Ad [(r426,w427),(r421,w422),(r418,[]),(r416,[])] r432 w433 (Aj 3 x430 x428 h431 fun h434 r435 w436=>Ad [] r435 w436 (Ai 3 x430 h434 fun x437 r438=>Ad [] r438 [] (Abg ih h434 x0 x437 x5 r438 x9 x3 x398 x430 x429 x13)))
def Acn (ih:Aa) (h420:Hp) (x0 x415 x419 x423:IV) (r421 w422 r418 r416:AI) (x5 x9 x3 x398 x13:IV):OH :=
 Al [] false false ih 23 [x0,x415,x419,x423] h420 fun x424 h425 r426 w427=>Ad [] r426 w427 (AK 0 x424 fun x428=>AK 1 x424 fun x429=>AH 51402762 (.row [.fv (.int .i64 0),.fv (.int .i64 0),.nils] false) (.ptr (.own 51402762) 0) h425 fun x430 h431 r432 w433=>Aad r432 w433 r426 w427 r421 w422 r418 r416 h431 x430 x428 ih x0 x5 x9 x3 x398 x429 x13)
def ZN (h411:Hp) (x9:IV) (r416:AI) (ih:Aa) (x3 x0 x415 x5 x398 x13:IV):OH :=
 Ai 3 x9 h411 fun x417 r418=>Ad [(r416,[])] r418 [] (Al [] false false ih 46 [x417,.fv (.int .i64 0)] h411 fun x419 h420 r421 w422=>Ad [(r416,[])] r421 w422 (Bd EE 3 x3 (.fv (.int .i64 1)) fun x423=>Acn ih h420 x0 x415 x419 x423 r421 w422 r418 r416 x5 x9 x3 x398 x13))
def Yp (h529:Hp) (x13:IV):OH :=
 Av true 3 x13 h529 fun x532=>An [x532,.fv (.bool true)] h529
def WW (x515 x522:IV) (h523:Hp) (x13:IV):OH :=
 A6 3 x515 x522 fun x526=>Ai 3 x526 h523 fun x527 r528=>Ad [] r528 [] (Aj 3 x13 x527 h523 fun h529 r530 w531=>Ad [] r530 w531 (Yp h529 x13))
def X3 (x9:IV) (h516:Hp) (r517 w518 r513 w514 r509 w510 r505 w506 r501 w502 r497 w498:AI) (ih:Aa) (x515 x13:IV):OH :=
 Ac 1 x9 fun x519=>Ae x519 h516 fun x520 r521=>Ad [(r517,w518),(r513,w514),(r509,w510),(r505,w506),(r501,w502),(r497,w498)] r521 [] (Al [] false false ih 43 [x520,.fv (.int .i64 3)] h516 fun x522 h523 r524 w525=>Ad [(r517,w518)] r524 w525 (WW x515 x522 h523 x13))
def XG (r509 w510:AI) (ih:Aa) (h508:Hp) (x507 x495 x499 x9:IV) (r505 w506 r501 w502 r497 w498:AI) (x13:IV):OH :=
 Ad [] r509 w510 (Al [] false false ih 24 [.fv (.int .i64 18),x507] h508 fun x511 h512 r513 w514=>Ad [] r513 w514 (Az (Ak EE 29 3 [(0,x495),(1,x499),(2,x511)]) 51405829 h512 fun x515 h516 r517 w518=>Ad [] r517 w518 (X3 x9 h516 r517 w518 r513 w514 r509 w510 r505 w506 r501 w502 r497 w498 ih x515 x13)))
def Acu (ih:Aa) (h496:Hp) (x495 x9:IV) (r497 w498:AI) (x13:IV):OH :=
 Al [] false false ih 24 [.fv (.int .i64 14),.nils] h496 fun x499 h500 r501 w502=>Ad [] r501 w502 (Al [] false false ih 24 [.fv (.int .i64 15),.nils] h500 fun x503 h504 r505 w506=>Ad [] r505 w506 (Az (Ak EE 29 1 [(0,x503)]) 51405827 h504 fun x507 h508 r509 w510=>XG r509 w510 ih h508 x507 x495 x499 x9 r505 w506 r501 w502 r497 w498 x13))
def Za (x414:IV) (h411:Hp) (x5 x9:IV) (ih:Aa) (x3 x0 x398 x13:IV):OH :=
 Am x414 (Ai 3 x5 h411 fun x415 r416=>Ad [] r416 [] (ZN h411 x9 r416 ih x3 x0 x415 x5 x398 x13)) (Al [] false false ih 44 [] h411 fun x495 h496 r497 w498=>Ad [] r497 w498 (Acu ih h496 x495 x9 r497 w498 x13))
def AcD (ih:Aa) (h59:Hp) (x396 x3 x5 x9 x0 x13:IV):OH :=
 Al [] false false ih 43 [x396,.fv (.int .i64 4)] h59 fun x398 h399 _ _=>Mk EE 3 x3 (.fv (.int .i64 0)) fun x402=>Ab x402 true h399 (fun k403=>k403 x398 h399 [] []) fun x404 h405 _ _=>Ab x402 true h405 (fun k408=>Mk EE 3 x404 (.fv (.int .i64 1)) fun x409=>k408 x409 h405 [] []) fun x410 h411 _ _=>AF x402 x410 (.fv (.bool false)) fun x414=>Za x414 h411 x5 x9 ih x3 x0 x398 x13
def Xg (x380 x5:IV) (h59:Hp) (ih:Aa) (x13 x9 x3 x0:IV):OH :=
 Mk EE 3 x380 (.fv (.int .i64 0)) fun x382=>Am x382 (Ac 1 x5 fun x383=>Ae x383 h59 fun x384 _=>Aap x384 ih h59 x13) (Ac 0 x9 fun x395=>Ae x395 h59 fun x396 _=>AcD ih h59 x396 x3 x5 x9 x0 x13)
def XK (x270 x3:IV) (h59:Hp) (x9:IV) (ih:Aa) (x5 x0 x13:IV):OH :=
 Am x270 (Mk EE 3 x3 (.fv (.int .i64 0)) fun x271=>Ab x271 true h59 (fun k272=>Ac 0 x9 fun x273=>k272 x273 h59 [] []) fun x274 h275 _ _=>YL h275 x271 x274 ih x5 x9 x3 x0 x13) (Ac 1 x5 fun x379=>Ae x379 h59 fun x380 _=>Xg x380 x5 h59 ih x13 x9 x3 x0)
def X6 (h59:Hp) (x189 x3 x9:IV) (ih:Aa) (x5 x0 x13:IV):OH :=
 Ae x189 h59 fun x190 _=>A5 EE 3 x190 (.fv (.int .i64 10)) fun x192=>Am x192 (Mk EE 3 x3 (.fv (.int .i64 0)) fun x193=>Abp h59 x193 x9 ih x5 x3 x0 x13) (A5 EE 3 x190 (.fv (.int .i64 14)) fun x270=>XK x270 x3 h59 x9 ih x5 x0 x13)
def AbQ (h53:Hp) (x42 x52:IV) (ih:Aa) (x9 x3 x0 x5 x13:IV):OH :=
 Ab x42 true h53 (fun k56=>Gy EE 3 x52 (.fv (.int .i64 2)) fun x57=>k56 x57 h53 [] []) fun x58 h59 _ _=>AF x42 x58 (.fv (.bool false)) fun x62=>Am x62 (Al [] false false ih 44 [] h59 fun x63 h64 r65 w66=>Xj r65 w66 h64 x9 ih x3 x0 x63 x5 x13) (Ac 0 x5 fun x189=>X6 h59 x189 x3 x9 ih x5 x0 x13)
def Y5 (h28:Hp) (x17:IV) (ih:Aa) (x27 x5 x9 x3 x0 x13:IV):OH :=
 Ab x17 true h28 (fun k31=>Al [] false false ih 43 [x27,.fv (.int .i64 5)] h28 k31) fun x32 h33 _ _=>Ab x17 true h33 (fun k36=>A5 EE 3 x32 (.fv (.int .i64 4)) fun x37=>k36 x37 h33 [] []) fun x38 h39 _ _=>AF x17 x38 (.fv (.bool false)) fun x42=>Ab x42 true h39 (fun k43=>Ac 0 x5 fun x44=>k43 x44 h39 [] []) fun x45 h46 _ _=>Ab x42 true h46 (fun k49=>Ae x45 h46 fun x50 r51=>k49 x50 h46 r51 []) fun x52 h53 _ _=>AbQ h53 x42 x52 ih x9 x3 x0 x5 x13
def S49 (ih:Aa) (n:Nat) (x0 x1 x2 x3:IV) (h4:Hp):OH :=
 A1 51380224 x1 h4 fun x5 h6 _ _=>A1 51380225 x2 h6 fun x9 h10 _ _=>AH 51380226 (.row [.fv (.int .i64 0),.fv (.int .i64 0),.nils] false) (.ptr (.own 51380226) 0) h10 fun x13 h14 _ _=>Mk EE 3 x3 (.fv (.int .i64 0)) fun x17=>Ab x17 true h14 (fun k18=>Ac 0 x9 fun x19=>k18 x19 h14 [] []) fun x20 h21 _ _=>Ab x17 true h21 (fun k24=>Ae x20 h21 fun x25 r26=>k24 x25 h21 r26 []) fun x27 h28 _ _=>Y5 h28 x17 ih x27 x5 x9 x3 x0 x13
theorem AmN (ih:Aa) (n:Nat) (x0 x1 x2 x3:IV) (h4:Hp):Ax EE ih ft.get n 49 [x0,x1,x2,x3] h4=S49 ih n x0 x1 x2 x3 h4:=by kernel_rfl
def Aho (h21:Hp) (x12 x20:IV):OH :=
 Aj 3 x12 x20 h21 fun h24 _ _=>Av true 3 x12 h24 fun x27=>An [x27] h24
def S50 (ih:Aa) (n:Nat) (x0 x1 x2:IV) (h3:Hp):OH :=
 A1 52428800 x0 h3 fun x4 h5 _ _=>A1 52428801 x2 h5 fun x8 h9 _ _=>AH 52428802 (.row [.fv (.int .i64 0),.fv (.int .i64 0),.nils] false) (.ptr (.own 52428802) 0) h9 fun x12 h13 _ _=>Ai 3 x4 h13 fun x16 _=>Ai 3 x8 h13 fun x18 _=>Al [] false false ih 60 [x16,x1,.fv (.int .i64 0),x18] h13 fun x20 h21 _ _=>Aho h21 x12 x20
theorem Alr (ih:Aa) (n:Nat) (x0 x1 x2:IV) (h3:Hp):Ax EE ih ft.get n 50 [x0,x1,x2] h3=S50 ih n x0 x1 x2 h3:=by kernel_rfl
def Afd (x1:IV) (h7:Hp) (j0_3:Hp→OH):OH :=
 A5 EE 3 x1 (.fv (.int .i64 0)) fun x10=>Am x10 (An [.fv (.int .i64 1)] h7) (A5 EE 3 x1 (.fv (.int .i64 2)) fun x11=>Am x11 (An [.fv (.int .i64 2)] h7) (j0_3 h7))
def AgT (x6 x1:IV) (h7:Hp) (j0_3:Hp→OH) (x0:IV):OH :=
 Am x6 (A5 EE 3 x1 (.fv (.int .i64 1)) fun x8=>Am x8 (An [.fv (.int .i64 1)] h7) (j0_3 h7)) (A5 EE 3 x0 (.fv (.int .i64 13)) fun x9=>Am x9 (Afd x1 h7 j0_3) (j0_3 h7))
def Aej (x0:IV) (j1_5:IV→Hp→OH) (h2:Hp):OH :=
 A5 EE 3 x0 (.fv (.int .i64 29)) fun x17=>j1_5 x17 h2
def AeY (x0:IV) (j1_5:IV→Hp→OH) (h2:Hp):OH :=
 A5 EE 3 x0 (.fv (.int .i64 20)) fun x15=>Am x15 (j1_5 x15 h2) (A5 EE 3 x0 (.fv (.int .i64 28)) fun x16=>Am x16 (j1_5 x16 h2) (Aej x0 j1_5 h2))
def AeW (x13:IV) (j1_5:IV→Hp→OH) (h2:Hp) (x0:IV):OH :=
 Am x13 (j1_5 x13 h2) (A5 EE 3 x0 (.fv (.int .i64 6)) fun x14=>Am x14 (j1_5 x14 h2) (AeY x0 j1_5 h2))
def S51 (ih:Aa) (n:Nat) (x0 x1:IV) (h2:Hp):OH :=
 (fun (j0_3:Hp→OH)=>(fun (j1_5:IV→Hp→OH)=>A5 EE 3 x0 (.fv (.int .i64 3)) fun x12=>Am x12 (j1_5 x12 h2) (A5 EE 3 x0 (.fv (.int .i64 4)) fun x13=>AeW x13 j1_5 h2 x0)) fun x6 h7=>AgT x6 x1 h7 j0_3 x0) fun h4=>An [.fv (.int .i64 0)] h4
theorem AlL (ih:Aa) (n:Nat) (x0 x1:IV) (h2:Hp):Ax EE ih ft.get n 51 [x0,x1] h2=S51 ih n x0 x1 h2:=by kernel_rfl
def JP (ih:Aa) (h59:Hp) (x23 x67 x69 x26:IV) (q20:List IV→Hp→OH) (x24 x25:IV):OH :=
 Al [true,false,false] false false ih 52 [x23,x67,x69] h59 fun _ h71 _ _=>BD EE 3 x26 (.fv (.int .i64 1)) fun x74=>q20 [x23,x24,x25,x74] h71
def JY (x25:IV) (h59:Hp) (x26 x24:IV) (ih:Aa) (x23:IV) (q20:List IV→Hp→OH):OH :=
 Ac 2 x25 fun x63=>Ae x63 h59 fun x64 _=>A6 3 x64 x26 fun x66=>Ai 3 x66 h59 fun x67 _=>BD EE 3 x24 (.fv (.int .i64 1)) fun x69=>JP ih h59 x23 x67 x69 x26 q20 x24 x25
def JG (h40:Hp) (x31 x39 x25 x26 x24:IV) (ih:Aa) (x23:IV) (q20:List IV→Hp→OH):OH :=
 Ab x31 true h40 (fun k43=>Ac 1 x39 fun x44=>k43 x44 h40 [] []) fun x45 h46 _ _=>Ab x31 true h46 (fun k49=>Ae x45 h46 fun x50 r51=>k49 x50 h46 r51 []) fun x52 h53 _ _=>Ab x31 true h53 (fun k56=>A5 EE 3 x52 (.fv (.int .i64 0)) fun x57=>k56 x57 h53 [] []) fun x58 h59 _ _=>AF x31 x58 (.fv (.bool false)) fun x62=>Am x62 (JY x25 h59 x26 x24 ih x23 q20) (An [] h59)
def KP (h22:Hp) (x27 x26 x23 x25 x24:IV) (ih:Aa) (q20:List IV→Hp→OH):OH :=
 Ae x27 h22 fun x28 _=>BQ x28 fun x30=>GQ EE 3 x26 x30 fun x31=>Ab x31 true h22 (fun k32=>k32 x23 h22 [] []) fun x33 h34 _ _=>Ab x31 true h34 (fun k37=>AE x33 fun x38=>k37 x38 h34 [] []) fun x39 h40 _ _=>JG h40 x31 x39 x25 x26 x24 ih x23 q20
def KQ (l21:List IV) (h22:Hp) (ih:Aa) (q20:List IV→Hp→OH):OH :=
 Aw l21 fun x23 l75=>Aw l75 fun x24 l76=>Aw l76 fun x25 l77=>Aw l77 fun x26 _=>Ac 2 x25 fun x27=>KP h22 x27 x26 x23 x25 x24 ih q20
def KX (n:Nat) (h19:Hp) (x0 x2 x4:IV) (ih:Aa):OH :=
 BE n (fun q20 l21 h22=>KQ l21 h22 ih q20) [x0,x2,x4,.fv (.int .i64 0)] h19
def JQ (h92:Hp) (x97:IV) (j0_18:Hp→OH):OH :=
 BA x97 (.fv (.int .i64 5)) h92 fun h98 _ _=>j0_18 h98
def Kw (x151:IV) (h147:Hp) (j0_18:Hp→OH):OH :=
 Ac 1 x151 fun x152=>BA x152 (.fv (.int .i64 1)) h147 fun h153 _ _=>j0_18 h153
def JZ (r142 w143:AI) (h141:Hp) (x112 x140 x0:IV) (j0_18:Hp→OH):OH :=
 Ad [] r142 w143 (Ab x112 false h141 (fun k144=>CF (Lz .not x140) fun x145=>k144 x145 h141 [] []) fun x146 h147 _ _=>AF x112 (.fv (.bool true)) x146 fun x150=>Am x150 (AE x0 fun x151=>Kw x151 h147 j0_18) (j0_18 h147))
def K3 (r124 w125:AI) (h123:Hp) (x112 x4:IV) (ih:Aa) (x122 x0:IV) (j0_18:Hp→OH):OH :=
 Ad [] r124 w125 (Ab x112 false h123 (fun k126=>Ac 1 x4 fun x127=>k126 x127 h123 [] []) fun x128 h129 _ _=>Ab x112 false h129 (fun k132=>Ae x128 h129 fun x133 r134=>k132 x133 h129 r134 []) fun x135 h136 r137 w138=>Ad [(r124,w125)] r137 w138 (Ab x112 false h136 (fun k139=>Al [] false false ih 62 [x122,x135] h136 k139) fun x140 h141 r142 w143=>JZ r142 w143 h141 x112 x140 x0 j0_18))
def K2 (r110 r106 w107 r103:AI) (x109 x104:IV) (h105:Hp) (x4:IV) (ih:Aa) (x0:IV) (j0_18:Hp→OH):OH :=
 Ad [(r106,w107),(r103,[])] r110 [] (BQ x109 fun x111=>Gy EE 3 x104 x111 fun x112=>Ab x112 false h105 (fun k113=>Ac 0 x4 fun x114=>k113 x114 h105 [] []) fun x115 h116 _ _=>Ab x112 false h116 (fun k119=>Ae x115 h116 fun x120 r121=>k119 x120 h116 r121 []) fun x122 h123 r124 w125=>K3 r124 w125 h123 x112 x4 ih x122 x0 j0_18)
def KG (r103:AI) (ih:Aa) (h92:Hp) (x102 x4 x0:IV) (j0_18:Hp→OH):OH :=
 Ad [] r103 [] (Al [] false false ih 61 [x102] h92 fun x104 h105 r106 w107=>Ad [] r106 w107 (Ac 2 x4 fun x108=>Ae x108 h105 fun x109 r110=>K2 r110 r106 w107 r103 x109 x104 h105 x4 ih x0 j0_18))
def JW (x95 x0:IV) (h92:Hp) (j0_18:Hp→OH) (x4:IV) (ih:Aa):OH :=
 Am x95 (AE x0 fun x96=>Ac 1 x96 fun x97=>JQ h92 x97 j0_18) (Ac 0 x4 fun x101=>Ae x101 h92 fun x102 r103=>KG r103 ih h92 x102 x4 x0 j0_18)
def KC (h15:Hp) (x80 x2 x0:IV) (j0_18:Hp→OH) (x4:IV) (ih:Aa):OH :=
 Ae x80 h15 fun x81 _=>Mk EE 3 x81 (.fv (.int .i64 3000)) fun x83=>Ab x83 false h15 (fun k84=>k84 x2 h15 [] []) fun x85 h86 _ _=>Ab x83 false h86 (fun k89=>Mk EE 3 x85 (.fv (.int .i64 120)) fun x90=>k89 x90 h86 [] []) fun x91 h92 _ _=>AF x83 (.fv (.bool true)) x91 fun x95=>JW x95 x0 h92 j0_18 x4 ih
def JK (x13:IV) (h5:Hp) (x12:IV) (n:Nat) (x0 x2 x4:IV) (ih:Aa):OH :=
 Ac 0 x13 fun x14=>BA x14 x12 h5 fun h15 _ _=>(fun (j0_18:Hp→OH)=>AE x0 fun x79=>Ac 0 x79 fun x80=>KC h15 x80 x2 x0 j0_18 x4 ih) fun h19=>KX n h19 x0 x2 x4 ih
def S52 (ih:Aa) (n:Nat) (x0 x1 x2:IV) (h3:Hp):OH :=
 A1 54525952 x1 h3 fun x4 h5 _ _=>AE x0 fun x8=>Ac 0 x8 fun x9=>Ae x9 h5 fun x10 _=>BD EE 3 x10 (.fv (.int .i64 1)) fun x12=>AE x0 fun x13=>JK x13 h5 x12 n x0 x2 x4 ih
theorem Amj (ih:Aa) (n:Nat) (x0 x1 x2:IV) (h3:Hp):Ax EE ih ft.get n 52 [x0,x1,x2] h3=S52 ih n x0 x1 x2 h3:=by kernel_rfl
def AbX (h128:Hp) (x13 x127:IV):OH :=
 Av true 3 x13 h128 fun x131=>An [x131,x127] h128
def Aae (h113:Hp) (x50 x72 x94 x13 x112:IV):OH :=
 Ab x50 true h113 (fun k116=>k116 x72 h113 [] []) fun x117 h118 _ _=>AF x50 x117 (.fv (.bool false)) fun x121=>Ab x121 true h118 (fun k122=>k122 x94 h118 [] []) fun x123 h124 _ _=>AF x121 x123 (.fv (.bool false)) fun x127=>Aj 3 x13 x112 h124 fun h128 _ _=>AbX h128 x13 x127
def Acc (h99:Hp) (x51 x73 x95:IV) (ih:Aa) (x50 x72 x94 x13:IV):OH :=
 Ai 3 x51 h99 fun x102 _=>Ai 3 x73 h99 fun x104 _=>Ai 3 x95 h99 fun x106 _=>Az (Ak EE 29 3 [(0,x102),(1,x104),(2,x106)]) 55581699 h99 fun x108 h109 _ _=>Al [] false false ih 24 [.fv (.int .i64 27),x108] h109 fun x112 h113 _ _=>Aae h113 x50 x72 x94 x13 x112
def WV (x89:IV) (h90:Hp) (r91 w92 r86 w87 r83 r81:AI) (x93 x51 x73:IV) (ih:Aa) (x50 x72 x13:IV):OH :=
 AK 1 x89 fun x94=>AH 55580682 (.row [.fv (.int .i64 0),.fv (.int .i64 0),.nils] false) (.ptr (.own 55580682) 0) h90 fun x95 h96 r97 w98=>Ad [(r91,w92),(r86,w87),(r83,[]),(r81,[])] r97 w98 (Aj 3 x95 x93 h96 fun h99 r100 w101=>Ad [] r100 w101 (Acc h99 x51 x73 x95 ih x50 x72 x94 x13))
def Xi (r86 w87 r81:AI) (x3:IV) (ih:Aa) (h85:Hp) (x0 x80 x84:IV) (r83:AI) (x51 x73 x50 x72 x13:IV):OH :=
 Ad [(r81,[])] r86 w87 (Bd EE 3 x3 (.fv (.int .i64 2)) fun x88=>Al [] false false ih 35 [x0,x80,x84,x88] h85 fun x89 h90 r91 w92=>Ad [] r91 w92 (AK 0 x89 fun x93=>WV x89 h90 r91 w92 r86 w87 r83 r81 x93 x51 x73 ih x50 x72 x13))
def Acj (h77:Hp) (x5 x9:IV) (ih:Aa) (x3 x0 x51 x73 x50 x72 x13:IV):OH :=
 Ai 3 x5 h77 fun x80 r81=>Ad [] r81 [] (Ai 3 x9 h77 fun x82 r83=>Ad [(r81,[])] r83 [] (Al [] false false ih 46 [x82,.fv (.int .i64 2)] h77 fun x84 h85 r86 w87=>Xi r86 w87 r81 x3 ih h85 x0 x80 x84 r83 x51 x73 x50 x72 x13))
def AbF (x67:IV) (h68:Hp) (r69 w70 r64 w65 r61 r59:AI) (x71 x5 x9:IV) (ih:Aa) (x3 x0 x51 x50 x13:IV):OH :=
 AK 1 x67 fun x72=>AH 55579658 (.row [.fv (.int .i64 0),.fv (.int .i64 0),.nils] false) (.ptr (.own 55579658) 0) h68 fun x73 h74 r75 w76=>Ad [(r69,w70),(r64,w65),(r61,[]),(r59,[])] r75 w76 (Aj 3 x73 x71 h74 fun h77 r78 w79=>Ad [] r78 w79 (Acj h77 x5 x9 ih x3 x0 x51 x73 x50 x72 x13))
def AaO (r64 w65 r59:AI) (x3:IV) (ih:Aa) (h63:Hp) (x0 x58 x62:IV) (r61:AI) (x5 x9 x51 x50 x13:IV):OH :=
 Ad [(r59,[])] r64 w65 (Bd EE 3 x3 (.fv (.int .i64 2)) fun x66=>Al [] false false ih 35 [x0,x58,x62,x66] h63 fun x67 h68 r69 w70=>Ad [] r69 w70 (AK 0 x67 fun x71=>AbF x67 h68 r69 w70 r64 w65 r61 r59 x71 x5 x9 ih x3 x0 x51 x50 x13))
def AaJ (h55:Hp) (x5 x9:IV) (ih:Aa) (x3 x0 x51 x50 x13:IV):OH :=
 Ai 3 x5 h55 fun x58 r59=>Ad [] r59 [] (Ai 3 x9 h55 fun x60 r61=>Ad [(r59,[])] r61 [] (Al [] false false ih 46 [x60,.fv (.int .i64 1)] h55 fun x62 h63 r64 w65=>AaO r64 w65 r59 x3 ih h63 x0 x58 x62 r61 x5 x9 x51 x50 x13))
def Abi (x45:IV) (h46:Hp) (r47 w48 r42 w43 r39 r37:AI) (x49 x5 x9:IV) (ih:Aa) (x3 x0 x13:IV):OH :=
 AK 1 x45 fun x50=>AH 55578634 (.row [.fv (.int .i64 0),.fv (.int .i64 0),.nils] false) (.ptr (.own 55578634) 0) h46 fun x51 h52 r53 w54=>Ad [(r47,w48),(r42,w43),(r39,[]),(r37,[])] r53 w54 (Aj 3 x51 x49 h52 fun h55 r56 w57=>Ad [] r56 w57 (AaJ h55 x5 x9 ih x3 x0 x51 x50 x13))
def AcT (r42 w43 r37:AI) (x3:IV) (ih:Aa) (h41:Hp) (x0 x36 x40:IV) (r39:AI) (x5 x9 x13:IV):OH :=
 Ad [(r37,[])] r42 w43 (Bd EE 3 x3 (.fv (.int .i64 2)) fun x44=>Al [] false false ih 35 [x0,x36,x40,x44] h41 fun x45 h46 r47 w48=>Ad [] r47 w48 (AK 0 x45 fun x49=>Abi x45 h46 r47 w48 r42 w43 r39 r37 x49 x5 x9 ih x3 x0 x13))
def ZU (h32:Hp) (x21 x9:IV) (ih:Aa) (x3 x0 x5 x13:IV):OH :=
 Ai 3 x21 h32 fun x36 r37=>Ad [] r37 [] (Ai 3 x9 h32 fun x38 r39=>Ad [(r37,[])] r39 [] (Al [] false false ih 46 [x38,.fv (.int .i64 0)] h32 fun x40 h41 r42 w43=>AcT r42 w43 r37 x3 ih h41 x0 x36 x40 r39 x5 x9 x13))
def Ab6 (h218:Hp) (x13 x212 x221:IV):OH :=
 Aj 3 x13 x212 h218 fun h222 _ _=>Av true 3 x13 h222 fun x225=>An [x225,x221] h222
def Zn (h201:Hp) (x197 x204:IV) (ih:Aa) (x164 x196 x13:IV):OH :=
 Ai 3 x197 h201 fun x206 _=>Az (Ak EE 29 2 [(0,x204),(1,x206)]) 55586818 h201 fun x208 h209 _ _=>Al [] false false ih 24 [.fv (.int .i64 28),x208] h209 fun x212 h213 _ _=>Ab x164 true h213 (fun k216=>k216 x196 h213 [] []) fun x217 h218 _ _=>AF x164 x217 (.fv (.bool false)) fun x221=>Ab6 h218 x13 x212 x221
def Yl (h192:Hp) (r193 w194 r188 w189 r185 r182 w183 r179 r176 w177 r173:AI) (x195 x165:IV) (ih:Aa) (x164 x196 x13:IV):OH :=
 AH 55585805 (.row [.fv (.int .i64 0),.fv (.int .i64 0),.nils] false) (.ptr (.own 55585805) 0) h192 fun x197 h198 r199 w200=>Ad [(r193,w194),(r188,w189),(r185,[]),(r182,w183),(r179,[]),(r176,w177),(r173,[])] r199 w200 (Aj 3 x197 x195 h198 fun h201 r202 w203=>Ad [] r202 w203 (Ai 3 x165 h201 fun x204 _=>Zn h201 x197 x204 ih x164 x196 x13))
def WL (x3:IV) (ih:Aa) (h187:Hp) (x174 x180 x186:IV) (r188 w189 r185 r182 w183 r179 r176 w177 r173:AI) (x165 x164 x13:IV):OH :=
 Bd EE 3 x3 (.fv (.int .i64 2)) fun x190=>Al [] false false ih 35 [x174,x180,x186,x190] h187 fun x191 h192 r193 w194=>Ad [] r193 w194 (AK 0 x191 fun x195=>AK 1 x191 fun x196=>Yl h192 r193 w194 r188 w189 r185 r182 w183 r179 r176 w177 r173 x195 x165 ih x164 x196 x13)
def XO (r182 w183:AI) (h181:Hp) (x9:IV) (r179 r176 w177 r173:AI) (ih:Aa) (x3 x174 x180 x165 x164 x13:IV):OH :=
 Ad [] r182 w183 (Ai 3 x9 h181 fun x184 r185=>Ad [(r182,w183),(r179,[]),(r176,w177),(r173,[])] r185 [] (Al [] false false ih 46 [x184,.fv (.int .i64 2)] h181 fun x186 h187 r188 w189=>Ad [] r188 w189 (WL x3 ih h187 x174 x180 x186 r188 w189 r185 r182 w183 r179 r176 w177 r173 x165 x164 x13)))
def AaB (ih:Aa) (h169:Hp) (x0 x172 x5:IV) (r173:AI) (x9 x3 x165 x164 x13:IV):OH :=
 Al [] false false ih 22 [x0,.fv (.int .i64 0),x172] h169 fun x174 h175 r176 w177=>Ad [] r176 w177 (Ai 3 x5 h175 fun x178 r179=>Ad [(r176,w177),(r173,[])] r179 [] (Al [] false false ih 25 [x178,.fv (.int .i64 1),.fv (.int .i64 0)] h175 fun x180 h181 r182 w183=>XO r182 w183 h181 x9 r179 r176 w177 r173 ih x3 x174 x180 x165 x164 x13))
def WO (r167 w168 r161 w162 r156 w157 r153 r151:AI) (h166:Hp) (x165 x163 x143:IV) (ih:Aa) (x0 x5 x9 x3 x164 x13:IV):OH :=
 Ad [(r161,w162),(r156,w157),(r153,[]),(r151,[])] r167 w168 (Aj 3 x165 x163 h166 fun h169 r170 w171=>Ad [] r170 w171 (Ai 3 x143 h169 fun x172 r173=>Ad [] r173 [] (AaB ih h169 x0 x172 x5 r173 x9 x3 x165 x164 x13)))
def Z4 (ih:Aa) (h155:Hp) (x0 x150 x154 x158:IV) (r156 w157 r153 r151:AI) (x143 x5 x9 x3 x13:IV):OH :=
 Al [] false false ih 35 [x0,x150,x154,x158] h155 fun x159 h160 r161 w162=>Ad [] r161 w162 (AK 0 x159 fun x163=>AK 1 x159 fun x164=>AH 55584778 (.row [.fv (.int .i64 0),.fv (.int .i64 0),.nils] false) (.ptr (.own 55584778) 0) h160 fun x165 h166 r167 w168=>WO r167 w168 r161 w162 r156 w157 r153 r151 h166 x165 x163 x143 ih x0 x5 x9 x3 x164 x13)
def Yj (h147:Hp) (x9:IV) (r151:AI) (ih:Aa) (x3 x0 x150 x143 x5 x13:IV):OH :=
 Ai 3 x9 h147 fun x152 r153=>Ad [(r151,[])] r153 [] (Al [] false false ih 46 [x152,.fv (.int .i64 1)] h147 fun x154 h155 r156 w157=>Ad [(r151,[])] r156 w157 (Bd EE 3 x3 (.fv (.int .i64 2)) fun x158=>Z4 ih h155 x0 x150 x154 x158 r156 w157 r153 r151 x143 x5 x9 x3 x13))
def Aaz (ih:Aa) (h136:Hp) (x135 x9 x3 x0 x5 x13:IV):OH :=
 Al [] false false ih 34 [x135,.fv (.int .i64 1)] h136 fun x139 h140 _ _=>AH 55583747 (.row [.fv (.int .i64 0),.fv (.int .i64 0),.nils] false) (.ptr (.own 55583747) 0) h140 fun x143 h144 _ _=>Aj 3 x143 x139 h144 fun h147 _ _=>Ai 3 x143 h147 fun x150 r151=>Ad [] r151 [] (Yj h147 x9 r151 ih x3 x0 x150 x143 x5 x13)
def Zy (h317:Hp) (x258 x290 x13 x316:IV):OH :=
 Ab x258 true h317 (fun k320=>k320 x290 h317 [] []) fun x321 h322 _ _=>AF x258 x321 (.fv (.bool false)) fun x325=>Aj 3 x13 x316 h322 fun h326 r327 w328=>Ad [] r327 w328 (Av true 3 x13 h326 fun x329=>An [x329,x325] h326)
def Zx (r311 r308 w309 r304 w305 r301 r299:AI) (h307:Hp) (x306 x310:IV) (ih:Aa) (x258 x290 x13:IV):OH :=
 Ad [(r308,w309),(r304,w305),(r301,[]),(r299,[])] r311 [] (Az (Ak EE 29 2 [(0,x306),(1,x310)]) 55591941 h307 fun x312 h313 r314 w315=>Ad [] r314 w315 (Al [] false false ih 24 [.fv (.int .i64 21),x312] h313 fun x316 h317 r318 w319=>Ad [] r318 w319 (Zy h317 x258 x290 x13 x316)))
def Zw (h295:Hp) (x298 x300:IV) (ih:Aa) (x259:IV) (r301 r299:AI) (x258 x290 x13:IV):OH :=
 Az (Ak EE 29 2 [(0,x298),(1,x300)]) 55591938 h295 fun x302 h303 r304 w305=>Ad [] r304 w305 (Al [] false false ih 24 [.fv (.int .i64 20),x302] h303 fun x306 h307 r308 w309=>Ad [] r308 w309 (Ai 3 x259 h307 fun x310 r311=>Zx r311 r308 w309 r304 w305 r301 r299 h307 x306 x310 ih x258 x290 x13))
def Zt (r296 w297:AI) (h295:Hp) (x237 x291:IV) (ih:Aa) (x259 x258 x290 x13:IV):OH :=
 Ad [] r296 w297 (Ai 3 x237 h295 fun x298 r299=>Ad [] r299 [] (Ai 3 x291 h295 fun x300 r301=>Ad [(r299,[])] r301 [] (Zw h295 x298 x300 ih x259 r301 r299 x258 x290 x13)))
def Yt (x285:IV) (h286:Hp) (r287 w288 r282 w283 r279 r276 w277 r273 r270 w271 r267:AI) (x237:IV) (ih:Aa) (x259 x258 x13:IV):OH :=
 AK 0 x285 fun x289=>AK 1 x285 fun x290=>AH 55590925 (.row [.fv (.int .i64 0),.fv (.int .i64 0),.nils] false) (.ptr (.own 55590925) 0) h286 fun x291 h292 r293 w294=>Ad [(r287,w288),(r282,w283),(r279,[]),(r276,w277),(r273,[]),(r270,w271),(r267,[])] r293 w294 (Aj 3 x291 x289 h292 fun h295 r296 w297=>Zt r296 w297 h295 x237 x291 ih x259 x258 x290 x13)
def Acs (ih:Aa) (h275:Hp) (x278 x3 x268 x274:IV) (r279 r276 w277 r273 r270 w271 r267:AI) (x237 x259 x258 x13:IV):OH :=
 Al [] false false ih 46 [x278,.fv (.int .i64 2)] h275 fun x280 h281 r282 w283=>Ad [] r282 w283 (Bd EE 3 x3 (.fv (.int .i64 2)) fun x284=>Al [] false false ih 35 [x268,x274,x280,x284] h281 fun x285 h286 r287 w288=>Ad [] r287 w288 (Yt x285 h286 r287 w288 r282 w283 r279 r276 w277 r273 r270 w271 r267 x237 ih x259 x258 x13))
def Zu (r273 r270 w271 r267:AI) (ih:Aa) (h269:Hp) (x272 x9 x3 x268 x237 x259 x258 x13:IV):OH :=
 Ad [(r270,w271),(r267,[])] r273 [] (Al [] false false ih 25 [x272,.fv (.int .i64 1),.fv (.int .i64 0)] h269 fun x274 h275 r276 w277=>Ad [] r276 w277 (Ai 3 x9 h275 fun x278 r279=>Ad [(r276,w277),(r273,[]),(r270,w271),(r267,[])] r279 [] (Acs ih h275 x278 x3 x268 x274 r279 r276 w277 r273 r270 w271 r267 x237 x259 x258 x13)))
def Abb (h263:Hp) (x237:IV) (ih:Aa) (x0 x5 x9 x3 x259 x258 x13:IV):OH :=
 Ai 3 x237 h263 fun x266 r267=>Ad [] r267 [] (Al [] false false ih 22 [x0,.fv (.int .i64 0),x266] h263 fun x268 h269 r270 w271=>Ad [] r270 w271 (Ai 3 x5 h269 fun x272 r273=>Zu r273 r270 w271 r267 ih h269 x272 x9 x3 x268 x237 x259 x258 x13))
def AcF (x253:IV) (h254:Hp) (r255 w256 r250 w251 r247 r245:AI) (x257 x237:IV) (ih:Aa) (x0 x5 x9 x3 x13:IV):OH :=
 AK 1 x253 fun x258=>AH 55589898 (.row [.fv (.int .i64 0),.fv (.int .i64 0),.nils] false) (.ptr (.own 55589898) 0) h254 fun x259 h260 r261 w262=>Ad [(r255,w256),(r250,w251),(r247,[]),(r245,[])] r261 w262 (Aj 3 x259 x257 h260 fun h263 r264 w265=>Ad [] r264 w265 (Abb h263 x237 ih x0 x5 x9 x3 x259 x258 x13))
def Aa4 (r250 w251 r245:AI) (x3:IV) (ih:Aa) (h249:Hp) (x0 x244 x248:IV) (r247:AI) (x237 x5 x9 x13:IV):OH :=
 Ad [(r245,[])] r250 w251 (Bd EE 3 x3 (.fv (.int .i64 2)) fun x252=>Al [] false false ih 35 [x0,x244,x248,x252] h249 fun x253 h254 r255 w256=>Ad [] r255 w256 (AK 0 x253 fun x257=>AcF x253 h254 r255 w256 r250 w251 r247 r245 x257 x237 ih x0 x5 x9 x3 x13))
def Ye (h241:Hp) (x237 x9:IV) (ih:Aa) (x3 x0 x5 x13:IV):OH :=
 Ai 3 x237 h241 fun x244 r245=>Ad [] r245 [] (Ai 3 x9 h241 fun x246 r247=>Ad [(r245,[])] r247 [] (Al [] false false ih 46 [x246,.fv (.int .i64 1)] h241 fun x248 h249 r250 w251=>Aa4 r250 w251 r245 x3 ih h249 x0 x244 x248 r247 x237 x5 x9 x13))
def AaP (h32:Hp) (x9:IV) (ih:Aa) (x3 x0 x5 x13:IV):OH :=
 Ai 3 x9 h32 fun x227 _=>Al [] false false ih 46 [x227,.fv (.int .i64 0)] h32 fun x229 h230 _ _=>Al [] false false ih 34 [x229,.fv (.int .i64 1)] h230 fun x233 h234 _ _=>AH 55588867 (.row [.fv (.int .i64 0),.fv (.int .i64 0),.nils] false) (.ptr (.own 55588867) 0) h234 fun x237 h238 _ _=>Aj 3 x237 x233 h238 fun h241 _ _=>Ye h241 x237 x9 ih x3 x0 x5 x13
def Ab7 (x345 x396:IV) (h397:Hp) (x13 x391:IV):OH :=
 AF x345 x396 (.fv (.bool false)) fun x400=>Aj 3 x13 x391 h397 fun h401 _ _=>Av true 3 x13 h401 fun x404=>An [x404,x400] h401
def AbM (h372:Hp) (x375 x377:IV) (ih:Aa) (x345 x367 x13:IV):OH :=
 Az (Ak EE 29 2 [(0,x375),(1,x377)]) 55596034 h372 fun x379 h380 _ _=>Al [] false false ih 24 [.fv (.int .i64 22),x379] h380 fun x383 h384 _ _=>Az (Ak EE 29 1 [(0,x383)]) 55596036 h384 fun x387 h388 _ _=>Al [] false false ih 24 [.fv (.int .i64 23),x387] h388 fun x391 h392 _ _=>Ab x345 true h392 (fun k395=>k395 x367 h392 [] []) fun x396 h397 _ _=>Ab7 x345 x396 h397 x13 x391
def WT (r370 w371 r364 w365 r359 w360 r356 r354:AI) (h369:Hp) (x368 x366 x346:IV) (ih:Aa) (x345 x367 x13:IV):OH :=
 Ad [(r364,w365),(r359,w360),(r356,[]),(r354,[])] r370 w371 (Aj 3 x368 x366 h369 fun h372 r373 w374=>Ad [] r373 w374 (Ai 3 x346 h372 fun x375 _=>Ai 3 x368 h372 fun x377 _=>AbM h372 x375 x377 ih x345 x367 x13))
def ZI (ih:Aa) (h358:Hp) (x0 x353 x357 x361:IV) (r359 w360 r356 r354:AI) (x346 x345 x13:IV):OH :=
 Al [] false false ih 35 [x0,x353,x357,x361] h358 fun x362 h363 r364 w365=>Ad [] r364 w365 (AK 0 x362 fun x366=>AK 1 x362 fun x367=>AH 55595018 (.row [.fv (.int .i64 0),.fv (.int .i64 0),.nils] false) (.ptr (.own 55595018) 0) h363 fun x368 h369 r370 w371=>WT r370 w371 r364 w365 r359 w360 r356 r354 h369 x368 x366 x346 ih x345 x367 x13)
def WG (h350:Hp) (x9:IV) (r354:AI) (ih:Aa) (x3 x0 x353 x346 x345 x13:IV):OH :=
 Ai 3 x9 h350 fun x355 r356=>Ad [(r354,[])] r356 [] (Al [] false false ih 46 [x355,.fv (.int .i64 1)] h350 fun x357 h358 r359 w360=>Ad [(r354,[])] r359 w360 (Bd EE 3 x3 (.fv (.int .i64 2)) fun x361=>ZI ih h358 x0 x353 x357 x361 r359 w360 r356 r354 x346 x345 x13))
def AbL (r348 w349 r342 w343 r337 w338 r334 r332:AI) (h347:Hp) (x346 x344 x21 x9:IV) (ih:Aa) (x3 x0 x345 x13:IV):OH :=
 Ad [(r342,w343),(r337,w338),(r334,[]),(r332,[])] r348 w349 (Aj 3 x346 x344 h347 fun h350 r351 w352=>Ad [] r351 w352 (Ai 3 x21 h350 fun x353 r354=>Ad [] r354 [] (WG h350 x9 r354 ih x3 x0 x353 x346 x345 x13)))
def Aa7 (ih:Aa) (h336:Hp) (x0 x331 x335 x339:IV) (r337 w338 r334 r332:AI) (x21 x9 x3 x13:IV):OH :=
 Al [] false false ih 35 [x0,x331,x335,x339] h336 fun x340 h341 r342 w343=>Ad [] r342 w343 (AK 0 x340 fun x344=>AK 1 x340 fun x345=>AH 55593994 (.row [.fv (.int .i64 0),.fv (.int .i64 0),.nils] false) (.ptr (.own 55593994) 0) h341 fun x346 h347 r348 w349=>AbL r348 w349 r342 w343 r337 w338 r334 r332 h347 x346 x344 x21 x9 ih x3 x0 x345 x13)
def W0 (h32:Hp) (x9:IV) (r332:AI) (ih:Aa) (x3 x0 x331 x21 x13:IV):OH :=
 Ai 3 x9 h32 fun x333 r334=>Ad [(r332,[])] r334 [] (Al [] false false ih 46 [x333,.fv (.int .i64 0)] h32 fun x335 h336 r337 w338=>Ad [(r332,[])] r337 w338 (Bd EE 3 x3 (.fv (.int .i64 2)) fun x339=>Aa7 ih h336 x0 x331 x335 x339 r337 w338 r334 r332 x21 x9 x3 x13))
def AcW (h447:Hp) (x13 x446 x430:IV):OH :=
 Aj 3 x13 x446 h447 fun h450 _ _=>Av true 3 x13 h450 fun x453=>An [x453,x430] h450
def Aaf (r436 w437:AI) (h435:Hp) (x5 x431:IV) (ih:Aa) (x13 x430:IV):OH :=
 Ad [] r436 w437 (Ai 3 x5 h435 fun x438 _=>Ai 3 x431 h435 fun x440 _=>Az (Ak EE 29 2 [(0,x438),(1,x440)]) 55599106 h435 fun x442 h443 _ _=>Al [] false false ih 24 [.fv (.int .i64 29),x442] h443 fun x446 h447 _ _=>AcW h447 x13 x446 x430)
def AcU (x425:IV) (h426:Hp) (r427 w428 r422 w423 r419 r416 w417 r413 r410 w411 r407:AI) (x5:IV) (ih:Aa) (x13:IV):OH :=
 AK 0 x425 fun x429=>AK 1 x425 fun x430=>AH 55598093 (.row [.fv (.int .i64 0),.fv (.int .i64 0),.nils] false) (.ptr (.own 55598093) 0) h426 fun x431 h432 r433 w434=>Ad [(r427,w428),(r422,w423),(r419,[]),(r416,w417),(r413,[]),(r410,w411),(r407,[])] r433 w434 (Aj 3 x431 x429 h432 fun h435 r436 w437=>Aaf r436 w437 h435 x5 x431 ih x13 x430)
def ZW (ih:Aa) (h415:Hp) (x418 x3 x408 x414:IV) (r419 r416 w417 r413 r410 w411 r407:AI) (x5 x13:IV):OH :=
 Al [] false false ih 46 [x418,.fv (.int .i64 0)] h415 fun x420 h421 r422 w423=>Ad [] r422 w423 (Bd EE 3 x3 (.fv (.int .i64 2)) fun x424=>Al [] false false ih 35 [x408,x414,x420,x424] h421 fun x425 h426 r427 w428=>Ad [] r427 w428 (AcU x425 h426 r427 w428 r422 w423 r419 r416 w417 r413 r410 w411 r407 x5 ih x13))
def Xp (r413 r410 w411 r407:AI) (ih:Aa) (h409:Hp) (x412 x9 x3 x408 x5 x13:IV):OH :=
 Ad [(r410,w411),(r407,[])] r413 [] (Al [] false false ih 25 [x412,.fv (.int .i64 1),.fv (.int .i64 0)] h409 fun x414 h415 r416 w417=>Ad [] r416 w417 (Ai 3 x9 h415 fun x418 r419=>Ad [(r416,w417),(r413,[]),(r410,w411),(r407,[])] r419 [] (ZW ih h415 x418 x3 x408 x414 r419 r416 w417 r413 r410 w411 r407 x5 x13)))
def Xn (h32:Hp) (x5:IV) (ih:Aa) (x0 x9 x3 x13:IV):OH :=
 Ai 3 x5 h32 fun x406 r407=>Ad [] r407 [] (Al [] false false ih 22 [x0,.fv (.int .i64 0),x406] h32 fun x408 h409 r410 w411=>Ad [] r410 w411 (Ai 3 x5 h409 fun x412 r413=>Xp r413 r410 w411 r407 ih h409 x412 x9 x3 x408 x5 x13))
def Aag (h481:Hp) (x484:IV) (ih:Aa) (x13 x476:IV):OH :=
 Az (Ak EE 29 1 [(0,x484)]) 55601153 h481 fun x486 h487 _ _=>Al [] false false ih 24 [.fv (.int .i64 30),x486] h487 fun x490 h491 _ _=>Aj 3 x13 x490 h491 fun h494 _ _=>Av true 3 x13 h494 fun x497=>An [x497,x476] h494
def ZO (h472:Hp) (r473 w474 r468 w469 r465 r462 w463 r458 w459 r455:AI) (x475:IV) (ih:Aa) (x13 x476:IV):OH :=
 AH 55600140 (.row [.fv (.int .i64 0),.fv (.int .i64 0),.nils] false) (.ptr (.own 55600140) 0) h472 fun x477 h478 r479 w480=>Ad [(r473,w474),(r468,w469),(r465,[]),(r462,w463),(r458,w459),(r455,[])] r479 w480 (Aj 3 x477 x475 h478 fun h481 r482 w483=>Ad [] r482 w483 (Ai 3 x477 h481 fun x484 _=>Aag h481 x484 ih x13 x476))
def WK (x3:IV) (ih:Aa) (h467:Hp) (x0 x460 x466:IV) (r468 w469 r465 r462 w463 r458 w459 r455:AI) (x13:IV):OH :=
 Bd EE 3 x3 (.fv (.int .i64 1)) fun x470=>Al [] false false ih 23 [x0,x460,x466,x470] h467 fun x471 h472 r473 w474=>Ad [] r473 w474 (AK 0 x471 fun x475=>AK 1 x471 fun x476=>ZO h472 r473 w474 r468 w469 r465 r462 w463 r458 w459 r455 x475 ih x13 x476)
def ZC (r462 w463:AI) (h461:Hp) (x9:IV) (r458 w459 r455:AI) (ih:Aa) (x3 x0 x460 x13:IV):OH :=
 Ad [] r462 w463 (Ai 3 x9 h461 fun x464 r465=>Ad [(r462,w463),(r458,w459),(r455,[])] r465 [] (Al [] false false ih 46 [x464,.fv (.int .i64 0)] h461 fun x466 h467 r468 w469=>Ad [] r468 w469 (WK x3 ih h467 x0 x460 x466 r468 w469 r465 r462 w463 r458 w459 r455 x13)))
def YP (h32:Hp) (x5:IV) (ih:Aa) (x9 x3 x0 x13:IV):OH :=
 Ai 3 x5 h32 fun x454 r455=>Ad [] r455 [] (Az (Ak EE 29 1 [(0,x454)]) 55600130 h32 fun x456 h457 r458 w459=>Ad [] r458 w459 (Al [] false false ih 24 [.fv (.int .i64 18),x456] h457 fun x460 h461 r462 w463=>ZC r462 w463 h461 x9 r458 w459 r455 ih x3 x0 x460 x13))
def Abx (x31:IV) (h32:Hp) (x5 x9:IV) (ih:Aa) (x3 x0 x21 x13:IV):OH :=
 A5 EE 3 x31 (.fv (.int .i64 3)) fun x330=>Am x330 (Ai 3 x5 h32 fun x331 r332=>Ad [] r332 [] (W0 h32 x9 r332 ih x3 x0 x331 x21 x13)) (A5 EE 3 x31 (.fv (.int .i64 4)) fun x405=>Am x405 (Xn h32 x5 ih x0 x9 x3 x13) (YP h32 x5 ih x9 x3 x0 x13))
def ZY (x31:IV) (h32:Hp) (x9:IV) (ih:Aa) (x3 x0 x5 x13 x21:IV):OH :=
 A5 EE 3 x31 (.fv (.int .i64 1)) fun x132=>Am x132 (Ai 3 x9 h32 fun x133 _=>Al [] false false ih 46 [x133,.fv (.int .i64 0)] h32 fun x135 h136 _ _=>Aaz ih h136 x135 x9 x3 x0 x5 x13) (A5 EE 3 x31 (.fv (.int .i64 2)) fun x226=>Am x226 (AaP h32 x9 ih x3 x0 x5 x13) (Abx x31 h32 x5 x9 ih x3 x0 x21 x13))
def Ya (x9:IV) (h25:Hp) (ih:Aa) (x21 x3 x0 x5 x13:IV):OH :=
 Ac 1 x9 fun x28=>Ae x28 h25 fun x29 _=>Al [] false false ih 43 [x29,.fv (.int .i64 7)] h25 fun x31 h32 _ _=>A5 EE 3 x31 (.fv (.int .i64 0)) fun x35=>Am x35 (ZU h32 x21 x9 ih x3 x0 x5 x13) (ZY x31 h32 x9 ih x3 x0 x5 x13 x21)
def S53 (ih:Aa) (n:Nat) (x0 x1 x2 x3:IV) (h4:Hp):OH :=
 A1 55574528 x1 h4 fun x5 h6 _ _=>A1 55574529 x2 h6 fun x9 h10 _ _=>AH 55574530 (.row [.fv (.int .i64 0),.fv (.int .i64 0),.nils] false) (.ptr (.own 55574530) 0) h10 fun x13 h14 _ _=>Al [] false false ih 24 [.fv (.int .i64 15),.nils] h14 fun x17 h18 _ _=>AH 55575553 (.row [.fv (.int .i64 0),.fv (.int .i64 0),.nils] false) (.ptr (.own 55575553) 0) h18 fun x21 h22 _ _=>Aj 3 x21 x17 h22 fun h25 _ _=>Ya x9 h25 ih x21 x3 x0 x5 x13
theorem All (ih:Aa) (n:Nat) (x0 x1 x2 x3:IV) (h4:Hp):Ax EE ih ft.get n 53 [x0,x1,x2,x3] h4=S53 ih n x0 x1 x2 x3 h4:=by kernel_rfl
end
end Idl
end Go.Proofs.Ytaifgaidaglblaa

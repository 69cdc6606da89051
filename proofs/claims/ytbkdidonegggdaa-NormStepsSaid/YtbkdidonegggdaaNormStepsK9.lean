/-
  Texts of a proof, part 9: an ideal semantics of the program, its functions in shallow form, contracts of them. No statement of the seat is proved here.
-/
import Derived.Test.YtbkdidonegggdaaNormStepsK8
set_option linter.all false
noncomputable section
set_option maxRecDepth 100000
set_option linter.unusedVariables false
namespace Go.Proofs.Ytbkdidonegggdaa
namespace Idl
noncomputable section
def S56 (ih:Aa) (n:Nat) (h0:Hp):OH :=
 AM 58720256 (.row [.fv (.int .i64 0),.fv (.int .i64 0),.nils] false) (.ptr (.own 58720256) 0) h0 fun x1 h2 _ _=>Aj [] false false ih 27 [.fv (.int .i64 10),.nils] h2 fun x5 h6 _ _=>Ak 3 x1 x5 h6 fun h9 _ _=>AK true 3 x1 h9 fun x12=>Ap [x12] h9
theorem Am1 (ih:Aa) (n:Nat) (h0:Hp):AI EE ih ft.get n 56 [] h0=S56 ih n h0:=by kernel_rfl
def S57 (ih:Aa) (n:Nat) (x0:IV) (h1:Hp):OH :=
 AM 59768832 (.row [.fv (.int .i64 0),.fv (.int .i64 0),.nils] false) (.ptr (.own 59768832) 0) h1 fun x2 h3 _ _=>Bz [.fv (.int .i64 0),.fv (.int .i64 0),.nils] [(0,1,.fv (.int .i64 2)),(1,1,x0)] fun x6=>Ak 3 x2 x6 h3 fun h7 _ _=>AK true 3 x2 h7 fun x10=>Ap [x10] h7
theorem AkK (ih:Aa) (n:Nat) (x0:IV) (h1:Hp):AI EE ih ft.get n 57 [x0] h1=S57 ih n x0 h1:=by kernel_rfl
def VV (x17 x1:IV) (h8:Hp) (x7:IV):OH :=
 Bc 3 x17 x1 fun x19=>Ai 3 x19 h8 fun x20 _=>Ak 3 x7 x20 h8 fun h22 _ _=>AK true 3 x7 h22 fun x25=>Ap [x25] h22
def WF (x1 x34 x30:IV) (h8:Hp) (x7:IV):OH :=
 CN EE 3 .mul (.fv (.int .i64 7)) x1 fun x35=>BH EE 3 x34 x35 fun x36=>Bz [.fv (.int .i64 0),.fv (.int .i64 0),.nils] [(0,1,x30),(1,1,x36)] fun x37=>Ak 3 x7 x37 h8 fun h38 _ _=>AK true 3 x7 h38 fun x41=>Ap [x41] h38
def Vk (x27 x1 x3:IV) (h8:Hp) (x7:IV):OH :=
 CN EE 3 .quo x27 (.fv (.int .i64 3)) fun x29=>BH EE 3 x29 x1 fun x30=>Ae 1 x3 fun x31=>Ah x31 h8 fun x32 _=>CN EE 3 .quo x32 (.fv (.int .i64 5)) fun x34=>WF x1 x34 x30 h8 x7
def U8 (x15 x3:IV) (h8:Hp) (x1 x7:IV):OH :=
 Al x15 (Ae 2 x3 fun x16=>Ah x16 h8 fun x17 _=>VV x17 x1 h8 x7) (Ae 0 x3 fun x26=>Ah x26 h8 fun x27 _=>Vk x27 x1 x3 h8 x7)
def S58 (ih:Aa) (n:Nat) (x0 x1:IV) (h2:Hp):OH :=
 Bh 60817408 x0 h2 fun x3 h4 _ _=>AM 60817409 (.row [.fv (.int .i64 0),.fv (.int .i64 0),.nils] false) (.ptr (.own 60817409) 0) h4 fun x7 h8 _ _=>Ae 2 x3 fun x11=>Ah x11 h8 fun x12 _=>Cf x12 fun x14=>Hm EE 3 x1 x14 fun x15=>U8 x15 x3 h8 x1 x7
theorem Ak4 (ih:Aa) (n:Nat) (x0 x1:IV) (h2:Hp):AI EE ih ft.get n 58 [x0,x1] h2=S58 ih n x0 x1 h2:=by kernel_rfl
def PK (x22:IV) (h4 h27:Hp) (x16 x17 x18 x19 x20 x26:IV) (q13:List IV→Hp→OH):OH :=
 BH EE 3 x22 (.fv (.int .i64 1)) fun x28=>BB (h4.own.map (·.1)) [61872144,61874179] [x16,x17,x18,x19,x20,x26,x28] h27 fun h29=>q13 [x16,x17,x18,x19,x20,x26,x28] h29
def R9 (h90:Hp) (x22 x21:IV) (j1_25:IV→Hp→OH):OH :=
 Aw (Ag EE 108 1 [(0,x22)]) 61874178 h90 fun x94 h95 _ _=>Aw (AT EE 61874179 false .append [108,108] [x21,x94]) 61874179 h95 fun x98 h99 _ _=>j1_25 x98 h99
def P6 (r86 w87:AD) (h85:Hp) (x63:IV) (ih:Aa) (x72 x84 x22 x21:IV) (j1_25:IV→Hp→OH):OH :=
 Ac [] r86 w87 (Ab x63 true h85 (fun k88=>Aj [] false false ih 21 [x72,x84] h85 k88) fun x89 h90 r91 w92=>Ac [] r91 w92 (AF x63 x89 (.fv (.bool false)) fun x93=>Al x93 (R9 h90 x22 x21 j1_25) (j1_25 x21 h90)))
def S7 (h68:Hp) (x63:IV) (ih:Aa) (x67 x19:IV) (r69 w70:AD) (x22 x21:IV) (j1_25:IV→Hp→OH):OH :=
 Ab x63 true h68 (fun k71=>Aj [] false false ih 46 [x67] h68 k71) fun x72 h73 r74 w75=>Ac [] r74 w75 (Ab x63 true h73 (fun k76=>Ai 3 x19 h73 fun x77 r78=>k76 x77 h73 r78 []) fun x79 h80 r81 w82=>Ac [(r74,w75),(r69,w70)] r81 w82 (Ab x63 true h80 (fun k83=>Aj [] false false ih 46 [x79] h80 k83) fun x84 h85 r86 w87=>P6 r86 w87 h85 x63 ih x72 x84 x22 x21 j1_25))
def S4 (h51:Hp) (x54 x55:IV) (ih:Aa) (x19 x22 x21:IV) (j1_25:IV→Hp→OH):OH :=
 AM 61872144 (.row [.fv (.int .i64 0),.fv (.int .i64 0),.nils] false) (.ptr (.own 61872144) 0) h51 fun x56 h57 _ _=>Ak 3 x56 x54 h57 fun h60 _ _=>A0 EE 3 x55 (.fv (.int .i64 0)) fun x63=>Ab x63 true h60 (fun k64=>Ai 3 x56 h60 fun x65 r66=>k64 x65 h60 r66 []) fun x67 h68 r69 w70=>Ac [] r69 w70 (S7 h68 x63 ih x67 x19 r69 w70 x22 x21 j1_25)
def Rg (x22:IV) (ih:Aa) (h15:Hp) (x43 x19 x21:IV) (j1_25:IV→Hp→OH):OH :=
 BH EE 3 x22 (.fv (.int .i64 1)) fun x45=>Aj [] false false ih 31 [x43,x45,.fv (.int .i64 0)] h15 fun x46 h47 _ _=>Aj [] false false ih 18 [x46] h47 fun x50 h51 _ _=>AL 0 x50 fun x54=>AL 1 x50 fun x55=>S4 h51 x54 x55 ih x19 x22 x21 j1_25
def PX (x38 x22 x16:IV) (h15:Hp) (ih:Aa) (x19 x21:IV) (j1_25:IV→Hp→OH):OH :=
 A9 EE 3 x38 (.fv (.int .i64 1)) fun x39=>A9 EE 3 x39 x22 fun x40=>Bc 4 x16 x40 fun x41=>Ae 1 x41 fun x42=>Ai 3 x42 h15 fun x43 _=>Rg x22 ih h15 x43 x19 x21 j1_25
def Ra (x33:IV) (h15:Hp) (x17:IV) (j1_25:IV→Hp→OH) (x21 x16 x22:IV) (ih:Aa) (x19:IV):OH :=
 Ae 0 x33 fun x34=>Ah x34 h15 fun x35 _=>I1 EE 3 x35 x17 fun x37=>Al x37 (j1_25 x21 h15) (Cf x16 fun x38=>PX x38 x22 x16 h15 ih x19 x21 j1_25)
def Qq (x22:IV) (h4:Hp) (x16 x17 x18 x19 x20:IV) (q13:List IV→Hp→OH) (h15:Hp) (x21:IV) (ih:Aa):OH :=
 (fun (j1_25:IV→Hp→OH)=>Cf x16 fun x30=>A9 EE 3 x30 (.fv (.int .i64 1)) fun x31=>A9 EE 3 x31 x22 fun x32=>Bc 4 x16 x32 fun x33=>Ra x33 h15 x17 j1_25 x21 x16 x22 ih x19) fun x26 h27=>PK x22 h4 h27 x16 x17 x18 x19 x20 x26 q13
def SB (h15:Hp) (x20 x104:IV):OH :=
 Ak 3 x20 x104 h15 fun h105 _ _=>AK true 3 x20 h105 fun x108=>Ap [x108,.fv (.bool false)] h105
def Q5 (h121:Hp) (x20:IV):OH :=
 AK true 3 x20 h121 fun x124=>Ap [x124,.fv (.bool true)] h121
def SP (ih:Aa) (h15:Hp) (x18 x109 x21 x20:IV):OH :=
 Aj [] false false ih 55 [x18,x109] h15 fun x110 h111 _ _=>Bc 1 x21 x110 fun x114=>Ah x114 h111 fun x115 _=>Aj [] false false ih 34 [x115] h111 fun x117 h118 _ _=>Ak 3 x20 x117 h118 fun h121 _ _=>Q5 h121 x20
def PR (x21:IV) (h15:Hp) (x20:IV) (ih:Aa) (x18:IV):OH :=
 Cf x21 fun x102=>A0 EE 3 x102 (.fv (.int .i64 0)) fun x103=>Al x103 (Bz [.fv (.int .i64 0),.fv (.int .i64 0),.nils] [] fun x104=>SB h15 x20 x104) (Cf x21 fun x109=>SP ih h15 x18 x109 x21 x20)
def Rj (l129:List IV) (x16:IV) (h4:Hp) (x17 x18 x19 x20:IV) (q13:List IV→Hp→OH) (h15:Hp) (ih:Aa):OH :=
 AH l129 fun x21 l130=>AH l130 fun x22 _=>Cf x16 fun x23=>Hm EE 3 x22 x23 fun x24=>Al x24 (Qq x22 h4 x16 x17 x18 x19 x20 q13 h15 x21 ih) (PR x21 h15 x20 ih x18)
def XK (l14:List IV) (h4:Hp) (q13:List IV→Hp→OH) (h15:Hp) (ih:Aa):OH :=
 AH l14 fun x16 l125=>AH l125 fun x17 l126=>AH l126 fun x18 l127=>AH l127 fun x19 l128=>AH l128 fun x20 l129=>Rj l129 x16 h4 x17 x18 x19 x20 q13 h15 ih
def S59 (ih:Aa) (n:Nat) (x0 x1 x2 x3:IV) (h4:Hp):OH :=
 Bh 61865984 x2 h4 fun x5 h6 _ _=>AM 61865985 (.row [.fv (.int .i64 0),.fv (.int .i64 0),.nils] false) (.ptr (.own 61865985) 0) h6 fun x9 h10 _ _=>BB (h4.own.map (·.1)) [61872144,61874179] [x0,x1,x3,x5,x9,.nils,.fv (.int .i64 0)] h10 fun h132=>BQ n (fun q13 l14 h15=>XK l14 h4 q13 h15 ih) [x0,x1,x3,x5,x9,.nils,.fv (.int .i64 0)] h132
theorem AlU (ih:Aa) (n:Nat) (x0 x1 x2 x3:IV) (h4:Hp):AI EE ih ft.get n 59 [x0,x1,x2,x3] h4=S59 ih n x0 x1 x2 x3 h4:=by kernel_rfl
def JM (x48 x132:IV) (h133:Hp) (x13 x127:IV):OH :=
 AF x48 x132 (.fv (.bool false)) fun x136=>Ak 3 x13 x127 h133 fun h137 _ _=>AK true 3 x13 h137 fun x140=>Ap [x140,x136] h137
def J7 (h106:Hp) (x109 x111 x113:IV) (ih:Aa) (x48 x78 x13:IV):OH :=
 Aw (Ag EE 29 3 [(0,x109),(1,x111),(2,x113)]) 62920707 h106 fun x115 h116 _ _=>Aj [] false false ih 27 [.fv (.int .i64 7),x115] h116 fun x119 h120 _ _=>Aw (Ag EE 29 1 [(0,x119)]) 62920709 h120 fun x123 h124 _ _=>Aj [] false false ih 27 [.fv (.int .i64 8),x123] h124 fun x127 h128 _ _=>Ab x48 true h128 (fun k131=>k131 x78 h128 [] []) fun x132 h133 _ _=>JM x48 x132 h133 x13 x127
def KH (h103:Hp) (x102 x98 x79 x49:IV) (ih:Aa) (x48 x78 x13:IV):OH :=
 Ak 3 x102 x98 h103 fun h106 r107 w108=>Ac [] r107 w108 (Ai 3 x102 h106 fun x109 _=>Ai 3 x79 h106 fun x111 _=>Ai 3 x49 h106 fun x113 _=>J7 h106 x109 x111 x113 ih x48 x78 x13)
def Kh (r96 w97:AD) (ih:Aa) (h95:Hp) (x94:IV) (r92 w93 r89 r87:AD) (x79 x49 x48 x78 x13:IV):OH :=
 Ac [] r96 w97 (Aj [] false false ih 27 [.fv (.int .i64 6),x94] h95 fun x98 h99 r100 w101=>Ac [] r100 w101 (AM 62919685 (.row [.fv (.int .i64 0),.fv (.int .i64 0),.nils] false) (.ptr (.own 62919685) 0) h99 fun x102 h103 r104 w105=>Ac [(r100,w101),(r96,w97),(r92,w93),(r89,[]),(r87,[])] r104 w105 (KH h103 x102 x98 x79 x49 ih x48 x78 x13)))
def Ki (h83:Hp) (x27:IV) (r87:AD) (ih:Aa) (x86 x79 x49 x48 x78 x13:IV):OH :=
 Ai 3 x27 h83 fun x88 r89=>Ac [(r87,[])] r89 [] (Aj [] false false ih 31 [x88,.fv (.int .i64 1),.fv (.int .i64 0)] h83 fun x90 h91 r92 w93=>Ac [(r87,[])] r92 w93 (Aw (Ag EE 29 2 [(0,x86),(1,x90)]) 62919683 h91 fun x94 h95 r96 w97=>Kh r96 w97 ih h95 x94 r92 w93 r89 r87 x79 x49 x48 x78 x13))
def J2 (r81 w82 r75 w76 r70 w71 r67 r65:AD) (h80:Hp) (x79 x77 x5 x27:IV) (ih:Aa) (x49 x48 x78 x13:IV):OH :=
 Ac [(r75,w76),(r70,w71),(r67,[]),(r65,[])] r81 w82 (Ak 3 x79 x77 h80 fun h83 r84 w85=>Ac [] r84 w85 (Ai 3 x5 h83 fun x86 r87=>Ac [] r87 [] (Ki h83 x27 r87 ih x86 x79 x49 x48 x78 x13)))
def JV (ih:Aa) (h69:Hp) (x0 x64 x68 x72:IV) (r70 w71 r67 r65:AD) (x5 x27 x49 x48 x13:IV):OH :=
 Aj [] false false ih 26 [x0,x64,x68,x72] h69 fun x73 h74 r75 w76=>Ac [] r75 w76 (AL 0 x73 fun x77=>AL 1 x73 fun x78=>AM 62918666 (.row [.fv (.int .i64 0),.fv (.int .i64 0),.nils] false) (.ptr (.own 62918666) 0) h74 fun x79 h80 r81 w82=>J2 r81 w82 r75 w76 r70 w71 r67 r65 h80 x79 x77 x5 x27 ih x49 x48 x78 x13)
def Kb (h60:Hp) (x9:IV) (r65:AD) (ih:Aa) (x3 x0 x64 x5 x27 x49 x48 x13:IV):OH :=
 Ai 3 x9 h60 fun x66 r67=>Ac [(r65,[])] r67 [] (Aj [] false false ih 58 [x66,.fv (.int .i64 2)] h60 fun x68 h69 r70 w71=>Ac [(r65,[])] r70 w71 (A9 EE 3 x3 (.fv (.int .i64 2)) fun x72=>JV ih h69 x0 x64 x68 x72 r70 w71 r67 r65 x5 x27 x49 x48 x13))
def KC (h197:Hp) (x13 x191 x200:IV):OH :=
 Ak 3 x13 x191 h197 fun h201 r202 w203=>Ac [] r202 w203 (AK true 3 x13 h201 fun x204=>Ap [x204,x200] h201)
def KK (r189 w190:AD) (ih:Aa) (h188:Hp) (x187 x48 x165 x13:IV):OH :=
 Ac [] r189 w190 (Aj [] false false ih 27 [.fv (.int .i64 5),x187] h188 fun x191 h192 r193 w194=>Ac [] r193 w194 (Ab x48 true h192 (fun k195=>k195 x165 h192 [] []) fun x196 h197 _ _=>AF x48 x196 (.fv (.bool false)) fun x200=>KC h197 x13 x191 x200))
def KB (ih:Aa) (h178:Hp) (x177 x49:IV) (r179 w180 r176 r174:AD) (x48 x165 x13:IV):OH :=
 Aj [] false false ih 27 [.fv (.int .i64 4),x177] h178 fun x181 h182 r183 w184=>Ac [] r183 w184 (Ai 3 x49 h182 fun x185 r186=>Ac [(r183,w184),(r179,w180),(r176,[]),(r174,[])] r186 [] (Aw (Ag EE 29 2 [(0,x181),(1,x185)]) 62922757 h182 fun x187 h188 r189 w190=>KK r189 w190 ih h188 x187 x48 x165 x13))
def KL (r174:AD) (h170:Hp) (x166 x173:IV) (ih:Aa) (x49 x48 x165 x13:IV):OH :=
 Ac [] r174 [] (Ai 3 x166 h170 fun x175 r176=>Ac [(r174,[])] r176 [] (Aw (Ag EE 29 2 [(0,x173),(1,x175)]) 62922754 h170 fun x177 h178 r179 w180=>Ac [] r179 w180 (KB ih h178 x177 x49 r179 w180 r176 r174 x48 x165 x13)))
def J6 (h161:Hp) (r162 w163 r157 w158 r154 r151 w152 r148 r145 w146 r142:AD) (x164 x27:IV) (ih:Aa) (x49 x48 x165 x13:IV):OH :=
 AM 62921741 (.row [.fv (.int .i64 0),.fv (.int .i64 0),.nils] false) (.ptr (.own 62921741) 0) h161 fun x166 h167 r168 w169=>Ac [(r162,w163),(r157,w158),(r154,[]),(r151,w152),(r148,[]),(r145,w146),(r142,[])] r168 w169 (Ak 3 x166 x164 h167 fun h170 r171 w172=>Ac [] r171 w172 (Ai 3 x27 h170 fun x173 r174=>KL r174 h170 x166 x173 ih x49 x48 x165 x13))
def JP (x3:IV) (ih:Aa) (h156:Hp) (x143 x149 x155:IV) (r157 w158 r154 r151 w152 r148 r145 w146 r142:AD) (x27 x49 x48 x13:IV):OH :=
 A9 EE 3 x3 (.fv (.int .i64 2)) fun x159=>Aj [] false false ih 26 [x143,x149,x155,x159] h156 fun x160 h161 r162 w163=>Ac [] r162 w163 (AL 0 x160 fun x164=>AL 1 x160 fun x165=>J6 h161 r162 w163 r157 w158 r154 r151 w152 r148 r145 w146 r142 x164 x27 ih x49 x48 x165 x13)
def KN (r151 w152:AD) (h150:Hp) (x9:IV) (r148 r145 w146 r142:AD) (ih:Aa) (x3 x143 x149 x27 x49 x48 x13:IV):OH :=
 Ac [] r151 w152 (Ai 3 x9 h150 fun x153 r154=>Ac [(r151,w152),(r148,[]),(r145,w146),(r142,[])] r154 [] (Aj [] false false ih 58 [x153,.fv (.int .i64 2)] h150 fun x155 h156 r157 w158=>Ac [] r157 w158 (JP x3 ih h156 x143 x149 x155 r157 w158 r154 r151 w152 r148 r145 w146 r142 x27 x49 x48 x13)))
def KF (ih:Aa) (h60:Hp) (x0 x141 x5:IV) (r142:AD) (x9 x3 x27 x49 x48 x13:IV):OH :=
 Aj [] false false ih 29 [x0,.fv (.int .i64 1),x141] h60 fun x143 h144 r145 w146=>Ac [] r145 w146 (Ai 3 x5 h144 fun x147 r148=>Ac [(r145,w146),(r142,[])] r148 [] (Aj [] false false ih 31 [x147,.fv (.int .i64 1),.fv (.int .i64 0)] h144 fun x149 h150 r151 w152=>KN r151 w152 h150 x9 r148 r145 w146 r142 ih x3 x143 x149 x27 x49 x48 x13))
def KG (x59:IV) (h60:Hp) (x5 x9:IV) (ih:Aa) (x3 x0 x27 x49 x48 x13:IV):OH :=
 A0 EE 3 x59 (.fv (.int .i64 0)) fun x63=>Al x63 (Ai 3 x5 h60 fun x64 r65=>Ac [] r65 [] (Kb h60 x9 r65 ih x3 x0 x64 x5 x27 x49 x48 x13)) (Ai 3 x27 h60 fun x141 r142=>Ac [] r142 [] (KF ih h60 x0 x141 x5 r142 x9 x3 x27 x49 x48 x13))
def JS (h50:Hp) (x49 x47 x9:IV) (ih:Aa) (x5 x3 x0 x27 x48 x13:IV):OH :=
 Ak 3 x49 x47 h50 fun h53 r54 w55=>Ac [] r54 w55 (Ae 1 x9 fun x56=>Ah x56 h53 fun x57 _=>Aj [] false false ih 55 [x57,.fv (.int .i64 3)] h53 fun x59 h60 _ _=>KG x59 h60 x5 x9 ih x3 x0 x27 x49 x48 x13)
def Ku (r45 w46:AD) (x43:IV) (h44:Hp) (r40 w41 r37 r35:AD) (x9:IV) (ih:Aa) (x5 x3 x0 x27 x13:IV):OH :=
 Ac [] r45 w46 (AL 0 x43 fun x47=>AL 1 x43 fun x48=>AM 62916618 (.row [.fv (.int .i64 0),.fv (.int .i64 0),.nils] false) (.ptr (.own 62916618) 0) h44 fun x49 h50 r51 w52=>Ac [(r45,w46),(r40,w41),(r37,[]),(r35,[])] r51 w52 (JS h50 x49 x47 x9 ih x5 x3 x0 x27 x48 x13))
def KJ (r37 r35:AD) (ih:Aa) (h31:Hp) (x36 x3 x0 x34 x9 x5 x27 x13:IV):OH :=
 Ac [(r35,[])] r37 [] (Aj [] false false ih 58 [x36,.fv (.int .i64 1)] h31 fun x38 h39 r40 w41=>Ac [(r35,[])] r40 w41 (A9 EE 3 x3 (.fv (.int .i64 2)) fun x42=>Aj [] false false ih 26 [x0,x34,x38,x42] h39 fun x43 h44 r45 w46=>Ku r45 w46 x43 h44 r40 w41 r37 r35 x9 ih x5 x3 x0 x27 x13))
def JO (h24:Hp) (x23 x9:IV) (ih:Aa) (x3 x0 x5 x13:IV):OH :=
 AM 62915588 (.row [.fv (.int .i64 0),.fv (.int .i64 0),.nils] false) (.ptr (.own 62915588) 0) h24 fun x27 h28 _ _=>Ak 3 x27 x23 h28 fun h31 _ _=>Ai 3 x27 h31 fun x34 r35=>Ac [] r35 [] (Ai 3 x9 h31 fun x36 r37=>KJ r37 r35 ih h31 x36 x3 x0 x34 x9 x5 x27 x13)
def S60 (ih:Aa) (n:Nat) (x0 x1 x2 x3:IV) (h4:Hp):OH :=
 Bh 62914560 x1 h4 fun x5 h6 _ _=>Bh 62914561 x2 h6 fun x9 h10 _ _=>AM 62914562 (.row [.fv (.int .i64 0),.fv (.int .i64 0),.nils] false) (.ptr (.own 62914562) 0) h10 fun x13 h14 _ _=>Ai 3 x9 h14 fun x17 _=>Aj [] false false ih 58 [x17,.fv (.int .i64 0)] h14 fun x19 h20 _ _=>Aj [] false false ih 25 [x0,x19,.fv (.int .i64 1)] h20 fun x23 h24 _ _=>JO h24 x23 x9 ih x3 x0 x5 x13
theorem Akb (ih:Aa) (n:Nat) (x0 x1 x2 x3:IV) (h4:Hp):AI EE ih ft.get n 60 [x0,x1,x2,x3] h4=S60 ih n x0 x1 x2 x3 h4:=by kernel_rfl
def X5 (r186 w187:AD) (h185:Hp) (x13 x184:IV):OH :=
 Ac [] r186 w187 (AK true 3 x13 h185 fun x188=>Ap [x188,x184] h185)
def ZA (h170:Hp) (x79 x101 x145 x13 x169:IV):OH :=
 Ab x79 true h170 (fun k173=>k173 x101 h170 [] []) fun x174 h175 _ _=>AF x79 x174 (.fv (.bool false)) fun x178=>Ab x178 true h175 (fun k179=>k179 x145 h175 [] []) fun x180 h181 _ _=>AF x178 x180 (.fv (.bool false)) fun x184=>Ak 3 x13 x169 h181 fun h185 r186 w187=>X5 r186 w187 h185 x13 x184
def AbL (r164 r162 r160 r157 w158 r154:AD) (h156:Hp) (x155 x159 x161 x163:IV) (ih:Aa) (x79 x101 x145 x13:IV):OH :=
 Ac [(r162,[]),(r160,[]),(r157,w158),(r154,[])] r164 [] (Aw (Ag EE 29 4 [(0,x155),(1,x159),(2,x161),(3,x163)]) 63968261 h156 fun x165 h166 r167 w168=>Ac [] r167 w168 (Aj [] false false ih 27 [.fv (.int .i64 13),x165] h166 fun x169 h170 r171 w172=>Ac [] r171 w172 (ZA h170 x79 x101 x145 x13 x169)))
def YN (h156:Hp) (x102:IV) (r157 w158 r154:AD) (x146 x80 x155:IV) (ih:Aa) (x79 x101 x145 x13:IV):OH :=
 Ai 3 x102 h156 fun x159 r160=>Ac [(r157,w158),(r154,[])] r160 [] (Ai 3 x146 h156 fun x161 r162=>Ac [(r160,[]),(r157,w158),(r154,[])] r162 [] (Ai 3 x80 h156 fun x163 r164=>AbL r164 r162 r160 r157 w158 r154 h156 x155 x159 x161 x163 ih x79 x101 x145 x13))
def ZW (r151 w152:AD) (h150:Hp) (x5:IV) (ih:Aa) (x102 x146 x80 x79 x101 x145 x13:IV):OH :=
 Ac [] r151 w152 (Ai 3 x5 h150 fun x153 r154=>Ac [] r154 [] (Aj [] false false ih 31 [x153,.fv (.int .i64 1),.fv (.int .i64 0)] h150 fun x155 h156 r157 w158=>Ac [] r157 w158 (YN h156 x102 r157 w158 r154 x146 x80 x155 ih x79 x101 x145 x13)))
def Abg (x140:IV) (h141:Hp) (r142 w143 r137 w138 r134 r131 w132 r128 r125 w126 r121 w122 r118 r115 w116 r111 w112:AD) (x5:IV) (ih:Aa) (x102 x80 x79 x101 x13:IV):OH :=
 AL 0 x140 fun x144=>AL 1 x140 fun x145=>AM 63967248 (.row [.fv (.int .i64 0),.fv (.int .i64 0),.nils] false) (.ptr (.own 63967248) 0) h141 fun x146 h147 r148 w149=>Ac [(r142,w143),(r137,w138),(r134,[]),(r131,w132),(r128,[]),(r125,w126),(r121,w122),(r118,[]),(r115,w116),(r111,w112)] r148 w149 (Ak 3 x146 x144 h147 fun h150 r151 w152=>ZW r151 w152 h150 x5 ih x102 x146 x80 x79 x101 x145 x13)
def Yl (ih:Aa) (h130:Hp) (x133 x3 x123 x129:IV) (r134 r131 w132 r128 r125 w126 r121 w122 r118 r115 w116 r111 w112:AD) (x5 x102 x80 x79 x101 x13:IV):OH :=
 Aj [] false false ih 58 [x133,.fv (.int .i64 2)] h130 fun x135 h136 r137 w138=>Ac [] r137 w138 (A9 EE 3 x3 (.fv (.int .i64 2)) fun x139=>Aj [] false false ih 26 [x123,x129,x135,x139] h136 fun x140 h141 r142 w143=>Ac [] r142 w143 (Abg x140 h141 r142 w143 r137 w138 r134 r131 w132 r128 r125 w126 r121 w122 r118 r115 w116 r111 w112 x5 ih x102 x80 x79 x101 x13))
def AaJ (r128 r125 w126 r121 w122 r118 r115 w116 r111 w112:AD) (ih:Aa) (h124:Hp) (x127 x9 x3 x123 x5 x102 x80 x79 x101 x13:IV):OH :=
 Ac [(r125,w126),(r121,w122),(r118,[]),(r115,w116),(r111,w112)] r128 [] (Aj [] false false ih 31 [x127,.fv (.int .i64 2),.fv (.int .i64 0)] h124 fun x129 h130 r131 w132=>Ac [] r131 w132 (Ai 3 x9 h130 fun x133 r134=>Ac [(r131,w132),(r128,[]),(r125,w126),(r121,w122),(r118,[]),(r115,w116),(r111,w112)] r134 [] (Yl ih h130 x133 x3 x123 x129 r134 r131 w132 r128 r125 w126 r121 w122 r118 r115 w116 r111 w112 x5 x102 x80 x79 x101 x13)))
def Yq (ih:Aa) (h114:Hp) (x117 x113 x5:IV) (r118 r115 w116 r111 w112:AD) (x9 x3 x102 x80 x79 x101 x13:IV):OH :=
 Aj [] false false ih 31 [x117,.fv (.int .i64 1),.fv (.int .i64 0)] h114 fun x119 h120 r121 w122=>Ac [] r121 w122 (Aj [] false false ih 29 [x113,.fv (.int .i64 1),x119] h120 fun x123 h124 r125 w126=>Ac [] r125 w126 (Ai 3 x5 h124 fun x127 r128=>AaJ r128 r125 w126 r121 w122 r118 r115 w116 r111 w112 ih h124 x127 x9 x3 x123 x5 x102 x80 x79 x101 x13))
def Aav (r111 w112:AD) (ih:Aa) (h110:Hp) (x0 x109 x5 x9 x3 x102 x80 x79 x101 x13:IV):OH :=
 Ac [] r111 w112 (Aj [] false false ih 29 [x0,.fv (.int .i64 1),x109] h110 fun x113 h114 r115 w116=>Ac [] r115 w116 (Ai 3 x5 h114 fun x117 r118=>Ac [(r115,w116),(r111,w112)] r118 [] (Yq ih h114 x117 x113 x5 r118 r115 w116 r111 w112 x9 x3 x102 x80 x79 x101 x13)))
def Aa4 (h97:Hp) (r98 w99 r93 w94 r90 r88:AD) (x100:IV) (ih:Aa) (x0 x5 x9 x3 x80 x79 x101 x13:IV):OH :=
 AM 63966218 (.row [.fv (.int .i64 0),.fv (.int .i64 0),.nils] false) (.ptr (.own 63966218) 0) h97 fun x102 h103 r104 w105=>Ac [(r98,w99),(r93,w94),(r90,[]),(r88,[])] r104 w105 (Ak 3 x102 x100 h103 fun h106 r107 w108=>Ac [] r107 w108 (Aj [] false false ih 56 [] h106 fun x109 h110 r111 w112=>Aav r111 w112 ih h110 x0 x109 x5 x9 x3 x102 x80 x79 x101 x13))
def AcD (x3:IV) (ih:Aa) (h92:Hp) (x0 x87 x91:IV) (r93 w94 r90 r88:AD) (x5 x9 x80 x79 x13:IV):OH :=
 A9 EE 3 x3 (.fv (.int .i64 2)) fun x95=>Aj [] false false ih 26 [x0,x87,x91,x95] h92 fun x96 h97 r98 w99=>Ac [] r98 w99 (AL 0 x96 fun x100=>AL 1 x96 fun x101=>Aa4 h97 r98 w99 r93 w94 r90 r88 x100 ih x0 x5 x9 x3 x80 x79 x101 x13)
def AcS (r88:AD) (h84:Hp) (x9:IV) (ih:Aa) (x3 x0 x87 x5 x80 x79 x13:IV):OH :=
 Ac [] r88 [] (Ai 3 x9 h84 fun x89 r90=>Ac [(r88,[])] r90 [] (Aj [] false false ih 58 [x89,.fv (.int .i64 1)] h84 fun x91 h92 r93 w94=>Ac [(r88,[])] r93 w94 (AcD x3 ih h92 x0 x87 x91 r93 w94 r90 r88 x5 x9 x80 x79 x13)))
def Acj (h75:Hp) (r76 w77 r71 w72 r68 r65 w66:AD) (x78 x5 x9:IV) (ih:Aa) (x3 x0 x79 x13:IV):OH :=
 AM 63965194 (.row [.fv (.int .i64 0),.fv (.int .i64 0),.nils] false) (.ptr (.own 63965194) 0) h75 fun x80 h81 r82 w83=>Ac [(r76,w77),(r71,w72),(r68,[]),(r65,w66)] r82 w83 (Ak 3 x80 x78 h81 fun h84 r85 w86=>Ac [] r85 w86 (Ai 3 x5 h84 fun x87 r88=>AcS r88 h84 x9 ih x3 x0 x87 x5 x80 x79 x13))
def Abo (x3:IV) (ih:Aa) (h70:Hp) (x0 x63 x69:IV) (r71 w72 r68 r65 w66:AD) (x5 x9 x13:IV):OH :=
 A9 EE 3 x3 (.fv (.int .i64 2)) fun x73=>Aj [] false false ih 26 [x0,x63,x69,x73] h70 fun x74 h75 r76 w77=>Ac [] r76 w77 (AL 0 x74 fun x78=>AL 1 x74 fun x79=>Acj h75 r76 w77 r71 w72 r68 r65 w66 x78 x5 x9 ih x3 x0 x79 x13)
def AcP (r65 w66:AD) (h64:Hp) (x9:IV) (ih:Aa) (x3 x0 x63 x5 x13:IV):OH :=
 Ac [] r65 w66 (Ai 3 x9 h64 fun x67 r68=>Ac [(r65,w66)] r68 [] (Aj [] false false ih 58 [x67,.fv (.int .i64 0)] h64 fun x69 h70 r71 w72=>Ac [] r71 w72 (Abo x3 ih h70 x0 x63 x69 r71 w72 r68 r65 w66 x5 x9 x13)))
def Yo (ih:Aa) (h244:Hp) (x243 x13 x233:IV):OH :=
 Aj [] false false ih 27 [.fv (.int .i64 12),x243] h244 fun x247 h248 _ _=>Ak 3 x13 x247 h248 fun h251 _ _=>AK true 3 x13 h251 fun x254=>Ap [x254,x233] h251
def YU (r236 w237 r230 w231 r225 w226 r222 r220:AD) (h235:Hp) (x234 x232:IV) (ih:Aa) (x13 x233:IV):OH :=
 Ac [(r230,w231),(r225,w226),(r222,[]),(r220,[])] r236 w237 (Ak 3 x234 x232 h235 fun h238 r239 w240=>Ac [] r239 w240 (Ai 3 x234 h238 fun x241 _=>Aw (Ag EE 29 1 [(0,x241)]) 63973377 h238 fun x243 h244 _ _=>Yo ih h244 x243 x13 x233))
def AaU (ih:Aa) (h224:Hp) (x0 x219 x223 x227:IV) (r225 w226 r222 r220:AD) (x13:IV):OH :=
 Aj [] false false ih 26 [x0,x219,x223,x227] h224 fun x228 h229 r230 w231=>Ac [] r230 w231 (AL 0 x228 fun x232=>AL 1 x228 fun x233=>AM 63972362 (.row [.fv (.int .i64 0),.fv (.int .i64 0),.nils] false) (.ptr (.own 63972362) 0) h229 fun x234 h235 r236 w237=>YU r236 w237 r230 w231 r225 w226 r222 r220 h235 x234 x232 ih x13 x233)
def Yd (h215:Hp) (x9:IV) (r220:AD) (ih:Aa) (x3 x0 x219 x13:IV):OH :=
 Ai 3 x9 h215 fun x221 r222=>Ac [(r220,[])] r222 [] (Aj [] false false ih 58 [x221,.fv (.int .i64 0)] h215 fun x223 h224 r225 w226=>Ac [(r220,[])] r225 w226 (A9 EE 3 x3 (.fv (.int .i64 1)) fun x227=>AaU ih h224 x0 x219 x223 x227 r225 w226 r222 r220 x13))
def WL (ih:Aa) (h215:Hp) (x256 x13:IV):OH :=
 Aj [] false false ih 55 [x256,.fv (.int .i64 4)] h215 fun x258 h259 _ _=>Aj [] false false ih 35 [x258] h259 fun x262 h263 _ _=>Ak 3 x13 x262 h263 fun h266 _ _=>AK true 3 x13 h266 fun x269=>Ap [x269,.fv (.bool true)] h266
def AbQ (x218:IV) (h215:Hp) (x5 x9:IV) (ih:Aa) (x3 x0 x13:IV):OH :=
 Al x218 (Ai 3 x5 h215 fun x219 r220=>Ac [] r220 [] (Yd h215 x9 r220 ih x3 x0 x219 x13)) (Ae 1 x9 fun x255=>Ah x255 h215 fun x256 _=>WL ih h215 x256 x13)
def XH (h59:Hp) (x193 x9:IV) (ih:Aa) (x5 x3 x0 x13:IV):OH :=
 Ab x193 true h59 (fun k194=>Ae 0 x9 fun x195=>k194 x195 h59 [] []) fun x196 h197 _ _=>Ab x193 true h197 (fun k200=>Ah x196 h197 fun x201 r202=>k200 x201 h197 r202 []) fun x203 h204 _ _=>Ab x193 true h204 (fun k207=>Aj [] false false ih 55 [x203,.fv (.int .i64 2)] h204 k207) fun x208 h209 _ _=>Ab x193 true h209 (fun k212=>A0 EE 3 x208 (.fv (.int .i64 1)) fun x213=>k212 x213 h209 [] []) fun x214 h215 _ _=>AF x193 x214 (.fv (.bool false)) fun x218=>AbQ x218 h215 x5 x9 ih x3 x0 x13
def AaI (x311 x362:IV) (h363:Hp) (x13 x357:IV):OH :=
 AF x311 x362 (.fv (.bool false)) fun x366=>Ak 3 x13 x357 h363 fun h367 r368 w369=>Ac [] r368 w369 (AK true 3 x13 h367 fun x370=>Ap [x370,x366] h367)
def Y7 (h345:Hp) (x349 x351:IV) (r346 w347 r343:AD) (ih:Aa) (x348 x311 x333 x13:IV):OH :=
 Aw (Ag EE 29 2 [(0,x349),(1,x351)]) 63979526 h345 fun x353 h354 r355 w356=>Ac [(r346,w347),(r343,[])] r355 w356 (Aj [] false false ih 27 [x348,x353] h354 fun x357 h358 r359 w360=>Ac [] r359 w360 (Ab x311 true h358 (fun k361=>k361 x333 h358 [] []) fun x362 h363 _ _=>AaI x311 x362 h363 x13 x357))
def Acy (x344:IV) (h345:Hp) (x312:IV) (r346 w347 r343:AD) (x334:IV) (ih:Aa) (x311 x333 x13:IV):OH :=
 BH EE 3 (.fv (.int .i64 16)) x344 fun x348=>Ai 3 x312 h345 fun x349 r350=>Ac [(r346,w347),(r343,[])] r350 [] (Ai 3 x334 h345 fun x351 r352=>Ac [(r350,[]),(r346,w347),(r343,[])] r352 [] (Y7 h345 x349 x351 r346 w347 r343 ih x348 x311 x333 x13))
def Aba (x9:IV) (h338:Hp) (ih:Aa) (x312 x334 x311 x333 x13:IV):OH :=
 Ae 1 x9 fun x341=>Ah x341 h338 fun x342 r343=>Ac [] r343 [] (Aj [] false false ih 55 [x342,.fv (.int .i64 2)] h338 fun x344 h345 r346 w347=>Ac [] r346 w347 (Acy x344 h345 x312 r346 w347 r343 x334 ih x311 x333 x13))
def AaS (x328:IV) (h329:Hp) (r330 w331 r325 w326 r322 r320:AD) (x332 x9:IV) (ih:Aa) (x312 x311 x13:IV):OH :=
 AL 1 x328 fun x333=>AM 63978506 (.row [.fv (.int .i64 0),.fv (.int .i64 0),.nils] false) (.ptr (.own 63978506) 0) h329 fun x334 h335 r336 w337=>Ac [(r330,w331),(r325,w326),(r322,[]),(r320,[])] r336 w337 (Ak 3 x334 x332 h335 fun h338 r339 w340=>Ac [] r339 w340 (Aba x9 h338 ih x312 x334 x311 x333 x13))
def AcM (r325 w326 r320:AD) (x3:IV) (ih:Aa) (h324:Hp) (x0 x319 x323:IV) (r322:AD) (x9 x312 x311 x13:IV):OH :=
 Ac [(r320,[])] r325 w326 (A9 EE 3 x3 (.fv (.int .i64 1)) fun x327=>Aj [] false false ih 26 [x0,x319,x323,x327] h324 fun x328 h329 r330 w331=>Ac [] r330 w331 (AL 0 x328 fun x332=>AaS x328 h329 r330 w331 r325 w326 r322 r320 x332 x9 ih x312 x311 x13))
def Aax (h316:Hp) (x5 x9:IV) (ih:Aa) (x3 x0 x312 x311 x13:IV):OH :=
 Ai 3 x5 h316 fun x319 r320=>Ac [] r320 [] (Ai 3 x9 h316 fun x321 r322=>Ac [(r320,[])] r322 [] (Aj [] false false ih 58 [x321,.fv (.int .i64 1)] h316 fun x323 h324 r325 w326=>AcM r325 w326 r320 x3 ih h324 x0 x319 x323 r322 x9 x312 x311 x13))
def YO (x306:IV) (h307:Hp) (r308 w309 r303 w304 r300 r298:AD) (x310 x5 x9:IV) (ih:Aa) (x3 x0 x13:IV):OH :=
 AL 1 x306 fun x311=>AM 63977482 (.row [.fv (.int .i64 0),.fv (.int .i64 0),.nils] false) (.ptr (.own 63977482) 0) h307 fun x312 h313 r314 w315=>Ac [(r308,w309),(r303,w304),(r300,[]),(r298,[])] r314 w315 (Ak 3 x312 x310 h313 fun h316 r317 w318=>Ac [] r317 w318 (Aax h316 x5 x9 ih x3 x0 x312 x311 x13))
def Zm (r303 w304 r298:AD) (x3:IV) (ih:Aa) (h302:Hp) (x0 x297 x301:IV) (r300:AD) (x5 x9 x13:IV):OH :=
 Ac [(r298,[])] r303 w304 (A9 EE 3 x3 (.fv (.int .i64 1)) fun x305=>Aj [] false false ih 26 [x0,x297,x301,x305] h302 fun x306 h307 r308 w309=>Ac [] r308 w309 (AL 0 x306 fun x310=>YO x306 h307 r308 w309 r303 w304 r300 r298 x310 x5 x9 ih x3 x0 x13))
def WP (h293:Hp) (x5 x9:IV) (ih:Aa) (x3 x0 x13:IV):OH :=
 Ai 3 x5 h293 fun x297 r298=>Ac [] r298 [] (Ai 3 x9 h293 fun x299 r300=>Ac [(r298,[])] r300 [] (Aj [] false false ih 58 [x299,.fv (.int .i64 0)] h293 fun x301 h302 r303 w304=>Zm r303 w304 r298 x3 ih h302 x0 x297 x301 r300 x5 x9 x13))
def Aaf (ih:Aa) (h293:Hp) (x13:IV):OH :=
 Aj [] false false ih 27 [.fv (.int .i64 15),.nils] h293 fun x371 h372 _ _=>Ak 3 x13 x371 h372 fun h375 _ _=>AK true 3 x13 h375 fun x378=>Ap [x378,.fv (.bool true)] h375
def ZQ (h275:Hp) (x271 x274:IV) (ih:Aa) (x5 x9 x3 x0 x13:IV):OH :=
 Ab x271 true h275 (fun k278=>Ah x274 h275 fun x279 r280=>k278 x279 h275 r280 []) fun x281 h282 _ _=>Ab x271 true h282 (fun k285=>Aj [] false false ih 55 [x281,.fv (.int .i64 5)] h282 k285) fun x286 h287 _ _=>Ab x271 true h287 (fun k290=>KY EE 3 x286 (.fv (.int .i64 1)) fun x291=>k290 x291 h287 [] []) fun x292 h293 _ _=>AF x271 x292 (.fv (.bool false)) fun x296=>Al x296 (WP h293 x5 x9 ih x3 x0 x13) (Aaf ih h293 x13)
def Abm (x384:IV) (ih:Aa) (h59:Hp) (x13:IV):OH :=
 A9 EE 3 x384 (.fv (.int .i64 1)) fun x386=>Aj [] false false ih 57 [x386] h59 fun x387 h388 _ _=>Ak 3 x13 x387 h388 fun h391 _ _=>AK true 3 x13 h391 fun x394=>Ap [x394,.fv (.bool true)] h391
def XQ (h491:Hp) (x13 x490:IV):OH :=
 AK true 3 x13 h491 fun x494=>Ap [x494,x490] h491
def Acm (r483 w484:AD) (h482:Hp) (x429 x457 x13 x481:IV):OH :=
 Ac [] r483 w484 (Ab x429 true h482 (fun k485=>k485 x457 h482 [] []) fun x486 h487 _ _=>AF x429 x486 (.fv (.bool false)) fun x490=>Ak 3 x13 x481 h487 fun h491 r492 w493=>Ac [] r492 w493 (XQ h491 x13 x490))
def X4 (h466:Hp) (x458:IV) (r474 r472 r467 w468:AD) (x473:IV) (ih:Aa) (x471 x429 x457 x13:IV):OH :=
 Ai 3 x458 h466 fun x475 r476=>Ac [(r474,[]),(r472,[]),(r467,w468)] r476 [] (Aw (Ag EE 29 2 [(0,x473),(1,x475)]) 63987719 h466 fun x477 h478 r479 w480=>Ac [(r472,[]),(r467,w468)] r479 w480 (Aj [] false false ih 27 [x471,x477] h478 fun x481 h482 r483 w484=>Acm r483 w484 h482 x429 x457 x13 x481))
def AaY (x465 x469:IV) (h466:Hp) (x430:IV) (r467 w468:AD) (x458:IV) (ih:Aa) (x429 x457 x13:IV):OH :=
 Bc 1 x465 x469 fun x470=>Ah x470 h466 fun x471 r472=>Ac [] r472 [] (Ai 3 x430 h466 fun x473 r474=>Ac [(r472,[]),(r467,w468)] r474 [] (X4 h466 x458 r474 r472 r467 w468 x473 ih x471 x429 x457 x13))
def Zc (h459:Hp) (x458 x456 x398 x430:IV) (ih:Aa) (x429 x457 x13:IV):OH :=
 Ak 3 x458 x456 h459 fun h462 r463 w464=>Ac [] r463 w464 (Aw (Ag EE 108 2 [(0,.fv (.int .i64 3)),(1,.fv (.int .i64 6))]) 63987712 h462 fun x465 h466 r467 w468=>Ac [] r467 w468 (A9 EE 3 x398 (.fv (.int .i64 2)) fun x469=>AaY x465 x469 h466 x430 r467 w468 x458 ih x429 x457 x13))
def YK (r454 w455:AD) (x452:IV) (h453:Hp) (r449 w450 r446 r444 r441 w442 r438:AD) (x398 x430:IV) (ih:Aa) (x429 x13:IV):OH :=
 Ac [] r454 w455 (AL 0 x452 fun x456=>AL 1 x452 fun x457=>AM 63986700 (.row [.fv (.int .i64 0),.fv (.int .i64 0),.nils] false) (.ptr (.own 63986700) 0) h453 fun x458 h459 r460 w461=>Ac [(r454,w455),(r449,w450),(r446,[]),(r444,[]),(r441,w442),(r438,[])] r460 w461 (Zc h459 x458 x456 x398 x430 ih x429 x457 x13))
def X9 (r446 r444 r441 w442 r438:AD) (ih:Aa) (h440:Hp) (x445 x3 x439 x443 x398 x430 x429 x13:IV):OH :=
 Ac [(r444,[]),(r441,w442),(r438,[])] r446 [] (Aj [] false false ih 58 [x445,.fv (.int .i64 1)] h440 fun x447 h448 r449 w450=>Ac [(r444,[])] r449 w450 (A9 EE 3 x3 (.fv (.int .i64 1)) fun x451=>Aj [] false false ih 26 [x439,x443,x447,x451] h448 fun x452 h453 r454 w455=>YK r454 w455 x452 h453 r449 w450 r446 r444 r441 w442 r438 x398 x430 ih x429 x13))
def Aaj (ih:Aa) (h434:Hp) (x0 x437 x5:IV) (r438:AD) (x9 x3 x398 x430 x429 x13:IV):OH :=
 Aj [] false false ih 29 [x0,.fv (.int .i64 1),x437] h434 fun x439 h440 r441 w442=>Ac [] r441 w442 (Ai 3 x5 h440 fun x443 r444=>Ac [(r441,w442),(r438,[])] r444 [] (Ai 3 x9 h440 fun x445 r446=>X9 r446 r444 r441 w442 r438 ih h440 x445 x3 x439 x443 x398 x430 x429 x13))
def XO (r432 w433 r426 w427 r421 w422 r418 r416:AD) (h431:Hp) (x430 x428:IV) (ih:Aa) (x0 x5 x9 x3 x398 x429 x13:IV):OH :=
 Ac [(r426,w427),(r421,w422),(r418,[]),(r416,[])] r432 w433 (Ak 3 x430 x428 h431 fun h434 r435 w436=>Ac [] r435 w436 (Ai 3 x430 h434 fun x437 r438=>Ac [] r438 [] (Aaj ih h434 x0 x437 x5 r438 x9 x3 x398 x430 x429 x13)))
def Ach (ih:Aa) (h420:Hp) (x0 x415 x419 x423:IV) (r421 w422 r418 r416:AD) (x5 x9 x3 x398 x13:IV):OH :=
 Aj [] false false ih 26 [x0,x415,x419,x423] h420 fun x424 h425 r426 w427=>Ac [] r426 w427 (AL 0 x424 fun x428=>AL 1 x424 fun x429=>AM 63985674 (.row [.fv (.int .i64 0),.fv (.int .i64 0),.nils] false) (.ptr (.own 63985674) 0) h425 fun x430 h431 r432 w433=>XO r432 w433 r426 w427 r421 w422 r418 r416 h431 x430 x428 ih x0 x5 x9 x3 x398 x429 x13)
def AaF (h411:Hp) (x9:IV) (r416:AD) (ih:Aa) (x3 x0 x415 x5 x398 x13:IV):OH :=
 Ai 3 x9 h411 fun x417 r418=>Ac [(r416,[])] r418 [] (Aj [] false false ih 58 [x417,.fv (.int .i64 0)] h411 fun x419 h420 r421 w422=>Ac [(r416,[])] r421 w422 (A9 EE 3 x3 (.fv (.int .i64 1)) fun x423=>Ach ih h420 x0 x415 x419 x423 r421 w422 r418 r416 x5 x9 x3 x398 x13))
def Ace (h529:Hp) (x13:IV):OH :=
 AK true 3 x13 h529 fun x532=>Ap [x532,.fv (.bool true)] h529
def Aco (x515 x522:IV) (h523:Hp) (x13:IV):OH :=
 Bc 3 x515 x522 fun x526=>Ai 3 x526 h523 fun x527 r528=>Ac [] r528 [] (Ak 3 x13 x527 h523 fun h529 r530 w531=>Ac [] r530 w531 (Ace h529 x13))
def Zy (x9:IV) (h516:Hp) (r517 w518 r513 w514 r509 w510 r505 w506 r501 w502 r497 w498:AD) (ih:Aa) (x515 x13:IV):OH :=
 Ae 1 x9 fun x519=>Ah x519 h516 fun x520 r521=>Ac [(r517,w518),(r513,w514),(r509,w510),(r505,w506),(r501,w502),(r497,w498)] r521 [] (Aj [] false false ih 55 [x520,.fv (.int .i64 3)] h516 fun x522 h523 r524 w525=>Ac [(r517,w518)] r524 w525 (Aco x515 x522 h523 x13))
def AbY (r509 w510:AD) (ih:Aa) (h508:Hp) (x507 x495 x499 x9:IV) (r505 w506 r501 w502 r497 w498:AD) (x13:IV):OH :=
 Ac [] r509 w510 (Aj [] false false ih 27 [.fv (.int .i64 18),x507] h508 fun x511 h512 r513 w514=>Ac [] r513 w514 (Aw (Ag EE 29 3 [(0,x495),(1,x499),(2,x511)]) 63988741 h512 fun x515 h516 r517 w518=>Ac [] r517 w518 (Zy x9 h516 r517 w518 r513 w514 r509 w510 r505 w506 r501 w502 r497 w498 ih x515 x13)))
def AcA (ih:Aa) (h496:Hp) (x495 x9:IV) (r497 w498:AD) (x13:IV):OH :=
 Aj [] false false ih 27 [.fv (.int .i64 14),.nils] h496 fun x499 h500 r501 w502=>Ac [] r501 w502 (Aj [] false false ih 27 [.fv (.int .i64 15),.nils] h500 fun x503 h504 r505 w506=>Ac [] r505 w506 (Aw (Ag EE 29 1 [(0,x503)]) 63988739 h504 fun x507 h508 r509 w510=>AbY r509 w510 ih h508 x507 x495 x499 x9 r505 w506 r501 w502 r497 w498 x13))
def Ya (x414:IV) (h411:Hp) (x5 x9:IV) (ih:Aa) (x3 x0 x398 x13:IV):OH :=
 Al x414 (Ai 3 x5 h411 fun x415 r416=>Ac [] r416 [] (AaF h411 x9 r416 ih x3 x0 x415 x5 x398 x13)) (Aj [] false false ih 56 [] h411 fun x495 h496 r497 w498=>Ac [] r497 w498 (AcA ih h496 x495 x9 r497 w498 x13))
def Z4 (ih:Aa) (h59:Hp) (x396 x3 x5 x9 x0 x13:IV):OH :=
 Aj [] false false ih 55 [x396,.fv (.int .i64 4)] h59 fun x398 h399 _ _=>KY EE 3 x3 (.fv (.int .i64 0)) fun x402=>Ab x402 true h399 (fun k403=>k403 x398 h399 [] []) fun x404 h405 _ _=>Ab x402 true h405 (fun k408=>KY EE 3 x404 (.fv (.int .i64 1)) fun x409=>k408 x409 h405 [] []) fun x410 h411 _ _=>AF x402 x410 (.fv (.bool false)) fun x414=>Ya x414 h411 x5 x9 ih x3 x0 x398 x13
def Aad (x380 x5:IV) (h59:Hp) (ih:Aa) (x13 x9 x3 x0:IV):OH :=
 KY EE 3 x380 (.fv (.int .i64 0)) fun x382=>Al x382 (Ae 1 x5 fun x383=>Ah x383 h59 fun x384 _=>Abm x384 ih h59 x13) (Ae 0 x9 fun x395=>Ah x395 h59 fun x396 _=>Z4 ih h59 x396 x3 x5 x9 x0 x13)
def Y4 (x270 x3:IV) (h59:Hp) (x9:IV) (ih:Aa) (x5 x0 x13:IV):OH :=
 Al x270 (KY EE 3 x3 (.fv (.int .i64 0)) fun x271=>Ab x271 true h59 (fun k272=>Ae 0 x9 fun x273=>k272 x273 h59 [] []) fun x274 h275 _ _=>ZQ h275 x271 x274 ih x5 x9 x3 x0 x13) (Ae 1 x5 fun x379=>Ah x379 h59 fun x380 _=>Aad x380 x5 h59 ih x13 x9 x3 x0)
def Abh (h59:Hp) (x189 x3 x9:IV) (ih:Aa) (x5 x0 x13:IV):OH :=
 Ah x189 h59 fun x190 _=>A0 EE 3 x190 (.fv (.int .i64 10)) fun x192=>Al x192 (KY EE 3 x3 (.fv (.int .i64 0)) fun x193=>XH h59 x193 x9 ih x5 x3 x0 x13) (A0 EE 3 x190 (.fv (.int .i64 14)) fun x270=>Y4 x270 x3 h59 x9 ih x5 x0 x13)
def WX (h53:Hp) (x42 x52:IV) (ih:Aa) (x9 x3 x0 x5 x13:IV):OH :=
 Ab x42 true h53 (fun k56=>I1 EE 3 x52 (.fv (.int .i64 2)) fun x57=>k56 x57 h53 [] []) fun x58 h59 _ _=>AF x42 x58 (.fv (.bool false)) fun x62=>Al x62 (Aj [] false false ih 56 [] h59 fun x63 h64 r65 w66=>AcP r65 w66 h64 x9 ih x3 x0 x63 x5 x13) (Ae 0 x5 fun x189=>Abh h59 x189 x3 x9 ih x5 x0 x13)
def ZI (h28:Hp) (x17:IV) (ih:Aa) (x27 x5 x9 x3 x0 x13:IV):OH :=
 Ab x17 true h28 (fun k31=>Aj [] false false ih 55 [x27,.fv (.int .i64 5)] h28 k31) fun x32 h33 _ _=>Ab x17 true h33 (fun k36=>A0 EE 3 x32 (.fv (.int .i64 4)) fun x37=>k36 x37 h33 [] []) fun x38 h39 _ _=>AF x17 x38 (.fv (.bool false)) fun x42=>Ab x42 true h39 (fun k43=>Ae 0 x5 fun x44=>k43 x44 h39 [] []) fun x45 h46 _ _=>Ab x42 true h46 (fun k49=>Ah x45 h46 fun x50 r51=>k49 x50 h46 r51 []) fun x52 h53 _ _=>WX h53 x42 x52 ih x9 x3 x0 x5 x13
def S61 (ih:Aa) (n:Nat) (x0 x1 x2 x3:IV) (h4:Hp):OH :=
 Bh 63963136 x1 h4 fun x5 h6 _ _=>Bh 63963137 x2 h6 fun x9 h10 _ _=>AM 63963138 (.row [.fv (.int .i64 0),.fv (.int .i64 0),.nils] false) (.ptr (.own 63963138) 0) h10 fun x13 h14 _ _=>KY EE 3 x3 (.fv (.int .i64 0)) fun x17=>Ab x17 true h14 (fun k18=>Ae 0 x9 fun x19=>k18 x19 h14 [] []) fun x20 h21 _ _=>Ab x17 true h21 (fun k24=>Ah x20 h21 fun x25 r26=>k24 x25 h21 r26 []) fun x27 h28 _ _=>ZI h28 x17 ih x27 x5 x9 x3 x0 x13
theorem AlQ (ih:Aa) (n:Nat) (x0 x1 x2 x3:IV) (h4:Hp):AI EE ih ft.get n 61 [x0,x1,x2,x3] h4=S61 ih n x0 x1 x2 x3 h4:=by kernel_rfl
def Ic (h28:Hp) (x13 x27:IV):OH :=
 Ak 3 x13 x27 h28 fun h31 _ _=>AK true 3 x13 h31 fun x34=>Ap [x34] h31
def Ib (x40:IV) (h14:Hp) (x13:IV):OH :=
 A9 EE 3 x40 (.fv (.int .i64 1)) fun x42=>Bz [.fv (.int .i64 0),.fv (.int .i64 0),.nils] [(0,1,.fv (.int .i64 1)),(1,1,x42)] fun x43=>Ak 3 x13 x43 h14 fun h44 _ _=>AK true 3 x13 h44 fun x47=>Ap [x47] h44
def IN (h50:Hp) (x13:IV):OH :=
 AK true 3 x13 h50 fun x53=>Ap [x53] h50
def IC (x36 x1 x5:IV) (h14:Hp) (x13:IV):OH :=
 KY EE 3 x36 x1 fun x38=>Al x38 (Ae 1 x5 fun x39=>Ah x39 h14 fun x40 _=>Ib x40 h14 x13) (Ai 3 x5 h14 fun x48 _=>Ak 3 x13 x48 h14 fun h50 _ _=>IN h50 x13)
def Iv (x22 x1:IV) (h14:Hp) (x9:IV) (ih:Aa) (x2 x13 x5:IV):OH :=
 A0 EE 3 x22 x1 fun x24=>Al x24 (Ai 3 x9 h14 fun x25 _=>Aj [] false false ih 31 [x25,x2,.fv (.int .i64 0)] h14 fun x27 h28 _ _=>Ic h28 x13 x27) (Ae 1 x5 fun x35=>Ah x35 h14 fun x36 _=>IC x36 x1 x5 h14 x13)
def Iq (x76:IV) (h112:Hp) (x111 x77:IV) (h4:Hp) (x71 x72 x73 x74 x75:IV) (q68:List IV→Hp→OH):OH :=
 Ae 2 x76 fun x115=>Bt x115 x111 h112 fun h116 r117 w118=>Ac [] r117 w118 (BH EE 3 x77 (.fv (.int .i64 1)) fun x119=>BB (h4.own.map (·.1)) [65024016] [x71,x72,x73,x74,x75,x76,x119] h116 fun h120=>q68 [x71,x72,x73,x74,x75,x76,x119] h120)
def H8 (r105 w106 r92:AD) (h104:Hp) (x103 x91 x76 x77:IV) (h4:Hp) (x71 x72 x73 x74 x75:IV) (q68:List IV→Hp→OH):OH :=
 Ac [(r92,[])] r105 w106 (Aw (Ag EE 29 1 [(0,x103)]) 65024015 h104 fun x107 h108 r109 w110=>Ac [(r92,[])] r109 w110 (Aw (AT EE 65024016 false .append [29,29] [x91,x107]) 65024016 h108 fun x111 h112 r113 w114=>Ac [] r113 w114 (Iq x76 h112 x111 x77 h4 x71 x72 x73 x74 x75 q68)))
def ID (x71 x86 x72:IV) (h87:Hp) (x74:IV) (r98 r95 r92:AD) (ih:Aa) (x97 x91 x76 x77:IV) (h4:Hp) (x73 x75:IV) (q68:List IV→Hp→OH):OH :=
 BH EE 3 x71 x86 fun x99=>BH EE 3 x72 x86 fun x100=>Ai 3 x74 h87 fun x101 r102=>Ac [(r98,[]),(r95,[]),(r92,[])] r102 [] (Aj [] false false ih 62 [x97,x99,x100,x101] h87 fun x103 h104 r105 w106=>H8 r105 w106 r92 h104 x103 x91 x76 x77 h4 x71 x72 x73 x74 x75 q68)
def IQ (h87:Hp) (x93:IV) (r92:AD) (x77 x71 x86 x72 x74:IV) (ih:Aa) (x91 x76:IV) (h4:Hp) (x73 x75:IV) (q68:List IV→Hp→OH):OH :=
 Ah x93 h87 fun x94 r95=>Ac [(r92,[])] r95 [] (Bc 3 x94 x77 fun x96=>Ai 3 x96 h87 fun x97 r98=>Ac [(r92,[])] r98 [] (ID x71 x86 x72 h87 x74 r98 r95 r92 ih x97 x91 x76 x77 h4 x73 x75 q68))
def H0 (ih:Aa) (h70:Hp) (x84 x77 x76 x73 x71 x72 x74:IV) (h4:Hp) (x75:IV) (q68:List IV→Hp→OH):OH :=
 Aj [] false false ih 63 [x84,x77] h70 fun x86 h87 _ _=>Ae 2 x76 fun x90=>Ah x90 h87 fun x91 r92=>Ac [] r92 [] (Ae 2 x73 fun x93=>IQ h87 x93 r92 x77 x71 x86 x72 x74 ih x91 x76 h4 x73 x75 q68)
def Ia (h123:Hp) (x75:IV):OH :=
 AK true 3 x75 h123 fun x126=>Ap [x126] h123
def Iu (x77 x81 x73:IV) (h70:Hp) (ih:Aa) (x76 x71 x72 x74:IV) (h4:Hp) (x75:IV) (q68:List IV→Hp→OH):OH :=
 Hm EE 3 x77 x81 fun x82=>Al x82 (Ae 0 x73 fun x83=>Ah x83 h70 fun x84 _=>H0 ih h70 x84 x77 x76 x73 x71 x72 x74 h4 x75 q68) (Ai 3 x76 h70 fun x121 _=>Ak 3 x75 x121 h70 fun h123 _ _=>Ia h123 x75)
def IL (l131:List IV) (x73:IV) (h70:Hp) (ih:Aa) (x71 x72 x74:IV) (h4:Hp) (x75:IV) (q68:List IV→Hp→OH):OH :=
 AH l131 fun x76 l132=>AH l132 fun x77 _=>Ae 2 x73 fun x78=>Ah x78 h70 fun x79 _=>Cf x79 fun x81=>Iu x77 x81 x73 h70 ih x76 x71 x72 x74 h4 x75 q68
def IB (l69:List IV) (h70:Hp) (ih:Aa) (h4:Hp) (q68:List IV→Hp→OH):OH :=
 AH l69 fun x71 l127=>AH l127 fun x72 l128=>AH l128 fun x73 l129=>AH l129 fun x74 l130=>AH l130 fun x75 l131=>IL l131 x73 h70 ih x71 x72 x74 h4 x75 q68
def Ik (h4 h65:Hp) (x1 x2 x5 x9 x13 x61:IV) (n:Nat) (ih:Aa):OH :=
 BB (h4.own.map (·.1)) [65024016] [x1,x2,x5,x9,x13,x61,.fv (.int .i64 0)] h65 fun h134=>BQ n (fun q68 l69 h70=>IB l69 h70 ih h4 q68) [x1,x2,x5,x9,x13,x61,.fv (.int .i64 0)] h134
def IK (x5:IV) (h14:Hp) (x55:IV) (h4:Hp) (x1 x2 x9 x13:IV) (n:Nat) (ih:Aa):OH :=
 Ae 1 x5 fun x57=>Ah x57 h14 fun x58 _=>Bz [.fv (.int .i64 0),.fv (.int .i64 0),.nils] [(0,1,x55),(1,1,x58)] fun x60=>AM 65018885 (.row [.fv (.int .i64 0),.fv (.int .i64 0),.nils] false) (.ptr (.own 65018885) 0) h14 fun x61 h62 _ _=>Ak 3 x61 x60 h62 fun h65 _ _=>Ik h4 h65 x1 x2 x5 x9 x13 x61 n ih
def In (x20 x5:IV) (h14:Hp) (x1 x9:IV) (ih:Aa) (x2 x13:IV) (h4:Hp) (n:Nat):OH :=
 Al x20 (Ae 1 x5 fun x21=>Ah x21 h14 fun x22 _=>Iv x22 x1 h14 x9 ih x2 x13 x5) (Ae 0 x5 fun x54=>Ah x54 h14 fun x55 _=>IK x5 h14 x55 h4 x1 x2 x9 x13 n ih)
def S62 (ih:Aa) (n:Nat) (x0 x1 x2 x3:IV) (h4:Hp):OH :=
 Bh 65011712 x0 h4 fun x5 h6 _ _=>Bh 65011713 x3 h6 fun x9 h10 _ _=>AM 65011714 (.row [.fv (.int .i64 0),.fv (.int .i64 0),.nils] false) (.ptr (.own 65011714) 0) h10 fun x13 h14 _ _=>Ae 0 x5 fun x17=>Ah x17 h14 fun x18 _=>A0 EE 3 x18 (.fv (.int .i64 1)) fun x20=>In x20 x5 h14 x1 x9 ih x2 x13 h4 n
theorem Am3 (ih:Aa) (n:Nat) (x0 x1 x2 x3:IV) (h4:Hp):AI EE ih ft.get n 62 [x0,x1,x2,x3] h4=S62 ih n x0 x1 x2 x3 h4:=by kernel_rfl
def AeY (x1:IV) (h7:Hp) (j0_3:Hp→OH):OH :=
 A0 EE 3 x1 (.fv (.int .i64 0)) fun x10=>Al x10 (Ap [.fv (.int .i64 1)] h7) (A0 EE 3 x1 (.fv (.int .i64 2)) fun x11=>Al x11 (Ap [.fv (.int .i64 2)] h7) (j0_3 h7))
def Afa (x6 x1:IV) (h7:Hp) (j0_3:Hp→OH) (x0:IV):OH :=
 Al x6 (A0 EE 3 x1 (.fv (.int .i64 1)) fun x8=>Al x8 (Ap [.fv (.int .i64 1)] h7) (j0_3 h7)) (A0 EE 3 x0 (.fv (.int .i64 13)) fun x9=>Al x9 (AeY x1 h7 j0_3) (j0_3 h7))
def Aet (x0:IV) (j1_5:IV→Hp→OH) (h2:Hp):OH :=
 A0 EE 3 x0 (.fv (.int .i64 29)) fun x17=>j1_5 x17 h2
def AeI (x0:IV) (j1_5:IV→Hp→OH) (h2:Hp):OH :=
 A0 EE 3 x0 (.fv (.int .i64 20)) fun x15=>Al x15 (j1_5 x15 h2) (A0 EE 3 x0 (.fv (.int .i64 28)) fun x16=>Al x16 (j1_5 x16 h2) (Aet x0 j1_5 h2))
def Agw (x13:IV) (j1_5:IV→Hp→OH) (h2:Hp) (x0:IV):OH :=
 Al x13 (j1_5 x13 h2) (A0 EE 3 x0 (.fv (.int .i64 6)) fun x14=>Al x14 (j1_5 x14 h2) (AeI x0 j1_5 h2))
def S63 (ih:Aa) (n:Nat) (x0 x1:IV) (h2:Hp):OH :=
 (fun (j0_3:Hp→OH)=>(fun (j1_5:IV→Hp→OH)=>A0 EE 3 x0 (.fv (.int .i64 3)) fun x12=>Al x12 (j1_5 x12 h2) (A0 EE 3 x0 (.fv (.int .i64 4)) fun x13=>Agw x13 j1_5 h2 x0)) fun x6 h7=>Afa x6 x1 h7 j0_3 x0) fun h4=>Ap [.fv (.int .i64 0)] h4
theorem AlG (ih:Aa) (n:Nat) (x0 x1:IV) (h2:Hp):AI EE ih ft.get n 63 [x0,x1] h2=S63 ih n x0 x1 h2:=by kernel_rfl
def Xx (h128:Hp) (x13 x127:IV):OH :=
 AK true 3 x13 h128 fun x131=>Ap [x131,x127] h128
def Xe (h113:Hp) (x50 x72 x94 x13 x112:IV):OH :=
 Ab x50 true h113 (fun k116=>k116 x72 h113 [] []) fun x117 h118 _ _=>AF x50 x117 (.fv (.bool false)) fun x121=>Ab x121 true h118 (fun k122=>k122 x94 h118 [] []) fun x123 h124 _ _=>AF x121 x123 (.fv (.bool false)) fun x127=>Ak 3 x13 x112 h124 fun h128 _ _=>Xx h128 x13 x127
def Xs (h99:Hp) (x51 x73 x95:IV) (ih:Aa) (x50 x72 x94 x13:IV):OH :=
 Ai 3 x51 h99 fun x102 _=>Ai 3 x73 h99 fun x104 _=>Ai 3 x95 h99 fun x106 _=>Aw (Ag EE 29 3 [(0,x102),(1,x104),(2,x106)]) 67116035 h99 fun x108 h109 _ _=>Aj [] false false ih 27 [.fv (.int .i64 27),x108] h109 fun x112 h113 _ _=>Xe h113 x50 x72 x94 x13 x112
def Zf (x89:IV) (h90:Hp) (r91 w92 r86 w87 r83 r81:AD) (x93 x51 x73:IV) (ih:Aa) (x50 x72 x13:IV):OH :=
 AL 1 x89 fun x94=>AM 67115018 (.row [.fv (.int .i64 0),.fv (.int .i64 0),.nils] false) (.ptr (.own 67115018) 0) h90 fun x95 h96 r97 w98=>Ac [(r91,w92),(r86,w87),(r83,[]),(r81,[])] r97 w98 (Ak 3 x95 x93 h96 fun h99 r100 w101=>Ac [] r100 w101 (Xs h99 x51 x73 x95 ih x50 x72 x94 x13))
def Zs (r86 w87 r81:AD) (x3:IV) (ih:Aa) (h85:Hp) (x0 x80 x84:IV) (r83:AD) (x51 x73 x50 x72 x13:IV):OH :=
 Ac [(r81,[])] r86 w87 (A9 EE 3 x3 (.fv (.int .i64 2)) fun x88=>Aj [] false false ih 32 [x0,x80,x84,x88] h85 fun x89 h90 r91 w92=>Ac [] r91 w92 (AL 0 x89 fun x93=>Zf x89 h90 r91 w92 r86 w87 r83 r81 x93 x51 x73 ih x50 x72 x13))
def WK (h77:Hp) (x5 x9:IV) (ih:Aa) (x3 x0 x51 x73 x50 x72 x13:IV):OH :=
 Ai 3 x5 h77 fun x80 r81=>Ac [] r81 [] (Ai 3 x9 h77 fun x82 r83=>Ac [(r81,[])] r83 [] (Aj [] false false ih 58 [x82,.fv (.int .i64 2)] h77 fun x84 h85 r86 w87=>Zs r86 w87 r81 x3 ih h85 x0 x80 x84 r83 x51 x73 x50 x72 x13))
def YD (x67:IV) (h68:Hp) (r69 w70 r64 w65 r61 r59:AD) (x71 x5 x9:IV) (ih:Aa) (x3 x0 x51 x50 x13:IV):OH :=
 AL 1 x67 fun x72=>AM 67113994 (.row [.fv (.int .i64 0),.fv (.int .i64 0),.nils] false) (.ptr (.own 67113994) 0) h68 fun x73 h74 r75 w76=>Ac [(r69,w70),(r64,w65),(r61,[]),(r59,[])] r75 w76 (Ak 3 x73 x71 h74 fun h77 r78 w79=>Ac [] r78 w79 (WK h77 x5 x9 ih x3 x0 x51 x73 x50 x72 x13))
def XN (r64 w65 r59:AD) (x3:IV) (ih:Aa) (h63:Hp) (x0 x58 x62:IV) (r61:AD) (x5 x9 x51 x50 x13:IV):OH :=
 Ac [(r59,[])] r64 w65 (A9 EE 3 x3 (.fv (.int .i64 2)) fun x66=>Aj [] false false ih 32 [x0,x58,x62,x66] h63 fun x67 h68 r69 w70=>Ac [] r69 w70 (AL 0 x67 fun x71=>YD x67 h68 r69 w70 r64 w65 r61 r59 x71 x5 x9 ih x3 x0 x51 x50 x13))
def AbB (h55:Hp) (x5 x9:IV) (ih:Aa) (x3 x0 x51 x50 x13:IV):OH :=
 Ai 3 x5 h55 fun x58 r59=>Ac [] r59 [] (Ai 3 x9 h55 fun x60 r61=>Ac [(r59,[])] r61 [] (Aj [] false false ih 58 [x60,.fv (.int .i64 1)] h55 fun x62 h63 r64 w65=>XN r64 w65 r59 x3 ih h63 x0 x58 x62 r61 x5 x9 x51 x50 x13))
def XG (x45:IV) (h46:Hp) (r47 w48 r42 w43 r39 r37:AD) (x49 x5 x9:IV) (ih:Aa) (x3 x0 x13:IV):OH :=
 AL 1 x45 fun x50=>AM 67112970 (.row [.fv (.int .i64 0),.fv (.int .i64 0),.nils] false) (.ptr (.own 67112970) 0) h46 fun x51 h52 r53 w54=>Ac [(r47,w48),(r42,w43),(r39,[]),(r37,[])] r53 w54 (Ak 3 x51 x49 h52 fun h55 r56 w57=>Ac [] r56 w57 (AbB h55 x5 x9 ih x3 x0 x51 x50 x13))
def AcH (r42 w43 r37:AD) (x3:IV) (ih:Aa) (h41:Hp) (x0 x36 x40:IV) (r39:AD) (x5 x9 x13:IV):OH :=
 Ac [(r37,[])] r42 w43 (A9 EE 3 x3 (.fv (.int .i64 2)) fun x44=>Aj [] false false ih 32 [x0,x36,x40,x44] h41 fun x45 h46 r47 w48=>Ac [] r47 w48 (AL 0 x45 fun x49=>XG x45 h46 r47 w48 r42 w43 r39 r37 x49 x5 x9 ih x3 x0 x13))
def Aa7 (h32:Hp) (x21 x9:IV) (ih:Aa) (x3 x0 x5 x13:IV):OH :=
 Ai 3 x21 h32 fun x36 r37=>Ac [] r37 [] (Ai 3 x9 h32 fun x38 r39=>Ac [(r37,[])] r39 [] (Aj [] false false ih 58 [x38,.fv (.int .i64 0)] h32 fun x40 h41 r42 w43=>AcH r42 w43 r37 x3 ih h41 x0 x36 x40 r39 x5 x9 x13))
def Aby (h218:Hp) (x13 x212 x221:IV):OH :=
 Ak 3 x13 x212 h218 fun h222 _ _=>AK true 3 x13 h222 fun x225=>Ap [x225,x221] h222
def AcQ (h201:Hp) (x197 x204:IV) (ih:Aa) (x164 x196 x13:IV):OH :=
 Ai 3 x197 h201 fun x206 _=>Aw (Ag EE 29 2 [(0,x204),(1,x206)]) 67121154 h201 fun x208 h209 _ _=>Aj [] false false ih 27 [.fv (.int .i64 28),x208] h209 fun x212 h213 _ _=>Ab x164 true h213 (fun k216=>k216 x196 h213 [] []) fun x217 h218 _ _=>AF x164 x217 (.fv (.bool false)) fun x221=>Aby h218 x13 x212 x221
def AaO (h192:Hp) (r193 w194 r188 w189 r185 r182 w183 r179 r176 w177 r173:AD) (x195 x165:IV) (ih:Aa) (x164 x196 x13:IV):OH :=
 AM 67120141 (.row [.fv (.int .i64 0),.fv (.int .i64 0),.nils] false) (.ptr (.own 67120141) 0) h192 fun x197 h198 r199 w200=>Ac [(r193,w194),(r188,w189),(r185,[]),(r182,w183),(r179,[]),(r176,w177),(r173,[])] r199 w200 (Ak 3 x197 x195 h198 fun h201 r202 w203=>Ac [] r202 w203 (Ai 3 x165 h201 fun x204 _=>AcQ h201 x197 x204 ih x164 x196 x13))
def Zn (x3:IV) (ih:Aa) (h187:Hp) (x174 x180 x186:IV) (r188 w189 r185 r182 w183 r179 r176 w177 r173:AD) (x165 x164 x13:IV):OH :=
 A9 EE 3 x3 (.fv (.int .i64 2)) fun x190=>Aj [] false false ih 32 [x174,x180,x186,x190] h187 fun x191 h192 r193 w194=>Ac [] r193 w194 (AL 0 x191 fun x195=>AL 1 x191 fun x196=>AaO h192 r193 w194 r188 w189 r185 r182 w183 r179 r176 w177 r173 x195 x165 ih x164 x196 x13)
def YR (r182 w183:AD) (h181:Hp) (x9:IV) (r179 r176 w177 r173:AD) (ih:Aa) (x3 x174 x180 x165 x164 x13:IV):OH :=
 Ac [] r182 w183 (Ai 3 x9 h181 fun x184 r185=>Ac [(r182,w183),(r179,[]),(r176,w177),(r173,[])] r185 [] (Aj [] false false ih 58 [x184,.fv (.int .i64 2)] h181 fun x186 h187 r188 w189=>Ac [] r188 w189 (Zn x3 ih h187 x174 x180 x186 r188 w189 r185 r182 w183 r179 r176 w177 r173 x165 x164 x13)))
def Abc (ih:Aa) (h169:Hp) (x0 x172 x5:IV) (r173:AD) (x9 x3 x165 x164 x13:IV):OH :=
 Aj [] false false ih 29 [x0,.fv (.int .i64 0),x172] h169 fun x174 h175 r176 w177=>Ac [] r176 w177 (Ai 3 x5 h175 fun x178 r179=>Ac [(r176,w177),(r173,[])] r179 [] (Aj [] false false ih 31 [x178,.fv (.int .i64 1),.fv (.int .i64 0)] h175 fun x180 h181 r182 w183=>YR r182 w183 h181 x9 r179 r176 w177 r173 ih x3 x174 x180 x165 x164 x13))
def AcG (r167 w168 r161 w162 r156 w157 r153 r151:AD) (h166:Hp) (x165 x163 x143:IV) (ih:Aa) (x0 x5 x9 x3 x164 x13:IV):OH :=
 Ac [(r161,w162),(r156,w157),(r153,[]),(r151,[])] r167 w168 (Ak 3 x165 x163 h166 fun h169 r170 w171=>Ac [] r170 w171 (Ai 3 x143 h169 fun x172 r173=>Ac [] r173 [] (Abc ih h169 x0 x172 x5 r173 x9 x3 x165 x164 x13)))
def AcC (ih:Aa) (h155:Hp) (x0 x150 x154 x158:IV) (r156 w157 r153 r151:AD) (x143 x5 x9 x3 x13:IV):OH :=
 Aj [] false false ih 32 [x0,x150,x154,x158] h155 fun x159 h160 r161 w162=>Ac [] r161 w162 (AL 0 x159 fun x163=>AL 1 x159 fun x164=>AM 67119114 (.row [.fv (.int .i64 0),.fv (.int .i64 0),.nils] false) (.ptr (.own 67119114) 0) h160 fun x165 h166 r167 w168=>AcG r167 w168 r161 w162 r156 w157 r153 r151 h166 x165 x163 x143 ih x0 x5 x9 x3 x164 x13)
def Y1 (h147:Hp) (x9:IV) (r151:AD) (ih:Aa) (x3 x0 x150 x143 x5 x13:IV):OH :=
 Ai 3 x9 h147 fun x152 r153=>Ac [(r151,[])] r153 [] (Aj [] false false ih 58 [x152,.fv (.int .i64 1)] h147 fun x154 h155 r156 w157=>Ac [(r151,[])] r156 w157 (A9 EE 3 x3 (.fv (.int .i64 2)) fun x158=>AcC ih h155 x0 x150 x154 x158 r156 w157 r153 r151 x143 x5 x9 x3 x13))
def Yg (ih:Aa) (h136:Hp) (x135 x9 x3 x0 x5 x13:IV):OH :=
 Aj [] false false ih 33 [x135,.fv (.int .i64 1)] h136 fun x139 h140 _ _=>AM 67118083 (.row [.fv (.int .i64 0),.fv (.int .i64 0),.nils] false) (.ptr (.own 67118083) 0) h140 fun x143 h144 _ _=>Ak 3 x143 x139 h144 fun h147 _ _=>Ai 3 x143 h147 fun x150 r151=>Ac [] r151 [] (Y1 h147 x9 r151 ih x3 x0 x150 x143 x5 x13)
def Ack (h317:Hp) (x258 x290 x13 x316:IV):OH :=
 Ab x258 true h317 (fun k320=>k320 x290 h317 [] []) fun x321 h322 _ _=>AF x258 x321 (.fv (.bool false)) fun x325=>Ak 3 x13 x316 h322 fun h326 r327 w328=>Ac [] r327 w328 (AK true 3 x13 h326 fun x329=>Ap [x329,x325] h326)
def Acr (r311 r308 w309 r304 w305 r301 r299:AD) (h307:Hp) (x306 x310:IV) (ih:Aa) (x258 x290 x13:IV):OH :=
 Ac [(r308,w309),(r304,w305),(r301,[]),(r299,[])] r311 [] (Aw (Ag EE 29 2 [(0,x306),(1,x310)]) 67126277 h307 fun x312 h313 r314 w315=>Ac [] r314 w315 (Aj [] false false ih 27 [.fv (.int .i64 21),x312] h313 fun x316 h317 r318 w319=>Ac [] r318 w319 (Ack h317 x258 x290 x13 x316)))
def Zt (h295:Hp) (x298 x300:IV) (ih:Aa) (x259:IV) (r301 r299:AD) (x258 x290 x13:IV):OH :=
 Aw (Ag EE 29 2 [(0,x298),(1,x300)]) 67126274 h295 fun x302 h303 r304 w305=>Ac [] r304 w305 (Aj [] false false ih 27 [.fv (.int .i64 20),x302] h303 fun x306 h307 r308 w309=>Ac [] r308 w309 (Ai 3 x259 h307 fun x310 r311=>Acr r311 r308 w309 r304 w305 r301 r299 h307 x306 x310 ih x258 x290 x13))
def AcF (r296 w297:AD) (h295:Hp) (x237 x291:IV) (ih:Aa) (x259 x258 x290 x13:IV):OH :=
 Ac [] r296 w297 (Ai 3 x237 h295 fun x298 r299=>Ac [] r299 [] (Ai 3 x291 h295 fun x300 r301=>Ac [(r299,[])] r301 [] (Zt h295 x298 x300 ih x259 r301 r299 x258 x290 x13)))
def AbR (x285:IV) (h286:Hp) (r287 w288 r282 w283 r279 r276 w277 r273 r270 w271 r267:AD) (x237:IV) (ih:Aa) (x259 x258 x13:IV):OH :=
 AL 0 x285 fun x289=>AL 1 x285 fun x290=>AM 67125261 (.row [.fv (.int .i64 0),.fv (.int .i64 0),.nils] false) (.ptr (.own 67125261) 0) h286 fun x291 h292 r293 w294=>Ac [(r287,w288),(r282,w283),(r279,[]),(r276,w277),(r273,[]),(r270,w271),(r267,[])] r293 w294 (Ak 3 x291 x289 h292 fun h295 r296 w297=>AcF r296 w297 h295 x237 x291 ih x259 x258 x290 x13)
def Ab5 (ih:Aa) (h275:Hp) (x278 x3 x268 x274:IV) (r279 r276 w277 r273 r270 w271 r267:AD) (x237 x259 x258 x13:IV):OH :=
 Aj [] false false ih 58 [x278,.fv (.int .i64 2)] h275 fun x280 h281 r282 w283=>Ac [] r282 w283 (A9 EE 3 x3 (.fv (.int .i64 2)) fun x284=>Aj [] false false ih 32 [x268,x274,x280,x284] h281 fun x285 h286 r287 w288=>Ac [] r287 w288 (AbR x285 h286 r287 w288 r282 w283 r279 r276 w277 r273 r270 w271 r267 x237 ih x259 x258 x13))
def AbM (r273 r270 w271 r267:AD) (ih:Aa) (h269:Hp) (x272 x9 x3 x268 x237 x259 x258 x13:IV):OH :=
 Ac [(r270,w271),(r267,[])] r273 [] (Aj [] false false ih 31 [x272,.fv (.int .i64 1),.fv (.int .i64 0)] h269 fun x274 h275 r276 w277=>Ac [] r276 w277 (Ai 3 x9 h275 fun x278 r279=>Ac [(r276,w277),(r273,[]),(r270,w271),(r267,[])] r279 [] (Ab5 ih h275 x278 x3 x268 x274 r279 r276 w277 r273 r270 w271 r267 x237 x259 x258 x13)))
def Abz (h263:Hp) (x237:IV) (ih:Aa) (x0 x5 x9 x3 x259 x258 x13:IV):OH :=
 Ai 3 x237 h263 fun x266 r267=>Ac [] r267 [] (Aj [] false false ih 29 [x0,.fv (.int .i64 0),x266] h263 fun x268 h269 r270 w271=>Ac [] r270 w271 (Ai 3 x5 h269 fun x272 r273=>AbM r273 r270 w271 r267 ih h269 x272 x9 x3 x268 x237 x259 x258 x13))
def Xc (x253:IV) (h254:Hp) (r255 w256 r250 w251 r247 r245:AD) (x257 x237:IV) (ih:Aa) (x0 x5 x9 x3 x13:IV):OH :=
 AL 1 x253 fun x258=>AM 67124234 (.row [.fv (.int .i64 0),.fv (.int .i64 0),.nils] false) (.ptr (.own 67124234) 0) h254 fun x259 h260 r261 w262=>Ac [(r255,w256),(r250,w251),(r247,[]),(r245,[])] r261 w262 (Ak 3 x259 x257 h260 fun h263 r264 w265=>Ac [] r264 w265 (Abz h263 x237 ih x0 x5 x9 x3 x259 x258 x13))
def AbK (r250 w251 r245:AD) (x3:IV) (ih:Aa) (h249:Hp) (x0 x244 x248:IV) (r247:AD) (x237 x5 x9 x13:IV):OH :=
 Ac [(r245,[])] r250 w251 (A9 EE 3 x3 (.fv (.int .i64 2)) fun x252=>Aj [] false false ih 32 [x0,x244,x248,x252] h249 fun x253 h254 r255 w256=>Ac [] r255 w256 (AL 0 x253 fun x257=>Xc x253 h254 r255 w256 r250 w251 r247 r245 x257 x237 ih x0 x5 x9 x3 x13))
def AaK (h241:Hp) (x237 x9:IV) (ih:Aa) (x3 x0 x5 x13:IV):OH :=
 Ai 3 x237 h241 fun x244 r245=>Ac [] r245 [] (Ai 3 x9 h241 fun x246 r247=>Ac [(r245,[])] r247 [] (Aj [] false false ih 58 [x246,.fv (.int .i64 1)] h241 fun x248 h249 r250 w251=>AbK r250 w251 r245 x3 ih h249 x0 x244 x248 r247 x237 x5 x9 x13))
def Xl (h32:Hp) (x9:IV) (ih:Aa) (x3 x0 x5 x13:IV):OH :=
 Ai 3 x9 h32 fun x227 _=>Aj [] false false ih 58 [x227,.fv (.int .i64 0)] h32 fun x229 h230 _ _=>Aj [] false false ih 33 [x229,.fv (.int .i64 1)] h230 fun x233 h234 _ _=>AM 67123203 (.row [.fv (.int .i64 0),.fv (.int .i64 0),.nils] false) (.ptr (.own 67123203) 0) h234 fun x237 h238 _ _=>Ak 3 x237 x233 h238 fun h241 _ _=>AaK h241 x237 x9 ih x3 x0 x5 x13
def Zo (x345 x396:IV) (h397:Hp) (x13 x391:IV):OH :=
 AF x345 x396 (.fv (.bool false)) fun x400=>Ak 3 x13 x391 h397 fun h401 _ _=>AK true 3 x13 h401 fun x404=>Ap [x404,x400] h401
def Aai (h372:Hp) (x375 x377:IV) (ih:Aa) (x345 x367 x13:IV):OH :=
 Aw (Ag EE 29 2 [(0,x375),(1,x377)]) 67130370 h372 fun x379 h380 _ _=>Aj [] false false ih 27 [.fv (.int .i64 22),x379] h380 fun x383 h384 _ _=>Aw (Ag EE 29 1 [(0,x383)]) 67130372 h384 fun x387 h388 _ _=>Aj [] false false ih 27 [.fv (.int .i64 23),x387] h388 fun x391 h392 _ _=>Ab x345 true h392 (fun k395=>k395 x367 h392 [] []) fun x396 h397 _ _=>Zo x345 x396 h397 x13 x391
def Abb (r370 w371 r364 w365 r359 w360 r356 r354:AD) (h369:Hp) (x368 x366 x346:IV) (ih:Aa) (x345 x367 x13:IV):OH :=
 Ac [(r364,w365),(r359,w360),(r356,[]),(r354,[])] r370 w371 (Ak 3 x368 x366 h369 fun h372 r373 w374=>Ac [] r373 w374 (Ai 3 x346 h372 fun x375 _=>Ai 3 x368 h372 fun x377 _=>Aai h372 x375 x377 ih x345 x367 x13))
def Xb (ih:Aa) (h358:Hp) (x0 x353 x357 x361:IV) (r359 w360 r356 r354:AD) (x346 x345 x13:IV):OH :=
 Aj [] false false ih 32 [x0,x353,x357,x361] h358 fun x362 h363 r364 w365=>Ac [] r364 w365 (AL 0 x362 fun x366=>AL 1 x362 fun x367=>AM 67129354 (.row [.fv (.int .i64 0),.fv (.int .i64 0),.nils] false) (.ptr (.own 67129354) 0) h363 fun x368 h369 r370 w371=>Abb r370 w371 r364 w365 r359 w360 r356 r354 h369 x368 x366 x346 ih x345 x367 x13)
def XF (h350:Hp) (x9:IV) (r354:AD) (ih:Aa) (x3 x0 x353 x346 x345 x13:IV):OH :=
 Ai 3 x9 h350 fun x355 r356=>Ac [(r354,[])] r356 [] (Aj [] false false ih 58 [x355,.fv (.int .i64 1)] h350 fun x357 h358 r359 w360=>Ac [(r354,[])] r359 w360 (A9 EE 3 x3 (.fv (.int .i64 2)) fun x361=>Xb ih h358 x0 x353 x357 x361 r359 w360 r356 r354 x346 x345 x13))
def ZZ (r348 w349 r342 w343 r337 w338 r334 r332:AD) (h347:Hp) (x346 x344 x21 x9:IV) (ih:Aa) (x3 x0 x345 x13:IV):OH :=
 Ac [(r342,w343),(r337,w338),(r334,[]),(r332,[])] r348 w349 (Ak 3 x346 x344 h347 fun h350 r351 w352=>Ac [] r351 w352 (Ai 3 x21 h350 fun x353 r354=>Ac [] r354 [] (XF h350 x9 r354 ih x3 x0 x353 x346 x345 x13)))
def Aag (ih:Aa) (h336:Hp) (x0 x331 x335 x339:IV) (r337 w338 r334 r332:AD) (x21 x9 x3 x13:IV):OH :=
 Aj [] false false ih 32 [x0,x331,x335,x339] h336 fun x340 h341 r342 w343=>Ac [] r342 w343 (AL 0 x340 fun x344=>AL 1 x340 fun x345=>AM 67128330 (.row [.fv (.int .i64 0),.fv (.int .i64 0),.nils] false) (.ptr (.own 67128330) 0) h341 fun x346 h347 r348 w349=>ZZ r348 w349 r342 w343 r337 w338 r334 r332 h347 x346 x344 x21 x9 ih x3 x0 x345 x13)
def WN (h32:Hp) (x9:IV) (r332:AD) (ih:Aa) (x3 x0 x331 x21 x13:IV):OH :=
 Ai 3 x9 h32 fun x333 r334=>Ac [(r332,[])] r334 [] (Aj [] false false ih 58 [x333,.fv (.int .i64 0)] h32 fun x335 h336 r337 w338=>Ac [(r332,[])] r337 w338 (A9 EE 3 x3 (.fv (.int .i64 2)) fun x339=>Aag ih h336 x0 x331 x335 x339 r337 w338 r334 r332 x21 x9 x3 x13))
def Xp (h447:Hp) (x13 x446 x430:IV):OH :=
 Ak 3 x13 x446 h447 fun h450 _ _=>AK true 3 x13 h450 fun x453=>Ap [x453,x430] h450
def YA (r436 w437:AD) (h435:Hp) (x5 x431:IV) (ih:Aa) (x13 x430:IV):OH :=
 Ac [] r436 w437 (Ai 3 x5 h435 fun x438 _=>Ai 3 x431 h435 fun x440 _=>Aw (Ag EE 29 2 [(0,x438),(1,x440)]) 67133442 h435 fun x442 h443 _ _=>Aj [] false false ih 27 [.fv (.int .i64 29),x442] h443 fun x446 h447 _ _=>Xp h447 x13 x446 x430)
def Zr (x425:IV) (h426:Hp) (r427 w428 r422 w423 r419 r416 w417 r413 r410 w411 r407:AD) (x5:IV) (ih:Aa) (x13:IV):OH :=
 AL 0 x425 fun x429=>AL 1 x425 fun x430=>AM 67132429 (.row [.fv (.int .i64 0),.fv (.int .i64 0),.nils] false) (.ptr (.own 67132429) 0) h426 fun x431 h432 r433 w434=>Ac [(r427,w428),(r422,w423),(r419,[]),(r416,w417),(r413,[]),(r410,w411),(r407,[])] r433 w434 (Ak 3 x431 x429 h432 fun h435 r436 w437=>YA r436 w437 h435 x5 x431 ih x13 x430)
def Aay (ih:Aa) (h415:Hp) (x418 x3 x408 x414:IV) (r419 r416 w417 r413 r410 w411 r407:AD) (x5 x13:IV):OH :=
 Aj [] false false ih 58 [x418,.fv (.int .i64 0)] h415 fun x420 h421 r422 w423=>Ac [] r422 w423 (A9 EE 3 x3 (.fv (.int .i64 2)) fun x424=>Aj [] false false ih 32 [x408,x414,x420,x424] h421 fun x425 h426 r427 w428=>Ac [] r427 w428 (Zr x425 h426 r427 w428 r422 w423 r419 r416 w417 r413 r410 w411 r407 x5 ih x13))
def WY (r413 r410 w411 r407:AD) (ih:Aa) (h409:Hp) (x412 x9 x3 x408 x5 x13:IV):OH :=
 Ac [(r410,w411),(r407,[])] r413 [] (Aj [] false false ih 31 [x412,.fv (.int .i64 1),.fv (.int .i64 0)] h409 fun x414 h415 r416 w417=>Ac [] r416 w417 (Ai 3 x9 h415 fun x418 r419=>Ac [(r416,w417),(r413,[]),(r410,w411),(r407,[])] r419 [] (Aay ih h415 x418 x3 x408 x414 r419 r416 w417 r413 r410 w411 r407 x5 x13)))
def Abq (h32:Hp) (x5:IV) (ih:Aa) (x0 x9 x3 x13:IV):OH :=
 Ai 3 x5 h32 fun x406 r407=>Ac [] r407 [] (Aj [] false false ih 29 [x0,.fv (.int .i64 0),x406] h32 fun x408 h409 r410 w411=>Ac [] r410 w411 (Ai 3 x5 h409 fun x412 r413=>WY r413 r410 w411 r407 ih h409 x412 x9 x3 x408 x5 x13))
def Ab2 (h481:Hp) (x484:IV) (ih:Aa) (x13 x476:IV):OH :=
 Aw (Ag EE 29 1 [(0,x484)]) 67135489 h481 fun x486 h487 _ _=>Aj [] false false ih 27 [.fv (.int .i64 30),x486] h487 fun x490 h491 _ _=>Ak 3 x13 x490 h491 fun h494 _ _=>AK true 3 x13 h494 fun x497=>Ap [x497,x476] h494
def Y8 (h472:Hp) (r473 w474 r468 w469 r465 r462 w463 r458 w459 r455:AD) (x475:IV) (ih:Aa) (x13 x476:IV):OH :=
 AM 67134476 (.row [.fv (.int .i64 0),.fv (.int .i64 0),.nils] false) (.ptr (.own 67134476) 0) h472 fun x477 h478 r479 w480=>Ac [(r473,w474),(r468,w469),(r465,[]),(r462,w463),(r458,w459),(r455,[])] r479 w480 (Ak 3 x477 x475 h478 fun h481 r482 w483=>Ac [] r482 w483 (Ai 3 x477 h481 fun x484 _=>Ab2 h481 x484 ih x13 x476))
def Y5 (x3:IV) (ih:Aa) (h467:Hp) (x0 x460 x466:IV) (r468 w469 r465 r462 w463 r458 w459 r455:AD) (x13:IV):OH :=
 A9 EE 3 x3 (.fv (.int .i64 1)) fun x470=>Aj [] false false ih 26 [x0,x460,x466,x470] h467 fun x471 h472 r473 w474=>Ac [] r473 w474 (AL 0 x471 fun x475=>AL 1 x471 fun x476=>Y8 h472 r473 w474 r468 w469 r465 r462 w463 r458 w459 r455 x475 ih x13 x476)
def AaZ (r462 w463:AD) (h461:Hp) (x9:IV) (r458 w459 r455:AD) (ih:Aa) (x3 x0 x460 x13:IV):OH :=
 Ac [] r462 w463 (Ai 3 x9 h461 fun x464 r465=>Ac [(r462,w463),(r458,w459),(r455,[])] r465 [] (Aj [] false false ih 58 [x464,.fv (.int .i64 0)] h461 fun x466 h467 r468 w469=>Ac [] r468 w469 (Y5 x3 ih h467 x0 x460 x466 r468 w469 r465 r462 w463 r458 w459 r455 x13)))
def Aa8 (h32:Hp) (x5:IV) (ih:Aa) (x9 x3 x0 x13:IV):OH :=
 Ai 3 x5 h32 fun x454 r455=>Ac [] r455 [] (Aw (Ag EE 29 1 [(0,x454)]) 67134466 h32 fun x456 h457 r458 w459=>Ac [] r458 w459 (Aj [] false false ih 27 [.fv (.int .i64 18),x456] h457 fun x460 h461 r462 w463=>AaZ r462 w463 h461 x9 r458 w459 r455 ih x3 x0 x460 x13))
def AaR (x31:IV) (h32:Hp) (x5 x9:IV) (ih:Aa) (x3 x0 x21 x13:IV):OH :=
 A0 EE 3 x31 (.fv (.int .i64 3)) fun x330=>Al x330 (Ai 3 x5 h32 fun x331 r332=>Ac [] r332 [] (WN h32 x9 r332 ih x3 x0 x331 x21 x13)) (A0 EE 3 x31 (.fv (.int .i64 4)) fun x405=>Al x405 (Abq h32 x5 ih x0 x9 x3 x13) (Aa8 h32 x5 ih x9 x3 x0 x13))
def X1 (x31:IV) (h32:Hp) (x9:IV) (ih:Aa) (x3 x0 x5 x13 x21:IV):OH :=
 A0 EE 3 x31 (.fv (.int .i64 1)) fun x132=>Al x132 (Ai 3 x9 h32 fun x133 _=>Aj [] false false ih 58 [x133,.fv (.int .i64 0)] h32 fun x135 h136 _ _=>Yg ih h136 x135 x9 x3 x0 x5 x13) (A0 EE 3 x31 (.fv (.int .i64 2)) fun x226=>Al x226 (Xl h32 x9 ih x3 x0 x5 x13) (AaR x31 h32 x5 x9 ih x3 x0 x21 x13))
def Za (x9:IV) (h25:Hp) (ih:Aa) (x21 x3 x0 x5 x13:IV):OH :=
 Ae 1 x9 fun x28=>Ah x28 h25 fun x29 _=>Aj [] false false ih 55 [x29,.fv (.int .i64 7)] h25 fun x31 h32 _ _=>A0 EE 3 x31 (.fv (.int .i64 0)) fun x35=>Al x35 (Aa7 h32 x21 x9 ih x3 x0 x5 x13) (X1 x31 h32 x9 ih x3 x0 x5 x13 x21)
def S64 (ih:Aa) (n:Nat) (x0 x1 x2 x3:IV) (h4:Hp):OH :=
 Bh 67108864 x1 h4 fun x5 h6 _ _=>Bh 67108865 x2 h6 fun x9 h10 _ _=>AM 67108866 (.row [.fv (.int .i64 0),.fv (.int .i64 0),.nils] false) (.ptr (.own 67108866) 0) h10 fun x13 h14 _ _=>Aj [] false false ih 27 [.fv (.int .i64 15),.nils] h14 fun x17 h18 _ _=>AM 67109889 (.row [.fv (.int .i64 0),.fv (.int .i64 0),.nils] false) (.ptr (.own 67109889) 0) h18 fun x21 h22 _ _=>Ak 3 x21 x17 h22 fun h25 _ _=>Za x9 h25 ih x21 x3 x0 x5 x13
theorem AkS (ih:Aa) (n:Nat) (x0 x1 x2 x3:IV) (h4:Hp):AI EE ih ft.get n 64 [x0,x1,x2,x3] h4=S64 ih n x0 x1 x2 x3 h4:=by kernel_rfl
def LB (h4:Hp) (x11 x1:IV):OH :=
 Ah x11 h4 fun x12 _=>A0 EE 3 x12 x1 fun x14=>Ap [x14] h4
def Lo (x18 x35:IV) (ih:Aa) (h36:Hp) (x30 x20:IV) (q15:List IV→Hp→OH) (x19:IV):OH :=
 BH EE 3 x18 x35 fun x39=>Aj [] false false ih 68 [x30,x39] h36 fun x40 h41 r42 w43=>Ac [] r42 w43 (Al x40 (Ap [.fv (.bool true)] h41) (BH EE 3 x20 (.fv (.int .i64 1)) fun x44=>q15 [x18,x19,x44] h41))
def Lt (x19:IV) (h17:Hp) (r31 r28:AD) (ih:Aa) (x20 x18 x30:IV) (q15:List IV→Hp→OH):OH :=
 Ae 0 x19 fun x32=>Ah x32 h17 fun x33 r34=>Ac [(r31,[]),(r28,[])] r34 [] (Aj [] false false ih 63 [x33,x20] h17 fun x35 h36 r37 w38=>Ac [(r31,[]),(r28,[])] r37 w38 (Lo x18 x35 ih h36 x30 x20 q15 x19))
def Lz (h17:Hp) (x26 x20 x19:IV) (ih:Aa) (x18:IV) (q15:List IV→Hp→OH):OH :=
 Ah x26 h17 fun x27 r28=>Ac [] r28 [] (Bc 3 x27 x20 fun x29=>Ai 3 x29 h17 fun x30 r31=>Ac [] r31 [] (Lt x19 h17 r31 r28 ih x20 x18 x30 q15))
def K6 (x22 x20 x19:IV) (h17:Hp) (ih:Aa) (x18:IV) (q15:List IV→Hp→OH):OH :=
 Cf x22 fun x24=>Hm EE 3 x20 x24 fun x25=>Al x25 (Ae 2 x19 fun x26=>Lz h17 x26 x20 x19 ih x18 q15) (Ap [.fv (.bool false)] h17)
def SU (l16:List IV) (h17:Hp) (ih:Aa) (q15:List IV→Hp→OH):OH :=
 AH l16 fun x18 l45=>AH l45 fun x19 l46=>AH l46 fun x20 _=>Ae 2 x19 fun x21=>Ah x21 h17 fun x22 _=>K6 x22 x20 x19 h17 ih x18 q15
def S68 (ih:Aa) (n:Nat) (x0 x1:IV) (h2:Hp):OH :=
 Bh 71303168 x0 h2 fun x3 h4 _ _=>Ae 0 x3 fun x7=>Ah x7 h4 fun x8 _=>A0 EE 3 x8 (.fv (.int .i64 1)) fun x10=>Al x10 (Ae 1 x3 fun x11=>LB h4 x11 x1) (BQ n (fun q15 l16 h17=>SU l16 h17 ih q15) [x1,x3,.fv (.int .i64 0)] h4)
theorem Ane (ih:Aa) (n:Nat) (x0 x1:IV) (h2:Hp):AI EE ih ft.get n 68 [x0,x1] h2=S68 ih n x0 x1 h2:=by kernel_rfl
def S69 (ih:Aa) (n:Nat) (x0 x1:IV) (h2:Hp):OH :=
 Aw (Ag EE 93 0 []) 72352768 h2 fun x3 h4 _ _=>Aw (AT EE 72352770 false .append [93,93] [x3,x0]) 72352770 h4 fun x7 h8 _ _=>Aw (AT EE 72352772 false .append [93,93] [x7,x1]) 72352772 h8 fun x11 h12 _ _=>Ap [x11] h12
theorem Akv (ih:Aa) (n:Nat) (x0 x1:IV) (h2:Hp):AI EE ih ft.get n 69 [x0,x1] h2=S69 ih n x0 x1 h2:=by kernel_rfl
def XT (r121 w122:AD) (h120:Hp) (x119:IV):OH :=
 Ac [] r121 w122 (Ap [x119] h120)
def Yk (h79:Hp) (x109:IV) (r103 r99:AD) (ih:Aa) (x102 x0 x98:IV):OH :=
 Aw (Ag EE 93 1 [(0,x109)]) 73406479 h79 fun x111 h112 r113 w114=>Ac [(r103,[]),(r99,[])] r113 w114 (Aj [] false false ih 69 [x102,x111] h112 fun x115 h116 r117 w118=>Ac [(r99,[])] r117 w118 (Aj [true,false,false] false false ih 49 [x0,x98,x115] h116 fun x119 h120 r121 w122=>XT r121 w122 h120 x119))
def Abs (h79:Hp) (x105:IV) (r103 r99:AD) (ih:Aa) (x102 x0 x98:IV):OH :=
 Ah x105 h79 fun x106 r107=>Ac [(r103,[]),(r99,[])] r107 [] (Bc 1 x106 (.fv (.int .i64 1)) fun x108=>Ah x108 h79 fun x109 r110=>Ac [(r103,[]),(r99,[])] r110 [] (Yk h79 x109 r103 r99 ih x102 x0 x98))
def Yv (x100:IV) (h79:Hp) (r99:AD) (x1:IV) (ih:Aa) (x0 x98:IV):OH :=
 Ae 3 x100 fun x101=>Ah x101 h79 fun x102 r103=>Ac [(r99,[])] r103 [] (AG x1 fun x104=>Ae 2 x104 fun x105=>Abs h79 x105 r103 r99 ih x102 x0 x98)
def Abt (x94:IV) (h79:Hp) (x1:IV) (ih:Aa) (x0:IV):OH :=
 AG x94 fun x96=>Ae 4 x96 fun x97=>Ai 3 x97 h79 fun x98 r99=>Ac [] r99 [] (AG x94 fun x100=>Yv x100 h79 r99 x1 ih x0 x98)
def Zz (x87:IV) (h79:Hp) (x1:IV) (ih:Aa) (x0:IV):OH :=
 AG x87 fun x89=>Ae 2 x89 fun x90=>Ah x90 h79 fun x91 _=>Bc 1 x91 (.fv (.int .i64 1)) fun x93=>Ah x93 h79 fun x94 _=>Abt x94 h79 x1 ih x0
def WU (x1:IV) (h79:Hp) (ih:Aa) (x0:IV):OH :=
 AG x1 fun x82=>Ae 2 x82 fun x83=>Ah x83 h79 fun x84 _=>Bc 1 x84 (.fv (.int .i64 0)) fun x86=>Ah x86 h79 fun x87 _=>Zz x87 h79 x1 ih x0
def Aak (x235 x242:IV) (h223:Hp):OH :=
 Bc 1 x235 x242 fun x243=>Ah x243 h223 fun x244 r245=>Ac [] r245 [] (Ap [x244] h223)
def ZP (x237:IV) (h223:Hp) (r236 r232 r229:AD) (x235:IV):OH :=
 Ae 0 x237 fun x238=>Ah x238 h223 fun x239 r240=>Ac [(r236,[]),(r232,[]),(r229,[])] r240 [] (BH EE 3 (.fv (.int .i64 1)) x239 fun x241=>A9 EE 3 x241 (.fv (.int .i64 8)) fun x242=>Aak x235 x242 h223)
def X7 (x231:IV) (h223:Hp) (x1:IV) (r232 r229:AD):OH :=
 AG x231 fun x233=>Ae 2 x233 fun x234=>Ah x234 h223 fun x235 r236=>Ac [] r236 [] (AG x1 fun x237=>ZP x237 h223 r236 r232 r229 x235)
def Z6 (h223:Hp) (x227 x1:IV):OH :=
 Ah x227 h223 fun x228 r229=>Ac [] r229 [] (Bc 1 x228 (.fv (.int .i64 0)) fun x230=>Ah x230 h223 fun x231 r232=>Ac [] r232 [] (X7 x231 h223 x1 r232 r229))
def Aaz (ih:Aa) (h218:Hp) (x0 x1:IV) (j0_3:Hp→OH):OH :=
 Aj [true] false false ih 86 [x0] h218 fun x222 h223 _ _=>Al x222 (AG x1 fun x226=>Ae 2 x226 fun x227=>Z6 h223 x227 x1) (j0_3 h223)
def AaH (x258:IV) (h250:Hp):OH :=
 AG x258 fun x260=>Ae 2 x260 fun x261=>Ah x261 h250 fun x262 _=>Bc 1 x262 (.fv (.int .i64 0)) fun x264=>Ah x264 h250 fun x265 _=>Ap [x265] h250
def Zb (x1:IV) (h250:Hp):OH :=
 AG x1 fun x253=>Ae 2 x253 fun x254=>Ah x254 h250 fun x255 _=>Bc 1 x255 (.fv (.int .i64 0)) fun x257=>Ah x257 h250 fun x258 _=>AaH x258 h250
def Z8 (h336:Hp) (x340:IV):OH :=
 Ah x340 h336 fun x341 _=>Bc 1 x341 (.fv (.int .i64 1)) fun x343=>Ah x343 h336 fun x344 _=>Ap [x344] h336
def AbP (x335 x1:IV) (h336:Hp) (j0_3:Hp→OH):OH :=
 Al x335 (AG x1 fun x339=>Ae 2 x339 fun x340=>Z8 h336 x340) (j0_3 h336)
def AaA (r483 w484 r480 r476:AD) (ih:Aa) (h482:Hp) (x479 x481 x0 x475:IV):OH :=
 Ac [(r480,[]),(r476,[])] r483 w484 (Aj [] false false ih 69 [x479,x481] h482 fun x485 h486 r487 w488=>Ac [(r476,[])] r487 w488 (Aj [true,false,false] false false ih 49 [x0,x475,x485] h486 fun x489 h490 r491 w492=>Ac [] r491 w492 (Ap [x489] h490)))
def Ye (x471:IV) (h463:Hp) (r476:AD) (x430 x462:IV) (ih:Aa) (x0 x475:IV):OH :=
 AG x471 fun x477=>Ae 3 x477 fun x478=>Ah x478 h463 fun x479 r480=>Ac [(r476,[])] r480 [] (Aw (Ag EE 93 2 [(0,x430),(1,x462)]) 73422859 h463 fun x481 h482 r483 w484=>AaA r483 w484 r480 r476 ih h482 x479 x481 x0 x475)
def Xu (h463:Hp) (x470 x430 x462:IV) (ih:Aa) (x0:IV):OH :=
 Ah x470 h463 fun x471 _=>AG x471 fun x473=>Ae 4 x473 fun x474=>Ai 3 x474 h463 fun x475 r476=>Ac [] r476 [] (Ye x471 h463 r476 x430 x462 ih x0 x475)
def Ab8 (r464 w465:AD) (x1:IV) (h463:Hp) (x430 x462:IV) (ih:Aa) (x0:IV):OH :=
 Ac [] r464 w465 (AG x1 fun x466=>Ae 2 x466 fun x467=>Ah x467 h463 fun x468 _=>Bc 1 x468 (.fv (.int .i64 2)) fun x470=>Xu h463 x470 x430 x462 ih x0)
def Aao (r455 w456:AD) (x453:IV) (h454:Hp) (ih:Aa) (x0 x1 x430:IV):OH :=
 Ac [] r455 w456 (Bz [.fv (.int .i64 0),.fv (.int .i64 0),.nils,.nils,.fv (.int .i64 0),.fv (.int .i64 0),.nils] [(0,1,.fv (.int .i64 13)),(2,1,x453)] fun x457=>Bh 73420822 x457 h454 fun x458 h459 r460 w461=>Ac [] r460 w461 (Aj [true,false] false false ih 70 [x0,x458] h459 fun x462 h463 r464 w465=>Ab8 r464 w465 x1 h463 x430 x462 ih x0))
def AaV (r449 r445 r442 r438 r435:AD) (x448:IV) (h415:Hp) (x437 x444 x430:IV) (ih:Aa) (x0 x1:IV):OH :=
 Ac [(r445,[]),(r442,[]),(r438,[]),(r435,[])] r449 [] (Bc 1 x448 (.fv (.int .i64 2)) fun x450=>Ah x450 h415 fun x451 r452=>Ac [(r445,[]),(r442,[]),(r438,[]),(r435,[])] r452 [] (Aw (Ag EE 93 4 [(0,x437),(1,x444),(2,x451),(3,x430)]) 73420820 h415 fun x453 h454 r455 w456=>Aao r455 w456 x453 h454 ih x0 x1 x430))
def AaN (h415:Hp) (x443:IV) (r438 r435:AD) (x1:IV) (r442:AD) (x437 x430:IV) (ih:Aa) (x0:IV):OH :=
 Ah x443 h415 fun x444 r445=>Ac [(r438,[]),(r435,[])] r445 [] (AG x1 fun x446=>Ae 2 x446 fun x447=>Ah x447 h415 fun x448 r449=>AaV r449 r445 r442 r438 r435 x448 h415 x437 x444 x430 ih x0 x1)
def Z7 (x1:IV) (h415:Hp) (r438 r435:AD) (x437 x430:IV) (ih:Aa) (x0:IV):OH :=
 AG x1 fun x439=>Ae 2 x439 fun x440=>Ah x440 h415 fun x441 r442=>Ac [(r438,[]),(r435,[])] r442 [] (Bc 1 x441 (.fv (.int .i64 1)) fun x443=>AaN h415 x443 r438 r435 x1 r442 x437 x430 ih x0)
def Aas (h415:Hp) (x433 x1 x430:IV) (ih:Aa) (x0:IV):OH :=
 Ah x433 h415 fun x434 r435=>Ac [] r435 [] (Bc 1 x434 (.fv (.int .i64 0)) fun x436=>Ah x436 h415 fun x437 r438=>Ac [] r438 [] (Z7 x1 h415 r438 r435 x437 x430 ih x0))
def Abd (h415:Hp) (x426 x1:IV) (ih:Aa) (x0:IV):OH :=
 Ah x426 h415 fun x427 _=>Bc 1 x427 (.fv (.int .i64 0)) fun x429=>Ah x429 h415 fun x430 _=>AG x1 fun x432=>Ae 2 x432 fun x433=>Aas h415 x433 x1 x430 ih x0
def AcI (h415:Hp) (x419 x1:IV) (ih:Aa) (x0:IV):OH :=
 Ah x419 h415 fun x420 _=>Bc 1 x420 (.fv (.int .i64 3)) fun x422=>Ah x422 h415 fun x423 _=>AG x423 fun x425=>Ae 2 x425 fun x426=>Abd h415 x426 x1 ih x0
def ZD (ih:Aa) (h410:Hp) (x0 x1:IV) (j0_3:Hp→OH):OH :=
 Aj [true] false false ih 86 [x0] h410 fun x414 h415 _ _=>Al x414 (AG x1 fun x418=>Ae 2 x418 fun x419=>AcI h415 x419 x1 ih x0) (j0_3 h415)
def Yp (h391:Hp) (x350 x390:IV) (ih:Aa) (x0 x1:IV) (j0_3:Hp→OH):OH :=
 Ab x350 true h391 (fun k394=>Ae 0 x390 fun x395=>k394 x395 h391 [] []) fun x396 h397 _ _=>Ab x350 true h397 (fun k400=>Ah x396 h397 fun x401 r402=>k400 x401 h397 r402 []) fun x403 h404 _ _=>Ab x350 true h404 (fun k407=>A0 EE 3 x403 (.fv (.int .i64 12)) fun x408=>k407 x408 h404 [] []) fun x409 h410 _ _=>AF x350 x409 (.fv (.bool false)) fun x413=>Al x413 (ZD ih h410 x0 x1 j0_3) (j0_3 h410)
def Aca (h359:Hp) (x350 x358:IV) (ih:Aa) (x0 x1:IV) (j0_3:Hp→OH):OH :=
 Ab x350 true h359 (fun k362=>Ae 2 x358 fun x363=>k362 x363 h359 [] []) fun x364 h365 _ _=>Ab x350 true h365 (fun k368=>Ah x364 h365 fun x369 r370=>k368 x369 h365 r370 []) fun x371 h372 _ _=>Ab x350 true h372 (fun k375=>Bc 1 x371 (.fv (.int .i64 3)) fun x376=>k375 x376 h372 [] []) fun x377 h378 _ _=>Ab x350 true h378 (fun k381=>Ah x377 h378 fun x382 r383=>k381 x382 h378 r383 []) fun x384 h385 _ _=>Ab x350 true h385 (fun k388=>AG x384 fun x389=>k388 x389 h385 [] []) fun x390 h391 _ _=>Yp h391 x350 x390 ih x0 x1 j0_3
def W6 (x346:IV) (h331:Hp) (x1:IV) (ih:Aa) (x0:IV) (j0_3:Hp→OH):OH :=
 Ae 0 x346 fun x347=>Ah x347 h331 fun x348 _=>A0 EE 3 x348 (.fv (.int .i64 13)) fun x350=>Ab x350 true h331 (fun k351=>k351 x1 h331 [] []) fun x352 h353 _ _=>Ab x350 true h353 (fun k356=>AG x352 fun x357=>k356 x357 h353 [] []) fun x358 h359 _ _=>Aca h359 x350 x358 ih x0 x1 j0_3
def Yu (h318:Hp) (x271 x317:IV) (ih:Aa) (x0 x1:IV) (j0_3:Hp→OH):OH :=
 Ab x271 true h318 (fun k321=>Ah x317 h318 fun x322 r323=>k321 x322 h318 r323 []) fun x324 h325 _ _=>Ab x271 true h325 (fun k328=>A0 EE 3 x324 (.fv (.int .i64 11)) fun x329=>k328 x329 h325 [] []) fun x330 h331 _ _=>AF x271 x330 (.fv (.bool false)) fun x334=>Al x334 (Aj [true] false false ih 86 [x0] h331 fun x335 h336 _ _=>AbP x335 x1 h336 j0_3) (AG x1 fun x346=>W6 x346 h331 x1 ih x0 j0_3)
def Acw (h286:Hp) (x271 x285:IV) (ih:Aa) (x0 x1:IV) (j0_3:Hp→OH):OH :=
 Ab x271 true h286 (fun k289=>Ah x285 h286 fun x290 r291=>k289 x290 h286 r291 []) fun x292 h293 _ _=>Ab x271 true h293 (fun k296=>Bc 1 x292 (.fv (.int .i64 3)) fun x297=>k296 x297 h293 [] []) fun x298 h299 _ _=>Ab x271 true h299 (fun k302=>Ah x298 h299 fun x303 r304=>k302 x303 h299 r304 []) fun x305 h306 _ _=>Ab x271 true h306 (fun k309=>AG x305 fun x310=>k309 x310 h306 [] []) fun x311 h312 _ _=>Ab x271 true h312 (fun k315=>Ae 0 x311 fun x316=>k315 x316 h312 [] []) fun x317 h318 _ _=>Yu h318 x271 x317 ih x0 x1 j0_3
def Ab0 (h248:Hp) (x268 x1:IV) (ih:Aa) (x0:IV) (j0_3:Hp→OH):OH :=
 Ah x268 h248 fun x269 _=>A0 EE 3 x269 (.fv (.int .i64 13)) fun x271=>Ab x271 true h248 (fun k272=>k272 x1 h248 [] []) fun x273 h274 _ _=>Ab x271 true h274 (fun k277=>AG x273 fun x278=>k277 x278 h274 [] []) fun x279 h280 _ _=>Ab x271 true h280 (fun k283=>Ae 2 x279 fun x284=>k283 x284 h280 [] []) fun x285 h286 _ _=>Acw h286 x271 x285 ih x0 x1 j0_3
def Xi (x247:IV) (ih:Aa) (h248:Hp) (x0 x1:IV) (j0_3:Hp→OH):OH :=
 Al x247 (Aj [true] false false ih 86 [x0] h248 fun x249 h250 _ _=>Al x249 (Zb x1 h250) (j0_3 h250)) (AG x1 fun x267=>Ae 0 x267 fun x268=>Ab0 h248 x268 x1 ih x0 j0_3)
def XZ (h612:Hp) (x565 x611:IV) (j1_246:IV→Hp→OH):OH :=
 Ab x565 true h612 (fun k615=>Ah x611 h612 fun x616 r617=>k615 x616 h612 r617 []) fun x618 h619 _ _=>Ab x565 true h619 (fun k622=>A0 EE 3 x618 (.fv (.int .i64 30)) fun x623=>k622 x623 h619 [] []) fun x624 h625 _ _=>AF x565 x624 (.fv (.bool false)) fun x628=>j1_246 x628 h625
def ZJ (h580:Hp) (x565 x579:IV) (j1_246:IV→Hp→OH):OH :=
 Ab x565 true h580 (fun k583=>Ah x579 h580 fun x584 r585=>k583 x584 h580 r585 []) fun x586 h587 _ _=>Ab x565 true h587 (fun k590=>Bc 1 x586 (.fv (.int .i64 0)) fun x591=>k590 x591 h587 [] []) fun x592 h593 _ _=>Ab x565 true h593 (fun k596=>Ah x592 h593 fun x597 r598=>k596 x597 h593 r598 []) fun x599 h600 _ _=>Ab x565 true h600 (fun k603=>AG x599 fun x604=>k603 x604 h600 [] []) fun x605 h606 _ _=>Ab x565 true h606 (fun k609=>Ae 0 x605 fun x610=>k609 x610 h606 [] []) fun x611 h612 _ _=>XZ h612 x565 x611 j1_246
def Abw (h557:Hp) (x562 x1:IV) (j1_246:IV→Hp→OH):OH :=
 Ah x562 h557 fun x563 _=>A0 EE 3 x563 (.fv (.int .i64 19)) fun x565=>Ab x565 true h557 (fun k566=>k566 x1 h557 [] []) fun x567 h568 _ _=>Ab x565 true h568 (fun k571=>AG x567 fun x572=>k571 x572 h568 [] []) fun x573 h574 _ _=>Ab x565 true h574 (fun k577=>Ae 2 x573 fun x578=>k577 x578 h574 [] []) fun x579 h580 _ _=>ZJ h580 x565 x579 j1_246
def Aa5 (x497 x556:IV) (j1_246:IV→Hp→OH) (h557:Hp) (x1:IV):OH :=
 AF x497 x556 (.fv (.bool false)) fun x560=>Al x560 (j1_246 x560 h557) (AG x1 fun x561=>Ae 0 x561 fun x562=>Abw h557 x562 x1 j1_246)
def AcR (h525:Hp) (x497 x524:IV) (j1_246:IV→Hp→OH) (x1:IV):OH :=
 Ab x497 true h525 (fun k528=>Ah x524 h525 fun x529 r530=>k528 x529 h525 r530 []) fun x531 h532 _ _=>Ab x497 true h532 (fun k535=>AG x531 fun x536=>k535 x536 h532 [] []) fun x537 h538 _ _=>Ab x497 true h538 (fun k541=>Ae 0 x537 fun x542=>k541 x542 h538 [] []) fun x543 h544 _ _=>Ab x497 true h544 (fun k547=>Ah x543 h544 fun x548 r549=>k547 x548 h544 r549 []) fun x550 h551 _ _=>Ab x497 true h551 (fun k554=>A0 EE 3 x550 (.fv (.int .i64 19)) fun x555=>k554 x555 h551 [] []) fun x556 h557 _ _=>Aa5 x497 x556 j1_246 h557 x1
def AbF (h218:Hp) (x497 x1:IV) (j1_246:IV→Hp→OH):OH :=
 Ab x497 true h218 (fun k498=>k498 x1 h218 [] []) fun x499 h500 _ _=>Ab x497 true h500 (fun k503=>AG x499 fun x504=>k503 x504 h500 [] []) fun x505 h506 _ _=>Ab x497 true h506 (fun k509=>Ae 2 x505 fun x510=>k509 x510 h506 [] []) fun x511 h512 _ _=>Ab x497 true h512 (fun k515=>Ah x511 h512 fun x516 r517=>k515 x516 h512 r517 []) fun x518 h519 _ _=>Ab x497 true h519 (fun k522=>Bc 1 x518 (.fv (.int .i64 0)) fun x523=>k522 x523 h519 [] []) fun x524 h525 _ _=>AcR h525 x497 x524 j1_246 x1
def XA (ih:Aa) (x0 x1:IV) (j0_3:Hp→OH) (h218:Hp):OH :=
 (fun (j1_246:IV→Hp→OH)=>AG x1 fun x493=>Ae 0 x493 fun x494=>Ah x494 h218 fun x495 _=>A0 EE 3 x495 (.fv (.int .i64 30)) fun x497=>AbF h218 x497 x1 j1_246) fun x247 h248=>Xi x247 ih h248 x0 x1 j0_3
def Xg (h199:Hp) (x158 x198:IV) (ih:Aa) (x0 x1:IV) (j0_3:Hp→OH):OH :=
 Ab x158 true h199 (fun k202=>Ae 0 x198 fun x203=>k202 x203 h199 [] []) fun x204 h205 _ _=>Ab x158 true h205 (fun k208=>Ah x204 h205 fun x209 r210=>k208 x209 h205 r210 []) fun x211 h212 _ _=>Ab x158 true h212 (fun k215=>A0 EE 3 x211 (.fv (.int .i64 7)) fun x216=>k215 x216 h212 [] []) fun x217 h218 _ _=>AF x158 x217 (.fv (.bool false)) fun x221=>Al x221 (Aaz ih h218 x0 x1 j0_3) (XA ih x0 x1 j0_3 h218)
def XB (h167:Hp) (x158 x166:IV) (ih:Aa) (x0 x1:IV) (j0_3:Hp→OH):OH :=
 Ab x158 true h167 (fun k170=>Ae 2 x166 fun x171=>k170 x171 h167 [] []) fun x172 h173 _ _=>Ab x158 true h173 (fun k176=>Ah x172 h173 fun x177 r178=>k176 x177 h173 r178 []) fun x179 h180 _ _=>Ab x158 true h180 (fun k183=>Bc 1 x179 (.fv (.int .i64 0)) fun x184=>k183 x184 h180 [] []) fun x185 h186 _ _=>Ab x158 true h186 (fun k189=>Ah x185 h186 fun x190 r191=>k189 x190 h186 r191 []) fun x192 h193 _ _=>Ab x158 true h193 (fun k196=>AG x192 fun x197=>k196 x197 h193 [] []) fun x198 h199 _ _=>Xg h199 x158 x198 ih x0 x1 j0_3
def ZM (h142:Hp) (x127 x141 x1:IV) (ih:Aa) (x0:IV) (j0_3:Hp→OH):OH :=
 Ab x127 false h142 (fun k145=>Ah x141 h142 fun x146 r147=>k145 x146 h142 r147 []) fun x148 h149 _ _=>Ab x127 false h149 (fun k152=>A0 EE 3 x148 (.fv (.int .i64 9)) fun x153=>k152 x153 h149 [] []) fun x154 h155 _ _=>AF x127 (.fv (.bool true)) x154 fun x158=>Ab x158 true h155 (fun k159=>k159 x1 h155 [] []) fun x160 h161 _ _=>Ab x158 true h161 (fun k164=>AG x160 fun x165=>k164 x165 h161 [] []) fun x166 h167 _ _=>XB h167 x158 x166 ih x0 x1 j0_3
def ZR (h74:Hp) (x124 x1:IV) (ih:Aa) (x0:IV) (j0_3:Hp→OH):OH :=
 Ah x124 h74 fun x125 _=>A0 EE 3 x125 (.fv (.int .i64 8)) fun x127=>Ab x127 false h74 (fun k128=>k128 x1 h74 [] []) fun x129 h130 _ _=>Ab x127 false h130 (fun k133=>AG x129 fun x134=>k133 x134 h130 [] []) fun x135 h136 _ _=>Ab x127 false h136 (fun k139=>Ae 0 x135 fun x140=>k139 x140 h136 [] []) fun x141 h142 _ _=>ZM h142 x127 x141 x1 ih x0 j0_3
def Aa9 (x77:IV) (ih:Aa) (h74:Hp) (x0 x1:IV) (j0_3:Hp→OH):OH :=
 Al x77 (Aj [true] false false ih 86 [x0] h74 fun x78 h79 _ _=>Al x78 (WU x1 h79 ih x0) (j0_3 h79)) (AG x1 fun x123=>Ae 0 x123 fun x124=>ZR h74 x124 x1 ih x0 j0_3)
def Abp (h49:Hp) (x14 x48:IV) (ih:Aa) (x0 x1:IV) (j0_3:Hp→OH):OH :=
 Ab x14 true h49 (fun k52=>AG x48 fun x53=>k52 x53 h49 [] []) fun x54 h55 _ _=>Ab x14 true h55 (fun k58=>Ae 0 x54 fun x59=>k58 x59 h55 [] []) fun x60 h61 _ _=>Ab x14 true h61 (fun k64=>Ah x60 h61 fun x65 r66=>k64 x65 h61 r66 []) fun x67 h68 _ _=>Ab x14 true h68 (fun k71=>A0 EE 3 x67 (.fv (.int .i64 4)) fun x72=>k71 x72 h68 [] []) fun x73 h74 _ _=>AF x14 x73 (.fv (.bool false)) fun x77=>Aa9 x77 ih h74 x0 x1 j0_3
def WO (h17:Hp) (x14 x16:IV) (ih:Aa) (x0 x1:IV) (j0_3:Hp→OH):OH :=
 Ab x14 true h17 (fun k20=>AG x16 fun x21=>k20 x21 h17 [] []) fun x22 h23 _ _=>Ab x14 true h23 (fun k26=>Ae 2 x22 fun x27=>k26 x27 h23 [] []) fun x28 h29 _ _=>Ab x14 true h29 (fun k32=>Ah x28 h29 fun x33 r34=>k32 x33 h29 r34 []) fun x35 h36 _ _=>Ab x14 true h36 (fun k39=>Bc 1 x35 (.fv (.int .i64 0)) fun x40=>k39 x40 h36 [] []) fun x41 h42 _ _=>Ab x14 true h42 (fun k45=>Ah x41 h42 fun x46 r47=>k45 x46 h42 r47 []) fun x48 h49 _ _=>Abp h49 x14 x48 ih x0 x1 j0_3
def AaB (x1:IV) (h2:Hp) (ih:Aa) (x0:IV) (j0_3:Hp→OH):OH :=
 AG x1 fun x10=>Ae 0 x10 fun x11=>Ah x11 h2 fun x12 _=>A0 EE 3 x12 (.fv (.int .i64 5)) fun x14=>Ab x14 true h2 (fun k15=>k15 x1 h2 [] []) fun x16 h17 _ _=>WO h17 x14 x16 ih x0 x1 j0_3
def S70 (ih:Aa) (n:Nat) (x0 x1:IV) (h2:Hp):OH :=
 (fun (j0_3:Hp→OH)=>AG x0 fun x5=>Ae 2 x5 fun x6=>Ah x6 h2 fun x7 _=>I1 EE 3 x7 (.fv (.int .i64 0)) fun x9=>Al x9 (Ap [x1] h2) (AaB x1 h2 ih x0 j0_3)) fun h4=>Ap [x1] h4
theorem Anp (ih:Aa) (n:Nat) (x0 x1:IV) (h2:Hp):AI EE ih ft.get n 70 [x0,x1] h2=S70 ih n x0 x1 h2:=by kernel_rfl
def AeS (x0:IV) (h7:Hp):OH :=
 A0 EE 3 x0 (.fv (.int .i64 13)) fun x9=>Al x9 (Ap [.fv (.int .i64 4)] h7) (Ap [.fv (.int .i64 (-1))] h7)
def Agl (x6:IV) (h7:Hp) (x0:IV):OH :=
 Al x6 (Ap [.fv (.int .i64 2)] h7) (A0 EE 3 x0 (.fv (.int .i64 7)) fun x8=>Al x8 (Ap [.fv (.int .i64 3)] h7) (AeS x0 h7))
def AgB (x10:IV) (j1_5:IV→Hp→OH) (h4:Hp) (x0:IV):OH :=
 Al x10 (j1_5 x10 h4) (A0 EE 3 x0 (.fv (.int .i64 5)) fun x11=>j1_5 x11 h4)
def Aft (x3:IV) (h4:Hp) (x0:IV):OH :=
 Al x3 (Ap [.fv (.int .i64 1)] h4) ((fun (j1_5:IV→Hp→OH)=>A0 EE 3 x0 (.fv (.int .i64 4)) fun x10=>AgB x10 j1_5 h4 x0) fun x6 h7=>Agl x6 h7 x0)
def AgF (x0:IV) (j1_2:IV→Hp→OH) (h1:Hp):OH :=
 A0 EE 3 x0 (.fv (.int .i64 30)) fun x16=>j1_2 x16 h1
def Afg (x0:IV) (j1_2:IV→Hp→OH) (h1:Hp):OH :=
 A0 EE 3 x0 (.fv (.int .i64 12)) fun x14=>Al x14 (j1_2 x14 h1) (A0 EE 3 x0 (.fv (.int .i64 19)) fun x15=>Al x15 (j1_2 x15 h1) (AgF x0 j1_2 h1))
def S71 (ih:Aa) (n:Nat) (x0:IV) (h1:Hp):OH :=
 (fun (j1_2:IV→Hp→OH)=>A0 EE 3 x0 (.fv (.int .i64 8)) fun x12=>Al x12 (j1_2 x12 h1) (A0 EE 3 x0 (.fv (.int .i64 9)) fun x13=>Al x13 (j1_2 x13 h1) (Afg x0 j1_2 h1))) fun x3 h4=>Aft x3 h4 x0
theorem Alu (ih:Aa) (n:Nat) (x0:IV) (h1:Hp):AI EE ih ft.get n 71 [x0] h1=S71 ih n x0 h1:=by kernel_rfl
def V6 (ih:Aa) (h23:Hp) (x0 x8 x22:IV):OH :=
 Aj [true,false,false,false] false false ih 81 [x0,x8,.fv (.int .i64 1),x22] h23 fun x26 h27 _ _=>Ap [x26] h27
def VY (x15:IV) (h2:Hp) (ih:Aa) (x0 x8:IV):OH :=
 Ae 2 x15 fun x16=>Ah x16 h2 fun x17 _=>Bc 1 x17 (.fv (.int .i64 1)) fun x19=>Ah x19 h2 fun x20 _=>Aw (Ag EE 104 1 [(0,x20)]) 75500552 h2 fun x22 h23 _ _=>V6 ih h23 x0 x8 x22
def Ww (x10:IV) (h2:Hp) (x1:IV) (ih:Aa) (x0 x8:IV):OH :=
 Ae 0 x10 fun x11=>Ah x11 h2 fun x12 _=>A0 EE 3 x12 (.fv (.int .i64 4)) fun x14=>Al x14 (AG x1 fun x15=>VY x15 h2 ih x0 x8) (Ap [.fv .nilp] h2)
def S72 (ih:Aa) (n:Nat) (x0 x1:IV) (h2:Hp):OH :=
 AG x1 fun x3=>Ae 2 x3 fun x4=>Ah x4 h2 fun x5 _=>Bc 1 x5 (.fv (.int .i64 0)) fun x7=>Ah x7 h2 fun x8 _=>AG x8 fun x10=>Ww x10 h2 x1 ih x0 x8
theorem AlH (ih:Aa) (n:Nat) (x0 x1:IV) (h2:Hp):AI EE ih ft.get n 72 [x0,x1] h2=S72 ih n x0 x1 h2:=by kernel_rfl
def SE (x20:IV) (h2:Hp):OH :=
 Ae 2 x20 fun x21=>Ah x21 h2 fun x22 _=>Bc 1 x22 (.fv (.int .i64 1)) fun x24=>Ah x24 h2 fun x25 _=>Ap [x25] h2
def SH (x27:IV) (h2:Hp):OH :=
 Ae 2 x27 fun x28=>Ah x28 h2 fun x29 _=>Bc 1 x29 (.fv (.int .i64 2)) fun x31=>Ah x31 h2 fun x32 _=>Ap [x32] h2
def Px (x15:IV) (h2:Hp) (x8:IV):OH :=
 Ae 0 x15 fun x16=>Ah x16 h2 fun x17 _=>A0 EE 3 x17 (.fv (.int .i64 8)) fun x19=>Al x19 (AG x8 fun x20=>SE x20 h2) (AG x8 fun x27=>SH x27 h2)
def PG (x10:IV) (h2:Hp) (x1 x8:IV):OH :=
 Ae 0 x10 fun x11=>Ah x11 h2 fun x12 _=>I1 EE 3 x12 (.fv (.int .i64 7)) fun x14=>Al x14 (Ap [.fv .nilp] h2) (AG x1 fun x15=>Px x15 h2 x8)
def S73 (ih:Aa) (n:Nat) (x0 x1:IV) (h2:Hp):OH :=
 AG x1 fun x3=>Ae 2 x3 fun x4=>Ah x4 h2 fun x5 _=>Bc 1 x5 (.fv (.int .i64 0)) fun x7=>Ah x7 h2 fun x8 _=>AG x8 fun x10=>PG x10 h2 x1 x8
theorem AkA (ih:Aa) (n:Nat) (x0 x1:IV) (h2:Hp):AI EE ih ft.get n 73 [x0,x1] h2=S73 ih n x0 x1 h2:=by kernel_rfl
def Qk (x15:IV) (h2:Hp):OH :=
 Ae 2 x15 fun x16=>Ah x16 h2 fun x17 _=>Bc 1 x17 (.fv (.int .i64 1)) fun x19=>Ah x19 h2 fun x20 _=>Ap [x20] h2
def Sa (h63:Hp) (x60 x62:IV) (ih:Aa) (x0 x1:IV):OH :=
 Aw (Ag EE 104 2 [(0,x60),(1,x62)]) 77602826 h63 fun x66 h67 r68 w69=>Ac [] r68 w69 (Aj [true,false,false,false] false false ih 81 [x0,x1,.fv (.int .i64 2),x66] h67 fun x70 h71 r72 w73=>Ac [] r72 w73 (Ap [x70] h71))
def RP (x57:IV) (h52:Hp) (ih:Aa) (x0 x26:IV) (r58:AD) (x1:IV):OH :=
 Bc 1 x57 (.fv (.int .i64 0)) fun x59=>Ah x59 h52 fun x60 r61=>Ac [] r61 [] (Aj [true,false] false false ih 80 [x0,x26] h52 fun x62 h63 r64 w65=>Ac [(r61,[]),(r58,[])] r64 w65 (Sa h63 x60 x62 ih x0 x1))
def PA (r53 w54:AD) (x8:IV) (h52:Hp) (ih:Aa) (x0 x26 x1:IV):OH :=
 Ac [] r53 w54 (AG x8 fun x55=>Ae 2 x55 fun x56=>Ah x56 h52 fun x57 r58=>Ac [] r58 [] (RP x57 h52 ih x0 x26 r58 x1))
def QK (r46 r39 r36:AD) (h30:Hp) (x38 x45 x26 x8:IV) (ih:Aa) (x0 x1:IV):OH :=
 Ac [(r39,[]),(r36,[])] r46 [] (Aw (Ag EE 104 4 [(0,.fv .nilp),(1,x38),(2,.fv .nilp),(3,x45)]) 77601804 h30 fun x47 h48 r49 w50=>Ac [] r49 w50 (Ae 2 x26 fun x51=>Bt x51 x47 h48 fun h52 r53 w54=>PA r53 w54 x8 h52 ih x0 x26 x1))
def Tb (x40:IV) (h30:Hp) (r39 r36:AD) (x38 x26 x8:IV) (ih:Aa) (x0 x1:IV):OH :=
 Ae 2 x40 fun x41=>Ah x41 h30 fun x42 r43=>Ac [(r39,[]),(r36,[])] r43 [] (Bc 1 x42 (.fv (.int .i64 0)) fun x44=>Ah x44 h30 fun x45 r46=>QK r46 r39 r36 h30 x38 x45 x26 x8 ih x0 x1)
def Rn (r36:AD) (x35:IV) (h30:Hp) (x8 x26:IV) (ih:Aa) (x0 x1:IV):OH :=
 Ac [] r36 [] (Bc 1 x35 (.fv (.int .i64 1)) fun x37=>Ah x37 h30 fun x38 r39=>Ac [] r39 [] (AG x8 fun x40=>Tb x40 h30 r39 r36 x38 x26 x8 ih x0 x1))
def RU (h2:Hp) (x24 x1 x8:IV) (ih:Aa) (x0:IV):OH :=
 AM 77600771 (.row [.fv (.int .i64 0),.fv (.int .i64 0),.nils,.fv (.int .i64 0),.fv (.int .i64 0),.nils,.fv (.nilp)] false) (.ptr (.own 77600771) 0) h2 fun x26 h27 _ _=>Ak 7 x26 x24 h27 fun h30 _ _=>AG x1 fun x33=>Ae 2 x33 fun x34=>Ah x34 h30 fun x35 r36=>Rn r36 x35 h30 x8 x26 ih x0 x1
def Qv (x22 x1:IV) (h2:Hp) (x8:IV) (ih:Aa) (x0:IV):OH :=
 Al x22 (AG x1 fun x23=>Ai 7 x23 h2 fun x24 _=>RU h2 x24 x1 x8 ih x0) (Ap [.fv .nilp] h2)
def Pp (x10:IV) (h2:Hp) (x1 x8:IV) (ih:Aa) (x0:IV):OH :=
 Ae 0 x10 fun x11=>Ah x11 h2 fun x12 _=>A0 EE 3 x12 (.fv (.int .i64 11)) fun x14=>Al x14 (AG x1 fun x15=>Qk x15 h2) (A0 EE 3 x12 (.fv (.int .i64 12)) fun x22=>Qv x22 x1 h2 x8 ih x0)
def S74 (ih:Aa) (n:Nat) (x0 x1:IV) (h2:Hp):OH :=
 AG x1 fun x3=>Ae 2 x3 fun x4=>Ah x4 h2 fun x5 _=>Bc 1 x5 (.fv (.int .i64 3)) fun x7=>Ah x7 h2 fun x8 _=>AG x8 fun x10=>Pp x10 h2 x1 x8 ih x0
theorem Anm (ih:Aa) (n:Nat) (x0 x1:IV) (h2:Hp):AI EE ih ft.get n 74 [x0,x1] h2=S74 ih n x0 x1 h2:=by kernel_rfl
def S75 (ih:Aa) (n:Nat) (x0 x1:IV) (h2:Hp):OH :=
 Aj [] false false ih 87 [x1,.fv (.int .i64 19)] h2 fun x3 h4 _ _=>Ap [x3] h4
theorem Al4 (ih:Aa) (n:Nat) (x0 x1:IV) (h2:Hp):AI EE ih ft.get n 75 [x0,x1] h2=S75 ih n x0 x1 h2:=by kernel_rfl
def S76 (ih:Aa) (n:Nat) (x0 x1:IV) (h2:Hp):OH :=
 Aj [] false false ih 87 [x1,.fv (.int .i64 30)] h2 fun x3 h4 _ _=>Ap [x3] h4
theorem AlB (ih:Aa) (n:Nat) (x0 x1:IV) (h2:Hp):AI EE ih ft.get n 76 [x0,x1] h2=S76 ih n x0 x1 h2:=by kernel_rfl
def Ta (h44:Hp) (x49:IV):OH :=
 Bt x49 (.fv (.int .i64 17)) h44 fun h50 _ _=>Ap [] h50
def S9 (x16 x43 x0:IV) (h44:Hp):OH :=
 AF x16 x43 (.fv (.bool false)) fun x47=>Al x47 (AG x0 fun x48=>Ae 3 x48 fun x49=>Ta h44 x49) (Ap [] h44)
def SW (h9:Hp) (x16 x0:IV):OH :=
 Ab x16 true h9 (fun k17=>k17 x0 h9 [] []) fun x18 h19 _ _=>Ab x16 true h19 (fun k22=>AG x18 fun x23=>k22 x23 h19 [] []) fun x24 h25 _ _=>Ab x16 true h25 (fun k28=>Ae 3 x24 fun x29=>k28 x29 h25 [] []) fun x30 h31 _ _=>Ab x16 true h31 (fun k34=>Ah x30 h31 fun x35 r36=>k34 x35 h31 r36 []) fun x37 h38 _ _=>Ab x16 true h38 (fun k41=>A0 EE 37 x37 (.fv (.int .i64 0)) fun x42=>k41 x42 h38 [] []) fun x43 h44 _ _=>S9 x16 x43 x0 h44
def Qd (h1:Hp) (x8 x6 x0:IV):OH :=
 Bt x8 x6 h1 fun h9 _ _=>AG x0 fun x12=>Ae 1 x12 fun x13=>Ah x13 h9 fun x14 _=>Hm EE 3 x14 (.fv (.int .i64 0)) fun x16=>SW h9 x16 x0
def S77 (ih:Aa) (n:Nat) (x0:IV) (h1:Hp):OH :=
 AG x0 fun x2=>Ae 1 x2 fun x3=>Ah x3 h1 fun x4 _=>A9 EE 3 x4 (.fv (.int .i64 1)) fun x6=>AG x0 fun x7=>Ae 1 x7 fun x8=>Qd h1 x8 x6 x0
theorem AlS (ih:Aa) (n:Nat) (x0:IV) (h1:Hp):AI EE ih ft.get n 77 [x0] h1=S77 ih n x0 h1:=by kernel_rfl
def Pq (h5:Hp) (x11:IV):OH :=
 Ah x11 h5 fun x12 _=>Ap [x12] h5
def RY (x15:IV) (h5:Hp) (q3:List IV→Hp→OH) (x14:IV):OH :=
 Ae 1 x15 fun x16=>Ah x16 h5 fun x17 _=>q3 [x17,x14] h5
def RD (x9 x6:IV) (h5:Hp) (x7:IV) (q3:List IV→Hp→OH):OH :=
 Al x9 (AG x6 fun x10=>Ae 0 x10 fun x11=>Pq h5 x11) (A9 EE 3 x7 (.fv (.int .i64 1)) fun x14=>AG x6 fun x15=>RY x15 h5 q3 x14)
def PW (x19:IV) (h5:Hp):OH :=
 Bz [.fv (.int .i64 0),.fv (.int .i64 0),.nils,.fv (.int .i64 0),.fv (.int .i64 0),.nils,.fv (.nilp)] [(0,1,.fv (.int .i64 1)),(1,1,x19)] fun x20=>Bh 81795075 x20 h5 fun x21 h22 _ _=>Ap [x21] h22
def NT (l4:List IV) (h5:Hp) (q3:List IV→Hp→OH):OH :=
 AH l4 fun x6 l25=>AH l25 fun x7 _=>I1 EE 102 x6 (.fv .nilp) fun x8=>Al x8 (A0 EE 3 x7 (.fv (.int .i64 0)) fun x9=>RD x9 x6 h5 x7 q3) (A9 EE 3 (.fv (.int .i64 (-1))) x7 fun x19=>PW x19 h5)
def S78 (ih:Aa) (n:Nat) (x0 x1:IV) (h2:Hp):OH :=
 BQ n (fun q3 l4 h5=>NT l4 h5 q3) [x0,x1] h2
theorem Ak9 (ih:Aa) (n:Nat) (x0 x1:IV) (h2:Hp):AI EE ih ft.get n 78 [x0,x1] h2=S78 ih n x0 x1 h2:=by kernel_rfl
def S79 (ih:Aa) (n:Nat) (x0 x1:IV) (h2:Hp):OH :=
 Jo EE ih (.fv (.func (.func 88) [] [])) [x0,x1] h2 fun x3 h4 _ _=>Ap [x3] h4
theorem AkH (ih:Aa) (n:Nat) (x0 x1:IV) (h2:Hp):AI EE ih ft.get n 79 [x0,x1] h2=S79 ih n x0 x1 h2:=by kernel_rfl
def Zi (h113:Hp) (x122:IV) (j0_104:Hp→OH):OH :=
 Bt x122 (.fv (.int .i64 17)) h113 fun h123 _ _=>j0_104 h123
def ZL (x120 x0:IV) (h113:Hp) (j0_104:Hp→OH):OH :=
 Al x120 (AG x0 fun x121=>Ae 3 x121 fun x122=>Zi h113 x122 j0_104) (j0_104 h113)
def YH (h100:Hp) (x112 x110 x0:IV) (j0_104:Hp→OH):OH :=
 Bt x112 x110 h100 fun h113 _ _=>AG x0 fun x116=>Ae 0 x116 fun x117=>Ah x117 h113 fun x118 _=>Hm EE 3 x118 (.fv (.int .i64 0)) fun x120=>ZL x120 x0 h113 j0_104
def Acn (x106:IV) (h100:Hp) (x0:IV) (j0_104:Hp→OH):OH :=
 Ae 0 x106 fun x107=>Ah x107 h100 fun x108 _=>A9 EE 3 x108 (.fv (.int .i64 1)) fun x110=>AG x0 fun x111=>Ae 0 x111 fun x112=>YH h100 x112 x110 x0 j0_104
def Aau (x103:IV) (h100:Hp) (x1 x68 x0:IV):OH :=
 Al x103 (Ap [x1] h100) ((fun (j0_104:Hp→OH)=>AG x0 fun x106=>Acn x106 h100 x0 j0_104) fun h105=>Ap [x68] h105)
def XR (h75:Hp) (x72 x74 x1 x68 x0:IV):OH :=
 Ab x72 false h75 (fun k78=>AG x74 fun x79=>k78 x79 h75 [] []) fun x80 h81 _ _=>Ab x72 false h81 (fun k84=>Ae 3 x80 fun x85=>k84 x85 h81 [] []) fun x86 h87 _ _=>Ab x72 false h87 (fun k90=>Ah x86 h87 fun x91 r92=>k90 x91 h87 r92 []) fun x93 h94 _ _=>Ab x72 false h94 (fun k97=>I1 EE 37 x93 (.fv (.int .i64 0)) fun x98=>k97 x98 h94 [] []) fun x99 h100 _ _=>AF x72 (.fv (.bool true)) x99 fun x103=>Aau x103 h100 x1 x68 x0
def AaL (x17:IV) (h57:Hp) (ih:Aa) (x1 x0:IV):OH :=
 Ae 0 x17 fun x65=>Ah x65 h57 fun x66 _=>Jo EE ih x66 [x1] h57 fun x68 h69 _ _=>A0 EE 76 x68 (.fv .nilp) fun x72=>Ab x72 false h69 (fun k73=>k73 x0 h69 [] []) fun x74 h75 _ _=>XR h75 x72 x74 x1 x68 x0
def Yi (x0:IV) (h57:Hp) (x1 x17:IV) (ih:Aa):OH :=
 AG x0 fun x60=>Ae 3 x60 fun x61=>Ah x61 h57 fun x62 _=>I1 EE 37 x62 (.fv (.int .i64 0)) fun x64=>Al x64 (Ap [x1] h57) (AaL x17 h57 ih x1 x0)
def Aaq (h46:Hp) (x24 x45 x1:IV) (ih:Aa) (x0 x17:IV):OH :=
 Ab x24 false h46 (fun k49=>I1 EE 37 x45 (.fv (.int .i64 0)) fun x50=>k49 x50 h46 [] []) fun x51 h52 _ _=>AF x24 (.fv (.bool true)) x51 fun x55=>Al x55 (Ap [x1] h52) (Aj [true] false false ih 77 [x0] h52 fun _ h57 _ _=>Yi x0 h57 x1 x17 ih)
def YQ (x16:IV) (h21:Hp) (x0 x1:IV) (ih:Aa) (x17:IV):OH :=
 CJ (KX .not x16) fun x24=>Ab x24 false h21 (fun k25=>k25 x0 h21 [] []) fun x26 h27 _ _=>Ab x24 false h27 (fun k30=>AG x26 fun x31=>k30 x31 h27 [] []) fun x32 h33 _ _=>Ab x24 false h33 (fun k36=>Ae 3 x32 fun x37=>k36 x37 h33 [] []) fun x38 h39 _ _=>Ab x24 false h39 (fun k42=>Ah x38 h39 fun x43 r44=>k42 x43 h39 r44 []) fun x45 h46 _ _=>Aaq h46 x24 x45 x1 ih x0 x17
def AcB (x11:IV) (h12:Hp) (r13 w14 r10 r6:AD) (x15 x0 x1:IV) (ih:Aa):OH :=
 AL 1 x11 fun x16=>AM 83887116 (.row [.fv (.nilf)] false) (.ptr (.own 83887116) 0) h12 fun x17 h18 r19 w20=>Ac [(r13,w14),(r10,[]),(r6,[])] r19 w20 (Bt x17 x15 h18 fun h21 r22 w23=>Ac [] r22 w23 (YQ x16 h21 x0 x1 ih x17))
def YZ (h2:Hp) (x8:IV) (r6:AD) (x5 x0 x1:IV) (ih:Aa):OH :=
 Ah x8 h2 fun x9 r10=>Ac [(r6,[])] r10 [] (Aw (GK EE 78 x5 x9 true) 83887112 h2 fun x11 h12 r13 w14=>Ac [] r13 w14 (AL 0 x11 fun x15=>AcB x11 h12 r13 w14 r10 r6 x15 x0 x1 ih))
def S80 (ih:Aa) (n:Nat) (x0 x1:IV) (h2:Hp):OH :=
 AG x0 fun x3=>Ae 4 x3 fun x4=>Ah x4 h2 fun x5 r6=>Ac [] r6 [] (AG x1 fun x7=>Ae 0 x7 fun x8=>YZ h2 x8 r6 x5 x0 x1 ih)
theorem AlO (ih:Aa) (n:Nat) (x0 x1:IV) (h2:Hp):AI EE ih ft.get n 80 [x0,x1] h2=S80 ih n x0 x1 h2:=by kernel_rfl
def Ad6 (x16 x2:IV) (h10:Hp) (r11 w12 r8:AD) (ih:Aa) (x0 x9:IV):OH :=
 Bc 3 x16 x2 fun x18=>Ai 3 x18 h10 fun x19 r20=>Ac [(r11,w12),(r8,[])] r20 [] (Aj [true,false,false] false false ih 52 [x0,x9,x19] h10 fun x21 h22 r23 w24=>Ac [] r23 w24 (Ap [x21] h22))
def AgZ (x1:IV) (h10:Hp) (r11 w12 r8:AD) (x2:IV) (ih:Aa) (x0 x9:IV):OH :=
 AG x1 fun x13=>Ae 3 x13 fun x14=>Ae 2 x14 fun x15=>Ah x15 h10 fun x16 r17=>Ac [(r11,w12),(r8,[])] r17 [] (Ad6 x16 x2 h10 r11 w12 r8 ih x0 x9)
def S81 (ih:Aa) (n:Nat) (x0 x1 x2 x3:IV) (h4:Hp):OH :=
 AG x1 fun x5=>Ae 6 x5 fun x6=>Ah x6 h4 fun x7 r8=>Ac [] r8 [] (Aj [] false false ih 89 [x7,x3] h4 fun x9 h10 r11 w12=>Ac [] r11 w12 (AgZ x1 h10 r11 w12 r8 x2 ih x0 x9))
theorem AlW (ih:Aa) (n:Nat) (x0 x1 x2 x3:IV) (h4:Hp):AI EE ih ft.get n 81 [x0,x1,x2,x3] h4=S81 ih n x0 x1 x2 x3 h4:=by kernel_rfl
def Rv (x12:IV) (h13:Hp) (x0:IV):OH :=
 Al x12 (Ap [.fv (.int .i64 3)] h13) (A0 EE 3 x0 (.fv (.int .i64 13)) fun x14=>Al x14 (Ap [.fv (.int .i64 4)] h13) (Ap [.fv (.int .i64 (-1))] h13))
def Sq (x15:IV) (j1_11:IV→Hp→OH) (h10:Hp) (x0:IV):OH :=
 Al x15 (j1_11 x15 h10) (A0 EE 3 x0 (.fv (.int .i64 27)) fun x16=>j1_11 x16 h10)
def QD (x9:IV) (h10:Hp) (x0:IV):OH :=
 Al x9 (Ap [.fv (.int .i64 2)] h10) ((fun (j1_11:IV→Hp→OH)=>A0 EE 3 x0 (.fv (.int .i64 7)) fun x15=>Sq x15 j1_11 h10 x0) fun x12 h13=>Rv x12 h13 x0)
def QJ (x0:IV) (j1_8:IV→Hp→OH) (h7:Hp):OH :=
 A0 EE 3 x0 (.fv (.int .i64 28)) fun x27=>Al x27 (j1_8 x27 h7) (A0 EE 3 x0 (.fv (.int .i64 29)) fun x28=>j1_8 x28 h7)
def Sx (x0:IV) (j1_8:IV→Hp→OH) (h7:Hp):OH :=
 A0 EE 3 x0 (.fv (.int .i64 22)) fun x25=>Al x25 (j1_8 x25 h7) (A0 EE 3 x0 (.fv (.int .i64 26)) fun x26=>Al x26 (j1_8 x26 h7) (QJ x0 j1_8 h7))
def QI (x0:IV) (j1_8:IV→Hp→OH) (h7:Hp):OH :=
 A0 EE 3 x0 (.fv (.int .i64 20)) fun x23=>Al x23 (j1_8 x23 h7) (A0 EE 3 x0 (.fv (.int .i64 21)) fun x24=>Al x24 (j1_8 x24 h7) (Sx x0 j1_8 h7))
def Ri (x0:IV) (j1_8:IV→Hp→OH) (h7:Hp):OH :=
 A0 EE 3 x0 (.fv (.int .i64 16)) fun x21=>Al x21 (j1_8 x21 h7) (A0 EE 3 x0 (.fv (.int .i64 17)) fun x22=>Al x22 (j1_8 x22 h7) (QI x0 j1_8 h7))
def QN (x0:IV) (j1_8:IV→Hp→OH) (h7:Hp):OH :=
 A0 EE 3 x0 (.fv (.int .i64 5)) fun x19=>Al x19 (j1_8 x19 h7) (A0 EE 3 x0 (.fv (.int .i64 6)) fun x20=>Al x20 (j1_8 x20 h7) (Ri x0 j1_8 h7))
def Qh (x17:IV) (j1_8:IV→Hp→OH) (h7:Hp) (x0:IV):OH :=
 Al x17 (j1_8 x17 h7) (A0 EE 3 x0 (.fv (.int .i64 4)) fun x18=>Al x18 (j1_8 x18 h7) (QN x0 j1_8 h7))
def Si (x6:IV) (h7:Hp) (x0:IV):OH :=
 Al x6 (Ap [.fv (.int .i64 1)] h7) ((fun (j1_8:IV→Hp→OH)=>A0 EE 3 x0 (.fv (.int .i64 3)) fun x17=>Qh x17 j1_8 h7 x0) fun x9 h10=>QD x9 h10 x0)
def Qm (x0:IV) (j1_5:IV→Hp→OH) (h4:Hp):OH :=
 A0 EE 3 x0 (.fv (.int .i64 24)) fun x35=>Al x35 (j1_5 x35 h4) (A0 EE 3 x0 (.fv (.int .i64 30)) fun x36=>j1_5 x36 h4)
def PE (x0:IV) (j1_5:IV→Hp→OH) (h4:Hp):OH :=
 A0 EE 3 x0 (.fv (.int .i64 19)) fun x33=>Al x33 (j1_5 x33 h4) (A0 EE 3 x0 (.fv (.int .i64 23)) fun x34=>Al x34 (j1_5 x34 h4) (Qm x0 j1_5 h4))
def Ro (x0:IV) (j1_5:IV→Hp→OH) (h4:Hp):OH :=
 A0 EE 3 x0 (.fv (.int .i64 12)) fun x31=>Al x31 (j1_5 x31 h4) (A0 EE 3 x0 (.fv (.int .i64 18)) fun x32=>Al x32 (j1_5 x32 h4) (PE x0 j1_5 h4))
def PT (x29:IV) (j1_5:IV→Hp→OH) (h4:Hp) (x0:IV):OH :=
 Al x29 (j1_5 x29 h4) (A0 EE 3 x0 (.fv (.int .i64 9)) fun x30=>Al x30 (j1_5 x30 h4) (Ro x0 j1_5 h4))
def R7 (x3:IV) (h4:Hp) (x0:IV):OH :=
 Al x3 (Ap [.fv (.int .i64 0)] h4) ((fun (j1_5:IV→Hp→OH)=>A0 EE 3 x0 (.fv (.int .i64 8)) fun x29=>PT x29 j1_5 h4 x0) fun x6 h7=>Si x6 h7 x0)
def Sm (x0:IV) (j1_2:IV→Hp→OH) (h1:Hp):OH :=
 A0 EE 3 x0 (.fv (.int .i64 25)) fun x43=>j1_2 x43 h1
def Py (x0:IV) (j1_2:IV→Hp→OH) (h1:Hp):OH :=
 A0 EE 3 x0 (.fv (.int .i64 14)) fun x41=>Al x41 (j1_2 x41 h1) (A0 EE 3 x0 (.fv (.int .i64 15)) fun x42=>Al x42 (j1_2 x42 h1) (Sm x0 j1_2 h1))
def PM (x0:IV) (j1_2:IV→Hp→OH) (h1:Hp):OH :=
 A0 EE 3 x0 (.fv (.int .i64 10)) fun x39=>Al x39 (j1_2 x39 h1) (A0 EE 3 x0 (.fv (.int .i64 11)) fun x40=>Al x40 (j1_2 x40 h1) (Py x0 j1_2 h1))
def S82 (ih:Aa) (n:Nat) (x0:IV) (h1:Hp):OH :=
 (fun (j1_2:IV→Hp→OH)=>A0 EE 3 x0 (.fv (.int .i64 1)) fun x37=>Al x37 (j1_2 x37 h1) (A0 EE 3 x0 (.fv (.int .i64 2)) fun x38=>Al x38 (j1_2 x38 h1) (PM x0 j1_2 h1))) fun x3 h4=>R7 x3 h4 x0
theorem AkL (ih:Aa) (n:Nat) (x0:IV) (h1:Hp):AI EE ih ft.get n 82 [x0] h1=S82 ih n x0 h1:=by kernel_rfl
def Ae4 (h7:Hp) (x4 x6:IV):OH :=
 Ab x4 true h7 (fun k10=>leS EE 3 x6 (.fv (.int .i64 3000)) fun x11=>k10 x11 h7 [] []) fun x12 h13 _ _=>AF x4 x12 (.fv (.bool false)) fun x16=>Ap [x16] h13
def AgD (x1:IV) (h2:Hp):OH :=
 geS EE 3 x1 (.fv (.int .i64 0)) fun x18=>Ab x18 true h2 (fun k19=>k19 x1 h2 [] []) fun x20 h21 _ _=>Ab x18 true h21 (fun k24=>leS EE 3 x20 (.fv (.int .i64 2)) fun x25=>k24 x25 h21 [] []) fun x26 h27 _ _=>AF x18 x26 (.fv (.bool false)) fun x30=>Ap [x30] h27
def AeC (h35:Hp) (x32 x34:IV):OH :=
 Ab x32 true h35 (fun k38=>leS EE 3 x34 (.fv (.int .i64 4)) fun x39=>k38 x39 h35 [] []) fun x40 h41 _ _=>AF x32 x40 (.fv (.bool false)) fun x44=>Ap [x44] h41
def AgM (x1:IV) (h2:Hp):OH :=
 A0 EE 3 x1 (.fv (.int .i64 0)) fun x46=>Ap [x46] h2
def Afu (x0 x1:IV) (h2:Hp):OH :=
 A0 EE 3 x0 (.fv (.int .i64 26)) fun x31=>Al x31 (geS EE 3 x1 (.fv (.int .i64 0)) fun x32=>Ab x32 true h2 (fun k33=>k33 x1 h2 [] []) fun x34 h35 _ _=>AeC h35 x32 x34) (A0 EE 3 x0 (.fv (.int .i64 25)) fun x45=>Al x45 (Ap [.fv (.bool true)] h2) (AgM x1 h2))
def S83 (ih:Aa) (n:Nat) (x0 x1:IV) (h2:Hp):OH :=
 A0 EE 3 x0 (.fv (.int .i64 1)) fun x3=>Al x3 (geS EE 3 x1 (.fv (.int .i64 0)) fun x4=>Ab x4 true h2 (fun k5=>k5 x1 h2 [] []) fun x6 h7 _ _=>Ae4 h7 x4 x6) (A0 EE 3 x0 (.fv (.int .i64 2)) fun x17=>Al x17 (AgD x1 h2) (Afu x0 x1 h2))
theorem AmI (ih:Aa) (n:Nat) (x0 x1:IV) (h2:Hp):AI EE ih ft.get n 83 [x0,x1] h2=S83 ih n x0 x1 h2:=by kernel_rfl
def Wo (x0:IV) (h13:Hp):OH :=
 AG x0 fun x14=>Ae 2 x14 fun x15=>Ah x15 h13 fun x16 _=>A0 EE 3 x16 (.fv (.int .i64 0)) fun x18=>Ap [x18] h13
def VL (h9:Hp) (x25:IV) (j0_12:Hp→OH):OH :=
 Bt x25 (.fv (.int .i64 17)) h9 fun h26 _ _=>j0_12 h26
def Vl (x21 x0:IV) (h9:Hp) (j0_12:Hp→OH):OH :=
 KY EE 3 x21 (.fv (.int .i64 1000)) fun x23=>Al x23 (AG x0 fun x24=>Ae 2 x24 fun x25=>VL h9 x25 j0_12) (j0_12 h9)
def VM (h1:Hp) (x8 x6 x0:IV):OH :=
 Bt x8 x6 h1 fun h9 _ _=>(fun (j0_12:Hp→OH)=>AG x0 fun x19=>Ae 0 x19 fun x20=>Ah x20 h9 fun x21 _=>Vl x21 x0 h9 j0_12) fun h13=>Wo x0 h13
def S86 (ih:Aa) (n:Nat) (x0:IV) (h1:Hp):OH :=
 AG x0 fun x2=>Ae 0 x2 fun x3=>Ah x3 h1 fun x4 _=>BH EE 3 x4 (.fv (.int .i64 1)) fun x6=>AG x0 fun x7=>Ae 0 x7 fun x8=>VM h1 x8 x6 x0
theorem Ami (ih:Aa) (n:Nat) (x0:IV) (h1:Hp):AI EE ih ft.get n 86 [x0] h1=S86 ih n x0 h1:=by kernel_rfl
def WA (x22:IV) (h2:Hp):OH :=
 Ae 2 x22 fun x23=>Ah x23 h2 fun x24 _=>Bc 1 x24 (.fv (.int .i64 0)) fun x26=>Ah x26 h2 fun x27 _=>Ap [x27] h2
def Vc (x15:IV) (h2:Hp):OH :=
 Ae 2 x15 fun x16=>Ah x16 h2 fun x17 _=>Bc 1 x17 (.fv (.int .i64 0)) fun x19=>Ah x19 h2 fun x20 _=>AG x20 fun x22=>WA x22 h2
def U3 (x10:IV) (h2:Hp) (x1 x0:IV):OH :=
 Ae 0 x10 fun x11=>Ah x11 h2 fun x12 _=>I1 EE 3 x12 x1 fun x14=>Al x14 (Ap [.fv .nilp] h2) (AG x0 fun x15=>Vc x15 h2)
def S87 (ih:Aa) (n:Nat) (x0 x1:IV) (h2:Hp):OH :=
 AG x0 fun x3=>Ae 2 x3 fun x4=>Ah x4 h2 fun x5 _=>Bc 1 x5 (.fv (.int .i64 0)) fun x7=>Ah x7 h2 fun x8 _=>AG x8 fun x10=>U3 x10 h2 x1 x0
theorem Am9 (ih:Aa) (n:Nat) (x0 x1:IV) (h2:Hp):AI EE ih ft.get n 87 [x0,x1] h2=S87 ih n x0 x1 h2:=by kernel_rfl
def Aej (x1:IV) (h7:Hp) (j0_3:Hp→OH):OH :=
 A0 EE 3 x1 (.fv (.int .i64 0)) fun x10=>Al x10 (Ap [.fv (.int .i64 1)] h7) (A0 EE 3 x1 (.fv (.int .i64 2)) fun x11=>Al x11 (Ap [.fv (.int .i64 2)] h7) (j0_3 h7))
def Ad9 (x6 x1:IV) (h7:Hp) (j0_3:Hp→OH) (x0:IV):OH :=
 Al x6 (A0 EE 3 x1 (.fv (.int .i64 1)) fun x8=>Al x8 (Ap [.fv (.int .i64 1)] h7) (j0_3 h7)) (A0 EE 3 x0 (.fv (.int .i64 13)) fun x9=>Al x9 (Aej x1 h7 j0_3) (j0_3 h7))
def Ae3 (x0:IV) (j1_5:IV→Hp→OH) (h2:Hp):OH :=
 A0 EE 3 x0 (.fv (.int .i64 29)) fun x17=>j1_5 x17 h2
def AeK (x0:IV) (j1_5:IV→Hp→OH) (h2:Hp):OH :=
 A0 EE 3 x0 (.fv (.int .i64 20)) fun x15=>Al x15 (j1_5 x15 h2) (A0 EE 3 x0 (.fv (.int .i64 28)) fun x16=>Al x16 (j1_5 x16 h2) (Ae3 x0 j1_5 h2))
def AfG (x13:IV) (j1_5:IV→Hp→OH) (h2:Hp) (x0:IV):OH :=
 Al x13 (j1_5 x13 h2) (A0 EE 3 x0 (.fv (.int .i64 6)) fun x14=>Al x14 (j1_5 x14 h2) (AeK x0 j1_5 h2))
def S88 (ih:Aa) (n:Nat) (x0 x1:IV) (h2:Hp):OH :=
 (fun (j0_3:Hp→OH)=>(fun (j1_5:IV→Hp→OH)=>A0 EE 3 x0 (.fv (.int .i64 3)) fun x12=>Al x12 (j1_5 x12 h2) (A0 EE 3 x0 (.fv (.int .i64 4)) fun x13=>AfG x13 j1_5 h2 x0)) fun x6 h7=>Ad9 x6 x1 h7 j0_3 x0) fun h4=>Ap [.fv (.int .i64 0)] h4
theorem Ak3 (ih:Aa) (n:Nat) (x0 x1:IV) (h2:Hp):AI EE ih ft.get n 88 [x0,x1] h2=S88 ih n x0 x1 h2:=by kernel_rfl
def Sz (x13 x7:IV) (h6:Hp) (x10:IV) (h2:Hp) (x8 x9:IV) (q4:List IV→Hp→OH):OH :=
 Bz [.fv (.nilp),.fv (.nilp)] [(0,1,x13),(1,1,x7)] fun x15=>fzS (Kw true 93327363 x15) 93327363 x15 h6 fun x16 h17 _ _=>BH EE 3 x10 (.fv (.int .i64 1)) fun x20=>BB (h2.own.map (·.1)) [93327363] [x16,x8,x9,x20] h17 fun h21=>q4 [x16,x8,x9,x20] h21
def Sj (x11 x8 x10:IV) (h6:Hp) (x7:IV) (h2:Hp) (x9:IV) (q4:List IV→Hp→OH):OH :=
 Al x11 (Bc 1 x8 x10 fun x12=>Ah x12 h6 fun x13 _=>Sz x13 x7 h6 x10 h2 x8 x9 q4) (Ap [x7] h6)
def U5 (l5:List IV) (h6 h2:Hp) (q4:List IV→Hp→OH):OH :=
 AH l5 fun x7 l22=>AH l22 fun x8 l23=>AH l23 fun x9 l24=>AH l24 fun x10 _=>Hm EE 3 x10 x9 fun x11=>Sj x11 x8 x10 h6 x7 h2 x9 q4
def S89 (ih:Aa) (n:Nat) (x0 x1:IV) (h2:Hp):OH :=
 Cf x1 fun x3=>BB (h2.own.map (·.1)) [93327363] [x0,x1,x3,.fv (.int .i64 0)] h2 fun h26=>BQ n (fun q4 l5 h6=>U5 l5 h6 h2 q4) [x0,x1,x3,.fv (.int .i64 0)] h26
theorem Anc (ih:Aa) (n:Nat) (x0 x1:IV) (h2:Hp):AI EE ih ft.get n 89 [x0,x1] h2=S89 ih n x0 x1 h2:=by kernel_rfl
end
noncomputable section
def dt:DT :=
 .node 52 (.node 30 (.node 21 (.node 16 (.node 14 (.node 12 (.leaf 5 (fun ih n=>ar5 (S5 ih n)))
 (.leaf 12 (fun ih n=>Mq (S12 ih n))))
 (.node 15 (.leaf 14 (fun ih n=>Md (S14 ih n)))
 (.leaf 15 (fun ih n=>Hn (S15 ih n)))))
 (.node 19 (.node 18 (.leaf 16 (fun ih n=>Hn (S16 ih n)))
 (.leaf 18 (fun ih n=>Hn (S18 ih n))))
 (.node 20 (.leaf 19 (fun ih n=>Hn (S19 ih n)))
 (.leaf 20 (fun ih n=>Hn (S20 ih n))))))
 (.node 26 (.node 24 (.node 22 (.leaf 21 (fun ih n=>E1 (S21 ih n)))
 (.leaf 22 (fun ih n=>Hn (S22 ih n))))
 (.node 25 (.leaf 24 (fun ih n=>Hn (S24 ih n)))
 (.leaf 25 (fun ih n=>UV (S25 ih n)))))
 (.node 28 (.node 27 (.leaf 26 (fun ih n=>Mq (S26 ih n)))
 (.leaf 27 (fun ih n=>E1 (S27 ih n))))
 (.node 29 (.leaf 28 (fun ih n=>E1 (S28 ih n)))
 (.leaf 29 (fun ih n=>UV (S29 ih n)))))))
 (.node 42 (.node 34 (.node 32 (.node 31 (.leaf 30 (fun ih n=>UV (S30 ih n)))
 (.leaf 31 (fun ih n=>UV (S31 ih n))))
 (.node 33 (.leaf 32 (fun ih n=>Mq (S32 ih n)))
 (.leaf 33 (fun ih n=>E1 (S33 ih n)))))
 (.node 36 (.node 35 (.leaf 34 (fun ih n=>Hn (S34 ih n)))
 (.leaf 35 (fun ih n=>Hn (S35 ih n))))
 (.node 37 (.leaf 36 (fun ih n=>Hn (S36 ih n)))
 (.leaf 37 (fun ih n=>E1 (S37 ih n))))))
 (.node 48 (.node 46 (.node 43 (.leaf 42 (fun ih n=>Md (S42 ih n)))
 (.leaf 43 (fun ih n=>Hn (S43 ih n))))
 (.node 47 (.leaf 46 (fun ih n=>Hn (S46 ih n)))
 (.leaf 47 (fun ih n=>E1 (S47 ih n)))))
 (.node 50 (.node 49 (.leaf 48 (fun ih n=>Mq (S48 ih n)))
 (.leaf 49 (fun ih n=>UV (S49 ih n))))
 (.node 51 (.leaf 50 (fun ih n=>Hn (S50 ih n)))
 (.leaf 51 (fun ih n=>Md (S51 ih n))))))))
 (.node 71 (.node 60 (.node 56 (.node 54 (.node 53 (.leaf 52 (fun ih n=>UV (S52 ih n)))
 (.leaf 53 (fun ih n=>Mq (S53 ih n))))
 (.node 55 (.leaf 54 (fun ih n=>UV (S54 ih n)))
 (.leaf 55 (fun ih n=>E1 (S55 ih n)))))
 (.node 58 (.node 57 (.leaf 56 (fun ih n=>Md (S56 ih n)))
 (.leaf 57 (fun ih n=>Hn (S57 ih n))))
 (.node 59 (.leaf 58 (fun ih n=>E1 (S58 ih n)))
 (.leaf 59 (fun ih n=>Mq (S59 ih n))))))
 (.node 64 (.node 62 (.node 61 (.leaf 60 (fun ih n=>Mq (S60 ih n)))
 (.leaf 61 (fun ih n=>Mq (S61 ih n))))
 (.node 63 (.leaf 62 (fun ih n=>Mq (S62 ih n)))
 (.leaf 63 (fun ih n=>E1 (S63 ih n)))))
 (.node 69 (.node 68 (.leaf 64 (fun ih n=>Mq (S64 ih n)))
 (.leaf 68 (fun ih n=>E1 (S68 ih n))))
 (.node 70 (.leaf 69 (fun ih n=>E1 (S69 ih n)))
 (.leaf 70 (fun ih n=>E1 (S70 ih n)))))))
 (.node 79 (.node 75 (.node 73 (.node 72 (.leaf 71 (fun ih n=>Hn (S71 ih n)))
 (.leaf 72 (fun ih n=>E1 (S72 ih n))))
 (.node 74 (.leaf 73 (fun ih n=>E1 (S73 ih n)))
 (.leaf 74 (fun ih n=>E1 (S74 ih n)))))
 (.node 77 (.node 76 (.leaf 75 (fun ih n=>E1 (S75 ih n)))
 (.leaf 76 (fun ih n=>E1 (S76 ih n))))
 (.node 78 (.leaf 77 (fun ih n=>Hn (S77 ih n)))
 (.leaf 78 (fun ih n=>E1 (S78 ih n))))))
 (.node 83 (.node 81 (.node 80 (.leaf 79 (fun ih n=>E1 (S79 ih n)))
 (.leaf 80 (fun ih n=>E1 (S80 ih n))))
 (.node 82 (.leaf 81 (fun ih n=>Mq (S81 ih n)))
 (.leaf 82 (fun ih n=>Hn (S82 ih n)))))
 (.node 87 (.node 86 (.leaf 83 (fun ih n=>E1 (S83 ih n)))
 (.leaf 86 (fun ih n=>Hn (S86 ih n))))
 (.node 88 (.leaf 87 (fun ih n=>E1 (S87 ih n)))
 (.node 89 (.leaf 88 (fun ih n=>E1 (S88 ih n)))
 (.leaf 89 (fun ih n=>E1 (S89 ih n)))))))))
theorem Ao8:dt.Ok EE ft.get :=
 ⟨⟨⟨⟨⟨⟨(fun ih n _ _ _ e=>Ale (F:=AI EE ih ft.get n 5) (Aow ih n) e),
 (fun ih n _ _ _ e=>Fp (F:=AI EE ih ft.get n 12) (AmB ih n) e)⟩,
 ⟨(fun ih n _ _ _ e=>Po (F:=AI EE ih ft.get n 14) (AkZ ih n) e),
 (fun ih n _ _ _ e=>Cn (F:=AI EE ih ft.get n 15) (Akw ih n) e)⟩⟩,
 ⟨⟨(fun ih n _ _ _ e=>Cn (F:=AI EE ih ft.get n 16) (Alo ih n) e),
 (fun ih n _ _ _ e=>Cn (F:=AI EE ih ft.get n 18) (Amm ih n) e)⟩,
 ⟨(fun ih n _ _ _ e=>Cn (F:=AI EE ih ft.get n 19) (Al7 ih n) e),
 (fun ih n _ _ _ e=>Cn (F:=AI EE ih ft.get n 20) (Amg ih n) e)⟩⟩⟩,
 ⟨⟨⟨(fun ih n _ _ _ e=>BK (F:=AI EE ih ft.get n 21) (AlF ih n) e),
 (fun ih n _ _ _ e=>Cn (F:=AI EE ih ft.get n 22) (AlE ih n) e)⟩,
 ⟨(fun ih n _ _ _ e=>Cn (F:=AI EE ih ft.get n 24) (AmN ih n) e),
 (fun ih n _ _ _ e=>Jf (F:=AI EE ih ft.get n 25) (Am8 ih n) e)⟩⟩,
 ⟨⟨(fun ih n _ _ _ e=>Fp (F:=AI EE ih ft.get n 26) (Al0 ih n) e),
 (fun ih n _ _ _ e=>BK (F:=AI EE ih ft.get n 27) (AlP ih n) e)⟩,
 ⟨(fun ih n _ _ _ e=>BK (F:=AI EE ih ft.get n 28) (Akn ih n) e),
 (fun ih n _ _ _ e=>Jf (F:=AI EE ih ft.get n 29) (Am5 ih n) e)⟩⟩⟩⟩,
 ⟨⟨⟨⟨(fun ih n _ _ _ e=>Jf (F:=AI EE ih ft.get n 30) (AkQ ih n) e),
 (fun ih n _ _ _ e=>Jf (F:=AI EE ih ft.get n 31) (Al8 ih n) e)⟩,
 ⟨(fun ih n _ _ _ e=>Fp (F:=AI EE ih ft.get n 32) (Amb ih n) e),
 (fun ih n _ _ _ e=>BK (F:=AI EE ih ft.get n 33) (Al9 ih n) e)⟩⟩,
 ⟨⟨(fun ih n _ _ _ e=>Cn (F:=AI EE ih ft.get n 34) (Ams ih n) e),
 (fun ih n _ _ _ e=>Cn (F:=AI EE ih ft.get n 35) (Ali ih n) e)⟩,
 ⟨(fun ih n _ _ _ e=>Cn (F:=AI EE ih ft.get n 36) (AkG ih n) e),
 (fun ih n _ _ _ e=>BK (F:=AI EE ih ft.get n 37) (AlD ih n) e)⟩⟩⟩,
 ⟨⟨⟨(fun ih n _ _ _ e=>Po (F:=AI EE ih ft.get n 42) (Akk ih n) e),
 (fun ih n _ _ _ e=>Cn (F:=AI EE ih ft.get n 43) (AmE ih n) e)⟩,
 ⟨(fun ih n _ _ _ e=>Cn (F:=AI EE ih ft.get n 46) (Ak6 ih n) e),
 (fun ih n _ _ _ e=>BK (F:=AI EE ih ft.get n 47) (Akh ih n) e)⟩⟩,
 ⟨⟨(fun ih n _ _ _ e=>Fp (F:=AI EE ih ft.get n 48) (AkO ih n) e),
 (fun ih n _ _ _ e=>Jf (F:=AI EE ih ft.get n 49) (Amq ih n) e)⟩,
 ⟨(fun ih n _ _ _ e=>Cn (F:=AI EE ih ft.get n 50) (Aki ih n) e),
 (fun ih n _ _ _ e=>Po (F:=AI EE ih ft.get n 51) (Amj ih n) e)⟩⟩⟩⟩⟩,
 ⟨⟨⟨⟨⟨(fun ih n _ _ _ e=>Jf (F:=AI EE ih ft.get n 52) (Amd ih n) e),
 (fun ih n _ _ _ e=>Fp (F:=AI EE ih ft.get n 53) (AkR ih n) e)⟩,
 ⟨(fun ih n _ _ _ e=>Jf (F:=AI EE ih ft.get n 54) (Anb ih n) e),
 (fun ih n _ _ _ e=>BK (F:=AI EE ih ft.get n 55) (AlX ih n) e)⟩⟩,
 ⟨⟨(fun ih n _ _ _ e=>Po (F:=AI EE ih ft.get n 56) (Am1 ih n) e),
 (fun ih n _ _ _ e=>Cn (F:=AI EE ih ft.get n 57) (AkK ih n) e)⟩,
 ⟨(fun ih n _ _ _ e=>BK (F:=AI EE ih ft.get n 58) (Ak4 ih n) e),
 (fun ih n _ _ _ e=>Fp (F:=AI EE ih ft.get n 59) (AlU ih n) e)⟩⟩⟩,
 ⟨⟨⟨(fun ih n _ _ _ e=>Fp (F:=AI EE ih ft.get n 60) (Akb ih n) e),
 (fun ih n _ _ _ e=>Fp (F:=AI EE ih ft.get n 61) (AlQ ih n) e)⟩,
 ⟨(fun ih n _ _ _ e=>Fp (F:=AI EE ih ft.get n 62) (Am3 ih n) e),
 (fun ih n _ _ _ e=>BK (F:=AI EE ih ft.get n 63) (AlG ih n) e)⟩⟩,
 ⟨⟨(fun ih n _ _ _ e=>Fp (F:=AI EE ih ft.get n 64) (AkS ih n) e),
 (fun ih n _ _ _ e=>BK (F:=AI EE ih ft.get n 68) (Ane ih n) e)⟩,
 ⟨(fun ih n _ _ _ e=>BK (F:=AI EE ih ft.get n 69) (Akv ih n) e),
 (fun ih n _ _ _ e=>BK (F:=AI EE ih ft.get n 70) (Anp ih n) e)⟩⟩⟩⟩,
 ⟨⟨⟨⟨(fun ih n _ _ _ e=>Cn (F:=AI EE ih ft.get n 71) (Alu ih n) e),
 (fun ih n _ _ _ e=>BK (F:=AI EE ih ft.get n 72) (AlH ih n) e)⟩,
 ⟨(fun ih n _ _ _ e=>BK (F:=AI EE ih ft.get n 73) (AkA ih n) e),
 (fun ih n _ _ _ e=>BK (F:=AI EE ih ft.get n 74) (Anm ih n) e)⟩⟩,
 ⟨⟨(fun ih n _ _ _ e=>BK (F:=AI EE ih ft.get n 75) (Al4 ih n) e),
 (fun ih n _ _ _ e=>BK (F:=AI EE ih ft.get n 76) (AlB ih n) e)⟩,
 ⟨(fun ih n _ _ _ e=>Cn (F:=AI EE ih ft.get n 77) (AlS ih n) e),
 (fun ih n _ _ _ e=>BK (F:=AI EE ih ft.get n 78) (Ak9 ih n) e)⟩⟩⟩,
 ⟨⟨⟨(fun ih n _ _ _ e=>BK (F:=AI EE ih ft.get n 79) (AkH ih n) e),
 (fun ih n _ _ _ e=>BK (F:=AI EE ih ft.get n 80) (AlO ih n) e)⟩,
 ⟨(fun ih n _ _ _ e=>Fp (F:=AI EE ih ft.get n 81) (AlW ih n) e),
 (fun ih n _ _ _ e=>Cn (F:=AI EE ih ft.get n 82) (AkL ih n) e)⟩⟩,
 ⟨⟨(fun ih n _ _ _ e=>BK (F:=AI EE ih ft.get n 83) (AmI ih n) e),
 (fun ih n _ _ _ e=>Cn (F:=AI EE ih ft.get n 86) (Ami ih n) e)⟩,
 ⟨(fun ih n _ _ _ e=>BK (F:=AI EE ih ft.get n 87) (Am9 ih n) e),
 ⟨(fun ih n _ _ _ e=>BK (F:=AI EE ih ft.get n 88) (Ak3 ih n) e),
 (fun ih n _ _ _ e=>BK (F:=AI EE ih ft.get n 89) (Anc ih n) e)⟩⟩⟩⟩⟩⟩⟩
theorem Ako:∀n f args h x,SS dt n f args h=some x→run EE n f args h=some x:=AoV Ao2 Ao8
end
end Idl
end Go.Proofs.Ytbkdidonegggdaa

/-
  Texts of a proof, part 9: an ideal semantics of the program, its functions in shallow form, contracts of them. No statement of the seat is proved here.
-/
import Derived.Test.YtbkdidonegggdaaNormPartsK8
set_option linter.all false
noncomputable section
set_option maxRecDepth 100000
set_option linter.unusedVariables false
namespace Go.Proofs.Ytbkdidonegggdaa
namespace Idl
noncomputable section
def IE (h28:Hp) (x13 x27:IV):OH :=
 Ak 3 x13 x27 h28 fun h31 _ _=>AC true 3 x13 h31 fun x34=>Ao [x34] h31
def H0 (x40:IV) (h14:Hp) (x13:IV):OH :=
 A9 EE 3 x40 (.fv (.int .i64 1)) fun x42=>Bv [.fv (.int .i64 0),.fv (.int .i64 0),.nils] [(0,1,.fv (.int .i64 1)),(1,1,x42)] fun x43=>Ak 3 x13 x43 h14 fun h44 _ _=>AC true 3 x13 h44 fun x47=>Ao [x47] h44
def H4 (h50:Hp) (x13:IV):OH :=
 AC true 3 x13 h50 fun x53=>Ao [x53] h50
def IC (x36 x1 x5:IV) (h14:Hp) (x13:IV):OH :=
 KU EE 3 x36 x1 fun x38=>Al x38 (Ac 1 x5 fun x39=>Af x39 h14 fun x40 _=>H0 x40 h14 x13) (Ai 3 x5 h14 fun x48 _=>Ak 3 x13 x48 h14 fun h50 _ _=>H4 h50 x13)
def IJ (x22 x1:IV) (h14:Hp) (x9:IV) (ih:Aa) (x2 x13 x5:IV):OH :=
 A2 EE 3 x22 x1 fun x24=>Al x24 (Ai 3 x9 h14 fun x25 _=>Aj [] false false ih 31 [x25,x2,.fv (.int .i64 0)] h14 fun x27 h28 _ _=>IE h28 x13 x27) (Ac 1 x5 fun x35=>Af x35 h14 fun x36 _=>IC x36 x1 x5 h14 x13)
def In (x76:IV) (h112:Hp) (x111 x77:IV) (h4:Hp) (x71 x72 x73 x74 x75:IV) (q68:List IV→Hp→OH):OH :=
 Ac 2 x76 fun x115=>Bj x115 x111 h112 fun h116 r117 w118=>Ad [] r117 w118 (BF EE 3 x77 (.fv (.int .i64 1)) fun x119=>Bt (h4.own.map (·.1)) [65024016] [x71,x72,x73,x74,x75,x76,x119] h116 fun h120=>q68 [x71,x72,x73,x74,x75,x76,x119] h120)
def H5 (r105 w106 r92:AH) (h104:Hp) (x103 x91 x76 x77:IV) (h4:Hp) (x71 x72 x73 x74 x75:IV) (q68:List IV→Hp→OH):OH :=
 Ad [(r92,[])] r105 w106 (Ax (Ah EE 29 1 [(0,x103)]) 65024015 h104 fun x107 h108 r109 w110=>Ad [(r92,[])] r109 w110 (Ax (AT EE 65024016 false .append [29,29] [x91,x107]) 65024016 h108 fun x111 h112 r113 w114=>Ad [] r113 w114 (In x76 h112 x111 x77 h4 x71 x72 x73 x74 x75 q68)))
def HM (x71 x86 x72:IV) (h87:Hp) (x74:IV) (r98 r95 r92:AH) (ih:Aa) (x97 x91 x76 x77:IV) (h4:Hp) (x73 x75:IV) (q68:List IV→Hp→OH):OH :=
 BF EE 3 x71 x86 fun x99=>BF EE 3 x72 x86 fun x100=>Ai 3 x74 h87 fun x101 r102=>Ad [(r98,[]),(r95,[]),(r92,[])] r102 [] (Aj [] false false ih 62 [x97,x99,x100,x101] h87 fun x103 h104 r105 w106=>H5 r105 w106 r92 h104 x103 x91 x76 x77 h4 x71 x72 x73 x74 x75 q68)
def HY (h87:Hp) (x93:IV) (r92:AH) (x77 x71 x86 x72 x74:IV) (ih:Aa) (x91 x76:IV) (h4:Hp) (x73 x75:IV) (q68:List IV→Hp→OH):OH :=
 Af x93 h87 fun x94 r95=>Ad [(r92,[])] r95 [] (Bf 3 x94 x77 fun x96=>Ai 3 x96 h87 fun x97 r98=>Ad [(r92,[])] r98 [] (HM x71 x86 x72 h87 x74 r98 r95 r92 ih x97 x91 x76 x77 h4 x73 x75 q68))
def H7 (ih:Aa) (h70:Hp) (x84 x77 x76 x73 x71 x72 x74:IV) (h4:Hp) (x75:IV) (q68:List IV→Hp→OH):OH :=
 Aj [] false false ih 63 [x84,x77] h70 fun x86 h87 _ _=>Ac 2 x76 fun x90=>Af x90 h87 fun x91 r92=>Ad [] r92 [] (Ac 2 x73 fun x93=>HY h87 x93 r92 x77 x71 x86 x72 x74 ih x91 x76 h4 x73 x75 q68)
def Il (h123:Hp) (x75:IV):OH :=
 AC true 3 x75 h123 fun x126=>Ao [x126] h123
def HU (x77 x81 x73:IV) (h70:Hp) (ih:Aa) (x76 x71 x72 x74:IV) (h4:Hp) (x75:IV) (q68:List IV→Hp→OH):OH :=
 Hg EE 3 x77 x81 fun x82=>Al x82 (Ac 0 x73 fun x83=>Af x83 h70 fun x84 _=>H7 ih h70 x84 x77 x76 x73 x71 x72 x74 h4 x75 q68) (Ai 3 x76 h70 fun x121 _=>Ak 3 x75 x121 h70 fun h123 _ _=>Il h123 x75)
def Iu (l131:List IV) (x73:IV) (h70:Hp) (ih:Aa) (x71 x72 x74:IV) (h4:Hp) (x75:IV) (q68:List IV→Hp→OH):OH :=
 AA l131 fun x76 l132=>AA l132 fun x77 _=>Ac 2 x73 fun x78=>Af x78 h70 fun x79 _=>Ca x79 fun x81=>HU x77 x81 x73 h70 ih x76 x71 x72 x74 h4 x75 q68
def HP (l69:List IV) (h70:Hp) (ih:Aa) (h4:Hp) (q68:List IV→Hp→OH):OH :=
 AA l69 fun x71 l127=>AA l127 fun x72 l128=>AA l128 fun x73 l129=>AA l129 fun x74 l130=>AA l130 fun x75 l131=>Iu l131 x73 h70 ih x71 x72 x74 h4 x75 q68
def HX (h4 h65:Hp) (x1 x2 x5 x9 x13 x61:IV) (n:Nat) (ih:Aa):OH :=
 Bt (h4.own.map (·.1)) [65024016] [x1,x2,x5,x9,x13,x61,.fv (.int .i64 0)] h65 fun h134=>BD n (fun q68 l69 h70=>HP l69 h70 ih h4 q68) [x1,x2,x5,x9,x13,x61,.fv (.int .i64 0)] h134
def HQ (x5:IV) (h14:Hp) (x55:IV) (h4:Hp) (x1 x2 x9 x13:IV) (n:Nat) (ih:Aa):OH :=
 Ac 1 x5 fun x57=>Af x57 h14 fun x58 _=>Bv [.fv (.int .i64 0),.fv (.int .i64 0),.nils] [(0,1,x55),(1,1,x58)] fun x60=>AJ 65018885 (.row [.fv (.int .i64 0),.fv (.int .i64 0),.nils] false) (.ptr (.own 65018885) 0) h14 fun x61 h62 _ _=>Ak 3 x61 x60 h62 fun h65 _ _=>HX h4 h65 x1 x2 x5 x9 x13 x61 n ih
def Ix (x20 x5:IV) (h14:Hp) (x1 x9:IV) (ih:Aa) (x2 x13:IV) (h4:Hp) (n:Nat):OH :=
 Al x20 (Ac 1 x5 fun x21=>Af x21 h14 fun x22 _=>IJ x22 x1 h14 x9 ih x2 x13 x5) (Ac 0 x5 fun x54=>Af x54 h14 fun x55 _=>HQ x5 h14 x55 h4 x1 x2 x9 x13 n ih)
def S62 (ih:Aa) (n:Nat) (x0 x1 x2 x3:IV) (h4:Hp):OH :=
 Bg 65011712 x0 h4 fun x5 h6 _ _=>Bg 65011713 x3 h6 fun x9 h10 _ _=>AJ 65011714 (.row [.fv (.int .i64 0),.fv (.int .i64 0),.nils] false) (.ptr (.own 65011714) 0) h10 fun x13 h14 _ _=>Ac 0 x5 fun x17=>Af x17 h14 fun x18 _=>A2 EE 3 x18 (.fv (.int .i64 1)) fun x20=>Ix x20 x5 h14 x1 x9 ih x2 x13 h4 n
theorem AlU (ih:Aa) (n:Nat) (x0 x1 x2 x3:IV) (h4:Hp):AE EE ih ft.get n 62 [x0,x1,x2,x3] h4=S62 ih n x0 x1 x2 x3 h4:=by kernel_rfl
def AfH (x1:IV) (h7:Hp) (j0_3:Hp→OH):OH :=
 A2 EE 3 x1 (.fv (.int .i64 0)) fun x10=>Al x10 (Ao [.fv (.int .i64 1)] h7) (A2 EE 3 x1 (.fv (.int .i64 2)) fun x11=>Al x11 (Ao [.fv (.int .i64 2)] h7) (j0_3 h7))
def Agk (x6 x1:IV) (h7:Hp) (j0_3:Hp→OH) (x0:IV):OH :=
 Al x6 (A2 EE 3 x1 (.fv (.int .i64 1)) fun x8=>Al x8 (Ao [.fv (.int .i64 1)] h7) (j0_3 h7)) (A2 EE 3 x0 (.fv (.int .i64 13)) fun x9=>Al x9 (AfH x1 h7 j0_3) (j0_3 h7))
def AeP (x0:IV) (j1_5:IV→Hp→OH) (h2:Hp):OH :=
 A2 EE 3 x0 (.fv (.int .i64 29)) fun x17=>j1_5 x17 h2
def Ae6 (x0:IV) (j1_5:IV→Hp→OH) (h2:Hp):OH :=
 A2 EE 3 x0 (.fv (.int .i64 20)) fun x15=>Al x15 (j1_5 x15 h2) (A2 EE 3 x0 (.fv (.int .i64 28)) fun x16=>Al x16 (j1_5 x16 h2) (AeP x0 j1_5 h2))
def AdH (x13:IV) (j1_5:IV→Hp→OH) (h2:Hp) (x0:IV):OH :=
 Al x13 (j1_5 x13 h2) (A2 EE 3 x0 (.fv (.int .i64 6)) fun x14=>Al x14 (j1_5 x14 h2) (Ae6 x0 j1_5 h2))
def S63 (ih:Aa) (n:Nat) (x0 x1:IV) (h2:Hp):OH :=
 (fun (j0_3:Hp→OH)=>(fun (j1_5:IV→Hp→OH)=>A2 EE 3 x0 (.fv (.int .i64 3)) fun x12=>Al x12 (j1_5 x12 h2) (A2 EE 3 x0 (.fv (.int .i64 4)) fun x13=>AdH x13 j1_5 h2 x0)) fun x6 h7=>Agk x6 x1 h7 j0_3 x0) fun h4=>Ao [.fv (.int .i64 0)] h4
theorem AjU (ih:Aa) (n:Nat) (x0 x1:IV) (h2:Hp):AE EE ih ft.get n 63 [x0,x1] h2=S63 ih n x0 x1 h2:=by kernel_rfl
def Ab1 (h128:Hp) (x13 x127:IV):OH :=
 AC true 3 x13 h128 fun x131=>Ao [x131,x127] h128
def Wm (h113:Hp) (x50 x72 x94 x13 x112:IV):OH :=
 Ab x50 true h113 (fun k116=>k116 x72 h113 [] []) fun x117 h118 _ _=>AF x50 x117 (.fv (.bool false)) fun x121=>Ab x121 true h118 (fun k122=>k122 x94 h118 [] []) fun x123 h124 _ _=>AF x121 x123 (.fv (.bool false)) fun x127=>Ak 3 x13 x112 h124 fun h128 _ _=>Ab1 h128 x13 x127
def AbA (h99:Hp) (x51 x73 x95:IV) (ih:Aa) (x50 x72 x94 x13:IV):OH :=
 Ai 3 x51 h99 fun x102 _=>Ai 3 x73 h99 fun x104 _=>Ai 3 x95 h99 fun x106 _=>Ax (Ah EE 29 3 [(0,x102),(1,x104),(2,x106)]) 67116035 h99 fun x108 h109 _ _=>Aj [] false false ih 27 [.fv (.int .i64 27),x108] h109 fun x112 h113 _ _=>Wm h113 x50 x72 x94 x13 x112
def Ab6 (x89:IV) (h90:Hp) (r91 w92 r86 w87 r83 r81:AH) (x93 x51 x73:IV) (ih:Aa) (x50 x72 x13:IV):OH :=
 AK 1 x89 fun x94=>AJ 67115018 (.row [.fv (.int .i64 0),.fv (.int .i64 0),.nils] false) (.ptr (.own 67115018) 0) h90 fun x95 h96 r97 w98=>Ad [(r91,w92),(r86,w87),(r83,[]),(r81,[])] r97 w98 (Ak 3 x95 x93 h96 fun h99 r100 w101=>Ad [] r100 w101 (AbA h99 x51 x73 x95 ih x50 x72 x94 x13))
def XC (r86 w87 r81:AH) (x3:IV) (ih:Aa) (h85:Hp) (x0 x80 x84:IV) (r83:AH) (x51 x73 x50 x72 x13:IV):OH :=
 Ad [(r81,[])] r86 w87 (A9 EE 3 x3 (.fv (.int .i64 2)) fun x88=>Aj [] false false ih 32 [x0,x80,x84,x88] h85 fun x89 h90 r91 w92=>Ad [] r91 w92 (AK 0 x89 fun x93=>Ab6 x89 h90 r91 w92 r86 w87 r83 r81 x93 x51 x73 ih x50 x72 x13))
def Aa3 (h77:Hp) (x5 x9:IV) (ih:Aa) (x3 x0 x51 x73 x50 x72 x13:IV):OH :=
 Ai 3 x5 h77 fun x80 r81=>Ad [] r81 [] (Ai 3 x9 h77 fun x82 r83=>Ad [(r81,[])] r83 [] (Aj [] false false ih 58 [x82,.fv (.int .i64 2)] h77 fun x84 h85 r86 w87=>XC r86 w87 r81 x3 ih h85 x0 x80 x84 r83 x51 x73 x50 x72 x13))
def Xv (x67:IV) (h68:Hp) (r69 w70 r64 w65 r61 r59:AH) (x71 x5 x9:IV) (ih:Aa) (x3 x0 x51 x50 x13:IV):OH :=
 AK 1 x67 fun x72=>AJ 67113994 (.row [.fv (.int .i64 0),.fv (.int .i64 0),.nils] false) (.ptr (.own 67113994) 0) h68 fun x73 h74 r75 w76=>Ad [(r69,w70),(r64,w65),(r61,[]),(r59,[])] r75 w76 (Ak 3 x73 x71 h74 fun h77 r78 w79=>Ad [] r78 w79 (Aa3 h77 x5 x9 ih x3 x0 x51 x73 x50 x72 x13))
def YR (r64 w65 r59:AH) (x3:IV) (ih:Aa) (h63:Hp) (x0 x58 x62:IV) (r61:AH) (x5 x9 x51 x50 x13:IV):OH :=
 Ad [(r59,[])] r64 w65 (A9 EE 3 x3 (.fv (.int .i64 2)) fun x66=>Aj [] false false ih 32 [x0,x58,x62,x66] h63 fun x67 h68 r69 w70=>Ad [] r69 w70 (AK 0 x67 fun x71=>Xv x67 h68 r69 w70 r64 w65 r61 r59 x71 x5 x9 ih x3 x0 x51 x50 x13))
def Wa (h55:Hp) (x5 x9:IV) (ih:Aa) (x3 x0 x51 x50 x13:IV):OH :=
 Ai 3 x5 h55 fun x58 r59=>Ad [] r59 [] (Ai 3 x9 h55 fun x60 r61=>Ad [(r59,[])] r61 [] (Aj [] false false ih 58 [x60,.fv (.int .i64 1)] h55 fun x62 h63 r64 w65=>YR r64 w65 r59 x3 ih h63 x0 x58 x62 r61 x5 x9 x51 x50 x13))
def Abx (x45:IV) (h46:Hp) (r47 w48 r42 w43 r39 r37:AH) (x49 x5 x9:IV) (ih:Aa) (x3 x0 x13:IV):OH :=
 AK 1 x45 fun x50=>AJ 67112970 (.row [.fv (.int .i64 0),.fv (.int .i64 0),.nils] false) (.ptr (.own 67112970) 0) h46 fun x51 h52 r53 w54=>Ad [(r47,w48),(r42,w43),(r39,[]),(r37,[])] r53 w54 (Ak 3 x51 x49 h52 fun h55 r56 w57=>Ad [] r56 w57 (Wa h55 x5 x9 ih x3 x0 x51 x50 x13))
def WK (r42 w43 r37:AH) (x3:IV) (ih:Aa) (h41:Hp) (x0 x36 x40:IV) (r39:AH) (x5 x9 x13:IV):OH :=
 Ad [(r37,[])] r42 w43 (A9 EE 3 x3 (.fv (.int .i64 2)) fun x44=>Aj [] false false ih 32 [x0,x36,x40,x44] h41 fun x45 h46 r47 w48=>Ad [] r47 w48 (AK 0 x45 fun x49=>Abx x45 h46 r47 w48 r42 w43 r39 r37 x49 x5 x9 ih x3 x0 x13))
def Yz (h32:Hp) (x21 x9:IV) (ih:Aa) (x3 x0 x5 x13:IV):OH :=
 Ai 3 x21 h32 fun x36 r37=>Ad [] r37 [] (Ai 3 x9 h32 fun x38 r39=>Ad [(r37,[])] r39 [] (Aj [] false false ih 58 [x38,.fv (.int .i64 0)] h32 fun x40 h41 r42 w43=>WK r42 w43 r37 x3 ih h41 x0 x36 x40 r39 x5 x9 x13))
def ZX (h218:Hp) (x13 x212 x221:IV):OH :=
 Ak 3 x13 x212 h218 fun h222 _ _=>AC true 3 x13 h222 fun x225=>Ao [x225,x221] h222
def Ya (h201:Hp) (x197 x204:IV) (ih:Aa) (x164 x196 x13:IV):OH :=
 Ai 3 x197 h201 fun x206 _=>Ax (Ah EE 29 2 [(0,x204),(1,x206)]) 67121154 h201 fun x208 h209 _ _=>Aj [] false false ih 27 [.fv (.int .i64 28),x208] h209 fun x212 h213 _ _=>Ab x164 true h213 (fun k216=>k216 x196 h213 [] []) fun x217 h218 _ _=>AF x164 x217 (.fv (.bool false)) fun x221=>ZX h218 x13 x212 x221
def Abg (h192:Hp) (r193 w194 r188 w189 r185 r182 w183 r179 r176 w177 r173:AH) (x195 x165:IV) (ih:Aa) (x164 x196 x13:IV):OH :=
 AJ 67120141 (.row [.fv (.int .i64 0),.fv (.int .i64 0),.nils] false) (.ptr (.own 67120141) 0) h192 fun x197 h198 r199 w200=>Ad [(r193,w194),(r188,w189),(r185,[]),(r182,w183),(r179,[]),(r176,w177),(r173,[])] r199 w200 (Ak 3 x197 x195 h198 fun h201 r202 w203=>Ad [] r202 w203 (Ai 3 x165 h201 fun x204 _=>Ya h201 x197 x204 ih x164 x196 x13))
def WJ (x3:IV) (ih:Aa) (h187:Hp) (x174 x180 x186:IV) (r188 w189 r185 r182 w183 r179 r176 w177 r173:AH) (x165 x164 x13:IV):OH :=
 A9 EE 3 x3 (.fv (.int .i64 2)) fun x190=>Aj [] false false ih 32 [x174,x180,x186,x190] h187 fun x191 h192 r193 w194=>Ad [] r193 w194 (AK 0 x191 fun x195=>AK 1 x191 fun x196=>Abg h192 r193 w194 r188 w189 r185 r182 w183 r179 r176 w177 r173 x195 x165 ih x164 x196 x13)
def ZJ (r182 w183:AH) (h181:Hp) (x9:IV) (r179 r176 w177 r173:AH) (ih:Aa) (x3 x174 x180 x165 x164 x13:IV):OH :=
 Ad [] r182 w183 (Ai 3 x9 h181 fun x184 r185=>Ad [(r182,w183),(r179,[]),(r176,w177),(r173,[])] r185 [] (Aj [] false false ih 58 [x184,.fv (.int .i64 2)] h181 fun x186 h187 r188 w189=>Ad [] r188 w189 (WJ x3 ih h187 x174 x180 x186 r188 w189 r185 r182 w183 r179 r176 w177 r173 x165 x164 x13)))
def AaB (ih:Aa) (h169:Hp) (x0 x172 x5:IV) (r173:AH) (x9 x3 x165 x164 x13:IV):OH :=
 Aj [] false false ih 29 [x0,.fv (.int .i64 0),x172] h169 fun x174 h175 r176 w177=>Ad [] r176 w177 (Ai 3 x5 h175 fun x178 r179=>Ad [(r176,w177),(r173,[])] r179 [] (Aj [] false false ih 31 [x178,.fv (.int .i64 1),.fv (.int .i64 0)] h175 fun x180 h181 r182 w183=>ZJ r182 w183 h181 x9 r179 r176 w177 r173 ih x3 x174 x180 x165 x164 x13))
def Aau (r167 w168 r161 w162 r156 w157 r153 r151:AH) (h166:Hp) (x165 x163 x143:IV) (ih:Aa) (x0 x5 x9 x3 x164 x13:IV):OH :=
 Ad [(r161,w162),(r156,w157),(r153,[]),(r151,[])] r167 w168 (Ak 3 x165 x163 h166 fun h169 r170 w171=>Ad [] r170 w171 (Ai 3 x143 h169 fun x172 r173=>Ad [] r173 [] (AaB ih h169 x0 x172 x5 r173 x9 x3 x165 x164 x13)))
def W0 (ih:Aa) (h155:Hp) (x0 x150 x154 x158:IV) (r156 w157 r153 r151:AH) (x143 x5 x9 x3 x13:IV):OH :=
 Aj [] false false ih 32 [x0,x150,x154,x158] h155 fun x159 h160 r161 w162=>Ad [] r161 w162 (AK 0 x159 fun x163=>AK 1 x159 fun x164=>AJ 67119114 (.row [.fv (.int .i64 0),.fv (.int .i64 0),.nils] false) (.ptr (.own 67119114) 0) h160 fun x165 h166 r167 w168=>Aau r167 w168 r161 w162 r156 w157 r153 r151 h166 x165 x163 x143 ih x0 x5 x9 x3 x164 x13)
def X1 (h147:Hp) (x9:IV) (r151:AH) (ih:Aa) (x3 x0 x150 x143 x5 x13:IV):OH :=
 Ai 3 x9 h147 fun x152 r153=>Ad [(r151,[])] r153 [] (Aj [] false false ih 58 [x152,.fv (.int .i64 1)] h147 fun x154 h155 r156 w157=>Ad [(r151,[])] r156 w157 (A9 EE 3 x3 (.fv (.int .i64 2)) fun x158=>W0 ih h155 x0 x150 x154 x158 r156 w157 r153 r151 x143 x5 x9 x3 x13))
def Zz (ih:Aa) (h136:Hp) (x135 x9 x3 x0 x5 x13:IV):OH :=
 Aj [] false false ih 33 [x135,.fv (.int .i64 1)] h136 fun x139 h140 _ _=>AJ 67118083 (.row [.fv (.int .i64 0),.fv (.int .i64 0),.nils] false) (.ptr (.own 67118083) 0) h140 fun x143 h144 _ _=>Ak 3 x143 x139 h144 fun h147 _ _=>Ai 3 x143 h147 fun x150 r151=>Ad [] r151 [] (X1 h147 x9 r151 ih x3 x0 x150 x143 x5 x13)
def XP (h317:Hp) (x258 x290 x13 x316:IV):OH :=
 Ab x258 true h317 (fun k320=>k320 x290 h317 [] []) fun x321 h322 _ _=>AF x258 x321 (.fv (.bool false)) fun x325=>Ak 3 x13 x316 h322 fun h326 r327 w328=>Ad [] r327 w328 (AC true 3 x13 h326 fun x329=>Ao [x329,x325] h326)
def Ys (r311 r308 w309 r304 w305 r301 r299:AH) (h307:Hp) (x306 x310:IV) (ih:Aa) (x258 x290 x13:IV):OH :=
 Ad [(r308,w309),(r304,w305),(r301,[]),(r299,[])] r311 [] (Ax (Ah EE 29 2 [(0,x306),(1,x310)]) 67126277 h307 fun x312 h313 r314 w315=>Ad [] r314 w315 (Aj [] false false ih 27 [.fv (.int .i64 21),x312] h313 fun x316 h317 r318 w319=>Ad [] r318 w319 (XP h317 x258 x290 x13 x316)))
def AaZ (h295:Hp) (x298 x300:IV) (ih:Aa) (x259:IV) (r301 r299:AH) (x258 x290 x13:IV):OH :=
 Ax (Ah EE 29 2 [(0,x298),(1,x300)]) 67126274 h295 fun x302 h303 r304 w305=>Ad [] r304 w305 (Aj [] false false ih 27 [.fv (.int .i64 20),x302] h303 fun x306 h307 r308 w309=>Ad [] r308 w309 (Ai 3 x259 h307 fun x310 r311=>Ys r311 r308 w309 r304 w305 r301 r299 h307 x306 x310 ih x258 x290 x13))
def Yl (r296 w297:AH) (h295:Hp) (x237 x291:IV) (ih:Aa) (x259 x258 x290 x13:IV):OH :=
 Ad [] r296 w297 (Ai 3 x237 h295 fun x298 r299=>Ad [] r299 [] (Ai 3 x291 h295 fun x300 r301=>Ad [(r299,[])] r301 [] (AaZ h295 x298 x300 ih x259 r301 r299 x258 x290 x13)))
def Xq (x285:IV) (h286:Hp) (r287 w288 r282 w283 r279 r276 w277 r273 r270 w271 r267:AH) (x237:IV) (ih:Aa) (x259 x258 x13:IV):OH :=
 AK 0 x285 fun x289=>AK 1 x285 fun x290=>AJ 67125261 (.row [.fv (.int .i64 0),.fv (.int .i64 0),.nils] false) (.ptr (.own 67125261) 0) h286 fun x291 h292 r293 w294=>Ad [(r287,w288),(r282,w283),(r279,[]),(r276,w277),(r273,[]),(r270,w271),(r267,[])] r293 w294 (Ak 3 x291 x289 h292 fun h295 r296 w297=>Yl r296 w297 h295 x237 x291 ih x259 x258 x290 x13)
def ZO (ih:Aa) (h275:Hp) (x278 x3 x268 x274:IV) (r279 r276 w277 r273 r270 w271 r267:AH) (x237 x259 x258 x13:IV):OH :=
 Aj [] false false ih 58 [x278,.fv (.int .i64 2)] h275 fun x280 h281 r282 w283=>Ad [] r282 w283 (A9 EE 3 x3 (.fv (.int .i64 2)) fun x284=>Aj [] false false ih 32 [x268,x274,x280,x284] h281 fun x285 h286 r287 w288=>Ad [] r287 w288 (Xq x285 h286 r287 w288 r282 w283 r279 r276 w277 r273 r270 w271 r267 x237 ih x259 x258 x13))
def Xz (r273 r270 w271 r267:AH) (ih:Aa) (h269:Hp) (x272 x9 x3 x268 x237 x259 x258 x13:IV):OH :=
 Ad [(r270,w271),(r267,[])] r273 [] (Aj [] false false ih 31 [x272,.fv (.int .i64 1),.fv (.int .i64 0)] h269 fun x274 h275 r276 w277=>Ad [] r276 w277 (Ai 3 x9 h275 fun x278 r279=>Ad [(r276,w277),(r273,[]),(r270,w271),(r267,[])] r279 [] (ZO ih h275 x278 x3 x268 x274 r279 r276 w277 r273 r270 w271 r267 x237 x259 x258 x13)))
def W4 (h263:Hp) (x237:IV) (ih:Aa) (x0 x5 x9 x3 x259 x258 x13:IV):OH :=
 Ai 3 x237 h263 fun x266 r267=>Ad [] r267 [] (Aj [] false false ih 29 [x0,.fv (.int .i64 0),x266] h263 fun x268 h269 r270 w271=>Ad [] r270 w271 (Ai 3 x5 h269 fun x272 r273=>Xz r273 r270 w271 r267 ih h269 x272 x9 x3 x268 x237 x259 x258 x13))
def AaF (x253:IV) (h254:Hp) (r255 w256 r250 w251 r247 r245:AH) (x257 x237:IV) (ih:Aa) (x0 x5 x9 x3 x13:IV):OH :=
 AK 1 x253 fun x258=>AJ 67124234 (.row [.fv (.int .i64 0),.fv (.int .i64 0),.nils] false) (.ptr (.own 67124234) 0) h254 fun x259 h260 r261 w262=>Ad [(r255,w256),(r250,w251),(r247,[]),(r245,[])] r261 w262 (Ak 3 x259 x257 h260 fun h263 r264 w265=>Ad [] r264 w265 (W4 h263 x237 ih x0 x5 x9 x3 x259 x258 x13))
def Aar (r250 w251 r245:AH) (x3:IV) (ih:Aa) (h249:Hp) (x0 x244 x248:IV) (r247:AH) (x237 x5 x9 x13:IV):OH :=
 Ad [(r245,[])] r250 w251 (A9 EE 3 x3 (.fv (.int .i64 2)) fun x252=>Aj [] false false ih 32 [x0,x244,x248,x252] h249 fun x253 h254 r255 w256=>Ad [] r255 w256 (AK 0 x253 fun x257=>AaF x253 h254 r255 w256 r250 w251 r247 r245 x257 x237 ih x0 x5 x9 x3 x13))
def Aal (h241:Hp) (x237 x9:IV) (ih:Aa) (x3 x0 x5 x13:IV):OH :=
 Ai 3 x237 h241 fun x244 r245=>Ad [] r245 [] (Ai 3 x9 h241 fun x246 r247=>Ad [(r245,[])] r247 [] (Aj [] false false ih 58 [x246,.fv (.int .i64 1)] h241 fun x248 h249 r250 w251=>Aar r250 w251 r245 x3 ih h249 x0 x244 x248 r247 x237 x5 x9 x13))
def YU (h32:Hp) (x9:IV) (ih:Aa) (x3 x0 x5 x13:IV):OH :=
 Ai 3 x9 h32 fun x227 _=>Aj [] false false ih 58 [x227,.fv (.int .i64 0)] h32 fun x229 h230 _ _=>Aj [] false false ih 33 [x229,.fv (.int .i64 1)] h230 fun x233 h234 _ _=>AJ 67123203 (.row [.fv (.int .i64 0),.fv (.int .i64 0),.nils] false) (.ptr (.own 67123203) 0) h234 fun x237 h238 _ _=>Ak 3 x237 x233 h238 fun h241 _ _=>Aal h241 x237 x9 ih x3 x0 x5 x13
def YT (x345 x396:IV) (h397:Hp) (x13 x391:IV):OH :=
 AF x345 x396 (.fv (.bool false)) fun x400=>Ak 3 x13 x391 h397 fun h401 _ _=>AC true 3 x13 h401 fun x404=>Ao [x404,x400] h401
def AaD (h372:Hp) (x375 x377:IV) (ih:Aa) (x345 x367 x13:IV):OH :=
 Ax (Ah EE 29 2 [(0,x375),(1,x377)]) 67130370 h372 fun x379 h380 _ _=>Aj [] false false ih 27 [.fv (.int .i64 22),x379] h380 fun x383 h384 _ _=>Ax (Ah EE 29 1 [(0,x383)]) 67130372 h384 fun x387 h388 _ _=>Aj [] false false ih 27 [.fv (.int .i64 23),x387] h388 fun x391 h392 _ _=>Ab x345 true h392 (fun k395=>k395 x367 h392 [] []) fun x396 h397 _ _=>YT x345 x396 h397 x13 x391
def ZB (r370 w371 r364 w365 r359 w360 r356 r354:AH) (h369:Hp) (x368 x366 x346:IV) (ih:Aa) (x345 x367 x13:IV):OH :=
 Ad [(r364,w365),(r359,w360),(r356,[]),(r354,[])] r370 w371 (Ak 3 x368 x366 h369 fun h372 r373 w374=>Ad [] r373 w374 (Ai 3 x346 h372 fun x375 _=>Ai 3 x368 h372 fun x377 _=>AaD h372 x375 x377 ih x345 x367 x13))
def YY (ih:Aa) (h358:Hp) (x0 x353 x357 x361:IV) (r359 w360 r356 r354:AH) (x346 x345 x13:IV):OH :=
 Aj [] false false ih 32 [x0,x353,x357,x361] h358 fun x362 h363 r364 w365=>Ad [] r364 w365 (AK 0 x362 fun x366=>AK 1 x362 fun x367=>AJ 67129354 (.row [.fv (.int .i64 0),.fv (.int .i64 0),.nils] false) (.ptr (.own 67129354) 0) h363 fun x368 h369 r370 w371=>ZB r370 w371 r364 w365 r359 w360 r356 r354 h369 x368 x366 x346 ih x345 x367 x13)
def Y6 (h350:Hp) (x9:IV) (r354:AH) (ih:Aa) (x3 x0 x353 x346 x345 x13:IV):OH :=
 Ai 3 x9 h350 fun x355 r356=>Ad [(r354,[])] r356 [] (Aj [] false false ih 58 [x355,.fv (.int .i64 1)] h350 fun x357 h358 r359 w360=>Ad [(r354,[])] r359 w360 (A9 EE 3 x3 (.fv (.int .i64 2)) fun x361=>YY ih h358 x0 x353 x357 x361 r359 w360 r356 r354 x346 x345 x13))
def Xm (r348 w349 r342 w343 r337 w338 r334 r332:AH) (h347:Hp) (x346 x344 x21 x9:IV) (ih:Aa) (x3 x0 x345 x13:IV):OH :=
 Ad [(r342,w343),(r337,w338),(r334,[]),(r332,[])] r348 w349 (Ak 3 x346 x344 h347 fun h350 r351 w352=>Ad [] r351 w352 (Ai 3 x21 h350 fun x353 r354=>Ad [] r354 [] (Y6 h350 x9 r354 ih x3 x0 x353 x346 x345 x13)))
def AbQ (ih:Aa) (h336:Hp) (x0 x331 x335 x339:IV) (r337 w338 r334 r332:AH) (x21 x9 x3 x13:IV):OH :=
 Aj [] false false ih 32 [x0,x331,x335,x339] h336 fun x340 h341 r342 w343=>Ad [] r342 w343 (AK 0 x340 fun x344=>AK 1 x340 fun x345=>AJ 67128330 (.row [.fv (.int .i64 0),.fv (.int .i64 0),.nils] false) (.ptr (.own 67128330) 0) h341 fun x346 h347 r348 w349=>Xm r348 w349 r342 w343 r337 w338 r334 r332 h347 x346 x344 x21 x9 ih x3 x0 x345 x13)
def AbJ (h32:Hp) (x9:IV) (r332:AH) (ih:Aa) (x3 x0 x331 x21 x13:IV):OH :=
 Ai 3 x9 h32 fun x333 r334=>Ad [(r332,[])] r334 [] (Aj [] false false ih 58 [x333,.fv (.int .i64 0)] h32 fun x335 h336 r337 w338=>Ad [(r332,[])] r337 w338 (A9 EE 3 x3 (.fv (.int .i64 2)) fun x339=>AbQ ih h336 x0 x331 x335 x339 r337 w338 r334 r332 x21 x9 x3 x13))
def Wb (h447:Hp) (x13 x446 x430:IV):OH :=
 Ak 3 x13 x446 h447 fun h450 _ _=>AC true 3 x13 h450 fun x453=>Ao [x453,x430] h450
def Z8 (r436 w437:AH) (h435:Hp) (x5 x431:IV) (ih:Aa) (x13 x430:IV):OH :=
 Ad [] r436 w437 (Ai 3 x5 h435 fun x438 _=>Ai 3 x431 h435 fun x440 _=>Ax (Ah EE 29 2 [(0,x438),(1,x440)]) 67133442 h435 fun x442 h443 _ _=>Aj [] false false ih 27 [.fv (.int .i64 29),x442] h443 fun x446 h447 _ _=>Wb h447 x13 x446 x430)
def Wn (x425:IV) (h426:Hp) (r427 w428 r422 w423 r419 r416 w417 r413 r410 w411 r407:AH) (x5:IV) (ih:Aa) (x13:IV):OH :=
 AK 0 x425 fun x429=>AK 1 x425 fun x430=>AJ 67132429 (.row [.fv (.int .i64 0),.fv (.int .i64 0),.nils] false) (.ptr (.own 67132429) 0) h426 fun x431 h432 r433 w434=>Ad [(r427,w428),(r422,w423),(r419,[]),(r416,w417),(r413,[]),(r410,w411),(r407,[])] r433 w434 (Ak 3 x431 x429 h432 fun h435 r436 w437=>Z8 r436 w437 h435 x5 x431 ih x13 x430)
def Xs (ih:Aa) (h415:Hp) (x418 x3 x408 x414:IV) (r419 r416 w417 r413 r410 w411 r407:AH) (x5 x13:IV):OH :=
 Aj [] false false ih 58 [x418,.fv (.int .i64 0)] h415 fun x420 h421 r422 w423=>Ad [] r422 w423 (A9 EE 3 x3 (.fv (.int .i64 2)) fun x424=>Aj [] false false ih 32 [x408,x414,x420,x424] h421 fun x425 h426 r427 w428=>Ad [] r427 w428 (Wn x425 h426 r427 w428 r422 w423 r419 r416 w417 r413 r410 w411 r407 x5 ih x13))
def XZ (r413 r410 w411 r407:AH) (ih:Aa) (h409:Hp) (x412 x9 x3 x408 x5 x13:IV):OH :=
 Ad [(r410,w411),(r407,[])] r413 [] (Aj [] false false ih 31 [x412,.fv (.int .i64 1),.fv (.int .i64 0)] h409 fun x414 h415 r416 w417=>Ad [] r416 w417 (Ai 3 x9 h415 fun x418 r419=>Ad [(r416,w417),(r413,[]),(r410,w411),(r407,[])] r419 [] (Xs ih h415 x418 x3 x408 x414 r419 r416 w417 r413 r410 w411 r407 x5 x13)))
def Yw (h32:Hp) (x5:IV) (ih:Aa) (x0 x9 x3 x13:IV):OH :=
 Ai 3 x5 h32 fun x406 r407=>Ad [] r407 [] (Aj [] false false ih 29 [x0,.fv (.int .i64 0),x406] h32 fun x408 h409 r410 w411=>Ad [] r410 w411 (Ai 3 x5 h409 fun x412 r413=>XZ r413 r410 w411 r407 ih h409 x412 x9 x3 x408 x5 x13))
def Zw (h481:Hp) (x484:IV) (ih:Aa) (x13 x476:IV):OH :=
 Ax (Ah EE 29 1 [(0,x484)]) 67135489 h481 fun x486 h487 _ _=>Aj [] false false ih 27 [.fv (.int .i64 30),x486] h487 fun x490 h491 _ _=>Ak 3 x13 x490 h491 fun h494 _ _=>AC true 3 x13 h494 fun x497=>Ao [x497,x476] h494
def Y2 (h472:Hp) (r473 w474 r468 w469 r465 r462 w463 r458 w459 r455:AH) (x475:IV) (ih:Aa) (x13 x476:IV):OH :=
 AJ 67134476 (.row [.fv (.int .i64 0),.fv (.int .i64 0),.nils] false) (.ptr (.own 67134476) 0) h472 fun x477 h478 r479 w480=>Ad [(r473,w474),(r468,w469),(r465,[]),(r462,w463),(r458,w459),(r455,[])] r479 w480 (Ak 3 x477 x475 h478 fun h481 r482 w483=>Ad [] r482 w483 (Ai 3 x477 h481 fun x484 _=>Zw h481 x484 ih x13 x476))
def YL (x3:IV) (ih:Aa) (h467:Hp) (x0 x460 x466:IV) (r468 w469 r465 r462 w463 r458 w459 r455:AH) (x13:IV):OH :=
 A9 EE 3 x3 (.fv (.int .i64 1)) fun x470=>Aj [] false false ih 26 [x0,x460,x466,x470] h467 fun x471 h472 r473 w474=>Ad [] r473 w474 (AK 0 x471 fun x475=>AK 1 x471 fun x476=>Y2 h472 r473 w474 r468 w469 r465 r462 w463 r458 w459 r455 x475 ih x13 x476)
def Wv (r462 w463:AH) (h461:Hp) (x9:IV) (r458 w459 r455:AH) (ih:Aa) (x3 x0 x460 x13:IV):OH :=
 Ad [] r462 w463 (Ai 3 x9 h461 fun x464 r465=>Ad [(r462,w463),(r458,w459),(r455,[])] r465 [] (Aj [] false false ih 58 [x464,.fv (.int .i64 0)] h461 fun x466 h467 r468 w469=>Ad [] r468 w469 (YL x3 ih h467 x0 x460 x466 r468 w469 r465 r462 w463 r458 w459 r455 x13)))
def X0 (h32:Hp) (x5:IV) (ih:Aa) (x9 x3 x0 x13:IV):OH :=
 Ai 3 x5 h32 fun x454 r455=>Ad [] r455 [] (Ax (Ah EE 29 1 [(0,x454)]) 67134466 h32 fun x456 h457 r458 w459=>Ad [] r458 w459 (Aj [] false false ih 27 [.fv (.int .i64 18),x456] h457 fun x460 h461 r462 w463=>Wv r462 w463 h461 x9 r458 w459 r455 ih x3 x0 x460 x13))
def Zu (x31:IV) (h32:Hp) (x5 x9:IV) (ih:Aa) (x3 x0 x21 x13:IV):OH :=
 A2 EE 3 x31 (.fv (.int .i64 3)) fun x330=>Al x330 (Ai 3 x5 h32 fun x331 r332=>Ad [] r332 [] (AbJ h32 x9 r332 ih x3 x0 x331 x21 x13)) (A2 EE 3 x31 (.fv (.int .i64 4)) fun x405=>Al x405 (Yw h32 x5 ih x0 x9 x3 x13) (X0 h32 x5 ih x9 x3 x0 x13))
def AaT (x31:IV) (h32:Hp) (x9:IV) (ih:Aa) (x3 x0 x5 x13 x21:IV):OH :=
 A2 EE 3 x31 (.fv (.int .i64 1)) fun x132=>Al x132 (Ai 3 x9 h32 fun x133 _=>Aj [] false false ih 58 [x133,.fv (.int .i64 0)] h32 fun x135 h136 _ _=>Zz ih h136 x135 x9 x3 x0 x5 x13) (A2 EE 3 x31 (.fv (.int .i64 2)) fun x226=>Al x226 (YU h32 x9 ih x3 x0 x5 x13) (Zu x31 h32 x5 x9 ih x3 x0 x21 x13))
def WL (x9:IV) (h25:Hp) (ih:Aa) (x21 x3 x0 x5 x13:IV):OH :=
 Ac 1 x9 fun x28=>Af x28 h25 fun x29 _=>Aj [] false false ih 55 [x29,.fv (.int .i64 7)] h25 fun x31 h32 _ _=>A2 EE 3 x31 (.fv (.int .i64 0)) fun x35=>Al x35 (Yz h32 x21 x9 ih x3 x0 x5 x13) (AaT x31 h32 x9 ih x3 x0 x5 x13 x21)
def S64 (ih:Aa) (n:Nat) (x0 x1 x2 x3:IV) (h4:Hp):OH :=
 Bg 67108864 x1 h4 fun x5 h6 _ _=>Bg 67108865 x2 h6 fun x9 h10 _ _=>AJ 67108866 (.row [.fv (.int .i64 0),.fv (.int .i64 0),.nils] false) (.ptr (.own 67108866) 0) h10 fun x13 h14 _ _=>Aj [] false false ih 27 [.fv (.int .i64 15),.nils] h14 fun x17 h18 _ _=>AJ 67109889 (.row [.fv (.int .i64 0),.fv (.int .i64 0),.nils] false) (.ptr (.own 67109889) 0) h18 fun x21 h22 _ _=>Ak 3 x21 x17 h22 fun h25 _ _=>WL x9 h25 ih x21 x3 x0 x5 x13
theorem Ak0 (ih:Aa) (n:Nat) (x0 x1 x2 x3:IV) (h4:Hp):AE EE ih ft.get n 64 [x0,x1,x2,x3] h4=S64 ih n x0 x1 x2 x3 h4:=by kernel_rfl
def Ld (h4:Hp) (x11 x1:IV):OH :=
 Af x11 h4 fun x12 _=>A2 EE 3 x12 x1 fun x14=>Ao [x14] h4
def K5 (x18 x35:IV) (ih:Aa) (h36:Hp) (x30 x20:IV) (q15:List IV→Hp→OH) (x19:IV):OH :=
 BF EE 3 x18 x35 fun x39=>Aj [] false false ih 68 [x30,x39] h36 fun x40 h41 r42 w43=>Ad [] r42 w43 (Al x40 (Ao [.fv (.bool true)] h41) (BF EE 3 x20 (.fv (.int .i64 1)) fun x44=>q15 [x18,x19,x44] h41))
def K9 (x19:IV) (h17:Hp) (r31 r28:AH) (ih:Aa) (x20 x18 x30:IV) (q15:List IV→Hp→OH):OH :=
 Ac 0 x19 fun x32=>Af x32 h17 fun x33 r34=>Ad [(r31,[]),(r28,[])] r34 [] (Aj [] false false ih 63 [x33,x20] h17 fun x35 h36 r37 w38=>Ad [(r31,[]),(r28,[])] r37 w38 (K5 x18 x35 ih h36 x30 x20 q15 x19))
def Lh (h17:Hp) (x26 x20 x19:IV) (ih:Aa) (x18:IV) (q15:List IV→Hp→OH):OH :=
 Af x26 h17 fun x27 r28=>Ad [] r28 [] (Bf 3 x27 x20 fun x29=>Ai 3 x29 h17 fun x30 r31=>Ad [] r31 [] (K9 x19 h17 r31 r28 ih x20 x18 x30 q15))
def K2 (x22 x20 x19:IV) (h17:Hp) (ih:Aa) (x18:IV) (q15:List IV→Hp→OH):OH :=
 Ca x22 fun x24=>Hg EE 3 x20 x24 fun x25=>Al x25 (Ac 2 x19 fun x26=>Lh h17 x26 x20 x19 ih x18 q15) (Ao [.fv (.bool false)] h17)
def Q3 (l16:List IV) (h17:Hp) (ih:Aa) (q15:List IV→Hp→OH):OH :=
 AA l16 fun x18 l45=>AA l45 fun x19 l46=>AA l46 fun x20 _=>Ac 2 x19 fun x21=>Af x21 h17 fun x22 _=>K2 x22 x20 x19 h17 ih x18 q15
def S68 (ih:Aa) (n:Nat) (x0 x1:IV) (h2:Hp):OH :=
 Bg 71303168 x0 h2 fun x3 h4 _ _=>Ac 0 x3 fun x7=>Af x7 h4 fun x8 _=>A2 EE 3 x8 (.fv (.int .i64 1)) fun x10=>Al x10 (Ac 1 x3 fun x11=>Ld h4 x11 x1) (BD n (fun q15 l16 h17=>Q3 l16 h17 ih q15) [x1,x3,.fv (.int .i64 0)] h4)
theorem AlL (ih:Aa) (n:Nat) (x0 x1:IV) (h2:Hp):AE EE ih ft.get n 68 [x0,x1] h2=S68 ih n x0 x1 h2:=by kernel_rfl
def S69 (ih:Aa) (n:Nat) (x0 x1:IV) (h2:Hp):OH :=
 Ax (Ah EE 93 0 []) 72352768 h2 fun x3 h4 _ _=>Ax (AT EE 72352770 false .append [93,93] [x3,x0]) 72352770 h4 fun x7 h8 _ _=>Ax (AT EE 72352772 false .append [93,93] [x7,x1]) 72352772 h8 fun x11 h12 _ _=>Ao [x11] h12
theorem AlK (ih:Aa) (n:Nat) (x0 x1:IV) (h2:Hp):AE EE ih ft.get n 69 [x0,x1] h2=S69 ih n x0 x1 h2:=by kernel_rfl
def WA (r121 w122:AH) (h120:Hp) (x119:IV):OH :=
 Ad [] r121 w122 (Ao [x119] h120)
def AbV (h79:Hp) (x109:IV) (r103 r99:AH) (ih:Aa) (x102 x0 x98:IV):OH :=
 Ax (Ah EE 93 1 [(0,x109)]) 73406479 h79 fun x111 h112 r113 w114=>Ad [(r103,[]),(r99,[])] r113 w114 (Aj [] false false ih 69 [x102,x111] h112 fun x115 h116 r117 w118=>Ad [(r99,[])] r117 w118 (Aj [true,false,false] false false ih 49 [x0,x98,x115] h116 fun x119 h120 r121 w122=>WA r121 w122 h120 x119))
def AaH (h79:Hp) (x105:IV) (r103 r99:AH) (ih:Aa) (x102 x0 x98:IV):OH :=
 Af x105 h79 fun x106 r107=>Ad [(r103,[]),(r99,[])] r107 [] (Bf 1 x106 (.fv (.int .i64 1)) fun x108=>Af x108 h79 fun x109 r110=>Ad [(r103,[]),(r99,[])] r110 [] (AbV h79 x109 r103 r99 ih x102 x0 x98))
def Ws (x100:IV) (h79:Hp) (r99:AH) (x1:IV) (ih:Aa) (x0 x98:IV):OH :=
 Ac 3 x100 fun x101=>Af x101 h79 fun x102 r103=>Ad [(r99,[])] r103 [] (AB x1 fun x104=>Ac 2 x104 fun x105=>AaH h79 x105 r103 r99 ih x102 x0 x98)
def Aai (x94:IV) (h79:Hp) (x1:IV) (ih:Aa) (x0:IV):OH :=
 AB x94 fun x96=>Ac 4 x96 fun x97=>Ai 3 x97 h79 fun x98 r99=>Ad [] r99 [] (AB x94 fun x100=>Ws x100 h79 r99 x1 ih x0 x98)
def V3 (x87:IV) (h79:Hp) (x1:IV) (ih:Aa) (x0:IV):OH :=
 AB x87 fun x89=>Ac 2 x89 fun x90=>Af x90 h79 fun x91 _=>Bf 1 x91 (.fv (.int .i64 1)) fun x93=>Af x93 h79 fun x94 _=>Aai x94 h79 x1 ih x0
def Wu (x1:IV) (h79:Hp) (ih:Aa) (x0:IV):OH :=
 AB x1 fun x82=>Ac 2 x82 fun x83=>Af x83 h79 fun x84 _=>Bf 1 x84 (.fv (.int .i64 0)) fun x86=>Af x86 h79 fun x87 _=>V3 x87 h79 x1 ih x0
def AbG (x235 x242:IV) (h223:Hp):OH :=
 Bf 1 x235 x242 fun x243=>Af x243 h223 fun x244 r245=>Ad [] r245 [] (Ao [x244] h223)
def Zq (x237:IV) (h223:Hp) (r236 r232 r229:AH) (x235:IV):OH :=
 Ac 0 x237 fun x238=>Af x238 h223 fun x239 r240=>Ad [(r236,[]),(r232,[]),(r229,[])] r240 [] (BF EE 3 (.fv (.int .i64 1)) x239 fun x241=>A9 EE 3 x241 (.fv (.int .i64 8)) fun x242=>AbG x235 x242 h223)
def AaA (x231:IV) (h223:Hp) (x1:IV) (r232 r229:AH):OH :=
 AB x231 fun x233=>Ac 2 x233 fun x234=>Af x234 h223 fun x235 r236=>Ad [] r236 [] (AB x1 fun x237=>Zq x237 h223 r236 r232 r229 x235)
def W3 (h223:Hp) (x227 x1:IV):OH :=
 Af x227 h223 fun x228 r229=>Ad [] r229 [] (Bf 1 x228 (.fv (.int .i64 0)) fun x230=>Af x230 h223 fun x231 r232=>Ad [] r232 [] (AaA x231 h223 x1 r232 r229))
def Wx (ih:Aa) (h218:Hp) (x0 x1:IV) (j0_3:Hp→OH):OH :=
 Aj [true] false false ih 86 [x0] h218 fun x222 h223 _ _=>Al x222 (AB x1 fun x226=>Ac 2 x226 fun x227=>W3 h223 x227 x1) (j0_3 h223)
def AbY (x258:IV) (h250:Hp):OH :=
 AB x258 fun x260=>Ac 2 x260 fun x261=>Af x261 h250 fun x262 _=>Bf 1 x262 (.fv (.int .i64 0)) fun x264=>Af x264 h250 fun x265 _=>Ao [x265] h250
def Ack (x1:IV) (h250:Hp):OH :=
 AB x1 fun x253=>Ac 2 x253 fun x254=>Af x254 h250 fun x255 _=>Bf 1 x255 (.fv (.int .i64 0)) fun x257=>Af x257 h250 fun x258 _=>AbY x258 h250
def Xt (h336:Hp) (x340:IV):OH :=
 Af x340 h336 fun x341 _=>Bf 1 x341 (.fv (.int .i64 1)) fun x343=>Af x343 h336 fun x344 _=>Ao [x344] h336
def Ye (x335 x1:IV) (h336:Hp) (j0_3:Hp→OH):OH :=
 Al x335 (AB x1 fun x339=>Ac 2 x339 fun x340=>Xt h336 x340) (j0_3 h336)
def WT (r483 w484 r480 r476:AH) (ih:Aa) (h482:Hp) (x479 x481 x0 x475:IV):OH :=
 Ad [(r480,[]),(r476,[])] r483 w484 (Aj [] false false ih 69 [x479,x481] h482 fun x485 h486 r487 w488=>Ad [(r476,[])] r487 w488 (Aj [true,false,false] false false ih 49 [x0,x475,x485] h486 fun x489 h490 r491 w492=>Ad [] r491 w492 (Ao [x489] h490)))
def XJ (x471:IV) (h463:Hp) (r476:AH) (x430 x462:IV) (ih:Aa) (x0 x475:IV):OH :=
 AB x471 fun x477=>Ac 3 x477 fun x478=>Af x478 h463 fun x479 r480=>Ad [(r476,[])] r480 [] (Ax (Ah EE 93 2 [(0,x430),(1,x462)]) 73422859 h463 fun x481 h482 r483 w484=>WT r483 w484 r480 r476 ih h482 x479 x481 x0 x475)
def Acb (h463:Hp) (x470 x430 x462:IV) (ih:Aa) (x0:IV):OH :=
 Af x470 h463 fun x471 _=>AB x471 fun x473=>Ac 4 x473 fun x474=>Ai 3 x474 h463 fun x475 r476=>Ad [] r476 [] (XJ x471 h463 r476 x430 x462 ih x0 x475)
def Z0 (r464 w465:AH) (x1:IV) (h463:Hp) (x430 x462:IV) (ih:Aa) (x0:IV):OH :=
 Ad [] r464 w465 (AB x1 fun x466=>Ac 2 x466 fun x467=>Af x467 h463 fun x468 _=>Bf 1 x468 (.fv (.int .i64 2)) fun x470=>Acb h463 x470 x430 x462 ih x0)
def WU (r455 w456:AH) (x453:IV) (h454:Hp) (ih:Aa) (x0 x1 x430:IV):OH :=
 Ad [] r455 w456 (Bv [.fv (.int .i64 0),.fv (.int .i64 0),.nils,.nils,.fv (.int .i64 0),.fv (.int .i64 0),.nils] [(0,1,.fv (.int .i64 13)),(2,1,x453)] fun x457=>Bg 73420822 x457 h454 fun x458 h459 r460 w461=>Ad [] r460 w461 (Aj [true,false] false false ih 70 [x0,x458] h459 fun x462 h463 r464 w465=>Z0 r464 w465 x1 h463 x430 x462 ih x0))
def XN (r449 r445 r442 r438 r435:AH) (x448:IV) (h415:Hp) (x437 x444 x430:IV) (ih:Aa) (x0 x1:IV):OH :=
 Ad [(r445,[]),(r442,[]),(r438,[]),(r435,[])] r449 [] (Bf 1 x448 (.fv (.int .i64 2)) fun x450=>Af x450 h415 fun x451 r452=>Ad [(r445,[]),(r442,[]),(r438,[]),(r435,[])] r452 [] (Ax (Ah EE 93 4 [(0,x437),(1,x444),(2,x451),(3,x430)]) 73420820 h415 fun x453 h454 r455 w456=>WU r455 w456 x453 h454 ih x0 x1 x430))
def WX (h415:Hp) (x443:IV) (r438 r435:AH) (x1:IV) (r442:AH) (x437 x430:IV) (ih:Aa) (x0:IV):OH :=
 Af x443 h415 fun x444 r445=>Ad [(r438,[]),(r435,[])] r445 [] (AB x1 fun x446=>Ac 2 x446 fun x447=>Af x447 h415 fun x448 r449=>XN r449 r445 r442 r438 r435 x448 h415 x437 x444 x430 ih x0 x1)
def Ab7 (x1:IV) (h415:Hp) (r438 r435:AH) (x437 x430:IV) (ih:Aa) (x0:IV):OH :=
 AB x1 fun x439=>Ac 2 x439 fun x440=>Af x440 h415 fun x441 r442=>Ad [(r438,[]),(r435,[])] r442 [] (Bf 1 x441 (.fv (.int .i64 1)) fun x443=>WX h415 x443 r438 r435 x1 r442 x437 x430 ih x0)
def ZQ (h415:Hp) (x433 x1 x430:IV) (ih:Aa) (x0:IV):OH :=
 Af x433 h415 fun x434 r435=>Ad [] r435 [] (Bf 1 x434 (.fv (.int .i64 0)) fun x436=>Af x436 h415 fun x437 r438=>Ad [] r438 [] (Ab7 x1 h415 r438 r435 x437 x430 ih x0))
def Yy (h415:Hp) (x426 x1:IV) (ih:Aa) (x0:IV):OH :=
 Af x426 h415 fun x427 _=>Bf 1 x427 (.fv (.int .i64 0)) fun x429=>Af x429 h415 fun x430 _=>AB x1 fun x432=>Ac 2 x432 fun x433=>ZQ h415 x433 x1 x430 ih x0
def WY (h415:Hp) (x419 x1:IV) (ih:Aa) (x0:IV):OH :=
 Af x419 h415 fun x420 _=>Bf 1 x420 (.fv (.int .i64 3)) fun x422=>Af x422 h415 fun x423 _=>AB x423 fun x425=>Ac 2 x425 fun x426=>Yy h415 x426 x1 ih x0
def Wt (ih:Aa) (h410:Hp) (x0 x1:IV) (j0_3:Hp→OH):OH :=
 Aj [true] false false ih 86 [x0] h410 fun x414 h415 _ _=>Al x414 (AB x1 fun x418=>Ac 2 x418 fun x419=>WY h415 x419 x1 ih x0) (j0_3 h415)
def Aam (h391:Hp) (x350 x390:IV) (ih:Aa) (x0 x1:IV) (j0_3:Hp→OH):OH :=
 Ab x350 true h391 (fun k394=>Ac 0 x390 fun x395=>k394 x395 h391 [] []) fun x396 h397 _ _=>Ab x350 true h397 (fun k400=>Af x396 h397 fun x401 r402=>k400 x401 h397 r402 []) fun x403 h404 _ _=>Ab x350 true h404 (fun k407=>A2 EE 3 x403 (.fv (.int .i64 12)) fun x408=>k407 x408 h404 [] []) fun x409 h410 _ _=>AF x350 x409 (.fv (.bool false)) fun x413=>Al x413 (Wt ih h410 x0 x1 j0_3) (j0_3 h410)
def Acm (h359:Hp) (x350 x358:IV) (ih:Aa) (x0 x1:IV) (j0_3:Hp→OH):OH :=
 Ab x350 true h359 (fun k362=>Ac 2 x358 fun x363=>k362 x363 h359 [] []) fun x364 h365 _ _=>Ab x350 true h365 (fun k368=>Af x364 h365 fun x369 r370=>k368 x369 h365 r370 []) fun x371 h372 _ _=>Ab x350 true h372 (fun k375=>Bf 1 x371 (.fv (.int .i64 3)) fun x376=>k375 x376 h372 [] []) fun x377 h378 _ _=>Ab x350 true h378 (fun k381=>Af x377 h378 fun x382 r383=>k381 x382 h378 r383 []) fun x384 h385 _ _=>Ab x350 true h385 (fun k388=>AB x384 fun x389=>k388 x389 h385 [] []) fun x390 h391 _ _=>Aam h391 x350 x390 ih x0 x1 j0_3
def AbP (x346:IV) (h331:Hp) (x1:IV) (ih:Aa) (x0:IV) (j0_3:Hp→OH):OH :=
 Ac 0 x346 fun x347=>Af x347 h331 fun x348 _=>A2 EE 3 x348 (.fv (.int .i64 13)) fun x350=>Ab x350 true h331 (fun k351=>k351 x1 h331 [] []) fun x352 h353 _ _=>Ab x350 true h353 (fun k356=>AB x352 fun x357=>k356 x357 h353 [] []) fun x358 h359 _ _=>Acm h359 x350 x358 ih x0 x1 j0_3
def Aa9 (h318:Hp) (x271 x317:IV) (ih:Aa) (x0 x1:IV) (j0_3:Hp→OH):OH :=
 Ab x271 true h318 (fun k321=>Af x317 h318 fun x322 r323=>k321 x322 h318 r323 []) fun x324 h325 _ _=>Ab x271 true h325 (fun k328=>A2 EE 3 x324 (.fv (.int .i64 11)) fun x329=>k328 x329 h325 [] []) fun x330 h331 _ _=>AF x271 x330 (.fv (.bool false)) fun x334=>Al x334 (Aj [true] false false ih 86 [x0] h331 fun x335 h336 _ _=>Ye x335 x1 h336 j0_3) (AB x1 fun x346=>AbP x346 h331 x1 ih x0 j0_3)
def ZN (h286:Hp) (x271 x285:IV) (ih:Aa) (x0 x1:IV) (j0_3:Hp→OH):OH :=
 Ab x271 true h286 (fun k289=>Af x285 h286 fun x290 r291=>k289 x290 h286 r291 []) fun x292 h293 _ _=>Ab x271 true h293 (fun k296=>Bf 1 x292 (.fv (.int .i64 3)) fun x297=>k296 x297 h293 [] []) fun x298 h299 _ _=>Ab x271 true h299 (fun k302=>Af x298 h299 fun x303 r304=>k302 x303 h299 r304 []) fun x305 h306 _ _=>Ab x271 true h306 (fun k309=>AB x305 fun x310=>k309 x310 h306 [] []) fun x311 h312 _ _=>Ab x271 true h312 (fun k315=>Ac 0 x311 fun x316=>k315 x316 h312 [] []) fun x317 h318 _ _=>Aa9 h318 x271 x317 ih x0 x1 j0_3
def Abn (h248:Hp) (x268 x1:IV) (ih:Aa) (x0:IV) (j0_3:Hp→OH):OH :=
 Af x268 h248 fun x269 _=>A2 EE 3 x269 (.fv (.int .i64 13)) fun x271=>Ab x271 true h248 (fun k272=>k272 x1 h248 [] []) fun x273 h274 _ _=>Ab x271 true h274 (fun k277=>AB x273 fun x278=>k277 x278 h274 [] []) fun x279 h280 _ _=>Ab x271 true h280 (fun k283=>Ac 2 x279 fun x284=>k283 x284 h280 [] []) fun x285 h286 _ _=>ZN h286 x271 x285 ih x0 x1 j0_3
def Ab3 (x247:IV) (ih:Aa) (h248:Hp) (x0 x1:IV) (j0_3:Hp→OH):OH :=
 Al x247 (Aj [true] false false ih 86 [x0] h248 fun x249 h250 _ _=>Al x249 (Ack x1 h250) (j0_3 h250)) (AB x1 fun x267=>Ac 0 x267 fun x268=>Abn h248 x268 x1 ih x0 j0_3)
def Yg (h612:Hp) (x565 x611:IV) (j1_246:IV→Hp→OH):OH :=
 Ab x565 true h612 (fun k615=>Af x611 h612 fun x616 r617=>k615 x616 h612 r617 []) fun x618 h619 _ _=>Ab x565 true h619 (fun k622=>A2 EE 3 x618 (.fv (.int .i64 30)) fun x623=>k622 x623 h619 [] []) fun x624 h625 _ _=>AF x565 x624 (.fv (.bool false)) fun x628=>j1_246 x628 h625
def Wl (h580:Hp) (x565 x579:IV) (j1_246:IV→Hp→OH):OH :=
 Ab x565 true h580 (fun k583=>Af x579 h580 fun x584 r585=>k583 x584 h580 r585 []) fun x586 h587 _ _=>Ab x565 true h587 (fun k590=>Bf 1 x586 (.fv (.int .i64 0)) fun x591=>k590 x591 h587 [] []) fun x592 h593 _ _=>Ab x565 true h593 (fun k596=>Af x592 h593 fun x597 r598=>k596 x597 h593 r598 []) fun x599 h600 _ _=>Ab x565 true h600 (fun k603=>AB x599 fun x604=>k603 x604 h600 [] []) fun x605 h606 _ _=>Ab x565 true h606 (fun k609=>Ac 0 x605 fun x610=>k609 x610 h606 [] []) fun x611 h612 _ _=>Yg h612 x565 x611 j1_246
def Aax (h557:Hp) (x562 x1:IV) (j1_246:IV→Hp→OH):OH :=
 Af x562 h557 fun x563 _=>A2 EE 3 x563 (.fv (.int .i64 19)) fun x565=>Ab x565 true h557 (fun k566=>k566 x1 h557 [] []) fun x567 h568 _ _=>Ab x565 true h568 (fun k571=>AB x567 fun x572=>k571 x572 h568 [] []) fun x573 h574 _ _=>Ab x565 true h574 (fun k577=>Ac 2 x573 fun x578=>k577 x578 h574 [] []) fun x579 h580 _ _=>Wl h580 x565 x579 j1_246
def Yu (x497 x556:IV) (j1_246:IV→Hp→OH) (h557:Hp) (x1:IV):OH :=
 AF x497 x556 (.fv (.bool false)) fun x560=>Al x560 (j1_246 x560 h557) (AB x1 fun x561=>Ac 0 x561 fun x562=>Aax h557 x562 x1 j1_246)
def AaO (h525:Hp) (x497 x524:IV) (j1_246:IV→Hp→OH) (x1:IV):OH :=
 Ab x497 true h525 (fun k528=>Af x524 h525 fun x529 r530=>k528 x529 h525 r530 []) fun x531 h532 _ _=>Ab x497 true h532 (fun k535=>AB x531 fun x536=>k535 x536 h532 [] []) fun x537 h538 _ _=>Ab x497 true h538 (fun k541=>Ac 0 x537 fun x542=>k541 x542 h538 [] []) fun x543 h544 _ _=>Ab x497 true h544 (fun k547=>Af x543 h544 fun x548 r549=>k547 x548 h544 r549 []) fun x550 h551 _ _=>Ab x497 true h551 (fun k554=>A2 EE 3 x550 (.fv (.int .i64 19)) fun x555=>k554 x555 h551 [] []) fun x556 h557 _ _=>Yu x497 x556 j1_246 h557 x1
def XF (h218:Hp) (x497 x1:IV) (j1_246:IV→Hp→OH):OH :=
 Ab x497 true h218 (fun k498=>k498 x1 h218 [] []) fun x499 h500 _ _=>Ab x497 true h500 (fun k503=>AB x499 fun x504=>k503 x504 h500 [] []) fun x505 h506 _ _=>Ab x497 true h506 (fun k509=>Ac 2 x505 fun x510=>k509 x510 h506 [] []) fun x511 h512 _ _=>Ab x497 true h512 (fun k515=>Af x511 h512 fun x516 r517=>k515 x516 h512 r517 []) fun x518 h519 _ _=>Ab x497 true h519 (fun k522=>Bf 1 x518 (.fv (.int .i64 0)) fun x523=>k522 x523 h519 [] []) fun x524 h525 _ _=>AaO h525 x497 x524 j1_246 x1
def Aa7 (ih:Aa) (x0 x1:IV) (j0_3:Hp→OH) (h218:Hp):OH :=
 (fun (j1_246:IV→Hp→OH)=>AB x1 fun x493=>Ac 0 x493 fun x494=>Af x494 h218 fun x495 _=>A2 EE 3 x495 (.fv (.int .i64 30)) fun x497=>XF h218 x497 x1 j1_246) fun x247 h248=>Ab3 x247 ih h248 x0 x1 j0_3
def Acg (h199:Hp) (x158 x198:IV) (ih:Aa) (x0 x1:IV) (j0_3:Hp→OH):OH :=
 Ab x158 true h199 (fun k202=>Ac 0 x198 fun x203=>k202 x203 h199 [] []) fun x204 h205 _ _=>Ab x158 true h205 (fun k208=>Af x204 h205 fun x209 r210=>k208 x209 h205 r210 []) fun x211 h212 _ _=>Ab x158 true h212 (fun k215=>A2 EE 3 x211 (.fv (.int .i64 7)) fun x216=>k215 x216 h212 [] []) fun x217 h218 _ _=>AF x158 x217 (.fv (.bool false)) fun x221=>Al x221 (Wx ih h218 x0 x1 j0_3) (Aa7 ih x0 x1 j0_3 h218)
def V8 (h167:Hp) (x158 x166:IV) (ih:Aa) (x0 x1:IV) (j0_3:Hp→OH):OH :=
 Ab x158 true h167 (fun k170=>Ac 2 x166 fun x171=>k170 x171 h167 [] []) fun x172 h173 _ _=>Ab x158 true h173 (fun k176=>Af x172 h173 fun x177 r178=>k176 x177 h173 r178 []) fun x179 h180 _ _=>Ab x158 true h180 (fun k183=>Bf 1 x179 (.fv (.int .i64 0)) fun x184=>k183 x184 h180 [] []) fun x185 h186 _ _=>Ab x158 true h186 (fun k189=>Af x185 h186 fun x190 r191=>k189 x190 h186 r191 []) fun x192 h193 _ _=>Ab x158 true h193 (fun k196=>AB x192 fun x197=>k196 x197 h193 [] []) fun x198 h199 _ _=>Acg h199 x158 x198 ih x0 x1 j0_3
def AaI (h142:Hp) (x127 x141 x1:IV) (ih:Aa) (x0:IV) (j0_3:Hp→OH):OH :=
 Ab x127 false h142 (fun k145=>Af x141 h142 fun x146 r147=>k145 x146 h142 r147 []) fun x148 h149 _ _=>Ab x127 false h149 (fun k152=>A2 EE 3 x148 (.fv (.int .i64 9)) fun x153=>k152 x153 h149 [] []) fun x154 h155 _ _=>AF x127 (.fv (.bool true)) x154 fun x158=>Ab x158 true h155 (fun k159=>k159 x1 h155 [] []) fun x160 h161 _ _=>Ab x158 true h161 (fun k164=>AB x160 fun x165=>k164 x165 h161 [] []) fun x166 h167 _ _=>V8 h167 x158 x166 ih x0 x1 j0_3
def Acl (h74:Hp) (x124 x1:IV) (ih:Aa) (x0:IV) (j0_3:Hp→OH):OH :=
 Af x124 h74 fun x125 _=>A2 EE 3 x125 (.fv (.int .i64 8)) fun x127=>Ab x127 false h74 (fun k128=>k128 x1 h74 [] []) fun x129 h130 _ _=>Ab x127 false h130 (fun k133=>AB x129 fun x134=>k133 x134 h130 [] []) fun x135 h136 _ _=>Ab x127 false h136 (fun k139=>Ac 0 x135 fun x140=>k139 x140 h136 [] []) fun x141 h142 _ _=>AaI h142 x127 x141 x1 ih x0 j0_3
def Wp (x77:IV) (ih:Aa) (h74:Hp) (x0 x1:IV) (j0_3:Hp→OH):OH :=
 Al x77 (Aj [true] false false ih 86 [x0] h74 fun x78 h79 _ _=>Al x78 (Wu x1 h79 ih x0) (j0_3 h79)) (AB x1 fun x123=>Ac 0 x123 fun x124=>Acl h74 x124 x1 ih x0 j0_3)
def Xp (h49:Hp) (x14 x48:IV) (ih:Aa) (x0 x1:IV) (j0_3:Hp→OH):OH :=
 Ab x14 true h49 (fun k52=>AB x48 fun x53=>k52 x53 h49 [] []) fun x54 h55 _ _=>Ab x14 true h55 (fun k58=>Ac 0 x54 fun x59=>k58 x59 h55 [] []) fun x60 h61 _ _=>Ab x14 true h61 (fun k64=>Af x60 h61 fun x65 r66=>k64 x65 h61 r66 []) fun x67 h68 _ _=>Ab x14 true h68 (fun k71=>A2 EE 3 x67 (.fv (.int .i64 4)) fun x72=>k71 x72 h68 [] []) fun x73 h74 _ _=>AF x14 x73 (.fv (.bool false)) fun x77=>Wp x77 ih h74 x0 x1 j0_3
def Acj (h17:Hp) (x14 x16:IV) (ih:Aa) (x0 x1:IV) (j0_3:Hp→OH):OH :=
 Ab x14 true h17 (fun k20=>AB x16 fun x21=>k20 x21 h17 [] []) fun x22 h23 _ _=>Ab x14 true h23 (fun k26=>Ac 2 x22 fun x27=>k26 x27 h23 [] []) fun x28 h29 _ _=>Ab x14 true h29 (fun k32=>Af x28 h29 fun x33 r34=>k32 x33 h29 r34 []) fun x35 h36 _ _=>Ab x14 true h36 (fun k39=>Bf 1 x35 (.fv (.int .i64 0)) fun x40=>k39 x40 h36 [] []) fun x41 h42 _ _=>Ab x14 true h42 (fun k45=>Af x41 h42 fun x46 r47=>k45 x46 h42 r47 []) fun x48 h49 _ _=>Xp h49 x14 x48 ih x0 x1 j0_3
def Abf (x1:IV) (h2:Hp) (ih:Aa) (x0:IV) (j0_3:Hp→OH):OH :=
 AB x1 fun x10=>Ac 0 x10 fun x11=>Af x11 h2 fun x12 _=>A2 EE 3 x12 (.fv (.int .i64 5)) fun x14=>Ab x14 true h2 (fun k15=>k15 x1 h2 [] []) fun x16 h17 _ _=>Acj h17 x14 x16 ih x0 x1 j0_3
def S70 (ih:Aa) (n:Nat) (x0 x1:IV) (h2:Hp):OH :=
 (fun (j0_3:Hp→OH)=>AB x0 fun x5=>Ac 2 x5 fun x6=>Af x6 h2 fun x7 _=>IH EE 3 x7 (.fv (.int .i64 0)) fun x9=>Al x9 (Ao [x1] h2) (Abf x1 h2 ih x0 j0_3)) fun h4=>Ao [x1] h4
theorem Ake (ih:Aa) (n:Nat) (x0 x1:IV) (h2:Hp):AE EE ih ft.get n 70 [x0,x1] h2=S70 ih n x0 x1 h2:=by kernel_rfl
def Af5 (x0:IV) (h7:Hp):OH :=
 A2 EE 3 x0 (.fv (.int .i64 13)) fun x9=>Al x9 (Ao [.fv (.int .i64 4)] h7) (Ao [.fv (.int .i64 (-1))] h7)
def Aem (x6:IV) (h7:Hp) (x0:IV):OH :=
 Al x6 (Ao [.fv (.int .i64 2)] h7) (A2 EE 3 x0 (.fv (.int .i64 7)) fun x8=>Al x8 (Ao [.fv (.int .i64 3)] h7) (Af5 x0 h7))
def Agc (x10:IV) (j1_5:IV→Hp→OH) (h4:Hp) (x0:IV):OH :=
 Al x10 (j1_5 x10 h4) (A2 EE 3 x0 (.fv (.int .i64 5)) fun x11=>j1_5 x11 h4)
def AfA (x3:IV) (h4:Hp) (x0:IV):OH :=
 Al x3 (Ao [.fv (.int .i64 1)] h4) ((fun (j1_5:IV→Hp→OH)=>A2 EE 3 x0 (.fv (.int .i64 4)) fun x10=>Agc x10 j1_5 h4 x0) fun x6 h7=>Aem x6 h7 x0)
def Aev (x0:IV) (j1_2:IV→Hp→OH) (h1:Hp):OH :=
 A2 EE 3 x0 (.fv (.int .i64 30)) fun x16=>j1_2 x16 h1
def Ad3 (x0:IV) (j1_2:IV→Hp→OH) (h1:Hp):OH :=
 A2 EE 3 x0 (.fv (.int .i64 12)) fun x14=>Al x14 (j1_2 x14 h1) (A2 EE 3 x0 (.fv (.int .i64 19)) fun x15=>Al x15 (j1_2 x15 h1) (Aev x0 j1_2 h1))
def S71 (ih:Aa) (n:Nat) (x0:IV) (h1:Hp):OH :=
 (fun (j1_2:IV→Hp→OH)=>A2 EE 3 x0 (.fv (.int .i64 8)) fun x12=>Al x12 (j1_2 x12 h1) (A2 EE 3 x0 (.fv (.int .i64 9)) fun x13=>Al x13 (j1_2 x13 h1) (Ad3 x0 j1_2 h1))) fun x3 h4=>AfA x3 h4 x0
theorem AmB (ih:Aa) (n:Nat) (x0:IV) (h1:Hp):AE EE ih ft.get n 71 [x0] h1=S71 ih n x0 h1:=by kernel_rfl
def UR (ih:Aa) (h23:Hp) (x0 x8 x22:IV):OH :=
 Aj [true,false,false,false] false false ih 81 [x0,x8,.fv (.int .i64 1),x22] h23 fun x26 h27 _ _=>Ao [x26] h27
def Uk (x15:IV) (h2:Hp) (ih:Aa) (x0 x8:IV):OH :=
 Ac 2 x15 fun x16=>Af x16 h2 fun x17 _=>Bf 1 x17 (.fv (.int .i64 1)) fun x19=>Af x19 h2 fun x20 _=>Ax (Ah EE 104 1 [(0,x20)]) 75500552 h2 fun x22 h23 _ _=>UR ih h23 x0 x8 x22
def UY (x10:IV) (h2:Hp) (x1:IV) (ih:Aa) (x0 x8:IV):OH :=
 Ac 0 x10 fun x11=>Af x11 h2 fun x12 _=>A2 EE 3 x12 (.fv (.int .i64 4)) fun x14=>Al x14 (AB x1 fun x15=>Uk x15 h2 ih x0 x8) (Ao [.fv .nilp] h2)
def S72 (ih:Aa) (n:Nat) (x0 x1:IV) (h2:Hp):OH :=
 AB x1 fun x3=>Ac 2 x3 fun x4=>Af x4 h2 fun x5 _=>Bf 1 x5 (.fv (.int .i64 0)) fun x7=>Af x7 h2 fun x8 _=>AB x8 fun x10=>UY x10 h2 x1 ih x0 x8
theorem Akx (ih:Aa) (n:Nat) (x0 x1:IV) (h2:Hp):AE EE ih ft.get n 72 [x0,x1] h2=S72 ih n x0 x1 h2:=by kernel_rfl
def Qg (x20:IV) (h2:Hp):OH :=
 Ac 2 x20 fun x21=>Af x21 h2 fun x22 _=>Bf 1 x22 (.fv (.int .i64 1)) fun x24=>Af x24 h2 fun x25 _=>Ao [x25] h2
def PZ (x27:IV) (h2:Hp):OH :=
 Ac 2 x27 fun x28=>Af x28 h2 fun x29 _=>Bf 1 x29 (.fv (.int .i64 2)) fun x31=>Af x31 h2 fun x32 _=>Ao [x32] h2
def P3 (x15:IV) (h2:Hp) (x8:IV):OH :=
 Ac 0 x15 fun x16=>Af x16 h2 fun x17 _=>A2 EE 3 x17 (.fv (.int .i64 8)) fun x19=>Al x19 (AB x8 fun x20=>Qg x20 h2) (AB x8 fun x27=>PZ x27 h2)
def RL (x10:IV) (h2:Hp) (x1 x8:IV):OH :=
 Ac 0 x10 fun x11=>Af x11 h2 fun x12 _=>IH EE 3 x12 (.fv (.int .i64 7)) fun x14=>Al x14 (Ao [.fv .nilp] h2) (AB x1 fun x15=>P3 x15 h2 x8)
def S73 (ih:Aa) (n:Nat) (x0 x1:IV) (h2:Hp):OH :=
 AB x1 fun x3=>Ac 2 x3 fun x4=>Af x4 h2 fun x5 _=>Bf 1 x5 (.fv (.int .i64 0)) fun x7=>Af x7 h2 fun x8 _=>AB x8 fun x10=>RL x10 h2 x1 x8
theorem Akd (ih:Aa) (n:Nat) (x0 x1:IV) (h2:Hp):AE EE ih ft.get n 73 [x0,x1] h2=S73 ih n x0 x1 h2:=by kernel_rfl
def Ro (x15:IV) (h2:Hp):OH :=
 Ac 2 x15 fun x16=>Af x16 h2 fun x17 _=>Bf 1 x17 (.fv (.int .i64 1)) fun x19=>Af x19 h2 fun x20 _=>Ao [x20] h2
def R4 (h63:Hp) (x60 x62:IV) (ih:Aa) (x0 x1:IV):OH :=
 Ax (Ah EE 104 2 [(0,x60),(1,x62)]) 77602826 h63 fun x66 h67 r68 w69=>Ad [] r68 w69 (Aj [true,false,false,false] false false ih 81 [x0,x1,.fv (.int .i64 2),x66] h67 fun x70 h71 r72 w73=>Ad [] r72 w73 (Ao [x70] h71))
def QW (x57:IV) (h52:Hp) (ih:Aa) (x0 x26:IV) (r58:AH) (x1:IV):OH :=
 Bf 1 x57 (.fv (.int .i64 0)) fun x59=>Af x59 h52 fun x60 r61=>Ad [] r61 [] (Aj [true,false] false false ih 80 [x0,x26] h52 fun x62 h63 r64 w65=>Ad [(r61,[]),(r58,[])] r64 w65 (R4 h63 x60 x62 ih x0 x1))
def Rf (r53 w54:AH) (x8:IV) (h52:Hp) (ih:Aa) (x0 x26 x1:IV):OH :=
 Ad [] r53 w54 (AB x8 fun x55=>Ac 2 x55 fun x56=>Af x56 h52 fun x57 r58=>Ad [] r58 [] (QW x57 h52 ih x0 x26 r58 x1))
def Q0 (r46 r39 r36:AH) (h30:Hp) (x38 x45 x26 x8:IV) (ih:Aa) (x0 x1:IV):OH :=
 Ad [(r39,[]),(r36,[])] r46 [] (Ax (Ah EE 104 4 [(0,.fv .nilp),(1,x38),(2,.fv .nilp),(3,x45)]) 77601804 h30 fun x47 h48 r49 w50=>Ad [] r49 w50 (Ac 2 x26 fun x51=>Bj x51 x47 h48 fun h52 r53 w54=>Rf r53 w54 x8 h52 ih x0 x26 x1))
def Qh (x40:IV) (h30:Hp) (r39 r36:AH) (x38 x26 x8:IV) (ih:Aa) (x0 x1:IV):OH :=
 Ac 2 x40 fun x41=>Af x41 h30 fun x42 r43=>Ad [(r39,[]),(r36,[])] r43 [] (Bf 1 x42 (.fv (.int .i64 0)) fun x44=>Af x44 h30 fun x45 r46=>Q0 r46 r39 r36 h30 x38 x45 x26 x8 ih x0 x1)
def QI (r36:AH) (x35:IV) (h30:Hp) (x8 x26:IV) (ih:Aa) (x0 x1:IV):OH :=
 Ad [] r36 [] (Bf 1 x35 (.fv (.int .i64 1)) fun x37=>Af x37 h30 fun x38 r39=>Ad [] r39 [] (AB x8 fun x40=>Qh x40 h30 r39 r36 x38 x26 x8 ih x0 x1))
def Rt (h2:Hp) (x24 x1 x8:IV) (ih:Aa) (x0:IV):OH :=
 AJ 77600771 (.row [.fv (.int .i64 0),.fv (.int .i64 0),.nils,.fv (.int .i64 0),.fv (.int .i64 0),.nils,.fv (.nilp)] false) (.ptr (.own 77600771) 0) h2 fun x26 h27 _ _=>Ak 7 x26 x24 h27 fun h30 _ _=>AB x1 fun x33=>Ac 2 x33 fun x34=>Af x34 h30 fun x35 r36=>QI r36 x35 h30 x8 x26 ih x0 x1
def Re (x22 x1:IV) (h2:Hp) (x8:IV) (ih:Aa) (x0:IV):OH :=
 Al x22 (AB x1 fun x23=>Ai 7 x23 h2 fun x24 _=>Rt h2 x24 x1 x8 ih x0) (Ao [.fv .nilp] h2)
def Qp (x10:IV) (h2:Hp) (x1 x8:IV) (ih:Aa) (x0:IV):OH :=
 Ac 0 x10 fun x11=>Af x11 h2 fun x12 _=>A2 EE 3 x12 (.fv (.int .i64 11)) fun x14=>Al x14 (AB x1 fun x15=>Ro x15 h2) (A2 EE 3 x12 (.fv (.int .i64 12)) fun x22=>Re x22 x1 h2 x8 ih x0)
def S74 (ih:Aa) (n:Nat) (x0 x1:IV) (h2:Hp):OH :=
 AB x1 fun x3=>Ac 2 x3 fun x4=>Af x4 h2 fun x5 _=>Bf 1 x5 (.fv (.int .i64 3)) fun x7=>Af x7 h2 fun x8 _=>AB x8 fun x10=>Qp x10 h2 x1 x8 ih x0
theorem Alv (ih:Aa) (n:Nat) (x0 x1:IV) (h2:Hp):AE EE ih ft.get n 74 [x0,x1] h2=S74 ih n x0 x1 h2:=by kernel_rfl
def S75 (ih:Aa) (n:Nat) (x0 x1:IV) (h2:Hp):OH :=
 Aj [] false false ih 87 [x1,.fv (.int .i64 19)] h2 fun x3 h4 _ _=>Ao [x3] h4
theorem Amu (ih:Aa) (n:Nat) (x0 x1:IV) (h2:Hp):AE EE ih ft.get n 75 [x0,x1] h2=S75 ih n x0 x1 h2:=by kernel_rfl
def S76 (ih:Aa) (n:Nat) (x0 x1:IV) (h2:Hp):OH :=
 Aj [] false false ih 87 [x1,.fv (.int .i64 30)] h2 fun x3 h4 _ _=>Ao [x3] h4
theorem AkF (ih:Aa) (n:Nat) (x0 x1:IV) (h2:Hp):AE EE ih ft.get n 76 [x0,x1] h2=S76 ih n x0 x1 h2:=by kernel_rfl
def QV (h44:Hp) (x49:IV):OH :=
 Bj x49 (.fv (.int .i64 17)) h44 fun h50 _ _=>Ao [] h50
def QY (x16 x43 x0:IV) (h44:Hp):OH :=
 AF x16 x43 (.fv (.bool false)) fun x47=>Al x47 (AB x0 fun x48=>Ac 3 x48 fun x49=>QV h44 x49) (Ao [] h44)
def QF (h9:Hp) (x16 x0:IV):OH :=
 Ab x16 true h9 (fun k17=>k17 x0 h9 [] []) fun x18 h19 _ _=>Ab x16 true h19 (fun k22=>AB x18 fun x23=>k22 x23 h19 [] []) fun x24 h25 _ _=>Ab x16 true h25 (fun k28=>Ac 3 x24 fun x29=>k28 x29 h25 [] []) fun x30 h31 _ _=>Ab x16 true h31 (fun k34=>Af x30 h31 fun x35 r36=>k34 x35 h31 r36 []) fun x37 h38 _ _=>Ab x16 true h38 (fun k41=>A2 EE 37 x37 (.fv (.int .i64 0)) fun x42=>k41 x42 h38 [] []) fun x43 h44 _ _=>QY x16 x43 x0 h44
def Sj (h1:Hp) (x8 x6 x0:IV):OH :=
 Bj x8 x6 h1 fun h9 _ _=>AB x0 fun x12=>Ac 1 x12 fun x13=>Af x13 h9 fun x14 _=>Hg EE 3 x14 (.fv (.int .i64 0)) fun x16=>QF h9 x16 x0
def S77 (ih:Aa) (n:Nat) (x0:IV) (h1:Hp):OH :=
 AB x0 fun x2=>Ac 1 x2 fun x3=>Af x3 h1 fun x4 _=>A9 EE 3 x4 (.fv (.int .i64 1)) fun x6=>AB x0 fun x7=>Ac 1 x7 fun x8=>Sj h1 x8 x6 x0
theorem AjT (ih:Aa) (n:Nat) (x0:IV) (h1:Hp):AE EE ih ft.get n 77 [x0] h1=S77 ih n x0 h1:=by kernel_rfl
def QR (h5:Hp) (x11:IV):OH :=
 Af x11 h5 fun x12 _=>Ao [x12] h5
def Qr (x15:IV) (h5:Hp) (q3:List IV→Hp→OH) (x14:IV):OH :=
 Ac 1 x15 fun x16=>Af x16 h5 fun x17 _=>q3 [x17,x14] h5
def QD (x9 x6:IV) (h5:Hp) (x7:IV) (q3:List IV→Hp→OH):OH :=
 Al x9 (AB x6 fun x10=>Ac 0 x10 fun x11=>QR h5 x11) (A9 EE 3 x7 (.fv (.int .i64 1)) fun x14=>AB x6 fun x15=>Qr x15 h5 q3 x14)
def Ps (x19:IV) (h5:Hp):OH :=
 Bv [.fv (.int .i64 0),.fv (.int .i64 0),.nils,.fv (.int .i64 0),.fv (.int .i64 0),.nils,.fv (.nilp)] [(0,1,.fv (.int .i64 1)),(1,1,x19)] fun x20=>Bg 81795075 x20 h5 fun x21 h22 _ _=>Ao [x21] h22
def NB (l4:List IV) (h5:Hp) (q3:List IV→Hp→OH):OH :=
 AA l4 fun x6 l25=>AA l25 fun x7 _=>IH EE 102 x6 (.fv .nilp) fun x8=>Al x8 (A2 EE 3 x7 (.fv (.int .i64 0)) fun x9=>QD x9 x6 h5 x7 q3) (A9 EE 3 (.fv (.int .i64 (-1))) x7 fun x19=>Ps x19 h5)
def S78 (ih:Aa) (n:Nat) (x0 x1:IV) (h2:Hp):OH :=
 BD n (fun q3 l4 h5=>NB l4 h5 q3) [x0,x1] h2
theorem Aln (ih:Aa) (n:Nat) (x0 x1:IV) (h2:Hp):AE EE ih ft.get n 78 [x0,x1] h2=S78 ih n x0 x1 h2:=by kernel_rfl
def S79 (ih:Aa) (n:Nat) (x0 x1:IV) (h2:Hp):OH :=
 I6 EE ih (.fv (.func (.func 88) [] [])) [x0,x1] h2 fun x3 h4 _ _=>Ao [x3] h4
theorem Aj5 (ih:Aa) (n:Nat) (x0 x1:IV) (h2:Hp):AE EE ih ft.get n 79 [x0,x1] h2=S79 ih n x0 x1 h2:=by kernel_rfl
def Acc (h113:Hp) (x122:IV) (j0_104:Hp→OH):OH :=
 Bj x122 (.fv (.int .i64 17)) h113 fun h123 _ _=>j0_104 h123
def Z2 (x120 x0:IV) (h113:Hp) (j0_104:Hp→OH):OH :=
 Al x120 (AB x0 fun x121=>Ac 3 x121 fun x122=>Acc h113 x122 j0_104) (j0_104 h113)
def ZH (h100:Hp) (x112 x110 x0:IV) (j0_104:Hp→OH):OH :=
 Bj x112 x110 h100 fun h113 _ _=>AB x0 fun x116=>Ac 0 x116 fun x117=>Af x117 h113 fun x118 _=>Hg EE 3 x118 (.fv (.int .i64 0)) fun x120=>Z2 x120 x0 h113 j0_104
def Acd (x106:IV) (h100:Hp) (x0:IV) (j0_104:Hp→OH):OH :=
 Ac 0 x106 fun x107=>Af x107 h100 fun x108 _=>A9 EE 3 x108 (.fv (.int .i64 1)) fun x110=>AB x0 fun x111=>Ac 0 x111 fun x112=>ZH h100 x112 x110 x0 j0_104
def Yx (x103:IV) (h100:Hp) (x1 x68 x0:IV):OH :=
 Al x103 (Ao [x1] h100) ((fun (j0_104:Hp→OH)=>AB x0 fun x106=>Acd x106 h100 x0 j0_104) fun h105=>Ao [x68] h105)
def AaQ (h75:Hp) (x72 x74 x1 x68 x0:IV):OH :=
 Ab x72 false h75 (fun k78=>AB x74 fun x79=>k78 x79 h75 [] []) fun x80 h81 _ _=>Ab x72 false h81 (fun k84=>Ac 3 x80 fun x85=>k84 x85 h81 [] []) fun x86 h87 _ _=>Ab x72 false h87 (fun k90=>Af x86 h87 fun x91 r92=>k90 x91 h87 r92 []) fun x93 h94 _ _=>Ab x72 false h94 (fun k97=>IH EE 37 x93 (.fv (.int .i64 0)) fun x98=>k97 x98 h94 [] []) fun x99 h100 _ _=>AF x72 (.fv (.bool true)) x99 fun x103=>Yx x103 h100 x1 x68 x0
def ZT (x17:IV) (h57:Hp) (ih:Aa) (x1 x0:IV):OH :=
 Ac 0 x17 fun x65=>Af x65 h57 fun x66 _=>I6 EE ih x66 [x1] h57 fun x68 h69 _ _=>A2 EE 76 x68 (.fv .nilp) fun x72=>Ab x72 false h69 (fun k73=>k73 x0 h69 [] []) fun x74 h75 _ _=>AaQ h75 x72 x74 x1 x68 x0
def Aac (x0:IV) (h57:Hp) (x1 x17:IV) (ih:Aa):OH :=
 AB x0 fun x60=>Ac 3 x60 fun x61=>Af x61 h57 fun x62 _=>IH EE 37 x62 (.fv (.int .i64 0)) fun x64=>Al x64 (Ao [x1] h57) (ZT x17 h57 ih x1 x0)
def WO (h46:Hp) (x24 x45 x1:IV) (ih:Aa) (x0 x17:IV):OH :=
 Ab x24 false h46 (fun k49=>IH EE 37 x45 (.fv (.int .i64 0)) fun x50=>k49 x50 h46 [] []) fun x51 h52 _ _=>AF x24 (.fv (.bool true)) x51 fun x55=>Al x55 (Ao [x1] h52) (Aj [true] false false ih 77 [x0] h52 fun _ h57 _ _=>Aac x0 h57 x1 x17 ih)
def YO (x16:IV) (h21:Hp) (x0 x1:IV) (ih:Aa) (x17:IV):OH :=
 CC (KS .not x16) fun x24=>Ab x24 false h21 (fun k25=>k25 x0 h21 [] []) fun x26 h27 _ _=>Ab x24 false h27 (fun k30=>AB x26 fun x31=>k30 x31 h27 [] []) fun x32 h33 _ _=>Ab x24 false h33 (fun k36=>Ac 3 x32 fun x37=>k36 x37 h33 [] []) fun x38 h39 _ _=>Ab x24 false h39 (fun k42=>Af x38 h39 fun x43 r44=>k42 x43 h39 r44 []) fun x45 h46 _ _=>WO h46 x24 x45 x1 ih x0 x17
def Zj (x11:IV) (h12:Hp) (r13 w14 r10 r6:AH) (x15 x0 x1:IV) (ih:Aa):OH :=
 AK 1 x11 fun x16=>AJ 83887116 (.row [.fv (.nilf)] false) (.ptr (.own 83887116) 0) h12 fun x17 h18 r19 w20=>Ad [(r13,w14),(r10,[]),(r6,[])] r19 w20 (Bj x17 x15 h18 fun h21 r22 w23=>Ad [] r22 w23 (YO x16 h21 x0 x1 ih x17))
def Aa4 (h2:Hp) (x8:IV) (r6:AH) (x5 x0 x1:IV) (ih:Aa):OH :=
 Af x8 h2 fun x9 r10=>Ad [(r6,[])] r10 [] (Ax (GM EE 78 x5 x9 true) 83887112 h2 fun x11 h12 r13 w14=>Ad [] r13 w14 (AK 0 x11 fun x15=>Zj x11 h12 r13 w14 r10 r6 x15 x0 x1 ih))
def S80 (ih:Aa) (n:Nat) (x0 x1:IV) (h2:Hp):OH :=
 AB x0 fun x3=>Ac 4 x3 fun x4=>Af x4 h2 fun x5 r6=>Ad [] r6 [] (AB x1 fun x7=>Ac 0 x7 fun x8=>Aa4 h2 x8 r6 x5 x0 x1 ih)
theorem AkX (ih:Aa) (n:Nat) (x0 x1:IV) (h2:Hp):AE EE ih ft.get n 80 [x0,x1] h2=S80 ih n x0 x1 h2:=by kernel_rfl
def AdK (x16 x2:IV) (h10:Hp) (r11 w12 r8:AH) (ih:Aa) (x0 x9:IV):OH :=
 Bf 3 x16 x2 fun x18=>Ai 3 x18 h10 fun x19 r20=>Ad [(r11,w12),(r8,[])] r20 [] (Aj [true,false,false] false false ih 52 [x0,x9,x19] h10 fun x21 h22 r23 w24=>Ad [] r23 w24 (Ao [x21] h22))
def Agj (x1:IV) (h10:Hp) (r11 w12 r8:AH) (x2:IV) (ih:Aa) (x0 x9:IV):OH :=
 AB x1 fun x13=>Ac 3 x13 fun x14=>Ac 2 x14 fun x15=>Af x15 h10 fun x16 r17=>Ad [(r11,w12),(r8,[])] r17 [] (AdK x16 x2 h10 r11 w12 r8 ih x0 x9)
def S81 (ih:Aa) (n:Nat) (x0 x1 x2 x3:IV) (h4:Hp):OH :=
 AB x1 fun x5=>Ac 6 x5 fun x6=>Af x6 h4 fun x7 r8=>Ad [] r8 [] (Aj [] false false ih 89 [x7,x3] h4 fun x9 h10 r11 w12=>Ad [] r11 w12 (Agj x1 h10 r11 w12 r8 x2 ih x0 x9))
theorem AjH (ih:Aa) (n:Nat) (x0 x1 x2 x3:IV) (h4:Hp):AE EE ih ft.get n 81 [x0,x1,x2,x3] h4=S81 ih n x0 x1 x2 x3 h4:=by kernel_rfl
def P9 (x12:IV) (h13:Hp) (x0:IV):OH :=
 Al x12 (Ao [.fv (.int .i64 3)] h13) (A2 EE 3 x0 (.fv (.int .i64 13)) fun x14=>Al x14 (Ao [.fv (.int .i64 4)] h13) (Ao [.fv (.int .i64 (-1))] h13))
def Rb (x15:IV) (j1_11:IV→Hp→OH) (h10:Hp) (x0:IV):OH :=
 Al x15 (j1_11 x15 h10) (A2 EE 3 x0 (.fv (.int .i64 27)) fun x16=>j1_11 x16 h10)
def Pw (x9:IV) (h10:Hp) (x0:IV):OH :=
 Al x9 (Ao [.fv (.int .i64 2)] h10) ((fun (j1_11:IV→Hp→OH)=>A2 EE 3 x0 (.fv (.int .i64 7)) fun x15=>Rb x15 j1_11 h10 x0) fun x12 h13=>P9 x12 h13 x0)
def Qf (x0:IV) (j1_8:IV→Hp→OH) (h7:Hp):OH :=
 A2 EE 3 x0 (.fv (.int .i64 28)) fun x27=>Al x27 (j1_8 x27 h7) (A2 EE 3 x0 (.fv (.int .i64 29)) fun x28=>j1_8 x28 h7)
def Rz (x0:IV) (j1_8:IV→Hp→OH) (h7:Hp):OH :=
 A2 EE 3 x0 (.fv (.int .i64 22)) fun x25=>Al x25 (j1_8 x25 h7) (A2 EE 3 x0 (.fv (.int .i64 26)) fun x26=>Al x26 (j1_8 x26 h7) (Qf x0 j1_8 h7))
def Qd (x0:IV) (j1_8:IV→Hp→OH) (h7:Hp):OH :=
 A2 EE 3 x0 (.fv (.int .i64 20)) fun x23=>Al x23 (j1_8 x23 h7) (A2 EE 3 x0 (.fv (.int .i64 21)) fun x24=>Al x24 (j1_8 x24 h7) (Rz x0 j1_8 h7))
def Rc (x0:IV) (j1_8:IV→Hp→OH) (h7:Hp):OH :=
 A2 EE 3 x0 (.fv (.int .i64 16)) fun x21=>Al x21 (j1_8 x21 h7) (A2 EE 3 x0 (.fv (.int .i64 17)) fun x22=>Al x22 (j1_8 x22 h7) (Qd x0 j1_8 h7))
def RY (x0:IV) (j1_8:IV→Hp→OH) (h7:Hp):OH :=
 A2 EE 3 x0 (.fv (.int .i64 5)) fun x19=>Al x19 (j1_8 x19 h7) (A2 EE 3 x0 (.fv (.int .i64 6)) fun x20=>Al x20 (j1_8 x20 h7) (Rc x0 j1_8 h7))
def Ru (x17:IV) (j1_8:IV→Hp→OH) (h7:Hp) (x0:IV):OH :=
 Al x17 (j1_8 x17 h7) (A2 EE 3 x0 (.fv (.int .i64 4)) fun x18=>Al x18 (j1_8 x18 h7) (RY x0 j1_8 h7))
def Rg (x6:IV) (h7:Hp) (x0:IV):OH :=
 Al x6 (Ao [.fv (.int .i64 1)] h7) ((fun (j1_8:IV→Hp→OH)=>A2 EE 3 x0 (.fv (.int .i64 3)) fun x17=>Ru x17 j1_8 h7 x0) fun x9 h10=>Pw x9 h10 x0)
def Sk (x0:IV) (j1_5:IV→Hp→OH) (h4:Hp):OH :=
 A2 EE 3 x0 (.fv (.int .i64 24)) fun x35=>Al x35 (j1_5 x35 h4) (A2 EE 3 x0 (.fv (.int .i64 30)) fun x36=>j1_5 x36 h4)
def RW (x0:IV) (j1_5:IV→Hp→OH) (h4:Hp):OH :=
 A2 EE 3 x0 (.fv (.int .i64 19)) fun x33=>Al x33 (j1_5 x33 h4) (A2 EE 3 x0 (.fv (.int .i64 23)) fun x34=>Al x34 (j1_5 x34 h4) (Sk x0 j1_5 h4))
def QH (x0:IV) (j1_5:IV→Hp→OH) (h4:Hp):OH :=
 A2 EE 3 x0 (.fv (.int .i64 12)) fun x31=>Al x31 (j1_5 x31 h4) (A2 EE 3 x0 (.fv (.int .i64 18)) fun x32=>Al x32 (j1_5 x32 h4) (RW x0 j1_5 h4))
def Sl (x29:IV) (j1_5:IV→Hp→OH) (h4:Hp) (x0:IV):OH :=
 Al x29 (j1_5 x29 h4) (A2 EE 3 x0 (.fv (.int .i64 9)) fun x30=>Al x30 (j1_5 x30 h4) (QH x0 j1_5 h4))
def Pt (x3:IV) (h4:Hp) (x0:IV):OH :=
 Al x3 (Ao [.fv (.int .i64 0)] h4) ((fun (j1_5:IV→Hp→OH)=>A2 EE 3 x0 (.fv (.int .i64 8)) fun x29=>Sl x29 j1_5 h4 x0) fun x6 h7=>Rg x6 h7 x0)
def Pz (x0:IV) (j1_2:IV→Hp→OH) (h1:Hp):OH :=
 A2 EE 3 x0 (.fv (.int .i64 25)) fun x43=>j1_2 x43 h1
def Rs (x0:IV) (j1_2:IV→Hp→OH) (h1:Hp):OH :=
 A2 EE 3 x0 (.fv (.int .i64 14)) fun x41=>Al x41 (j1_2 x41 h1) (A2 EE 3 x0 (.fv (.int .i64 15)) fun x42=>Al x42 (j1_2 x42 h1) (Pz x0 j1_2 h1))
def QG (x0:IV) (j1_2:IV→Hp→OH) (h1:Hp):OH :=
 A2 EE 3 x0 (.fv (.int .i64 10)) fun x39=>Al x39 (j1_2 x39 h1) (A2 EE 3 x0 (.fv (.int .i64 11)) fun x40=>Al x40 (j1_2 x40 h1) (Rs x0 j1_2 h1))
def S82 (ih:Aa) (n:Nat) (x0:IV) (h1:Hp):OH :=
 (fun (j1_2:IV→Hp→OH)=>A2 EE 3 x0 (.fv (.int .i64 1)) fun x37=>Al x37 (j1_2 x37 h1) (A2 EE 3 x0 (.fv (.int .i64 2)) fun x38=>Al x38 (j1_2 x38 h1) (QG x0 j1_2 h1))) fun x3 h4=>Pt x3 h4 x0
theorem Al8 (ih:Aa) (n:Nat) (x0:IV) (h1:Hp):AE EE ih ft.get n 82 [x0] h1=S82 ih n x0 h1:=by kernel_rfl
def Agv (h7:Hp) (x4 x6:IV):OH :=
 Ab x4 true h7 (fun k10=>leS EE 3 x6 (.fv (.int .i64 3000)) fun x11=>k10 x11 h7 [] []) fun x12 h13 _ _=>AF x4 x12 (.fv (.bool false)) fun x16=>Ao [x16] h13
def AdJ (x1:IV) (h2:Hp):OH :=
 geS EE 3 x1 (.fv (.int .i64 0)) fun x18=>Ab x18 true h2 (fun k19=>k19 x1 h2 [] []) fun x20 h21 _ _=>Ab x18 true h21 (fun k24=>leS EE 3 x20 (.fv (.int .i64 2)) fun x25=>k24 x25 h21 [] []) fun x26 h27 _ _=>AF x18 x26 (.fv (.bool false)) fun x30=>Ao [x30] h27
def Aek (h35:Hp) (x32 x34:IV):OH :=
 Ab x32 true h35 (fun k38=>leS EE 3 x34 (.fv (.int .i64 4)) fun x39=>k38 x39 h35 [] []) fun x40 h41 _ _=>AF x32 x40 (.fv (.bool false)) fun x44=>Ao [x44] h41
def Ae8 (x1:IV) (h2:Hp):OH :=
 A2 EE 3 x1 (.fv (.int .i64 0)) fun x46=>Ao [x46] h2
def Agb (x0 x1:IV) (h2:Hp):OH :=
 A2 EE 3 x0 (.fv (.int .i64 26)) fun x31=>Al x31 (geS EE 3 x1 (.fv (.int .i64 0)) fun x32=>Ab x32 true h2 (fun k33=>k33 x1 h2 [] []) fun x34 h35 _ _=>Aek h35 x32 x34) (A2 EE 3 x0 (.fv (.int .i64 25)) fun x45=>Al x45 (Ao [.fv (.bool true)] h2) (Ae8 x1 h2))
def S83 (ih:Aa) (n:Nat) (x0 x1:IV) (h2:Hp):OH :=
 A2 EE 3 x0 (.fv (.int .i64 1)) fun x3=>Al x3 (geS EE 3 x1 (.fv (.int .i64 0)) fun x4=>Ab x4 true h2 (fun k5=>k5 x1 h2 [] []) fun x6 h7 _ _=>Agv h7 x4 x6) (A2 EE 3 x0 (.fv (.int .i64 2)) fun x17=>Al x17 (AdJ x1 h2) (Agb x0 x1 h2))
theorem Amh (ih:Aa) (n:Nat) (x0 x1:IV) (h2:Hp):AE EE ih ft.get n 83 [x0,x1] h2=S83 ih n x0 x1 h2:=by kernel_rfl
def U2 (x0:IV) (h13:Hp):OH :=
 AB x0 fun x14=>Ac 2 x14 fun x15=>Af x15 h13 fun x16 _=>A2 EE 3 x16 (.fv (.int .i64 0)) fun x18=>Ao [x18] h13
def U7 (h9:Hp) (x25:IV) (j0_12:Hp→OH):OH :=
 Bj x25 (.fv (.int .i64 17)) h9 fun h26 _ _=>j0_12 h26
def UF (x21 x0:IV) (h9:Hp) (j0_12:Hp→OH):OH :=
 KU EE 3 x21 (.fv (.int .i64 1000)) fun x23=>Al x23 (AB x0 fun x24=>Ac 2 x24 fun x25=>U7 h9 x25 j0_12) (j0_12 h9)
def UM (h1:Hp) (x8 x6 x0:IV):OH :=
 Bj x8 x6 h1 fun h9 _ _=>(fun (j0_12:Hp→OH)=>AB x0 fun x19=>Ac 0 x19 fun x20=>Af x20 h9 fun x21 _=>UF x21 x0 h9 j0_12) fun h13=>U2 x0 h13
def S86 (ih:Aa) (n:Nat) (x0:IV) (h1:Hp):OH :=
 AB x0 fun x2=>Ac 0 x2 fun x3=>Af x3 h1 fun x4 _=>BF EE 3 x4 (.fv (.int .i64 1)) fun x6=>AB x0 fun x7=>Ac 0 x7 fun x8=>UM h1 x8 x6 x0
theorem AmD (ih:Aa) (n:Nat) (x0:IV) (h1:Hp):AE EE ih ft.get n 86 [x0] h1=S86 ih n x0 h1:=by kernel_rfl
def Vb (x22:IV) (h2:Hp):OH :=
 Ac 2 x22 fun x23=>Af x23 h2 fun x24 _=>Bf 1 x24 (.fv (.int .i64 0)) fun x26=>Af x26 h2 fun x27 _=>Ao [x27] h2
def Vy (x15:IV) (h2:Hp):OH :=
 Ac 2 x15 fun x16=>Af x16 h2 fun x17 _=>Bf 1 x17 (.fv (.int .i64 0)) fun x19=>Af x19 h2 fun x20 _=>AB x20 fun x22=>Vb x22 h2
def VF (x10:IV) (h2:Hp) (x1 x0:IV):OH :=
 Ac 0 x10 fun x11=>Af x11 h2 fun x12 _=>IH EE 3 x12 x1 fun x14=>Al x14 (Ao [.fv .nilp] h2) (AB x0 fun x15=>Vy x15 h2)
def S87 (ih:Aa) (n:Nat) (x0 x1:IV) (h2:Hp):OH :=
 AB x0 fun x3=>Ac 2 x3 fun x4=>Af x4 h2 fun x5 _=>Bf 1 x5 (.fv (.int .i64 0)) fun x7=>Af x7 h2 fun x8 _=>AB x8 fun x10=>VF x10 h2 x1 x0
theorem AmA (ih:Aa) (n:Nat) (x0 x1:IV) (h2:Hp):AE EE ih ft.get n 87 [x0,x1] h2=S87 ih n x0 x1 h2:=by kernel_rfl
def Af8 (x1:IV) (h7:Hp) (j0_3:Hp→OH):OH :=
 A2 EE 3 x1 (.fv (.int .i64 0)) fun x10=>Al x10 (Ao [.fv (.int .i64 1)] h7) (A2 EE 3 x1 (.fv (.int .i64 2)) fun x11=>Al x11 (Ao [.fv (.int .i64 2)] h7) (j0_3 h7))
def Agt (x6 x1:IV) (h7:Hp) (j0_3:Hp→OH) (x0:IV):OH :=
 Al x6 (A2 EE 3 x1 (.fv (.int .i64 1)) fun x8=>Al x8 (Ao [.fv (.int .i64 1)] h7) (j0_3 h7)) (A2 EE 3 x0 (.fv (.int .i64 13)) fun x9=>Al x9 (Af8 x1 h7 j0_3) (j0_3 h7))
def AdT (x0:IV) (j1_5:IV→Hp→OH) (h2:Hp):OH :=
 A2 EE 3 x0 (.fv (.int .i64 29)) fun x17=>j1_5 x17 h2
def AdP (x0:IV) (j1_5:IV→Hp→OH) (h2:Hp):OH :=
 A2 EE 3 x0 (.fv (.int .i64 20)) fun x15=>Al x15 (j1_5 x15 h2) (A2 EE 3 x0 (.fv (.int .i64 28)) fun x16=>Al x16 (j1_5 x16 h2) (AdT x0 j1_5 h2))
def AeU (x13:IV) (j1_5:IV→Hp→OH) (h2:Hp) (x0:IV):OH :=
 Al x13 (j1_5 x13 h2) (A2 EE 3 x0 (.fv (.int .i64 6)) fun x14=>Al x14 (j1_5 x14 h2) (AdP x0 j1_5 h2))
def S88 (ih:Aa) (n:Nat) (x0 x1:IV) (h2:Hp):OH :=
 (fun (j0_3:Hp→OH)=>(fun (j1_5:IV→Hp→OH)=>A2 EE 3 x0 (.fv (.int .i64 3)) fun x12=>Al x12 (j1_5 x12 h2) (A2 EE 3 x0 (.fv (.int .i64 4)) fun x13=>AeU x13 j1_5 h2 x0)) fun x6 h7=>Agt x6 x1 h7 j0_3 x0) fun h4=>Ao [.fv (.int .i64 0)] h4
theorem AlB (ih:Aa) (n:Nat) (x0 x1:IV) (h2:Hp):AE EE ih ft.get n 88 [x0,x1] h2=S88 ih n x0 x1 h2:=by kernel_rfl
def Rp (x13 x7:IV) (h6:Hp) (x10:IV) (h2:Hp) (x8 x9:IV) (q4:List IV→Hp→OH):OH :=
 Bv [.fv (.nilp),.fv (.nilp)] [(0,1,x13),(1,1,x7)] fun x15=>fzS (J1 true 93327363 x15) 93327363 x15 h6 fun x16 h17 _ _=>BF EE 3 x10 (.fv (.int .i64 1)) fun x20=>Bt (h2.own.map (·.1)) [93327363] [x16,x8,x9,x20] h17 fun h21=>q4 [x16,x8,x9,x20] h21
def QX (x11 x8 x10:IV) (h6:Hp) (x7:IV) (h2:Hp) (x9:IV) (q4:List IV→Hp→OH):OH :=
 Al x11 (Bf 1 x8 x10 fun x12=>Af x12 h6 fun x13 _=>Rp x13 x7 h6 x10 h2 x8 x9 q4) (Ao [x7] h6)
def VE (l5:List IV) (h6 h2:Hp) (q4:List IV→Hp→OH):OH :=
 AA l5 fun x7 l22=>AA l22 fun x8 l23=>AA l23 fun x9 l24=>AA l24 fun x10 _=>Hg EE 3 x10 x9 fun x11=>QX x11 x8 x10 h6 x7 h2 x9 q4
def S89 (ih:Aa) (n:Nat) (x0 x1:IV) (h2:Hp):OH :=
 Ca x1 fun x3=>Bt (h2.own.map (·.1)) [93327363] [x0,x1,x3,.fv (.int .i64 0)] h2 fun h26=>BD n (fun q4 l5 h6=>VE l5 h6 h2 q4) [x0,x1,x3,.fv (.int .i64 0)] h26
theorem Aly (ih:Aa) (n:Nat) (x0 x1:IV) (h2:Hp):AE EE ih ft.get n 89 [x0,x1] h2=S89 ih n x0 x1 h2:=by kernel_rfl
end
noncomputable section
def dt:DT :=
 .node 52 (.node 30 (.node 20 (.node 16 (.node 14 (.node 12 (.leaf 10 (fun ih n=>KT (S10 ih n)))
 (.leaf 12 (fun ih n=>KT (S12 ih n))))
 (.node 15 (.leaf 14 (fun ih n=>Mn (S14 ih n)))
 (.leaf 15 (fun ih n=>Hf (S15 ih n)))))
 (.node 18 (.node 17 (.leaf 16 (fun ih n=>Hf (S16 ih n)))
 (.leaf 17 (fun ih n=>KT (S17 ih n))))
 (.node 19 (.leaf 18 (fun ih n=>Hf (S18 ih n)))
 (.leaf 19 (fun ih n=>Hf (S19 ih n))))))
 (.node 25 (.node 22 (.node 21 (.leaf 20 (fun ih n=>Hf (S20 ih n)))
 (.leaf 21 (fun ih n=>Fd (S21 ih n))))
 (.node 24 (.leaf 22 (fun ih n=>Hf (S22 ih n)))
 (.leaf 24 (fun ih n=>Hf (S24 ih n)))))
 (.node 27 (.node 26 (.leaf 25 (fun ih n=>Ub (S25 ih n)))
 (.leaf 26 (fun ih n=>KT (S26 ih n))))
 (.node 29 (.leaf 27 (fun ih n=>Fd (S27 ih n)))
 (.leaf 29 (fun ih n=>Ub (S29 ih n)))))))
 (.node 42 (.node 34 (.node 32 (.node 31 (.leaf 30 (fun ih n=>Ub (S30 ih n)))
 (.leaf 31 (fun ih n=>Ub (S31 ih n))))
 (.node 33 (.leaf 32 (fun ih n=>KT (S32 ih n)))
 (.leaf 33 (fun ih n=>Fd (S33 ih n)))))
 (.node 36 (.node 35 (.leaf 34 (fun ih n=>Hf (S34 ih n)))
 (.leaf 35 (fun ih n=>Hf (S35 ih n))))
 (.node 37 (.leaf 36 (fun ih n=>Hf (S36 ih n)))
 (.leaf 37 (fun ih n=>Fd (S37 ih n))))))
 (.node 48 (.node 46 (.node 43 (.leaf 42 (fun ih n=>Mn (S42 ih n)))
 (.leaf 43 (fun ih n=>Hf (S43 ih n))))
 (.node 47 (.leaf 46 (fun ih n=>Hf (S46 ih n)))
 (.leaf 47 (fun ih n=>Fd (S47 ih n)))))
 (.node 50 (.node 49 (.leaf 48 (fun ih n=>KT (S48 ih n)))
 (.leaf 49 (fun ih n=>Ub (S49 ih n))))
 (.node 51 (.leaf 50 (fun ih n=>Hf (S50 ih n)))
 (.leaf 51 (fun ih n=>Mn (S51 ih n))))))))
 (.node 71 (.node 60 (.node 56 (.node 54 (.node 53 (.leaf 52 (fun ih n=>Ub (S52 ih n)))
 (.leaf 53 (fun ih n=>KT (S53 ih n))))
 (.node 55 (.leaf 54 (fun ih n=>Ub (S54 ih n)))
 (.leaf 55 (fun ih n=>Fd (S55 ih n)))))
 (.node 58 (.node 57 (.leaf 56 (fun ih n=>Mn (S56 ih n)))
 (.leaf 57 (fun ih n=>Hf (S57 ih n))))
 (.node 59 (.leaf 58 (fun ih n=>Fd (S58 ih n)))
 (.leaf 59 (fun ih n=>KT (S59 ih n))))))
 (.node 64 (.node 62 (.node 61 (.leaf 60 (fun ih n=>KT (S60 ih n)))
 (.leaf 61 (fun ih n=>KT (S61 ih n))))
 (.node 63 (.leaf 62 (fun ih n=>KT (S62 ih n)))
 (.leaf 63 (fun ih n=>Fd (S63 ih n)))))
 (.node 69 (.node 68 (.leaf 64 (fun ih n=>KT (S64 ih n)))
 (.leaf 68 (fun ih n=>Fd (S68 ih n))))
 (.node 70 (.leaf 69 (fun ih n=>Fd (S69 ih n)))
 (.leaf 70 (fun ih n=>Fd (S70 ih n)))))))
 (.node 79 (.node 75 (.node 73 (.node 72 (.leaf 71 (fun ih n=>Hf (S71 ih n)))
 (.leaf 72 (fun ih n=>Fd (S72 ih n))))
 (.node 74 (.leaf 73 (fun ih n=>Fd (S73 ih n)))
 (.leaf 74 (fun ih n=>Fd (S74 ih n)))))
 (.node 77 (.node 76 (.leaf 75 (fun ih n=>Fd (S75 ih n)))
 (.leaf 76 (fun ih n=>Fd (S76 ih n))))
 (.node 78 (.leaf 77 (fun ih n=>Hf (S77 ih n)))
 (.leaf 78 (fun ih n=>Fd (S78 ih n))))))
 (.node 83 (.node 81 (.node 80 (.leaf 79 (fun ih n=>Fd (S79 ih n)))
 (.leaf 80 (fun ih n=>Fd (S80 ih n))))
 (.node 82 (.leaf 81 (fun ih n=>KT (S81 ih n)))
 (.leaf 82 (fun ih n=>Hf (S82 ih n)))))
 (.node 87 (.node 86 (.leaf 83 (fun ih n=>Fd (S83 ih n)))
 (.leaf 86 (fun ih n=>Hf (S86 ih n))))
 (.node 88 (.leaf 87 (fun ih n=>Fd (S87 ih n)))
 (.node 89 (.leaf 88 (fun ih n=>Fd (S88 ih n)))
 (.leaf 89 (fun ih n=>Fd (S89 ih n)))))))))
theorem AoU:dt.Ok EE ft.get :=
 ⟨⟨⟨⟨⟨⟨(fun ih n _ _ _ e=>Eb (F:=AE EE ih ft.get n 10) (Akk ih n) e),
 (fun ih n _ _ _ e=>Eb (F:=AE EE ih ft.get n 12) (Amw ih n) e)⟩,
 ⟨(fun ih n _ _ _ e=>PB (F:=AE EE ih ft.get n 14) (Ama ih n) e),
 (fun ih n _ _ _ e=>Cn (F:=AE EE ih ft.get n 15) (AkM ih n) e)⟩⟩,
 ⟨⟨(fun ih n _ _ _ e=>Cn (F:=AE EE ih ft.get n 16) (AjS ih n) e),
 (fun ih n _ _ _ e=>Eb (F:=AE EE ih ft.get n 17) (AjR ih n) e)⟩,
 ⟨(fun ih n _ _ _ e=>Cn (F:=AE EE ih ft.get n 18) (AmL ih n) e),
 (fun ih n _ _ _ e=>Cn (F:=AE EE ih ft.get n 19) (Akm ih n) e)⟩⟩⟩,
 ⟨⟨⟨(fun ih n _ _ _ e=>Cn (F:=AE EE ih ft.get n 20) (Amj ih n) e),
 (fun ih n _ _ _ e=>BT (F:=AE EE ih ft.get n 21) (AkO ih n) e)⟩,
 ⟨(fun ih n _ _ _ e=>Cn (F:=AE EE ih ft.get n 22) (AkZ ih n) e),
 (fun ih n _ _ _ e=>Cn (F:=AE EE ih ft.get n 24) (Aj8 ih n) e)⟩⟩,
 ⟨⟨(fun ih n _ _ _ e=>Jg (F:=AE EE ih ft.get n 25) (AkL ih n) e),
 (fun ih n _ _ _ e=>Eb (F:=AE EE ih ft.get n 26) (AjG ih n) e)⟩,
 ⟨(fun ih n _ _ _ e=>BT (F:=AE EE ih ft.get n 27) (AlQ ih n) e),
 (fun ih n _ _ _ e=>Jg (F:=AE EE ih ft.get n 29) (AjE ih n) e)⟩⟩⟩⟩,
 ⟨⟨⟨⟨(fun ih n _ _ _ e=>Jg (F:=AE EE ih ft.get n 30) (Amk ih n) e),
 (fun ih n _ _ _ e=>Jg (F:=AE EE ih ft.get n 31) (AkY ih n) e)⟩,
 ⟨(fun ih n _ _ _ e=>Eb (F:=AE EE ih ft.get n 32) (Al7 ih n) e),
 (fun ih n _ _ _ e=>BT (F:=AE EE ih ft.get n 33) (Akq ih n) e)⟩⟩,
 ⟨⟨(fun ih n _ _ _ e=>Cn (F:=AE EE ih ft.get n 34) (AlT ih n) e),
 (fun ih n _ _ _ e=>Cn (F:=AE EE ih ft.get n 35) (Alh ih n) e)⟩,
 ⟨(fun ih n _ _ _ e=>Cn (F:=AE EE ih ft.get n 36) (Akl ih n) e),
 (fun ih n _ _ _ e=>BT (F:=AE EE ih ft.get n 37) (Alx ih n) e)⟩⟩⟩,
 ⟨⟨⟨(fun ih n _ _ _ e=>PB (F:=AE EE ih ft.get n 42) (AmF ih n) e),
 (fun ih n _ _ _ e=>Cn (F:=AE EE ih ft.get n 43) (Al0 ih n) e)⟩,
 ⟨(fun ih n _ _ _ e=>Cn (F:=AE EE ih ft.get n 46) (Akr ih n) e),
 (fun ih n _ _ _ e=>BT (F:=AE EE ih ft.get n 47) (AlC ih n) e)⟩⟩,
 ⟨⟨(fun ih n _ _ _ e=>Eb (F:=AE EE ih ft.get n 48) (AjJ ih n) e),
 (fun ih n _ _ _ e=>Jg (F:=AE EE ih ft.get n 49) (AkV ih n) e)⟩,
 ⟨(fun ih n _ _ _ e=>Cn (F:=AE EE ih ft.get n 50) (Akn ih n) e),
 (fun ih n _ _ _ e=>PB (F:=AE EE ih ft.get n 51) (Akw ih n) e)⟩⟩⟩⟩⟩,
 ⟨⟨⟨⟨⟨(fun ih n _ _ _ e=>Jg (F:=AE EE ih ft.get n 52) (AmE ih n) e),
 (fun ih n _ _ _ e=>Eb (F:=AE EE ih ft.get n 53) (Aj1 ih n) e)⟩,
 ⟨(fun ih n _ _ _ e=>Jg (F:=AE EE ih ft.get n 54) (Ale ih n) e),
 (fun ih n _ _ _ e=>BT (F:=AE EE ih ft.get n 55) (Al2 ih n) e)⟩⟩,
 ⟨⟨(fun ih n _ _ _ e=>PB (F:=AE EE ih ft.get n 56) (Alq ih n) e),
 (fun ih n _ _ _ e=>Cn (F:=AE EE ih ft.get n 57) (Aml ih n) e)⟩,
 ⟨(fun ih n _ _ _ e=>BT (F:=AE EE ih ft.get n 58) (Alu ih n) e),
 (fun ih n _ _ _ e=>Eb (F:=AE EE ih ft.get n 59) (AkD ih n) e)⟩⟩⟩,
 ⟨⟨⟨(fun ih n _ _ _ e=>Eb (F:=AE EE ih ft.get n 60) (Alt ih n) e),
 (fun ih n _ _ _ e=>Eb (F:=AE EE ih ft.get n 61) (Alw ih n) e)⟩,
 ⟨(fun ih n _ _ _ e=>Eb (F:=AE EE ih ft.get n 62) (AlU ih n) e),
 (fun ih n _ _ _ e=>BT (F:=AE EE ih ft.get n 63) (AjU ih n) e)⟩⟩,
 ⟨⟨(fun ih n _ _ _ e=>Eb (F:=AE EE ih ft.get n 64) (Ak0 ih n) e),
 (fun ih n _ _ _ e=>BT (F:=AE EE ih ft.get n 68) (AlL ih n) e)⟩,
 ⟨(fun ih n _ _ _ e=>BT (F:=AE EE ih ft.get n 69) (AlK ih n) e),
 (fun ih n _ _ _ e=>BT (F:=AE EE ih ft.get n 70) (Ake ih n) e)⟩⟩⟩⟩,
 ⟨⟨⟨⟨(fun ih n _ _ _ e=>Cn (F:=AE EE ih ft.get n 71) (AmB ih n) e),
 (fun ih n _ _ _ e=>BT (F:=AE EE ih ft.get n 72) (Akx ih n) e)⟩,
 ⟨(fun ih n _ _ _ e=>BT (F:=AE EE ih ft.get n 73) (Akd ih n) e),
 (fun ih n _ _ _ e=>BT (F:=AE EE ih ft.get n 74) (Alv ih n) e)⟩⟩,
 ⟨⟨(fun ih n _ _ _ e=>BT (F:=AE EE ih ft.get n 75) (Amu ih n) e),
 (fun ih n _ _ _ e=>BT (F:=AE EE ih ft.get n 76) (AkF ih n) e)⟩,
 ⟨(fun ih n _ _ _ e=>Cn (F:=AE EE ih ft.get n 77) (AjT ih n) e),
 (fun ih n _ _ _ e=>BT (F:=AE EE ih ft.get n 78) (Aln ih n) e)⟩⟩⟩,
 ⟨⟨⟨(fun ih n _ _ _ e=>BT (F:=AE EE ih ft.get n 79) (Aj5 ih n) e),
 (fun ih n _ _ _ e=>BT (F:=AE EE ih ft.get n 80) (AkX ih n) e)⟩,
 ⟨(fun ih n _ _ _ e=>Eb (F:=AE EE ih ft.get n 81) (AjH ih n) e),
 (fun ih n _ _ _ e=>Cn (F:=AE EE ih ft.get n 82) (Al8 ih n) e)⟩⟩,
 ⟨⟨(fun ih n _ _ _ e=>BT (F:=AE EE ih ft.get n 83) (Amh ih n) e),
 (fun ih n _ _ _ e=>Cn (F:=AE EE ih ft.get n 86) (AmD ih n) e)⟩,
 ⟨(fun ih n _ _ _ e=>BT (F:=AE EE ih ft.get n 87) (AmA ih n) e),
 ⟨(fun ih n _ _ _ e=>BT (F:=AE EE ih ft.get n 88) (AlB ih n) e),
 (fun ih n _ _ _ e=>BT (F:=AE EE ih ft.get n 89) (Aly ih n) e)⟩⟩⟩⟩⟩⟩⟩
theorem Al5:∀n f args h x,SS dt n f args h=some x→run EE n f args h=some x:=Aoe AnF AoU
end
end Idl
end Go.Proofs.Ytbkdidonegggdaa

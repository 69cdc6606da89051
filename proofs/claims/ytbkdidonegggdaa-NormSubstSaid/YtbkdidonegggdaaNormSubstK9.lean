/-
  Texts of a proof, part 9: an ideal semantics of the program, its functions in shallow form, contracts of them. No statement of the seat is proved here.
-/
import Derived.Test.YtbkdidonegggdaaNormSubstK8
set_option linter.all false
noncomputable section
set_option maxRecDepth 100000
set_option linter.unusedVariables false
namespace Go.Proofs.Ytbkdidonegggdaa
namespace Idl
noncomputable section
def H7 (h28:Hp) (x13 x27:IV):OH :=
 Al 3 x13 x27 h28 fun h31 _ _=>AG true 3 x13 h31 fun x34=>Aq [x34] h31
def Iu (x40:IV) (h14:Hp) (x13:IV):OH :=
 A9 EE 3 x40 (.fv (.int .i64 1)) fun x42=>Bw [.fv (.int .i64 0),.fv (.int .i64 0),.nils] [(0,1,.fv (.int .i64 1)),(1,1,x42)] fun x43=>Al 3 x13 x43 h14 fun h44 _ _=>AG true 3 x13 h44 fun x47=>Aq [x47] h44
def IJ (h50:Hp) (x13:IV):OH :=
 AG true 3 x13 h50 fun x53=>Aq [x53] h50
def Ih (x36 x1 x5:IV) (h14:Hp) (x13:IV):OH :=
 KN EE 3 x36 x1 fun x38=>Ak x38 (Ac 1 x5 fun x39=>Af x39 h14 fun x40 _=>Iu x40 h14 x13) (Ai 3 x5 h14 fun x48 _=>Al 3 x13 x48 h14 fun h50 _ _=>IJ h50 x13)
def II (x22 x1:IV) (h14:Hp) (x9:IV) (ih:Aa) (x2 x13 x5:IV):OH :=
 A2 EE 3 x22 x1 fun x24=>Ak x24 (Ai 3 x9 h14 fun x25 _=>Aj [] false false ih 31 [x25,x2,.fv (.int .i64 0)] h14 fun x27 h28 _ _=>H7 h28 x13 x27) (Ac 1 x5 fun x35=>Af x35 h14 fun x36 _=>Ih x36 x1 x5 h14 x13)
def IK (x76:IV) (h112:Hp) (x111 x77:IV) (h4:Hp) (x71 x72 x73 x74 x75:IV) (q68:List IV→Hp→OH):OH :=
 Ac 2 x76 fun x115=>Bp x115 x111 h112 fun h116 r117 w118=>Ad [] r117 w118 (BH EE 3 x77 (.fv (.int .i64 1)) fun x119=>By (h4.own.map (·.1)) [65024016] [x71,x72,x73,x74,x75,x76,x119] h116 fun h120=>q68 [x71,x72,x73,x74,x75,x76,x119] h120)
def HZ (r105 w106 r92:AI) (h104:Hp) (x103 x91 x76 x77:IV) (h4:Hp) (x71 x72 x73 x74 x75:IV) (q68:List IV→Hp→OH):OH :=
 Ad [(r92,[])] r105 w106 (Ay (Ah EE 29 1 [(0,x103)]) 65024015 h104 fun x107 h108 r109 w110=>Ad [(r92,[])] r109 w110 (Ay (AU EE 65024016 false .append [29,29] [x91,x107]) 65024016 h108 fun x111 h112 r113 w114=>Ad [] r113 w114 (IK x76 h112 x111 x77 h4 x71 x72 x73 x74 x75 q68)))
def HT (x71 x86 x72:IV) (h87:Hp) (x74:IV) (r98 r95 r92:AI) (ih:Aa) (x97 x91 x76 x77:IV) (h4:Hp) (x73 x75:IV) (q68:List IV→Hp→OH):OH :=
 BH EE 3 x71 x86 fun x99=>BH EE 3 x72 x86 fun x100=>Ai 3 x74 h87 fun x101 r102=>Ad [(r98,[]),(r95,[]),(r92,[])] r102 [] (Aj [] false false ih 62 [x97,x99,x100,x101] h87 fun x103 h104 r105 w106=>HZ r105 w106 r92 h104 x103 x91 x76 x77 h4 x71 x72 x73 x74 x75 q68)
def Iq (h87:Hp) (x93:IV) (r92:AI) (x77 x71 x86 x72 x74:IV) (ih:Aa) (x91 x76:IV) (h4:Hp) (x73 x75:IV) (q68:List IV→Hp→OH):OH :=
 Af x93 h87 fun x94 r95=>Ad [(r92,[])] r95 [] (Bc 3 x94 x77 fun x96=>Ai 3 x96 h87 fun x97 r98=>Ad [(r92,[])] r98 [] (HT x71 x86 x72 h87 x74 r98 r95 r92 ih x97 x91 x76 x77 h4 x73 x75 q68))
def HN (ih:Aa) (h70:Hp) (x84 x77 x76 x73 x71 x72 x74:IV) (h4:Hp) (x75:IV) (q68:List IV→Hp→OH):OH :=
 Aj [] false false ih 63 [x84,x77] h70 fun x86 h87 _ _=>Ac 2 x76 fun x90=>Af x90 h87 fun x91 r92=>Ad [] r92 [] (Ac 2 x73 fun x93=>Iq h87 x93 r92 x77 x71 x86 x72 x74 ih x91 x76 h4 x73 x75 q68)
def Iz (h123:Hp) (x75:IV):OH :=
 AG true 3 x75 h123 fun x126=>Aq [x126] h123
def IG (x77 x81 x73:IV) (h70:Hp) (ih:Aa) (x76 x71 x72 x74:IV) (h4:Hp) (x75:IV) (q68:List IV→Hp→OH):OH :=
 He EE 3 x77 x81 fun x82=>Ak x82 (Ac 0 x73 fun x83=>Af x83 h70 fun x84 _=>HN ih h70 x84 x77 x76 x73 x71 x72 x74 h4 x75 q68) (Ai 3 x76 h70 fun x121 _=>Al 3 x75 x121 h70 fun h123 _ _=>Iz h123 x75)
def Ia (l131:List IV) (x73:IV) (h70:Hp) (ih:Aa) (x71 x72 x74:IV) (h4:Hp) (x75:IV) (q68:List IV→Hp→OH):OH :=
 AC l131 fun x76 l132=>AC l132 fun x77 _=>Ac 2 x73 fun x78=>Af x78 h70 fun x79 _=>Ca x79 fun x81=>IG x77 x81 x73 h70 ih x76 x71 x72 x74 h4 x75 q68
def H0 (l69:List IV) (h70:Hp) (ih:Aa) (h4:Hp) (q68:List IV→Hp→OH):OH :=
 AC l69 fun x71 l127=>AC l127 fun x72 l128=>AC l128 fun x73 l129=>AC l129 fun x74 l130=>AC l130 fun x75 l131=>Ia l131 x73 h70 ih x71 x72 x74 h4 x75 q68
def IH (h4 h65:Hp) (x1 x2 x5 x9 x13 x61:IV) (n:Nat) (ih:Aa):OH :=
 By (h4.own.map (·.1)) [65024016] [x1,x2,x5,x9,x13,x61,.fv (.int .i64 0)] h65 fun h134=>BK n (fun q68 l69 h70=>H0 l69 h70 ih h4 q68) [x1,x2,x5,x9,x13,x61,.fv (.int .i64 0)] h134
def H4 (x5:IV) (h14:Hp) (x55:IV) (h4:Hp) (x1 x2 x9 x13:IV) (n:Nat) (ih:Aa):OH :=
 Ac 1 x5 fun x57=>Af x57 h14 fun x58 _=>Bw [.fv (.int .i64 0),.fv (.int .i64 0),.nils] [(0,1,x55),(1,1,x58)] fun x60=>AL 65018885 (.row [.fv (.int .i64 0),.fv (.int .i64 0),.nils] false) (.ptr (.own 65018885) 0) h14 fun x61 h62 _ _=>Al 3 x61 x60 h62 fun h65 _ _=>IH h4 h65 x1 x2 x5 x9 x13 x61 n ih
def HV (x20 x5:IV) (h14:Hp) (x1 x9:IV) (ih:Aa) (x2 x13:IV) (h4:Hp) (n:Nat):OH :=
 Ak x20 (Ac 1 x5 fun x21=>Af x21 h14 fun x22 _=>II x22 x1 h14 x9 ih x2 x13 x5) (Ac 0 x5 fun x54=>Af x54 h14 fun x55 _=>H4 x5 h14 x55 h4 x1 x2 x9 x13 n ih)
def S62 (ih:Aa) (n:Nat) (x0 x1 x2 x3:IV) (h4:Hp):OH :=
 Bj 65011712 x0 h4 fun x5 h6 _ _=>Bj 65011713 x3 h6 fun x9 h10 _ _=>AL 65011714 (.row [.fv (.int .i64 0),.fv (.int .i64 0),.nils] false) (.ptr (.own 65011714) 0) h10 fun x13 h14 _ _=>Ac 0 x5 fun x17=>Af x17 h14 fun x18 _=>A2 EE 3 x18 (.fv (.int .i64 1)) fun x20=>HV x20 x5 h14 x1 x9 ih x2 x13 h4 n
theorem Aln (ih:Aa) (n:Nat) (x0 x1 x2 x3:IV) (h4:Hp):AD EE ih ft.get n 62 [x0,x1,x2,x3] h4=S62 ih n x0 x1 x2 x3 h4:=by kernel_rfl
def AfK (x1:IV) (h7:Hp) (j0_3:Hp→OH):OH :=
 A2 EE 3 x1 (.fv (.int .i64 0)) fun x10=>Ak x10 (Aq [.fv (.int .i64 1)] h7) (A2 EE 3 x1 (.fv (.int .i64 2)) fun x11=>Ak x11 (Aq [.fv (.int .i64 2)] h7) (j0_3 h7))
def AfU (x6 x1:IV) (h7:Hp) (j0_3:Hp→OH) (x0:IV):OH :=
 Ak x6 (A2 EE 3 x1 (.fv (.int .i64 1)) fun x8=>Ak x8 (Aq [.fv (.int .i64 1)] h7) (j0_3 h7)) (A2 EE 3 x0 (.fv (.int .i64 13)) fun x9=>Ak x9 (AfK x1 h7 j0_3) (j0_3 h7))
def Ae5 (x0:IV) (j1_5:IV→Hp→OH) (h2:Hp):OH :=
 A2 EE 3 x0 (.fv (.int .i64 29)) fun x17=>j1_5 x17 h2
def AfJ (x0:IV) (j1_5:IV→Hp→OH) (h2:Hp):OH :=
 A2 EE 3 x0 (.fv (.int .i64 20)) fun x15=>Ak x15 (j1_5 x15 h2) (A2 EE 3 x0 (.fv (.int .i64 28)) fun x16=>Ak x16 (j1_5 x16 h2) (Ae5 x0 j1_5 h2))
def AfQ (x13:IV) (j1_5:IV→Hp→OH) (h2:Hp) (x0:IV):OH :=
 Ak x13 (j1_5 x13 h2) (A2 EE 3 x0 (.fv (.int .i64 6)) fun x14=>Ak x14 (j1_5 x14 h2) (AfJ x0 j1_5 h2))
def S63 (ih:Aa) (n:Nat) (x0 x1:IV) (h2:Hp):OH :=
 (fun (j0_3:Hp→OH)=>(fun (j1_5:IV→Hp→OH)=>A2 EE 3 x0 (.fv (.int .i64 3)) fun x12=>Ak x12 (j1_5 x12 h2) (A2 EE 3 x0 (.fv (.int .i64 4)) fun x13=>AfQ x13 j1_5 h2 x0)) fun x6 h7=>AfU x6 x1 h7 j0_3 x0) fun h4=>Aq [.fv (.int .i64 0)] h4
theorem Ajt (ih:Aa) (n:Nat) (x0 x1:IV) (h2:Hp):AD EE ih ft.get n 63 [x0,x1] h2=S63 ih n x0 x1 h2:=by kernel_rfl
def AaY (h128:Hp) (x13 x127:IV):OH :=
 AG true 3 x13 h128 fun x131=>Aq [x131,x127] h128
def Yv (h113:Hp) (x50 x72 x94 x13 x112:IV):OH :=
 Ab x50 true h113 (fun k116=>k116 x72 h113 [] []) fun x117 h118 _ _=>AF x50 x117 (.fv (.bool false)) fun x121=>Ab x121 true h118 (fun k122=>k122 x94 h118 [] []) fun x123 h124 _ _=>AF x121 x123 (.fv (.bool false)) fun x127=>Al 3 x13 x112 h124 fun h128 _ _=>AaY h128 x13 x127
def AaL (h99:Hp) (x51 x73 x95:IV) (ih:Aa) (x50 x72 x94 x13:IV):OH :=
 Ai 3 x51 h99 fun x102 _=>Ai 3 x73 h99 fun x104 _=>Ai 3 x95 h99 fun x106 _=>Ay (Ah EE 29 3 [(0,x102),(1,x104),(2,x106)]) 67116035 h99 fun x108 h109 _ _=>Aj [] false false ih 27 [.fv (.int .i64 27),x108] h109 fun x112 h113 _ _=>Yv h113 x50 x72 x94 x13 x112
def Vv (x89:IV) (h90:Hp) (r91 w92 r86 w87 r83 r81:AI) (x93 x51 x73:IV) (ih:Aa) (x50 x72 x13:IV):OH :=
 AN 1 x89 fun x94=>AL 67115018 (.row [.fv (.int .i64 0),.fv (.int .i64 0),.nils] false) (.ptr (.own 67115018) 0) h90 fun x95 h96 r97 w98=>Ad [(r91,w92),(r86,w87),(r83,[]),(r81,[])] r97 w98 (Al 3 x95 x93 h96 fun h99 r100 w101=>Ad [] r100 w101 (AaL h99 x51 x73 x95 ih x50 x72 x94 x13))
def Abf (r86 w87 r81:AI) (x3:IV) (ih:Aa) (h85:Hp) (x0 x80 x84:IV) (r83:AI) (x51 x73 x50 x72 x13:IV):OH :=
 Ad [(r81,[])] r86 w87 (A9 EE 3 x3 (.fv (.int .i64 2)) fun x88=>Aj [] false false ih 32 [x0,x80,x84,x88] h85 fun x89 h90 r91 w92=>Ad [] r91 w92 (AN 0 x89 fun x93=>Vv x89 h90 r91 w92 r86 w87 r83 r81 x93 x51 x73 ih x50 x72 x13))
def WW (h77:Hp) (x5 x9:IV) (ih:Aa) (x3 x0 x51 x73 x50 x72 x13:IV):OH :=
 Ai 3 x5 h77 fun x80 r81=>Ad [] r81 [] (Ai 3 x9 h77 fun x82 r83=>Ad [(r81,[])] r83 [] (Aj [] false false ih 58 [x82,.fv (.int .i64 2)] h77 fun x84 h85 r86 w87=>Abf r86 w87 r81 x3 ih h85 x0 x80 x84 r83 x51 x73 x50 x72 x13))
def Yx (x67:IV) (h68:Hp) (r69 w70 r64 w65 r61 r59:AI) (x71 x5 x9:IV) (ih:Aa) (x3 x0 x51 x50 x13:IV):OH :=
 AN 1 x67 fun x72=>AL 67113994 (.row [.fv (.int .i64 0),.fv (.int .i64 0),.nils] false) (.ptr (.own 67113994) 0) h68 fun x73 h74 r75 w76=>Ad [(r69,w70),(r64,w65),(r61,[]),(r59,[])] r75 w76 (Al 3 x73 x71 h74 fun h77 r78 w79=>Ad [] r78 w79 (WW h77 x5 x9 ih x3 x0 x51 x73 x50 x72 x13))
def Aa4 (r64 w65 r59:AI) (x3:IV) (ih:Aa) (h63:Hp) (x0 x58 x62:IV) (r61:AI) (x5 x9 x51 x50 x13:IV):OH :=
 Ad [(r59,[])] r64 w65 (A9 EE 3 x3 (.fv (.int .i64 2)) fun x66=>Aj [] false false ih 32 [x0,x58,x62,x66] h63 fun x67 h68 r69 w70=>Ad [] r69 w70 (AN 0 x67 fun x71=>Yx x67 h68 r69 w70 r64 w65 r61 r59 x71 x5 x9 ih x3 x0 x51 x50 x13))
def AaU (h55:Hp) (x5 x9:IV) (ih:Aa) (x3 x0 x51 x50 x13:IV):OH :=
 Ai 3 x5 h55 fun x58 r59=>Ad [] r59 [] (Ai 3 x9 h55 fun x60 r61=>Ad [(r59,[])] r61 [] (Aj [] false false ih 58 [x60,.fv (.int .i64 1)] h55 fun x62 h63 r64 w65=>Aa4 r64 w65 r59 x3 ih h63 x0 x58 x62 r61 x5 x9 x51 x50 x13))
def AaS (x45:IV) (h46:Hp) (r47 w48 r42 w43 r39 r37:AI) (x49 x5 x9:IV) (ih:Aa) (x3 x0 x13:IV):OH :=
 AN 1 x45 fun x50=>AL 67112970 (.row [.fv (.int .i64 0),.fv (.int .i64 0),.nils] false) (.ptr (.own 67112970) 0) h46 fun x51 h52 r53 w54=>Ad [(r47,w48),(r42,w43),(r39,[]),(r37,[])] r53 w54 (Al 3 x51 x49 h52 fun h55 r56 w57=>Ad [] r56 w57 (AaU h55 x5 x9 ih x3 x0 x51 x50 x13))
def Z9 (r42 w43 r37:AI) (x3:IV) (ih:Aa) (h41:Hp) (x0 x36 x40:IV) (r39:AI) (x5 x9 x13:IV):OH :=
 Ad [(r37,[])] r42 w43 (A9 EE 3 x3 (.fv (.int .i64 2)) fun x44=>Aj [] false false ih 32 [x0,x36,x40,x44] h41 fun x45 h46 r47 w48=>Ad [] r47 w48 (AN 0 x45 fun x49=>AaS x45 h46 r47 w48 r42 w43 r39 r37 x49 x5 x9 ih x3 x0 x13))
def Yl (h32:Hp) (x21 x9:IV) (ih:Aa) (x3 x0 x5 x13:IV):OH :=
 Ai 3 x21 h32 fun x36 r37=>Ad [] r37 [] (Ai 3 x9 h32 fun x38 r39=>Ad [(r37,[])] r39 [] (Aj [] false false ih 58 [x38,.fv (.int .i64 0)] h32 fun x40 h41 r42 w43=>Z9 r42 w43 r37 x3 ih h41 x0 x36 x40 r39 x5 x9 x13))
def Aac (h218:Hp) (x13 x212 x221:IV):OH :=
 Al 3 x13 x212 h218 fun h222 _ _=>AG true 3 x13 h222 fun x225=>Aq [x225,x221] h222
def Ab5 (h201:Hp) (x197 x204:IV) (ih:Aa) (x164 x196 x13:IV):OH :=
 Ai 3 x197 h201 fun x206 _=>Ay (Ah EE 29 2 [(0,x204),(1,x206)]) 67121154 h201 fun x208 h209 _ _=>Aj [] false false ih 27 [.fv (.int .i64 28),x208] h209 fun x212 h213 _ _=>Ab x164 true h213 (fun k216=>k216 x196 h213 [] []) fun x217 h218 _ _=>AF x164 x217 (.fv (.bool false)) fun x221=>Aac h218 x13 x212 x221
def AbV (h192:Hp) (r193 w194 r188 w189 r185 r182 w183 r179 r176 w177 r173:AI) (x195 x165:IV) (ih:Aa) (x164 x196 x13:IV):OH :=
 AL 67120141 (.row [.fv (.int .i64 0),.fv (.int .i64 0),.nils] false) (.ptr (.own 67120141) 0) h192 fun x197 h198 r199 w200=>Ad [(r193,w194),(r188,w189),(r185,[]),(r182,w183),(r179,[]),(r176,w177),(r173,[])] r199 w200 (Al 3 x197 x195 h198 fun h201 r202 w203=>Ad [] r202 w203 (Ai 3 x165 h201 fun x204 _=>Ab5 h201 x197 x204 ih x164 x196 x13))
def Xu (x3:IV) (ih:Aa) (h187:Hp) (x174 x180 x186:IV) (r188 w189 r185 r182 w183 r179 r176 w177 r173:AI) (x165 x164 x13:IV):OH :=
 A9 EE 3 x3 (.fv (.int .i64 2)) fun x190=>Aj [] false false ih 32 [x174,x180,x186,x190] h187 fun x191 h192 r193 w194=>Ad [] r193 w194 (AN 0 x191 fun x195=>AN 1 x191 fun x196=>AbV h192 r193 w194 r188 w189 r185 r182 w183 r179 r176 w177 r173 x195 x165 ih x164 x196 x13)
def Yf (r182 w183:AI) (h181:Hp) (x9:IV) (r179 r176 w177 r173:AI) (ih:Aa) (x3 x174 x180 x165 x164 x13:IV):OH :=
 Ad [] r182 w183 (Ai 3 x9 h181 fun x184 r185=>Ad [(r182,w183),(r179,[]),(r176,w177),(r173,[])] r185 [] (Aj [] false false ih 58 [x184,.fv (.int .i64 2)] h181 fun x186 h187 r188 w189=>Ad [] r188 w189 (Xu x3 ih h187 x174 x180 x186 r188 w189 r185 r182 w183 r179 r176 w177 r173 x165 x164 x13)))
def Yo (ih:Aa) (h169:Hp) (x0 x172 x5:IV) (r173:AI) (x9 x3 x165 x164 x13:IV):OH :=
 Aj [] false false ih 29 [x0,.fv (.int .i64 0),x172] h169 fun x174 h175 r176 w177=>Ad [] r176 w177 (Ai 3 x5 h175 fun x178 r179=>Ad [(r176,w177),(r173,[])] r179 [] (Aj [] false false ih 31 [x178,.fv (.int .i64 1),.fv (.int .i64 0)] h175 fun x180 h181 r182 w183=>Yf r182 w183 h181 x9 r179 r176 w177 r173 ih x3 x174 x180 x165 x164 x13))
def Aar (r167 w168 r161 w162 r156 w157 r153 r151:AI) (h166:Hp) (x165 x163 x143:IV) (ih:Aa) (x0 x5 x9 x3 x164 x13:IV):OH :=
 Ad [(r161,w162),(r156,w157),(r153,[]),(r151,[])] r167 w168 (Al 3 x165 x163 h166 fun h169 r170 w171=>Ad [] r170 w171 (Ai 3 x143 h169 fun x172 r173=>Ad [] r173 [] (Yo ih h169 x0 x172 x5 r173 x9 x3 x165 x164 x13)))
def WC (ih:Aa) (h155:Hp) (x0 x150 x154 x158:IV) (r156 w157 r153 r151:AI) (x143 x5 x9 x3 x13:IV):OH :=
 Aj [] false false ih 32 [x0,x150,x154,x158] h155 fun x159 h160 r161 w162=>Ad [] r161 w162 (AN 0 x159 fun x163=>AN 1 x159 fun x164=>AL 67119114 (.row [.fv (.int .i64 0),.fv (.int .i64 0),.nils] false) (.ptr (.own 67119114) 0) h160 fun x165 h166 r167 w168=>Aar r167 w168 r161 w162 r156 w157 r153 r151 h166 x165 x163 x143 ih x0 x5 x9 x3 x164 x13)
def Yb (h147:Hp) (x9:IV) (r151:AI) (ih:Aa) (x3 x0 x150 x143 x5 x13:IV):OH :=
 Ai 3 x9 h147 fun x152 r153=>Ad [(r151,[])] r153 [] (Aj [] false false ih 58 [x152,.fv (.int .i64 1)] h147 fun x154 h155 r156 w157=>Ad [(r151,[])] r156 w157 (A9 EE 3 x3 (.fv (.int .i64 2)) fun x158=>WC ih h155 x0 x150 x154 x158 r156 w157 r153 r151 x143 x5 x9 x3 x13))
def Xd (ih:Aa) (h136:Hp) (x135 x9 x3 x0 x5 x13:IV):OH :=
 Aj [] false false ih 33 [x135,.fv (.int .i64 1)] h136 fun x139 h140 _ _=>AL 67118083 (.row [.fv (.int .i64 0),.fv (.int .i64 0),.nils] false) (.ptr (.own 67118083) 0) h140 fun x143 h144 _ _=>Al 3 x143 x139 h144 fun h147 _ _=>Ai 3 x143 h147 fun x150 r151=>Ad [] r151 [] (Yb h147 x9 r151 ih x3 x0 x150 x143 x5 x13)
def AbQ (h317:Hp) (x258 x290 x13 x316:IV):OH :=
 Ab x258 true h317 (fun k320=>k320 x290 h317 [] []) fun x321 h322 _ _=>AF x258 x321 (.fv (.bool false)) fun x325=>Al 3 x13 x316 h322 fun h326 r327 w328=>Ad [] r327 w328 (AG true 3 x13 h326 fun x329=>Aq [x329,x325] h326)
def Aa1 (r311 r308 w309 r304 w305 r301 r299:AI) (h307:Hp) (x306 x310:IV) (ih:Aa) (x258 x290 x13:IV):OH :=
 Ad [(r308,w309),(r304,w305),(r301,[]),(r299,[])] r311 [] (Ay (Ah EE 29 2 [(0,x306),(1,x310)]) 67126277 h307 fun x312 h313 r314 w315=>Ad [] r314 w315 (Aj [] false false ih 27 [.fv (.int .i64 21),x312] h313 fun x316 h317 r318 w319=>Ad [] r318 w319 (AbQ h317 x258 x290 x13 x316)))
def XZ (h295:Hp) (x298 x300:IV) (ih:Aa) (x259:IV) (r301 r299:AI) (x258 x290 x13:IV):OH :=
 Ay (Ah EE 29 2 [(0,x298),(1,x300)]) 67126274 h295 fun x302 h303 r304 w305=>Ad [] r304 w305 (Aj [] false false ih 27 [.fv (.int .i64 20),x302] h303 fun x306 h307 r308 w309=>Ad [] r308 w309 (Ai 3 x259 h307 fun x310 r311=>Aa1 r311 r308 w309 r304 w305 r301 r299 h307 x306 x310 ih x258 x290 x13))
def WO (r296 w297:AI) (h295:Hp) (x237 x291:IV) (ih:Aa) (x259 x258 x290 x13:IV):OH :=
 Ad [] r296 w297 (Ai 3 x237 h295 fun x298 r299=>Ad [] r299 [] (Ai 3 x291 h295 fun x300 r301=>Ad [(r299,[])] r301 [] (XZ h295 x298 x300 ih x259 r301 r299 x258 x290 x13)))
def Xg (x285:IV) (h286:Hp) (r287 w288 r282 w283 r279 r276 w277 r273 r270 w271 r267:AI) (x237:IV) (ih:Aa) (x259 x258 x13:IV):OH :=
 AN 0 x285 fun x289=>AN 1 x285 fun x290=>AL 67125261 (.row [.fv (.int .i64 0),.fv (.int .i64 0),.nils] false) (.ptr (.own 67125261) 0) h286 fun x291 h292 r293 w294=>Ad [(r287,w288),(r282,w283),(r279,[]),(r276,w277),(r273,[]),(r270,w271),(r267,[])] r293 w294 (Al 3 x291 x289 h292 fun h295 r296 w297=>WO r296 w297 h295 x237 x291 ih x259 x258 x290 x13)
def Y0 (ih:Aa) (h275:Hp) (x278 x3 x268 x274:IV) (r279 r276 w277 r273 r270 w271 r267:AI) (x237 x259 x258 x13:IV):OH :=
 Aj [] false false ih 58 [x278,.fv (.int .i64 2)] h275 fun x280 h281 r282 w283=>Ad [] r282 w283 (A9 EE 3 x3 (.fv (.int .i64 2)) fun x284=>Aj [] false false ih 32 [x268,x274,x280,x284] h281 fun x285 h286 r287 w288=>Ad [] r287 w288 (Xg x285 h286 r287 w288 r282 w283 r279 r276 w277 r273 r270 w271 r267 x237 ih x259 x258 x13))
def AaO (r273 r270 w271 r267:AI) (ih:Aa) (h269:Hp) (x272 x9 x3 x268 x237 x259 x258 x13:IV):OH :=
 Ad [(r270,w271),(r267,[])] r273 [] (Aj [] false false ih 31 [x272,.fv (.int .i64 1),.fv (.int .i64 0)] h269 fun x274 h275 r276 w277=>Ad [] r276 w277 (Ai 3 x9 h275 fun x278 r279=>Ad [(r276,w277),(r273,[]),(r270,w271),(r267,[])] r279 [] (Y0 ih h275 x278 x3 x268 x274 r279 r276 w277 r273 r270 w271 r267 x237 x259 x258 x13)))
def YE (h263:Hp) (x237:IV) (ih:Aa) (x0 x5 x9 x3 x259 x258 x13:IV):OH :=
 Ai 3 x237 h263 fun x266 r267=>Ad [] r267 [] (Aj [] false false ih 29 [x0,.fv (.int .i64 0),x266] h263 fun x268 h269 r270 w271=>Ad [] r270 w271 (Ai 3 x5 h269 fun x272 r273=>AaO r273 r270 w271 r267 ih h269 x272 x9 x3 x268 x237 x259 x258 x13))
def Ye (x253:IV) (h254:Hp) (r255 w256 r250 w251 r247 r245:AI) (x257 x237:IV) (ih:Aa) (x0 x5 x9 x3 x13:IV):OH :=
 AN 1 x253 fun x258=>AL 67124234 (.row [.fv (.int .i64 0),.fv (.int .i64 0),.nils] false) (.ptr (.own 67124234) 0) h254 fun x259 h260 r261 w262=>Ad [(r255,w256),(r250,w251),(r247,[]),(r245,[])] r261 w262 (Al 3 x259 x257 h260 fun h263 r264 w265=>Ad [] r264 w265 (YE h263 x237 ih x0 x5 x9 x3 x259 x258 x13))
def Xb (r250 w251 r245:AI) (x3:IV) (ih:Aa) (h249:Hp) (x0 x244 x248:IV) (r247:AI) (x237 x5 x9 x13:IV):OH :=
 Ad [(r245,[])] r250 w251 (A9 EE 3 x3 (.fv (.int .i64 2)) fun x252=>Aj [] false false ih 32 [x0,x244,x248,x252] h249 fun x253 h254 r255 w256=>Ad [] r255 w256 (AN 0 x253 fun x257=>Ye x253 h254 r255 w256 r250 w251 r247 r245 x257 x237 ih x0 x5 x9 x3 x13))
def YV (h241:Hp) (x237 x9:IV) (ih:Aa) (x3 x0 x5 x13:IV):OH :=
 Ai 3 x237 h241 fun x244 r245=>Ad [] r245 [] (Ai 3 x9 h241 fun x246 r247=>Ad [(r245,[])] r247 [] (Aj [] false false ih 58 [x246,.fv (.int .i64 1)] h241 fun x248 h249 r250 w251=>Xb r250 w251 r245 x3 ih h249 x0 x244 x248 r247 x237 x5 x9 x13))
def Vq (h32:Hp) (x9:IV) (ih:Aa) (x3 x0 x5 x13:IV):OH :=
 Ai 3 x9 h32 fun x227 _=>Aj [] false false ih 58 [x227,.fv (.int .i64 0)] h32 fun x229 h230 _ _=>Aj [] false false ih 33 [x229,.fv (.int .i64 1)] h230 fun x233 h234 _ _=>AL 67123203 (.row [.fv (.int .i64 0),.fv (.int .i64 0),.nils] false) (.ptr (.own 67123203) 0) h234 fun x237 h238 _ _=>Al 3 x237 x233 h238 fun h241 _ _=>YV h241 x237 x9 ih x3 x0 x5 x13
def AbF (x345 x396:IV) (h397:Hp) (x13 x391:IV):OH :=
 AF x345 x396 (.fv (.bool false)) fun x400=>Al 3 x13 x391 h397 fun h401 _ _=>AG true 3 x13 h401 fun x404=>Aq [x404,x400] h401
def ZX (h372:Hp) (x375 x377:IV) (ih:Aa) (x345 x367 x13:IV):OH :=
 Ay (Ah EE 29 2 [(0,x375),(1,x377)]) 67130370 h372 fun x379 h380 _ _=>Aj [] false false ih 27 [.fv (.int .i64 22),x379] h380 fun x383 h384 _ _=>Ay (Ah EE 29 1 [(0,x383)]) 67130372 h384 fun x387 h388 _ _=>Aj [] false false ih 27 [.fv (.int .i64 23),x387] h388 fun x391 h392 _ _=>Ab x345 true h392 (fun k395=>k395 x367 h392 [] []) fun x396 h397 _ _=>AbF x345 x396 h397 x13 x391
def Wa (r370 w371 r364 w365 r359 w360 r356 r354:AI) (h369:Hp) (x368 x366 x346:IV) (ih:Aa) (x345 x367 x13:IV):OH :=
 Ad [(r364,w365),(r359,w360),(r356,[]),(r354,[])] r370 w371 (Al 3 x368 x366 h369 fun h372 r373 w374=>Ad [] r373 w374 (Ai 3 x346 h372 fun x375 _=>Ai 3 x368 h372 fun x377 _=>ZX h372 x375 x377 ih x345 x367 x13))
def VI (ih:Aa) (h358:Hp) (x0 x353 x357 x361:IV) (r359 w360 r356 r354:AI) (x346 x345 x13:IV):OH :=
 Aj [] false false ih 32 [x0,x353,x357,x361] h358 fun x362 h363 r364 w365=>Ad [] r364 w365 (AN 0 x362 fun x366=>AN 1 x362 fun x367=>AL 67129354 (.row [.fv (.int .i64 0),.fv (.int .i64 0),.nils] false) (.ptr (.own 67129354) 0) h363 fun x368 h369 r370 w371=>Wa r370 w371 r364 w365 r359 w360 r356 r354 h369 x368 x366 x346 ih x345 x367 x13)
def ZL (h350:Hp) (x9:IV) (r354:AI) (ih:Aa) (x3 x0 x353 x346 x345 x13:IV):OH :=
 Ai 3 x9 h350 fun x355 r356=>Ad [(r354,[])] r356 [] (Aj [] false false ih 58 [x355,.fv (.int .i64 1)] h350 fun x357 h358 r359 w360=>Ad [(r354,[])] r359 w360 (A9 EE 3 x3 (.fv (.int .i64 2)) fun x361=>VI ih h358 x0 x353 x357 x361 r359 w360 r356 r354 x346 x345 x13))
def XO (r348 w349 r342 w343 r337 w338 r334 r332:AI) (h347:Hp) (x346 x344 x21 x9:IV) (ih:Aa) (x3 x0 x345 x13:IV):OH :=
 Ad [(r342,w343),(r337,w338),(r334,[]),(r332,[])] r348 w349 (Al 3 x346 x344 h347 fun h350 r351 w352=>Ad [] r351 w352 (Ai 3 x21 h350 fun x353 r354=>Ad [] r354 [] (ZL h350 x9 r354 ih x3 x0 x353 x346 x345 x13)))
def Zz (ih:Aa) (h336:Hp) (x0 x331 x335 x339:IV) (r337 w338 r334 r332:AI) (x21 x9 x3 x13:IV):OH :=
 Aj [] false false ih 32 [x0,x331,x335,x339] h336 fun x340 h341 r342 w343=>Ad [] r342 w343 (AN 0 x340 fun x344=>AN 1 x340 fun x345=>AL 67128330 (.row [.fv (.int .i64 0),.fv (.int .i64 0),.nils] false) (.ptr (.own 67128330) 0) h341 fun x346 h347 r348 w349=>XO r348 w349 r342 w343 r337 w338 r334 r332 h347 x346 x344 x21 x9 ih x3 x0 x345 x13)
def Aa8 (h32:Hp) (x9:IV) (r332:AI) (ih:Aa) (x3 x0 x331 x21 x13:IV):OH :=
 Ai 3 x9 h32 fun x333 r334=>Ad [(r332,[])] r334 [] (Aj [] false false ih 58 [x333,.fv (.int .i64 0)] h32 fun x335 h336 r337 w338=>Ad [(r332,[])] r337 w338 (A9 EE 3 x3 (.fv (.int .i64 2)) fun x339=>Zz ih h336 x0 x331 x335 x339 r337 w338 r334 r332 x21 x9 x3 x13))
def ZK (h447:Hp) (x13 x446 x430:IV):OH :=
 Al 3 x13 x446 h447 fun h450 _ _=>AG true 3 x13 h450 fun x453=>Aq [x453,x430] h450
def WX (r436 w437:AI) (h435:Hp) (x5 x431:IV) (ih:Aa) (x13 x430:IV):OH :=
 Ad [] r436 w437 (Ai 3 x5 h435 fun x438 _=>Ai 3 x431 h435 fun x440 _=>Ay (Ah EE 29 2 [(0,x438),(1,x440)]) 67133442 h435 fun x442 h443 _ _=>Aj [] false false ih 27 [.fv (.int .i64 29),x442] h443 fun x446 h447 _ _=>ZK h447 x13 x446 x430)
def Abp (x425:IV) (h426:Hp) (r427 w428 r422 w423 r419 r416 w417 r413 r410 w411 r407:AI) (x5:IV) (ih:Aa) (x13:IV):OH :=
 AN 0 x425 fun x429=>AN 1 x425 fun x430=>AL 67132429 (.row [.fv (.int .i64 0),.fv (.int .i64 0),.nils] false) (.ptr (.own 67132429) 0) h426 fun x431 h432 r433 w434=>Ad [(r427,w428),(r422,w423),(r419,[]),(r416,w417),(r413,[]),(r410,w411),(r407,[])] r433 w434 (Al 3 x431 x429 h432 fun h435 r436 w437=>WX r436 w437 h435 x5 x431 ih x13 x430)
def Wj (ih:Aa) (h415:Hp) (x418 x3 x408 x414:IV) (r419 r416 w417 r413 r410 w411 r407:AI) (x5 x13:IV):OH :=
 Aj [] false false ih 58 [x418,.fv (.int .i64 0)] h415 fun x420 h421 r422 w423=>Ad [] r422 w423 (A9 EE 3 x3 (.fv (.int .i64 2)) fun x424=>Aj [] false false ih 32 [x408,x414,x420,x424] h421 fun x425 h426 r427 w428=>Ad [] r427 w428 (Abp x425 h426 r427 w428 r422 w423 r419 r416 w417 r413 r410 w411 r407 x5 ih x13))
def Xr (r413 r410 w411 r407:AI) (ih:Aa) (h409:Hp) (x412 x9 x3 x408 x5 x13:IV):OH :=
 Ad [(r410,w411),(r407,[])] r413 [] (Aj [] false false ih 31 [x412,.fv (.int .i64 1),.fv (.int .i64 0)] h409 fun x414 h415 r416 w417=>Ad [] r416 w417 (Ai 3 x9 h415 fun x418 r419=>Ad [(r416,w417),(r413,[]),(r410,w411),(r407,[])] r419 [] (Wj ih h415 x418 x3 x408 x414 r419 r416 w417 r413 r410 w411 r407 x5 x13)))
def Abl (h32:Hp) (x5:IV) (ih:Aa) (x0 x9 x3 x13:IV):OH :=
 Ai 3 x5 h32 fun x406 r407=>Ad [] r407 [] (Aj [] false false ih 29 [x0,.fv (.int .i64 0),x406] h32 fun x408 h409 r410 w411=>Ad [] r410 w411 (Ai 3 x5 h409 fun x412 r413=>Xr r413 r410 w411 r407 ih h409 x412 x9 x3 x408 x5 x13))
def AaR (h481:Hp) (x484:IV) (ih:Aa) (x13 x476:IV):OH :=
 Ay (Ah EE 29 1 [(0,x484)]) 67135489 h481 fun x486 h487 _ _=>Aj [] false false ih 27 [.fv (.int .i64 30),x486] h487 fun x490 h491 _ _=>Al 3 x13 x490 h491 fun h494 _ _=>AG true 3 x13 h494 fun x497=>Aq [x497,x476] h494
def Z0 (h472:Hp) (r473 w474 r468 w469 r465 r462 w463 r458 w459 r455:AI) (x475:IV) (ih:Aa) (x13 x476:IV):OH :=
 AL 67134476 (.row [.fv (.int .i64 0),.fv (.int .i64 0),.nils] false) (.ptr (.own 67134476) 0) h472 fun x477 h478 r479 w480=>Ad [(r473,w474),(r468,w469),(r465,[]),(r462,w463),(r458,w459),(r455,[])] r479 w480 (Al 3 x477 x475 h478 fun h481 r482 w483=>Ad [] r482 w483 (Ai 3 x477 h481 fun x484 _=>AaR h481 x484 ih x13 x476))
def Vw (x3:IV) (ih:Aa) (h467:Hp) (x0 x460 x466:IV) (r468 w469 r465 r462 w463 r458 w459 r455:AI) (x13:IV):OH :=
 A9 EE 3 x3 (.fv (.int .i64 1)) fun x470=>Aj [] false false ih 26 [x0,x460,x466,x470] h467 fun x471 h472 r473 w474=>Ad [] r473 w474 (AN 0 x471 fun x475=>AN 1 x471 fun x476=>Z0 h472 r473 w474 r468 w469 r465 r462 w463 r458 w459 r455 x475 ih x13 x476)
def Ya (r462 w463:AI) (h461:Hp) (x9:IV) (r458 w459 r455:AI) (ih:Aa) (x3 x0 x460 x13:IV):OH :=
 Ad [] r462 w463 (Ai 3 x9 h461 fun x464 r465=>Ad [(r462,w463),(r458,w459),(r455,[])] r465 [] (Aj [] false false ih 58 [x464,.fv (.int .i64 0)] h461 fun x466 h467 r468 w469=>Ad [] r468 w469 (Vw x3 ih h467 x0 x460 x466 r468 w469 r465 r462 w463 r458 w459 r455 x13)))
def AbD (h32:Hp) (x5:IV) (ih:Aa) (x9 x3 x0 x13:IV):OH :=
 Ai 3 x5 h32 fun x454 r455=>Ad [] r455 [] (Ay (Ah EE 29 1 [(0,x454)]) 67134466 h32 fun x456 h457 r458 w459=>Ad [] r458 w459 (Aj [] false false ih 27 [.fv (.int .i64 18),x456] h457 fun x460 h461 r462 w463=>Ya r462 w463 h461 x9 r458 w459 r455 ih x3 x0 x460 x13))
def AbI (x31:IV) (h32:Hp) (x5 x9:IV) (ih:Aa) (x3 x0 x21 x13:IV):OH :=
 A2 EE 3 x31 (.fv (.int .i64 3)) fun x330=>Ak x330 (Ai 3 x5 h32 fun x331 r332=>Ad [] r332 [] (Aa8 h32 x9 r332 ih x3 x0 x331 x21 x13)) (A2 EE 3 x31 (.fv (.int .i64 4)) fun x405=>Ak x405 (Abl h32 x5 ih x0 x9 x3 x13) (AbD h32 x5 ih x9 x3 x0 x13))
def VU (x31:IV) (h32:Hp) (x9:IV) (ih:Aa) (x3 x0 x5 x13 x21:IV):OH :=
 A2 EE 3 x31 (.fv (.int .i64 1)) fun x132=>Ak x132 (Ai 3 x9 h32 fun x133 _=>Aj [] false false ih 58 [x133,.fv (.int .i64 0)] h32 fun x135 h136 _ _=>Xd ih h136 x135 x9 x3 x0 x5 x13) (A2 EE 3 x31 (.fv (.int .i64 2)) fun x226=>Ak x226 (Vq h32 x9 ih x3 x0 x5 x13) (AbI x31 h32 x5 x9 ih x3 x0 x21 x13))
def Abw (x9:IV) (h25:Hp) (ih:Aa) (x21 x3 x0 x5 x13:IV):OH :=
 Ac 1 x9 fun x28=>Af x28 h25 fun x29 _=>Aj [] false false ih 55 [x29,.fv (.int .i64 7)] h25 fun x31 h32 _ _=>A2 EE 3 x31 (.fv (.int .i64 0)) fun x35=>Ak x35 (Yl h32 x21 x9 ih x3 x0 x5 x13) (VU x31 h32 x9 ih x3 x0 x5 x13 x21)
def S64 (ih:Aa) (n:Nat) (x0 x1 x2 x3:IV) (h4:Hp):OH :=
 Bj 67108864 x1 h4 fun x5 h6 _ _=>Bj 67108865 x2 h6 fun x9 h10 _ _=>AL 67108866 (.row [.fv (.int .i64 0),.fv (.int .i64 0),.nils] false) (.ptr (.own 67108866) 0) h10 fun x13 h14 _ _=>Aj [] false false ih 27 [.fv (.int .i64 15),.nils] h14 fun x17 h18 _ _=>AL 67109889 (.row [.fv (.int .i64 0),.fv (.int .i64 0),.nils] false) (.ptr (.own 67109889) 0) h18 fun x21 h22 _ _=>Al 3 x21 x17 h22 fun h25 _ _=>Abw x9 h25 ih x21 x3 x0 x5 x13
theorem Aji (ih:Aa) (n:Nat) (x0 x1 x2 x3:IV) (h4:Hp):AD EE ih ft.get n 64 [x0,x1,x2,x3] h4=S64 ih n x0 x1 x2 x3 h4:=by kernel_rfl
def Lf (h4:Hp) (x11 x1:IV):OH :=
 Af x11 h4 fun x12 _=>A2 EE 3 x12 x1 fun x14=>Aq [x14] h4
def Ld (x18 x35:IV) (ih:Aa) (h36:Hp) (x30 x20:IV) (q15:List IV→Hp→OH) (x19:IV):OH :=
 BH EE 3 x18 x35 fun x39=>Aj [] false false ih 68 [x30,x39] h36 fun x40 h41 r42 w43=>Ad [] r42 w43 (Ak x40 (Aq [.fv (.bool true)] h41) (BH EE 3 x20 (.fv (.int .i64 1)) fun x44=>q15 [x18,x19,x44] h41))
def La (x19:IV) (h17:Hp) (r31 r28:AI) (ih:Aa) (x20 x18 x30:IV) (q15:List IV→Hp→OH):OH :=
 Ac 0 x19 fun x32=>Af x32 h17 fun x33 r34=>Ad [(r31,[]),(r28,[])] r34 [] (Aj [] false false ih 63 [x33,x20] h17 fun x35 h36 r37 w38=>Ad [(r31,[]),(r28,[])] r37 w38 (Ld x18 x35 ih h36 x30 x20 q15 x19))
def KQ (h17:Hp) (x26 x20 x19:IV) (ih:Aa) (x18:IV) (q15:List IV→Hp→OH):OH :=
 Af x26 h17 fun x27 r28=>Ad [] r28 [] (Bc 3 x27 x20 fun x29=>Ai 3 x29 h17 fun x30 r31=>Ad [] r31 [] (La x19 h17 r31 r28 ih x20 x18 x30 q15))
def K4 (x22 x20 x19:IV) (h17:Hp) (ih:Aa) (x18:IV) (q15:List IV→Hp→OH):OH :=
 Ca x22 fun x24=>He EE 3 x20 x24 fun x25=>Ak x25 (Ac 2 x19 fun x26=>KQ h17 x26 x20 x19 ih x18 q15) (Aq [.fv (.bool false)] h17)
def Q4 (l16:List IV) (h17:Hp) (ih:Aa) (q15:List IV→Hp→OH):OH :=
 AC l16 fun x18 l45=>AC l45 fun x19 l46=>AC l46 fun x20 _=>Ac 2 x19 fun x21=>Af x21 h17 fun x22 _=>K4 x22 x20 x19 h17 ih x18 q15
def S68 (ih:Aa) (n:Nat) (x0 x1:IV) (h2:Hp):OH :=
 Bj 71303168 x0 h2 fun x3 h4 _ _=>Ac 0 x3 fun x7=>Af x7 h4 fun x8 _=>A2 EE 3 x8 (.fv (.int .i64 1)) fun x10=>Ak x10 (Ac 1 x3 fun x11=>Lf h4 x11 x1) (BK n (fun q15 l16 h17=>Q4 l16 h17 ih q15) [x1,x3,.fv (.int .i64 0)] h4)
theorem AkE (ih:Aa) (n:Nat) (x0 x1:IV) (h2:Hp):AD EE ih ft.get n 68 [x0,x1] h2=S68 ih n x0 x1 h2:=by kernel_rfl
def S69 (ih:Aa) (n:Nat) (x0 x1:IV) (h2:Hp):OH :=
 Ay (Ah EE 93 0 []) 72352768 h2 fun x3 h4 _ _=>Ay (AU EE 72352770 false .append [93,93] [x3,x0]) 72352770 h4 fun x7 h8 _ _=>Ay (AU EE 72352772 false .append [93,93] [x7,x1]) 72352772 h8 fun x11 h12 _ _=>Aq [x11] h12
theorem Ajw (ih:Aa) (n:Nat) (x0 x1:IV) (h2:Hp):AD EE ih ft.get n 69 [x0,x1] h2=S69 ih n x0 x1 h2:=by kernel_rfl
def Xp (r121 w122:AI) (h120:Hp) (x119:IV):OH :=
 Ad [] r121 w122 (Aq [x119] h120)
def Ab3 (h79:Hp) (x109:IV) (r103 r99:AI) (ih:Aa) (x102 x0 x98:IV):OH :=
 Ay (Ah EE 93 1 [(0,x109)]) 73406479 h79 fun x111 h112 r113 w114=>Ad [(r103,[]),(r99,[])] r113 w114 (Aj [] false false ih 69 [x102,x111] h112 fun x115 h116 r117 w118=>Ad [(r99,[])] r117 w118 (Aj [true,false,false] false false ih 49 [x0,x98,x115] h116 fun x119 h120 r121 w122=>Xp r121 w122 h120 x119))
def Vu (h79:Hp) (x105:IV) (r103 r99:AI) (ih:Aa) (x102 x0 x98:IV):OH :=
 Af x105 h79 fun x106 r107=>Ad [(r103,[]),(r99,[])] r107 [] (Bc 1 x106 (.fv (.int .i64 1)) fun x108=>Af x108 h79 fun x109 r110=>Ad [(r103,[]),(r99,[])] r110 [] (Ab3 h79 x109 r103 r99 ih x102 x0 x98))
def Ze (x100:IV) (h79:Hp) (r99:AI) (x1:IV) (ih:Aa) (x0 x98:IV):OH :=
 Ac 3 x100 fun x101=>Af x101 h79 fun x102 r103=>Ad [(r99,[])] r103 [] (AB x1 fun x104=>Ac 2 x104 fun x105=>Vu h79 x105 r103 r99 ih x102 x0 x98)
def AaE (x94:IV) (h79:Hp) (x1:IV) (ih:Aa) (x0:IV):OH :=
 AB x94 fun x96=>Ac 4 x96 fun x97=>Ai 3 x97 h79 fun x98 r99=>Ad [] r99 [] (AB x94 fun x100=>Ze x100 h79 r99 x1 ih x0 x98)
def AaG (x87:IV) (h79:Hp) (x1:IV) (ih:Aa) (x0:IV):OH :=
 AB x87 fun x89=>Ac 2 x89 fun x90=>Af x90 h79 fun x91 _=>Bc 1 x91 (.fv (.int .i64 1)) fun x93=>Af x93 h79 fun x94 _=>AaE x94 h79 x1 ih x0
def V6 (x1:IV) (h79:Hp) (ih:Aa) (x0:IV):OH :=
 AB x1 fun x82=>Ac 2 x82 fun x83=>Af x83 h79 fun x84 _=>Bc 1 x84 (.fv (.int .i64 0)) fun x86=>Af x86 h79 fun x87 _=>AaG x87 h79 x1 ih x0
def Aax (x235 x242:IV) (h223:Hp):OH :=
 Bc 1 x235 x242 fun x243=>Af x243 h223 fun x244 r245=>Ad [] r245 [] (Aq [x244] h223)
def Zx (x237:IV) (h223:Hp) (r236 r232 r229:AI) (x235:IV):OH :=
 Ac 0 x237 fun x238=>Af x238 h223 fun x239 r240=>Ad [(r236,[]),(r232,[]),(r229,[])] r240 [] (BH EE 3 (.fv (.int .i64 1)) x239 fun x241=>A9 EE 3 x241 (.fv (.int .i64 8)) fun x242=>Aax x235 x242 h223)
def AaV (x231:IV) (h223:Hp) (x1:IV) (r232 r229:AI):OH :=
 AB x231 fun x233=>Ac 2 x233 fun x234=>Af x234 h223 fun x235 r236=>Ad [] r236 [] (AB x1 fun x237=>Zx x237 h223 r236 r232 r229 x235)
def Y9 (h223:Hp) (x227 x1:IV):OH :=
 Af x227 h223 fun x228 r229=>Ad [] r229 [] (Bc 1 x228 (.fv (.int .i64 0)) fun x230=>Af x230 h223 fun x231 r232=>Ad [] r232 [] (AaV x231 h223 x1 r232 r229))
def Wq (ih:Aa) (h218:Hp) (x0 x1:IV) (j0_3:Hp→OH):OH :=
 Aj [true] false false ih 86 [x0] h218 fun x222 h223 _ _=>Ak x222 (AB x1 fun x226=>Ac 2 x226 fun x227=>Y9 h223 x227 x1) (j0_3 h223)
def Za (x258:IV) (h250:Hp):OH :=
 AB x258 fun x260=>Ac 2 x260 fun x261=>Af x261 h250 fun x262 _=>Bc 1 x262 (.fv (.int .i64 0)) fun x264=>Af x264 h250 fun x265 _=>Aq [x265] h250
def W6 (x1:IV) (h250:Hp):OH :=
 AB x1 fun x253=>Ac 2 x253 fun x254=>Af x254 h250 fun x255 _=>Bc 1 x255 (.fv (.int .i64 0)) fun x257=>Af x257 h250 fun x258 _=>Za x258 h250
def Yn (h336:Hp) (x340:IV):OH :=
 Af x340 h336 fun x341 _=>Bc 1 x341 (.fv (.int .i64 1)) fun x343=>Af x343 h336 fun x344 _=>Aq [x344] h336
def Aaq (x335 x1:IV) (h336:Hp) (j0_3:Hp→OH):OH :=
 Ak x335 (AB x1 fun x339=>Ac 2 x339 fun x340=>Yn h336 x340) (j0_3 h336)
def ZN (r483 w484 r480 r476:AI) (ih:Aa) (h482:Hp) (x479 x481 x0 x475:IV):OH :=
 Ad [(r480,[]),(r476,[])] r483 w484 (Aj [] false false ih 69 [x479,x481] h482 fun x485 h486 r487 w488=>Ad [(r476,[])] r487 w488 (Aj [true,false,false] false false ih 49 [x0,x475,x485] h486 fun x489 h490 r491 w492=>Ad [] r491 w492 (Aq [x489] h490)))
def V7 (x471:IV) (h463:Hp) (r476:AI) (x430 x462:IV) (ih:Aa) (x0 x475:IV):OH :=
 AB x471 fun x477=>Ac 3 x477 fun x478=>Af x478 h463 fun x479 r480=>Ad [(r476,[])] r480 [] (Ay (Ah EE 93 2 [(0,x430),(1,x462)]) 73422859 h463 fun x481 h482 r483 w484=>ZN r483 w484 r480 r476 ih h482 x479 x481 x0 x475)
def X4 (h463:Hp) (x470 x430 x462:IV) (ih:Aa) (x0:IV):OH :=
 Af x470 h463 fun x471 _=>AB x471 fun x473=>Ac 4 x473 fun x474=>Ai 3 x474 h463 fun x475 r476=>Ad [] r476 [] (V7 x471 h463 r476 x430 x462 ih x0 x475)
def Abb (r464 w465:AI) (x1:IV) (h463:Hp) (x430 x462:IV) (ih:Aa) (x0:IV):OH :=
 Ad [] r464 w465 (AB x1 fun x466=>Ac 2 x466 fun x467=>Af x467 h463 fun x468 _=>Bc 1 x468 (.fv (.int .i64 2)) fun x470=>X4 h463 x470 x430 x462 ih x0)
def Ab1 (r455 w456:AI) (x453:IV) (h454:Hp) (ih:Aa) (x0 x1 x430:IV):OH :=
 Ad [] r455 w456 (Bw [.fv (.int .i64 0),.fv (.int .i64 0),.nils,.nils,.fv (.int .i64 0),.fv (.int .i64 0),.nils] [(0,1,.fv (.int .i64 13)),(2,1,x453)] fun x457=>Bj 73420822 x457 h454 fun x458 h459 r460 w461=>Ad [] r460 w461 (Aj [true,false] false false ih 70 [x0,x458] h459 fun x462 h463 r464 w465=>Abb r464 w465 x1 h463 x430 x462 ih x0))
def Aap (r449 r445 r442 r438 r435:AI) (x448:IV) (h415:Hp) (x437 x444 x430:IV) (ih:Aa) (x0 x1:IV):OH :=
 Ad [(r445,[]),(r442,[]),(r438,[]),(r435,[])] r449 [] (Bc 1 x448 (.fv (.int .i64 2)) fun x450=>Af x450 h415 fun x451 r452=>Ad [(r445,[]),(r442,[]),(r438,[]),(r435,[])] r452 [] (Ay (Ah EE 93 4 [(0,x437),(1,x444),(2,x451),(3,x430)]) 73420820 h415 fun x453 h454 r455 w456=>Ab1 r455 w456 x453 h454 ih x0 x1 x430))
def YB (h415:Hp) (x443:IV) (r438 r435:AI) (x1:IV) (r442:AI) (x437 x430:IV) (ih:Aa) (x0:IV):OH :=
 Af x443 h415 fun x444 r445=>Ad [(r438,[]),(r435,[])] r445 [] (AB x1 fun x446=>Ac 2 x446 fun x447=>Af x447 h415 fun x448 r449=>Aap r449 r445 r442 r438 r435 x448 h415 x437 x444 x430 ih x0 x1)
def YO (x1:IV) (h415:Hp) (r438 r435:AI) (x437 x430:IV) (ih:Aa) (x0:IV):OH :=
 AB x1 fun x439=>Ac 2 x439 fun x440=>Af x440 h415 fun x441 r442=>Ad [(r438,[]),(r435,[])] r442 [] (Bc 1 x441 (.fv (.int .i64 1)) fun x443=>YB h415 x443 r438 r435 x1 r442 x437 x430 ih x0)
def Zl (h415:Hp) (x433 x1 x430:IV) (ih:Aa) (x0:IV):OH :=
 Af x433 h415 fun x434 r435=>Ad [] r435 [] (Bc 1 x434 (.fv (.int .i64 0)) fun x436=>Af x436 h415 fun x437 r438=>Ad [] r438 [] (YO x1 h415 r438 r435 x437 x430 ih x0))
def ZG (h415:Hp) (x426 x1:IV) (ih:Aa) (x0:IV):OH :=
 Af x426 h415 fun x427 _=>Bc 1 x427 (.fv (.int .i64 0)) fun x429=>Af x429 h415 fun x430 _=>AB x1 fun x432=>Ac 2 x432 fun x433=>Zl h415 x433 x1 x430 ih x0
def Wt (h415:Hp) (x419 x1:IV) (ih:Aa) (x0:IV):OH :=
 Af x419 h415 fun x420 _=>Bc 1 x420 (.fv (.int .i64 3)) fun x422=>Af x422 h415 fun x423 _=>AB x423 fun x425=>Ac 2 x425 fun x426=>ZG h415 x426 x1 ih x0
def Vt (ih:Aa) (h410:Hp) (x0 x1:IV) (j0_3:Hp→OH):OH :=
 Aj [true] false false ih 86 [x0] h410 fun x414 h415 _ _=>Ak x414 (AB x1 fun x418=>Ac 2 x418 fun x419=>Wt h415 x419 x1 ih x0) (j0_3 h415)
def Z7 (h391:Hp) (x350 x390:IV) (ih:Aa) (x0 x1:IV) (j0_3:Hp→OH):OH :=
 Ab x350 true h391 (fun k394=>Ac 0 x390 fun x395=>k394 x395 h391 [] []) fun x396 h397 _ _=>Ab x350 true h397 (fun k400=>Af x396 h397 fun x401 r402=>k400 x401 h397 r402 []) fun x403 h404 _ _=>Ab x350 true h404 (fun k407=>A2 EE 3 x403 (.fv (.int .i64 12)) fun x408=>k407 x408 h404 [] []) fun x409 h410 _ _=>AF x350 x409 (.fv (.bool false)) fun x413=>Ak x413 (Vt ih h410 x0 x1 j0_3) (j0_3 h410)
def Yg (h359:Hp) (x350 x358:IV) (ih:Aa) (x0 x1:IV) (j0_3:Hp→OH):OH :=
 Ab x350 true h359 (fun k362=>Ac 2 x358 fun x363=>k362 x363 h359 [] []) fun x364 h365 _ _=>Ab x350 true h365 (fun k368=>Af x364 h365 fun x369 r370=>k368 x369 h365 r370 []) fun x371 h372 _ _=>Ab x350 true h372 (fun k375=>Bc 1 x371 (.fv (.int .i64 3)) fun x376=>k375 x376 h372 [] []) fun x377 h378 _ _=>Ab x350 true h378 (fun k381=>Af x377 h378 fun x382 r383=>k381 x382 h378 r383 []) fun x384 h385 _ _=>Ab x350 true h385 (fun k388=>AB x384 fun x389=>k388 x389 h385 [] []) fun x390 h391 _ _=>Z7 h391 x350 x390 ih x0 x1 j0_3
def AbK (x346:IV) (h331:Hp) (x1:IV) (ih:Aa) (x0:IV) (j0_3:Hp→OH):OH :=
 Ac 0 x346 fun x347=>Af x347 h331 fun x348 _=>A2 EE 3 x348 (.fv (.int .i64 13)) fun x350=>Ab x350 true h331 (fun k351=>k351 x1 h331 [] []) fun x352 h353 _ _=>Ab x350 true h353 (fun k356=>AB x352 fun x357=>k356 x357 h353 [] []) fun x358 h359 _ _=>Yg h359 x350 x358 ih x0 x1 j0_3
def X8 (h318:Hp) (x271 x317:IV) (ih:Aa) (x0 x1:IV) (j0_3:Hp→OH):OH :=
 Ab x271 true h318 (fun k321=>Af x317 h318 fun x322 r323=>k321 x322 h318 r323 []) fun x324 h325 _ _=>Ab x271 true h325 (fun k328=>A2 EE 3 x324 (.fv (.int .i64 11)) fun x329=>k328 x329 h325 [] []) fun x330 h331 _ _=>AF x271 x330 (.fv (.bool false)) fun x334=>Ak x334 (Aj [true] false false ih 86 [x0] h331 fun x335 h336 _ _=>Aaq x335 x1 h336 j0_3) (AB x1 fun x346=>AbK x346 h331 x1 ih x0 j0_3)
def Wm (h286:Hp) (x271 x285:IV) (ih:Aa) (x0 x1:IV) (j0_3:Hp→OH):OH :=
 Ab x271 true h286 (fun k289=>Af x285 h286 fun x290 r291=>k289 x290 h286 r291 []) fun x292 h293 _ _=>Ab x271 true h293 (fun k296=>Bc 1 x292 (.fv (.int .i64 3)) fun x297=>k296 x297 h293 [] []) fun x298 h299 _ _=>Ab x271 true h299 (fun k302=>Af x298 h299 fun x303 r304=>k302 x303 h299 r304 []) fun x305 h306 _ _=>Ab x271 true h306 (fun k309=>AB x305 fun x310=>k309 x310 h306 [] []) fun x311 h312 _ _=>Ab x271 true h312 (fun k315=>Ac 0 x311 fun x316=>k315 x316 h312 [] []) fun x317 h318 _ _=>X8 h318 x271 x317 ih x0 x1 j0_3
def AaI (h248:Hp) (x268 x1:IV) (ih:Aa) (x0:IV) (j0_3:Hp→OH):OH :=
 Af x268 h248 fun x269 _=>A2 EE 3 x269 (.fv (.int .i64 13)) fun x271=>Ab x271 true h248 (fun k272=>k272 x1 h248 [] []) fun x273 h274 _ _=>Ab x271 true h274 (fun k277=>AB x273 fun x278=>k277 x278 h274 [] []) fun x279 h280 _ _=>Ab x271 true h280 (fun k283=>Ac 2 x279 fun x284=>k283 x284 h280 [] []) fun x285 h286 _ _=>Wm h286 x271 x285 ih x0 x1 j0_3
def XQ (x247:IV) (ih:Aa) (h248:Hp) (x0 x1:IV) (j0_3:Hp→OH):OH :=
 Ak x247 (Aj [true] false false ih 86 [x0] h248 fun x249 h250 _ _=>Ak x249 (W6 x1 h250) (j0_3 h250)) (AB x1 fun x267=>Ac 0 x267 fun x268=>AaI h248 x268 x1 ih x0 j0_3)
def Z6 (h612:Hp) (x565 x611:IV) (j1_246:IV→Hp→OH):OH :=
 Ab x565 true h612 (fun k615=>Af x611 h612 fun x616 r617=>k615 x616 h612 r617 []) fun x618 h619 _ _=>Ab x565 true h619 (fun k622=>A2 EE 3 x618 (.fv (.int .i64 30)) fun x623=>k622 x623 h619 [] []) fun x624 h625 _ _=>AF x565 x624 (.fv (.bool false)) fun x628=>j1_246 x628 h625
def Xm (h580:Hp) (x565 x579:IV) (j1_246:IV→Hp→OH):OH :=
 Ab x565 true h580 (fun k583=>Af x579 h580 fun x584 r585=>k583 x584 h580 r585 []) fun x586 h587 _ _=>Ab x565 true h587 (fun k590=>Bc 1 x586 (.fv (.int .i64 0)) fun x591=>k590 x591 h587 [] []) fun x592 h593 _ _=>Ab x565 true h593 (fun k596=>Af x592 h593 fun x597 r598=>k596 x597 h593 r598 []) fun x599 h600 _ _=>Ab x565 true h600 (fun k603=>AB x599 fun x604=>k603 x604 h600 [] []) fun x605 h606 _ _=>Ab x565 true h606 (fun k609=>Ac 0 x605 fun x610=>k609 x610 h606 [] []) fun x611 h612 _ _=>Z6 h612 x565 x611 j1_246
def ZB (h557:Hp) (x562 x1:IV) (j1_246:IV→Hp→OH):OH :=
 Af x562 h557 fun x563 _=>A2 EE 3 x563 (.fv (.int .i64 19)) fun x565=>Ab x565 true h557 (fun k566=>k566 x1 h557 [] []) fun x567 h568 _ _=>Ab x565 true h568 (fun k571=>AB x567 fun x572=>k571 x572 h568 [] []) fun x573 h574 _ _=>Ab x565 true h574 (fun k577=>Ac 2 x573 fun x578=>k577 x578 h574 [] []) fun x579 h580 _ _=>Xm h580 x565 x579 j1_246
def VA (x497 x556:IV) (j1_246:IV→Hp→OH) (h557:Hp) (x1:IV):OH :=
 AF x497 x556 (.fv (.bool false)) fun x560=>Ak x560 (j1_246 x560 h557) (AB x1 fun x561=>Ac 0 x561 fun x562=>ZB h557 x562 x1 j1_246)
def V1 (h525:Hp) (x497 x524:IV) (j1_246:IV→Hp→OH) (x1:IV):OH :=
 Ab x497 true h525 (fun k528=>Af x524 h525 fun x529 r530=>k528 x529 h525 r530 []) fun x531 h532 _ _=>Ab x497 true h532 (fun k535=>AB x531 fun x536=>k535 x536 h532 [] []) fun x537 h538 _ _=>Ab x497 true h538 (fun k541=>Ac 0 x537 fun x542=>k541 x542 h538 [] []) fun x543 h544 _ _=>Ab x497 true h544 (fun k547=>Af x543 h544 fun x548 r549=>k547 x548 h544 r549 []) fun x550 h551 _ _=>Ab x497 true h551 (fun k554=>A2 EE 3 x550 (.fv (.int .i64 19)) fun x555=>k554 x555 h551 [] []) fun x556 h557 _ _=>VA x497 x556 j1_246 h557 x1
def AbY (h218:Hp) (x497 x1:IV) (j1_246:IV→Hp→OH):OH :=
 Ab x497 true h218 (fun k498=>k498 x1 h218 [] []) fun x499 h500 _ _=>Ab x497 true h500 (fun k503=>AB x499 fun x504=>k503 x504 h500 [] []) fun x505 h506 _ _=>Ab x497 true h506 (fun k509=>Ac 2 x505 fun x510=>k509 x510 h506 [] []) fun x511 h512 _ _=>Ab x497 true h512 (fun k515=>Af x511 h512 fun x516 r517=>k515 x516 h512 r517 []) fun x518 h519 _ _=>Ab x497 true h519 (fun k522=>Bc 1 x518 (.fv (.int .i64 0)) fun x523=>k522 x523 h519 [] []) fun x524 h525 _ _=>V1 h525 x497 x524 j1_246 x1
def AaK (ih:Aa) (x0 x1:IV) (j0_3:Hp→OH) (h218:Hp):OH :=
 (fun (j1_246:IV→Hp→OH)=>AB x1 fun x493=>Ac 0 x493 fun x494=>Af x494 h218 fun x495 _=>A2 EE 3 x495 (.fv (.int .i64 30)) fun x497=>AbY h218 x497 x1 j1_246) fun x247 h248=>XQ x247 ih h248 x0 x1 j0_3
def Y5 (h199:Hp) (x158 x198:IV) (ih:Aa) (x0 x1:IV) (j0_3:Hp→OH):OH :=
 Ab x158 true h199 (fun k202=>Ac 0 x198 fun x203=>k202 x203 h199 [] []) fun x204 h205 _ _=>Ab x158 true h205 (fun k208=>Af x204 h205 fun x209 r210=>k208 x209 h205 r210 []) fun x211 h212 _ _=>Ab x158 true h212 (fun k215=>A2 EE 3 x211 (.fv (.int .i64 7)) fun x216=>k215 x216 h212 [] []) fun x217 h218 _ _=>AF x158 x217 (.fv (.bool false)) fun x221=>Ak x221 (Wq ih h218 x0 x1 j0_3) (AaK ih x0 x1 j0_3 h218)
def Wo (h167:Hp) (x158 x166:IV) (ih:Aa) (x0 x1:IV) (j0_3:Hp→OH):OH :=
 Ab x158 true h167 (fun k170=>Ac 2 x166 fun x171=>k170 x171 h167 [] []) fun x172 h173 _ _=>Ab x158 true h173 (fun k176=>Af x172 h173 fun x177 r178=>k176 x177 h173 r178 []) fun x179 h180 _ _=>Ab x158 true h180 (fun k183=>Bc 1 x179 (.fv (.int .i64 0)) fun x184=>k183 x184 h180 [] []) fun x185 h186 _ _=>Ab x158 true h186 (fun k189=>Af x185 h186 fun x190 r191=>k189 x190 h186 r191 []) fun x192 h193 _ _=>Ab x158 true h193 (fun k196=>AB x192 fun x197=>k196 x197 h193 [] []) fun x198 h199 _ _=>Y5 h199 x158 x198 ih x0 x1 j0_3
def Aam (h142:Hp) (x127 x141 x1:IV) (ih:Aa) (x0:IV) (j0_3:Hp→OH):OH :=
 Ab x127 false h142 (fun k145=>Af x141 h142 fun x146 r147=>k145 x146 h142 r147 []) fun x148 h149 _ _=>Ab x127 false h149 (fun k152=>A2 EE 3 x148 (.fv (.int .i64 9)) fun x153=>k152 x153 h149 [] []) fun x154 h155 _ _=>AF x127 (.fv (.bool true)) x154 fun x158=>Ab x158 true h155 (fun k159=>k159 x1 h155 [] []) fun x160 h161 _ _=>Ab x158 true h161 (fun k164=>AB x160 fun x165=>k164 x165 h161 [] []) fun x166 h167 _ _=>Wo h167 x158 x166 ih x0 x1 j0_3
def AaT (h74:Hp) (x124 x1:IV) (ih:Aa) (x0:IV) (j0_3:Hp→OH):OH :=
 Af x124 h74 fun x125 _=>A2 EE 3 x125 (.fv (.int .i64 8)) fun x127=>Ab x127 false h74 (fun k128=>k128 x1 h74 [] []) fun x129 h130 _ _=>Ab x127 false h130 (fun k133=>AB x129 fun x134=>k133 x134 h130 [] []) fun x135 h136 _ _=>Ab x127 false h136 (fun k139=>Ac 0 x135 fun x140=>k139 x140 h136 [] []) fun x141 h142 _ _=>Aam h142 x127 x141 x1 ih x0 j0_3
def Aa5 (x77:IV) (ih:Aa) (h74:Hp) (x0 x1:IV) (j0_3:Hp→OH):OH :=
 Ak x77 (Aj [true] false false ih 86 [x0] h74 fun x78 h79 _ _=>Ak x78 (V6 x1 h79 ih x0) (j0_3 h79)) (AB x1 fun x123=>Ac 0 x123 fun x124=>AaT h74 x124 x1 ih x0 j0_3)
def VB (h49:Hp) (x14 x48:IV) (ih:Aa) (x0 x1:IV) (j0_3:Hp→OH):OH :=
 Ab x14 true h49 (fun k52=>AB x48 fun x53=>k52 x53 h49 [] []) fun x54 h55 _ _=>Ab x14 true h55 (fun k58=>Ac 0 x54 fun x59=>k58 x59 h55 [] []) fun x60 h61 _ _=>Ab x14 true h61 (fun k64=>Af x60 h61 fun x65 r66=>k64 x65 h61 r66 []) fun x67 h68 _ _=>Ab x14 true h68 (fun k71=>A2 EE 3 x67 (.fv (.int .i64 4)) fun x72=>k71 x72 h68 [] []) fun x73 h74 _ _=>AF x14 x73 (.fv (.bool false)) fun x77=>Aa5 x77 ih h74 x0 x1 j0_3
def WH (h17:Hp) (x14 x16:IV) (ih:Aa) (x0 x1:IV) (j0_3:Hp→OH):OH :=
 Ab x14 true h17 (fun k20=>AB x16 fun x21=>k20 x21 h17 [] []) fun x22 h23 _ _=>Ab x14 true h23 (fun k26=>Ac 2 x22 fun x27=>k26 x27 h23 [] []) fun x28 h29 _ _=>Ab x14 true h29 (fun k32=>Af x28 h29 fun x33 r34=>k32 x33 h29 r34 []) fun x35 h36 _ _=>Ab x14 true h36 (fun k39=>Bc 1 x35 (.fv (.int .i64 0)) fun x40=>k39 x40 h36 [] []) fun x41 h42 _ _=>Ab x14 true h42 (fun k45=>Af x41 h42 fun x46 r47=>k45 x46 h42 r47 []) fun x48 h49 _ _=>VB h49 x14 x48 ih x0 x1 j0_3
def Abv (x1:IV) (h2:Hp) (ih:Aa) (x0:IV) (j0_3:Hp→OH):OH :=
 AB x1 fun x10=>Ac 0 x10 fun x11=>Af x11 h2 fun x12 _=>A2 EE 3 x12 (.fv (.int .i64 5)) fun x14=>Ab x14 true h2 (fun k15=>k15 x1 h2 [] []) fun x16 h17 _ _=>WH h17 x14 x16 ih x0 x1 j0_3
def S70 (ih:Aa) (n:Nat) (x0 x1:IV) (h2:Hp):OH :=
 (fun (j0_3:Hp→OH)=>AB x0 fun x5=>Ac 2 x5 fun x6=>Af x6 h2 fun x7 _=>Jd EE 3 x7 (.fv (.int .i64 0)) fun x9=>Ak x9 (Aq [x1] h2) (Abv x1 h2 ih x0 j0_3)) fun h4=>Aq [x1] h4
theorem Alq (ih:Aa) (n:Nat) (x0 x1:IV) (h2:Hp):AD EE ih ft.get n 70 [x0,x1] h2=S70 ih n x0 x1 h2:=by kernel_rfl
def AfY (x0:IV) (h7:Hp):OH :=
 A2 EE 3 x0 (.fv (.int .i64 13)) fun x9=>Ak x9 (Aq [.fv (.int .i64 4)] h7) (Aq [.fv (.int .i64 (-1))] h7)
def Afs (x6:IV) (h7:Hp) (x0:IV):OH :=
 Ak x6 (Aq [.fv (.int .i64 2)] h7) (A2 EE 3 x0 (.fv (.int .i64 7)) fun x8=>Ak x8 (Aq [.fv (.int .i64 3)] h7) (AfY x0 h7))
def Ad3 (x10:IV) (j1_5:IV→Hp→OH) (h4:Hp) (x0:IV):OH :=
 Ak x10 (j1_5 x10 h4) (A2 EE 3 x0 (.fv (.int .i64 5)) fun x11=>j1_5 x11 h4)
def AdR (x3:IV) (h4:Hp) (x0:IV):OH :=
 Ak x3 (Aq [.fv (.int .i64 1)] h4) ((fun (j1_5:IV→Hp→OH)=>A2 EE 3 x0 (.fv (.int .i64 4)) fun x10=>Ad3 x10 j1_5 h4 x0) fun x6 h7=>Afs x6 h7 x0)
def Afx (x0:IV) (j1_2:IV→Hp→OH) (h1:Hp):OH :=
 A2 EE 3 x0 (.fv (.int .i64 30)) fun x16=>j1_2 x16 h1
def AeT (x0:IV) (j1_2:IV→Hp→OH) (h1:Hp):OH :=
 A2 EE 3 x0 (.fv (.int .i64 12)) fun x14=>Ak x14 (j1_2 x14 h1) (A2 EE 3 x0 (.fv (.int .i64 19)) fun x15=>Ak x15 (j1_2 x15 h1) (Afx x0 j1_2 h1))
def S71 (ih:Aa) (n:Nat) (x0:IV) (h1:Hp):OH :=
 (fun (j1_2:IV→Hp→OH)=>A2 EE 3 x0 (.fv (.int .i64 8)) fun x12=>Ak x12 (j1_2 x12 h1) (A2 EE 3 x0 (.fv (.int .i64 9)) fun x13=>Ak x13 (j1_2 x13 h1) (AeT x0 j1_2 h1))) fun x3 h4=>AdR x3 h4 x0
theorem AlH (ih:Aa) (n:Nat) (x0:IV) (h1:Hp):AD EE ih ft.get n 71 [x0] h1=S71 ih n x0 h1:=by kernel_rfl
def Uw (ih:Aa) (h23:Hp) (x0 x8 x22:IV):OH :=
 Aj [true,false,false,false] false false ih 81 [x0,x8,.fv (.int .i64 1),x22] h23 fun x26 h27 _ _=>Aq [x26] h27
def Uo (x15:IV) (h2:Hp) (ih:Aa) (x0 x8:IV):OH :=
 Ac 2 x15 fun x16=>Af x16 h2 fun x17 _=>Bc 1 x17 (.fv (.int .i64 1)) fun x19=>Af x19 h2 fun x20 _=>Ay (Ah EE 104 1 [(0,x20)]) 75500552 h2 fun x22 h23 _ _=>Uw ih h23 x0 x8 x22
def UI (x10:IV) (h2:Hp) (x1:IV) (ih:Aa) (x0 x8:IV):OH :=
 Ac 0 x10 fun x11=>Af x11 h2 fun x12 _=>A2 EE 3 x12 (.fv (.int .i64 4)) fun x14=>Ak x14 (AB x1 fun x15=>Uo x15 h2 ih x0 x8) (Aq [.fv .nilp] h2)
def S72 (ih:Aa) (n:Nat) (x0 x1:IV) (h2:Hp):OH :=
 AB x1 fun x3=>Ac 2 x3 fun x4=>Af x4 h2 fun x5 _=>Bc 1 x5 (.fv (.int .i64 0)) fun x7=>Af x7 h2 fun x8 _=>AB x8 fun x10=>UI x10 h2 x1 ih x0 x8
theorem All (ih:Aa) (n:Nat) (x0 x1:IV) (h2:Hp):AD EE ih ft.get n 72 [x0,x1] h2=S72 ih n x0 x1 h2:=by kernel_rfl
def Ru (x20:IV) (h2:Hp):OH :=
 Ac 2 x20 fun x21=>Af x21 h2 fun x22 _=>Bc 1 x22 (.fv (.int .i64 1)) fun x24=>Af x24 h2 fun x25 _=>Aq [x25] h2
def P1 (x27:IV) (h2:Hp):OH :=
 Ac 2 x27 fun x28=>Af x28 h2 fun x29 _=>Bc 1 x29 (.fv (.int .i64 2)) fun x31=>Af x31 h2 fun x32 _=>Aq [x32] h2
def Pq (x15:IV) (h2:Hp) (x8:IV):OH :=
 Ac 0 x15 fun x16=>Af x16 h2 fun x17 _=>A2 EE 3 x17 (.fv (.int .i64 8)) fun x19=>Ak x19 (AB x8 fun x20=>Ru x20 h2) (AB x8 fun x27=>P1 x27 h2)
def RD (x10:IV) (h2:Hp) (x1 x8:IV):OH :=
 Ac 0 x10 fun x11=>Af x11 h2 fun x12 _=>Jd EE 3 x12 (.fv (.int .i64 7)) fun x14=>Ak x14 (Aq [.fv .nilp] h2) (AB x1 fun x15=>Pq x15 h2 x8)
def S73 (ih:Aa) (n:Nat) (x0 x1:IV) (h2:Hp):OH :=
 AB x1 fun x3=>Ac 2 x3 fun x4=>Af x4 h2 fun x5 _=>Bc 1 x5 (.fv (.int .i64 0)) fun x7=>Af x7 h2 fun x8 _=>AB x8 fun x10=>RD x10 h2 x1 x8
theorem AjG (ih:Aa) (n:Nat) (x0 x1:IV) (h2:Hp):AD EE ih ft.get n 73 [x0,x1] h2=S73 ih n x0 x1 h2:=by kernel_rfl
def Pg (x15:IV) (h2:Hp):OH :=
 Ac 2 x15 fun x16=>Af x16 h2 fun x17 _=>Bc 1 x17 (.fv (.int .i64 1)) fun x19=>Af x19 h2 fun x20 _=>Aq [x20] h2
def Qq (h63:Hp) (x60 x62:IV) (ih:Aa) (x0 x1:IV):OH :=
 Ay (Ah EE 104 2 [(0,x60),(1,x62)]) 77602826 h63 fun x66 h67 r68 w69=>Ad [] r68 w69 (Aj [true,false,false,false] false false ih 81 [x0,x1,.fv (.int .i64 2),x66] h67 fun x70 h71 r72 w73=>Ad [] r72 w73 (Aq [x70] h71))
def PP (x57:IV) (h52:Hp) (ih:Aa) (x0 x26:IV) (r58:AI) (x1:IV):OH :=
 Bc 1 x57 (.fv (.int .i64 0)) fun x59=>Af x59 h52 fun x60 r61=>Ad [] r61 [] (Aj [true,false] false false ih 80 [x0,x26] h52 fun x62 h63 r64 w65=>Ad [(r61,[]),(r58,[])] r64 w65 (Qq h63 x60 x62 ih x0 x1))
def QZ (r53 w54:AI) (x8:IV) (h52:Hp) (ih:Aa) (x0 x26 x1:IV):OH :=
 Ad [] r53 w54 (AB x8 fun x55=>Ac 2 x55 fun x56=>Af x56 h52 fun x57 r58=>Ad [] r58 [] (PP x57 h52 ih x0 x26 r58 x1))
def Pz (r46 r39 r36:AI) (h30:Hp) (x38 x45 x26 x8:IV) (ih:Aa) (x0 x1:IV):OH :=
 Ad [(r39,[]),(r36,[])] r46 [] (Ay (Ah EE 104 4 [(0,.fv .nilp),(1,x38),(2,.fv .nilp),(3,x45)]) 77601804 h30 fun x47 h48 r49 w50=>Ad [] r49 w50 (Ac 2 x26 fun x51=>Bp x51 x47 h48 fun h52 r53 w54=>QZ r53 w54 x8 h52 ih x0 x26 x1))
def PF (x40:IV) (h30:Hp) (r39 r36:AI) (x38 x26 x8:IV) (ih:Aa) (x0 x1:IV):OH :=
 Ac 2 x40 fun x41=>Af x41 h30 fun x42 r43=>Ad [(r39,[]),(r36,[])] r43 [] (Bc 1 x42 (.fv (.int .i64 0)) fun x44=>Af x44 h30 fun x45 r46=>Pz r46 r39 r36 h30 x38 x45 x26 x8 ih x0 x1)
def PL (r36:AI) (x35:IV) (h30:Hp) (x8 x26:IV) (ih:Aa) (x0 x1:IV):OH :=
 Ad [] r36 [] (Bc 1 x35 (.fv (.int .i64 1)) fun x37=>Af x37 h30 fun x38 r39=>Ad [] r39 [] (AB x8 fun x40=>PF x40 h30 r39 r36 x38 x26 x8 ih x0 x1))
def Ro (h2:Hp) (x24 x1 x8:IV) (ih:Aa) (x0:IV):OH :=
 AL 77600771 (.row [.fv (.int .i64 0),.fv (.int .i64 0),.nils,.fv (.int .i64 0),.fv (.int .i64 0),.nils,.fv (.nilp)] false) (.ptr (.own 77600771) 0) h2 fun x26 h27 _ _=>Al 7 x26 x24 h27 fun h30 _ _=>AB x1 fun x33=>Ac 2 x33 fun x34=>Af x34 h30 fun x35 r36=>PL r36 x35 h30 x8 x26 ih x0 x1
def Qs (x22 x1:IV) (h2:Hp) (x8:IV) (ih:Aa) (x0:IV):OH :=
 Ak x22 (AB x1 fun x23=>Ai 7 x23 h2 fun x24 _=>Ro h2 x24 x1 x8 ih x0) (Aq [.fv .nilp] h2)
def Pl (x10:IV) (h2:Hp) (x1 x8:IV) (ih:Aa) (x0:IV):OH :=
 Ac 0 x10 fun x11=>Af x11 h2 fun x12 _=>A2 EE 3 x12 (.fv (.int .i64 11)) fun x14=>Ak x14 (AB x1 fun x15=>Pg x15 h2) (A2 EE 3 x12 (.fv (.int .i64 12)) fun x22=>Qs x22 x1 h2 x8 ih x0)
def S74 (ih:Aa) (n:Nat) (x0 x1:IV) (h2:Hp):OH :=
 AB x1 fun x3=>Ac 2 x3 fun x4=>Af x4 h2 fun x5 _=>Bc 1 x5 (.fv (.int .i64 3)) fun x7=>Af x7 h2 fun x8 _=>AB x8 fun x10=>Pl x10 h2 x1 x8 ih x0
theorem AiX (ih:Aa) (n:Nat) (x0 x1:IV) (h2:Hp):AD EE ih ft.get n 74 [x0,x1] h2=S74 ih n x0 x1 h2:=by kernel_rfl
def S75 (ih:Aa) (n:Nat) (x0 x1:IV) (h2:Hp):OH :=
 Aj [] false false ih 87 [x1,.fv (.int .i64 19)] h2 fun x3 h4 _ _=>Aq [x3] h4
theorem Ai8 (ih:Aa) (n:Nat) (x0 x1:IV) (h2:Hp):AD EE ih ft.get n 75 [x0,x1] h2=S75 ih n x0 x1 h2:=by kernel_rfl
def S76 (ih:Aa) (n:Nat) (x0 x1:IV) (h2:Hp):OH :=
 Aj [] false false ih 87 [x1,.fv (.int .i64 30)] h2 fun x3 h4 _ _=>Aq [x3] h4
theorem Alm (ih:Aa) (n:Nat) (x0 x1:IV) (h2:Hp):AD EE ih ft.get n 76 [x0,x1] h2=S76 ih n x0 x1 h2:=by kernel_rfl
def RE (h44:Hp) (x49:IV):OH :=
 Bp x49 (.fv (.int .i64 17)) h44 fun h50 _ _=>Aq [] h50
def QE (x16 x43 x0:IV) (h44:Hp):OH :=
 AF x16 x43 (.fv (.bool false)) fun x47=>Ak x47 (AB x0 fun x48=>Ac 3 x48 fun x49=>RE h44 x49) (Aq [] h44)
def Qy (h9:Hp) (x16 x0:IV):OH :=
 Ab x16 true h9 (fun k17=>k17 x0 h9 [] []) fun x18 h19 _ _=>Ab x16 true h19 (fun k22=>AB x18 fun x23=>k22 x23 h19 [] []) fun x24 h25 _ _=>Ab x16 true h25 (fun k28=>Ac 3 x24 fun x29=>k28 x29 h25 [] []) fun x30 h31 _ _=>Ab x16 true h31 (fun k34=>Af x30 h31 fun x35 r36=>k34 x35 h31 r36 []) fun x37 h38 _ _=>Ab x16 true h38 (fun k41=>A2 EE 37 x37 (.fv (.int .i64 0)) fun x42=>k41 x42 h38 [] []) fun x43 h44 _ _=>QE x16 x43 x0 h44
def Pe (h1:Hp) (x8 x6 x0:IV):OH :=
 Bp x8 x6 h1 fun h9 _ _=>AB x0 fun x12=>Ac 1 x12 fun x13=>Af x13 h9 fun x14 _=>He EE 3 x14 (.fv (.int .i64 0)) fun x16=>Qy h9 x16 x0
def S77 (ih:Aa) (n:Nat) (x0:IV) (h1:Hp):OH :=
 AB x0 fun x2=>Ac 1 x2 fun x3=>Af x3 h1 fun x4 _=>A9 EE 3 x4 (.fv (.int .i64 1)) fun x6=>AB x0 fun x7=>Ac 1 x7 fun x8=>Pe h1 x8 x6 x0
theorem Akv (ih:Aa) (n:Nat) (x0:IV) (h1:Hp):AD EE ih ft.get n 77 [x0] h1=S77 ih n x0 h1:=by kernel_rfl
def RH (h5:Hp) (x11:IV):OH :=
 Af x11 h5 fun x12 _=>Aq [x12] h5
def RQ (x15:IV) (h5:Hp) (q3:List IV→Hp→OH) (x14:IV):OH :=
 Ac 1 x15 fun x16=>Af x16 h5 fun x17 _=>q3 [x17,x14] h5
def Pj (x9 x6:IV) (h5:Hp) (x7:IV) (q3:List IV→Hp→OH):OH :=
 Ak x9 (AB x6 fun x10=>Ac 0 x10 fun x11=>RH h5 x11) (A9 EE 3 x7 (.fv (.int .i64 1)) fun x14=>AB x6 fun x15=>RQ x15 h5 q3 x14)
def QI (x19:IV) (h5:Hp):OH :=
 Bw [.fv (.int .i64 0),.fv (.int .i64 0),.nils,.fv (.int .i64 0),.fv (.int .i64 0),.nils,.fv (.nilp)] [(0,1,.fv (.int .i64 1)),(1,1,x19)] fun x20=>Bj 81795075 x20 h5 fun x21 h22 _ _=>Aq [x21] h22
def MK (l4:List IV) (h5:Hp) (q3:List IV→Hp→OH):OH :=
 AC l4 fun x6 l25=>AC l25 fun x7 _=>Jd EE 102 x6 (.fv .nilp) fun x8=>Ak x8 (A2 EE 3 x7 (.fv (.int .i64 0)) fun x9=>Pj x9 x6 h5 x7 q3) (A9 EE 3 (.fv (.int .i64 (-1))) x7 fun x19=>QI x19 h5)
def S78 (ih:Aa) (n:Nat) (x0 x1:IV) (h2:Hp):OH :=
 BK n (fun q3 l4 h5=>MK l4 h5 q3) [x0,x1] h2
theorem Aj5 (ih:Aa) (n:Nat) (x0 x1:IV) (h2:Hp):AD EE ih ft.get n 78 [x0,x1] h2=S78 ih n x0 x1 h2:=by kernel_rfl
def S79 (ih:Aa) (n:Nat) (x0 x1:IV) (h2:Hp):OH :=
 Jn EE ih (.fv (.func (.func 88) [] [])) [x0,x1] h2 fun x3 h4 _ _=>Aq [x3] h4
theorem AjS (ih:Aa) (n:Nat) (x0 x1:IV) (h2:Hp):AD EE ih ft.get n 79 [x0,x1] h2=S79 ih n x0 x1 h2:=by kernel_rfl
def Wy (h113:Hp) (x122:IV) (j0_104:Hp→OH):OH :=
 Bp x122 (.fv (.int .i64 17)) h113 fun h123 _ _=>j0_104 h123
def Yh (x120 x0:IV) (h113:Hp) (j0_104:Hp→OH):OH :=
 Ak x120 (AB x0 fun x121=>Ac 3 x121 fun x122=>Wy h113 x122 j0_104) (j0_104 h113)
def W2 (h100:Hp) (x112 x110 x0:IV) (j0_104:Hp→OH):OH :=
 Bp x112 x110 h100 fun h113 _ _=>AB x0 fun x116=>Ac 0 x116 fun x117=>Af x117 h113 fun x118 _=>He EE 3 x118 (.fv (.int .i64 0)) fun x120=>Yh x120 x0 h113 j0_104
def WE (x106:IV) (h100:Hp) (x0:IV) (j0_104:Hp→OH):OH :=
 Ac 0 x106 fun x107=>Af x107 h100 fun x108 _=>A9 EE 3 x108 (.fv (.int .i64 1)) fun x110=>AB x0 fun x111=>Ac 0 x111 fun x112=>W2 h100 x112 x110 x0 j0_104
def Zd (x103:IV) (h100:Hp) (x1 x68 x0:IV):OH :=
 Ak x103 (Aq [x1] h100) ((fun (j0_104:Hp→OH)=>AB x0 fun x106=>WE x106 h100 x0 j0_104) fun h105=>Aq [x68] h105)
def Xn (h75:Hp) (x72 x74 x1 x68 x0:IV):OH :=
 Ab x72 false h75 (fun k78=>AB x74 fun x79=>k78 x79 h75 [] []) fun x80 h81 _ _=>Ab x72 false h81 (fun k84=>Ac 3 x80 fun x85=>k84 x85 h81 [] []) fun x86 h87 _ _=>Ab x72 false h87 (fun k90=>Af x86 h87 fun x91 r92=>k90 x91 h87 r92 []) fun x93 h94 _ _=>Ab x72 false h94 (fun k97=>Jd EE 37 x93 (.fv (.int .i64 0)) fun x98=>k97 x98 h94 [] []) fun x99 h100 _ _=>AF x72 (.fv (.bool true)) x99 fun x103=>Zd x103 h100 x1 x68 x0
def Wn (x17:IV) (h57:Hp) (ih:Aa) (x1 x0:IV):OH :=
 Ac 0 x17 fun x65=>Af x65 h57 fun x66 _=>Jn EE ih x66 [x1] h57 fun x68 h69 _ _=>A2 EE 76 x68 (.fv .nilp) fun x72=>Ab x72 false h69 (fun k73=>k73 x0 h69 [] []) fun x74 h75 _ _=>Xn h75 x72 x74 x1 x68 x0
def XH (x0:IV) (h57:Hp) (x1 x17:IV) (ih:Aa):OH :=
 AB x0 fun x60=>Ac 3 x60 fun x61=>Af x61 h57 fun x62 _=>Jd EE 37 x62 (.fv (.int .i64 0)) fun x64=>Ak x64 (Aq [x1] h57) (Wn x17 h57 ih x1 x0)
def ZO (h46:Hp) (x24 x45 x1:IV) (ih:Aa) (x0 x17:IV):OH :=
 Ab x24 false h46 (fun k49=>Jd EE 37 x45 (.fv (.int .i64 0)) fun x50=>k49 x50 h46 [] []) fun x51 h52 _ _=>AF x24 (.fv (.bool true)) x51 fun x55=>Ak x55 (Aq [x1] h52) (Aj [true] false false ih 77 [x0] h52 fun _ h57 _ _=>XH x0 h57 x1 x17 ih)
def YC (x16:IV) (h21:Hp) (x0 x1:IV) (ih:Aa) (x17:IV):OH :=
 D6 (Of .not x16) fun x24=>Ab x24 false h21 (fun k25=>k25 x0 h21 [] []) fun x26 h27 _ _=>Ab x24 false h27 (fun k30=>AB x26 fun x31=>k30 x31 h27 [] []) fun x32 h33 _ _=>Ab x24 false h33 (fun k36=>Ac 3 x32 fun x37=>k36 x37 h33 [] []) fun x38 h39 _ _=>Ab x24 false h39 (fun k42=>Af x38 h39 fun x43 r44=>k42 x43 h39 r44 []) fun x45 h46 _ _=>ZO h46 x24 x45 x1 ih x0 x17
def VV (x11:IV) (h12:Hp) (r13 w14 r10 r6:AI) (x15 x0 x1:IV) (ih:Aa):OH :=
 AN 1 x11 fun x16=>AL 83887116 (.row [.fv (.nilf)] false) (.ptr (.own 83887116) 0) h12 fun x17 h18 r19 w20=>Ad [(r13,w14),(r10,[]),(r6,[])] r19 w20 (Bp x17 x15 h18 fun h21 r22 w23=>Ad [] r22 w23 (YC x16 h21 x0 x1 ih x17))
def Aas (h2:Hp) (x8:IV) (r6:AI) (x5 x0 x1:IV) (ih:Aa):OH :=
 Af x8 h2 fun x9 r10=>Ad [(r6,[])] r10 [] (Ay (GH EE 78 x5 x9 true) 83887112 h2 fun x11 h12 r13 w14=>Ad [] r13 w14 (AN 0 x11 fun x15=>VV x11 h12 r13 w14 r10 r6 x15 x0 x1 ih))
def S80 (ih:Aa) (n:Nat) (x0 x1:IV) (h2:Hp):OH :=
 AB x0 fun x3=>Ac 4 x3 fun x4=>Af x4 h2 fun x5 r6=>Ad [] r6 [] (AB x1 fun x7=>Ac 0 x7 fun x8=>Aas h2 x8 r6 x5 x0 x1 ih)
theorem AlL (ih:Aa) (n:Nat) (x0 x1:IV) (h2:Hp):AD EE ih ft.get n 80 [x0,x1] h2=S80 ih n x0 x1 h2:=by kernel_rfl
def Aep (x16 x2:IV) (h10:Hp) (r11 w12 r8:AI) (ih:Aa) (x0 x9:IV):OH :=
 Bc 3 x16 x2 fun x18=>Ai 3 x18 h10 fun x19 r20=>Ad [(r11,w12),(r8,[])] r20 [] (Aj [true,false,false] false false ih 52 [x0,x9,x19] h10 fun x21 h22 r23 w24=>Ad [] r23 w24 (Aq [x21] h22))
def AeX (x1:IV) (h10:Hp) (r11 w12 r8:AI) (x2:IV) (ih:Aa) (x0 x9:IV):OH :=
 AB x1 fun x13=>Ac 3 x13 fun x14=>Ac 2 x14 fun x15=>Af x15 h10 fun x16 r17=>Ad [(r11,w12),(r8,[])] r17 [] (Aep x16 x2 h10 r11 w12 r8 ih x0 x9)
def S81 (ih:Aa) (n:Nat) (x0 x1 x2 x3:IV) (h4:Hp):OH :=
 AB x1 fun x5=>Ac 6 x5 fun x6=>Af x6 h4 fun x7 r8=>Ad [] r8 [] (Aj [] false false ih 89 [x7,x3] h4 fun x9 h10 r11 w12=>Ad [] r11 w12 (AeX x1 h10 r11 w12 r8 x2 ih x0 x9))
theorem Alp (ih:Aa) (n:Nat) (x0 x1 x2 x3:IV) (h4:Hp):AD EE ih ft.get n 81 [x0,x1,x2,x3] h4=S81 ih n x0 x1 x2 x3 h4:=by kernel_rfl
def Re (x12:IV) (h13:Hp) (x0:IV):OH :=
 Ak x12 (Aq [.fv (.int .i64 3)] h13) (A2 EE 3 x0 (.fv (.int .i64 13)) fun x14=>Ak x14 (Aq [.fv (.int .i64 4)] h13) (Aq [.fv (.int .i64 (-1))] h13))
def Ra (x15:IV) (j1_11:IV→Hp→OH) (h10:Hp) (x0:IV):OH :=
 Ak x15 (j1_11 x15 h10) (A2 EE 3 x0 (.fv (.int .i64 27)) fun x16=>j1_11 x16 h10)
def Qr (x9:IV) (h10:Hp) (x0:IV):OH :=
 Ak x9 (Aq [.fv (.int .i64 2)] h10) ((fun (j1_11:IV→Hp→OH)=>A2 EE 3 x0 (.fv (.int .i64 7)) fun x15=>Ra x15 j1_11 h10 x0) fun x12 h13=>Re x12 h13 x0)
def Rr (x0:IV) (j1_8:IV→Hp→OH) (h7:Hp):OH :=
 A2 EE 3 x0 (.fv (.int .i64 28)) fun x27=>Ak x27 (j1_8 x27 h7) (A2 EE 3 x0 (.fv (.int .i64 29)) fun x28=>j1_8 x28 h7)
def Qg (x0:IV) (j1_8:IV→Hp→OH) (h7:Hp):OH :=
 A2 EE 3 x0 (.fv (.int .i64 22)) fun x25=>Ak x25 (j1_8 x25 h7) (A2 EE 3 x0 (.fv (.int .i64 26)) fun x26=>Ak x26 (j1_8 x26 h7) (Rr x0 j1_8 h7))
def RB (x0:IV) (j1_8:IV→Hp→OH) (h7:Hp):OH :=
 A2 EE 3 x0 (.fv (.int .i64 20)) fun x23=>Ak x23 (j1_8 x23 h7) (A2 EE 3 x0 (.fv (.int .i64 21)) fun x24=>Ak x24 (j1_8 x24 h7) (Qg x0 j1_8 h7))
def QG (x0:IV) (j1_8:IV→Hp→OH) (h7:Hp):OH :=
 A2 EE 3 x0 (.fv (.int .i64 16)) fun x21=>Ak x21 (j1_8 x21 h7) (A2 EE 3 x0 (.fv (.int .i64 17)) fun x22=>Ak x22 (j1_8 x22 h7) (RB x0 j1_8 h7))
def QL (x0:IV) (j1_8:IV→Hp→OH) (h7:Hp):OH :=
 A2 EE 3 x0 (.fv (.int .i64 5)) fun x19=>Ak x19 (j1_8 x19 h7) (A2 EE 3 x0 (.fv (.int .i64 6)) fun x20=>Ak x20 (j1_8 x20 h7) (QG x0 j1_8 h7))
def Pr (x17:IV) (j1_8:IV→Hp→OH) (h7:Hp) (x0:IV):OH :=
 Ak x17 (j1_8 x17 h7) (A2 EE 3 x0 (.fv (.int .i64 4)) fun x18=>Ak x18 (j1_8 x18 h7) (QL x0 j1_8 h7))
def R0 (x6:IV) (h7:Hp) (x0:IV):OH :=
 Ak x6 (Aq [.fv (.int .i64 1)] h7) ((fun (j1_8:IV→Hp→OH)=>A2 EE 3 x0 (.fv (.int .i64 3)) fun x17=>Pr x17 j1_8 h7 x0) fun x9 h10=>Qr x9 h10 x0)
def PG (x0:IV) (j1_5:IV→Hp→OH) (h4:Hp):OH :=
 A2 EE 3 x0 (.fv (.int .i64 24)) fun x35=>Ak x35 (j1_5 x35 h4) (A2 EE 3 x0 (.fv (.int .i64 30)) fun x36=>j1_5 x36 h4)
def RI (x0:IV) (j1_5:IV→Hp→OH) (h4:Hp):OH :=
 A2 EE 3 x0 (.fv (.int .i64 19)) fun x33=>Ak x33 (j1_5 x33 h4) (A2 EE 3 x0 (.fv (.int .i64 23)) fun x34=>Ak x34 (j1_5 x34 h4) (PG x0 j1_5 h4))
def RX (x0:IV) (j1_5:IV→Hp→OH) (h4:Hp):OH :=
 A2 EE 3 x0 (.fv (.int .i64 12)) fun x31=>Ak x31 (j1_5 x31 h4) (A2 EE 3 x0 (.fv (.int .i64 18)) fun x32=>Ak x32 (j1_5 x32 h4) (RI x0 j1_5 h4))
def QS (x29:IV) (j1_5:IV→Hp→OH) (h4:Hp) (x0:IV):OH :=
 Ak x29 (j1_5 x29 h4) (A2 EE 3 x0 (.fv (.int .i64 9)) fun x30=>Ak x30 (j1_5 x30 h4) (RX x0 j1_5 h4))
def PU (x3:IV) (h4:Hp) (x0:IV):OH :=
 Ak x3 (Aq [.fv (.int .i64 0)] h4) ((fun (j1_5:IV→Hp→OH)=>A2 EE 3 x0 (.fv (.int .i64 8)) fun x29=>QS x29 j1_5 h4 x0) fun x6 h7=>R0 x6 h7 x0)
def Rj (x0:IV) (j1_2:IV→Hp→OH) (h1:Hp):OH :=
 A2 EE 3 x0 (.fv (.int .i64 25)) fun x43=>j1_2 x43 h1
def Ps (x0:IV) (j1_2:IV→Hp→OH) (h1:Hp):OH :=
 A2 EE 3 x0 (.fv (.int .i64 14)) fun x41=>Ak x41 (j1_2 x41 h1) (A2 EE 3 x0 (.fv (.int .i64 15)) fun x42=>Ak x42 (j1_2 x42 h1) (Rj x0 j1_2 h1))
def PI (x0:IV) (j1_2:IV→Hp→OH) (h1:Hp):OH :=
 A2 EE 3 x0 (.fv (.int .i64 10)) fun x39=>Ak x39 (j1_2 x39 h1) (A2 EE 3 x0 (.fv (.int .i64 11)) fun x40=>Ak x40 (j1_2 x40 h1) (Ps x0 j1_2 h1))
def S82 (ih:Aa) (n:Nat) (x0:IV) (h1:Hp):OH :=
 (fun (j1_2:IV→Hp→OH)=>A2 EE 3 x0 (.fv (.int .i64 1)) fun x37=>Ak x37 (j1_2 x37 h1) (A2 EE 3 x0 (.fv (.int .i64 2)) fun x38=>Ak x38 (j1_2 x38 h1) (PI x0 j1_2 h1))) fun x3 h4=>PU x3 h4 x0
theorem AkG (ih:Aa) (n:Nat) (x0:IV) (h1:Hp):AD EE ih ft.get n 82 [x0] h1=S82 ih n x0 h1:=by kernel_rfl
def Ad8 (h7:Hp) (x4 x6:IV):OH :=
 Ab x4 true h7 (fun k10=>leS EE 3 x6 (.fv (.int .i64 3000)) fun x11=>k10 x11 h7 [] []) fun x12 h13 _ _=>AF x4 x12 (.fv (.bool false)) fun x16=>Aq [x16] h13
def AfD (x1:IV) (h2:Hp):OH :=
 geS EE 3 x1 (.fv (.int .i64 0)) fun x18=>Ab x18 true h2 (fun k19=>k19 x1 h2 [] []) fun x20 h21 _ _=>Ab x18 true h21 (fun k24=>leS EE 3 x20 (.fv (.int .i64 2)) fun x25=>k24 x25 h21 [] []) fun x26 h27 _ _=>AF x18 x26 (.fv (.bool false)) fun x30=>Aq [x30] h27
def Ae4 (h35:Hp) (x32 x34:IV):OH :=
 Ab x32 true h35 (fun k38=>leS EE 3 x34 (.fv (.int .i64 4)) fun x39=>k38 x39 h35 [] []) fun x40 h41 _ _=>AF x32 x40 (.fv (.bool false)) fun x44=>Aq [x44] h41
def AdC (x1:IV) (h2:Hp):OH :=
 A2 EE 3 x1 (.fv (.int .i64 0)) fun x46=>Aq [x46] h2
def Afc (x0 x1:IV) (h2:Hp):OH :=
 A2 EE 3 x0 (.fv (.int .i64 26)) fun x31=>Ak x31 (geS EE 3 x1 (.fv (.int .i64 0)) fun x32=>Ab x32 true h2 (fun k33=>k33 x1 h2 [] []) fun x34 h35 _ _=>Ae4 h35 x32 x34) (A2 EE 3 x0 (.fv (.int .i64 25)) fun x45=>Ak x45 (Aq [.fv (.bool true)] h2) (AdC x1 h2))
def S83 (ih:Aa) (n:Nat) (x0 x1:IV) (h2:Hp):OH :=
 A2 EE 3 x0 (.fv (.int .i64 1)) fun x3=>Ak x3 (geS EE 3 x1 (.fv (.int .i64 0)) fun x4=>Ab x4 true h2 (fun k5=>k5 x1 h2 [] []) fun x6 h7 _ _=>Ad8 h7 x4 x6) (A2 EE 3 x0 (.fv (.int .i64 2)) fun x17=>Ak x17 (AfD x1 h2) (Afc x0 x1 h2))
theorem AjE (ih:Aa) (n:Nat) (x0 x1:IV) (h2:Hp):AD EE ih ft.get n 83 [x0,x1] h2=S83 ih n x0 x1 h2:=by kernel_rfl
def Va (x0:IV) (h13:Hp):OH :=
 AB x0 fun x14=>Ac 2 x14 fun x15=>Af x15 h13 fun x16 _=>A2 EE 3 x16 (.fv (.int .i64 0)) fun x18=>Aq [x18] h13
def Uy (h9:Hp) (x25:IV) (j0_12:Hp→OH):OH :=
 Bp x25 (.fv (.int .i64 17)) h9 fun h26 _ _=>j0_12 h26
def TH (x21 x0:IV) (h9:Hp) (j0_12:Hp→OH):OH :=
 KN EE 3 x21 (.fv (.int .i64 1000)) fun x23=>Ak x23 (AB x0 fun x24=>Ac 2 x24 fun x25=>Uy h9 x25 j0_12) (j0_12 h9)
def U8 (h1:Hp) (x8 x6 x0:IV):OH :=
 Bp x8 x6 h1 fun h9 _ _=>(fun (j0_12:Hp→OH)=>AB x0 fun x19=>Ac 0 x19 fun x20=>Af x20 h9 fun x21 _=>TH x21 x0 h9 j0_12) fun h13=>Va x0 h13
def S86 (ih:Aa) (n:Nat) (x0:IV) (h1:Hp):OH :=
 AB x0 fun x2=>Ac 0 x2 fun x3=>Af x3 h1 fun x4 _=>BH EE 3 x4 (.fv (.int .i64 1)) fun x6=>AB x0 fun x7=>Ac 0 x7 fun x8=>U8 h1 x8 x6 x0
theorem AkU (ih:Aa) (n:Nat) (x0:IV) (h1:Hp):AD EE ih ft.get n 86 [x0] h1=S86 ih n x0 h1:=by kernel_rfl
def Ul (x22:IV) (h2:Hp):OH :=
 Ac 2 x22 fun x23=>Af x23 h2 fun x24 _=>Bc 1 x24 (.fv (.int .i64 0)) fun x26=>Af x26 h2 fun x27 _=>Aq [x27] h2
def UQ (x15:IV) (h2:Hp):OH :=
 Ac 2 x15 fun x16=>Af x16 h2 fun x17 _=>Bc 1 x17 (.fv (.int .i64 0)) fun x19=>Af x19 h2 fun x20 _=>AB x20 fun x22=>Ul x22 h2
def TZ (x10:IV) (h2:Hp) (x1 x0:IV):OH :=
 Ac 0 x10 fun x11=>Af x11 h2 fun x12 _=>Jd EE 3 x12 x1 fun x14=>Ak x14 (Aq [.fv .nilp] h2) (AB x0 fun x15=>UQ x15 h2)
def S87 (ih:Aa) (n:Nat) (x0 x1:IV) (h2:Hp):OH :=
 AB x0 fun x3=>Ac 2 x3 fun x4=>Af x4 h2 fun x5 _=>Bc 1 x5 (.fv (.int .i64 0)) fun x7=>Af x7 h2 fun x8 _=>AB x8 fun x10=>TZ x10 h2 x1 x0
theorem AjA (ih:Aa) (n:Nat) (x0 x1:IV) (h2:Hp):AD EE ih ft.get n 87 [x0,x1] h2=S87 ih n x0 x1 h2:=by kernel_rfl
def AdW (x1:IV) (h7:Hp) (j0_3:Hp→OH):OH :=
 A2 EE 3 x1 (.fv (.int .i64 0)) fun x10=>Ak x10 (Aq [.fv (.int .i64 1)] h7) (A2 EE 3 x1 (.fv (.int .i64 2)) fun x11=>Ak x11 (Aq [.fv (.int .i64 2)] h7) (j0_3 h7))
def Aeg (x6 x1:IV) (h7:Hp) (j0_3:Hp→OH) (x0:IV):OH :=
 Ak x6 (A2 EE 3 x1 (.fv (.int .i64 1)) fun x8=>Ak x8 (Aq [.fv (.int .i64 1)] h7) (j0_3 h7)) (A2 EE 3 x0 (.fv (.int .i64 13)) fun x9=>Ak x9 (AdW x1 h7 j0_3) (j0_3 h7))
def Ac7 (x0:IV) (j1_5:IV→Hp→OH) (h2:Hp):OH :=
 A2 EE 3 x0 (.fv (.int .i64 29)) fun x17=>j1_5 x17 h2
def AeD (x0:IV) (j1_5:IV→Hp→OH) (h2:Hp):OH :=
 A2 EE 3 x0 (.fv (.int .i64 20)) fun x15=>Ak x15 (j1_5 x15 h2) (A2 EE 3 x0 (.fv (.int .i64 28)) fun x16=>Ak x16 (j1_5 x16 h2) (Ac7 x0 j1_5 h2))
def Aec (x13:IV) (j1_5:IV→Hp→OH) (h2:Hp) (x0:IV):OH :=
 Ak x13 (j1_5 x13 h2) (A2 EE 3 x0 (.fv (.int .i64 6)) fun x14=>Ak x14 (j1_5 x14 h2) (AeD x0 j1_5 h2))
def S88 (ih:Aa) (n:Nat) (x0 x1:IV) (h2:Hp):OH :=
 (fun (j0_3:Hp→OH)=>(fun (j1_5:IV→Hp→OH)=>A2 EE 3 x0 (.fv (.int .i64 3)) fun x12=>Ak x12 (j1_5 x12 h2) (A2 EE 3 x0 (.fv (.int .i64 4)) fun x13=>Aec x13 j1_5 h2 x0)) fun x6 h7=>Aeg x6 x1 h7 j0_3 x0) fun h4=>Aq [.fv (.int .i64 0)] h4
theorem Ajo (ih:Aa) (n:Nat) (x0 x1:IV) (h2:Hp):AD EE ih ft.get n 88 [x0,x1] h2=S88 ih n x0 x1 h2:=by kernel_rfl
def Q3 (x13 x7:IV) (h6:Hp) (x10:IV) (h2:Hp) (x8 x9:IV) (q4:List IV→Hp→OH):OH :=
 Bw [.fv (.nilp),.fv (.nilp)] [(0,1,x13),(1,1,x7)] fun x15=>fzS (Kg true 93327363 x15) 93327363 x15 h6 fun x16 h17 _ _=>BH EE 3 x10 (.fv (.int .i64 1)) fun x20=>By (h2.own.map (·.1)) [93327363] [x16,x8,x9,x20] h17 fun h21=>q4 [x16,x8,x9,x20] h21
def Rk (x11 x8 x10:IV) (h6:Hp) (x7:IV) (h2:Hp) (x9:IV) (q4:List IV→Hp→OH):OH :=
 Ak x11 (Bc 1 x8 x10 fun x12=>Af x12 h6 fun x13 _=>Q3 x13 x7 h6 x10 h2 x8 x9 q4) (Aq [x7] h6)
def TN (l5:List IV) (h6 h2:Hp) (q4:List IV→Hp→OH):OH :=
 AC l5 fun x7 l22=>AC l22 fun x8 l23=>AC l23 fun x9 l24=>AC l24 fun x10 _=>He EE 3 x10 x9 fun x11=>Rk x11 x8 x10 h6 x7 h2 x9 q4
def S89 (ih:Aa) (n:Nat) (x0 x1:IV) (h2:Hp):OH :=
 Ca x1 fun x3=>By (h2.own.map (·.1)) [93327363] [x0,x1,x3,.fv (.int .i64 0)] h2 fun h26=>BK n (fun q4 l5 h6=>TN l5 h6 h2 q4) [x0,x1,x3,.fv (.int .i64 0)] h26
theorem Ajv (ih:Aa) (n:Nat) (x0 x1:IV) (h2:Hp):AD EE ih ft.get n 89 [x0,x1] h2=S89 ih n x0 x1 h2:=by kernel_rfl
end
noncomputable section
def dt:DT :=
 .node 53 (.node 31 (.node 21 (.node 16 (.node 14 (.leaf 12 (fun ih n=>LX (S12 ih n)))
 (.node 15 (.leaf 14 (fun ih n=>LK (S14 ih n)))
 (.leaf 15 (fun ih n=>Ha (S15 ih n)))))
 (.node 19 (.node 18 (.leaf 16 (fun ih n=>Ha (S16 ih n)))
 (.leaf 18 (fun ih n=>Ha (S18 ih n))))
 (.node 20 (.leaf 19 (fun ih n=>Ha (S19 ih n)))
 (.leaf 20 (fun ih n=>Ha (S20 ih n))))))
 (.node 26 (.node 24 (.node 22 (.leaf 21 (fun ih n=>E8 (S21 ih n)))
 (.leaf 22 (fun ih n=>Ha (S22 ih n))))
 (.node 25 (.leaf 24 (fun ih n=>Ha (S24 ih n)))
 (.leaf 25 (fun ih n=>Tx (S25 ih n)))))
 (.node 29 (.node 27 (.leaf 26 (fun ih n=>LX (S26 ih n)))
 (.leaf 27 (fun ih n=>E8 (S27 ih n))))
 (.node 30 (.leaf 29 (fun ih n=>Tx (S29 ih n)))
 (.leaf 30 (fun ih n=>Tx (S30 ih n)))))))
 (.node 43 (.node 35 (.node 33 (.node 32 (.leaf 31 (fun ih n=>Tx (S31 ih n)))
 (.leaf 32 (fun ih n=>LX (S32 ih n))))
 (.node 34 (.leaf 33 (fun ih n=>E8 (S33 ih n)))
 (.leaf 34 (fun ih n=>Ha (S34 ih n)))))
 (.node 37 (.node 36 (.leaf 35 (fun ih n=>Ha (S35 ih n)))
 (.leaf 36 (fun ih n=>Ha (S36 ih n))))
 (.node 42 (.leaf 37 (fun ih n=>E8 (S37 ih n)))
 (.leaf 42 (fun ih n=>LK (S42 ih n))))))
 (.node 49 (.node 47 (.node 46 (.leaf 43 (fun ih n=>Ha (S43 ih n)))
 (.leaf 46 (fun ih n=>Ha (S46 ih n))))
 (.node 48 (.leaf 47 (fun ih n=>E8 (S47 ih n)))
 (.leaf 48 (fun ih n=>LX (S48 ih n)))))
 (.node 51 (.node 50 (.leaf 49 (fun ih n=>Tx (S49 ih n)))
 (.leaf 50 (fun ih n=>Ha (S50 ih n))))
 (.node 52 (.leaf 51 (fun ih n=>LK (S51 ih n)))
 (.leaf 52 (fun ih n=>Tx (S52 ih n))))))))
 (.node 72 (.node 61 (.node 57 (.node 55 (.node 54 (.leaf 53 (fun ih n=>LX (S53 ih n)))
 (.leaf 54 (fun ih n=>Tx (S54 ih n))))
 (.node 56 (.leaf 55 (fun ih n=>E8 (S55 ih n)))
 (.leaf 56 (fun ih n=>LK (S56 ih n)))))
 (.node 59 (.node 58 (.leaf 57 (fun ih n=>Ha (S57 ih n)))
 (.leaf 58 (fun ih n=>E8 (S58 ih n))))
 (.node 60 (.leaf 59 (fun ih n=>LX (S59 ih n)))
 (.leaf 60 (fun ih n=>LX (S60 ih n))))))
 (.node 68 (.node 63 (.node 62 (.leaf 61 (fun ih n=>LX (S61 ih n)))
 (.leaf 62 (fun ih n=>LX (S62 ih n))))
 (.node 64 (.leaf 63 (fun ih n=>E8 (S63 ih n)))
 (.leaf 64 (fun ih n=>LX (S64 ih n)))))
 (.node 70 (.node 69 (.leaf 68 (fun ih n=>E8 (S68 ih n)))
 (.leaf 69 (fun ih n=>E8 (S69 ih n))))
 (.node 71 (.leaf 70 (fun ih n=>E8 (S70 ih n)))
 (.leaf 71 (fun ih n=>Ha (S71 ih n)))))))
 (.node 80 (.node 76 (.node 74 (.node 73 (.leaf 72 (fun ih n=>E8 (S72 ih n)))
 (.leaf 73 (fun ih n=>E8 (S73 ih n))))
 (.node 75 (.leaf 74 (fun ih n=>E8 (S74 ih n)))
 (.leaf 75 (fun ih n=>E8 (S75 ih n)))))
 (.node 78 (.node 77 (.leaf 76 (fun ih n=>E8 (S76 ih n)))
 (.leaf 77 (fun ih n=>Ha (S77 ih n))))
 (.node 79 (.leaf 78 (fun ih n=>E8 (S78 ih n)))
 (.leaf 79 (fun ih n=>E8 (S79 ih n))))))
 (.node 86 (.node 82 (.node 81 (.leaf 80 (fun ih n=>E8 (S80 ih n)))
 (.leaf 81 (fun ih n=>LX (S81 ih n))))
 (.node 83 (.leaf 82 (fun ih n=>Ha (S82 ih n)))
 (.leaf 83 (fun ih n=>E8 (S83 ih n)))))
 (.node 88 (.node 87 (.leaf 86 (fun ih n=>Ha (S86 ih n)))
 (.leaf 87 (fun ih n=>E8 (S87 ih n))))
 (.node 89 (.leaf 88 (fun ih n=>E8 (S88 ih n)))
 (.leaf 89 (fun ih n=>E8 (S89 ih n))))))))
theorem Amm:dt.Ok EE ft.get :=
 ⟨⟨⟨⟨⟨(fun ih n _ _ _ e=>E9 (F:=AD EE ih ft.get n 12) (Ai6 ih n) e),
 ⟨(fun ih n _ _ _ e=>RS (F:=AD EE ih ft.get n 14) (AkQ ih n) e),
 (fun ih n _ _ _ e=>Ci (F:=AD EE ih ft.get n 15) (Ajx ih n) e)⟩⟩,
 ⟨⟨(fun ih n _ _ _ e=>Ci (F:=AD EE ih ft.get n 16) (AjU ih n) e),
 (fun ih n _ _ _ e=>Ci (F:=AD EE ih ft.get n 18) (Alf ih n) e)⟩,
 ⟨(fun ih n _ _ _ e=>Ci (F:=AD EE ih ft.get n 19) (Ai1 ih n) e),
 (fun ih n _ _ _ e=>Ci (F:=AD EE ih ft.get n 20) (Aka ih n) e)⟩⟩⟩,
 ⟨⟨⟨(fun ih n _ _ _ e=>BU (F:=AD EE ih ft.get n 21) (AlM ih n) e),
 (fun ih n _ _ _ e=>Ci (F:=AD EE ih ft.get n 22) (Ajr ih n) e)⟩,
 ⟨(fun ih n _ _ _ e=>Ci (F:=AD EE ih ft.get n 24) (Ai9 ih n) e),
 (fun ih n _ _ _ e=>Jl (F:=AD EE ih ft.get n 25) (Ajf ih n) e)⟩⟩,
 ⟨⟨(fun ih n _ _ _ e=>E9 (F:=AD EE ih ft.get n 26) (Aj8 ih n) e),
 (fun ih n _ _ _ e=>BU (F:=AD EE ih ft.get n 27) (Ai2 ih n) e)⟩,
 ⟨(fun ih n _ _ _ e=>Jl (F:=AD EE ih ft.get n 29) (AlJ ih n) e),
 (fun ih n _ _ _ e=>Jl (F:=AD EE ih ft.get n 30) (Akn ih n) e)⟩⟩⟩⟩,
 ⟨⟨⟨⟨(fun ih n _ _ _ e=>Jl (F:=AD EE ih ft.get n 31) (Ako ih n) e),
 (fun ih n _ _ _ e=>E9 (F:=AD EE ih ft.get n 32) (Ak6 ih n) e)⟩,
 ⟨(fun ih n _ _ _ e=>BU (F:=AD EE ih ft.get n 33) (Akx ih n) e),
 (fun ih n _ _ _ e=>Ci (F:=AD EE ih ft.get n 34) (AkV ih n) e)⟩⟩,
 ⟨⟨(fun ih n _ _ _ e=>Ci (F:=AD EE ih ft.get n 35) (AkL ih n) e),
 (fun ih n _ _ _ e=>Ci (F:=AD EE ih ft.get n 36) (AjZ ih n) e)⟩,
 ⟨(fun ih n _ _ _ e=>BU (F:=AD EE ih ft.get n 37) (Alr ih n) e),
 (fun ih n _ _ _ e=>RS (F:=AD EE ih ft.get n 42) (AjQ ih n) e)⟩⟩⟩,
 ⟨⟨⟨(fun ih n _ _ _ e=>Ci (F:=AD EE ih ft.get n 43) (Ajs ih n) e),
 (fun ih n _ _ _ e=>Ci (F:=AD EE ih ft.get n 46) (AjY ih n) e)⟩,
 ⟨(fun ih n _ _ _ e=>BU (F:=AD EE ih ft.get n 47) (AiW ih n) e),
 (fun ih n _ _ _ e=>E9 (F:=AD EE ih ft.get n 48) (Aj6 ih n) e)⟩⟩,
 ⟨⟨(fun ih n _ _ _ e=>Jl (F:=AD EE ih ft.get n 49) (AlT ih n) e),
 (fun ih n _ _ _ e=>Ci (F:=AD EE ih ft.get n 50) (AkP ih n) e)⟩,
 ⟨(fun ih n _ _ _ e=>RS (F:=AD EE ih ft.get n 51) (AiT ih n) e),
 (fun ih n _ _ _ e=>Jl (F:=AD EE ih ft.get n 52) (AkW ih n) e)⟩⟩⟩⟩⟩,
 ⟨⟨⟨⟨⟨(fun ih n _ _ _ e=>E9 (F:=AD EE ih ft.get n 53) (Akl ih n) e),
 (fun ih n _ _ _ e=>Jl (F:=AD EE ih ft.get n 54) (AkD ih n) e)⟩,
 ⟨(fun ih n _ _ _ e=>BU (F:=AD EE ih ft.get n 55) (AlA ih n) e),
 (fun ih n _ _ _ e=>RS (F:=AD EE ih ft.get n 56) (Ajl ih n) e)⟩⟩,
 ⟨⟨(fun ih n _ _ _ e=>Ci (F:=AD EE ih ft.get n 57) (Ajm ih n) e),
 (fun ih n _ _ _ e=>BU (F:=AD EE ih ft.get n 58) (Alo ih n) e)⟩,
 ⟨(fun ih n _ _ _ e=>E9 (F:=AD EE ih ft.get n 59) (Akw ih n) e),
 (fun ih n _ _ _ e=>E9 (F:=AD EE ih ft.get n 60) (Ali ih n) e)⟩⟩⟩,
 ⟨⟨⟨(fun ih n _ _ _ e=>E9 (F:=AD EE ih ft.get n 61) (Alb ih n) e),
 (fun ih n _ _ _ e=>E9 (F:=AD EE ih ft.get n 62) (Aln ih n) e)⟩,
 ⟨(fun ih n _ _ _ e=>BU (F:=AD EE ih ft.get n 63) (Ajt ih n) e),
 (fun ih n _ _ _ e=>E9 (F:=AD EE ih ft.get n 64) (Aji ih n) e)⟩⟩,
 ⟨⟨(fun ih n _ _ _ e=>BU (F:=AD EE ih ft.get n 68) (AkE ih n) e),
 (fun ih n _ _ _ e=>BU (F:=AD EE ih ft.get n 69) (Ajw ih n) e)⟩,
 ⟨(fun ih n _ _ _ e=>BU (F:=AD EE ih ft.get n 70) (Alq ih n) e),
 (fun ih n _ _ _ e=>Ci (F:=AD EE ih ft.get n 71) (AlH ih n) e)⟩⟩⟩⟩,
 ⟨⟨⟨⟨(fun ih n _ _ _ e=>BU (F:=AD EE ih ft.get n 72) (All ih n) e),
 (fun ih n _ _ _ e=>BU (F:=AD EE ih ft.get n 73) (AjG ih n) e)⟩,
 ⟨(fun ih n _ _ _ e=>BU (F:=AD EE ih ft.get n 74) (AiX ih n) e),
 (fun ih n _ _ _ e=>BU (F:=AD EE ih ft.get n 75) (Ai8 ih n) e)⟩⟩,
 ⟨⟨(fun ih n _ _ _ e=>BU (F:=AD EE ih ft.get n 76) (Alm ih n) e),
 (fun ih n _ _ _ e=>Ci (F:=AD EE ih ft.get n 77) (Akv ih n) e)⟩,
 ⟨(fun ih n _ _ _ e=>BU (F:=AD EE ih ft.get n 78) (Aj5 ih n) e),
 (fun ih n _ _ _ e=>BU (F:=AD EE ih ft.get n 79) (AjS ih n) e)⟩⟩⟩,
 ⟨⟨⟨(fun ih n _ _ _ e=>BU (F:=AD EE ih ft.get n 80) (AlL ih n) e),
 (fun ih n _ _ _ e=>E9 (F:=AD EE ih ft.get n 81) (Alp ih n) e)⟩,
 ⟨(fun ih n _ _ _ e=>Ci (F:=AD EE ih ft.get n 82) (AkG ih n) e),
 (fun ih n _ _ _ e=>BU (F:=AD EE ih ft.get n 83) (AjE ih n) e)⟩⟩,
 ⟨⟨(fun ih n _ _ _ e=>Ci (F:=AD EE ih ft.get n 86) (AkU ih n) e),
 (fun ih n _ _ _ e=>BU (F:=AD EE ih ft.get n 87) (AjA ih n) e)⟩,
 ⟨(fun ih n _ _ _ e=>BU (F:=AD EE ih ft.get n 88) (Ajo ih n) e),
 (fun ih n _ _ _ e=>BU (F:=AD EE ih ft.get n 89) (Ajv ih n) e)⟩⟩⟩⟩⟩⟩
theorem AjV:∀n f args h x,SS dt n f args h=some x→run EE n f args h=some x:=Any Amx Amm
end
end Idl
end Go.Proofs.Ytbkdidonegggdaa

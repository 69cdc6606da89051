/-
  Texts of a proof, part 9: an ideal semantics of the program, its functions in shallow form, contracts of them. No statement of the seat is proved here.
-/
import Derived.Test.YtkfecngimlcfoaaStagePlainK8
set_option linter.all false
noncomputable section
set_option maxRecDepth 100000
set_option linter.unusedVariables false
namespace Go.Proofs.Ytkfecngimlcfoaa
namespace Idl
noncomputable section
def HL (h5:Hp):OH :=
 Bw [.fv (.int .i64 0),.fv (.int .i64 0),.nils,.nils,.fv (.int .i64 0),.fv (.int .i64 0),.nils] [(0,1,.fv (.int .i64 11))] fun x13=>AX 65013761 x13 h5 fun x14 h15 _ _=>Al [x14] h15
def Iw (h5:Hp) (x33:IV):OH :=
 Ae x33 h5 fun x34 _=>Al [x34] h5
def HQ (x27 x4:IV) (h5:Hp) (x2:IV):OH :=
 Bd EE 3 x27 (.fv (.int .i64 1)) fun x28=>Ab 1 x4 fun x29=>Ae x29 h5 fun x30 _=>Bd EE 3 x28 x30 fun x32=>AT 1 x2 x32 fun x33=>Iw h5 x33
def HS (h5:Hp) (x42:IV):OH :=
 AX 65017863 x42 h5 fun x43 h44 _ _=>Al [x43] h44
def IY (x36 x4:IV) (h5:Hp):OH :=
 Bd EE 3 x36 (.fv (.int .i64 1)) fun x37=>Ab 1 x4 fun x38=>Ae x38 h5 fun x39 _=>Bd EE 3 x37 x39 fun x41=>Bw [.fv (.int .i64 0),.fv (.int .i64 0),.nils,.nils,.fv (.int .i64 0),.fv (.int .i64 0),.nils] [(0,1,.fv (.int .i64 1)),(1,1,x41)] fun x42=>HS h5 x42
def IT (h5:Hp) (x22 x2 x4:IV):OH :=
 Ae x22 h5 fun x23 _=>B0 x2 fun x25=>F8 EE 3 x23 x25 fun x26=>Ai x26 (B0 x2 fun x27=>HQ x27 x4 h5 x2) (B0 x2 fun x36=>IY x36 x4 h5)
def I3 (x65:IV) (h3 h72:Hp) (x61 x62 x63 x64:IV) (q58:List IV→Hp→OH):OH :=
 Bp EE 3 x65 (.fv (.int .i64 1)) fun x73=>Bs (h3.own.map (·.1)) [65024012,65024014,65025038] [x61,x62,x63,x64,x73] h72 fun h74=>q58 [x61,x62,x63,x64,x73] h74
def Ij (x64:IV) (h103:Hp) (x102:IV) (j0_71:Hp→OH):OH :=
 AH x64 fun x106=>Ab 2 x106 fun x107=>A9 x107 x102 h103 fun h108 r109 w110=>Ad [] r109 w110 (j0_71 h108)
def HO (r96 w97 r86:AC) (h95:Hp) (x94 x85 x64:IV) (j0_71:Hp→OH):OH :=
 Ad [(r86,[])] r96 w97 (Ay (Ak EE 114 1 [(0,x94)]) 65024013 h95 fun x98 h99 r100 w101=>Ad [(r86,[])] r100 w101 (Ay (AS EE 65024014 false .append [114,114] [x85,x98]) 65024014 h99 fun x102 h103 r104 w105=>Ad [] r104 w105 (Ij x64 h103 x102 j0_71)))
def IL (x88 x65:IV) (h79:Hp) (r86:AC) (x62 x85 x64:IV) (j0_71:Hp→OH):OH :=
 AT 3 x88 x65 fun x90=>Ag 3 x90 h79 fun x91 r92=>Ad [(r86,[])] r92 [] (Bw [.fv (.int .i64 0),.fv (.int .i64 0),.nils,.nils,.fv (.int .i64 0),.fv (.int .i64 0),.nils] [(3,1,x62),(4,3,x91)] fun x93=>AX 65024012 x93 h79 fun x94 h95 r96 w97=>HO r96 w97 r86 h95 x94 x85 x64 j0_71)
def HK (h79:Hp) (x84 x63 x65 x62 x64:IV) (j0_71:Hp→OH):OH :=
 Ae x84 h79 fun x85 r86=>Ad [] r86 [] (Ab 2 x63 fun x87=>Ae x87 h79 fun x88 r89=>Ad [(r86,[])] r89 [] (IL x88 x65 h79 r86 x62 x85 x64 j0_71))
def II (x133:IV) (h130:Hp) (x129:IV) (j0_71:Hp→OH):OH :=
 Ab 2 x133 fun x134=>A9 x134 x129 h130 fun h135 r136 w137=>Ad [] r136 w137 (j0_71 h135)
def Iq (h122:Hp) (x121:IV) (r114:AC) (x113 x64:IV) (j0_71:Hp→OH):OH :=
 Ay (Ak EE 114 1 [(0,x121)]) 65025037 h122 fun x125 h126 r127 w128=>Ad [(r114,[])] r127 w128 (Ay (AS EE 65025038 false .append [114,114] [x113,x125]) 65025038 h126 fun x129 h130 r131 w132=>Ad [] r131 w132 (AH x64 fun x133=>II x133 h130 x129 j0_71))
def IW (x116 x65:IV) (h79:Hp) (r114:AC) (ih:Aa) (x61 x62 x113 x64:IV) (j0_71:Hp→OH):OH :=
 AT 3 x116 x65 fun x118=>Ag 3 x118 h79 fun x119 r120=>Ad [(r114,[])] r120 [] (Ah [true,false,false] false false ih 62 [x61,x119,x62] h79 fun x121 h122 r123 w124=>Ad [(r114,[])] r123 w124 (Iq h122 x121 r114 x113 x64 j0_71))
def H7 (h79:Hp) (x112 x63 x65:IV) (ih:Aa) (x61 x62 x64:IV) (j0_71:Hp→OH):OH :=
 Ae x112 h79 fun x113 r114=>Ad [] r114 [] (Ab 2 x63 fun x115=>Ae x115 h79 fun x116 r117=>Ad [(r114,[])] r117 [] (IW x116 x65 h79 r114 ih x61 x62 x113 x64 j0_71))
def HP (x82 x64:IV) (h79:Hp) (x63 x65 x62:IV) (j0_71:Hp→OH) (ih:Aa) (x61:IV):OH :=
 Ai x82 (AH x64 fun x83=>Ab 2 x83 fun x84=>HK h79 x84 x63 x65 x62 x64 j0_71) (AH x64 fun x111=>Ab 2 x111 fun x112=>H7 h79 x112 x63 x65 ih x61 x62 x64 j0_71)
def Ih (x65:IV) (h3:Hp) (x61 x62 x63 x64:IV) (q58:List IV→Hp→OH) (h60:Hp) (ih:Aa):OH :=
 (fun (j0_71:Hp→OH)=>Ab 0 x63 fun x75=>Ae x75 h60 fun x76 _=>Ah [] false false ih 54 [x76,x65] h60 fun x78 h79 _ _=>Ke EE 3 x78 (.fv (.int .i64 0)) fun x82=>HP x82 x64 h79 x63 x65 x62 j0_71 ih x61) fun h72=>I3 x65 h3 h72 x61 x62 x63 x64 q58
def HY (ih:Aa) (h60:Hp) (x61 x64:IV):OH :=
 Ah [true,false] false false ih 88 [x61,x64] h60 fun x138 h139 _ _=>Al [x138] h139
def HU (x63:IV) (h60:Hp) (x65:IV) (h3:Hp) (x61 x62 x64:IV) (q58:List IV→Hp→OH) (ih:Aa):OH :=
 Ab 2 x63 fun x66=>Ae x66 h60 fun x67 _=>B0 x67 fun x69=>F8 EE 3 x65 x69 fun x70=>Ai x70 (Ih x65 h3 x61 x62 x63 x64 q58 h60 ih) (HY ih h60 x61 x64)
def AaC (l59:List IV) (h60 h3:Hp) (q58:List IV→Hp→OH) (ih:Aa):OH :=
 AA l59 fun x61 l142=>AA l142 fun x62 l143=>AA l143 fun x63 l144=>AA l144 fun x64 l145=>AA l145 fun x65 _=>HU x63 h60 x65 h3 x61 x62 x64 q58 ih
def IR (h3 h55:Hp) (x0 x2 x4 x54:IV) (n:Nat) (ih:Aa):OH :=
 Bs (h3.own.map (·.1)) [65024012,65024014,65025038] [x0,x2,x4,x54,.fv (.int .i64 0)] h55 fun h147=>By n (fun q58 l59 h60=>AaC l59 h60 h3 q58 ih) [x0,x2,x4,x54,.fv (.int .i64 0)] h147
def HT (h5:Hp) (x47 x4:IV) (h3:Hp) (x0 x2:IV) (n:Nat) (ih:Aa):OH :=
 Ae x47 h5 fun x48 _=>Ab 1 x4 fun x50=>Ae x50 h5 fun x51 _=>Bw [.fv (.int .i64 0),.fv (.int .i64 0),.nils,.nils,.fv (.int .i64 0),.fv (.int .i64 0),.nils] [(0,1,x48),(1,1,x51)] fun x53=>AX 65018885 x53 h5 fun x54 h55 _ _=>IR h3 h55 x0 x2 x4 x54 n ih
def Is (x4:IV) (h5:Hp) (x2:IV) (h3:Hp) (x0:IV) (n:Nat) (ih:Aa):OH :=
 Ab 0 x4 fun x18=>Ae x18 h5 fun x19 _=>AN EE 3 x19 (.fv (.int .i64 1)) fun x21=>Ai x21 (Ab 1 x4 fun x22=>IT h5 x22 x2 x4) (Ab 0 x4 fun x47=>HT h5 x47 x4 h3 x0 x2 n ih)
def S62 (ih:Aa) (n:Nat) (x0 x1 x2:IV) (h3:Hp):OH :=
 AX 65011712 x1 h3 fun x4 h5 _ _=>AH x0 fun x8=>Ab 2 x8 fun x9=>Ae x9 h5 fun x10 _=>Ch EE 3 x10 (.fv (.int .i64 0)) fun x12=>Ai x12 (HL h5) (Is x4 h5 x2 h3 x0 n ih)
theorem ApL (ih:Aa) (n:Nat) (x0 x1 x2:IV) (h3:Hp):Aw EE ih ft.get n 62 [x0,x1,x2] h3=S62 ih n x0 x1 x2 h3:=by kernel_rfl
def KP (ih:Aa) (h59:Hp) (x23 x67 x69 x26:IV) (q20:List IV→Hp→OH) (x24 x25:IV):OH :=
 Ah [true,false,false] false false ih 63 [x23,x67,x69] h59 fun _ h71 _ _=>Bp EE 3 x26 (.fv (.int .i64 1)) fun x74=>q20 [x23,x24,x25,x74] h71
def JF (x25:IV) (h59:Hp) (x26 x24:IV) (ih:Aa) (x23:IV) (q20:List IV→Hp→OH):OH :=
 Ab 2 x25 fun x63=>Ae x63 h59 fun x64 _=>AT 3 x64 x26 fun x66=>Ag 3 x66 h59 fun x67 _=>Bp EE 3 x24 (.fv (.int .i64 1)) fun x69=>KP ih h59 x23 x67 x69 x26 q20 x24 x25
def KT (h40:Hp) (x31 x39 x25 x26 x24:IV) (ih:Aa) (x23:IV) (q20:List IV→Hp→OH):OH :=
 Ac x31 true h40 (fun k43=>Ab 1 x39 fun x44=>k43 x44 h40 [] []) fun x45 h46 _ _=>Ac x31 true h46 (fun k49=>Ae x45 h46 fun x50 r51=>k49 x50 h46 r51 []) fun x52 h53 _ _=>Ac x31 true h53 (fun k56=>AN EE 3 x52 (.fv (.int .i64 0)) fun x57=>k56 x57 h53 [] []) fun x58 h59 _ _=>AI x31 x58 (.fv (.bool false)) fun x62=>Ai x62 (JF x25 h59 x26 x24 ih x23 q20) (Al [] h59)
def K5 (h22:Hp) (x27 x26 x23 x25 x24:IV) (ih:Aa) (q20:List IV→Hp→OH):OH :=
 Ae x27 h22 fun x28 _=>B0 x28 fun x30=>F8 EE 3 x26 x30 fun x31=>Ac x31 true h22 (fun k32=>k32 x23 h22 [] []) fun x33 h34 _ _=>Ac x31 true h34 (fun k37=>AH x33 fun x38=>k37 x38 h34 [] []) fun x39 h40 _ _=>KT h40 x31 x39 x25 x26 x24 ih x23 q20
def JL (l21:List IV) (h22:Hp) (ih:Aa) (q20:List IV→Hp→OH):OH :=
 AA l21 fun x23 l75=>AA l75 fun x24 l76=>AA l76 fun x25 l77=>AA l77 fun x26 _=>Ab 2 x25 fun x27=>K5 h22 x27 x26 x23 x25 x24 ih q20
def KW (n:Nat) (h19:Hp) (x0 x2 x4:IV) (ih:Aa):OH :=
 By n (fun q20 l21 h22=>JL l21 h22 ih q20) [x0,x2,x4,.fv (.int .i64 0)] h19
def Kl (h92:Hp) (x97:IV) (j0_18:Hp→OH):OH :=
 A9 x97 (.fv (.int .i64 5)) h92 fun h98 _ _=>j0_18 h98
def Ku (x151:IV) (h147:Hp) (j0_18:Hp→OH):OH :=
 Ab 1 x151 fun x152=>A9 x152 (.fv (.int .i64 1)) h147 fun h153 _ _=>j0_18 h153
def Kc (r142 w143:AC) (h141:Hp) (x112 x140 x0:IV) (j0_18:Hp→OH):OH :=
 Ad [] r142 w143 (Ac x112 false h141 (fun k144=>CL (LR .not x140) fun x145=>k144 x145 h141 [] []) fun x146 h147 _ _=>AI x112 (.fv (.bool true)) x146 fun x150=>Ai x150 (AH x0 fun x151=>Ku x151 h147 j0_18) (j0_18 h147))
def JT (r124 w125:AC) (h123:Hp) (x112 x4:IV) (ih:Aa) (x122 x0:IV) (j0_18:Hp→OH):OH :=
 Ad [] r124 w125 (Ac x112 false h123 (fun k126=>Ab 1 x4 fun x127=>k126 x127 h123 [] []) fun x128 h129 _ _=>Ac x112 false h129 (fun k132=>Ae x128 h129 fun x133 r134=>k132 x133 h129 r134 []) fun x135 h136 r137 w138=>Ad [(r124,w125)] r137 w138 (Ac x112 false h136 (fun k139=>Ah [] false false ih 89 [x122,x135] h136 k139) fun x140 h141 r142 w143=>Kc r142 w143 h141 x112 x140 x0 j0_18))
def JE (r110 r106 w107 r103:AC) (x109 x104:IV) (h105:Hp) (x4:IV) (ih:Aa) (x0:IV) (j0_18:Hp→OH):OH :=
 Ad [(r106,w107),(r103,[])] r110 [] (B0 x109 fun x111=>Ch EE 3 x104 x111 fun x112=>Ac x112 false h105 (fun k113=>Ab 0 x4 fun x114=>k113 x114 h105 [] []) fun x115 h116 _ _=>Ac x112 false h116 (fun k119=>Ae x115 h116 fun x120 r121=>k119 x120 h116 r121 []) fun x122 h123 r124 w125=>JT r124 w125 h123 x112 x4 ih x122 x0 j0_18)
def KA (r103:AC) (ih:Aa) (h92:Hp) (x102 x4 x0:IV) (j0_18:Hp→OH):OH :=
 Ad [] r103 [] (Ah [] false false ih 52 [x102] h92 fun x104 h105 r106 w107=>Ad [] r106 w107 (Ab 2 x4 fun x108=>Ae x108 h105 fun x109 r110=>JE r110 r106 w107 r103 x109 x104 h105 x4 ih x0 j0_18))
def Kf (x95 x0:IV) (h92:Hp) (j0_18:Hp→OH) (x4:IV) (ih:Aa):OH :=
 Ai x95 (AH x0 fun x96=>Ab 1 x96 fun x97=>Kl h92 x97 j0_18) (Ab 0 x4 fun x101=>Ae x101 h92 fun x102 r103=>KA r103 ih h92 x102 x4 x0 j0_18)
def Kh (h15:Hp) (x80 x2 x0:IV) (j0_18:Hp→OH) (x4:IV) (ih:Aa):OH :=
 Ae x80 h15 fun x81 _=>Ke EE 3 x81 (.fv (.int .i64 3000)) fun x83=>Ac x83 false h15 (fun k84=>k84 x2 h15 [] []) fun x85 h86 _ _=>Ac x83 false h86 (fun k89=>Ke EE 3 x85 (.fv (.int .i64 120)) fun x90=>k89 x90 h86 [] []) fun x91 h92 _ _=>AI x83 (.fv (.bool true)) x91 fun x95=>Kf x95 x0 h92 j0_18 x4 ih
def JR (x13:IV) (h5:Hp) (x12:IV) (n:Nat) (x0 x2 x4:IV) (ih:Aa):OH :=
 Ab 0 x13 fun x14=>A9 x14 x12 h5 fun h15 _ _=>(fun (j0_18:Hp→OH)=>AH x0 fun x79=>Ab 0 x79 fun x80=>Kh h15 x80 x2 x0 j0_18 x4 ih) fun h19=>KW n h19 x0 x2 x4 ih
def S63 (ih:Aa) (n:Nat) (x0 x1 x2:IV) (h3:Hp):OH :=
 AX 66060288 x1 h3 fun x4 h5 _ _=>AH x0 fun x8=>Ab 0 x8 fun x9=>Ae x9 h5 fun x10 _=>Bp EE 3 x10 (.fv (.int .i64 1)) fun x12=>AH x0 fun x13=>JR x13 h5 x12 n x0 x2 x4 ih
theorem AqA (ih:Aa) (n:Nat) (x0 x1 x2:IV) (h3:Hp):Aw EE ih ft.get n 63 [x0,x1,x2] h3=S63 ih n x0 x1 x2 h3:=by kernel_rfl
def S64 (ih:Aa) (n:Nat) (h0:Hp):OH :=
 AD 67108864 (.row [.fv (.int .i64 0),.fv (.int .i64 0),.nils] false) (.ptr (.own 67108864) 0) h0 fun x1 h2 _ _=>Ah [] false false ih 24 [.fv (.int .i64 10),.nils] h2 fun x5 h6 _ _=>Af 3 x1 x5 h6 fun h9 _ _=>As true 3 x1 h9 fun x12=>Al [x12] h9
theorem AnD (ih:Aa) (n:Nat) (h0:Hp):Aw EE ih ft.get n 64 [] h0=S64 ih n h0:=by kernel_rfl
def JU (x48 x132:IV) (h133:Hp) (x13 x127:IV):OH :=
 AI x48 x132 (.fv (.bool false)) fun x136=>Af 3 x13 x127 h133 fun h137 _ _=>As true 3 x13 h137 fun x140=>Al [x140,x136] h137
def Kz (h106:Hp) (x109 x111 x113:IV) (ih:Aa) (x48 x78 x13:IV):OH :=
 Ay (Ak EE 28 3 [(0,x109),(1,x111),(2,x113)]) 68163587 h106 fun x115 h116 _ _=>Ah [] false false ih 24 [.fv (.int .i64 7),x115] h116 fun x119 h120 _ _=>Ay (Ak EE 28 1 [(0,x119)]) 68163589 h120 fun x123 h124 _ _=>Ah [] false false ih 24 [.fv (.int .i64 8),x123] h124 fun x127 h128 _ _=>Ac x48 true h128 (fun k131=>k131 x78 h128 [] []) fun x132 h133 _ _=>JU x48 x132 h133 x13 x127
def Kv (h103:Hp) (x102 x98 x79 x49:IV) (ih:Aa) (x48 x78 x13:IV):OH :=
 Af 3 x102 x98 h103 fun h106 r107 w108=>Ad [] r107 w108 (Ag 3 x102 h106 fun x109 _=>Ag 3 x79 h106 fun x111 _=>Ag 3 x49 h106 fun x113 _=>Kz h106 x109 x111 x113 ih x48 x78 x13)
def Ki (r96 w97:AC) (ih:Aa) (h95:Hp) (x94:IV) (r92 w93 r89 r87:AC) (x79 x49 x48 x78 x13:IV):OH :=
 Ad [] r96 w97 (Ah [] false false ih 24 [.fv (.int .i64 6),x94] h95 fun x98 h99 r100 w101=>Ad [] r100 w101 (AD 68162565 (.row [.fv (.int .i64 0),.fv (.int .i64 0),.nils] false) (.ptr (.own 68162565) 0) h99 fun x102 h103 r104 w105=>Ad [(r100,w101),(r96,w97),(r92,w93),(r89,[]),(r87,[])] r104 w105 (Kv h103 x102 x98 x79 x49 ih x48 x78 x13)))
def Ky (h83:Hp) (x27:IV) (r87:AC) (ih:Aa) (x86 x79 x49 x48 x78 x13:IV):OH :=
 Ag 3 x27 h83 fun x88 r89=>Ad [(r87,[])] r89 [] (Ah [] false false ih 45 [x88,.fv (.int .i64 1),.fv (.int .i64 0)] h83 fun x90 h91 r92 w93=>Ad [(r87,[])] r92 w93 (Ay (Ak EE 28 2 [(0,x86),(1,x90)]) 68162563 h91 fun x94 h95 r96 w97=>Ki r96 w97 ih h95 x94 r92 w93 r89 r87 x79 x49 x48 x78 x13))
def K2 (r81 w82 r75 w76 r70 w71 r67 r65:AC) (h80:Hp) (x79 x77 x5 x27:IV) (ih:Aa) (x49 x48 x78 x13:IV):OH :=
 Ad [(r75,w76),(r70,w71),(r67,[]),(r65,[])] r81 w82 (Af 3 x79 x77 h80 fun h83 r84 w85=>Ad [] r84 w85 (Ag 3 x5 h83 fun x86 r87=>Ad [] r87 [] (Ky h83 x27 r87 ih x86 x79 x49 x48 x78 x13)))
def KQ (ih:Aa) (h69:Hp) (x0 x64 x68 x72:IV) (r70 w71 r67 r65:AC) (x5 x27 x49 x48 x13:IV):OH :=
 Ah [] false false ih 39 [x0,x64,x68,x72] h69 fun x73 h74 r75 w76=>Ad [] r75 w76 (Ar 0 x73 fun x77=>Ar 1 x73 fun x78=>AD 68161546 (.row [.fv (.int .i64 0),.fv (.int .i64 0),.nils] false) (.ptr (.own 68161546) 0) h74 fun x79 h80 r81 w82=>K2 r81 w82 r75 w76 r70 w71 r67 r65 h80 x79 x77 x5 x27 ih x49 x48 x78 x13)
def J0 (h60:Hp) (x9:IV) (r65:AC) (ih:Aa) (x3 x0 x64 x5 x27 x49 x48 x13:IV):OH :=
 Ag 3 x9 h60 fun x66 r67=>Ad [(r65,[])] r67 [] (Ah [] false false ih 56 [x66,.fv (.int .i64 2)] h60 fun x68 h69 r70 w71=>Ad [(r65,[])] r70 w71 (Bd EE 3 x3 (.fv (.int .i64 2)) fun x72=>KQ ih h69 x0 x64 x68 x72 r70 w71 r67 r65 x5 x27 x49 x48 x13))
def KN (h197:Hp) (x13 x191 x200:IV):OH :=
 Af 3 x13 x191 h197 fun h201 r202 w203=>Ad [] r202 w203 (As true 3 x13 h201 fun x204=>Al [x204,x200] h201)
def Kg (r189 w190:AC) (ih:Aa) (h188:Hp) (x187 x48 x165 x13:IV):OH :=
 Ad [] r189 w190 (Ah [] false false ih 24 [.fv (.int .i64 5),x187] h188 fun x191 h192 r193 w194=>Ad [] r193 w194 (Ac x48 true h192 (fun k195=>k195 x165 h192 [] []) fun x196 h197 _ _=>AI x48 x196 (.fv (.bool false)) fun x200=>KN h197 x13 x191 x200))
def Kb (ih:Aa) (h178:Hp) (x177 x49:IV) (r179 w180 r176 r174:AC) (x48 x165 x13:IV):OH :=
 Ah [] false false ih 24 [.fv (.int .i64 4),x177] h178 fun x181 h182 r183 w184=>Ad [] r183 w184 (Ag 3 x49 h182 fun x185 r186=>Ad [(r183,w184),(r179,w180),(r176,[]),(r174,[])] r186 [] (Ay (Ak EE 28 2 [(0,x181),(1,x185)]) 68165637 h182 fun x187 h188 r189 w190=>Kg r189 w190 ih h188 x187 x48 x165 x13))
def KJ (r174:AC) (h170:Hp) (x166 x173:IV) (ih:Aa) (x49 x48 x165 x13:IV):OH :=
 Ad [] r174 [] (Ag 3 x166 h170 fun x175 r176=>Ad [(r174,[])] r176 [] (Ay (Ak EE 28 2 [(0,x173),(1,x175)]) 68165634 h170 fun x177 h178 r179 w180=>Ad [] r179 w180 (Kb ih h178 x177 x49 r179 w180 r176 r174 x48 x165 x13)))
def JV (h161:Hp) (r162 w163 r157 w158 r154 r151 w152 r148 r145 w146 r142:AC) (x164 x27:IV) (ih:Aa) (x49 x48 x165 x13:IV):OH :=
 AD 68164621 (.row [.fv (.int .i64 0),.fv (.int .i64 0),.nils] false) (.ptr (.own 68164621) 0) h161 fun x166 h167 r168 w169=>Ad [(r162,w163),(r157,w158),(r154,[]),(r151,w152),(r148,[]),(r145,w146),(r142,[])] r168 w169 (Af 3 x166 x164 h167 fun h170 r171 w172=>Ad [] r171 w172 (Ag 3 x27 h170 fun x173 r174=>KJ r174 h170 x166 x173 ih x49 x48 x165 x13))
def KX (x3:IV) (ih:Aa) (h156:Hp) (x143 x149 x155:IV) (r157 w158 r154 r151 w152 r148 r145 w146 r142:AC) (x27 x49 x48 x13:IV):OH :=
 Bd EE 3 x3 (.fv (.int .i64 2)) fun x159=>Ah [] false false ih 39 [x143,x149,x155,x159] h156 fun x160 h161 r162 w163=>Ad [] r162 w163 (Ar 0 x160 fun x164=>Ar 1 x160 fun x165=>JV h161 r162 w163 r157 w158 r154 r151 w152 r148 r145 w146 r142 x164 x27 ih x49 x48 x165 x13)
def KI (r151 w152:AC) (h150:Hp) (x9:IV) (r148 r145 w146 r142:AC) (ih:Aa) (x3 x143 x149 x27 x49 x48 x13:IV):OH :=
 Ad [] r151 w152 (Ag 3 x9 h150 fun x153 r154=>Ad [(r151,w152),(r148,[]),(r145,w146),(r142,[])] r154 [] (Ah [] false false ih 56 [x153,.fv (.int .i64 2)] h150 fun x155 h156 r157 w158=>Ad [] r157 w158 (KX x3 ih h156 x143 x149 x155 r157 w158 r154 r151 w152 r148 r145 w146 r142 x27 x49 x48 x13)))
def Kq (ih:Aa) (h60:Hp) (x0 x141 x5:IV) (r142:AC) (x9 x3 x27 x49 x48 x13:IV):OH :=
 Ah [] false false ih 60 [x0,.fv (.int .i64 1),x141] h60 fun x143 h144 r145 w146=>Ad [] r145 w146 (Ag 3 x5 h144 fun x147 r148=>Ad [(r145,w146),(r142,[])] r148 [] (Ah [] false false ih 45 [x147,.fv (.int .i64 1),.fv (.int .i64 0)] h144 fun x149 h150 r151 w152=>KI r151 w152 h150 x9 r148 r145 w146 r142 ih x3 x143 x149 x27 x49 x48 x13))
def JZ (x59:IV) (h60:Hp) (x5 x9:IV) (ih:Aa) (x3 x0 x27 x49 x48 x13:IV):OH :=
 AN EE 3 x59 (.fv (.int .i64 0)) fun x63=>Ai x63 (Ag 3 x5 h60 fun x64 r65=>Ad [] r65 [] (J0 h60 x9 r65 ih x3 x0 x64 x5 x27 x49 x48 x13)) (Ag 3 x27 h60 fun x141 r142=>Ad [] r142 [] (Kq ih h60 x0 x141 x5 r142 x9 x3 x27 x49 x48 x13))
def K7 (h50:Hp) (x49 x47 x9:IV) (ih:Aa) (x5 x3 x0 x27 x48 x13:IV):OH :=
 Af 3 x49 x47 h50 fun h53 r54 w55=>Ad [] r54 w55 (Ab 1 x9 fun x56=>Ae x56 h53 fun x57 _=>Ah [] false false ih 55 [x57,.fv (.int .i64 3)] h53 fun x59 h60 _ _=>JZ x59 h60 x5 x9 ih x3 x0 x27 x49 x48 x13)
def KK (r45 w46:AC) (x43:IV) (h44:Hp) (r40 w41 r37 r35:AC) (x9:IV) (ih:Aa) (x5 x3 x0 x27 x13:IV):OH :=
 Ad [] r45 w46 (Ar 0 x43 fun x47=>Ar 1 x43 fun x48=>AD 68159498 (.row [.fv (.int .i64 0),.fv (.int .i64 0),.nils] false) (.ptr (.own 68159498) 0) h44 fun x49 h50 r51 w52=>Ad [(r45,w46),(r40,w41),(r37,[]),(r35,[])] r51 w52 (K7 h50 x49 x47 x9 ih x5 x3 x0 x27 x48 x13))
def J4 (r37 r35:AC) (ih:Aa) (h31:Hp) (x36 x3 x0 x34 x9 x5 x27 x13:IV):OH :=
 Ad [(r35,[])] r37 [] (Ah [] false false ih 56 [x36,.fv (.int .i64 1)] h31 fun x38 h39 r40 w41=>Ad [(r35,[])] r40 w41 (Bd EE 3 x3 (.fv (.int .i64 2)) fun x42=>Ah [] false false ih 39 [x0,x34,x38,x42] h39 fun x43 h44 r45 w46=>KK r45 w46 x43 h44 r40 w41 r37 r35 x9 ih x5 x3 x0 x27 x13))
def Kw (h24:Hp) (x23 x9:IV) (ih:Aa) (x3 x0 x5 x13:IV):OH :=
 AD 68158468 (.row [.fv (.int .i64 0),.fv (.int .i64 0),.nils] false) (.ptr (.own 68158468) 0) h24 fun x27 h28 _ _=>Af 3 x27 x23 h28 fun h31 _ _=>Ag 3 x27 h31 fun x34 r35=>Ad [] r35 [] (Ag 3 x9 h31 fun x36 r37=>J4 r37 r35 ih h31 x36 x3 x0 x34 x9 x5 x27 x13)
def S65 (ih:Aa) (n:Nat) (x0 x1 x2 x3:IV) (h4:Hp):OH :=
 AX 68157440 x1 h4 fun x5 h6 _ _=>AX 68157441 x2 h6 fun x9 h10 _ _=>AD 68157442 (.row [.fv (.int .i64 0),.fv (.int .i64 0),.nils] false) (.ptr (.own 68157442) 0) h10 fun x13 h14 _ _=>Ag 3 x9 h14 fun x17 _=>Ah [] false false ih 56 [x17,.fv (.int .i64 0)] h14 fun x19 h20 _ _=>Ah [] false false ih 38 [x0,x19,.fv (.int .i64 1)] h20 fun x23 h24 _ _=>Kw h24 x23 x9 ih x3 x0 x5 x13
theorem AoK (ih:Aa) (n:Nat) (x0 x1 x2 x3:IV) (h4:Hp):Aw EE ih ft.get n 65 [x0,x1,x2,x3] h4=S65 ih n x0 x1 x2 x3 h4:=by kernel_rfl
def Zo (r186 w187:AC) (h185:Hp) (x13 x184:IV):OH :=
 Ad [] r186 w187 (As true 3 x13 h185 fun x188=>Al [x188,x184] h185)
def Xc (h170:Hp) (x79 x101 x145 x13 x169:IV):OH :=
 Ac x79 true h170 (fun k173=>k173 x101 h170 [] []) fun x174 h175 _ _=>AI x79 x174 (.fv (.bool false)) fun x178=>Ac x178 true h175 (fun k179=>k179 x145 h175 [] []) fun x180 h181 _ _=>AI x178 x180 (.fv (.bool false)) fun x184=>Af 3 x13 x169 h181 fun h185 r186 w187=>Zo r186 w187 h185 x13 x184
def AaO (r164 r162 r160 r157 w158 r154:AC) (h156:Hp) (x155 x159 x161 x163:IV) (ih:Aa) (x79 x101 x145 x13:IV):OH :=
 Ad [(r162,[]),(r160,[]),(r157,w158),(r154,[])] r164 [] (Ay (Ak EE 28 4 [(0,x155),(1,x159),(2,x161),(3,x163)]) 69211141 h156 fun x165 h166 r167 w168=>Ad [] r167 w168 (Ah [] false false ih 24 [.fv (.int .i64 13),x165] h166 fun x169 h170 r171 w172=>Ad [] r171 w172 (Xc h170 x79 x101 x145 x13 x169)))
def XT (h156:Hp) (x102:IV) (r157 w158 r154:AC) (x146 x80 x155:IV) (ih:Aa) (x79 x101 x145 x13:IV):OH :=
 Ag 3 x102 h156 fun x159 r160=>Ad [(r157,w158),(r154,[])] r160 [] (Ag 3 x146 h156 fun x161 r162=>Ad [(r160,[]),(r157,w158),(r154,[])] r162 [] (Ag 3 x80 h156 fun x163 r164=>AaO r164 r162 r160 r157 w158 r154 h156 x155 x159 x161 x163 ih x79 x101 x145 x13))
def Aa9 (r151 w152:AC) (h150:Hp) (x5:IV) (ih:Aa) (x102 x146 x80 x79 x101 x145 x13:IV):OH :=
 Ad [] r151 w152 (Ag 3 x5 h150 fun x153 r154=>Ad [] r154 [] (Ah [] false false ih 45 [x153,.fv (.int .i64 1),.fv (.int .i64 0)] h150 fun x155 h156 r157 w158=>Ad [] r157 w158 (XT h156 x102 r157 w158 r154 x146 x80 x155 ih x79 x101 x145 x13)))
def Abp (x140:IV) (h141:Hp) (r142 w143 r137 w138 r134 r131 w132 r128 r125 w126 r121 w122 r118 r115 w116 r111 w112:AC) (x5:IV) (ih:Aa) (x102 x80 x79 x101 x13:IV):OH :=
 Ar 0 x140 fun x144=>Ar 1 x140 fun x145=>AD 69210128 (.row [.fv (.int .i64 0),.fv (.int .i64 0),.nils] false) (.ptr (.own 69210128) 0) h141 fun x146 h147 r148 w149=>Ad [(r142,w143),(r137,w138),(r134,[]),(r131,w132),(r128,[]),(r125,w126),(r121,w122),(r118,[]),(r115,w116),(r111,w112)] r148 w149 (Af 3 x146 x144 h147 fun h150 r151 w152=>Aa9 r151 w152 h150 x5 ih x102 x146 x80 x79 x101 x145 x13)
def W9 (ih:Aa) (h130:Hp) (x133 x3 x123 x129:IV) (r134 r131 w132 r128 r125 w126 r121 w122 r118 r115 w116 r111 w112:AC) (x5 x102 x80 x79 x101 x13:IV):OH :=
 Ah [] false false ih 56 [x133,.fv (.int .i64 2)] h130 fun x135 h136 r137 w138=>Ad [] r137 w138 (Bd EE 3 x3 (.fv (.int .i64 2)) fun x139=>Ah [] false false ih 39 [x123,x129,x135,x139] h136 fun x140 h141 r142 w143=>Ad [] r142 w143 (Abp x140 h141 r142 w143 r137 w138 r134 r131 w132 r128 r125 w126 r121 w122 r118 r115 w116 r111 w112 x5 ih x102 x80 x79 x101 x13))
def AaQ (r128 r125 w126 r121 w122 r118 r115 w116 r111 w112:AC) (ih:Aa) (h124:Hp) (x127 x9 x3 x123 x5 x102 x80 x79 x101 x13:IV):OH :=
 Ad [(r125,w126),(r121,w122),(r118,[]),(r115,w116),(r111,w112)] r128 [] (Ah [] false false ih 45 [x127,.fv (.int .i64 2),.fv (.int .i64 0)] h124 fun x129 h130 r131 w132=>Ad [] r131 w132 (Ag 3 x9 h130 fun x133 r134=>Ad [(r131,w132),(r128,[]),(r125,w126),(r121,w122),(r118,[]),(r115,w116),(r111,w112)] r134 [] (W9 ih h130 x133 x3 x123 x129 r134 r131 w132 r128 r125 w126 r121 w122 r118 r115 w116 r111 w112 x5 x102 x80 x79 x101 x13)))
def AaM (ih:Aa) (h114:Hp) (x117 x113 x5:IV) (r118 r115 w116 r111 w112:AC) (x9 x3 x102 x80 x79 x101 x13:IV):OH :=
 Ah [] false false ih 45 [x117,.fv (.int .i64 1),.fv (.int .i64 0)] h114 fun x119 h120 r121 w122=>Ad [] r121 w122 (Ah [] false false ih 60 [x113,.fv (.int .i64 1),x119] h120 fun x123 h124 r125 w126=>Ad [] r125 w126 (Ag 3 x5 h124 fun x127 r128=>AaQ r128 r125 w126 r121 w122 r118 r115 w116 r111 w112 ih h124 x127 x9 x3 x123 x5 x102 x80 x79 x101 x13))
def Zv (r111 w112:AC) (ih:Aa) (h110:Hp) (x0 x109 x5 x9 x3 x102 x80 x79 x101 x13:IV):OH :=
 Ad [] r111 w112 (Ah [] false false ih 60 [x0,.fv (.int .i64 1),x109] h110 fun x113 h114 r115 w116=>Ad [] r115 w116 (Ag 3 x5 h114 fun x117 r118=>Ad [(r115,w116),(r111,w112)] r118 [] (AaM ih h114 x117 x113 x5 r118 r115 w116 r111 w112 x9 x3 x102 x80 x79 x101 x13)))
def Y2 (h97:Hp) (r98 w99 r93 w94 r90 r88:AC) (x100:IV) (ih:Aa) (x0 x5 x9 x3 x80 x79 x101 x13:IV):OH :=
 AD 69209098 (.row [.fv (.int .i64 0),.fv (.int .i64 0),.nils] false) (.ptr (.own 69209098) 0) h97 fun x102 h103 r104 w105=>Ad [(r98,w99),(r93,w94),(r90,[]),(r88,[])] r104 w105 (Af 3 x102 x100 h103 fun h106 r107 w108=>Ad [] r107 w108 (Ah [] false false ih 64 [] h106 fun x109 h110 r111 w112=>Zv r111 w112 ih h110 x0 x109 x5 x9 x3 x102 x80 x79 x101 x13))
def Za (x3:IV) (ih:Aa) (h92:Hp) (x0 x87 x91:IV) (r93 w94 r90 r88:AC) (x5 x9 x80 x79 x13:IV):OH :=
 Bd EE 3 x3 (.fv (.int .i64 2)) fun x95=>Ah [] false false ih 39 [x0,x87,x91,x95] h92 fun x96 h97 r98 w99=>Ad [] r98 w99 (Ar 0 x96 fun x100=>Ar 1 x96 fun x101=>Y2 h97 r98 w99 r93 w94 r90 r88 x100 ih x0 x5 x9 x3 x80 x79 x101 x13)
def AbU (r88:AC) (h84:Hp) (x9:IV) (ih:Aa) (x3 x0 x87 x5 x80 x79 x13:IV):OH :=
 Ad [] r88 [] (Ag 3 x9 h84 fun x89 r90=>Ad [(r88,[])] r90 [] (Ah [] false false ih 56 [x89,.fv (.int .i64 1)] h84 fun x91 h92 r93 w94=>Ad [(r88,[])] r93 w94 (Za x3 ih h92 x0 x87 x91 r93 w94 r90 r88 x5 x9 x80 x79 x13)))
def XQ (h75:Hp) (r76 w77 r71 w72 r68 r65 w66:AC) (x78 x5 x9:IV) (ih:Aa) (x3 x0 x79 x13:IV):OH :=
 AD 69208074 (.row [.fv (.int .i64 0),.fv (.int .i64 0),.nils] false) (.ptr (.own 69208074) 0) h75 fun x80 h81 r82 w83=>Ad [(r76,w77),(r71,w72),(r68,[]),(r65,w66)] r82 w83 (Af 3 x80 x78 h81 fun h84 r85 w86=>Ad [] r85 w86 (Ag 3 x5 h84 fun x87 r88=>AbU r88 h84 x9 ih x3 x0 x87 x5 x80 x79 x13))
def ZF (x3:IV) (ih:Aa) (h70:Hp) (x0 x63 x69:IV) (r71 w72 r68 r65 w66:AC) (x5 x9 x13:IV):OH :=
 Bd EE 3 x3 (.fv (.int .i64 2)) fun x73=>Ah [] false false ih 39 [x0,x63,x69,x73] h70 fun x74 h75 r76 w77=>Ad [] r76 w77 (Ar 0 x74 fun x78=>Ar 1 x74 fun x79=>XQ h75 r76 w77 r71 w72 r68 r65 w66 x78 x5 x9 ih x3 x0 x79 x13)
def AaS (r65 w66:AC) (h64:Hp) (x9:IV) (ih:Aa) (x3 x0 x63 x5 x13:IV):OH :=
 Ad [] r65 w66 (Ag 3 x9 h64 fun x67 r68=>Ad [(r65,w66)] r68 [] (Ah [] false false ih 56 [x67,.fv (.int .i64 0)] h64 fun x69 h70 r71 w72=>Ad [] r71 w72 (ZF x3 ih h70 x0 x63 x69 r71 w72 r68 r65 w66 x5 x9 x13)))
def AbQ (ih:Aa) (h244:Hp) (x243 x13 x233:IV):OH :=
 Ah [] false false ih 24 [.fv (.int .i64 12),x243] h244 fun x247 h248 _ _=>Af 3 x13 x247 h248 fun h251 _ _=>As true 3 x13 h251 fun x254=>Al [x254,x233] h251
def Zz (r236 w237 r230 w231 r225 w226 r222 r220:AC) (h235:Hp) (x234 x232:IV) (ih:Aa) (x13 x233:IV):OH :=
 Ad [(r230,w231),(r225,w226),(r222,[]),(r220,[])] r236 w237 (Af 3 x234 x232 h235 fun h238 r239 w240=>Ad [] r239 w240 (Ag 3 x234 h238 fun x241 _=>Ay (Ak EE 28 1 [(0,x241)]) 69216257 h238 fun x243 h244 _ _=>AbQ ih h244 x243 x13 x233))
def AaF (ih:Aa) (h224:Hp) (x0 x219 x223 x227:IV) (r225 w226 r222 r220:AC) (x13:IV):OH :=
 Ah [] false false ih 39 [x0,x219,x223,x227] h224 fun x228 h229 r230 w231=>Ad [] r230 w231 (Ar 0 x228 fun x232=>Ar 1 x228 fun x233=>AD 69215242 (.row [.fv (.int .i64 0),.fv (.int .i64 0),.nils] false) (.ptr (.own 69215242) 0) h229 fun x234 h235 r236 w237=>Zz r236 w237 r230 w231 r225 w226 r222 r220 h235 x234 x232 ih x13 x233)
def Acg (h215:Hp) (x9:IV) (r220:AC) (ih:Aa) (x3 x0 x219 x13:IV):OH :=
 Ag 3 x9 h215 fun x221 r222=>Ad [(r220,[])] r222 [] (Ah [] false false ih 56 [x221,.fv (.int .i64 0)] h215 fun x223 h224 r225 w226=>Ad [(r220,[])] r225 w226 (Bd EE 3 x3 (.fv (.int .i64 1)) fun x227=>AaF ih h224 x0 x219 x223 x227 r225 w226 r222 r220 x13))
def W6 (ih:Aa) (h215:Hp) (x256 x13:IV):OH :=
 Ah [] false false ih 55 [x256,.fv (.int .i64 4)] h215 fun x258 h259 _ _=>Ah [] false false ih 27 [x258] h259 fun x262 h263 _ _=>Af 3 x13 x262 h263 fun h266 _ _=>As true 3 x13 h266 fun x269=>Al [x269,.fv (.bool true)] h266
def Abo (x218:IV) (h215:Hp) (x5 x9:IV) (ih:Aa) (x3 x0 x13:IV):OH :=
 Ai x218 (Ag 3 x5 h215 fun x219 r220=>Ad [] r220 [] (Acg h215 x9 r220 ih x3 x0 x219 x13)) (Ab 1 x9 fun x255=>Ae x255 h215 fun x256 _=>W6 ih h215 x256 x13)
def Xz (h59:Hp) (x193 x9:IV) (ih:Aa) (x5 x3 x0 x13:IV):OH :=
 Ac x193 true h59 (fun k194=>Ab 0 x9 fun x195=>k194 x195 h59 [] []) fun x196 h197 _ _=>Ac x193 true h197 (fun k200=>Ae x196 h197 fun x201 r202=>k200 x201 h197 r202 []) fun x203 h204 _ _=>Ac x193 true h204 (fun k207=>Ah [] false false ih 55 [x203,.fv (.int .i64 2)] h204 k207) fun x208 h209 _ _=>Ac x193 true h209 (fun k212=>AN EE 3 x208 (.fv (.int .i64 1)) fun x213=>k212 x213 h209 [] []) fun x214 h215 _ _=>AI x193 x214 (.fv (.bool false)) fun x218=>Abo x218 h215 x5 x9 ih x3 x0 x13
def Aab (x311 x362:IV) (h363:Hp) (x13 x357:IV):OH :=
 AI x311 x362 (.fv (.bool false)) fun x366=>Af 3 x13 x357 h363 fun h367 r368 w369=>Ad [] r368 w369 (As true 3 x13 h367 fun x370=>Al [x370,x366] h367)
def AaK (h345:Hp) (x349 x351:IV) (r346 w347 r343:AC) (ih:Aa) (x348 x311 x333 x13:IV):OH :=
 Ay (Ak EE 28 2 [(0,x349),(1,x351)]) 69222406 h345 fun x353 h354 r355 w356=>Ad [(r346,w347),(r343,[])] r355 w356 (Ah [] false false ih 24 [x348,x353] h354 fun x357 h358 r359 w360=>Ad [] r359 w360 (Ac x311 true h358 (fun k361=>k361 x333 h358 [] []) fun x362 h363 _ _=>Aab x311 x362 h363 x13 x357))
def AbS (x344:IV) (h345:Hp) (x312:IV) (r346 w347 r343:AC) (x334:IV) (ih:Aa) (x311 x333 x13:IV):OH :=
 Bp EE 3 (.fv (.int .i64 16)) x344 fun x348=>Ag 3 x312 h345 fun x349 r350=>Ad [(r346,w347),(r343,[])] r350 [] (Ag 3 x334 h345 fun x351 r352=>Ad [(r350,[]),(r346,w347),(r343,[])] r352 [] (AaK h345 x349 x351 r346 w347 r343 ih x348 x311 x333 x13))
def Acn (x9:IV) (h338:Hp) (ih:Aa) (x312 x334 x311 x333 x13:IV):OH :=
 Ab 1 x9 fun x341=>Ae x341 h338 fun x342 r343=>Ad [] r343 [] (Ah [] false false ih 55 [x342,.fv (.int .i64 2)] h338 fun x344 h345 r346 w347=>Ad [] r346 w347 (AbS x344 h345 x312 r346 w347 r343 x334 ih x311 x333 x13))
def AbW (x328:IV) (h329:Hp) (r330 w331 r325 w326 r322 r320:AC) (x332 x9:IV) (ih:Aa) (x312 x311 x13:IV):OH :=
 Ar 1 x328 fun x333=>AD 69221386 (.row [.fv (.int .i64 0),.fv (.int .i64 0),.nils] false) (.ptr (.own 69221386) 0) h329 fun x334 h335 r336 w337=>Ad [(r330,w331),(r325,w326),(r322,[]),(r320,[])] r336 w337 (Af 3 x334 x332 h335 fun h338 r339 w340=>Ad [] r339 w340 (Acn x9 h338 ih x312 x334 x311 x333 x13))
def Z2 (r325 w326 r320:AC) (x3:IV) (ih:Aa) (h324:Hp) (x0 x319 x323:IV) (r322:AC) (x9 x312 x311 x13:IV):OH :=
 Ad [(r320,[])] r325 w326 (Bd EE 3 x3 (.fv (.int .i64 1)) fun x327=>Ah [] false false ih 39 [x0,x319,x323,x327] h324 fun x328 h329 r330 w331=>Ad [] r330 w331 (Ar 0 x328 fun x332=>AbW x328 h329 r330 w331 r325 w326 r322 r320 x332 x9 ih x312 x311 x13))
def Aae (h316:Hp) (x5 x9:IV) (ih:Aa) (x3 x0 x312 x311 x13:IV):OH :=
 Ag 3 x5 h316 fun x319 r320=>Ad [] r320 [] (Ag 3 x9 h316 fun x321 r322=>Ad [(r320,[])] r322 [] (Ah [] false false ih 56 [x321,.fv (.int .i64 1)] h316 fun x323 h324 r325 w326=>Z2 r325 w326 r320 x3 ih h324 x0 x319 x323 r322 x9 x312 x311 x13))
def Aah (x306:IV) (h307:Hp) (r308 w309 r303 w304 r300 r298:AC) (x310 x5 x9:IV) (ih:Aa) (x3 x0 x13:IV):OH :=
 Ar 1 x306 fun x311=>AD 69220362 (.row [.fv (.int .i64 0),.fv (.int .i64 0),.nils] false) (.ptr (.own 69220362) 0) h307 fun x312 h313 r314 w315=>Ad [(r308,w309),(r303,w304),(r300,[]),(r298,[])] r314 w315 (Af 3 x312 x310 h313 fun h316 r317 w318=>Ad [] r317 w318 (Aae h316 x5 x9 ih x3 x0 x312 x311 x13))
def WP (r303 w304 r298:AC) (x3:IV) (ih:Aa) (h302:Hp) (x0 x297 x301:IV) (r300:AC) (x5 x9 x13:IV):OH :=
 Ad [(r298,[])] r303 w304 (Bd EE 3 x3 (.fv (.int .i64 1)) fun x305=>Ah [] false false ih 39 [x0,x297,x301,x305] h302 fun x306 h307 r308 w309=>Ad [] r308 w309 (Ar 0 x306 fun x310=>Aah x306 h307 r308 w309 r303 w304 r300 r298 x310 x5 x9 ih x3 x0 x13))
def AaE (h293:Hp) (x5 x9:IV) (ih:Aa) (x3 x0 x13:IV):OH :=
 Ag 3 x5 h293 fun x297 r298=>Ad [] r298 [] (Ag 3 x9 h293 fun x299 r300=>Ad [(r298,[])] r300 [] (Ah [] false false ih 56 [x299,.fv (.int .i64 0)] h293 fun x301 h302 r303 w304=>WP r303 w304 r298 x3 ih h302 x0 x297 x301 r300 x5 x9 x13))
def Abr (ih:Aa) (h293:Hp) (x13:IV):OH :=
 Ah [] false false ih 24 [.fv (.int .i64 15),.nils] h293 fun x371 h372 _ _=>Af 3 x13 x371 h372 fun h375 _ _=>As true 3 x13 h375 fun x378=>Al [x378,.fv (.bool true)] h375
def Acj (h275:Hp) (x271 x274:IV) (ih:Aa) (x5 x9 x3 x0 x13:IV):OH :=
 Ac x271 true h275 (fun k278=>Ae x274 h275 fun x279 r280=>k278 x279 h275 r280 []) fun x281 h282 _ _=>Ac x271 true h282 (fun k285=>Ah [] false false ih 55 [x281,.fv (.int .i64 5)] h282 k285) fun x286 h287 _ _=>Ac x271 true h287 (fun k290=>Ke EE 3 x286 (.fv (.int .i64 1)) fun x291=>k290 x291 h287 [] []) fun x292 h293 _ _=>AI x271 x292 (.fv (.bool false)) fun x296=>Ai x296 (AaE h293 x5 x9 ih x3 x0 x13) (Abr ih h293 x13)
def Aa0 (x384:IV) (ih:Aa) (h59:Hp) (x13:IV):OH :=
 Bd EE 3 x384 (.fv (.int .i64 1)) fun x386=>Ah [] false false ih 47 [x386] h59 fun x387 h388 _ _=>Af 3 x13 x387 h388 fun h391 _ _=>As true 3 x13 h391 fun x394=>Al [x394,.fv (.bool true)] h391
def XU (h491:Hp) (x13 x490:IV):OH :=
 As true 3 x13 h491 fun x494=>Al [x494,x490] h491
def WA (r483 w484:AC) (h482:Hp) (x429 x457 x13 x481:IV):OH :=
 Ad [] r483 w484 (Ac x429 true h482 (fun k485=>k485 x457 h482 [] []) fun x486 h487 _ _=>AI x429 x486 (.fv (.bool false)) fun x490=>Af 3 x13 x481 h487 fun h491 r492 w493=>Ad [] r492 w493 (XU h491 x13 x490))
def Zd (h466:Hp) (x458:IV) (r474 r472 r467 w468:AC) (x473:IV) (ih:Aa) (x471 x429 x457 x13:IV):OH :=
 Ag 3 x458 h466 fun x475 r476=>Ad [(r474,[]),(r472,[]),(r467,w468)] r476 [] (Ay (Ak EE 28 2 [(0,x473),(1,x475)]) 69230599 h466 fun x477 h478 r479 w480=>Ad [(r472,[]),(r467,w468)] r479 w480 (Ah [] false false ih 24 [x471,x477] h478 fun x481 h482 r483 w484=>WA r483 w484 h482 x429 x457 x13 x481))
def Abu (x465 x469:IV) (h466:Hp) (x430:IV) (r467 w468:AC) (x458:IV) (ih:Aa) (x429 x457 x13:IV):OH :=
 AT 1 x465 x469 fun x470=>Ae x470 h466 fun x471 r472=>Ad [] r472 [] (Ag 3 x430 h466 fun x473 r474=>Ad [(r472,[]),(r467,w468)] r474 [] (Zd h466 x458 r474 r472 r467 w468 x473 ih x471 x429 x457 x13))
def Aat (h459:Hp) (x458 x456 x398 x430:IV) (ih:Aa) (x429 x457 x13:IV):OH :=
 Af 3 x458 x456 h459 fun h462 r463 w464=>Ad [] r463 w464 (Ay (Ak EE 75 2 [(0,.fv (.int .i64 3)),(1,.fv (.int .i64 6))]) 69230592 h462 fun x465 h466 r467 w468=>Ad [] r467 w468 (Bd EE 3 x398 (.fv (.int .i64 2)) fun x469=>Abu x465 x469 h466 x430 r467 w468 x458 ih x429 x457 x13))
def XO (r454 w455:AC) (x452:IV) (h453:Hp) (r449 w450 r446 r444 r441 w442 r438:AC) (x398 x430:IV) (ih:Aa) (x429 x13:IV):OH :=
 Ad [] r454 w455 (Ar 0 x452 fun x456=>Ar 1 x452 fun x457=>AD 69229580 (.row [.fv (.int .i64 0),.fv (.int .i64 0),.nils] false) (.ptr (.own 69229580) 0) h453 fun x458 h459 r460 w461=>Ad [(r454,w455),(r449,w450),(r446,[]),(r444,[]),(r441,w442),(r438,[])] r460 w461 (Aat h459 x458 x456 x398 x430 ih x429 x457 x13))
def X2 (r446 r444 r441 w442 r438:AC) (ih:Aa) (h440:Hp) (x445 x3 x439 x443 x398 x430 x429 x13:IV):OH :=
 Ad [(r444,[]),(r441,w442),(r438,[])] r446 [] (Ah [] false false ih 56 [x445,.fv (.int .i64 1)] h440 fun x447 h448 r449 w450=>Ad [(r444,[])] r449 w450 (Bd EE 3 x3 (.fv (.int .i64 1)) fun x451=>Ah [] false false ih 39 [x439,x443,x447,x451] h448 fun x452 h453 r454 w455=>XO r454 w455 x452 h453 r449 w450 r446 r444 r441 w442 r438 x398 x430 ih x429 x13))
def Aar (ih:Aa) (h434:Hp) (x0 x437 x5:IV) (r438:AC) (x9 x3 x398 x430 x429 x13:IV):OH :=
 Ah [] false false ih 60 [x0,.fv (.int .i64 1),x437] h434 fun x439 h440 r441 w442=>Ad [] r441 w442 (Ag 3 x5 h440 fun x443 r444=>Ad [(r441,w442),(r438,[])] r444 [] (Ag 3 x9 h440 fun x445 r446=>X2 r446 r444 r441 w442 r438 ih h440 x445 x3 x439 x443 x398 x430 x429 x13))
def Zp (r432 w433 r426 w427 r421 w422 r418 r416:AC) (h431:Hp) (x430 x428:IV) (ih:Aa) (x0 x5 x9 x3 x398 x429 x13:IV):OH :=
 Ad [(r426,w427),(r421,w422),(r418,[]),(r416,[])] r432 w433 (Af 3 x430 x428 h431 fun h434 r435 w436=>Ad [] r435 w436 (Ag 3 x430 h434 fun x437 r438=>Ad [] r438 [] (Aar ih h434 x0 x437 x5 r438 x9 x3 x398 x430 x429 x13)))
def Y7 (ih:Aa) (h420:Hp) (x0 x415 x419 x423:IV) (r421 w422 r418 r416:AC) (x5 x9 x3 x398 x13:IV):OH :=
 Ah [] false false ih 39 [x0,x415,x419,x423] h420 fun x424 h425 r426 w427=>Ad [] r426 w427 (Ar 0 x424 fun x428=>Ar 1 x424 fun x429=>AD 69228554 (.row [.fv (.int .i64 0),.fv (.int .i64 0),.nils] false) (.ptr (.own 69228554) 0) h425 fun x430 h431 r432 w433=>Zp r432 w433 r426 w427 r421 w422 r418 r416 h431 x430 x428 ih x0 x5 x9 x3 x398 x429 x13)
def Z4 (h411:Hp) (x9:IV) (r416:AC) (ih:Aa) (x3 x0 x415 x5 x398 x13:IV):OH :=
 Ag 3 x9 h411 fun x417 r418=>Ad [(r416,[])] r418 [] (Ah [] false false ih 56 [x417,.fv (.int .i64 0)] h411 fun x419 h420 r421 w422=>Ad [(r416,[])] r421 w422 (Bd EE 3 x3 (.fv (.int .i64 1)) fun x423=>Y7 ih h420 x0 x415 x419 x423 r421 w422 r418 r416 x5 x9 x3 x398 x13))
def AbF (h529:Hp) (x13:IV):OH :=
 As true 3 x13 h529 fun x532=>Al [x532,.fv (.bool true)] h529
def YY (x515 x522:IV) (h523:Hp) (x13:IV):OH :=
 AT 3 x515 x522 fun x526=>Ag 3 x526 h523 fun x527 r528=>Ad [] r528 [] (Af 3 x13 x527 h523 fun h529 r530 w531=>Ad [] r530 w531 (AbF h529 x13))
def YD (x9:IV) (h516:Hp) (r517 w518 r513 w514 r509 w510 r505 w506 r501 w502 r497 w498:AC) (ih:Aa) (x515 x13:IV):OH :=
 Ab 1 x9 fun x519=>Ae x519 h516 fun x520 r521=>Ad [(r517,w518),(r513,w514),(r509,w510),(r505,w506),(r501,w502),(r497,w498)] r521 [] (Ah [] false false ih 55 [x520,.fv (.int .i64 3)] h516 fun x522 h523 r524 w525=>Ad [(r517,w518)] r524 w525 (YY x515 x522 h523 x13))
def Y8 (r509 w510:AC) (ih:Aa) (h508:Hp) (x507 x495 x499 x9:IV) (r505 w506 r501 w502 r497 w498:AC) (x13:IV):OH :=
 Ad [] r509 w510 (Ah [] false false ih 24 [.fv (.int .i64 18),x507] h508 fun x511 h512 r513 w514=>Ad [] r513 w514 (Ay (Ak EE 28 3 [(0,x495),(1,x499),(2,x511)]) 69231621 h512 fun x515 h516 r517 w518=>Ad [] r517 w518 (YD x9 h516 r517 w518 r513 w514 r509 w510 r505 w506 r501 w502 r497 w498 ih x515 x13)))
def Wz (ih:Aa) (h496:Hp) (x495 x9:IV) (r497 w498:AC) (x13:IV):OH :=
 Ah [] false false ih 24 [.fv (.int .i64 14),.nils] h496 fun x499 h500 r501 w502=>Ad [] r501 w502 (Ah [] false false ih 24 [.fv (.int .i64 15),.nils] h500 fun x503 h504 r505 w506=>Ad [] r505 w506 (Ay (Ak EE 28 1 [(0,x503)]) 69231619 h504 fun x507 h508 r509 w510=>Y8 r509 w510 ih h508 x507 x495 x499 x9 r505 w506 r501 w502 r497 w498 x13))
def Acf (x414:IV) (h411:Hp) (x5 x9:IV) (ih:Aa) (x3 x0 x398 x13:IV):OH :=
 Ai x414 (Ag 3 x5 h411 fun x415 r416=>Ad [] r416 [] (Z4 h411 x9 r416 ih x3 x0 x415 x5 x398 x13)) (Ah [] false false ih 64 [] h411 fun x495 h496 r497 w498=>Ad [] r497 w498 (Wz ih h496 x495 x9 r497 w498 x13))
def Z9 (ih:Aa) (h59:Hp) (x396 x3 x5 x9 x0 x13:IV):OH :=
 Ah [] false false ih 55 [x396,.fv (.int .i64 4)] h59 fun x398 h399 _ _=>Ke EE 3 x3 (.fv (.int .i64 0)) fun x402=>Ac x402 true h399 (fun k403=>k403 x398 h399 [] []) fun x404 h405 _ _=>Ac x402 true h405 (fun k408=>Ke EE 3 x404 (.fv (.int .i64 1)) fun x409=>k408 x409 h405 [] []) fun x410 h411 _ _=>AI x402 x410 (.fv (.bool false)) fun x414=>Acf x414 h411 x5 x9 ih x3 x0 x398 x13
def X3 (x380 x5:IV) (h59:Hp) (ih:Aa) (x13 x9 x3 x0:IV):OH :=
 Ke EE 3 x380 (.fv (.int .i64 0)) fun x382=>Ai x382 (Ab 1 x5 fun x383=>Ae x383 h59 fun x384 _=>Aa0 x384 ih h59 x13) (Ab 0 x9 fun x395=>Ae x395 h59 fun x396 _=>Z9 ih h59 x396 x3 x5 x9 x0 x13)
def AaV (x270 x3:IV) (h59:Hp) (x9:IV) (ih:Aa) (x5 x0 x13:IV):OH :=
 Ai x270 (Ke EE 3 x3 (.fv (.int .i64 0)) fun x271=>Ac x271 true h59 (fun k272=>Ab 0 x9 fun x273=>k272 x273 h59 [] []) fun x274 h275 _ _=>Acj h275 x271 x274 ih x5 x9 x3 x0 x13) (Ab 1 x5 fun x379=>Ae x379 h59 fun x380 _=>X3 x380 x5 h59 ih x13 x9 x3 x0)
def Ab5 (h59:Hp) (x189 x3 x9:IV) (ih:Aa) (x5 x0 x13:IV):OH :=
 Ae x189 h59 fun x190 _=>AN EE 3 x190 (.fv (.int .i64 10)) fun x192=>Ai x192 (Ke EE 3 x3 (.fv (.int .i64 0)) fun x193=>Xz h59 x193 x9 ih x5 x3 x0 x13) (AN EE 3 x190 (.fv (.int .i64 14)) fun x270=>AaV x270 x3 h59 x9 ih x5 x0 x13)
def Abn (h53:Hp) (x42 x52:IV) (ih:Aa) (x9 x3 x0 x5 x13:IV):OH :=
 Ac x42 true h53 (fun k56=>Ch EE 3 x52 (.fv (.int .i64 2)) fun x57=>k56 x57 h53 [] []) fun x58 h59 _ _=>AI x42 x58 (.fv (.bool false)) fun x62=>Ai x62 (Ah [] false false ih 64 [] h59 fun x63 h64 r65 w66=>AaS r65 w66 h64 x9 ih x3 x0 x63 x5 x13) (Ab 0 x5 fun x189=>Ab5 h59 x189 x3 x9 ih x5 x0 x13)
def Zu (h28:Hp) (x17:IV) (ih:Aa) (x27 x5 x9 x3 x0 x13:IV):OH :=
 Ac x17 true h28 (fun k31=>Ah [] false false ih 55 [x27,.fv (.int .i64 5)] h28 k31) fun x32 h33 _ _=>Ac x17 true h33 (fun k36=>AN EE 3 x32 (.fv (.int .i64 4)) fun x37=>k36 x37 h33 [] []) fun x38 h39 _ _=>AI x17 x38 (.fv (.bool false)) fun x42=>Ac x42 true h39 (fun k43=>Ab 0 x5 fun x44=>k43 x44 h39 [] []) fun x45 h46 _ _=>Ac x42 true h46 (fun k49=>Ae x45 h46 fun x50 r51=>k49 x50 h46 r51 []) fun x52 h53 _ _=>Abn h53 x42 x52 ih x9 x3 x0 x5 x13
def S66 (ih:Aa) (n:Nat) (x0 x1 x2 x3:IV) (h4:Hp):OH :=
 AX 69206016 x1 h4 fun x5 h6 _ _=>AX 69206017 x2 h6 fun x9 h10 _ _=>AD 69206018 (.row [.fv (.int .i64 0),.fv (.int .i64 0),.nils] false) (.ptr (.own 69206018) 0) h10 fun x13 h14 _ _=>Ke EE 3 x3 (.fv (.int .i64 0)) fun x17=>Ac x17 true h14 (fun k18=>Ab 0 x9 fun x19=>k18 x19 h14 [] []) fun x20 h21 _ _=>Ac x17 true h21 (fun k24=>Ae x20 h21 fun x25 r26=>k24 x25 h21 r26 []) fun x27 h28 _ _=>Zu h28 x17 ih x27 x5 x9 x3 x0 x13
theorem Ao7 (ih:Aa) (n:Nat) (x0 x1 x2 x3:IV) (h4:Hp):Aw EE ih ft.get n 66 [x0,x1,x2,x3] h4=S66 ih n x0 x1 x2 x3 h4:=by kernel_rfl
def AgX (h21:Hp) (x12 x20:IV):OH :=
 Af 3 x12 x20 h21 fun h24 _ _=>As true 3 x12 h24 fun x27=>Al [x27] h24
def S67 (ih:Aa) (n:Nat) (x0 x1 x2:IV) (h3:Hp):OH :=
 AX 70254592 x0 h3 fun x4 h5 _ _=>AX 70254593 x2 h5 fun x8 h9 _ _=>AD 70254594 (.row [.fv (.int .i64 0),.fv (.int .i64 0),.nils] false) (.ptr (.own 70254594) 0) h9 fun x12 h13 _ _=>Ag 3 x4 h13 fun x16 _=>Ag 3 x8 h13 fun x18 _=>Ah [] false false ih 90 [x16,x1,.fv (.int .i64 0),x18] h13 fun x20 h21 _ _=>AgX h21 x12 x20
theorem Aqs (ih:Aa) (n:Nat) (x0 x1 x2:IV) (h3:Hp):Aw EE ih ft.get n 67 [x0,x1,x2] h3=S67 ih n x0 x1 x2 h3:=by kernel_rfl
def RG (x108:IV) (h109:Hp) (x93:IV) (h3:Hp) (x89 x90 x91 x92:IV) (q86:List IV→Hp→OH):OH :=
 Ch EE 36 x108 (.fv (.int .i64 0)) fun x112=>Ai x112 (Al [x108] h109) (Bp EE 3 x93 (.fv (.int .i64 1)) fun x113=>Bs (h3.own.map (·.1)) [71311362] [x89,x90,x91,x92,x113] h109 fun h114=>q86 [x89,x90,x91,x92,x113] h114)
def R8 (h88:Hp) (x96 x90:IV) (ih:Aa) (x89 x93:IV) (h3:Hp) (x91 x92:IV) (q86:List IV→Hp→OH):OH :=
 AD 71311362 (.row [.fv (.int .i64 0),.fv (.int .i64 0),.nils] false) (.ptr (.own 71311362) 0) h88 fun x98 h99 _ _=>Af 3 x98 x96 h99 fun h102 _ _=>Ag 3 x98 h102 fun x105 _=>Bp EE 3 x90 (.fv (.int .i64 1)) fun x107=>Ah [false,true,false] false false ih 68 [x105,x89,x107] h102 fun x108 h109 _ _=>RG x108 h109 x93 h3 x89 x90 x91 x92 q86
def Sa (x93 x92 x91:IV) (h88:Hp) (x90:IV) (ih:Aa) (x89:IV) (h3:Hp) (q86:List IV→Hp→OH):OH :=
 F8 EE 3 x93 x92 fun x94=>Ai x94 (AT 3 x91 x93 fun x95=>Ag 3 x95 h88 fun x96 _=>R8 h88 x96 x90 ih x89 x93 h3 x91 x92 q86) (Al [.fv (.int .i64 0)] h88)
def Xo (l87:List IV) (h88:Hp) (ih:Aa) (h3:Hp) (q86:List IV→Hp→OH):OH :=
 AA l87 fun x89 l115=>AA l115 fun x90 l116=>AA l116 fun x91 l117=>AA l117 fun x92 l118=>AA l118 fun x93 _=>Sa x93 x92 x91 h88 x90 ih x89 h3 q86
def Sm (h78:Hp) (x82:IV) (h3:Hp) (x1 x2:IV) (n:Nat) (ih:Aa):OH :=
 Ae x82 h78 fun x83 _=>B0 x83 fun x85=>Bs (h3.own.map (·.1)) [71311362] [x1,x2,x83,x85,.fv (.int .i64 0)] h78 fun h120=>By n (fun q86 l87 h88=>Xo l87 h88 ih h3 q86) [x1,x2,x83,x85,.fv (.int .i64 0)] h120
def QQ (r73 w74:AC) (h72:Hp) (x43 x71 x4:IV) (h3:Hp) (x1 x2:IV) (n:Nat) (ih:Aa):OH :=
 Ad [] r73 w74 (Ac x43 false h72 (fun k75=>CL (LR .not x71) fun x76=>k75 x76 h72 [] []) fun x77 h78 _ _=>AI x43 (.fv (.bool true)) x77 fun x81=>Ai x81 (Al [.fv (.int .i64 1)] h78) (Ab 2 x4 fun x82=>Sm h78 x82 h3 x1 x2 n ih))
def Ra (r55 w56:AC) (h54:Hp) (x43 x4:IV) (ih:Aa) (x53:IV) (h3:Hp) (x1 x2:IV) (n:Nat):OH :=
 Ad [] r55 w56 (Ac x43 false h54 (fun k57=>Ab 1 x4 fun x58=>k57 x58 h54 [] []) fun x59 h60 _ _=>Ac x43 false h60 (fun k63=>Ae x59 h60 fun x64 r65=>k63 x64 h60 r65 []) fun x66 h67 r68 w69=>Ad [(r55,w56)] r68 w69 (Ac x43 false h67 (fun k70=>Ah [] false false ih 92 [x53,x66] h67 k70) fun x71 h72 r73 w74=>QQ r73 w74 h72 x43 x71 x4 h3 x1 x2 n ih))
def RA (r41 r37 w38 r34:AC) (x40 x35:IV) (h36:Hp) (x4:IV) (ih:Aa) (h3:Hp) (x1 x2:IV) (n:Nat):OH :=
 Ad [(r37,w38),(r34,[])] r41 [] (B0 x40 fun x42=>Ch EE 3 x35 x42 fun x43=>Ac x43 false h36 (fun k44=>Ab 0 x4 fun x45=>k44 x45 h36 [] []) fun x46 h47 _ _=>Ac x43 false h47 (fun k50=>Ae x46 h47 fun x51 r52=>k50 x51 h47 r52 []) fun x53 h54 r55 w56=>Ra r55 w56 h54 x43 x4 ih x53 h3 x1 x2 n)
def Q5 (r34:AC) (ih:Aa) (h28:Hp) (x33 x4:IV) (h3:Hp) (x1 x2:IV) (n:Nat):OH :=
 Ad [] r34 [] (Ah [] false false ih 91 [x33] h28 fun x35 h36 r37 w38=>Ad [] r37 w38 (Ab 2 x4 fun x39=>Ae x39 h36 fun x40 r41=>RA r41 r37 w38 r34 x40 x35 h36 x4 ih h3 x1 x2 n))
def RK (x19 x27:IV) (h28:Hp) (x4:IV) (ih:Aa) (h3:Hp) (x1 x2:IV) (n:Nat):OH :=
 AI x19 (.fv (.bool true)) x27 fun x31=>Ai x31 (Al [.fv (.int .i64 5)] h28) (Ab 0 x4 fun x32=>Ae x32 h28 fun x33 r34=>Q5 r34 ih h28 x33 x4 h3 x1 x2 n)
def R4 (x1:IV) (h13:Hp) (x2 x4:IV) (ih:Aa) (h3:Hp) (n:Nat):OH :=
 AH x1 fun x16=>Ae x16 h13 fun x17 _=>Ke EE 3 x17 (.fv (.int .i64 3000)) fun x19=>Ac x19 false h13 (fun k20=>k20 x2 h13 [] []) fun x21 h22 _ _=>Ac x19 false h22 (fun k25=>Ke EE 3 x21 (.fv (.int .i64 120)) fun x26=>k25 x26 h22 [] []) fun x27 h28 _ _=>RK x19 x27 h28 x4 ih h3 x1 x2 n
def S68 (ih:Aa) (n:Nat) (x0 x1 x2:IV) (h3:Hp):OH :=
 AX 71303168 x0 h3 fun x4 h5 _ _=>AH x1 fun x8=>Ae x8 h5 fun x9 _=>Bp EE 3 x9 (.fv (.int .i64 1)) fun x11=>AH x1 fun x12=>A9 x12 x11 h5 fun h13 _ _=>R4 x1 h13 x2 x4 ih h3 n
theorem Aok (ih:Aa) (n:Nat) (x0 x1 x2:IV) (h3:Hp):Aw EE ih ft.get n 68 [x0,x1,x2] h3=S68 ih n x0 x1 x2 h3:=by kernel_rfl
def J8 (h1 h119:Hp) (x102 x103 x123:IV) (q99:List IV→Hp→OH):OH :=
 Bs (h1.own.map (·.1)) [72357890] [x102,x103,x123] h119 fun h124=>q99 [x102,x103,x123] h124
def JA (ih:Aa) (h113:Hp) (x116 x104:IV) (h1:Hp) (x102 x103:IV) (q99:List IV→Hp→OH):OH :=
 Ah [] false false ih 69 [x116] h113 fun x118 h119 _ _=>CL (LR .not x118) fun x122=>Ai x122 (Al [.fv (.bool false)] h119) (Bp EE 3 x104 (.fv (.int .i64 1)) fun x123=>J8 h1 h119 x102 x103 x123 q99)
def KV (x102 x104:IV) (h101:Hp) (ih:Aa) (h1:Hp) (x103:IV) (q99:List IV→Hp→OH):OH :=
 AT 3 x102 x104 fun x106=>Ag 3 x106 h101 fun x107 _=>AD 72357890 (.row [.fv (.int .i64 0),.fv (.int .i64 0),.nils] false) (.ptr (.own 72357890) 0) h101 fun x109 h110 _ _=>Af 3 x109 x107 h110 fun h113 _ _=>Ag 3 x109 h113 fun x116 _=>JA ih h113 x116 x104 h1 x102 x103 q99
def Kj (l100:List IV) (h101:Hp) (ih:Aa) (h1:Hp) (q99:List IV→Hp→OH):OH :=
 AA l100 fun x102 l125=>AA l125 fun x103 l126=>AA l126 fun x104 _=>F8 EE 3 x104 x103 fun x105=>Ai x105 (KV x102 x104 h101 ih h1 x103 q99) (Al [.fv (.bool true)] h101)
def Kd (x2:IV) (h91 h1:Hp) (n:Nat) (ih:Aa):OH :=
 Ab 2 x2 fun x95=>Ae x95 h91 fun x96 _=>B0 x96 fun x98=>Bs (h1.own.map (·.1)) [72357890] [x96,x98,.fv (.int .i64 0)] h91 fun h128=>By n (fun q99 l100 h101=>Kj l100 h101 ih h1 q99) [x96,x98,.fv (.int .i64 0)] h128
def JX (h72:Hp) (x65 x71 x44 x2:IV) (h1:Hp) (n:Nat) (ih:Aa):OH :=
 Ac x65 true h72 (fun k75=>Ae x71 h72 fun x76 r77=>k75 x76 h72 r77 []) fun x78 h79 _ _=>Ac x65 true h79 (fun k82=>F8 EE 3 x78 (.fv (.int .i64 0)) fun x83=>k82 x83 h79 [] []) fun x84 h85 _ _=>Ac x44 false h85 (fun k88=>AI x65 x84 (.fv (.bool false)) fun x89=>k88 x89 h85 [] []) fun x90 h91 _ _=>AI x44 (.fv (.bool true)) x90 fun x94=>Ai x94 (Al [.fv (.bool false)] h91) (Kd x2 h91 h1 n ih)
def JK (h41:Hp) (x44 x2:IV) (h1:Hp) (n:Nat) (ih:Aa):OH :=
 Ac x44 false h41 (fun k45=>Ab 0 x2 fun x46=>k45 x46 h41 [] []) fun x47 h48 _ _=>Ac x44 false h48 (fun k51=>Ae x47 h48 fun x52 r53=>k51 x52 h48 r53 []) fun x54 h55 _ _=>Ac x44 false h55 (fun k58=>AN EE 3 x54 (.fv (.int .i64 1)) fun x59=>k58 x59 h55 [] []) fun x60 h61 _ _=>Ac x44 false h61 (fun k64=>k64 x60 h61 [] []) fun x65 h66 _ _=>Ac x65 true h66 (fun k69=>Ab 1 x2 fun x70=>k69 x70 h66 [] []) fun x71 h72 _ _=>JX h72 x65 x71 x44 x2 h1 n ih
def K6 (h16:Hp) (x13 x2 x15:IV) (h1:Hp) (n:Nat) (ih:Aa):OH :=
 Ac x13 true h16 (fun k19=>Ab 2 x2 fun x20=>k19 x20 h16 [] []) fun x21 h22 _ _=>Ac x13 true h22 (fun k25=>Ae x21 h22 fun x26 r27=>k25 x26 h22 r27 []) fun x28 h29 _ _=>Ac x13 true h29 (fun k32=>B0 x28 fun x33=>k32 x33 h29 [] []) fun x34 h35 _ _=>Ac x13 true h35 (fun k38=>Ch EE 3 x15 x34 fun x39=>k38 x39 h35 [] []) fun x40 h41 _ _=>AI x13 x40 (.fv (.bool false)) fun x44=>JK h41 x44 x2 h1 n ih
def S69 (ih:Aa) (n:Nat) (x0:IV) (h1:Hp):OH :=
 AX 72351744 x0 h1 fun x2 h3 _ _=>Ab 0 x2 fun x6=>Ae x6 h3 fun x7 _=>Ah [] false false ih 93 [x7] h3 fun x9 h10 _ _=>Uv EE 3 x9 (.fv (.int .i64 0)) fun x13=>Ac x13 true h10 (fun k14=>k14 x9 h10 [] []) fun x15 h16 _ _=>K6 h16 x13 x2 x15 h1 n ih
theorem AoL (ih:Aa) (n:Nat) (x0:IV) (h1:Hp):Aw EE ih ft.get n 69 [x0] h1=S69 ih n x0 h1:=by kernel_rfl
def RN (x2:IV) (h61:Hp) (x6:IV):OH :=
 AH x2 fun x64=>Ab 4 x64 fun x65=>A9 x65 x6 h61 fun h66 _ _=>Al [x2] h66
def Q4 (x46:IV) (h47:Hp) (x6 x2:IV):OH :=
 Bw [.fv (.nilf)] [(0,1,x46)] fun x50=>Ay (B4 EE 98 x6 (.fv (.int .i64 30)) x50) 73402389 h47 fun _ h52 _ _=>Ay (val (CV (.func 98) [x2] [])) 73402391 h52 fun x55 h56 _ _=>Bw [.fv (.nilf)] [(0,1,x55)] fun x59=>Ay (B4 EE 98 x6 (.fv (.int .i64 19)) x59) 73402393 h56 fun _ h61 _ _=>RN x2 h61 x6
def Ro (h29:Hp) (x6 x32 x2:IV):OH :=
 Ay (B4 EE 98 x6 (.fv (.int .i64 9)) x32) 73402381 h29 fun _ h34 _ _=>Ay (val (CV (.func 96) [x2] [])) 73402383 h34 fun x37 h38 _ _=>Bw [.fv (.nilf)] [(0,1,x37)] fun x41=>Ay (B4 EE 98 x6 (.fv (.int .i64 13)) x41) 73402385 h38 fun _ h43 _ _=>Ay (val (CV (.func 97) [x2] [])) 73402387 h43 fun x46 h47 _ _=>Q4 x46 h47 x6 x2
def U0 (h16:Hp) (x2 x6:IV):OH :=
 Ay (val (CV (.func 95) [x2] [])) 73402375 h16 fun x19 h20 _ _=>Bw [.fv (.nilf)] [(0,1,x19)] fun x23=>Ay (B4 EE 98 x6 (.fv (.int .i64 8)) x23) 73402377 h20 fun _ h25 _ _=>Ay (val (CV (.func 95) [x2] [])) 73402379 h25 fun x28 h29 _ _=>Bw [.fv (.nilf)] [(0,1,x28)] fun x32=>Ro h29 x6 x32 x2
def S70 (ih:Aa) (n:Nat) (h0:Hp):OH :=
 Bw [.fv (.int .i64 0),.fv (.int .i64 0),.fv (.int .i64 0),.fv (.int .i64 0),.dead] [(0,1,.fv (.int .i64 100000)),(1,1,.fv (.int .i64 5000000))] fun x1=>AX 73401345 x1 h0 fun x2 h3 _ _=>Ay (GC 73402369) 73402369 h3 fun x6 h7 _ _=>Ay (val (CV (.func 94) [x2] [])) 73402371 h7 fun x10 h11 _ _=>Bw [.fv (.nilf)] [(0,1,x10)] fun x14=>Ay (B4 EE 98 x6 (.fv (.int .i64 5)) x14) 73402373 h11 fun _ h16 _ _=>U0 h16 x2 x6
theorem AnN (ih:Aa) (n:Nat) (h0:Hp):Aw EE ih ft.get n 70 [] h0=S70 ih n h0:=by kernel_rfl
def ME (x4:IV) (h9:Hp) (ih:Aa) (x1:IV):OH :=
 Ab 1 x4 fun x16=>Ae x16 h9 fun x17 _=>Ah [] false false ih 100 [x1,x17] h9 fun x19 h20 _ _=>Al [x19] h20
def My (x62:IV) (h3 h65:Hp) (x56 x57 x58 x59 x60 x61:IV) (q53:List IV→Hp→OH):OH :=
 Bp EE 3 x62 (.fv (.int .i64 1)) fun x66=>Bs (h3.own.map (·.1)) [74458115] [x56,x57,x58,x59,x60,x61,x66] h65 fun h67=>q53 [x56,x57,x58,x59,x60,x61,x66] h67
def L9 (ih:Aa) (h82:Hp) (x56 x57 x90:IV) (r89:AC) (x88 x62:IV) (j0_64:Hp→OH):OH :=
 Ah [true,false,false] false false ih 71 [x56,x57,x90] h82 fun x92 h93 r94 w95=>Ad [(r89,[])] r94 w95 (AT 1 x88 x62 fun x96=>A9 x96 x92 h93 fun h97 r98 w99=>Ad [] r98 w99 (j0_64 h97))
def Ml (x86:IV) (h82:Hp) (x71:IV) (ih:Aa) (x56 x57 x62:IV) (j0_64:Hp→OH):OH :=
 Ab 2 x86 fun x87=>Ae x87 h82 fun x88 r89=>Ad [] r89 [] (Ag 3 x71 h82 fun x90 r91=>Ad [(r89,[])] r91 [] (L9 ih h82 x56 x57 x90 r89 x88 x62 j0_64))
def Ma (h75:Hp) (x78:IV) (ih:Aa) (x62 x59 x71 x56 x57:IV) (j0_64:Hp→OH):OH :=
 Ae x78 h75 fun x79 _=>Ah [] false false ih 101 [x79,x62] h75 fun x81 h82 _ _=>AN EE 3 x81 (.fv (.int .i64 0)) fun x85=>Ai x85 (AH x59 fun x86=>Ml x86 h82 x71 ih x56 x57 x62 j0_64) (j0_64 h82)
def MF (x60 x62:IV) (h55:Hp) (x58:IV) (ih:Aa) (x59 x56 x57:IV) (j0_64:Hp→OH):OH :=
 AT 3 x60 x62 fun x68=>Ag 3 x68 h55 fun x69 _=>AD 74458115 (.row [.fv (.int .i64 0),.fv (.int .i64 0),.nils] false) (.ptr (.own 74458115) 0) h55 fun x71 h72 _ _=>Af 3 x71 x69 h72 fun h75 _ _=>Ab 0 x58 fun x78=>Ma h75 x78 ih x62 x59 x71 x56 x57 j0_64
def Me (x100:IV) (h55:Hp) (x59:IV) (ih:Aa) (x56:IV):OH :=
 Ab 3 x100 fun x101=>Ae x101 h55 fun x102 _=>Ch EE 36 x102 (.fv (.int .i64 0)) fun x104=>Ai x104 (Al [x59] h55) (Ah [true,false] false false ih 102 [x56,x59] h55 fun x105 h106 _ _=>Al [x105] h106)
def Mh (l113:List IV) (h3:Hp) (x56 x57 x58 x59 x60:IV) (q53:List IV→Hp→OH) (h55:Hp) (ih:Aa):OH :=
 AA l113 fun x61 l114=>AA l114 fun x62 _=>F8 EE 3 x62 x61 fun x63=>Ai x63 ((fun (j0_64:Hp→OH)=>MF x60 x62 h55 x58 ih x59 x56 x57 j0_64) fun h65=>My x62 h3 h65 x56 x57 x58 x59 x60 x61 q53) (AH x56 fun x100=>Me x100 h55 x59 ih x56)
def XJ (l54:List IV) (h3:Hp) (q53:List IV→Hp→OH) (h55:Hp) (ih:Aa):OH :=
 AA l54 fun x56 l109=>AA l109 fun x57 l110=>AA l110 fun x58 l111=>AA l111 fun x59 l112=>AA l112 fun x60 l113=>Mh l113 h3 x56 x57 x58 x59 x60 q53 h55 ih
def Mq (x50:IV) (h3 h41:Hp) (x0 x1 x4 x40:IV) (n:Nat) (ih:Aa):OH :=
 B0 x50 fun x52=>Bs (h3.own.map (·.1)) [74458115] [x0,x1,x4,x40,x50,x52,.fv (.int .i64 0)] h41 fun h116=>By n (fun q53 l54 h55=>XJ l54 h3 q53 h55 ih) [x0,x1,x4,x40,x50,x52,.fv (.int .i64 0)] h116
def Md (x46:IV) (h41:Hp) (x40 x4:IV) (h3:Hp) (x0 x1:IV) (n:Nat) (ih:Aa):OH :=
 Ch EE 36 x46 (.fv (.int .i64 0)) fun x48=>Ai x48 (Al [x40] h41) (Ab 2 x4 fun x49=>Ae x49 h41 fun x50 _=>Mq x50 h3 h41 x0 x1 x4 x40 n ih)
def L7 (h34:Hp) (x39 x0 x4:IV) (h3:Hp) (x1:IV) (n:Nat) (ih:Aa):OH :=
 AX 74453003 x39 h34 fun x40 h41 r42 w43=>Ad [] r42 w43 (AH x0 fun x44=>Ab 3 x44 fun x45=>Ae x45 h41 fun x46 _=>Md x46 h41 x40 x4 h3 x0 x1 n ih)
def Mw (h9:Hp) (x32:IV) (r28 r25:AC) (x4:IV) (r31:AC) (x24 x27 x1 x0:IV) (h3:Hp) (n:Nat) (ih:Aa):OH :=
 Ay (BS EE 74452999 127 x32 x32) 74452999 h9 fun x33 h34 r35 w36=>Ad [(r28,[]),(r25,[])] r35 w36 (Ag 3 x4 h34 fun x37 r38=>Ad [(r35,w36),(r31,[]),(r28,[]),(r25,[])] r38 [] (Bw [.fv (.int .i64 0),.fv (.int .i64 0),.nils,.fv (.int .i64 0),.fv (.int .i64 0),.nils,.fv (.nilp)] [(0,1,x24),(1,1,x27),(2,1,x33),(3,3,x37),(6,1,x1)] fun x39=>L7 h34 x39 x0 x4 h3 x1 n ih))
def L8 (r28 r25:AC) (x4:IV) (h9:Hp) (x24 x27 x1 x0:IV) (h3:Hp) (n:Nat) (ih:Aa):OH :=
 Ad [(r25,[])] r28 [] (Ab 2 x4 fun x29=>Ae x29 h9 fun x30 r31=>Ad [(r28,[]),(r25,[])] r31 [] (B0 x30 fun x32=>Mw h9 x32 r28 r25 x4 r31 x24 x27 x1 x0 h3 n ih))
def Ms (x4:IV) (h9:Hp) (x1 x0:IV) (h3:Hp) (n:Nat) (ih:Aa):OH :=
 Ab 0 x4 fun x23=>Ae x23 h9 fun x24 r25=>Ad [] r25 [] (Ab 1 x4 fun x26=>Ae x26 h9 fun x27 r28=>L8 r28 r25 x4 h9 x24 x27 x1 x0 h3 n ih)
def S71 (ih:Aa) (n:Nat) (x0 x1 x2:IV) (h3:Hp):OH :=
 AX 74448896 x2 h3 fun x4 h5 _ _=>Ah [true] false false ih 99 [x0] h5 fun _ h9 _ _=>Ab 0 x4 fun x12=>Ae x12 h9 fun x13 _=>AN EE 3 x13 (.fv (.int .i64 1)) fun x15=>Ai x15 (ME x4 h9 ih x1) (Ms x4 h9 x1 x0 h3 n ih)
theorem Aoj (ih:Aa) (n:Nat) (x0 x1 x2:IV) (h3:Hp):Aw EE ih ft.get n 71 [x0,x1,x2] h3=S71 ih n x0 x1 x2 h3:=by kernel_rfl
def Dp (h21:Hp) (x5:IV):OH :=
 As true 3 x5 h21 fun x24=>Al [x24] h21
def DO (h12:Hp) (x5 x36:IV):OH :=
 Af 3 x5 x36 h12 fun h37 _ _=>As true 3 x5 h37 fun x40=>Al [x40] h37
def DB (x1:IV) (h12:Hp) (x30 x5:IV):OH :=
 AH x1 fun x31=>Ab 1 x31 fun x32=>Ae x32 h12 fun x33 _=>Bd EE 3 x30 x33 fun x35=>Bw [.fv (.int .i64 0),.fv (.int .i64 0),.nils] [(0,1,.fv (.int .i64 1)),(1,1,x35)] fun x36=>DO h12 x5 x36
def DU (h90:Hp) (x83:IV):OH :=
 Bw [.fv (.int .i64 0),.fv (.int .i64 0),.nils] [] fun x96=>Af 3 x83 x96 h90 fun h97 _ _=>As true 3 x83 h97 fun x100=>Al [x100] h97
def Dn (x89:IV) (h4 h108:Hp) (x79 x80 x81 x82 x83 x84 x88:IV) (q51:List IV→Hp→OH):OH :=
 Bp EE 3 x89 (.fv (.int .i64 1)) fun x111=>Bs (h4.own.map (·.1)) [75512833,75516934] [x79,x80,x81,x82,x83,x84,x88,x111] h108 fun h112=>q51 [x79,x80,x81,x82,x83,x84,x88,x111] h112
def Dw (x81 x87 x82:IV) (ih:Aa) (h90:Hp) (x79 x86 x84 x85 x89:IV) (h4:Hp) (x80 x83 x88:IV) (q51:List IV→Hp→OH):OH :=
 Bp EE 3 x81 x87 fun x101=>Bp EE 3 x82 (.fv (.int .i64 1)) fun x102=>Ah [true,false,false,false] false false ih 72 [x79,x86,x101,x102] h90 fun x103 h104 _ _=>AT 3 x84 x85 fun x107=>Af 3 x107 x103 h104 fun h108 _ _=>Dn x89 h4 h108 x79 x80 x81 x82 x83 x84 x88 q51
def Cz (x79:IV) (h90:Hp) (x83 x81 x87 x82:IV) (ih:Aa) (x86 x84 x85 x89:IV) (h4:Hp) (x80 x88:IV) (q51:List IV→Hp→OH):OH :=
 AH x79 fun x91=>Ab 3 x91 fun x92=>Ae x92 h90 fun x93 _=>Ch EE 36 x93 (.fv (.int .i64 0)) fun x95=>Ai x95 (DU h90 x83) (Dw x81 x87 x82 ih h90 x79 x86 x84 x85 x89 h4 x80 x83 x88 q51)
def DE (x134:IV) (h4 h143:Hp) (x122 x123 x124 x125 x126 x127 x128 x129 x130 x131 x132 x133:IV) (q119:List IV→Hp→OH):OH :=
 Bp EE 3 x134 (.fv (.int .i64 1)) fun x146=>Bs (h4.own.map (·.1)) [75516934] [x122,x123,x124,x125,x126,x127,x128,x129,x130,x131,x132,x133,x146] h143 fun h147=>q119 [x122,x123,x124,x125,x126,x127,x128,x129,x130,x131,x132,x133,x146] h147
def DS (x124 x134:IV) (h121:Hp) (x130:IV) (h4:Hp) (x122 x123 x125 x126 x127 x128 x129 x131 x132 x133:IV) (q119:List IV→Hp→OH):OH :=
 Bp EE 3 x124 x134 fun x136=>Bw [.fv (.int .i64 0),.fv (.int .i64 0),.nils,.fv (.int .i64 0),.fv (.int .i64 0),.nils,.fv (.nilp)] [(0,1,.fv (.int .i64 1)),(1,1,x136)] fun x137=>fzS (KE true 75516934 x137) 75516934 x137 h121 fun x138 h139 _ _=>AT 1 x130 x134 fun x142=>A9 x142 x138 h139 fun h143 _ _=>DE x134 h4 h143 x122 x123 x124 x125 x126 x127 x128 x129 x130 x131 x132 x133 q119
def Dk (ih:Aa) (h121:Hp) (x122 x123 x128 x130:IV) (j11_78:IV→IV→IV→IV→IV→IV→IV→IV→IV→IV→IV→Hp→OH) (x124 x125 x126 x127 x129 x131 x132:IV):OH :=
 Ah [true,false,false,false] false false ih 103 [x122,x123,x128,x130] h121 fun x148 h149 _ _=>j11_78 x122 x123 x124 x125 x126 x127 x128 x148 x129 x131 x132 h149
def Dz (l161:List IV) (x124:IV) (h121:Hp) (x130:IV) (h4:Hp) (x122 x123 x125 x126 x127 x128 x129 x131:IV) (q119:List IV→Hp→OH) (ih:Aa) (j11_78:IV→IV→IV→IV→IV→IV→IV→IV→IV→IV→IV→Hp→OH):OH :=
 AA l161 fun x132 l162=>AA l162 fun x133 l163=>AA l163 fun x134 _=>F8 EE 3 x134 x133 fun x135=>Ai x135 (DS x124 x134 h121 x130 h4 x122 x123 x125 x126 x127 x128 x129 x131 x132 x133 q119) (Dk ih h121 x122 x123 x128 x130 j11_78 x124 x125 x126 x127 x129 x131 x132)
def Dl (l156:List IV) (x124:IV) (h121 h4:Hp) (x122 x123 x125 x126:IV) (q119:List IV→Hp→OH) (ih:Aa) (j11_78:IV→IV→IV→IV→IV→IV→IV→IV→IV→IV→IV→Hp→OH):OH :=
 AA l156 fun x127 l157=>AA l157 fun x128 l158=>AA l158 fun x129 l159=>AA l159 fun x130 l160=>AA l160 fun x131 l161=>Dz l161 x124 h121 x130 h4 x122 x123 x125 x126 x127 x128 x129 x131 q119 ih j11_78
def E8 (l120:List IV) (h121 h4:Hp) (q119:List IV→Hp→OH) (ih:Aa) (j11_78:IV→IV→IV→IV→IV→IV→IV→IV→IV→IV→IV→Hp→OH):OH :=
 AA l120 fun x122 l152=>AA l152 fun x123 l153=>AA l153 fun x124 l154=>AA l154 fun x125 l155=>AA l155 fun x126 l156=>Dl l156 x124 h121 h4 x122 x123 x125 x126 q119 ih j11_78
def DQ (h4 h115:Hp) (x54 x55 x56 x57 x58 x59 x61 x74 x114 x60 x118:IV) (n:Nat) (ih:Aa) (j11_78:IV→IV→IV→IV→IV→IV→IV→IV→IV→IV→IV→Hp→OH):OH :=
 Bs (h4.own.map (·.1)) [75516934] [x54,x55,x56,x57,x58,x59,x61,x74,x114,x60,x61,x118,.fv (.int .i64 0)] h115 fun h165=>By n (fun q119 l120 h121=>E8 l120 h121 h4 q119 ih j11_78) [x54,x55,x56,x57,x58,x59,x61,x74,x114,x60,x61,x118,.fv (.int .i64 0)] h165
def Dy (x113:IV) (h75:Hp) (x74:IV) (h4:Hp) (x54 x55 x56 x57 x58 x59 x61 x60:IV) (n:Nat) (ih:Aa) (j11_78:IV→IV→IV→IV→IV→IV→IV→IV→IV→IV→IV→Hp→OH) (x68:IV):OH :=
 Ai x113 (Ay (BS EE 75512833 127 x74 x74) 75512833 h75 fun x114 h115 _ _=>B0 x114 fun x118=>DQ h4 h115 x54 x55 x56 x57 x58 x59 x61 x74 x114 x60 x118 n ih j11_78) (j11_78 x54 x55 x56 x57 x58 x59 x61 x68 x74 x60 x61 h75)
def DH (r73 r69 r66:AC) (ih:Aa) (h53:Hp) (x72 x61:IV) (h4:Hp) (q51:List IV→Hp→OH) (x54 x55 x56 x57 x58 x59 x60:IV) (n:Nat) (x68:IV):OH :=
 Ad [(r69,[]),(r66,[])] r73 [] (Ah [] false false ih 101 [x72,x61] h53 fun x74 h75 r76 w77=>Ad [(r69,[]),(r66,[])] r76 w77 ((fun (j11_78:IV→IV→IV→IV→IV→IV→IV→IV→IV→IV→IV→Hp→OH)=>Ke EE 3 x74 (.fv (.int .i64 0)) fun x113=>Dy x113 h75 x74 h4 x54 x55 x56 x57 x58 x59 x61 x60 n ih j11_78 x68) fun x79 x80 x81 x82 x83 x84 x85 x86 x87 x88 x89 h90=>Cz x79 h90 x83 x81 x87 x82 ih x86 x84 x85 x89 h4 x80 x88 q51))
def Da (h53:Hp) (x67 x55:IV) (r66:AC) (ih:Aa) (x61:IV) (h4:Hp) (q51:List IV→Hp→OH) (x54 x56 x57 x58 x59 x60:IV) (n:Nat):OH :=
 Ae x67 h53 fun x68 r69=>Ad [] r69 [] (AH x55 fun x70=>Ab 0 x70 fun x71=>Ae x71 h53 fun x72 r73=>DH r73 r69 r66 ih h53 x72 x61 h4 q51 x54 x55 x56 x57 x58 x59 x60 n x68)
def DK (x55:IV) (h53:Hp) (x61:IV) (ih:Aa) (h4:Hp) (q51:List IV→Hp→OH) (x54 x56 x57 x58 x59 x60:IV) (n:Nat):OH :=
 AH x55 fun x63=>Ab 2 x63 fun x64=>Ae x64 h53 fun x65 r66=>Ad [] r66 [] (AT 1 x65 x61 fun x67=>Da h53 x67 x55 r66 ih x61 h4 q51 x54 x56 x57 x58 x59 x60 n)
def DM (r176 w177:AC) (h175:Hp) (x58:IV):OH :=
 Ad [] r176 w177 (As true 3 x58 h175 fun x178=>Al [x178] h175)
def C6 (x170:IV) (h53:Hp) (r169:AC) (x168 x59 x58:IV):OH :=
 Ab 1 x170 fun x171=>Ae x171 h53 fun x172 r173=>Ad [(r169,[])] r173 [] (Bw [.fv (.int .i64 0),.fv (.int .i64 0),.nils] [(0,1,x168),(1,1,x172),(2,1,x59)] fun x174=>Af 3 x58 x174 h53 fun h175 r176 w177=>DM r176 w177 h175 x58)
def DX (x55:IV) (h53:Hp) (x59 x58:IV):OH :=
 AH x55 fun x166=>Ab 0 x166 fun x167=>Ae x167 h53 fun x168 r169=>Ad [] r169 [] (AH x55 fun x170=>C6 x170 h53 r169 x168 x59 x58)
def DI (l183:List IV) (x55:IV) (h53:Hp) (ih:Aa) (h4:Hp) (q51:List IV→Hp→OH) (x54 x56 x57 x58:IV) (n:Nat):OH :=
 AA l183 fun x59 l184=>AA l184 fun x60 l185=>AA l185 fun x61 _=>F8 EE 3 x61 x60 fun x62=>Ai x62 (DK x55 h53 x61 ih h4 q51 x54 x56 x57 x58 x59 x60 n) (DX x55 h53 x59 x58)
def E1 (l52:List IV) (h53:Hp) (ih:Aa) (h4:Hp) (q51:List IV→Hp→OH) (n:Nat):OH :=
 AA l52 fun x54 l179=>AA l179 fun x55 l180=>AA l180 fun x56 l181=>AA l181 fun x57 l182=>AA l182 fun x58 l183=>DI l183 x55 h53 ih h4 q51 x54 x56 x57 x58 n
def DF (h4 h47:Hp) (x0 x1 x2 x3 x5 x46 x50:IV) (n:Nat) (ih:Aa):OH :=
 Bs (h4.own.map (·.1)) [75512833,75516934] [x0,x1,x2,x3,x5,x46,x50,.fv (.int .i64 0)] h47 fun h187=>By n (fun q51 l52 h53=>E1 l52 h53 ih h4 q51 n) [x0,x1,x2,x3,x5,x46,x50,.fv (.int .i64 0)] h187
def DL (x41:IV) (h12 h4:Hp) (x0 x1 x2 x3 x5:IV) (n:Nat) (ih:Aa):OH :=
 Ab 2 x41 fun x42=>Ae x42 h12 fun x43 _=>B0 x43 fun x45=>Ay (BS EE 75506693 28 x45 x45) 75506693 h12 fun x46 h47 _ _=>B0 x46 fun x50=>DF h4 h47 x0 x1 x2 x3 x5 x46 x50 n ih
def Du (h12:Hp) (x26 x2 x1 x5:IV) (h4:Hp) (x0 x3:IV) (n:Nat) (ih:Aa):OH :=
 Ae x26 h12 fun x27 _=>AN EE 3 x27 (.fv (.int .i64 1)) fun x29=>Ai x29 (Bd EE 3 x2 (.fv (.int .i64 1)) fun x30=>DB x1 h12 x30 x5) (AH x1 fun x41=>DL x41 h12 h4 x0 x1 x2 x3 x5 n ih)
def C7 (x19:IV) (h12:Hp) (x5 x1 x2:IV) (h4:Hp) (x0 x3:IV) (n:Nat) (ih:Aa):OH :=
 Ai x19 (Bw [.fv (.int .i64 0),.fv (.int .i64 0),.nils] [] fun x20=>Af 3 x5 x20 h12 fun h21 _ _=>Dp h21 x5) (AH x1 fun x25=>Ab 0 x25 fun x26=>Du h12 x26 x2 x1 x5 h4 x0 x3 n ih)
def E4 (ih:Aa) (h10:Hp) (x0 x5 x1 x2:IV) (h4:Hp) (x3:IV) (n:Nat):OH :=
 Ah [true] false false ih 99 [x0] h10 fun _ h12 _ _=>AH x0 fun x15=>Ab 3 x15 fun x16=>Ae x16 h12 fun x17 _=>Ch EE 36 x17 (.fv (.int .i64 0)) fun x19=>C7 x19 h12 x5 x1 x2 h4 x0 x3 n ih
def DN (x256:IV) (h252:Hp) (j0_9:Hp→OH):OH :=
 Ab 3 x256 fun x257=>A9 x257 (.fv (.int .i64 5)) h252 fun h258 _ _=>j0_9 h258
def DV (h246:Hp) (x202 x234 x245 x0:IV) (j0_9:Hp→OH):OH :=
 Ac x202 true h246 (fun k249=>AI x234 (.fv (.bool true)) x245 fun x250=>k249 x250 h246 [] []) fun x251 h252 _ _=>AI x202 x251 (.fv (.bool false)) fun x255=>Ai x255 (AH x0 fun x256=>DN x256 h252 j0_9) (j0_9 h252)
def DP (h217:Hp) (x202 x216 x3 x0:IV) (j0_9:Hp→OH):OH :=
 Ac x202 true h217 (fun k220=>Ae x216 h217 fun x221 r222=>k220 x221 h217 r222 []) fun x223 h224 _ _=>Ac x202 true h224 (fun k227=>Ke EE 3 x223 (.fv (.int .i64 3000)) fun x228=>k227 x228 h224 [] []) fun x229 h230 _ _=>Ac x202 true h230 (fun k233=>k233 x229 h230 [] []) fun x234 h235 _ _=>Ac x234 false h235 (fun k238=>k238 x3 h235 [] []) fun x239 h240 _ _=>Ac x234 false h240 (fun k243=>Ke EE 3 x239 (.fv (.int .i64 120)) fun x244=>k243 x244 h240 [] []) fun x245 h246 _ _=>DV h246 x202 x234 x245 x0 j0_9
def Di (h195:Hp) (x199 x0 x3:IV) (j0_9:Hp→OH):OH :=
 Ae x199 h195 fun x200 _=>AN EE 36 x200 (.fv (.int .i64 0)) fun x202=>Ac x202 true h195 (fun k203=>k203 x0 h195 [] []) fun x204 h205 _ _=>Ac x202 true h205 (fun k208=>AH x204 fun x209=>k208 x209 h205 [] []) fun x210 h211 _ _=>Ac x202 true h211 (fun k214=>Ab 2 x210 fun x215=>k214 x215 h211 [] []) fun x216 h217 _ _=>DP h217 x202 x216 x3 x0 j0_9
def DC (x0:IV) (h6:Hp) (x192 x3:IV) (j0_9:Hp→OH):OH :=
 AH x0 fun x193=>Ab 2 x193 fun x194=>A9 x194 x192 h6 fun h195 _ _=>AH x0 fun x198=>Ab 3 x198 fun x199=>Di h195 x199 x0 x3 j0_9
def S72 (ih:Aa) (n:Nat) (x0 x1 x2 x3:IV) (h4:Hp):OH :=
 AD 75497472 (.row [.fv (.int .i64 0),.fv (.int .i64 0),.nils] false) (.ptr (.own 75497472) 0) h4 fun x5 h6 _ _=>(fun (j0_9:Hp→OH)=>AH x0 fun x188=>Ab 2 x188 fun x189=>Ae x189 h6 fun x190 _=>Bp EE 3 x190 (.fv (.int .i64 1)) fun x192=>DC x0 h6 x192 x3 j0_9) fun h10=>E4 ih h10 x0 x5 x1 x2 h4 x3 n
theorem Ap6 (ih:Aa) (n:Nat) (x0 x1 x2 x3:IV) (h4:Hp):Aw EE ih ft.get n 72 [x0,x1,x2,x3] h4=S72 ih n x0 x1 x2 x3 h4:=by kernel_rfl
def S73 (ih:Aa) (n:Nat) (x0 x1:IV) (h2:Hp):OH :=
 Ah [] false false ih 104 [x0,x1] h2 fun x3 h4 _ _=>Uv EE 3 x3 (.fv (.int .i64 0)) fun x7=>Al [x7] h4
theorem AqE (ih:Aa) (n:Nat) (x0 x1:IV) (h2:Hp):Aw EE ih ft.get n 73 [x0,x1] h2=S73 ih n x0 x1 h2:=by kernel_rfl
def S74 (ih:Aa) (n:Nat) (x0 x1:IV) (h2:Hp):OH :=
 AX 77594624 x0 h2 fun x3 h4 _ _=>Ae x1 h4 fun x7 _=>Ag 3 x3 h4 fun x9 _=>Fs EE ih x7 [x9] h4 fun x11 h12 _ _=>CL (LR .not x11) fun x15=>Al [x15] h12
theorem AnI (ih:Aa) (n:Nat) (x0 x1:IV) (h2:Hp):Aw EE ih ft.get n 74 [x0,x1] h2=S74 ih n x0 x1 h2:=by kernel_rfl
def Aqk (x38:IV) (h39:Hp) (x12:IV):OH :=
 Ar 0 x38 fun x42=>Ar 1 x38 fun x43=>Af 3 x12 x42 h39 fun h44 _ _=>As true 3 x12 h44 fun x47=>Al [x47,x43] h44
def Aog (ih:Aa) (h34:Hp) (x48 x12:IV):OH :=
 Ah [] false false ih 105 [x48] h34 fun x50 h51 _ _=>Ar 0 x50 fun x54=>Ar 1 x50 fun x55=>Af 3 x12 x54 h51 fun h56 _ _=>As true 3 x12 h56 fun x59=>Al [x59,x55] h56
def AoX (r35 w36:AC) (x29:IV) (ih:Aa) (h34:Hp) (x12 x30:IV):OH :=
 Ad [] r35 w36 (Ch EE 3 x29 (.fv (.int .i64 0)) fun x37=>Ai x37 (Ah [] false false ih 44 [x29] h34 fun x38 h39 _ _=>Aqk x38 h39 x12) (Ag 3 x30 h34 fun x48 _=>Aog ih h34 x48 x12))
def AoI (x24:IV) (h25:Hp) (r26 w27 r23 r20 w21 r17:AC) (ih:Aa) (x12:IV):OH :=
 Ar 0 x24 fun x28=>Ar 1 x24 fun x29=>AD 81789960 (.row [.fv (.int .i64 0),.fv (.int .i64 0),.nils] false) (.ptr (.own 81789960) 0) h25 fun x30 h31 r32 w33=>Ad [(r26,w27),(r23,[]),(r20,w21),(r17,[])] r32 w33 (Af 3 x30 x28 h31 fun h34 r35 w36=>AoX r35 w36 x29 ih h34 x12 x30)
def AnS (r20 w21:AC) (h19:Hp) (x8:IV) (r17:AC) (ih:Aa) (x18 x12:IV):OH :=
 Ad [] r20 w21 (Ag 3 x8 h19 fun x22 r23=>Ad [(r20,w21),(r17,[])] r23 [] (Ah [] false false ih 20 [x18,.fv (.int .i64 0),x22] h19 fun x24 h25 r26 w27=>Ad [] r26 w27 (AoI x24 h25 r26 w27 r23 r20 w21 r17 ih x12)))
def S78 (ih:Aa) (n:Nat) (x0 x1 x2:IV) (h3:Hp):OH :=
 AX 81788928 x1 h3 fun x4 h5 _ _=>AX 81788929 x2 h5 fun x8 h9 _ _=>AD 81788930 (.row [.fv (.int .i64 0),.fv (.int .i64 0),.nils] false) (.ptr (.own 81788930) 0) h9 fun x12 h13 _ _=>Ag 3 x4 h13 fun x16 r17=>Ad [] r17 [] (Ah [] false false ih 79 [x0,.fv (.int .i64 0),x16] h13 fun x18 h19 r20 w21=>AnS r20 w21 h19 x8 r17 ih x18 x12)
theorem ApE (ih:Aa) (n:Nat) (x0 x1 x2:IV) (h3:Hp):Aw EE ih ft.get n 78 [x0,x1,x2] h3=S78 ih n x0 x1 x2 h3:=by kernel_rfl
def AqO (r25 w26:AC) (h24:Hp) (x23:IV):OH :=
 Ad [] r25 w26 (Al [x23] h24)
def Aqp (r17 r14 w15 r10 w11:AC) (x1 x16:IV) (h13:Hp) (x12:IV):OH :=
 Ad [(r14,w15),(r10,w11)] r17 [] (Bw [.fv (.int .i64 0),.fv (.int .i64 0),.fv (.int .i64 0),.nils] [(0,1,x1),(1,3,x16)] fun x18=>Ay (Ak EE 27 1 [(0,x18)]) 82838534 h13 fun x19 h20 r21 w22=>Ad [(r14,w15),(r10,w11)] r21 w22 (Ay (AS EE 82838535 false .append [27,27] [x12,x19]) 82838535 h20 fun x23 h24 r25 w26=>AqO r25 w26 h24 x23))
def S79 (ih:Aa) (n:Nat) (x0 x1 x2:IV) (h3:Hp):OH :=
 AX 82837504 x2 h3 fun x4 h5 _ _=>Ay (Ak EE 27 0 []) 82838528 h5 fun x8 h9 r10 w11=>Ad [] r10 w11 (Ay (AS EE 82838530 false .append [27,27] [x8,x0]) 82838530 h9 fun x12 h13 r14 w15=>Ad [] r14 w15 (Ag 3 x4 h13 fun x16 r17=>Aqp r17 r14 w15 r10 w11 x1 x16 h13 x12))
theorem Ap4 (ih:Aa) (n:Nat) (x0 x1 x2:IV) (h3:Hp):Aw EE ih ft.get n 79 [x0,x1,x2] h3=S79 ih n x0 x1 x2 h3:=by kernel_rfl
def Anq (x32:IV) (h33:Hp) (x9 x36:IV):OH :=
 Ar 1 x32 fun x37=>Af 3 x9 x36 h33 fun h38 _ _=>As true 3 x9 h38 fun x41=>Al [x41,x37] h38
def ApX (h44:Hp) (x9:IV):OH :=
 As true 3 x9 h44 fun x47=>Al [x47,.fv (.int .i64 0)] h44
def ApY (x29:IV) (ih:Aa) (h30:Hp) (x9 x21:IV):OH :=
 Ch EE 3 x29 (.fv (.int .i64 0)) fun x31=>Ai x31 (Ah [] false false ih 44 [x29] h30 fun x32 h33 _ _=>Ar 0 x32 fun x36=>Anq x32 h33 x9 x36) (Ag 3 x21 h30 fun x42 _=>Af 3 x9 x42 h30 fun h44 _ _=>ApX h44 x9)
def Aof (h52:Hp) (x48 x51 x3:IV) (j1_28:IV→Hp→OH) (x20:IV):OH :=
 Ac x48 true h52 (fun k55=>Ae x51 h52 fun x56 r57=>k55 x56 h52 r57 []) fun x58 h59 _ _=>Ac x48 true h59 (fun k62=>k62 x3 h59 [] []) fun x63 h64 _ _=>Ac x48 true h64 (fun k67=>Ch EE 3 x58 x63 fun x68=>k67 x68 h64 [] []) fun x69 h70 _ _=>AI x48 x69 (.fv (.bool false)) fun x73=>Ai x73 (j1_28 (.fv (.int .i64 12)) h70) (j1_28 x20 h70)
def AqD (h16:Hp) (x19:IV) (ih:Aa) (x9 x20 x3:IV):OH :=
 AD 83887111 (.row [.fv (.int .i64 0),.fv (.int .i64 0),.nils] false) (.ptr (.own 83887111) 0) h16 fun x21 h22 _ _=>Af 3 x21 x19 h22 fun h25 _ _=>(fun (j1_28:IV→Hp→OH)=>AN EE 3 x20 (.fv (.int .i64 0)) fun x48=>Ac x48 true h25 (fun k49=>Ab 0 x21 fun x50=>k49 x50 h25 [] []) fun x51 h52 _ _=>Aof h52 x48 x51 x3 j1_28 x20) fun x29 h30=>ApY x29 ih h30 x9 x21
def S80 (ih:Aa) (n:Nat) (x0 x1 x2 x3:IV) (h4:Hp):OH :=
 AX 83886080 x2 h4 fun x5 h6 _ _=>AD 83886081 (.row [.fv (.int .i64 0),.fv (.int .i64 0),.nils] false) (.ptr (.own 83886081) 0) h6 fun x9 h10 _ _=>Ag 3 x5 h10 fun x13 _=>Ah [] false false ih 20 [x0,x1,x13] h10 fun x15 h16 _ _=>Ar 0 x15 fun x19=>Ar 1 x15 fun x20=>AqD h16 x19 ih x9 x20 x3
theorem Aon (ih:Aa) (n:Nat) (x0 x1 x2 x3:IV) (h4:Hp):Aw EE ih ft.get n 80 [x0,x1,x2,x3] h4=S80 ih n x0 x1 x2 x3 h4:=by kernel_rfl
def AlF (x38:IV) (h39:Hp) (x7 x42:IV):OH :=
 Ar 1 x38 fun x43=>Af 3 x7 x42 h39 fun h44 _ _=>As true 3 x7 h44 fun x47=>Al [x47,x43] h44
def Ai1 (x49:IV) (h36:Hp) (x7:IV):OH :=
 AT 3 x49 (.fv (.int .i64 1)) fun x51=>Ag 3 x51 h36 fun x52 _=>Af 3 x7 x52 h36 fun h54 _ _=>As true 3 x7 h54 fun x57=>Al [x57,.fv (.int .i64 0)] h54
def Ahh (x35:IV) (ih:Aa) (h36:Hp) (x7 x27:IV):OH :=
 Ch EE 3 x35 (.fv (.int .i64 0)) fun x37=>Ai x37 (Ah [] false false ih 44 [x35] h36 fun x38 h39 _ _=>Ar 0 x38 fun x42=>AlF x38 h39 x7 x42) (Ab 2 x27 fun x48=>Ae x48 h36 fun x49 _=>Ai1 x49 h36 x7)
def Ajo (x63:IV) (h31:Hp) (r61:AC) (ih:Aa) (x0 x60:IV) (j1_34:IV→Hp→OH):OH :=
 AT 3 x63 (.fv (.int .i64 0)) fun x65=>Ag 3 x65 h31 fun x66 r67=>Ad [(r61,[])] r67 [] (Ah [] false false ih 48 [x0,.fv (.int .i64 0),x60,x66] h31 fun x68 h69 r70 w71=>Ad [] r70 w71 (j1_34 x68 h69))
def AjE (h31:Hp) (x59 x27:IV) (ih:Aa) (x0:IV) (j1_34:IV→Hp→OH):OH :=
 Ag 3 x59 h31 fun x60 r61=>Ad [] r61 [] (Ab 2 x27 fun x62=>Ae x62 h31 fun x63 r64=>Ad [(r61,[])] r64 [] (Ajo x63 h31 r61 ih x0 x60 j1_34))
def Ain (ih:Aa) (x7 x27 x26 x12:IV) (h31:Hp) (x0:IV):OH :=
 (fun (j1_34:IV→Hp→OH)=>AN EE 3 x26 (.fv (.int .i64 0)) fun x58=>Ai x58 (AT 3 x12 (.fv (.int .i64 1)) fun x59=>AjE h31 x59 x27 ih x0 j1_34) (j1_34 x26 h31)) fun x35 h36=>Ahh x35 ih h36 x7 x27
def Ah6 (ih:Aa) (h8:Hp) (x0 x19 x7 x12:IV):OH :=
 Ah [] false false ih 80 [x0,.fv (.int .i64 0),x19,.fv (.int .i64 16)] h8 fun x21 h22 _ _=>Ar 0 x21 fun x25=>Ar 1 x21 fun x26=>AD 84938760 (.row [.fv (.int .i64 0),.fv (.int .i64 0),.nils] false) (.ptr (.own 84938760) 0) h22 fun x27 h28 _ _=>Af 3 x27 x25 h28 fun h31 _ _=>Ain ih x7 x27 x26 x12 h31 x0
def Ah4 (x90:IV) (h91:Hp) (x7:IV):OH :=
 Ar 0 x90 fun x94=>Ar 1 x90 fun x95=>Af 3 x7 x94 h91 fun h96 _ _=>As true 3 x7 h96 fun x99=>Al [x99,x95] h96
def Al5 (x117:IV) (h118:Hp) (x7:IV):OH :=
 Ar 0 x117 fun x121=>Ar 1 x117 fun x122=>Af 3 x7 x121 h118 fun h123 _ _=>As true 3 x7 h123 fun x126=>Al [x126,x122] h123
def Aib (x139:IV) (h140:Hp) (x7 x143:IV):OH :=
 Ar 1 x139 fun x144=>Af 3 x7 x143 h140 fun h145 _ _=>As true 3 x7 h145 fun x148=>Al [x148,x144] h145
def Aia (h113:Hp) (x109 x127:IV) (ih:Aa) (x7:IV):OH :=
 Ag 3 x109 h113 fun x129 _=>Ay (Ak EE 28 2 [(0,x127),(1,x129)]) 84952066 h113 fun x131 h132 _ _=>Ah [] false false ih 24 [.fv (.int .i64 17),x131] h132 fun x135 h136 _ _=>Ah [] false false ih 34 [x135] h136 fun x139 h140 _ _=>Ar 0 x139 fun x143=>Aib x139 h140 x7 x143
def AlK (h110:Hp) (x109 x107 x108:IV) (ih:Aa) (x7 x82:IV):OH :=
 Af 3 x109 x107 h110 fun h113 _ _=>Ch EE 3 x108 (.fv (.int .i64 0)) fun x116=>Ai x116 (Ah [] false false ih 44 [x108] h113 fun x117 h118 _ _=>Al5 x117 h118 x7) (Ag 3 x82 h113 fun x127 _=>Aia h113 x109 x127 ih x7)
def AlZ (h86:Hp) (x100:IV) (ih:Aa) (x0 x7 x82:IV):OH :=
 Ag 3 x100 h86 fun x101 _=>Ah [] false false ih 20 [x0,.fv (.int .i64 0),x101] h86 fun x103 h104 _ _=>Ar 0 x103 fun x107=>Ar 1 x103 fun x108=>AD 84949000 (.row [.fv (.int .i64 0),.fv (.int .i64 0),.nils] false) (.ptr (.own 84949000) 0) h104 fun x109 h110 _ _=>AlK h110 x109 x107 x108 ih x7 x82
def AkT (h77:Hp) (x80 x81:IV) (ih:Aa) (x7 x12 x0:IV):OH :=
 AD 84945928 (.row [.fv (.int .i64 0),.fv (.int .i64 0),.nils] false) (.ptr (.own 84945928) 0) h77 fun x82 h83 _ _=>Af 3 x82 x80 h83 fun h86 _ _=>Ch EE 3 x81 (.fv (.int .i64 0)) fun x89=>Ai x89 (Ah [] false false ih 44 [x81] h86 fun x90 h91 _ _=>Ah4 x90 h91 x7) (AT 3 x12 (.fv (.int .i64 1)) fun x100=>AlZ h86 x100 ih x0 x7 x82)
def Ag9 (x12:IV) (h8:Hp) (ih:Aa) (x0 x7:IV):OH :=
 AT 3 x12 (.fv (.int .i64 0)) fun x73=>Ag 3 x73 h8 fun x74 _=>Ah [] false false ih 20 [x0,.fv (.int .i64 0),x74] h8 fun x76 h77 _ _=>Ar 0 x76 fun x80=>Ar 1 x76 fun x81=>AkT h77 x80 x81 ih x7 x12 x0
def AhJ (x162:IV) (h163:Hp) (x7 x166:IV):OH :=
 Ar 1 x162 fun x167=>Af 3 x7 x166 h163 fun h168 _ _=>As true 3 x7 h168 fun x171=>Al [x171,x167] h168
def Ai6 (x192:IV) (h193:Hp) (x7 x196:IV):OH :=
 Ar 1 x192 fun x197=>Af 3 x7 x196 h193 fun h198 _ _=>As true 3 x7 h198 fun x201=>Al [x201,x197] h198
def Aj7 (h204:Hp) (x7:IV):OH :=
 As true 3 x7 h204 fun x207=>Al [x207,.fv (.int .i64 0)] h204
def AkB (x189:IV) (ih:Aa) (h190:Hp) (x7 x181:IV):OH :=
 Ch EE 3 x189 (.fv (.int .i64 0)) fun x191=>Ai x191 (Ah [] false false ih 44 [x189] h190 fun x192 h193 _ _=>Ar 0 x192 fun x196=>Ai6 x192 h193 x7 x196) (Ag 3 x181 h190 fun x202 _=>Af 3 x7 x202 h190 fun h204 _ _=>Aj7 h204 x7)
def AlT (r216 w217:AC) (j1_188:IV→Hp→OH) (h215:Hp) (x214:IV):OH :=
 Ad [] r216 w217 (j1_188 x214 h215)
def Amg (h185:Hp) (x209 x181:IV) (ih:Aa) (x0:IV) (j1_188:IV→Hp→OH):OH :=
 Ag 3 x209 h185 fun x210 r211=>Ad [] r211 [] (Ag 3 x181 h185 fun x212 r213=>Ad [(r211,[])] r213 [] (Ah [] false false ih 48 [x0,.fv (.int .i64 0),x210,x212] h185 fun x214 h215 r216 w217=>AlT r216 w217 j1_188 h215 x214))
def Ah8 (ih:Aa) (x7 x181 x180 x12:IV) (h185:Hp) (x0:IV):OH :=
 (fun (j1_188:IV→Hp→OH)=>AN EE 3 x180 (.fv (.int .i64 0)) fun x208=>Ai x208 (AT 3 x12 (.fv (.int .i64 2)) fun x209=>Amg h185 x209 x181 ih x0 j1_188) (j1_188 x180 h185)) fun x189 h190=>AkB x189 ih h190 x7 x181
def AjG (ih:Aa) (h158:Hp) (x0 x173 x7 x12:IV):OH :=
 Ah [] false false ih 20 [x0,.fv (.int .i64 0),x173] h158 fun x175 h176 _ _=>Ar 0 x175 fun x179=>Ar 1 x175 fun x180=>AD 84957192 (.row [.fv (.int .i64 0),.fv (.int .i64 0),.nils] false) (.ptr (.own 84957192) 0) h176 fun x181 h182 _ _=>Af 3 x181 x179 h182 fun h185 _ _=>Ah8 ih x7 x181 x180 x12 h185 x0
def Ahc (x157:IV) (ih:Aa) (h158:Hp) (x7 x12 x0:IV):OH :=
 Ch EE 3 x157 (.fv (.int .i64 0)) fun x161=>Ai x161 (Ah [] false false ih 44 [x157] h158 fun x162 h163 _ _=>Ar 0 x162 fun x166=>AhJ x162 h163 x7 x166) (AT 3 x12 (.fv (.int .i64 1)) fun x172=>Ag 3 x172 h158 fun x173 _=>AjG ih h158 x0 x173 x7 x12)
def Akw (r152:AC) (ih:Aa) (h8:Hp) (x0 x151 x7 x12:IV):OH :=
 Ad [] r152 [] (Ah [] false false ih 24 [.fv (.int .i64 15),.nils] h8 fun x153 h154 r155 w156=>Ad [(r152,[])] r155 w156 (Ah [] false false ih 48 [x0,.fv (.int .i64 0),x151,x153] h154 fun x157 h158 r159 w160=>Ad [] r159 w160 (Ahc x157 ih h158 x7 x12 x0)))
def Amh (x235:IV) (h236:Hp) (x7 x239:IV):OH :=
 Ar 1 x235 fun x240=>Af 3 x7 x239 h236 fun h241 _ _=>As true 3 x7 h241 fun x244=>Al [x244,x240] h241
def Alf (h231:Hp) (x7 x253:IV):OH :=
 Af 3 x7 x253 h231 fun h255 _ _=>As true 3 x7 h255 fun x258=>Al [x258,.fv (.int .i64 0)] h255
def AhR (x3:IV) (h231:Hp) (x246 x7:IV):OH :=
 Ab 0 x3 fun x248=>Ae x248 h231 fun x249 _=>Bd EE 3 x249 (.fv (.int .i64 23)) fun x251=>AT 3 x246 x251 fun x252=>Ag 3 x252 h231 fun x253 _=>Alf h231 x7 x253
def Alm (x226:IV) (ih:Aa) (h231:Hp) (x7 x227 x3:IV):OH :=
 Ch EE 3 x226 (.fv (.int .i64 0)) fun x234=>Ai x234 (Ah [] false false ih 44 [x226] h231 fun x235 h236 _ _=>Ar 0 x235 fun x239=>Amh x235 h236 x7 x239) (Ab 2 x227 fun x245=>Ae x245 h231 fun x246 _=>AhR x3 h231 x246 x7)
def Alb (ih:Aa) (h8:Hp) (x0 x219 x7 x3:IV):OH :=
 Ah [] false false ih 80 [x0,.fv (.int .i64 0),x219,.fv (.int .i64 17)] h8 fun x221 h222 _ _=>Ar 0 x221 fun x225=>Ar 1 x221 fun x226=>AD 84963336 (.row [.fv (.int .i64 0),.fv (.int .i64 0),.nils] false) (.ptr (.own 84963336) 0) h222 fun x227 h228 _ _=>Af 3 x227 x225 h228 fun h231 _ _=>Alm x226 ih h231 x7 x227 x3
def AkM (x15 x12:IV) (h8:Hp) (ih:Aa) (x0 x7 x3:IV):OH :=
 AN EE 3 x15 (.fv (.int .i64 27)) fun x149=>Ai x149 (AT 3 x12 (.fv (.int .i64 0)) fun x150=>Ag 3 x150 h8 fun x151 r152=>Akw r152 ih h8 x0 x151 x7 x12) (AT 3 x12 (.fv (.int .i64 0)) fun x218=>Ag 3 x218 h8 fun x219 _=>Alb ih h8 x0 x219 x7 x3)
def Al1 (x15 x12:IV) (h8:Hp) (ih:Aa) (x0 x7 x3:IV):OH :=
 AN EE 3 x15 (.fv (.int .i64 21)) fun x17=>Ai x17 (AT 3 x12 (.fv (.int .i64 0)) fun x18=>Ag 3 x18 h8 fun x19 _=>Ah6 ih h8 x0 x19 x7 x12) (AN EE 3 x15 (.fv (.int .i64 22)) fun x72=>Ai x72 (Ag9 x12 h8 ih x0 x7) (AkM x15 x12 h8 ih x0 x7 x3))
def S81 (ih:Aa) (n:Nat) (x0 x1:IV) (h2:Hp):OH :=
 AX 84934656 x1 h2 fun x3 h4 _ _=>AD 84934657 (.row [.fv (.int .i64 0),.fv (.int .i64 0),.nils] false) (.ptr (.own 84934657) 0) h4 fun x7 h8 _ _=>Ab 2 x3 fun x11=>Ae x11 h8 fun x12 _=>Ab 0 x3 fun x14=>Ae x14 h8 fun x15 _=>Al1 x15 x12 h8 ih x0 x7 x3
theorem Aor (ih:Aa) (n:Nat) (x0 x1:IV) (h2:Hp):Aw EE ih ft.get n 81 [x0,x1] h2=S81 ih n x0 x1 h2:=by kernel_rfl
def Apg (r53 w54:AC) (ih:Aa) (h52:Hp) (x45 x51:IV):OH :=
 Ad [] r53 w54 (Ah [] false false ih 17 [x45,x51] h52 fun x55 h56 r57 w58=>Ad [] r57 w58 (Al [x55,.fv (.int .i64 0)] h56))
def ApV (ih:Aa) (h39:Hp) (x43 x35:IV) (r44:AC):OH :=
 Ah [] false false ih 86 [x43] h39 fun x45 h46 r47 w48=>Ad [] r47 w48 (Ag 3 x35 h46 fun x49 r50=>Ad [(r47,w48),(r44,[])] r50 [] (Ah [] false false ih 86 [x49] h46 fun x51 h52 r53 w54=>Apg r53 w54 ih h52 x45 x51))
def Aox (x34:IV) (h39:Hp) (x19:IV) (ih:Aa) (x35:IV):OH :=
 Ch EE 3 x34 (.fv (.int .i64 0)) fun x42=>Ai x42 (Al [.fv (.bool false),x34] h39) (Ag 3 x19 h39 fun x43 r44=>Ad [] r44 [] (ApV ih h39 x43 x35 r44))
def Ap0 (ih:Aa) (h23:Hp) (x27 x19:IV):OH :=
 Ah [] false false ih 34 [x27] h23 fun x29 h30 _ _=>Ar 0 x29 fun x33=>Ar 1 x29 fun x34=>AD 85987333 (.row [.fv (.int .i64 0),.fv (.int .i64 0),.nils] false) (.ptr (.own 85987333) 0) h30 fun x35 h36 _ _=>Af 3 x35 x33 h36 fun h39 _ _=>Aox x34 h39 x19 ih x35
def Aqa (h14:Hp) (x17 x18 x7:IV) (ih:Aa):OH :=
 AD 85984261 (.row [.fv (.int .i64 0),.fv (.int .i64 0),.nils] false) (.ptr (.own 85984261) 0) h14 fun x19 h20 _ _=>Af 3 x19 x17 h20 fun h23 _ _=>Ch EE 3 x18 (.fv (.int .i64 0)) fun x26=>Ai x26 (Al [.fv (.bool false),x18] h23) (Ag 3 x7 h23 fun x27 _=>Ap0 ih h23 x27 x19)
def S82 (ih:Aa) (n:Nat) (x0 x1:IV) (h2:Hp):OH :=
 AX 85983232 x0 h2 fun x3 h4 _ _=>AX 85983233 x1 h4 fun x7 h8 _ _=>Ag 3 x3 h8 fun x11 _=>Ah [] false false ih 34 [x11] h8 fun x13 h14 _ _=>Ar 0 x13 fun x17=>Ar 1 x13 fun x18=>Aqa h14 x17 x18 x7 ih
theorem AoM (ih:Aa) (n:Nat) (x0 x1:IV) (h2:Hp):Aw EE ih ft.get n 82 [x0,x1] h2=S82 ih n x0 x1 h2:=by kernel_rfl
def AnE (h19:Hp) (x27:IV):OH :=
 Ae x27 h19 fun x28 _=>Al [x28,.fv (.int .i64 0)] h19
def An1 (h19:Hp) (x23 x15:IV):OH :=
 Ae x23 h19 fun x24 _=>Ch EE 3 x24 (.fv (.int .i64 2)) fun x26=>Ai x26 (Al [.fv (.int .i64 0),.fv (.int .i64 12)] h19) (Ab 1 x15 fun x27=>AnE h19 x27)
def Aqh (h16:Hp) (x15 x13 x14:IV):OH :=
 Af 3 x15 x13 h16 fun h19 _ _=>Ch EE 3 x14 (.fv (.int .i64 0)) fun x22=>Ai x22 (Al [.fv (.int .i64 0),x14] h19) (Ab 0 x15 fun x23=>An1 h19 x23 x15)
def S83 (ih:Aa) (n:Nat) (x0 x1:IV) (h2:Hp):OH :=
 AX 87031808 x1 h2 fun x3 h4 _ _=>Ag 3 x3 h4 fun x7 _=>Ah [] false false ih 20 [x0,.fv (.int .i64 1),x7] h4 fun x9 h10 _ _=>Ar 0 x9 fun x13=>Ar 1 x9 fun x14=>AD 87032838 (.row [.fv (.int .i64 0),.fv (.int .i64 0),.nils] false) (.ptr (.own 87032838) 0) h10 fun x15 h16 _ _=>Aqh h16 x15 x13 x14
theorem Aoh (ih:Aa) (n:Nat) (x0 x1:IV) (h2:Hp):Aw EE ih ft.get n 83 [x0,x1] h2=S83 ih n x0 x1 h2:=by kernel_rfl
def Aln (ih:Aa) (h18:Hp) (x22 x7:IV):OH :=
 Ah [] false false ih 44 [x22] h18 fun x24 h25 _ _=>Ar 0 x24 fun x28=>Ar 1 x24 fun x29=>Af 3 x7 x28 h25 fun h30 _ _=>As true 3 x7 h30 fun x33=>Al [x33,x29] h30
def AkA (x57:IV) (h58:Hp) (x7 x61:IV):OH :=
 Ar 1 x57 fun x62=>Af 3 x7 x61 h58 fun h63 _ _=>As true 3 x7 h63 fun x66=>Al [x66,x62] h63
def Ajr (x87:IV) (h88:Hp) (x7 x91:IV):OH :=
 Ar 1 x87 fun x92=>Af 3 x7 x91 h88 fun h93 _ _=>As true 3 x7 h93 fun x96=>Al [x96,x92] h93
def AkO (h99:Hp) (x7:IV):OH :=
 As true 3 x7 h99 fun x102=>Al [x102,.fv (.int .i64 0)] h99
def AlR (x84:IV) (ih:Aa) (h85:Hp) (x7 x46:IV):OH :=
 Ch EE 3 x84 (.fv (.int .i64 0)) fun x86=>Ai x86 (Ah [] false false ih 44 [x84] h85 fun x87 h88 _ _=>Ar 0 x87 fun x91=>Ajr x87 h88 x7 x91) (Ag 3 x46 h85 fun x97 _=>Af 3 x7 x97 h85 fun h99 _ _=>AkO h99 x7)
def AiX (ih:Aa) (h123:Hp) (x0 x108 x122:IV) (j1_83:IV→Hp→OH):OH :=
 Ah [] false false ih 48 [x0,.fv (.int .i64 1),x108,x122] h123 fun x126 h127 r128 w129=>Ad [] r128 w129 (j1_83 x126 h127)
def AhC (x117:IV) (h80:Hp) (r115 r112 r109 r106:AC) (ih:Aa) (x114 x0 x108:IV) (j1_83:IV→Hp→OH):OH :=
 AT 3 x117 (.fv (.int .i64 1)) fun x119=>Ag 3 x119 h80 fun x120 r121=>Ad [(r115,[]),(r112,[]),(r109,[]),(r106,[])] r121 [] (Ah [] false false ih 67 [x114,.fv (.int .i64 0),x120] h80 fun x122 h123 r124 w125=>Ad [(r109,[]),(r106,[])] r124 w125 (AiX ih h123 x0 x108 x122 j1_83))
def Aj1 (h80:Hp) (x113:IV) (r109 r106:AC) (x3:IV) (r112:AC) (ih:Aa) (x0 x108:IV) (j1_83:IV→Hp→OH):OH :=
 Ag 3 x113 h80 fun x114 r115=>Ad [(r109,[]),(r106,[])] r115 [] (Ab 2 x3 fun x116=>Ae x116 h80 fun x117 r118=>Ad [(r115,[]),(r112,[]),(r109,[]),(r106,[])] r118 [] (AhC x117 h80 r115 r112 r109 r106 ih x114 x0 x108 j1_83))
def AiJ (r109:AC) (x46:IV) (h80:Hp) (r106:AC) (x3:IV) (ih:Aa) (x0 x108:IV) (j1_83:IV→Hp→OH):OH :=
 Ad [] r109 [] (Ab 2 x46 fun x110=>Ae x110 h80 fun x111 r112=>Ad [(r109,[]),(r106,[])] r112 [] (AT 3 x111 (.fv (.int .i64 1)) fun x113=>Aj1 h80 x113 r109 r106 x3 r112 ih x0 x108 j1_83))
def Aht (x3:IV) (h80:Hp) (x46:IV) (ih:Aa) (x0:IV) (j1_83:IV→Hp→OH):OH :=
 Ab 2 x3 fun x104=>Ae x104 h80 fun x105 r106=>Ad [] r106 [] (AT 3 x105 (.fv (.int .i64 2)) fun x107=>Ag 3 x107 h80 fun x108 r109=>AiJ r109 x46 h80 r106 x3 ih x0 x108 j1_83)
def AhE (ih:Aa) (h55:Hp) (x0 x71 x77 x7 x46 x3:IV):OH :=
 Ah [] false false ih 48 [x0,.fv (.int .i64 1),x71,x77] h55 fun x79 h80 r81 w82=>Ad [] r81 w82 ((fun (j1_83:IV→Hp→OH)=>AN EE 3 x79 (.fv (.int .i64 0)) fun x103=>Ai x103 (Aht x3 h80 x46 ih x0 j1_83) (j1_83 x79 h80)) fun x84 h85=>AlR x84 ih h85 x7 x46)
def Ak2 (h55:Hp) (x73:IV) (r72 r69:AC) (ih:Aa) (x0 x71 x7 x46 x3:IV):OH :=
 Ae x73 h55 fun x74 r75=>Ad [(r72,[]),(r69,[])] r75 [] (AT 3 x74 (.fv (.int .i64 0)) fun x76=>Ag 3 x76 h55 fun x77 r78=>Ad [(r72,[]),(r69,[])] r78 [] (AhE ih h55 x0 x71 x77 x7 x46 x3))
def Aix (r69:AC) (x68:IV) (h55:Hp) (x46:IV) (ih:Aa) (x0 x7 x3:IV):OH :=
 Ad [] r69 [] (AT 3 x68 (.fv (.int .i64 1)) fun x70=>Ag 3 x70 h55 fun x71 r72=>Ad [] r72 [] (Ab 2 x46 fun x73=>Ak2 h55 x73 r72 r69 ih x0 x71 x7 x46 x3))
def Al3 (x54:IV) (ih:Aa) (h55:Hp) (x7 x3 x46 x0:IV):OH :=
 Ch EE 3 x54 (.fv (.int .i64 0)) fun x56=>Ai x56 (Ah [] false false ih 44 [x54] h55 fun x57 h58 _ _=>Ar 0 x57 fun x61=>AkA x57 h58 x7 x61) (Ab 2 x3 fun x67=>Ae x67 h55 fun x68 r69=>Aix r69 x68 h55 x46 ih x0 x7 x3)
def Ahn (x150:IV) (j1_53:IV→Hp→OH) (h147:Hp) (x45:IV):OH :=
 Ai x150 (j1_53 (.fv (.int .i64 12)) h147) (j1_53 x45 h147)
def Ahi (x45:IV) (h50:Hp) (x46:IV) (j1_53:IV→Hp→OH):OH :=
 AN EE 3 x45 (.fv (.int .i64 0)) fun x130=>Ac x130 true h50 (fun k131=>Ab 0 x46 fun x132=>k131 x132 h50 [] []) fun x133 h134 _ _=>Ac x130 true h134 (fun k137=>Ae x133 h134 fun x138 r139=>k137 x138 h134 r139 []) fun x140 h141 _ _=>Ac x130 true h141 (fun k144=>Ch EE 3 x140 (.fv (.int .i64 6)) fun x145=>k144 x145 h141 [] []) fun x146 h147 _ _=>AI x130 x146 (.fv (.bool false)) fun x150=>Ahn x150 j1_53 h147 x45
def AlD (x40:IV) (h41:Hp) (ih:Aa) (x7 x3 x0:IV):OH :=
 Ar 0 x40 fun x44=>Ar 1 x40 fun x45=>AD 88084488 (.row [.fv (.int .i64 0),.fv (.int .i64 0),.nils] false) (.ptr (.own 88084488) 0) h41 fun x46 h47 _ _=>Af 3 x46 x44 h47 fun h50 _ _=>(fun (j1_53:IV→Hp→OH)=>Ahi x45 h50 x46 j1_53) fun x54 h55=>Al3 x54 ih h55 x7 x3 x46 x0
def Aj3 (x3:IV) (h18:Hp) (ih:Aa) (x7 x0:IV):OH :=
 Ab 2 x3 fun x34=>Ae x34 h18 fun x35 _=>AT 3 x35 (.fv (.int .i64 0)) fun x37=>Ag 3 x37 h18 fun x38 _=>Ah [] false false ih 34 [x38] h18 fun x40 h41 _ _=>AlD x40 h41 ih x7 x3 x0
def Alk (ih:Aa) (h8:Hp) (x0 x15 x7 x3:IV):OH :=
 Ah [] false false ih 83 [x0,x15] h8 fun x17 h18 _ _=>Ar 0 x17 fun _=>Ar 1 x17 fun x22=>Ch EE 3 x22 (.fv (.int .i64 0)) fun x23=>Ai x23 (Aln ih h18 x22 x7) (Aj3 x3 h18 ih x7 x0)
def S84 (ih:Aa) (n:Nat) (x0 x1:IV) (h2:Hp):OH :=
 AX 88080384 x1 h2 fun x3 h4 _ _=>AD 88080385 (.row [.fv (.int .i64 0),.fv (.int .i64 0),.nils] false) (.ptr (.own 88080385) 0) h4 fun x7 h8 _ _=>Ab 2 x3 fun x11=>Ae x11 h8 fun x12 _=>AT 3 x12 (.fv (.int .i64 0)) fun x14=>Ag 3 x14 h8 fun x15 _=>Alk ih h8 x0 x15 x7 x3
theorem ApR (ih:Aa) (n:Nat) (x0 x1:IV) (h2:Hp):Aw EE ih ft.get n 84 [x0,x1] h2=S84 ih n x0 x1 h2:=by kernel_rfl
def AlI (x59:IV) (h60:Hp) (x7 x63:IV):OH :=
 Ar 1 x59 fun x64=>Af 3 x7 x63 h60 fun h65 _ _=>As true 3 x7 h65 fun x68=>Al [x68,x64] h65
def Aly (x81:IV) (h82:Hp) (x7:IV):OH :=
 Ar 0 x81 fun x85=>Ar 1 x81 fun x86=>Af 3 x7 x85 h82 fun h87 r88 w89=>Ad [] r88 w89 (As true 3 x7 h87 fun x90=>Al [x90,x86] h87)
def AhF (r76 r70:AC) (ih:Aa) (h57:Hp) (x69 x75 x7:IV):OH :=
 Ad [(r70,[])] r76 [] (Ah [] false false ih 67 [x69,.fv (.int .i64 0),x75] h57 fun x77 h78 r79 w80=>Ad [] r79 w80 (Ah [] false false ih 34 [x77] h78 fun x81 h82 r83 w84=>Ad [] r83 w84 (Aly x81 h82 x7)))
def Ak4 (x3:IV) (h57:Hp) (r70:AC) (ih:Aa) (x69 x7:IV):OH :=
 Ab 2 x3 fun x71=>Ae x71 h57 fun x72 r73=>Ad [(r70,[])] r73 [] (AT 3 x72 (.fv (.int .i64 3)) fun x74=>Ag 3 x74 h57 fun x75 r76=>AhF r76 r70 ih h57 x69 x75 x7)
def AhW (x56:IV) (ih:Aa) (h57:Hp) (x7 x28 x3:IV):OH :=
 Ch EE 3 x56 (.fv (.int .i64 0)) fun x58=>Ai x58 (Ah [] false false ih 44 [x56] h57 fun x59 h60 _ _=>Ar 0 x59 fun x63=>AlI x59 h60 x7 x63) (Ag 3 x28 h57 fun x69 r70=>Ad [] r70 [] (Ak4 x3 h57 r70 ih x69 x7))
def Ahx (h54:Hp) (x15:IV) (r97 r94:AC) (ih:Aa) (x0 x96:IV) (j1_55:IV→Hp→OH):OH :=
 Ag 3 x15 h54 fun x98 r99=>Ad [(r97,[]),(r94,[])] r99 [] (Ah [] false false ih 48 [x0,.fv (.int .i64 1),x96,x98] h54 fun x100 h101 r102 w103=>Ad [] r102 w103 (j1_55 x100 h101))
def Ahb (h54:Hp) (x92 x15:IV) (ih:Aa) (x0:IV) (j1_55:IV→Hp→OH):OH :=
 Ae x92 h54 fun x93 r94=>Ad [] r94 [] (AT 3 x93 (.fv (.int .i64 3)) fun x95=>Ag 3 x95 h54 fun x96 r97=>Ad [] r97 [] (Ahx h54 x15 r97 r94 ih x0 x96 j1_55))
def Aiq (ih:Aa) (x7 x28 x3 x53:IV) (h54:Hp) (x15 x0:IV):OH :=
 (fun (j1_55:IV→Hp→OH)=>AN EE 3 x53 (.fv (.int .i64 0)) fun x91=>Ai x91 (Ab 2 x3 fun x92=>Ahb h54 x92 x15 ih x0 j1_55) (j1_55 x53 h54)) fun x56 h57=>AhW x56 ih h57 x7 x28 x3
def Ak1 (ih:Aa) (h114:Hp) (x123:IV) (r122 r119:AC) (x113 x121:IV) (j1_52:IV→Hp→OH):OH :=
 Ah [] false false ih 106 [x123] h114 fun x125 h126 r127 w128=>Ad [(r122,[]),(r119,[])] r127 w128 (Ah [] false false ih 48 [x113,.fv (.int .i64 1),x121,x125] h126 fun x129 h130 r131 w132=>Ad [] r131 w132 (j1_52 x129 h130))
def AjH (x118:IV) (h114:Hp) (r115 w116 r112 r109 w110 r106:AC) (x28:IV) (r119:AC) (ih:Aa) (x113:IV) (j1_52:IV→Hp→OH):OH :=
 AT 3 x118 (.fv (.int .i64 2)) fun x120=>Ag 3 x120 h114 fun x121 r122=>Ad [(r115,w116),(r112,[]),(r109,w110),(r106,[])] r122 [] (Ag 3 x28 h114 fun x123 r124=>Ad [(r122,[]),(r119,[]),(r115,w116),(r112,[]),(r109,w110),(r106,[])] r124 [] (Ak1 ih h114 x123 r122 r119 x113 x121 j1_52))
def Ak3 (ih:Aa) (h108:Hp) (x107 x111 x3:IV) (r112 r109 w110 r106:AC) (x28:IV) (j1_52:IV→Hp→OH):OH :=
 Ah [] false false ih 79 [x107,.fv (.int .i64 1),x111] h108 fun x113 h114 r115 w116=>Ad [] r115 w116 (Ab 2 x3 fun x117=>Ae x117 h114 fun x118 r119=>Ad [(r115,w116),(r112,[]),(r109,w110),(r106,[])] r119 [] (AjH x118 h114 r115 w116 r112 r109 w110 r106 x28 r119 ih x113 j1_52))
def Al4 (r106:AC) (ih:Aa) (h51:Hp) (x0 x105 x28 x3:IV) (j1_52:IV→Hp→OH):OH :=
 Ad [] r106 [] (Ah [] false false ih 79 [x0,.fv (.int .i64 1),x105] h51 fun x107 h108 r109 w110=>Ad [] r109 w110 (Ag 3 x28 h108 fun x111 r112=>Ad [(r109,w110),(r106,[])] r112 [] (Ak3 ih h108 x107 x111 x3 r112 r109 w110 r106 x28 j1_52)))
def Aki (ih:Aa) (x7 x28 x3 x15 x0 x50:IV) (h51:Hp):OH :=
 (fun (j1_52:IV→Hp→OH)=>AN EE 3 x50 (.fv (.int .i64 0)) fun x104=>Ai x104 (Ag 3 x15 h51 fun x105 r106=>Al4 r106 ih h51 x0 x105 x28 x3 j1_52) (j1_52 x50 h51)) fun x53 h54=>Aiq ih x7 x28 x3 x53 h54 x15 x0
def AiZ (r148 w149 r139 r136:AC) (ih:Aa) (h147:Hp) (x0 x138 x146:IV) (j1_49:IV→Hp→OH):OH :=
 Ad [(r139,[]),(r136,[])] r148 w149 (Ah [] false false ih 48 [x0,.fv (.int .i64 1),x138,x146] h147 fun x150 h151 r152 w153=>Ad [] r152 w153 (j1_49 x150 h151))
def AhI (h44:Hp) (x28:IV) (r139 r136:AC) (ih:Aa) (x0 x138:IV) (j1_49:IV→Hp→OH):OH :=
 Ag 3 x28 h44 fun x140 r141=>Ad [(r139,[]),(r136,[])] r141 [] (Ah [] false false ih 24 [.fv (.int .i64 11),.nils] h44 fun x142 h143 r144 w145=>Ad [(r141,[]),(r139,[]),(r136,[])] r144 w145 (Ah [] false false ih 67 [x140,.fv (.int .i64 0),x142] h143 fun x146 h147 r148 w149=>AiZ r148 w149 r139 r136 ih h147 x0 x138 x146 j1_49))
def Ail (h44:Hp) (x134 x28:IV) (ih:Aa) (x0:IV) (j1_49:IV→Hp→OH):OH :=
 Ae x134 h44 fun x135 r136=>Ad [] r136 [] (AT 3 x135 (.fv (.int .i64 1)) fun x137=>Ag 3 x137 h44 fun x138 r139=>Ad [] r139 [] (AhI h44 x28 r139 r136 ih x0 x138 j1_49))
def Ag6 (ih:Aa) (x7 x28 x3 x15 x0 x48:IV) (h44:Hp):OH :=
 (fun (j1_49:IV→Hp→OH)=>AN EE 3 x48 (.fv (.int .i64 0)) fun x133=>Ai x133 (Ab 2 x3 fun x134=>Ail h44 x134 x28 ih x0 j1_49) (j1_49 x48 h44)) fun x50 h51=>Aki ih x7 x28 x3 x15 x0 x50 h51
def AhM (r42 r39 w40 r36:AC) (ih:Aa) (h38:Hp) (x37 x41 x7 x28 x3 x15 x0:IV):OH :=
 Ad [(r39,w40),(r36,[])] r42 [] (Ah [] false false ih 83 [x37,x41] h38 fun x43 h44 r45 w46=>Ad [] r45 w46 (Ar 0 x43 fun _=>Ar 1 x43 fun x48=>Ag6 ih x7 x28 x3 x15 x0 x48 h44))
def Ajc (h32:Hp) (x15:IV) (ih:Aa) (x0 x28 x7 x3:IV):OH :=
 Ag 3 x15 h32 fun x35 r36=>Ad [] r36 [] (Ah [] false false ih 79 [x0,.fv (.int .i64 1),x35] h32 fun x37 h38 r39 w40=>Ad [] r39 w40 (Ag 3 x28 h38 fun x41 r42=>AhM r42 r39 w40 r36 ih h38 x37 x41 x7 x28 x3 x15 x0))
def AhX (h19:Hp) (x22 x15:IV) (ih:Aa) (x0 x7 x3:IV):OH :=
 Ae x22 h19 fun x23 _=>AT 3 x23 (.fv (.int .i64 0)) fun x25=>Ag 3 x25 h19 fun x26 _=>AD 89131012 (.row [.fv (.int .i64 0),.fv (.int .i64 0),.nils] false) (.ptr (.own 89131012) 0) h19 fun x28 h29 _ _=>Af 3 x28 x26 h29 fun h32 _ _=>Ajc h32 x15 ih x0 x28 x7 x3
def S85 (ih:Aa) (n:Nat) (x0 x1:IV) (h2:Hp):OH :=
 AX 89128960 x1 h2 fun x3 h4 _ _=>AD 89128961 (.row [.fv (.int .i64 0),.fv (.int .i64 0),.nils] false) (.ptr (.own 89128961) 0) h4 fun x7 h8 _ _=>Ah [] false false ih 24 [.fv (.int .i64 10),.nils] h8 fun x11 h12 _ _=>AD 89129985 (.row [.fv (.int .i64 0),.fv (.int .i64 0),.nils] false) (.ptr (.own 89129985) 0) h12 fun x15 h16 _ _=>Af 3 x15 x11 h16 fun h19 _ _=>Ab 2 x3 fun x22=>AhX h19 x22 x15 ih x0 x7 x3
theorem AoF (ih:Aa) (n:Nat) (x0 x1:IV) (h2:Hp):Aw EE ih ft.get n 85 [x0,x1] h2=S85 ih n x0 x1 h2:=by kernel_rfl
def QF (x29:IV) (h65:Hp) (x64 x30:IV) (h1:Hp) (x27 x28:IV) (q24:List IV→Hp→OH):OH :=
 Ab 2 x29 fun x68=>A9 x68 x64 h65 fun h69 _ _=>Bp EE 3 x30 (.fv (.int .i64 1)) fun x72=>Bs (h1.own.map (·.1)) [90182662,90185732] [x27,x28,x29,x72] h69 fun h73=>q24 [x27,x28,x29,x72] h73
def SE (x29:IV) (h54:Hp) (x46 x30:IV) (h1:Hp) (x27 x28:IV) (q24:List IV→Hp→OH):OH :=
 Ab 2 x29 fun x55=>Ae x55 h54 fun x56 _=>Ag 3 x46 h54 fun x58 _=>Ay (Ak EE 28 1 [(0,x58)]) 90185731 h54 fun x60 h61 _ _=>Ay (AS EE 90185732 false .append [28,28] [x56,x60]) 90185732 h61 fun x64 h65 _ _=>QF x29 h65 x64 x30 h1 x27 x28 q24
def Qk (h126:Hp) (x46 x125:IV) (j0_53:Hp→OH):OH :=
 Af 3 x46 x125 h126 fun h129 _ _=>j0_53 h129
def Rw (h115:Hp) (x74 x95 x114:IV) (ih:Aa) (x46:IV) (j0_53:Hp→OH):OH :=
 Ac x74 true h115 (fun k118=>AI x95 (.fv (.bool true)) x114 fun x119=>k118 x119 h115 [] []) fun x120 h121 _ _=>AI x74 x120 (.fv (.bool false)) fun x124=>Ai x124 (Ah [] false false ih 24 [.fv (.int .i64 11),.nils] h121 fun x125 h126 _ _=>Qk h126 x46 x125 j0_53) (j0_53 h121)
def Sj (h85:Hp) (x74 x84 x27:IV) (ih:Aa) (x46:IV) (j0_53:Hp→OH):OH :=
 Ac x74 true h85 (fun k88=>AN EE 3 x84 (.fv (.int .i64 4)) fun x89=>k88 x89 h85 [] []) fun x90 h91 _ _=>Ac x74 true h91 (fun k94=>k94 x90 h91 [] []) fun x95 h96 _ _=>Ac x95 false h96 (fun k99=>Ab 0 x27 fun x100=>k99 x100 h96 [] []) fun x101 h102 _ _=>Ac x95 false h102 (fun k105=>Ae x101 h102 fun x106 r107=>k105 x106 h102 r107 []) fun x108 h109 _ _=>Ac x95 false h109 (fun k112=>AN EE 3 x108 (.fv (.int .i64 7)) fun x113=>k112 x113 h109 [] []) fun x114 h115 _ _=>Rw h115 x74 x95 x114 ih x46 j0_53
def RS (h47:Hp) (x46 x42 x29 x30:IV) (h1:Hp) (x27 x28:IV) (q24:List IV→Hp→OH) (ih:Aa):OH :=
 Af 3 x46 x42 h47 fun h50 _ _=>(fun (j0_53:Hp→OH)=>AN EE 3 x30 (.fv (.int .i64 0)) fun x74=>Ac x74 true h50 (fun k75=>Ab 0 x27 fun x76=>k75 x76 h50 [] []) fun x77 h78 _ _=>Ac x74 true h78 (fun k81=>Ae x77 h78 fun x82 r83=>k81 x82 h78 r83 []) fun x84 h85 _ _=>Sj h85 x74 x84 x27 ih x46 j0_53) fun h54=>SE x29 h54 x46 x30 h1 x27 x28 q24
def RW (h26:Hp) (x36 x30:IV) (ih:Aa) (x29:IV) (h1:Hp) (x27 x28:IV) (q24:List IV→Hp→OH):OH :=
 Ae x36 h26 fun x37 _=>AT 3 x37 x30 fun x39=>Ag 3 x39 h26 fun x40 _=>Ah [] false false ih 86 [x40] h26 fun x42 h43 _ _=>AD 90182662 (.row [.fv (.int .i64 0),.fv (.int .i64 0),.nils] false) (.ptr (.own 90182662) 0) h43 fun x46 h47 _ _=>RS h47 x46 x42 x29 x30 h1 x27 x28 q24 ih
def Qr (ih:Aa) (h299:Hp) (x296 x298 x28:IV):OH :=
 Ah [] false false ih 67 [x296,.fv (.int .i64 0),x298] h299 fun x302 h303 r304 w305=>Ad [] r304 w305 (Af 3 x28 x302 h303 fun h306 r307 w308=>Ad [] r307 w308 (As true 3 x28 h306 fun x309=>Al [x309] h306))
def RD (x293:IV) (h284:Hp) (ih:Aa) (r294 r290:AC) (x28:IV):OH :=
 AT 3 x293 (.fv (.int .i64 0)) fun x295=>Ag 3 x295 h284 fun x296 r297=>Ad [] r297 [] (Ah [] false false ih 24 [.fv (.int .i64 11),.nils] h284 fun x298 h299 r300 w301=>Ad [(r297,[]),(r294,[]),(r290,[])] r300 w301 (Qr ih h299 x296 x298 x28))
def Qd (r290:AC) (x289:IV) (h284:Hp) (ih:Aa) (x28:IV):OH :=
 Ad [] r290 [] (AT 3 x289 (.fv (.int .i64 1)) fun x291=>Ab 2 x291 fun x292=>Ae x292 h284 fun x293 r294=>Ad [] r294 [] (RD x293 h284 ih r294 r290 x28))
def Q6 (h484:Hp) (x495 x28:IV):OH :=
 Ag 3 x495 h484 fun x496 _=>Af 3 x28 x496 h484 fun h498 _ _=>As true 3 x28 h498 fun x501=>Al [x501] h498
def QH (h484:Hp) (x488 x28:IV):OH :=
 Ae x488 h484 fun x489 _=>AT 3 x489 (.fv (.int .i64 1)) fun x491=>Ab 2 x491 fun x492=>Ae x492 h484 fun x493 _=>AT 3 x493 (.fv (.int .i64 0)) fun x495=>Q6 h484 x495 x28
def Qn (h484:Hp) (x28 x502:IV):OH :=
 Af 3 x28 x502 h484 fun h504 _ _=>As true 3 x28 h504 fun x507=>Al [x507] h504
def RY (h479:Hp) (x391:IV) (ih:Aa) (x433 x478 x29 x28:IV):OH :=
 Ac x391 true h479 (fun k482=>Ah [] false false ih 17 [x433,x478] h479 k482) fun x483 h484 r485 w486=>Ad [] r485 w486 (AI x391 x483 (.fv (.bool false)) fun x487=>Ai x487 (Ab 2 x29 fun x488=>QH h484 x488 x28) (Ag 3 x29 h484 fun x502 _=>Qn h484 x28 x502))
def Rh (h459:Hp) (x391 x458:IV) (r435 w436 r422 w423 r403 w404:AC) (ih:Aa) (x433 x29 x28:IV):OH :=
 Ac x391 true h459 (fun k462=>Ae x458 h459 fun x463 r464=>k462 x463 h459 r464 []) fun x465 h466 r467 w468=>Ad [(r435,w436),(r422,w423),(r403,w404)] r467 w468 (Ac x391 true h466 (fun k469=>AT 3 x465 (.fv (.int .i64 0)) fun x470=>k469 x470 h466 [] []) fun x471 h472 _ _=>Ac x391 true h472 (fun k475=>Ag 3 x471 h472 fun x476 r477=>k475 x476 h472 r477 []) fun x478 h479 r480 w481=>Ad [(r435,w436),(r422,w423),(r403,w404)] r480 w481 (RY h479 x391 ih x433 x478 x29 x28))
def RQ (h434:Hp) (x391 x29:IV) (r435 w436 r422 w423 r403 w404:AC) (ih:Aa) (x433 x28:IV):OH :=
 Ac x391 true h434 (fun k437=>Ab 2 x29 fun x438=>k437 x438 h434 [] []) fun x439 h440 _ _=>Ac x391 true h440 (fun k443=>Ae x439 h440 fun x444 r445=>k443 x444 h440 r445 []) fun x446 h447 r448 w449=>Ad [(r435,w436),(r422,w423),(r403,w404)] r448 w449 (Ac x391 true h447 (fun k450=>AT 3 x446 (.fv (.int .i64 2)) fun x451=>k450 x451 h447 [] []) fun x452 h453 _ _=>Ac x391 true h453 (fun k456=>Ab 2 x452 fun x457=>k456 x457 h453 [] []) fun x458 h459 _ _=>Rh h459 x391 x458 r435 w436 r422 w423 r403 w404 ih x433 x29 x28)
def PT (h414:Hp) (x391 x413 x29:IV) (r403 w404:AC) (ih:Aa) (x28:IV):OH :=
 Ac x391 true h414 (fun k417=>Ae x413 h414 fun x418 r419=>k417 x418 h414 r419 []) fun x420 h421 r422 w423=>Ad [] r422 w423 (Ac x391 true h421 (fun k424=>AT 3 x420 (.fv (.int .i64 0)) fun x425=>k424 x425 h421 [] []) fun x426 h427 _ _=>Ac x391 true h427 (fun k430=>Ag 3 x426 h427 fun x431 r432=>k430 x431 h427 r432 []) fun x433 h434 r435 w436=>Ad [] r435 w436 (RQ h434 x391 x29 r435 w436 r422 w423 r403 w404 ih x433 x28))
def PH (h388:Hp) (x391 x29:IV) (ih:Aa) (x28:IV):OH :=
 Ac x391 true h388 (fun k392=>Ab 2 x29 fun x393=>k392 x393 h388 [] []) fun x394 h395 _ _=>Ac x391 true h395 (fun k398=>Ae x394 h395 fun x399 r400=>k398 x399 h395 r400 []) fun x401 h402 r403 w404=>Ad [] r403 w404 (Ac x391 true h402 (fun k405=>AT 3 x401 (.fv (.int .i64 1)) fun x406=>k405 x406 h402 [] []) fun x407 h408 _ _=>Ac x391 true h408 (fun k411=>Ab 2 x407 fun x412=>k411 x412 h408 [] []) fun x413 h414 _ _=>PT h414 x391 x413 x29 r403 w404 ih x28)
def Sz (h369:Hp) (x352 x368 x29:IV) (ih:Aa) (x28:IV):OH :=
 Ac x352 true h369 (fun k372=>Ab 0 x368 fun x373=>k372 x373 h369 [] []) fun x374 h375 _ _=>Ac x352 true h375 (fun k378=>Ae x374 h375 fun x379 r380=>k378 x379 h375 r380 []) fun x381 h382 r383 w384=>Ad [] r383 w384 (Ac x352 true h382 (fun k385=>AN EE 3 x381 (.fv (.int .i64 9)) fun x386=>k385 x386 h382 [] []) fun x387 h388 _ _=>AI x352 x387 (.fv (.bool false)) fun x391=>PH h388 x391 x29 ih x28)
def Sk (x313 x348:IV) (h349:Hp) (x29:IV) (ih:Aa) (x28:IV):OH :=
 AI x313 x348 (.fv (.bool false)) fun x352=>Ac x352 true h349 (fun k353=>Ab 2 x29 fun x354=>k353 x354 h349 [] []) fun x355 h356 _ _=>Ac x352 true h356 (fun k359=>Ae x355 h356 fun x360 r361=>k359 x360 h356 r361 []) fun x362 h363 r364 w365=>Ad [] r364 w365 (Ac x352 true h363 (fun k366=>AT 3 x362 (.fv (.int .i64 2)) fun x367=>k366 x367 h363 [] []) fun x368 h369 _ _=>Sz h369 x352 x368 x29 ih x28)
def RR (h324:Hp) (x313 x323 x29:IV) (ih:Aa) (x28:IV):OH :=
 Ac x313 true h324 (fun k327=>AT 3 x323 (.fv (.int .i64 1)) fun x328=>k327 x328 h324 [] []) fun x329 h330 _ _=>Ac x313 true h330 (fun k333=>Ab 0 x329 fun x334=>k333 x334 h330 [] []) fun x335 h336 _ _=>Ac x313 true h336 (fun k339=>Ae x335 h336 fun x340 r341=>k339 x340 h336 r341 []) fun x342 h343 r344 w345=>Ad [] r344 w345 (Ac x313 true h343 (fun k346=>AN EE 3 x342 (.fv (.int .i64 8)) fun x347=>k346 x347 h343 [] []) fun x348 h349 _ _=>Sk x313 x348 h349 x29 ih x28)
def SC (r312:AC) (x311:IV) (h284:Hp) (x29:IV) (ih:Aa) (x28:IV):OH :=
 Ad [] r312 [] (AN EE 3 x311 (.fv (.int .i64 7)) fun x313=>Ac x313 true h284 (fun k314=>Ab 2 x29 fun x315=>k314 x315 h284 [] []) fun x316 h317 _ _=>Ac x313 true h317 (fun k320=>Ae x316 h317 fun x321 r322=>k320 x321 h317 r322 []) fun x323 h324 r325 w326=>Ad [] r325 w326 (RR h324 x313 x323 x29 ih x28))
def R9 (x230 x283 x29:IV) (h284:Hp) (ih:Aa) (x28 x27:IV):OH :=
 AI x230 x283 (.fv (.bool false)) fun x287=>Ai x287 (Ab 2 x29 fun x288=>Ae x288 h284 fun x289 r290=>Qd r290 x289 h284 ih x28) (Ab 0 x27 fun x310=>Ae x310 h284 fun x311 r312=>SC r312 x311 h284 x29 ih x28)
def QS (h266:Hp) (x230 x265:IV) (ih:Aa) (x29 x28 x27:IV):OH :=
 Ac x230 true h266 (fun k269=>Ag 3 x265 h266 fun x270 r271=>k269 x270 h266 r271 []) fun x272 h273 r274 w275=>Ad [] r274 w275 (Ac x230 true h273 (fun k276=>Ah [] false false ih 107 [x272,.fv (.int .i64 0)] h273 k276) fun x277 h278 r279 w280=>Ad [] r279 w280 (Ac x230 true h278 (fun k281=>CL (LR .not x277) fun x282=>k281 x282 h278 [] []) fun x283 h284 _ _=>R9 x230 x283 x29 h284 ih x28 x27))
def Sw (h241:Hp) (x230 x240:IV) (ih:Aa) (x29 x28 x27:IV):OH :=
 Ac x230 true h241 (fun k244=>AT 3 x240 (.fv (.int .i64 1)) fun x245=>k244 x245 h241 [] []) fun x246 h247 _ _=>Ac x230 true h247 (fun k250=>Ab 2 x246 fun x251=>k250 x251 h247 [] []) fun x252 h253 _ _=>Ac x230 true h253 (fun k256=>Ae x252 h253 fun x257 r258=>k256 x257 h253 r258 []) fun x259 h260 r261 w262=>Ad [] r261 w262 (Ac x230 true h260 (fun k263=>AT 3 x259 (.fv (.int .i64 0)) fun x264=>k263 x264 h260 [] []) fun x265 h266 _ _=>QS h266 x230 x265 ih x29 x28 x27)
def Q3 (r228 w229:AC) (x174 x226:IV) (h227:Hp) (x29:IV) (ih:Aa) (x28 x27:IV):OH :=
 Ad [] r228 w229 (AI x174 x226 (.fv (.bool false)) fun x230=>Ac x230 true h227 (fun k231=>Ab 2 x29 fun x232=>k231 x232 h227 [] []) fun x233 h234 _ _=>Ac x230 true h234 (fun k237=>Ae x233 h234 fun x238 r239=>k237 x238 h234 r239 []) fun x240 h241 r242 w243=>Ad [] r242 w243 (Sw h241 x230 x240 ih x29 x28 x27))
def PM (h210:Hp) (x174 x209:IV) (ih:Aa) (r205 w206 r186 w187:AC) (x29 x28 x27:IV):OH :=
 Ac x174 true h210 (fun k213=>Ag 3 x209 h210 fun x214 r215=>k213 x214 h210 r215 []) fun x216 h217 r218 w219=>Ad [] r218 w219 (Ac x174 true h217 (fun k220=>Ah [] false false ih 25 [.fv (.int .i64 0)] h217 k220) fun x221 h222 r223 w224=>Ad [(r218,w219),(r205,w206),(r186,w187)] r223 w224 (Ac x174 true h222 (fun k225=>Ah [] false false ih 17 [x216,x221] h222 k225) fun x226 h227 r228 w229=>Q3 r228 w229 x174 x226 h227 x29 ih x28 x27))
def Qu (h185:Hp) (x174 x184:IV) (ih:Aa) (r186 w187:AC) (x29 x28 x27:IV):OH :=
 Ac x174 true h185 (fun k188=>AT 3 x184 (.fv (.int .i64 1)) fun x189=>k188 x189 h185 [] []) fun x190 h191 _ _=>Ac x174 true h191 (fun k194=>Ab 2 x190 fun x195=>k194 x195 h191 [] []) fun x196 h197 _ _=>Ac x174 true h197 (fun k200=>Ae x196 h197 fun x201 r202=>k200 x201 h197 r202 []) fun x203 h204 r205 w206=>Ad [] r205 w206 (Ac x174 true h204 (fun k207=>AT 3 x203 (.fv (.int .i64 1)) fun x208=>k207 x208 h204 [] []) fun x209 h210 _ _=>PM h210 x174 x209 ih r205 w206 r186 w187 x29 x28 x27)
def PK (h165:Hp) (x135 x164 x29:IV) (ih:Aa) (x28 x27:IV):OH :=
 Ac x135 true h165 (fun k168=>AN EE 3 x164 (.fv (.int .i64 5)) fun x169=>k168 x169 h165 [] []) fun x170 h171 _ _=>AI x135 x170 (.fv (.bool false)) fun x174=>Ac x174 true h171 (fun k175=>Ab 2 x29 fun x176=>k175 x176 h171 [] []) fun x177 h178 _ _=>Ac x174 true h178 (fun k181=>Ae x177 h178 fun x182 r183=>k181 x182 h178 r183 []) fun x184 h185 r186 w187=>Ad [] r186 w187 (Qu h185 x174 x184 ih r186 w187 x29 x28 x27)
def RO (r147 w148:AC) (h146:Hp) (x135 x145 x29:IV) (ih:Aa) (x28 x27:IV):OH :=
 Ad [] r147 w148 (Ac x135 true h146 (fun k149=>AT 3 x145 (.fv (.int .i64 1)) fun x150=>k149 x150 h146 [] []) fun x151 h152 _ _=>Ac x135 true h152 (fun k155=>Ab 0 x151 fun x156=>k155 x156 h152 [] []) fun x157 h158 _ _=>Ac x135 true h158 (fun k161=>Ae x157 h158 fun x162 r163=>k161 x162 h158 r163 []) fun x164 h165 r166 w167=>Ad [] r166 w167 (PK h165 x135 x164 x29 ih x28 x27))
def Sb (h26:Hp) (x132 x29:IV) (ih:Aa) (x28 x27:IV):OH :=
 Ae x132 h26 fun x133 r134=>Ad [] r134 [] (AN EE 3 x133 (.fv (.int .i64 4)) fun x135=>Ac x135 true h26 (fun k136=>Ab 2 x29 fun x137=>k136 x137 h26 [] []) fun x138 h139 _ _=>Ac x135 true h139 (fun k142=>Ae x138 h139 fun x143 r144=>k142 x143 h139 r144 []) fun x145 h146 r147 w148=>RO r147 w148 h146 x135 x145 x29 ih x28 x27)
def QW (h26:Hp) (x31 x30 x27:IV) (ih:Aa) (x29:IV) (h1:Hp) (x28:IV) (q24:List IV→Hp→OH):OH :=
 Ae x31 h26 fun x32 _=>B0 x32 fun x34=>F8 EE 3 x30 x34 fun x35=>Ai x35 (Ab 2 x27 fun x36=>RW h26 x36 x30 ih x29 h1 x27 x28 q24) (Ab 0 x27 fun x132=>Sb h26 x132 x29 ih x28 x27)
def IA (l25:List IV) (h26:Hp) (ih:Aa) (h1:Hp) (q24:List IV→Hp→OH):OH :=
 AA l25 fun x27 l508=>AA l508 fun x28 l509=>AA l509 fun x29 l510=>AA l510 fun x30 _=>Ab 2 x27 fun x31=>QW h26 x31 x30 x27 ih x29 h1 x28 q24
def Qo (x11 x14:IV) (h7 h1:Hp) (x2 x6:IV) (n:Nat) (ih:Aa):OH :=
 Bw [.fv (.int .i64 0),.fv (.int .i64 0),.nils] [(0,1,x11),(1,1,x14)] fun x16=>AD 90178565 (.row [.fv (.int .i64 0),.fv (.int .i64 0),.nils] false) (.ptr (.own 90178565) 0) h7 fun x17 h18 _ _=>Af 3 x17 x16 h18 fun h21 _ _=>Bs (h1.own.map (·.1)) [90182662,90185732] [x2,x6,x17,.fv (.int .i64 0)] h21 fun h512=>By n (fun q24 l25 h26=>IA l25 h26 ih h1 q24) [x2,x6,x17,.fv (.int .i64 0)] h512
def S86 (ih:Aa) (n:Nat) (x0:IV) (h1:Hp):OH :=
 AX 90177536 x0 h1 fun x2 h3 _ _=>AD 90177537 (.row [.fv (.int .i64 0),.fv (.int .i64 0),.nils] false) (.ptr (.own 90177537) 0) h3 fun x6 h7 _ _=>Ab 0 x2 fun x10=>Ae x10 h7 fun x11 _=>Ab 1 x2 fun x13=>Ae x13 h7 fun x14 _=>Qo x11 x14 h7 h1 x2 x6 n ih
theorem ApD (ih:Aa) (n:Nat) (x0:IV) (h1:Hp):Aw EE ih ft.get n 86 [x0] h1=S86 ih n x0 h1:=by kernel_rfl
def S87 (ih:Aa) (n:Nat) (x0 x1:IV) (h2:Hp):OH :=
 Ay (Ak EE 114 0 []) 91227136 h2 fun x3 h4 _ _=>Ay (AS EE 91227138 false .append [114,114] [x3,x0]) 91227138 h4 fun x7 h8 _ _=>Ay (AS EE 91227140 false .append [114,114] [x7,x1]) 91227140 h8 fun x11 h12 _ _=>Al [x11] h12
theorem Aqc (ih:Aa) (n:Nat) (x0 x1:IV) (h2:Hp):Aw EE ih ft.get n 87 [x0,x1] h2=S87 ih n x0 x1 h2:=by kernel_rfl
def AaR (r121 w122:AC) (h120:Hp) (x119:IV):OH :=
 Ad [] r121 w122 (Al [x119] h120)
def ZI (h79:Hp) (x109:IV) (r103 r99:AC) (ih:Aa) (x102 x0 x98:IV):OH :=
 Ay (Ak EE 114 1 [(0,x109)]) 92280847 h79 fun x111 h112 r113 w114=>Ad [(r103,[]),(r99,[])] r113 w114 (Ah [] false false ih 87 [x102,x111] h112 fun x115 h116 r117 w118=>Ad [(r99,[])] r117 w118 (Ah [true,false,false] false false ih 62 [x0,x98,x115] h116 fun x119 h120 r121 w122=>AaR r121 w122 h120 x119))
def WM (h79:Hp) (x105:IV) (r103 r99:AC) (ih:Aa) (x102 x0 x98:IV):OH :=
 Ae x105 h79 fun x106 r107=>Ad [(r103,[]),(r99,[])] r107 [] (AT 1 x106 (.fv (.int .i64 1)) fun x108=>Ae x108 h79 fun x109 r110=>Ad [(r103,[]),(r99,[])] r110 [] (ZI h79 x109 r103 r99 ih x102 x0 x98))
def Zj (x100:IV) (h79:Hp) (r99:AC) (x1:IV) (ih:Aa) (x0 x98:IV):OH :=
 Ab 3 x100 fun x101=>Ae x101 h79 fun x102 r103=>Ad [(r99,[])] r103 [] (AH x1 fun x104=>Ab 2 x104 fun x105=>WM h79 x105 r103 r99 ih x102 x0 x98)
def Wi (x94:IV) (h79:Hp) (x1:IV) (ih:Aa) (x0:IV):OH :=
 AH x94 fun x96=>Ab 4 x96 fun x97=>Ag 3 x97 h79 fun x98 r99=>Ad [] r99 [] (AH x94 fun x100=>Zj x100 h79 r99 x1 ih x0 x98)
def Xw (x87:IV) (h79:Hp) (x1:IV) (ih:Aa) (x0:IV):OH :=
 AH x87 fun x89=>Ab 2 x89 fun x90=>Ae x90 h79 fun x91 _=>AT 1 x91 (.fv (.int .i64 1)) fun x93=>Ae x93 h79 fun x94 _=>Wi x94 h79 x1 ih x0
def Aa1 (x1:IV) (h79:Hp) (ih:Aa) (x0:IV):OH :=
 AH x1 fun x82=>Ab 2 x82 fun x83=>Ae x83 h79 fun x84 _=>AT 1 x84 (.fv (.int .i64 0)) fun x86=>Ae x86 h79 fun x87 _=>Xw x87 h79 x1 ih x0
def Yy (x235 x242:IV) (h223:Hp):OH :=
 AT 1 x235 x242 fun x243=>Ae x243 h223 fun x244 r245=>Ad [] r245 [] (Al [x244] h223)
def Ys (x237:IV) (h223:Hp) (r236 r232 r229:AC) (x235:IV):OH :=
 Ab 0 x237 fun x238=>Ae x238 h223 fun x239 r240=>Ad [(r236,[]),(r232,[]),(r229,[])] r240 [] (Bp EE 3 (.fv (.int .i64 1)) x239 fun x241=>Bd EE 3 x241 (.fv (.int .i64 8)) fun x242=>Yy x235 x242 h223)
def AaP (x231:IV) (h223:Hp) (x1:IV) (r232 r229:AC):OH :=
 AH x231 fun x233=>Ab 2 x233 fun x234=>Ae x234 h223 fun x235 r236=>Ad [] r236 [] (AH x1 fun x237=>Ys x237 h223 r236 r232 r229 x235)
def AbH (h223:Hp) (x227 x1:IV):OH :=
 Ae x227 h223 fun x228 r229=>Ad [] r229 [] (AT 1 x228 (.fv (.int .i64 0)) fun x230=>Ae x230 h223 fun x231 r232=>Ad [] r232 [] (AaP x231 h223 x1 r232 r229))
def AbA (ih:Aa) (h218:Hp) (x0 x1:IV) (j0_3:Hp→OH):OH :=
 Ah [true] false false ih 108 [x0] h218 fun x222 h223 _ _=>Ai x222 (AH x1 fun x226=>Ab 2 x226 fun x227=>AbH h223 x227 x1) (j0_3 h223)
def Aa2 (x258:IV) (h250:Hp):OH :=
 AH x258 fun x260=>Ab 2 x260 fun x261=>Ae x261 h250 fun x262 _=>AT 1 x262 (.fv (.int .i64 0)) fun x264=>Ae x264 h250 fun x265 _=>Al [x265] h250
def AaN (x1:IV) (h250:Hp):OH :=
 AH x1 fun x253=>Ab 2 x253 fun x254=>Ae x254 h250 fun x255 _=>AT 1 x255 (.fv (.int .i64 0)) fun x257=>Ae x257 h250 fun x258 _=>Aa2 x258 h250
def Aak (h336:Hp) (x340:IV):OH :=
 Ae x340 h336 fun x341 _=>AT 1 x341 (.fv (.int .i64 1)) fun x343=>Ae x343 h336 fun x344 _=>Al [x344] h336
def YC (x335 x1:IV) (h336:Hp) (j0_3:Hp→OH):OH :=
 Ai x335 (AH x1 fun x339=>Ab 2 x339 fun x340=>Aak h336 x340) (j0_3 h336)
def ZW (r483 w484 r480 r476:AC) (ih:Aa) (h482:Hp) (x479 x481 x0 x475:IV):OH :=
 Ad [(r480,[]),(r476,[])] r483 w484 (Ah [] false false ih 87 [x479,x481] h482 fun x485 h486 r487 w488=>Ad [(r476,[])] r487 w488 (Ah [true,false,false] false false ih 62 [x0,x475,x485] h486 fun x489 h490 r491 w492=>Ad [] r491 w492 (Al [x489] h490)))
def XM (x471:IV) (h463:Hp) (r476:AC) (x430 x462:IV) (ih:Aa) (x0 x475:IV):OH :=
 AH x471 fun x477=>Ab 3 x477 fun x478=>Ae x478 h463 fun x479 r480=>Ad [(r476,[])] r480 [] (Ay (Ak EE 114 2 [(0,x430),(1,x462)]) 92297227 h463 fun x481 h482 r483 w484=>ZW r483 w484 r480 r476 ih h482 x479 x481 x0 x475)
def Aa8 (h463:Hp) (x470 x430 x462:IV) (ih:Aa) (x0:IV):OH :=
 Ae x470 h463 fun x471 _=>AH x471 fun x473=>Ab 4 x473 fun x474=>Ag 3 x474 h463 fun x475 r476=>Ad [] r476 [] (XM x471 h463 r476 x430 x462 ih x0 x475)
def Acp (r464 w465:AC) (x1:IV) (h463:Hp) (x430 x462:IV) (ih:Aa) (x0:IV):OH :=
 Ad [] r464 w465 (AH x1 fun x466=>Ab 2 x466 fun x467=>Ae x467 h463 fun x468 _=>AT 1 x468 (.fv (.int .i64 2)) fun x470=>Aa8 h463 x470 x430 x462 ih x0)
def Aay (r455 w456:AC) (x453:IV) (h454:Hp) (ih:Aa) (x0 x1 x430:IV):OH :=
 Ad [] r455 w456 (Bw [.fv (.int .i64 0),.fv (.int .i64 0),.nils,.nils,.fv (.int .i64 0),.fv (.int .i64 0),.nils] [(0,1,.fv (.int .i64 13)),(2,1,x453)] fun x457=>AX 92295190 x457 h454 fun x458 h459 r460 w461=>Ad [] r460 w461 (Ah [true,false] false false ih 88 [x0,x458] h459 fun x462 h463 r464 w465=>Acp r464 w465 x1 h463 x430 x462 ih x0))
def Wt (r449 r445 r442 r438 r435:AC) (x448:IV) (h415:Hp) (x437 x444 x430:IV) (ih:Aa) (x0 x1:IV):OH :=
 Ad [(r445,[]),(r442,[]),(r438,[]),(r435,[])] r449 [] (AT 1 x448 (.fv (.int .i64 2)) fun x450=>Ae x450 h415 fun x451 r452=>Ad [(r445,[]),(r442,[]),(r438,[]),(r435,[])] r452 [] (Ay (Ak EE 114 4 [(0,x437),(1,x444),(2,x451),(3,x430)]) 92295188 h415 fun x453 h454 r455 w456=>Aay r455 w456 x453 h454 ih x0 x1 x430))
def Aci (h415:Hp) (x443:IV) (r438 r435:AC) (x1:IV) (r442:AC) (x437 x430:IV) (ih:Aa) (x0:IV):OH :=
 Ae x443 h415 fun x444 r445=>Ad [(r438,[]),(r435,[])] r445 [] (AH x1 fun x446=>Ab 2 x446 fun x447=>Ae x447 h415 fun x448 r449=>Wt r449 r445 r442 r438 r435 x448 h415 x437 x444 x430 ih x0 x1)
def Aax (x1:IV) (h415:Hp) (r438 r435:AC) (x437 x430:IV) (ih:Aa) (x0:IV):OH :=
 AH x1 fun x439=>Ab 2 x439 fun x440=>Ae x440 h415 fun x441 r442=>Ad [(r438,[]),(r435,[])] r442 [] (AT 1 x441 (.fv (.int .i64 1)) fun x443=>Aci h415 x443 r438 r435 x1 r442 x437 x430 ih x0)
def Y0 (h415:Hp) (x433 x1 x430:IV) (ih:Aa) (x0:IV):OH :=
 Ae x433 h415 fun x434 r435=>Ad [] r435 [] (AT 1 x434 (.fv (.int .i64 0)) fun x436=>Ae x436 h415 fun x437 r438=>Ad [] r438 [] (Aax x1 h415 r438 r435 x437 x430 ih x0))
def Yo (h415:Hp) (x426 x1:IV) (ih:Aa) (x0:IV):OH :=
 Ae x426 h415 fun x427 _=>AT 1 x427 (.fv (.int .i64 0)) fun x429=>Ae x429 h415 fun x430 _=>AH x1 fun x432=>Ab 2 x432 fun x433=>Y0 h415 x433 x1 x430 ih x0
def Aaq (h415:Hp) (x419 x1:IV) (ih:Aa) (x0:IV):OH :=
 Ae x419 h415 fun x420 _=>AT 1 x420 (.fv (.int .i64 3)) fun x422=>Ae x422 h415 fun x423 _=>AH x423 fun x425=>Ab 2 x425 fun x426=>Yo h415 x426 x1 ih x0
def Wn (ih:Aa) (h410:Hp) (x0 x1:IV) (j0_3:Hp→OH):OH :=
 Ah [true] false false ih 108 [x0] h410 fun x414 h415 _ _=>Ai x414 (AH x1 fun x418=>Ab 2 x418 fun x419=>Aaq h415 x419 x1 ih x0) (j0_3 h415)
def AaT (h391:Hp) (x350 x390:IV) (ih:Aa) (x0 x1:IV) (j0_3:Hp→OH):OH :=
 Ac x350 true h391 (fun k394=>Ab 0 x390 fun x395=>k394 x395 h391 [] []) fun x396 h397 _ _=>Ac x350 true h397 (fun k400=>Ae x396 h397 fun x401 r402=>k400 x401 h397 r402 []) fun x403 h404 _ _=>Ac x350 true h404 (fun k407=>AN EE 3 x403 (.fv (.int .i64 12)) fun x408=>k407 x408 h404 [] []) fun x409 h410 _ _=>AI x350 x409 (.fv (.bool false)) fun x413=>Ai x413 (Wn ih h410 x0 x1 j0_3) (j0_3 h410)
def Aas (h359:Hp) (x350 x358:IV) (ih:Aa) (x0 x1:IV) (j0_3:Hp→OH):OH :=
 Ac x350 true h359 (fun k362=>Ab 2 x358 fun x363=>k362 x363 h359 [] []) fun x364 h365 _ _=>Ac x350 true h365 (fun k368=>Ae x364 h365 fun x369 r370=>k368 x369 h365 r370 []) fun x371 h372 _ _=>Ac x350 true h372 (fun k375=>AT 1 x371 (.fv (.int .i64 3)) fun x376=>k375 x376 h372 [] []) fun x377 h378 _ _=>Ac x350 true h378 (fun k381=>Ae x377 h378 fun x382 r383=>k381 x382 h378 r383 []) fun x384 h385 _ _=>Ac x350 true h385 (fun k388=>AH x384 fun x389=>k388 x389 h385 [] []) fun x390 h391 _ _=>AaT h391 x350 x390 ih x0 x1 j0_3
def Yb (x346:IV) (h331:Hp) (x1:IV) (ih:Aa) (x0:IV) (j0_3:Hp→OH):OH :=
 Ab 0 x346 fun x347=>Ae x347 h331 fun x348 _=>AN EE 3 x348 (.fv (.int .i64 13)) fun x350=>Ac x350 true h331 (fun k351=>k351 x1 h331 [] []) fun x352 h353 _ _=>Ac x350 true h353 (fun k356=>AH x352 fun x357=>k356 x357 h353 [] []) fun x358 h359 _ _=>Aas h359 x350 x358 ih x0 x1 j0_3
def ZE (h318:Hp) (x271 x317:IV) (ih:Aa) (x0 x1:IV) (j0_3:Hp→OH):OH :=
 Ac x271 true h318 (fun k321=>Ae x317 h318 fun x322 r323=>k321 x322 h318 r323 []) fun x324 h325 _ _=>Ac x271 true h325 (fun k328=>AN EE 3 x324 (.fv (.int .i64 11)) fun x329=>k328 x329 h325 [] []) fun x330 h331 _ _=>AI x271 x330 (.fv (.bool false)) fun x334=>Ai x334 (Ah [true] false false ih 108 [x0] h331 fun x335 h336 _ _=>YC x335 x1 h336 j0_3) (AH x1 fun x346=>Yb x346 h331 x1 ih x0 j0_3)
def Xt (h286:Hp) (x271 x285:IV) (ih:Aa) (x0 x1:IV) (j0_3:Hp→OH):OH :=
 Ac x271 true h286 (fun k289=>Ae x285 h286 fun x290 r291=>k289 x290 h286 r291 []) fun x292 h293 _ _=>Ac x271 true h293 (fun k296=>AT 1 x292 (.fv (.int .i64 3)) fun x297=>k296 x297 h293 [] []) fun x298 h299 _ _=>Ac x271 true h299 (fun k302=>Ae x298 h299 fun x303 r304=>k302 x303 h299 r304 []) fun x305 h306 _ _=>Ac x271 true h306 (fun k309=>AH x305 fun x310=>k309 x310 h306 [] []) fun x311 h312 _ _=>Ac x271 true h312 (fun k315=>Ab 0 x311 fun x316=>k315 x316 h312 [] []) fun x317 h318 _ _=>ZE h318 x271 x317 ih x0 x1 j0_3
def W3 (h248:Hp) (x268 x1:IV) (ih:Aa) (x0:IV) (j0_3:Hp→OH):OH :=
 Ae x268 h248 fun x269 _=>AN EE 3 x269 (.fv (.int .i64 13)) fun x271=>Ac x271 true h248 (fun k272=>k272 x1 h248 [] []) fun x273 h274 _ _=>Ac x271 true h274 (fun k277=>AH x273 fun x278=>k277 x278 h274 [] []) fun x279 h280 _ _=>Ac x271 true h280 (fun k283=>Ab 2 x279 fun x284=>k283 x284 h280 [] []) fun x285 h286 _ _=>Xt h286 x271 x285 ih x0 x1 j0_3
def YI (x247:IV) (ih:Aa) (h248:Hp) (x0 x1:IV) (j0_3:Hp→OH):OH :=
 Ai x247 (Ah [true] false false ih 108 [x0] h248 fun x249 h250 _ _=>Ai x249 (AaN x1 h250) (j0_3 h250)) (AH x1 fun x267=>Ab 0 x267 fun x268=>W3 h248 x268 x1 ih x0 j0_3)
def Ze (h612:Hp) (x565 x611:IV) (j1_246:IV→Hp→OH):OH :=
 Ac x565 true h612 (fun k615=>Ae x611 h612 fun x616 r617=>k615 x616 h612 r617 []) fun x618 h619 _ _=>Ac x565 true h619 (fun k622=>AN EE 3 x618 (.fv (.int .i64 30)) fun x623=>k622 x623 h619 [] []) fun x624 h625 _ _=>AI x565 x624 (.fv (.bool false)) fun x628=>j1_246 x628 h625
def Yt (h580:Hp) (x565 x579:IV) (j1_246:IV→Hp→OH):OH :=
 Ac x565 true h580 (fun k583=>Ae x579 h580 fun x584 r585=>k583 x584 h580 r585 []) fun x586 h587 _ _=>Ac x565 true h587 (fun k590=>AT 1 x586 (.fv (.int .i64 0)) fun x591=>k590 x591 h587 [] []) fun x592 h593 _ _=>Ac x565 true h593 (fun k596=>Ae x592 h593 fun x597 r598=>k596 x597 h593 r598 []) fun x599 h600 _ _=>Ac x565 true h600 (fun k603=>AH x599 fun x604=>k603 x604 h600 [] []) fun x605 h606 _ _=>Ac x565 true h606 (fun k609=>Ab 0 x605 fun x610=>k609 x610 h606 [] []) fun x611 h612 _ _=>Ze h612 x565 x611 j1_246
def W5 (h557:Hp) (x562 x1:IV) (j1_246:IV→Hp→OH):OH :=
 Ae x562 h557 fun x563 _=>AN EE 3 x563 (.fv (.int .i64 19)) fun x565=>Ac x565 true h557 (fun k566=>k566 x1 h557 [] []) fun x567 h568 _ _=>Ac x565 true h568 (fun k571=>AH x567 fun x572=>k571 x572 h568 [] []) fun x573 h574 _ _=>Ac x565 true h574 (fun k577=>Ab 2 x573 fun x578=>k577 x578 h574 [] []) fun x579 h580 _ _=>Yt h580 x565 x579 j1_246
def Z5 (x497 x556:IV) (j1_246:IV→Hp→OH) (h557:Hp) (x1:IV):OH :=
 AI x497 x556 (.fv (.bool false)) fun x560=>Ai x560 (j1_246 x560 h557) (AH x1 fun x561=>Ab 0 x561 fun x562=>W5 h557 x562 x1 j1_246)
def Ab1 (h525:Hp) (x497 x524:IV) (j1_246:IV→Hp→OH) (x1:IV):OH :=
 Ac x497 true h525 (fun k528=>Ae x524 h525 fun x529 r530=>k528 x529 h525 r530 []) fun x531 h532 _ _=>Ac x497 true h532 (fun k535=>AH x531 fun x536=>k535 x536 h532 [] []) fun x537 h538 _ _=>Ac x497 true h538 (fun k541=>Ab 0 x537 fun x542=>k541 x542 h538 [] []) fun x543 h544 _ _=>Ac x497 true h544 (fun k547=>Ae x543 h544 fun x548 r549=>k547 x548 h544 r549 []) fun x550 h551 _ _=>Ac x497 true h551 (fun k554=>AN EE 3 x550 (.fv (.int .i64 19)) fun x555=>k554 x555 h551 [] []) fun x556 h557 _ _=>Z5 x497 x556 j1_246 h557 x1
def WQ (h218:Hp) (x497 x1:IV) (j1_246:IV→Hp→OH):OH :=
 Ac x497 true h218 (fun k498=>k498 x1 h218 [] []) fun x499 h500 _ _=>Ac x497 true h500 (fun k503=>AH x499 fun x504=>k503 x504 h500 [] []) fun x505 h506 _ _=>Ac x497 true h506 (fun k509=>Ab 2 x505 fun x510=>k509 x510 h506 [] []) fun x511 h512 _ _=>Ac x497 true h512 (fun k515=>Ae x511 h512 fun x516 r517=>k515 x516 h512 r517 []) fun x518 h519 _ _=>Ac x497 true h519 (fun k522=>AT 1 x518 (.fv (.int .i64 0)) fun x523=>k522 x523 h519 [] []) fun x524 h525 _ _=>Ab1 h525 x497 x524 j1_246 x1
def Wj (ih:Aa) (x0 x1:IV) (j0_3:Hp→OH) (h218:Hp):OH :=
 (fun (j1_246:IV→Hp→OH)=>AH x1 fun x493=>Ab 0 x493 fun x494=>Ae x494 h218 fun x495 _=>AN EE 3 x495 (.fv (.int .i64 30)) fun x497=>WQ h218 x497 x1 j1_246) fun x247 h248=>YI x247 ih h248 x0 x1 j0_3
def AbI (h199:Hp) (x158 x198:IV) (ih:Aa) (x0 x1:IV) (j0_3:Hp→OH):OH :=
 Ac x158 true h199 (fun k202=>Ab 0 x198 fun x203=>k202 x203 h199 [] []) fun x204 h205 _ _=>Ac x158 true h205 (fun k208=>Ae x204 h205 fun x209 r210=>k208 x209 h205 r210 []) fun x211 h212 _ _=>Ac x158 true h212 (fun k215=>AN EE 3 x211 (.fv (.int .i64 7)) fun x216=>k215 x216 h212 [] []) fun x217 h218 _ _=>AI x158 x217 (.fv (.bool false)) fun x221=>Ai x221 (AbA ih h218 x0 x1 j0_3) (Wj ih x0 x1 j0_3 h218)
def Yg (h167:Hp) (x158 x166:IV) (ih:Aa) (x0 x1:IV) (j0_3:Hp→OH):OH :=
 Ac x158 true h167 (fun k170=>Ab 2 x166 fun x171=>k170 x171 h167 [] []) fun x172 h173 _ _=>Ac x158 true h173 (fun k176=>Ae x172 h173 fun x177 r178=>k176 x177 h173 r178 []) fun x179 h180 _ _=>Ac x158 true h180 (fun k183=>AT 1 x179 (.fv (.int .i64 0)) fun x184=>k183 x184 h180 [] []) fun x185 h186 _ _=>Ac x158 true h186 (fun k189=>Ae x185 h186 fun x190 r191=>k189 x190 h186 r191 []) fun x192 h193 _ _=>Ac x158 true h193 (fun k196=>AH x192 fun x197=>k196 x197 h193 [] []) fun x198 h199 _ _=>AbI h199 x158 x198 ih x0 x1 j0_3
def Acc (h142:Hp) (x127 x141 x1:IV) (ih:Aa) (x0:IV) (j0_3:Hp→OH):OH :=
 Ac x127 false h142 (fun k145=>Ae x141 h142 fun x146 r147=>k145 x146 h142 r147 []) fun x148 h149 _ _=>Ac x127 false h149 (fun k152=>AN EE 3 x148 (.fv (.int .i64 9)) fun x153=>k152 x153 h149 [] []) fun x154 h155 _ _=>AI x127 (.fv (.bool true)) x154 fun x158=>Ac x158 true h155 (fun k159=>k159 x1 h155 [] []) fun x160 h161 _ _=>Ac x158 true h161 (fun k164=>AH x160 fun x165=>k164 x165 h161 [] []) fun x166 h167 _ _=>Yg h167 x158 x166 ih x0 x1 j0_3
def Y4 (h74:Hp) (x124 x1:IV) (ih:Aa) (x0:IV) (j0_3:Hp→OH):OH :=
 Ae x124 h74 fun x125 _=>AN EE 3 x125 (.fv (.int .i64 8)) fun x127=>Ac x127 false h74 (fun k128=>k128 x1 h74 [] []) fun x129 h130 _ _=>Ac x127 false h130 (fun k133=>AH x129 fun x134=>k133 x134 h130 [] []) fun x135 h136 _ _=>Ac x127 false h136 (fun k139=>Ab 0 x135 fun x140=>k139 x140 h136 [] []) fun x141 h142 _ _=>Acc h142 x127 x141 x1 ih x0 j0_3
def AbE (x77:IV) (ih:Aa) (h74:Hp) (x0 x1:IV) (j0_3:Hp→OH):OH :=
 Ai x77 (Ah [true] false false ih 108 [x0] h74 fun x78 h79 _ _=>Ai x78 (Aa1 x1 h79 ih x0) (j0_3 h79)) (AH x1 fun x123=>Ab 0 x123 fun x124=>Y4 h74 x124 x1 ih x0 j0_3)
def WK (h49:Hp) (x14 x48:IV) (ih:Aa) (x0 x1:IV) (j0_3:Hp→OH):OH :=
 Ac x14 true h49 (fun k52=>AH x48 fun x53=>k52 x53 h49 [] []) fun x54 h55 _ _=>Ac x14 true h55 (fun k58=>Ab 0 x54 fun x59=>k58 x59 h55 [] []) fun x60 h61 _ _=>Ac x14 true h61 (fun k64=>Ae x60 h61 fun x65 r66=>k64 x65 h61 r66 []) fun x67 h68 _ _=>Ac x14 true h68 (fun k71=>AN EE 3 x67 (.fv (.int .i64 4)) fun x72=>k71 x72 h68 [] []) fun x73 h74 _ _=>AI x14 x73 (.fv (.bool false)) fun x77=>AbE x77 ih h74 x0 x1 j0_3
def AaX (h17:Hp) (x14 x16:IV) (ih:Aa) (x0 x1:IV) (j0_3:Hp→OH):OH :=
 Ac x14 true h17 (fun k20=>AH x16 fun x21=>k20 x21 h17 [] []) fun x22 h23 _ _=>Ac x14 true h23 (fun k26=>Ab 2 x22 fun x27=>k26 x27 h23 [] []) fun x28 h29 _ _=>Ac x14 true h29 (fun k32=>Ae x28 h29 fun x33 r34=>k32 x33 h29 r34 []) fun x35 h36 _ _=>Ac x14 true h36 (fun k39=>AT 1 x35 (.fv (.int .i64 0)) fun x40=>k39 x40 h36 [] []) fun x41 h42 _ _=>Ac x14 true h42 (fun k45=>Ae x41 h42 fun x46 r47=>k45 x46 h42 r47 []) fun x48 h49 _ _=>WK h49 x14 x48 ih x0 x1 j0_3
def AaH (x1:IV) (h2:Hp) (ih:Aa) (x0:IV) (j0_3:Hp→OH):OH :=
 AH x1 fun x10=>Ab 0 x10 fun x11=>Ae x11 h2 fun x12 _=>AN EE 3 x12 (.fv (.int .i64 5)) fun x14=>Ac x14 true h2 (fun k15=>k15 x1 h2 [] []) fun x16 h17 _ _=>AaX h17 x14 x16 ih x0 x1 j0_3
def S88 (ih:Aa) (n:Nat) (x0 x1:IV) (h2:Hp):OH :=
 (fun (j0_3:Hp→OH)=>AH x0 fun x5=>Ab 2 x5 fun x6=>Ae x6 h2 fun x7 _=>Ch EE 3 x7 (.fv (.int .i64 0)) fun x9=>Ai x9 (Al [x1] h2) (AaH x1 h2 ih x0 j0_3)) fun h4=>Al [x1] h4
theorem An2 (ih:Aa) (n:Nat) (x0 x1:IV) (h2:Hp):Aw EE ih ft.get n 88 [x0,x1] h2=S88 ih n x0 x1 h2:=by kernel_rfl
def Agd (h7:Hp) (x4 x6:IV):OH :=
 Ac x4 true h7 (fun k10=>leS EE 3 x6 (.fv (.int .i64 3000)) fun x11=>k10 x11 h7 [] []) fun x12 h13 _ _=>AI x4 x12 (.fv (.bool false)) fun x16=>Al [x16] h13
def Agv (x1:IV) (h2:Hp):OH :=
 Uv EE 3 x1 (.fv (.int .i64 0)) fun x18=>Ac x18 true h2 (fun k19=>k19 x1 h2 [] []) fun x20 h21 _ _=>Ac x18 true h21 (fun k24=>leS EE 3 x20 (.fv (.int .i64 2)) fun x25=>k24 x25 h21 [] []) fun x26 h27 _ _=>AI x18 x26 (.fv (.bool false)) fun x30=>Al [x30] h27
def Agj (h35:Hp) (x32 x34:IV):OH :=
 Ac x32 true h35 (fun k38=>leS EE 3 x34 (.fv (.int .i64 4)) fun x39=>k38 x39 h35 [] []) fun x40 h41 _ _=>AI x32 x40 (.fv (.bool false)) fun x44=>Al [x44] h41
def AfF (x1:IV) (h2:Hp):OH :=
 AN EE 3 x1 (.fv (.int .i64 0)) fun x46=>Al [x46] h2
def Agw (x0 x1:IV) (h2:Hp):OH :=
 AN EE 3 x0 (.fv (.int .i64 26)) fun x31=>Ai x31 (Uv EE 3 x1 (.fv (.int .i64 0)) fun x32=>Ac x32 true h2 (fun k33=>k33 x1 h2 [] []) fun x34 h35 _ _=>Agj h35 x32 x34) (AN EE 3 x0 (.fv (.int .i64 25)) fun x45=>Ai x45 (Al [.fv (.bool true)] h2) (AfF x1 h2))
def S89 (ih:Aa) (n:Nat) (x0 x1:IV) (h2:Hp):OH :=
 AN EE 3 x0 (.fv (.int .i64 1)) fun x3=>Ai x3 (Uv EE 3 x1 (.fv (.int .i64 0)) fun x4=>Ac x4 true h2 (fun k5=>k5 x1 h2 [] []) fun x6 h7 _ _=>Agd h7 x4 x6) (AN EE 3 x0 (.fv (.int .i64 2)) fun x17=>Ai x17 (Agv x1 h2) (Agw x0 x1 h2))
theorem AqI (ih:Aa) (n:Nat) (x0 x1:IV) (h2:Hp):Aw EE ih ft.get n 89 [x0,x1] h2=S89 ih n x0 x1 h2:=by kernel_rfl
def Ia (h28:Hp) (x13 x27:IV):OH :=
 Af 3 x13 x27 h28 fun h31 _ _=>As true 3 x13 h31 fun x34=>Al [x34] h31
def IS (x40:IV) (h14:Hp) (x13:IV):OH :=
 Bd EE 3 x40 (.fv (.int .i64 1)) fun x42=>Bw [.fv (.int .i64 0),.fv (.int .i64 0),.nils] [(0,1,.fv (.int .i64 1)),(1,1,x42)] fun x43=>Af 3 x13 x43 h14 fun h44 _ _=>As true 3 x13 h44 fun x47=>Al [x47] h44
def I0 (h50:Hp) (x13:IV):OH :=
 As true 3 x13 h50 fun x53=>Al [x53] h50
def IJ (x36 x1 x5:IV) (h14:Hp) (x13:IV):OH :=
 Ke EE 3 x36 x1 fun x38=>Ai x38 (Ab 1 x5 fun x39=>Ae x39 h14 fun x40 _=>IS x40 h14 x13) (Ag 3 x5 h14 fun x48 _=>Af 3 x13 x48 h14 fun h50 _ _=>I0 h50 x13)
def Ip (x22 x1:IV) (h14:Hp) (x9:IV) (ih:Aa) (x2 x13 x5:IV):OH :=
 AN EE 3 x22 x1 fun x24=>Ai x24 (Ag 3 x9 h14 fun x25 _=>Ah [] false false ih 45 [x25,x2,.fv (.int .i64 0)] h14 fun x27 h28 _ _=>Ia h28 x13 x27) (Ab 1 x5 fun x35=>Ae x35 h14 fun x36 _=>IJ x36 x1 x5 h14 x13)
def H5 (x76:IV) (h112:Hp) (x111 x77:IV) (h4:Hp) (x71 x72 x73 x74 x75:IV) (q68:List IV→Hp→OH):OH :=
 Ab 2 x76 fun x115=>A9 x115 x111 h112 fun h116 r117 w118=>Ad [] r117 w118 (Bp EE 3 x77 (.fv (.int .i64 1)) fun x119=>Bs (h4.own.map (·.1)) [94384144] [x71,x72,x73,x74,x75,x76,x119] h116 fun h120=>q68 [x71,x72,x73,x74,x75,x76,x119] h120)
def HJ (r105 w106 r92:AC) (h104:Hp) (x103 x91 x76 x77:IV) (h4:Hp) (x71 x72 x73 x74 x75:IV) (q68:List IV→Hp→OH):OH :=
 Ad [(r92,[])] r105 w106 (Ay (Ak EE 28 1 [(0,x103)]) 94384143 h104 fun x107 h108 r109 w110=>Ad [(r92,[])] r109 w110 (Ay (AS EE 94384144 false .append [28,28] [x91,x107]) 94384144 h108 fun x111 h112 r113 w114=>Ad [] r113 w114 (H5 x76 h112 x111 x77 h4 x71 x72 x73 x74 x75 q68)))
def Ir (x71 x86 x72:IV) (h87:Hp) (x74:IV) (r98 r95 r92:AC) (ih:Aa) (x97 x91 x76 x77:IV) (h4:Hp) (x73 x75:IV) (q68:List IV→Hp→OH):OH :=
 Bp EE 3 x71 x86 fun x99=>Bp EE 3 x72 x86 fun x100=>Ag 3 x74 h87 fun x101 r102=>Ad [(r98,[]),(r95,[]),(r92,[])] r102 [] (Ah [] false false ih 90 [x97,x99,x100,x101] h87 fun x103 h104 r105 w106=>HJ r105 w106 r92 h104 x103 x91 x76 x77 h4 x71 x72 x73 x74 x75 q68)
def Iy (h87:Hp) (x93:IV) (r92:AC) (x77 x71 x86 x72 x74:IV) (ih:Aa) (x91 x76:IV) (h4:Hp) (x73 x75:IV) (q68:List IV→Hp→OH):OH :=
 Ae x93 h87 fun x94 r95=>Ad [(r92,[])] r95 [] (AT 3 x94 x77 fun x96=>Ag 3 x96 h87 fun x97 r98=>Ad [(r92,[])] r98 [] (Ir x71 x86 x72 h87 x74 r98 r95 r92 ih x97 x91 x76 x77 h4 x73 x75 q68))
def IZ (ih:Aa) (h70:Hp) (x84 x77 x76 x73 x71 x72 x74:IV) (h4:Hp) (x75:IV) (q68:List IV→Hp→OH):OH :=
 Ah [] false false ih 54 [x84,x77] h70 fun x86 h87 _ _=>Ab 2 x76 fun x90=>Ae x90 h87 fun x91 r92=>Ad [] r92 [] (Ab 2 x73 fun x93=>Iy h87 x93 r92 x77 x71 x86 x72 x74 ih x91 x76 h4 x73 x75 q68)
def H0 (h123:Hp) (x75:IV):OH :=
 As true 3 x75 h123 fun x126=>Al [x126] h123
def H9 (x77 x81 x73:IV) (h70:Hp) (ih:Aa) (x76 x71 x72 x74:IV) (h4:Hp) (x75:IV) (q68:List IV→Hp→OH):OH :=
 F8 EE 3 x77 x81 fun x82=>Ai x82 (Ab 0 x73 fun x83=>Ae x83 h70 fun x84 _=>IZ ih h70 x84 x77 x76 x73 x71 x72 x74 h4 x75 q68) (Ag 3 x76 h70 fun x121 _=>Af 3 x75 x121 h70 fun h123 _ _=>H0 h123 x75)
def Ii (l131:List IV) (x73:IV) (h70:Hp) (ih:Aa) (x71 x72 x74:IV) (h4:Hp) (x75:IV) (q68:List IV→Hp→OH):OH :=
 AA l131 fun x76 l132=>AA l132 fun x77 _=>Ab 2 x73 fun x78=>Ae x78 h70 fun x79 _=>B0 x79 fun x81=>H9 x77 x81 x73 h70 ih x76 x71 x72 x74 h4 x75 q68
def IE (l69:List IV) (h70:Hp) (ih:Aa) (h4:Hp) (q68:List IV→Hp→OH):OH :=
 AA l69 fun x71 l127=>AA l127 fun x72 l128=>AA l128 fun x73 l129=>AA l129 fun x74 l130=>AA l130 fun x75 l131=>Ii l131 x73 h70 ih x71 x72 x74 h4 x75 q68
def IU (h4 h65:Hp) (x1 x2 x5 x9 x13 x61:IV) (n:Nat) (ih:Aa):OH :=
 Bs (h4.own.map (·.1)) [94384144] [x1,x2,x5,x9,x13,x61,.fv (.int .i64 0)] h65 fun h134=>By n (fun q68 l69 h70=>IE l69 h70 ih h4 q68) [x1,x2,x5,x9,x13,x61,.fv (.int .i64 0)] h134
def H1 (x5:IV) (h14:Hp) (x55:IV) (h4:Hp) (x1 x2 x9 x13:IV) (n:Nat) (ih:Aa):OH :=
 Ab 1 x5 fun x57=>Ae x57 h14 fun x58 _=>Bw [.fv (.int .i64 0),.fv (.int .i64 0),.nils] [(0,1,x55),(1,1,x58)] fun x60=>AD 94379013 (.row [.fv (.int .i64 0),.fv (.int .i64 0),.nils] false) (.ptr (.own 94379013) 0) h14 fun x61 h62 _ _=>Af 3 x61 x60 h62 fun h65 _ _=>IU h4 h65 x1 x2 x5 x9 x13 x61 n ih
def Ig (x20 x5:IV) (h14:Hp) (x1 x9:IV) (ih:Aa) (x2 x13:IV) (h4:Hp) (n:Nat):OH :=
 Ai x20 (Ab 1 x5 fun x21=>Ae x21 h14 fun x22 _=>Ip x22 x1 h14 x9 ih x2 x13 x5) (Ab 0 x5 fun x54=>Ae x54 h14 fun x55 _=>H1 x5 h14 x55 h4 x1 x2 x9 x13 n ih)
def S90 (ih:Aa) (n:Nat) (x0 x1 x2 x3:IV) (h4:Hp):OH :=
 AX 94371840 x0 h4 fun x5 h6 _ _=>AX 94371841 x3 h6 fun x9 h10 _ _=>AD 94371842 (.row [.fv (.int .i64 0),.fv (.int .i64 0),.nils] false) (.ptr (.own 94371842) 0) h10 fun x13 h14 _ _=>Ab 0 x5 fun x17=>Ae x17 h14 fun x18 _=>AN EE 3 x18 (.fv (.int .i64 1)) fun x20=>Ig x20 x5 h14 x1 x9 ih x2 x13 h4 n
theorem Apd (ih:Aa) (n:Nat) (x0 x1 x2 x3:IV) (h4:Hp):Aw EE ih ft.get n 90 [x0,x1,x2,x3] h4=S90 ih n x0 x1 x2 x3 h4:=by kernel_rfl
def Vd (x13 x21:IV) (h22:Hp) (x6 x0:IV):OH :=
 AI x13 (.fv (.bool true)) x21 fun x25=>Ai x25 (Al [.fv (.int .i64 (-1))] h22) (ixA 31 1 x6 x0 fun x26=>Ae x26 h22 fun x27 _=>Al [x27] h22)
def S91 (ih:Aa) (n:Nat) (x0:IV) (h1:Hp):OH :=
 Ay (Mo EE 132 [(0,.fv (.int .i64 (-1))),(1,.fv (.int .i64 0)),(2,.fv (.int .i64 0)),(3,.fv (.int .i64 2)),(4,.fv (.int .i64 2)),(5,.fv (.int .i64 2)),(6,.fv (.int .i64 2)),(7,.fv (.int .i64 3)),(8,.fv (.int .i64 1)),(9,.fv (.int .i64 1)),(10,.fv (.int .i64 0)),(11,.fv (.int .i64 0)),(12,.fv (.int .i64 1)),(13,.fv (.int .i64 4)),(14,.fv (.int .i64 0)),(15,.fv (.int .i64 0)),(16,.fv (.int .i64 2)),(17,.fv (.int .i64 2)),(18,.fv (.int .i64 1)),(19,.fv (.int .i64 1)),(20,.fv (.int .i64 2)),(21,.fv (.int .i64 2)),(22,.fv (.int .i64 2)),(23,.fv (.int .i64 1)),(24,.fv (.int .i64 1)),(25,.fv (.int .i64 0)),(26,.fv (.int .i64 2)),(27,.fv (.int .i64 3)),(28,.fv (.int .i64 2)),(29,.fv (.int .i64 2)),(30,.fv (.int .i64 1))]) 95421440 h1 fun x2 h3 _ _=>AD 95421441 (.row [.fv (.int .i64 0),.fv (.int .i64 0),.fv (.int .i64 0),.fv (.int .i64 0),.fv (.int .i64 0),.fv (.int .i64 0),.fv (.int .i64 0),.fv (.int .i64 0),.fv (.int .i64 0),.fv (.int .i64 0),.fv (.int .i64 0),.fv (.int .i64 0),.fv (.int .i64 0),.fv (.int .i64 0),.fv (.int .i64 0),.fv (.int .i64 0),.fv (.int .i64 0),.fv (.int .i64 0),.fv (.int .i64 0),.fv (.int .i64 0),.fv (.int .i64 0),.fv (.int .i64 0),.fv (.int .i64 0),.fv (.int .i64 0),.fv (.int .i64 0),.fv (.int .i64 0),.fv (.int .i64 0),.fv (.int .i64 0),.fv (.int .i64 0),.fv (.int .i64 0),.fv (.int .i64 0)] false) (.ptr (.own 95421441) 0) h3 fun x6 h7 _ _=>Af 31 x6 x2 h7 fun h10 _ _=>F8 EE 120 x0 (.fv (.int .i64 0)) fun x13=>Ac x13 false h10 (fun k14=>k14 x0 h10 [] []) fun x15 h16 _ _=>Ac x13 false h16 (fun k19=>Uv EE 3 x15 (.fv (.int .i64 31)) fun x20=>k19 x20 h16 [] []) fun x21 h22 _ _=>Vd x13 x21 h22 x6 x0
theorem Aql (ih:Aa) (n:Nat) (x0:IV) (h1:Hp):Aw EE ih ft.get n 91 [x0] h1=S91 ih n x0 h1:=by kernel_rfl
def AeU (h7:Hp) (x4 x6:IV):OH :=
 Ac x4 true h7 (fun k10=>leS EE 3 x6 (.fv (.int .i64 3000)) fun x11=>k10 x11 h7 [] []) fun x12 h13 _ _=>AI x4 x12 (.fv (.bool false)) fun x16=>Al [x16] h13
def Ad9 (x1:IV) (h2:Hp):OH :=
 Uv EE 3 x1 (.fv (.int .i64 0)) fun x18=>Ac x18 true h2 (fun k19=>k19 x1 h2 [] []) fun x20 h21 _ _=>Ac x18 true h21 (fun k24=>leS EE 3 x20 (.fv (.int .i64 2)) fun x25=>k24 x25 h21 [] []) fun x26 h27 _ _=>AI x18 x26 (.fv (.bool false)) fun x30=>Al [x30] h27
def Afd (h35:Hp) (x32 x34:IV):OH :=
 Ac x32 true h35 (fun k38=>leS EE 3 x34 (.fv (.int .i64 4)) fun x39=>k38 x39 h35 [] []) fun x40 h41 _ _=>AI x32 x40 (.fv (.bool false)) fun x44=>Al [x44] h41
def Afm (x1:IV) (h2:Hp):OH :=
 AN EE 3 x1 (.fv (.int .i64 0)) fun x46=>Al [x46] h2
def AdB (x0 x1:IV) (h2:Hp):OH :=
 AN EE 3 x0 (.fv (.int .i64 26)) fun x31=>Ai x31 (Uv EE 3 x1 (.fv (.int .i64 0)) fun x32=>Ac x32 true h2 (fun k33=>k33 x1 h2 [] []) fun x34 h35 _ _=>Afd h35 x32 x34) (AN EE 3 x0 (.fv (.int .i64 25)) fun x45=>Ai x45 (Al [.fv (.bool true)] h2) (Afm x1 h2))
def S92 (ih:Aa) (n:Nat) (x0 x1:IV) (h2:Hp):OH :=
 AN EE 3 x0 (.fv (.int .i64 1)) fun x3=>Ai x3 (Uv EE 3 x1 (.fv (.int .i64 0)) fun x4=>Ac x4 true h2 (fun k5=>k5 x1 h2 [] []) fun x6 h7 _ _=>AeU h7 x4 x6) (AN EE 3 x0 (.fv (.int .i64 2)) fun x17=>Ai x17 (Ad9 x1 h2) (AdB x0 x1 h2))
theorem ApB (ih:Aa) (n:Nat) (x0 x1:IV) (h2:Hp):Aw EE ih ft.get n 92 [x0,x1] h2=S92 ih n x0 x1 h2:=by kernel_rfl
def AeI (x0:IV) (h7:Hp):OH :=
 AN EE 3 x0 (.fv (.int .i64 13)) fun x9=>Ai x9 (Al [.fv (.int .i64 4)] h7) (Al [.fv (.int .i64 (-1))] h7)
def AeG (x6:IV) (h7:Hp) (x0:IV):OH :=
 Ai x6 (Al [.fv (.int .i64 2)] h7) (AN EE 3 x0 (.fv (.int .i64 7)) fun x8=>Ai x8 (Al [.fv (.int .i64 3)] h7) (AeI x0 h7))
def Age (x10:IV) (j1_5:IV→Hp→OH) (h4:Hp) (x0:IV):OH :=
 Ai x10 (j1_5 x10 h4) (AN EE 3 x0 (.fv (.int .i64 5)) fun x11=>j1_5 x11 h4)
def AgN (x3:IV) (h4:Hp) (x0:IV):OH :=
 Ai x3 (Al [.fv (.int .i64 1)] h4) ((fun (j1_5:IV→Hp→OH)=>AN EE 3 x0 (.fv (.int .i64 4)) fun x10=>Age x10 j1_5 h4 x0) fun x6 h7=>AeG x6 h7 x0)
def AeE (x0:IV) (j1_2:IV→Hp→OH) (h1:Hp):OH :=
 AN EE 3 x0 (.fv (.int .i64 30)) fun x16=>j1_2 x16 h1
def AgE (x0:IV) (j1_2:IV→Hp→OH) (h1:Hp):OH :=
 AN EE 3 x0 (.fv (.int .i64 12)) fun x14=>Ai x14 (j1_2 x14 h1) (AN EE 3 x0 (.fv (.int .i64 19)) fun x15=>Ai x15 (j1_2 x15 h1) (AeE x0 j1_2 h1))
def S93 (ih:Aa) (n:Nat) (x0:IV) (h1:Hp):OH :=
 (fun (j1_2:IV→Hp→OH)=>AN EE 3 x0 (.fv (.int .i64 8)) fun x12=>Ai x12 (j1_2 x12 h1) (AN EE 3 x0 (.fv (.int .i64 9)) fun x13=>Ai x13 (j1_2 x13 h1) (AgE x0 j1_2 h1))) fun x3 h4=>AgN x3 h4 x0
theorem Am5 (ih:Aa) (n:Nat) (x0:IV) (h1:Hp):Aw EE ih ft.get n 93 [x0] h1=S93 ih n x0 h1:=by kernel_rfl
def V4 (ih:Aa) (h23:Hp) (x0 x8 x22:IV):OH :=
 Ah [true,false,false,false] false false ih 103 [x0,x8,.fv (.int .i64 1),x22] h23 fun x26 h27 _ _=>Al [x26] h27
def VH (x15:IV) (h2:Hp) (ih:Aa) (x0 x8:IV):OH :=
 Ab 2 x15 fun x16=>Ae x16 h2 fun x17 _=>AT 1 x17 (.fv (.int .i64 1)) fun x19=>Ae x19 h2 fun x20 _=>Ay (Ak EE 127 1 [(0,x20)]) 98569224 h2 fun x22 h23 _ _=>V4 ih h23 x0 x8 x22
def UP (x10:IV) (h2:Hp) (x1:IV) (ih:Aa) (x0 x8:IV):OH :=
 Ab 0 x10 fun x11=>Ae x11 h2 fun x12 _=>AN EE 3 x12 (.fv (.int .i64 4)) fun x14=>Ai x14 (AH x1 fun x15=>VH x15 h2 ih x0 x8) (Al [.fv .nilp] h2)
def S94 (ih:Aa) (n:Nat) (x0 x1:IV) (h2:Hp):OH :=
 AH x1 fun x3=>Ab 2 x3 fun x4=>Ae x4 h2 fun x5 _=>AT 1 x5 (.fv (.int .i64 0)) fun x7=>Ae x7 h2 fun x8 _=>AH x8 fun x10=>UP x10 h2 x1 ih x0 x8
theorem AoP (ih:Aa) (n:Nat) (x0 x1:IV) (h2:Hp):Aw EE ih ft.get n 94 [x0,x1] h2=S94 ih n x0 x1 h2:=by kernel_rfl
def Rp (x20:IV) (h2:Hp):OH :=
 Ab 2 x20 fun x21=>Ae x21 h2 fun x22 _=>AT 1 x22 (.fv (.int .i64 1)) fun x24=>Ae x24 h2 fun x25 _=>Al [x25] h2
def Qz (x27:IV) (h2:Hp):OH :=
 Ab 2 x27 fun x28=>Ae x28 h2 fun x29 _=>AT 1 x29 (.fv (.int .i64 2)) fun x31=>Ae x31 h2 fun x32 _=>Al [x32] h2
def R2 (x15:IV) (h2:Hp) (x8:IV):OH :=
 Ab 0 x15 fun x16=>Ae x16 h2 fun x17 _=>AN EE 3 x17 (.fv (.int .i64 8)) fun x19=>Ai x19 (AH x8 fun x20=>Rp x20 h2) (AH x8 fun x27=>Qz x27 h2)
def PQ (x10:IV) (h2:Hp) (x1 x8:IV):OH :=
 Ab 0 x10 fun x11=>Ae x11 h2 fun x12 _=>Ch EE 3 x12 (.fv (.int .i64 7)) fun x14=>Ai x14 (Al [.fv .nilp] h2) (AH x1 fun x15=>R2 x15 h2 x8)
def S95 (ih:Aa) (n:Nat) (x0 x1:IV) (h2:Hp):OH :=
 AH x1 fun x3=>Ab 2 x3 fun x4=>Ae x4 h2 fun x5 _=>AT 1 x5 (.fv (.int .i64 0)) fun x7=>Ae x7 h2 fun x8 _=>AH x8 fun x10=>PQ x10 h2 x1 x8
theorem AoC (ih:Aa) (n:Nat) (x0 x1:IV) (h2:Hp):Aw EE ih ft.get n 95 [x0,x1] h2=S95 ih n x0 x1 h2:=by kernel_rfl
def QM (x15:IV) (h2:Hp):OH :=
 Ab 2 x15 fun x16=>Ae x16 h2 fun x17 _=>AT 1 x17 (.fv (.int .i64 1)) fun x19=>Ae x19 h2 fun x20 _=>Al [x20] h2
def P6 (h63:Hp) (x60 x62:IV) (ih:Aa) (x0 x1:IV):OH :=
 Ay (Ak EE 127 2 [(0,x60),(1,x62)]) 100671498 h63 fun x66 h67 r68 w69=>Ad [] r68 w69 (Ah [true,false,false,false] false false ih 103 [x0,x1,.fv (.int .i64 2),x66] h67 fun x70 h71 r72 w73=>Ad [] r72 w73 (Al [x70] h71))
def Qg (x57:IV) (h52:Hp) (ih:Aa) (x0 x26:IV) (r58:AC) (x1:IV):OH :=
 AT 1 x57 (.fv (.int .i64 0)) fun x59=>Ae x59 h52 fun x60 r61=>Ad [] r61 [] (Ah [true,false] false false ih 102 [x0,x26] h52 fun x62 h63 r64 w65=>Ad [(r61,[]),(r58,[])] r64 w65 (P6 h63 x60 x62 ih x0 x1))
def Q1 (r53 w54:AC) (x8:IV) (h52:Hp) (ih:Aa) (x0 x26 x1:IV):OH :=
 Ad [] r53 w54 (AH x8 fun x55=>Ab 2 x55 fun x56=>Ae x56 h52 fun x57 r58=>Ad [] r58 [] (Qg x57 h52 ih x0 x26 r58 x1))
def Qs (r46 r39 r36:AC) (h30:Hp) (x38 x45 x26 x8:IV) (ih:Aa) (x0 x1:IV):OH :=
 Ad [(r39,[]),(r36,[])] r46 [] (Ay (Ak EE 127 4 [(0,.fv .nilp),(1,x38),(2,.fv .nilp),(3,x45)]) 100670476 h30 fun x47 h48 r49 w50=>Ad [] r49 w50 (Ab 2 x26 fun x51=>A9 x51 x47 h48 fun h52 r53 w54=>Q1 r53 w54 x8 h52 ih x0 x26 x1))
def PW (x40:IV) (h30:Hp) (r39 r36:AC) (x38 x26 x8:IV) (ih:Aa) (x0 x1:IV):OH :=
 Ab 2 x40 fun x41=>Ae x41 h30 fun x42 r43=>Ad [(r39,[]),(r36,[])] r43 [] (AT 1 x42 (.fv (.int .i64 0)) fun x44=>Ae x44 h30 fun x45 r46=>Qs r46 r39 r36 h30 x38 x45 x26 x8 ih x0 x1)
def RL (r36:AC) (x35:IV) (h30:Hp) (x8 x26:IV) (ih:Aa) (x0 x1:IV):OH :=
 Ad [] r36 [] (AT 1 x35 (.fv (.int .i64 1)) fun x37=>Ae x37 h30 fun x38 r39=>Ad [] r39 [] (AH x8 fun x40=>PW x40 h30 r39 r36 x38 x26 x8 ih x0 x1))
def Rk (h2:Hp) (x24 x1 x8:IV) (ih:Aa) (x0:IV):OH :=
 AD 100669443 (.row [.fv (.int .i64 0),.fv (.int .i64 0),.nils,.fv (.int .i64 0),.fv (.int .i64 0),.nils,.fv (.nilp)] false) (.ptr (.own 100669443) 0) h2 fun x26 h27 _ _=>Af 7 x26 x24 h27 fun h30 _ _=>AH x1 fun x33=>Ab 2 x33 fun x34=>Ae x34 h30 fun x35 r36=>RL r36 x35 h30 x8 x26 ih x0 x1
def Sd (x22 x1:IV) (h2:Hp) (x8:IV) (ih:Aa) (x0:IV):OH :=
 Ai x22 (AH x1 fun x23=>Ag 7 x23 h2 fun x24 _=>Rk h2 x24 x1 x8 ih x0) (Al [.fv .nilp] h2)
def QI (x10:IV) (h2:Hp) (x1 x8:IV) (ih:Aa) (x0:IV):OH :=
 Ab 0 x10 fun x11=>Ae x11 h2 fun x12 _=>AN EE 3 x12 (.fv (.int .i64 11)) fun x14=>Ai x14 (AH x1 fun x15=>QM x15 h2) (AN EE 3 x12 (.fv (.int .i64 12)) fun x22=>Sd x22 x1 h2 x8 ih x0)
def S96 (ih:Aa) (n:Nat) (x0 x1:IV) (h2:Hp):OH :=
 AH x1 fun x3=>Ab 2 x3 fun x4=>Ae x4 h2 fun x5 _=>AT 1 x5 (.fv (.int .i64 3)) fun x7=>Ae x7 h2 fun x8 _=>AH x8 fun x10=>QI x10 h2 x1 x8 ih x0
theorem Aps (ih:Aa) (n:Nat) (x0 x1:IV) (h2:Hp):Aw EE ih ft.get n 96 [x0,x1] h2=S96 ih n x0 x1 h2:=by kernel_rfl
def S97 (ih:Aa) (n:Nat) (x0 x1:IV) (h2:Hp):OH :=
 Ah [] false false ih 109 [x1,.fv (.int .i64 19)] h2 fun x3 h4 _ _=>Al [x3] h4
theorem Ani (ih:Aa) (n:Nat) (x0 x1:IV) (h2:Hp):Aw EE ih ft.get n 97 [x0,x1] h2=S97 ih n x0 x1 h2:=by kernel_rfl
def S98 (ih:Aa) (n:Nat) (x0 x1:IV) (h2:Hp):OH :=
 Ah [] false false ih 109 [x1,.fv (.int .i64 30)] h2 fun x3 h4 _ _=>Al [x3] h4
theorem Aos (ih:Aa) (n:Nat) (x0 x1:IV) (h2:Hp):Aw EE ih ft.get n 98 [x0,x1] h2=S98 ih n x0 x1 h2:=by kernel_rfl
def RH (h44:Hp) (x49:IV):OH :=
 A9 x49 (.fv (.int .i64 17)) h44 fun h50 _ _=>Al [] h50
def Rz (x16 x43 x0:IV) (h44:Hp):OH :=
 AI x16 x43 (.fv (.bool false)) fun x47=>Ai x47 (AH x0 fun x48=>Ab 3 x48 fun x49=>RH h44 x49) (Al [] h44)
def QU (h9:Hp) (x16 x0:IV):OH :=
 Ac x16 true h9 (fun k17=>k17 x0 h9 [] []) fun x18 h19 _ _=>Ac x16 true h19 (fun k22=>AH x18 fun x23=>k22 x23 h19 [] []) fun x24 h25 _ _=>Ac x16 true h25 (fun k28=>Ab 3 x24 fun x29=>k28 x29 h25 [] []) fun x30 h31 _ _=>Ac x16 true h31 (fun k34=>Ae x30 h31 fun x35 r36=>k34 x35 h31 r36 []) fun x37 h38 _ _=>Ac x16 true h38 (fun k41=>AN EE 36 x37 (.fv (.int .i64 0)) fun x42=>k41 x42 h38 [] []) fun x43 h44 _ _=>Rz x16 x43 x0 h44
def R1 (h1:Hp) (x8 x6 x0:IV):OH :=
 A9 x8 x6 h1 fun h9 _ _=>AH x0 fun x12=>Ab 1 x12 fun x13=>Ae x13 h9 fun x14 _=>F8 EE 3 x14 (.fv (.int .i64 0)) fun x16=>QU h9 x16 x0
def S99 (ih:Aa) (n:Nat) (x0:IV) (h1:Hp):OH :=
 AH x0 fun x2=>Ab 1 x2 fun x3=>Ae x3 h1 fun x4 _=>Bd EE 3 x4 (.fv (.int .i64 1)) fun x6=>AH x0 fun x7=>Ab 1 x7 fun x8=>R1 h1 x8 x6 x0
theorem AqN (ih:Aa) (n:Nat) (x0:IV) (h1:Hp):Aw EE ih ft.get n 99 [x0] h1=S99 ih n x0 h1:=by kernel_rfl
def Mk (h5:Hp) (x11:IV):OH :=
 Ae x11 h5 fun x12 _=>Al [x12] h5
def Mt (x15:IV) (h5:Hp) (q3:List IV→Hp→OH) (x14:IV):OH :=
 Ab 1 x15 fun x16=>Ae x16 h5 fun x17 _=>q3 [x17,x14] h5
def Mg (x9 x6:IV) (h5:Hp) (x7:IV) (q3:List IV→Hp→OH):OH :=
 Ai x9 (AH x6 fun x10=>Ab 0 x10 fun x11=>Mk h5 x11) (Bd EE 3 x7 (.fv (.int .i64 1)) fun x14=>AH x6 fun x15=>Mt x15 h5 q3 x14)
def Mm (x19:IV) (h5:Hp):OH :=
 Bw [.fv (.int .i64 0),.fv (.int .i64 0),.nils,.fv (.int .i64 0),.fv (.int .i64 0),.nils,.fv (.nilp)] [(0,1,.fv (.int .i64 1)),(1,1,x19)] fun x20=>AX 104863747 x20 h5 fun x21 h22 _ _=>Al [x21] h22
def Kk (l4:List IV) (h5:Hp) (q3:List IV→Hp→OH):OH :=
 AA l4 fun x6 l25=>AA l25 fun x7 _=>Ch EE 125 x6 (.fv .nilp) fun x8=>Ai x8 (AN EE 3 x7 (.fv (.int .i64 0)) fun x9=>Mg x9 x6 h5 x7 q3) (Bd EE 3 (.fv (.int .i64 (-1))) x7 fun x19=>Mm x19 h5)
def V3 (ih:Aa) (n:Nat) (x0 x1:IV) (h2:Hp):OH :=
 By n (fun q3 l4 h5=>Kk l4 h5 q3) [x0,x1] h2
theorem AjJ (ih:Aa) (n:Nat) (x0 x1:IV) (h2:Hp):Aw EE ih ft.get n 100 [x0,x1] h2=V3 ih n x0 x1 h2:=by kernel_rfl
def Ad5 (ih:Aa) (n:Nat) (x0 x1:IV) (h2:Hp):OH :=
 Fs EE ih (.fv (.func (.func 110) [] [])) [x0,x1] h2 fun x3 h4 _ _=>Al [x3] h4
theorem AlS (ih:Aa) (n:Nat) (x0 x1:IV) (h2:Hp):Aw EE ih ft.get n 101 [x0,x1] h2=Ad5 ih n x0 x1 h2:=by kernel_rfl
def SO (h113:Hp) (x122:IV) (j0_104:Hp→OH):OH :=
 A9 x122 (.fv (.int .i64 17)) h113 fun h123 _ _=>j0_104 h123
def S5 (x120 x0:IV) (h113:Hp) (j0_104:Hp→OH):OH :=
 Ai x120 (AH x0 fun x121=>Ab 3 x121 fun x122=>SO h113 x122 j0_104) (j0_104 h113)
def TA (h100:Hp) (x112 x110 x0:IV) (j0_104:Hp→OH):OH :=
 A9 x112 x110 h100 fun h113 _ _=>AH x0 fun x116=>Ab 0 x116 fun x117=>Ae x117 h113 fun x118 _=>F8 EE 3 x118 (.fv (.int .i64 0)) fun x120=>S5 x120 x0 h113 j0_104
def TL (x106:IV) (h100:Hp) (x0:IV) (j0_104:Hp→OH):OH :=
 Ab 0 x106 fun x107=>Ae x107 h100 fun x108 _=>Bd EE 3 x108 (.fv (.int .i64 1)) fun x110=>AH x0 fun x111=>Ab 0 x111 fun x112=>TA h100 x112 x110 x0 j0_104
def Uh (x103:IV) (h100:Hp) (x1 x68 x0:IV):OH :=
 Ai x103 (Al [x1] h100) ((fun (j0_104:Hp→OH)=>AH x0 fun x106=>TL x106 h100 x0 j0_104) fun h105=>Al [x68] h105)
def SV (h75:Hp) (x72 x74 x1 x68 x0:IV):OH :=
 Ac x72 false h75 (fun k78=>AH x74 fun x79=>k78 x79 h75 [] []) fun x80 h81 _ _=>Ac x72 false h81 (fun k84=>Ab 3 x80 fun x85=>k84 x85 h81 [] []) fun x86 h87 _ _=>Ac x72 false h87 (fun k90=>Ae x86 h87 fun x91 r92=>k90 x91 h87 r92 []) fun x93 h94 _ _=>Ac x72 false h94 (fun k97=>Ch EE 36 x93 (.fv (.int .i64 0)) fun x98=>k97 x98 h94 [] []) fun x99 h100 _ _=>AI x72 (.fv (.bool true)) x99 fun x103=>Uh x103 h100 x1 x68 x0
def TF (x17:IV) (h57:Hp) (ih:Aa) (x1 x0:IV):OH :=
 Ab 0 x17 fun x65=>Ae x65 h57 fun x66 _=>Fs EE ih x66 [x1] h57 fun x68 h69 _ _=>AN EE 96 x68 (.fv .nilp) fun x72=>Ac x72 false h69 (fun k73=>k73 x0 h69 [] []) fun x74 h75 _ _=>SV h75 x72 x74 x1 x68 x0
def Ts (x0:IV) (h57:Hp) (x1 x17:IV) (ih:Aa):OH :=
 AH x0 fun x60=>Ab 3 x60 fun x61=>Ae x61 h57 fun x62 _=>Ch EE 36 x62 (.fv (.int .i64 0)) fun x64=>Ai x64 (Al [x1] h57) (TF x17 h57 ih x1 x0)
def SJ (h46:Hp) (x24 x45 x1:IV) (ih:Aa) (x0 x17:IV):OH :=
 Ac x24 false h46 (fun k49=>Ch EE 36 x45 (.fv (.int .i64 0)) fun x50=>k49 x50 h46 [] []) fun x51 h52 _ _=>AI x24 (.fv (.bool true)) x51 fun x55=>Ai x55 (Al [x1] h52) (Ah [true] false false ih 99 [x0] h52 fun _ h57 _ _=>Ts x0 h57 x1 x17 ih)
def T7 (x16:IV) (h21:Hp) (x0 x1:IV) (ih:Aa) (x17:IV):OH :=
 CL (LR .not x16) fun x24=>Ac x24 false h21 (fun k25=>k25 x0 h21 [] []) fun x26 h27 _ _=>Ac x24 false h27 (fun k30=>AH x26 fun x31=>k30 x31 h27 [] []) fun x32 h33 _ _=>Ac x24 false h33 (fun k36=>Ab 3 x32 fun x37=>k36 x37 h33 [] []) fun x38 h39 _ _=>Ac x24 false h39 (fun k42=>Ae x38 h39 fun x43 r44=>k42 x43 h39 r44 []) fun x45 h46 _ _=>SJ h46 x24 x45 x1 ih x0 x17
def TC (x11:IV) (h12:Hp) (r13 w14 r10 r6:AC) (x15 x0 x1:IV) (ih:Aa):OH :=
 Ar 1 x11 fun x16=>AD 106955788 (.row [.fv (.nilf)] false) (.ptr (.own 106955788) 0) h12 fun x17 h18 r19 w20=>Ad [(r13,w14),(r10,[]),(r6,[])] r19 w20 (A9 x17 x15 h18 fun h21 r22 w23=>Ad [] r22 w23 (T7 x16 h21 x0 x1 ih x17))
def S7 (h2:Hp) (x8:IV) (r6:AC) (x5 x0 x1:IV) (ih:Aa):OH :=
 Ae x8 h2 fun x9 r10=>Ad [(r6,[])] r10 [] (Ay (GJ EE 98 x5 x9 true) 106955784 h2 fun x11 h12 r13 w14=>Ad [] r13 w14 (Ar 0 x11 fun x15=>TC x11 h12 r13 w14 r10 r6 x15 x0 x1 ih))
def S102 (ih:Aa) (n:Nat) (x0 x1:IV) (h2:Hp):OH :=
 AH x0 fun x3=>Ab 4 x3 fun x4=>Ae x4 h2 fun x5 r6=>Ad [] r6 [] (AH x1 fun x7=>Ab 0 x7 fun x8=>S7 h2 x8 r6 x5 x0 x1 ih)
theorem Aik (ih:Aa) (n:Nat) (x0 x1:IV) (h2:Hp):Aw EE ih ft.get n 102 [x0,x1] h2=S102 ih n x0 x1 h2:=by kernel_rfl
def Ab9 (x16 x2:IV) (h10:Hp) (r11 w12 r8:AC) (ih:Aa) (x0 x9:IV):OH :=
 AT 3 x16 x2 fun x18=>Ag 3 x18 h10 fun x19 r20=>Ad [(r11,w12),(r8,[])] r20 [] (Ah [true,false,false] false false ih 71 [x0,x9,x19] h10 fun x21 h22 r23 w24=>Ad [] r23 w24 (Al [x21] h22))
def Wh (x1:IV) (h10:Hp) (r11 w12 r8:AC) (x2:IV) (ih:Aa) (x0 x9:IV):OH :=
 AH x1 fun x13=>Ab 3 x13 fun x14=>Ab 2 x14 fun x15=>Ae x15 h10 fun x16 r17=>Ad [(r11,w12),(r8,[])] r17 [] (Ab9 x16 x2 h10 r11 w12 r8 ih x0 x9)
def AgG (ih:Aa) (n:Nat) (x0 x1 x2 x3:IV) (h4:Hp):OH :=
 AH x1 fun x5=>Ab 6 x5 fun x6=>Ae x6 h4 fun x7 r8=>Ad [] r8 [] (Ah [] false false ih 111 [x7,x3] h4 fun x9 h10 r11 w12=>Ad [] r11 w12 (Wh x1 h10 r11 w12 r8 x2 ih x0 x9))
theorem Ajt (ih:Aa) (n:Nat) (x0 x1 x2 x3:IV) (h4:Hp):Aw EE ih ft.get n 103 [x0,x1,x2,x3] h4=AgG ih n x0 x1 x2 x3 h4:=by kernel_rfl
def J2 (ih:Aa) (h6:Hp) (x8 x13 x10:IV) (q4:List IV→Hp→OH) (x7 x9:IV):OH :=
 Fs EE ih x8 [x13] h6 fun x15 h16 _ _=>Ai x15 (Al [x10] h16) (Bp EE 3 x10 (.fv (.int .i64 1)) fun x19=>q4 [x7,x8,x9,x19] h16)
def Ko (x11 x7 x10:IV) (h6:Hp) (ih:Aa) (x8:IV) (q4:List IV→Hp→OH) (x9:IV):OH :=
 Ai x11 (AT 3 x7 x10 fun x12=>Ag 3 x12 h6 fun x13 _=>J2 ih h6 x8 x13 x10 q4 x7 x9) (Al [.fv (.int .i64 (-1))] h6)
def Mu (l5:List IV) (h6:Hp) (ih:Aa) (q4:List IV→Hp→OH):OH :=
 AA l5 fun x7 l20=>AA l20 fun x8 l21=>AA l21 fun x9 l22=>AA l22 fun x10 _=>F8 EE 3 x10 x9 fun x11=>Ko x11 x7 x10 h6 ih x8 q4 x9
def Tx (ih:Aa) (n:Nat) (x0 x1:IV) (h2:Hp):OH :=
 B0 x0 fun x3=>By n (fun q4 l5 h6=>Mu l5 h6 ih q4) [x0,x1,x3,.fv (.int .i64 0)] h2
theorem Al8 (ih:Aa) (n:Nat) (x0 x1:IV) (h2:Hp):Aw EE ih ft.get n 104 [x0,x1] h2=Tx ih n x0 x1 h2:=by kernel_rfl
def AiU (x16:IV) (h17:Hp) (x6:IV):OH :=
 Ar 0 x16 fun x20=>Ar 1 x16 fun x21=>Af 3 x6 x20 h17 fun h22 _ _=>As true 3 x6 h22 fun x25=>Al [x25,x21] h22
def Amr (h33:Hp) (x6 x32:IV):OH :=
 Af 3 x6 x32 h33 fun h36 r37 w38=>Ad [] r37 w38 (As true 3 x6 h36 fun x39=>Al [x39,.fv (.int .i64 0)] h36)
def AiB (r27:AC) (ih:Aa) (h13:Hp) (x26 x6:IV):OH :=
 Ad [] r27 [] (Ah [] false false ih 24 [.fv (.int .i64 11),.nils] h13 fun x28 h29 r30 w31=>Ad [(r27,[])] r30 w31 (Ah [] false false ih 67 [x26,.fv (.int .i64 0),x28] h29 fun x32 h33 r34 w35=>Ad [] r34 w35 (Amr h33 x6 x32)))
def AsS (ih:Aa) (n:Nat) (x0:IV) (h1:Hp):OH :=
 AX 110100480 x0 h1 fun x2 h3 _ _=>AD 110100481 (.row [.fv (.int .i64 0),.fv (.int .i64 0),.nils] false) (.ptr (.own 110100481) 0) h3 fun x6 h7 _ _=>Ag 3 x2 h7 fun x10 _=>Ah [] false false ih 107 [x10,.fv (.int .i64 0)] h7 fun x12 h13 _ _=>Ai x12 (Ah [] false false ih 44 [.fv (.int .i64 14)] h13 fun x16 h17 _ _=>AiU x16 h17 x6) (Ag 3 x2 h13 fun x26 r27=>AiB r27 ih h13 x26 x6)
theorem Aj6 (ih:Aa) (n:Nat) (x0:IV) (h1:Hp):Aw EE ih ft.get n 105 [x0] h1=AsS ih n x0 h1:=by kernel_rfl
def AjA (ih:Aa) (h21:Hp) (x20 x12 x6:IV):OH :=
 Ah [] false false ih 24 [.fv (.int .i64 12),x20] h21 fun x24 h25 _ _=>Ah [] false false ih 67 [x12,.fv (.int .i64 0),x24] h25 fun x28 h29 _ _=>Af 3 x6 x28 h29 fun h32 _ _=>As true 3 x6 h32 fun x35=>Al [x35] h32
def AsK (ih:Aa) (n:Nat) (x0:IV) (h1:Hp):OH :=
 AX 111149056 x0 h1 fun x2 h3 _ _=>AD 111149057 (.row [.fv (.int .i64 0),.fv (.int .i64 0),.nils] false) (.ptr (.own 111149057) 0) h3 fun x6 h7 _ _=>Ag 3 x2 h7 fun x10 _=>Ah [] false false ih 45 [x10,.fv (.int .i64 2),.fv (.int .i64 1)] h7 fun x12 h13 _ _=>Ah [] false false ih 25 [.fv (.int .i64 1)] h13 fun x16 h17 _ _=>Ay (Ak EE 28 1 [(0,x16)]) 111150083 h17 fun x20 h21 _ _=>AjA ih h21 x20 x12 x6
theorem AiY (ih:Aa) (n:Nat) (x0:IV) (h1:Hp):Aw EE ih ft.get n 106 [x0] h1=AsK ih n x0 h1:=by kernel_rfl
def IB (h4:Hp) (x11 x1:IV):OH :=
 Ae x11 h4 fun x12 _=>AN EE 3 x12 x1 fun x14=>Al [x14] h4
def IK (x18 x35:IV) (ih:Aa) (h36:Hp) (x30 x20:IV) (q15:List IV→Hp→OH) (x19:IV):OH :=
 Bp EE 3 x18 x35 fun x39=>Ah [] false false ih 107 [x30,x39] h36 fun x40 h41 r42 w43=>Ad [] r42 w43 (Ai x40 (Al [.fv (.bool true)] h41) (Bp EE 3 x20 (.fv (.int .i64 1)) fun x44=>q15 [x18,x19,x44] h41))
def IQ (x19:IV) (h17:Hp) (r31 r28:AC) (ih:Aa) (x20 x18 x30:IV) (q15:List IV→Hp→OH):OH :=
 Ab 0 x19 fun x32=>Ae x32 h17 fun x33 r34=>Ad [(r31,[]),(r28,[])] r34 [] (Ah [] false false ih 54 [x33,x20] h17 fun x35 h36 r37 w38=>Ad [(r31,[]),(r28,[])] r37 w38 (IK x18 x35 ih h36 x30 x20 q15 x19))
def Iz (h17:Hp) (x26 x20 x19:IV) (ih:Aa) (x18:IV) (q15:List IV→Hp→OH):OH :=
 Ae x26 h17 fun x27 r28=>Ad [] r28 [] (AT 3 x27 x20 fun x29=>Ag 3 x29 h17 fun x30 r31=>Ad [] r31 [] (IQ x19 h17 r31 r28 ih x20 x18 x30 q15))
def ID (x22 x20 x19:IV) (h17:Hp) (ih:Aa) (x18:IV) (q15:List IV→Hp→OH):OH :=
 B0 x22 fun x24=>F8 EE 3 x20 x24 fun x25=>Ai x25 (Ab 2 x19 fun x26=>Iz h17 x26 x20 x19 ih x18 q15) (Al [.fv (.bool false)] h17)
def MK (l16:List IV) (h17:Hp) (ih:Aa) (q15:List IV→Hp→OH):OH :=
 AA l16 fun x18 l45=>AA l45 fun x19 l46=>AA l46 fun x20 _=>Ab 2 x19 fun x21=>Ae x21 h17 fun x22 _=>ID x22 x20 x19 h17 ih x18 q15
def Sp (ih:Aa) (n:Nat) (x0 x1:IV) (h2:Hp):OH :=
 AX 112197632 x0 h2 fun x3 h4 _ _=>Ab 0 x3 fun x7=>Ae x7 h4 fun x8 _=>AN EE 3 x8 (.fv (.int .i64 1)) fun x10=>Ai x10 (Ab 1 x3 fun x11=>IB h4 x11 x1) (By n (fun q15 l16 h17=>MK l16 h17 ih q15) [x1,x3,.fv (.int .i64 0)] h4)
theorem Aim (ih:Aa) (n:Nat) (x0 x1:IV) (h2:Hp):Aw EE ih ft.get n 107 [x0,x1] h2=Sp ih n x0 x1 h2:=by kernel_rfl
def Q0 (x0:IV) (h13:Hp):OH :=
 AH x0 fun x14=>Ab 2 x14 fun x15=>Ae x15 h13 fun x16 _=>AN EE 3 x16 (.fv (.int .i64 0)) fun x18=>Al [x18] h13
def Rn (h9:Hp) (x25:IV) (j0_12:Hp→OH):OH :=
 A9 x25 (.fv (.int .i64 17)) h9 fun h26 _ _=>j0_12 h26
def QO (x21 x0:IV) (h9:Hp) (j0_12:Hp→OH):OH :=
 Ke EE 3 x21 (.fv (.int .i64 1000)) fun x23=>Ai x23 (AH x0 fun x24=>Ab 2 x24 fun x25=>Rn h9 x25 j0_12) (j0_12 h9)
def QZ (h1:Hp) (x8 x6 x0:IV):OH :=
 A9 x8 x6 h1 fun h9 _ _=>(fun (j0_12:Hp→OH)=>AH x0 fun x19=>Ab 0 x19 fun x20=>Ae x20 h9 fun x21 _=>QO x21 x0 h9 j0_12) fun h13=>Q0 x0 h13
def Ac8 (ih:Aa) (n:Nat) (x0:IV) (h1:Hp):OH :=
 AH x0 fun x2=>Ab 0 x2 fun x3=>Ae x3 h1 fun x4 _=>Bp EE 3 x4 (.fv (.int .i64 1)) fun x6=>AH x0 fun x7=>Ab 0 x7 fun x8=>QZ h1 x8 x6 x0
theorem Aj8 (ih:Aa) (n:Nat) (x0:IV) (h1:Hp):Aw EE ih ft.get n 108 [x0] h1=Ac8 ih n x0 h1:=by kernel_rfl
def Ri (x22:IV) (h2:Hp):OH :=
 Ab 2 x22 fun x23=>Ae x23 h2 fun x24 _=>AT 1 x24 (.fv (.int .i64 0)) fun x26=>Ae x26 h2 fun x27 _=>Al [x27] h2
def PU (x15:IV) (h2:Hp):OH :=
 Ab 2 x15 fun x16=>Ae x16 h2 fun x17 _=>AT 1 x17 (.fv (.int .i64 0)) fun x19=>Ae x19 h2 fun x20 _=>AH x20 fun x22=>Ri x22 h2
def Qp (x10:IV) (h2:Hp) (x1 x0:IV):OH :=
 Ab 0 x10 fun x11=>Ae x11 h2 fun x12 _=>Ch EE 3 x12 x1 fun x14=>Ai x14 (Al [.fv .nilp] h2) (AH x0 fun x15=>PU x15 h2)
def Adb (ih:Aa) (n:Nat) (x0 x1:IV) (h2:Hp):OH :=
 AH x0 fun x3=>Ab 2 x3 fun x4=>Ae x4 h2 fun x5 _=>AT 1 x5 (.fv (.int .i64 0)) fun x7=>Ae x7 h2 fun x8 _=>AH x8 fun x10=>Qp x10 h2 x1 x0
theorem AlL (ih:Aa) (n:Nat) (x0 x1:IV) (h2:Hp):Aw EE ih ft.get n 109 [x0,x1] h2=Adb ih n x0 x1 h2:=by kernel_rfl
def ZY (x1:IV) (h7:Hp) (j0_3:Hp→OH):OH :=
 AN EE 3 x1 (.fv (.int .i64 0)) fun x10=>Ai x10 (Al [.fv (.int .i64 1)] h7) (AN EE 3 x1 (.fv (.int .i64 2)) fun x11=>Ai x11 (Al [.fv (.int .i64 2)] h7) (j0_3 h7))
def Aca (x6 x1:IV) (h7:Hp) (j0_3:Hp→OH) (x0:IV):OH :=
 Ai x6 (AN EE 3 x1 (.fv (.int .i64 1)) fun x8=>Ai x8 (Al [.fv (.int .i64 1)] h7) (j0_3 h7)) (AN EE 3 x0 (.fv (.int .i64 13)) fun x9=>Ai x9 (ZY x1 h7 j0_3) (j0_3 h7))
def X1 (x0:IV) (j1_5:IV→Hp→OH) (h2:Hp):OH :=
 AN EE 3 x0 (.fv (.int .i64 29)) fun x17=>j1_5 x17 h2
def Yu (x0:IV) (j1_5:IV→Hp→OH) (h2:Hp):OH :=
 AN EE 3 x0 (.fv (.int .i64 20)) fun x15=>Ai x15 (j1_5 x15 h2) (AN EE 3 x0 (.fv (.int .i64 28)) fun x16=>Ai x16 (j1_5 x16 h2) (X1 x0 j1_5 h2))
def Aan (x13:IV) (j1_5:IV→Hp→OH) (h2:Hp) (x0:IV):OH :=
 Ai x13 (j1_5 x13 h2) (AN EE 3 x0 (.fv (.int .i64 6)) fun x14=>Ai x14 (j1_5 x14 h2) (Yu x0 j1_5 h2))
def S110 (ih:Aa) (n:Nat) (x0 x1:IV) (h2:Hp):OH :=
 (fun (j0_3:Hp→OH)=>(fun (j1_5:IV→Hp→OH)=>AN EE 3 x0 (.fv (.int .i64 3)) fun x12=>Ai x12 (j1_5 x12 h2) (AN EE 3 x0 (.fv (.int .i64 4)) fun x13=>Aan x13 j1_5 h2 x0)) fun x6 h7=>Aca x6 x1 h7 j0_3 x0) fun h4=>Al [.fv (.int .i64 0)] h4
theorem Ai4 (ih:Aa) (n:Nat) (x0 x1:IV) (h2:Hp):Aw EE ih ft.get n 110 [x0,x1] h2=S110 ih n x0 x1 h2:=by kernel_rfl
def MH (x13 x7:IV) (h6:Hp) (x10:IV) (h2:Hp) (x8 x9:IV) (q4:List IV→Hp→OH):OH :=
 Bw [.fv (.nilp),.fv (.nilp)] [(0,1,x13),(1,1,x7)] fun x15=>fzS (KE true 116396035 x15) 116396035 x15 h6 fun x16 h17 _ _=>Bp EE 3 x10 (.fv (.int .i64 1)) fun x20=>Bs (h2.own.map (·.1)) [116396035] [x16,x8,x9,x20] h17 fun h21=>q4 [x16,x8,x9,x20] h21
def L6 (x11 x8 x10:IV) (h6:Hp) (x7:IV) (h2:Hp) (x9:IV) (q4:List IV→Hp→OH):OH :=
 Ai x11 (AT 1 x8 x10 fun x12=>Ae x12 h6 fun x13 _=>MH x13 x7 h6 x10 h2 x8 x9 q4) (Al [x7] h6)
def Qa (l5:List IV) (h6 h2:Hp) (q4:List IV→Hp→OH):OH :=
 AA l5 fun x7 l22=>AA l22 fun x8 l23=>AA l23 fun x9 l24=>AA l24 fun x10 _=>F8 EE 3 x10 x9 fun x11=>L6 x11 x8 x10 h6 x7 h2 x9 q4
def UT (ih:Aa) (n:Nat) (x0 x1:IV) (h2:Hp):OH :=
 B0 x1 fun x3=>Bs (h2.own.map (·.1)) [116396035] [x0,x1,x3,.fv (.int .i64 0)] h2 fun h26=>By n (fun q4 l5 h6=>Qa l5 h6 h2 q4) [x0,x1,x3,.fv (.int .i64 0)] h26
theorem Ajb (ih:Aa) (n:Nat) (x0 x1:IV) (h2:Hp):Aw EE ih ft.get n 111 [x0,x1] h2=UT ih n x0 x1 h2:=by kernel_rfl
end
noncomputable section
def dt:DT :=
 .node 63 (.node 38 (.node 22 (.node 15 (.node 12 (.node 11 (.leaf 4 (fun ih n=>LP (S4 ih n)))
 (.leaf 11 (fun ih n=>ar0 (S11 ih n))))
 (.node 13 (.leaf 12 (fun ih n=>Fa (S12 ih n)))
 (.node 14 (.leaf 13 (fun ih n=>Ly (S13 ih n)))
 (.leaf 14 (fun ih n=>Fa (S14 ih n))))))
 (.node 18 (.node 16 (.leaf 15 (fun ih n=>Fa (S15 ih n)))
 (.node 17 (.leaf 16 (fun ih n=>Fa (S16 ih n)))
 (.leaf 17 (fun ih n=>CJ (S17 ih n)))))
 (.node 20 (.leaf 18 (fun ih n=>Fa (S18 ih n)))
 (.node 21 (.leaf 20 (fun ih n=>LP (S20 ih n)))
 (.leaf 21 (fun ih n=>LP (S21 ih n)))))))
 (.node 28 (.node 25 (.node 24 (.leaf 22 (fun ih n=>Fa (S22 ih n)))
 (.leaf 24 (fun ih n=>CJ (S24 ih n))))
 (.node 26 (.leaf 25 (fun ih n=>Fa (S25 ih n)))
 (.node 27 (.leaf 26 (fun ih n=>Fa (S26 ih n)))
 (.leaf 27 (fun ih n=>Fa (S27 ih n))))))
 (.node 35 (.node 33 (.leaf 28 (fun ih n=>CJ (S28 ih n)))
 (.node 34 (.leaf 33 (fun ih n=>Ly (S33 ih n)))
 (.leaf 34 (fun ih n=>Fa (S34 ih n)))))
 (.node 36 (.leaf 35 (fun ih n=>Fa (S35 ih n)))
 (.node 37 (.leaf 36 (fun ih n=>CJ (S36 ih n)))
 (.leaf 37 (fun ih n=>Fa (S37 ih n))))))))
 (.node 50 (.node 44 (.node 40 (.node 39 (.leaf 38 (fun ih n=>LP (S38 ih n)))
 (.leaf 39 (fun ih n=>Ly (S39 ih n))))
 (.node 41 (.leaf 40 (fun ih n=>Fa (S40 ih n)))
 (.node 42 (.leaf 41 (fun ih n=>Fa (S41 ih n)))
 (.leaf 42 (fun ih n=>CJ (S42 ih n))))))
 (.node 47 (.node 45 (.leaf 44 (fun ih n=>Fa (S44 ih n)))
 (.node 46 (.leaf 45 (fun ih n=>LP (S45 ih n)))
 (.leaf 46 (fun ih n=>CJ (S46 ih n)))))
 (.node 48 (.leaf 47 (fun ih n=>Fa (S47 ih n)))
 (.node 49 (.leaf 48 (fun ih n=>Ly (S48 ih n)))
 (.leaf 49 (fun ih n=>Ly (S49 ih n)))))))
 (.node 56 (.node 53 (.node 51 (.leaf 50 (fun ih n=>CJ (S50 ih n)))
 (.node 52 (.leaf 51 (fun ih n=>CJ (S51 ih n)))
 (.leaf 52 (fun ih n=>Fa (S52 ih n)))))
 (.node 54 (.leaf 53 (fun ih n=>CJ (S53 ih n)))
 (.node 55 (.leaf 54 (fun ih n=>CJ (S54 ih n)))
 (.leaf 55 (fun ih n=>CJ (S55 ih n))))))
 (.node 60 (.node 58 (.leaf 56 (fun ih n=>CJ (S56 ih n)))
 (.node 59 (.leaf 58 (fun ih n=>Ly (S58 ih n)))
 (.leaf 59 (fun ih n=>Ly (S59 ih n)))))
 (.node 61 (.leaf 60 (fun ih n=>LP (S60 ih n)))
 (.node 62 (.leaf 61 (fun ih n=>Ly (S61 ih n)))
 (.leaf 62 (fun ih n=>LP (S62 ih n)))))))))
 (.node 89 (.node 74 (.node 68 (.node 65 (.node 64 (.leaf 63 (fun ih n=>LP (S63 ih n)))
 (.leaf 64 (fun ih n=>ar0 (S64 ih n))))
 (.node 66 (.leaf 65 (fun ih n=>Ly (S65 ih n)))
 (.node 67 (.leaf 66 (fun ih n=>Ly (S66 ih n)))
 (.leaf 67 (fun ih n=>LP (S67 ih n))))))
 (.node 71 (.node 69 (.leaf 68 (fun ih n=>LP (S68 ih n)))
 (.node 70 (.leaf 69 (fun ih n=>Fa (S69 ih n)))
 (.leaf 70 (fun ih n=>ar0 (S70 ih n)))))
 (.node 72 (.leaf 71 (fun ih n=>LP (S71 ih n)))
 (.node 73 (.leaf 72 (fun ih n=>Ly (S72 ih n)))
 (.leaf 73 (fun ih n=>CJ (S73 ih n)))))))
 (.node 83 (.node 80 (.node 78 (.leaf 74 (fun ih n=>CJ (S74 ih n)))
 (.node 79 (.leaf 78 (fun ih n=>LP (S78 ih n)))
 (.leaf 79 (fun ih n=>LP (S79 ih n)))))
 (.node 81 (.leaf 80 (fun ih n=>Ly (S80 ih n)))
 (.node 82 (.leaf 81 (fun ih n=>CJ (S81 ih n)))
 (.leaf 82 (fun ih n=>CJ (S82 ih n))))))
 (.node 86 (.node 84 (.leaf 83 (fun ih n=>CJ (S83 ih n)))
 (.node 85 (.leaf 84 (fun ih n=>CJ (S84 ih n)))
 (.leaf 85 (fun ih n=>CJ (S85 ih n)))))
 (.node 87 (.leaf 86 (fun ih n=>Fa (S86 ih n)))
 (.node 88 (.leaf 87 (fun ih n=>CJ (S87 ih n)))
 (.leaf 88 (fun ih n=>CJ (S88 ih n))))))))
 (.node 100 (.node 94 (.node 91 (.node 90 (.leaf 89 (fun ih n=>CJ (S89 ih n)))
 (.leaf 90 (fun ih n=>Ly (S90 ih n))))
 (.node 92 (.leaf 91 (fun ih n=>Fa (S91 ih n)))
 (.node 93 (.leaf 92 (fun ih n=>CJ (S92 ih n)))
 (.leaf 93 (fun ih n=>Fa (S93 ih n))))))
 (.node 97 (.node 95 (.leaf 94 (fun ih n=>CJ (S94 ih n)))
 (.node 96 (.leaf 95 (fun ih n=>CJ (S95 ih n)))
 (.leaf 96 (fun ih n=>CJ (S96 ih n)))))
 (.node 98 (.leaf 97 (fun ih n=>CJ (S97 ih n)))
 (.node 99 (.leaf 98 (fun ih n=>CJ (S98 ih n)))
 (.leaf 99 (fun ih n=>Fa (S99 ih n)))))))
 (.node 106 (.node 103 (.node 101 (.leaf 100 (fun ih n=>CJ (V3 ih n)))
 (.node 102 (.leaf 101 (fun ih n=>CJ (Ad5 ih n)))
 (.leaf 102 (fun ih n=>CJ (S102 ih n)))))
 (.node 104 (.leaf 103 (fun ih n=>Ly (AgG ih n)))
 (.node 105 (.leaf 104 (fun ih n=>CJ (Tx ih n)))
 (.leaf 105 (fun ih n=>Fa (AsS ih n))))))
 (.node 109 (.node 107 (.leaf 106 (fun ih n=>Fa (AsK ih n)))
 (.node 108 (.leaf 107 (fun ih n=>CJ (Sp ih n)))
 (.leaf 108 (fun ih n=>Fa (Ac8 ih n)))))
 (.node 110 (.leaf 109 (fun ih n=>CJ (Adb ih n)))
 (.node 111 (.leaf 110 (fun ih n=>CJ (S110 ih n)))
 (.leaf 111 (fun ih n=>CJ (UT ih n)))))))))
theorem Arp:dt.Ok EE ft.get :=
 ⟨⟨⟨⟨⟨⟨(fun ih n _ _ _ e=>Ef (F:=Aw EE ih ft.get n 4) (ArO ih n) e),
 (fun ih n _ _ _ e=>Vj (F:=Aw EE ih ft.get n 11) (AqK ih n) e)⟩,
 ⟨(fun ih n _ _ _ e=>BH (F:=Aw EE ih ft.get n 12) (An4 ih n) e),
 ⟨(fun ih n _ _ _ e=>Dq (F:=Aw EE ih ft.get n 13) (Aob ih n) e),
 (fun ih n _ _ _ e=>BH (F:=Aw EE ih ft.get n 14) (Ap3 ih n) e)⟩⟩⟩,
 ⟨⟨(fun ih n _ _ _ e=>BH (F:=Aw EE ih ft.get n 15) (An7 ih n) e),
 ⟨(fun ih n _ _ _ e=>BH (F:=Aw EE ih ft.get n 16) (Aoy ih n) e),
 (fun ih n _ _ _ e=>A7 (F:=Aw EE ih ft.get n 17) (Am7 ih n) e)⟩⟩,
 ⟨(fun ih n _ _ _ e=>BH (F:=Aw EE ih ft.get n 18) (AnV ih n) e),
 ⟨(fun ih n _ _ _ e=>Ef (F:=Aw EE ih ft.get n 20) (Aqy ih n) e),
 (fun ih n _ _ _ e=>Ef (F:=Aw EE ih ft.get n 21) (Aop ih n) e)⟩⟩⟩⟩,
 ⟨⟨⟨(fun ih n _ _ _ e=>BH (F:=Aw EE ih ft.get n 22) (AnQ ih n) e),
 (fun ih n _ _ _ e=>A7 (F:=Aw EE ih ft.get n 24) (Aph ih n) e)⟩,
 ⟨(fun ih n _ _ _ e=>BH (F:=Aw EE ih ft.get n 25) (Aqj ih n) e),
 ⟨(fun ih n _ _ _ e=>BH (F:=Aw EE ih ft.get n 26) (Aoo ih n) e),
 (fun ih n _ _ _ e=>BH (F:=Aw EE ih ft.get n 27) (Aqn ih n) e)⟩⟩⟩,
 ⟨⟨(fun ih n _ _ _ e=>A7 (F:=Aw EE ih ft.get n 28) (AnL ih n) e),
 ⟨(fun ih n _ _ _ e=>Dq (F:=Aw EE ih ft.get n 33) (ApI ih n) e),
 (fun ih n _ _ _ e=>BH (F:=Aw EE ih ft.get n 34) (Aqw ih n) e)⟩⟩,
 ⟨(fun ih n _ _ _ e=>BH (F:=Aw EE ih ft.get n 35) (ApH ih n) e),
 ⟨(fun ih n _ _ _ e=>A7 (F:=Aw EE ih ft.get n 36) (ApM ih n) e),
 (fun ih n _ _ _ e=>BH (F:=Aw EE ih ft.get n 37) (Ao0 ih n) e)⟩⟩⟩⟩⟩,
 ⟨⟨⟨⟨(fun ih n _ _ _ e=>Ef (F:=Aw EE ih ft.get n 38) (Aoi ih n) e),
 (fun ih n _ _ _ e=>Dq (F:=Aw EE ih ft.get n 39) (AnF ih n) e)⟩,
 ⟨(fun ih n _ _ _ e=>BH (F:=Aw EE ih ft.get n 40) (Ap7 ih n) e),
 ⟨(fun ih n _ _ _ e=>BH (F:=Aw EE ih ft.get n 41) (Ao5 ih n) e),
 (fun ih n _ _ _ e=>A7 (F:=Aw EE ih ft.get n 42) (Aoa ih n) e)⟩⟩⟩,
 ⟨⟨(fun ih n _ _ _ e=>BH (F:=Aw EE ih ft.get n 44) (ApC ih n) e),
 ⟨(fun ih n _ _ _ e=>Ef (F:=Aw EE ih ft.get n 45) (Apb ih n) e),
 (fun ih n _ _ _ e=>A7 (F:=Aw EE ih ft.get n 46) (Am4 ih n) e)⟩⟩,
 ⟨(fun ih n _ _ _ e=>BH (F:=Aw EE ih ft.get n 47) (AnG ih n) e),
 ⟨(fun ih n _ _ _ e=>Dq (F:=Aw EE ih ft.get n 48) (Aqv ih n) e),
 (fun ih n _ _ _ e=>Dq (F:=Aw EE ih ft.get n 49) (Ap2 ih n) e)⟩⟩⟩⟩,
 ⟨⟨⟨(fun ih n _ _ _ e=>A7 (F:=Aw EE ih ft.get n 50) (Aol ih n) e),
 ⟨(fun ih n _ _ _ e=>A7 (F:=Aw EE ih ft.get n 51) (AoH ih n) e),
 (fun ih n _ _ _ e=>BH (F:=Aw EE ih ft.get n 52) (ApN ih n) e)⟩⟩,
 ⟨(fun ih n _ _ _ e=>A7 (F:=Aw EE ih ft.get n 53) (AnZ ih n) e),
 ⟨(fun ih n _ _ _ e=>A7 (F:=Aw EE ih ft.get n 54) (Anl ih n) e),
 (fun ih n _ _ _ e=>A7 (F:=Aw EE ih ft.get n 55) (Aqo ih n) e)⟩⟩⟩,
 ⟨⟨(fun ih n _ _ _ e=>A7 (F:=Aw EE ih ft.get n 56) (Aqe ih n) e),
 ⟨(fun ih n _ _ _ e=>Dq (F:=Aw EE ih ft.get n 58) (Apy ih n) e),
 (fun ih n _ _ _ e=>Dq (F:=Aw EE ih ft.get n 59) (AoT ih n) e)⟩⟩,
 ⟨(fun ih n _ _ _ e=>Ef (F:=Aw EE ih ft.get n 60) (AqH ih n) e),
 ⟨(fun ih n _ _ _ e=>Dq (F:=Aw EE ih ft.get n 61) (Aqb ih n) e),
 (fun ih n _ _ _ e=>Ef (F:=Aw EE ih ft.get n 62) (ApL ih n) e)⟩⟩⟩⟩⟩⟩,
 ⟨⟨⟨⟨⟨(fun ih n _ _ _ e=>Ef (F:=Aw EE ih ft.get n 63) (AqA ih n) e),
 (fun ih n _ _ _ e=>Vj (F:=Aw EE ih ft.get n 64) (AnD ih n) e)⟩,
 ⟨(fun ih n _ _ _ e=>Dq (F:=Aw EE ih ft.get n 65) (AoK ih n) e),
 ⟨(fun ih n _ _ _ e=>Dq (F:=Aw EE ih ft.get n 66) (Ao7 ih n) e),
 (fun ih n _ _ _ e=>Ef (F:=Aw EE ih ft.get n 67) (Aqs ih n) e)⟩⟩⟩,
 ⟨⟨(fun ih n _ _ _ e=>Ef (F:=Aw EE ih ft.get n 68) (Aok ih n) e),
 ⟨(fun ih n _ _ _ e=>BH (F:=Aw EE ih ft.get n 69) (AoL ih n) e),
 (fun ih n _ _ _ e=>Vj (F:=Aw EE ih ft.get n 70) (AnN ih n) e)⟩⟩,
 ⟨(fun ih n _ _ _ e=>Ef (F:=Aw EE ih ft.get n 71) (Aoj ih n) e),
 ⟨(fun ih n _ _ _ e=>Dq (F:=Aw EE ih ft.get n 72) (Ap6 ih n) e),
 (fun ih n _ _ _ e=>A7 (F:=Aw EE ih ft.get n 73) (AqE ih n) e)⟩⟩⟩⟩,
 ⟨⟨⟨(fun ih n _ _ _ e=>A7 (F:=Aw EE ih ft.get n 74) (AnI ih n) e),
 ⟨(fun ih n _ _ _ e=>Ef (F:=Aw EE ih ft.get n 78) (ApE ih n) e),
 (fun ih n _ _ _ e=>Ef (F:=Aw EE ih ft.get n 79) (Ap4 ih n) e)⟩⟩,
 ⟨(fun ih n _ _ _ e=>Dq (F:=Aw EE ih ft.get n 80) (Aon ih n) e),
 ⟨(fun ih n _ _ _ e=>A7 (F:=Aw EE ih ft.get n 81) (Aor ih n) e),
 (fun ih n _ _ _ e=>A7 (F:=Aw EE ih ft.get n 82) (AoM ih n) e)⟩⟩⟩,
 ⟨⟨(fun ih n _ _ _ e=>A7 (F:=Aw EE ih ft.get n 83) (Aoh ih n) e),
 ⟨(fun ih n _ _ _ e=>A7 (F:=Aw EE ih ft.get n 84) (ApR ih n) e),
 (fun ih n _ _ _ e=>A7 (F:=Aw EE ih ft.get n 85) (AoF ih n) e)⟩⟩,
 ⟨(fun ih n _ _ _ e=>BH (F:=Aw EE ih ft.get n 86) (ApD ih n) e),
 ⟨(fun ih n _ _ _ e=>A7 (F:=Aw EE ih ft.get n 87) (Aqc ih n) e),
 (fun ih n _ _ _ e=>A7 (F:=Aw EE ih ft.get n 88) (An2 ih n) e)⟩⟩⟩⟩⟩,
 ⟨⟨⟨⟨(fun ih n _ _ _ e=>A7 (F:=Aw EE ih ft.get n 89) (AqI ih n) e),
 (fun ih n _ _ _ e=>Dq (F:=Aw EE ih ft.get n 90) (Apd ih n) e)⟩,
 ⟨(fun ih n _ _ _ e=>BH (F:=Aw EE ih ft.get n 91) (Aql ih n) e),
 ⟨(fun ih n _ _ _ e=>A7 (F:=Aw EE ih ft.get n 92) (ApB ih n) e),
 (fun ih n _ _ _ e=>BH (F:=Aw EE ih ft.get n 93) (Am5 ih n) e)⟩⟩⟩,
 ⟨⟨(fun ih n _ _ _ e=>A7 (F:=Aw EE ih ft.get n 94) (AoP ih n) e),
 ⟨(fun ih n _ _ _ e=>A7 (F:=Aw EE ih ft.get n 95) (AoC ih n) e),
 (fun ih n _ _ _ e=>A7 (F:=Aw EE ih ft.get n 96) (Aps ih n) e)⟩⟩,
 ⟨(fun ih n _ _ _ e=>A7 (F:=Aw EE ih ft.get n 97) (Ani ih n) e),
 ⟨(fun ih n _ _ _ e=>A7 (F:=Aw EE ih ft.get n 98) (Aos ih n) e),
 (fun ih n _ _ _ e=>BH (F:=Aw EE ih ft.get n 99) (AqN ih n) e)⟩⟩⟩⟩,
 ⟨⟨⟨(fun ih n _ _ _ e=>A7 (F:=Aw EE ih ft.get n 100) (AjJ ih n) e),
 ⟨(fun ih n _ _ _ e=>A7 (F:=Aw EE ih ft.get n 101) (AlS ih n) e),
 (fun ih n _ _ _ e=>A7 (F:=Aw EE ih ft.get n 102) (Aik ih n) e)⟩⟩,
 ⟨(fun ih n _ _ _ e=>Dq (F:=Aw EE ih ft.get n 103) (Ajt ih n) e),
 ⟨(fun ih n _ _ _ e=>A7 (F:=Aw EE ih ft.get n 104) (Al8 ih n) e),
 (fun ih n _ _ _ e=>BH (F:=Aw EE ih ft.get n 105) (Aj6 ih n) e)⟩⟩⟩,
 ⟨⟨(fun ih n _ _ _ e=>BH (F:=Aw EE ih ft.get n 106) (AiY ih n) e),
 ⟨(fun ih n _ _ _ e=>A7 (F:=Aw EE ih ft.get n 107) (Aim ih n) e),
 (fun ih n _ _ _ e=>BH (F:=Aw EE ih ft.get n 108) (Aj8 ih n) e)⟩⟩,
 ⟨(fun ih n _ _ _ e=>A7 (F:=Aw EE ih ft.get n 109) (AlL ih n) e),
 ⟨(fun ih n _ _ _ e=>A7 (F:=Aw EE ih ft.get n 110) (Ai4 ih n) e),
 (fun ih n _ _ _ e=>A7 (F:=Aw EE ih ft.get n 111) (Ajb ih n) e)⟩⟩⟩⟩⟩⟩⟩
theorem Aod:∀n f args h x,SS dt n f args h=some x→run EE n f args h=some x:=ArX As5 Arp
end
end Idl
end Go.Proofs.Ytkfecngimlcfoaa

/-
  Texts of a proof, part 9: an ideal semantics of the program, its functions in shallow form, contracts of them. No statement of the seat is proved here.
-/
import Derived.Test.YtkfecngimlcfoaaStageWrapK8
set_option linter.all false
noncomputable section
set_option maxRecDepth 100000
set_option linter.unusedVariables false
namespace Go.Proofs.Ytkfecngimlcfoaa
namespace Idl
noncomputable section
def Dw (h21:Hp) (x5:IV):OH :=
 AE true 3 x5 h21 fun x24=>An [x24] h21
def C3 (h12:Hp) (x5 x36:IV):OH :=
 Al 3 x5 x36 h12 fun h37 _ _=>AE true 3 x5 h37 fun x40=>An [x40] h37
def CZ (x1:IV) (h12:Hp) (x30 x5:IV):OH :=
 AC x1 fun x31=>Ac 1 x31 fun x32=>Ae x32 h12 fun x33 _=>Ba EE 3 x30 x33 fun x35=>Bw [.fv (.int .i64 0),.fv (.int .i64 0),.nils] [(0,1,.fv (.int .i64 1)),(1,1,x35)] fun x36=>C3 h12 x5 x36
def C0 (h90:Hp) (x83:IV):OH :=
 Bw [.fv (.int .i64 0),.fv (.int .i64 0),.nils] [] fun x96=>Al 3 x83 x96 h90 fun h97 _ _=>AE true 3 x83 h97 fun x100=>An [x100] h97
def Dd (x89:IV) (h4 h108:Hp) (x79 x80 x81 x82 x83 x84 x88:IV) (q51:List IV→Hp→OH):OH :=
 Bz EE 3 x89 (.fv (.int .i64 1)) fun x111=>Bs (h4.own.map (·.1)) [75512833,75516934] [x79,x80,x81,x82,x83,x84,x88,x111] h108 fun h112=>q51 [x79,x80,x81,x82,x83,x84,x88,x111] h112
def Dj (x81 x87 x82:IV) (ih:Aa) (h90:Hp) (x79 x86 x84 x85 x89:IV) (h4:Hp) (x80 x83 x88:IV) (q51:List IV→Hp→OH):OH :=
 Bz EE 3 x81 x87 fun x101=>Bz EE 3 x82 (.fv (.int .i64 1)) fun x102=>Ak [true,false,false,false] false false ih 72 [x79,x86,x101,x102] h90 fun x103 h104 _ _=>Bf 3 x84 x85 fun x107=>Al 3 x107 x103 h104 fun h108 _ _=>Dd x89 h4 h108 x79 x80 x81 x82 x83 x84 x88 q51
def Cr (x79:IV) (h90:Hp) (x83 x81 x87 x82:IV) (ih:Aa) (x86 x84 x85 x89:IV) (h4:Hp) (x80 x88:IV) (q51:List IV→Hp→OH):OH :=
 AC x79 fun x91=>Ac 3 x91 fun x92=>Ae x92 h90 fun x93 _=>Ig EE 36 x93 (.fv (.int .i64 0)) fun x95=>Aj x95 (C0 h90 x83) (Dj x81 x87 x82 ih h90 x79 x86 x84 x85 x89 h4 x80 x83 x88 q51)
def C6 (x134:IV) (h4 h143:Hp) (x122 x123 x124 x125 x126 x127 x128 x129 x130 x131 x132 x133:IV) (q119:List IV→Hp→OH):OH :=
 Bz EE 3 x134 (.fv (.int .i64 1)) fun x146=>Bs (h4.own.map (·.1)) [75516934] [x122,x123,x124,x125,x126,x127,x128,x129,x130,x131,x132,x133,x146] h143 fun h147=>q119 [x122,x123,x124,x125,x126,x127,x128,x129,x130,x131,x132,x133,x146] h147
def C1 (x124 x134:IV) (h121:Hp) (x130:IV) (h4:Hp) (x122 x123 x125 x126 x127 x128 x129 x131 x132 x133:IV) (q119:List IV→Hp→OH):OH :=
 Bz EE 3 x124 x134 fun x136=>Bw [.fv (.int .i64 0),.fv (.int .i64 0),.nils,.fv (.int .i64 0),.fv (.int .i64 0),.nils,.fv (.nilp)] [(0,1,.fv (.int .i64 1)),(1,1,x136)] fun x137=>fzS (Jy true 75516934 x137) 75516934 x137 h121 fun x138 h139 _ _=>Bf 1 x130 x134 fun x142=>Bj x142 x138 h139 fun h143 _ _=>C6 x134 h4 h143 x122 x123 x124 x125 x126 x127 x128 x129 x130 x131 x132 x133 q119
def Da (ih:Aa) (h121:Hp) (x122 x123 x128 x130:IV) (j11_78:IV→IV→IV→IV→IV→IV→IV→IV→IV→IV→IV→Hp→OH) (x124 x125 x126 x127 x129 x131 x132:IV):OH :=
 Ak [true,false,false,false] false false ih 103 [x122,x123,x128,x130] h121 fun x148 h149 _ _=>j11_78 x122 x123 x124 x125 x126 x127 x128 x148 x129 x131 x132 h149
def CY (l161:List IV) (x124:IV) (h121:Hp) (x130:IV) (h4:Hp) (x122 x123 x125 x126 x127 x128 x129 x131:IV) (q119:List IV→Hp→OH) (ih:Aa) (j11_78:IV→IV→IV→IV→IV→IV→IV→IV→IV→IV→IV→Hp→OH):OH :=
 AA l161 fun x132 l162=>AA l162 fun x133 l163=>AA l163 fun x134 _=>G6 EE 3 x134 x133 fun x135=>Aj x135 (C1 x124 x134 h121 x130 h4 x122 x123 x125 x126 x127 x128 x129 x131 x132 x133 q119) (Da ih h121 x122 x123 x128 x130 j11_78 x124 x125 x126 x127 x129 x131 x132)
def DK (l156:List IV) (x124:IV) (h121 h4:Hp) (x122 x123 x125 x126:IV) (q119:List IV→Hp→OH) (ih:Aa) (j11_78:IV→IV→IV→IV→IV→IV→IV→IV→IV→IV→IV→Hp→OH):OH :=
 AA l156 fun x127 l157=>AA l157 fun x128 l158=>AA l158 fun x129 l159=>AA l159 fun x130 l160=>AA l160 fun x131 l161=>CY l161 x124 h121 x130 h4 x122 x123 x125 x126 x127 x128 x129 x131 q119 ih j11_78
def EO (l120:List IV) (h121 h4:Hp) (q119:List IV→Hp→OH) (ih:Aa) (j11_78:IV→IV→IV→IV→IV→IV→IV→IV→IV→IV→IV→Hp→OH):OH :=
 AA l120 fun x122 l152=>AA l152 fun x123 l153=>AA l153 fun x124 l154=>AA l154 fun x125 l155=>AA l155 fun x126 l156=>DK l156 x124 h121 h4 x122 x123 x125 x126 q119 ih j11_78
def DG (h4 h115:Hp) (x54 x55 x56 x57 x58 x59 x61 x74 x114 x60 x118:IV) (n:Nat) (ih:Aa) (j11_78:IV→IV→IV→IV→IV→IV→IV→IV→IV→IV→IV→Hp→OH):OH :=
 Bs (h4.own.map (·.1)) [75516934] [x54,x55,x56,x57,x58,x59,x61,x74,x114,x60,x61,x118,.fv (.int .i64 0)] h115 fun h165=>BD n (fun q119 l120 h121=>EO l120 h121 h4 q119 ih j11_78) [x54,x55,x56,x57,x58,x59,x61,x74,x114,x60,x61,x118,.fv (.int .i64 0)] h165
def C7 (x113:IV) (h75:Hp) (x74:IV) (h4:Hp) (x54 x55 x56 x57 x58 x59 x61 x60:IV) (n:Nat) (ih:Aa) (j11_78:IV→IV→IV→IV→IV→IV→IV→IV→IV→IV→IV→Hp→OH) (x68:IV):OH :=
 Aj x113 (Aw (BK EE 75512833 127 x74 x74) 75512833 h75 fun x114 h115 _ _=>Ca x114 fun x118=>DG h4 h115 x54 x55 x56 x57 x58 x59 x61 x74 x114 x60 x118 n ih j11_78) (j11_78 x54 x55 x56 x57 x58 x59 x61 x68 x74 x60 x61 h75)
def Dn (r73 r69 r66:AH) (ih:Aa) (h53:Hp) (x72 x61:IV) (h4:Hp) (q51:List IV→Hp→OH) (x54 x55 x56 x57 x58 x59 x60:IV) (n:Nat) (x68:IV):OH :=
 Ad [(r69,[]),(r66,[])] r73 [] (Ak [] false false ih 101 [x72,x61] h53 fun x74 h75 r76 w77=>Ad [(r69,[]),(r66,[])] r76 w77 ((fun (j11_78:IV→IV→IV→IV→IV→IV→IV→IV→IV→IV→IV→Hp→OH)=>Kx EE 3 x74 (.fv (.int .i64 0)) fun x113=>C7 x113 h75 x74 h4 x54 x55 x56 x57 x58 x59 x61 x60 n ih j11_78 x68) fun x79 x80 x81 x82 x83 x84 x85 x86 x87 x88 x89 h90=>Cr x79 h90 x83 x81 x87 x82 ih x86 x84 x85 x89 h4 x80 x88 q51))
def DH (h53:Hp) (x67 x55:IV) (r66:AH) (ih:Aa) (x61:IV) (h4:Hp) (q51:List IV→Hp→OH) (x54 x56 x57 x58 x59 x60:IV) (n:Nat):OH :=
 Ae x67 h53 fun x68 r69=>Ad [] r69 [] (AC x55 fun x70=>Ac 0 x70 fun x71=>Ae x71 h53 fun x72 r73=>Dn r73 r69 r66 ih h53 x72 x61 h4 q51 x54 x55 x56 x57 x58 x59 x60 n x68)
def DA (x55:IV) (h53:Hp) (x61:IV) (ih:Aa) (h4:Hp) (q51:List IV→Hp→OH) (x54 x56 x57 x58 x59 x60:IV) (n:Nat):OH :=
 AC x55 fun x63=>Ac 2 x63 fun x64=>Ae x64 h53 fun x65 r66=>Ad [] r66 [] (Bf 1 x65 x61 fun x67=>DH h53 x67 x55 r66 ih x61 h4 q51 x54 x56 x57 x58 x59 x60 n)
def Di (r176 w177:AH) (h175:Hp) (x58:IV):OH :=
 Ad [] r176 w177 (AE true 3 x58 h175 fun x178=>An [x178] h175)
def CX (x170:IV) (h53:Hp) (r169:AH) (x168 x59 x58:IV):OH :=
 Ac 1 x170 fun x171=>Ae x171 h53 fun x172 r173=>Ad [(r169,[])] r173 [] (Bw [.fv (.int .i64 0),.fv (.int .i64 0),.nils] [(0,1,x168),(1,1,x172),(2,1,x59)] fun x174=>Al 3 x58 x174 h53 fun h175 r176 w177=>Di r176 w177 h175 x58)
def DJ (x55:IV) (h53:Hp) (x59 x58:IV):OH :=
 AC x55 fun x166=>Ac 0 x166 fun x167=>Ae x167 h53 fun x168 r169=>Ad [] r169 [] (AC x55 fun x170=>CX x170 h53 r169 x168 x59 x58)
def Dc (l183:List IV) (x55:IV) (h53:Hp) (ih:Aa) (h4:Hp) (q51:List IV→Hp→OH) (x54 x56 x57 x58:IV) (n:Nat):OH :=
 AA l183 fun x59 l184=>AA l184 fun x60 l185=>AA l185 fun x61 _=>G6 EE 3 x61 x60 fun x62=>Aj x62 (DA x55 h53 x61 ih h4 q51 x54 x56 x57 x58 x59 x60 n) (DJ x55 h53 x59 x58)
def EW (l52:List IV) (h53:Hp) (ih:Aa) (h4:Hp) (q51:List IV→Hp→OH) (n:Nat):OH :=
 AA l52 fun x54 l179=>AA l179 fun x55 l180=>AA l180 fun x56 l181=>AA l181 fun x57 l182=>AA l182 fun x58 l183=>Dc l183 x55 h53 ih h4 q51 x54 x56 x57 x58 n
def Du (h4 h47:Hp) (x0 x1 x2 x3 x5 x46 x50:IV) (n:Nat) (ih:Aa):OH :=
 Bs (h4.own.map (·.1)) [75512833,75516934] [x0,x1,x2,x3,x5,x46,x50,.fv (.int .i64 0)] h47 fun h187=>BD n (fun q51 l52 h53=>EW l52 h53 ih h4 q51 n) [x0,x1,x2,x3,x5,x46,x50,.fv (.int .i64 0)] h187
def C5 (x41:IV) (h12 h4:Hp) (x0 x1 x2 x3 x5:IV) (n:Nat) (ih:Aa):OH :=
 Ac 2 x41 fun x42=>Ae x42 h12 fun x43 _=>Ca x43 fun x45=>Aw (BK EE 75506693 28 x45 x45) 75506693 h12 fun x46 h47 _ _=>Ca x46 fun x50=>Du h4 h47 x0 x1 x2 x3 x5 x46 x50 n ih
def CW (h12:Hp) (x26 x2 x1 x5:IV) (h4:Hp) (x0 x3:IV) (n:Nat) (ih:Aa):OH :=
 Ae x26 h12 fun x27 _=>AZ EE 3 x27 (.fv (.int .i64 1)) fun x29=>Aj x29 (Ba EE 3 x2 (.fv (.int .i64 1)) fun x30=>CZ x1 h12 x30 x5) (AC x1 fun x41=>C5 x41 h12 h4 x0 x1 x2 x3 x5 n ih)
def Dk (x19:IV) (h12:Hp) (x5 x1 x2:IV) (h4:Hp) (x0 x3:IV) (n:Nat) (ih:Aa):OH :=
 Aj x19 (Bw [.fv (.int .i64 0),.fv (.int .i64 0),.nils] [] fun x20=>Al 3 x5 x20 h12 fun h21 _ _=>Dw h21 x5) (AC x1 fun x25=>Ac 0 x25 fun x26=>CW h12 x26 x2 x1 x5 h4 x0 x3 n ih)
def EP (ih:Aa) (h10:Hp) (x0 x5 x1 x2:IV) (h4:Hp) (x3:IV) (n:Nat):OH :=
 Ak [true] false false ih 99 [x0] h10 fun _ h12 _ _=>AC x0 fun x15=>Ac 3 x15 fun x16=>Ae x16 h12 fun x17 _=>Ig EE 36 x17 (.fv (.int .i64 0)) fun x19=>Dk x19 h12 x5 x1 x2 h4 x0 x3 n ih
def DB (x256:IV) (h252:Hp) (j0_9:Hp→OH):OH :=
 Ac 3 x256 fun x257=>Bj x257 (.fv (.int .i64 5)) h252 fun h258 _ _=>j0_9 h258
def Db (h246:Hp) (x202 x234 x245 x0:IV) (j0_9:Hp→OH):OH :=
 Ab x202 true h246 (fun k249=>AF x234 (.fv (.bool true)) x245 fun x250=>k249 x250 h246 [] []) fun x251 h252 _ _=>AF x202 x251 (.fv (.bool false)) fun x255=>Aj x255 (AC x0 fun x256=>DB x256 h252 j0_9) (j0_9 h252)
def DI (h217:Hp) (x202 x216 x3 x0:IV) (j0_9:Hp→OH):OH :=
 Ab x202 true h217 (fun k220=>Ae x216 h217 fun x221 r222=>k220 x221 h217 r222 []) fun x223 h224 _ _=>Ab x202 true h224 (fun k227=>Kx EE 3 x223 (.fv (.int .i64 3000)) fun x228=>k227 x228 h224 [] []) fun x229 h230 _ _=>Ab x202 true h230 (fun k233=>k233 x229 h230 [] []) fun x234 h235 _ _=>Ab x234 false h235 (fun k238=>k238 x3 h235 [] []) fun x239 h240 _ _=>Ab x234 false h240 (fun k243=>Kx EE 3 x239 (.fv (.int .i64 120)) fun x244=>k243 x244 h240 [] []) fun x245 h246 _ _=>Db h246 x202 x234 x245 x0 j0_9
def Dl (h195:Hp) (x199 x0 x3:IV) (j0_9:Hp→OH):OH :=
 Ae x199 h195 fun x200 _=>AZ EE 36 x200 (.fv (.int .i64 0)) fun x202=>Ab x202 true h195 (fun k203=>k203 x0 h195 [] []) fun x204 h205 _ _=>Ab x202 true h205 (fun k208=>AC x204 fun x209=>k208 x209 h205 [] []) fun x210 h211 _ _=>Ab x202 true h211 (fun k214=>Ac 2 x210 fun x215=>k214 x215 h211 [] []) fun x216 h217 _ _=>DI h217 x202 x216 x3 x0 j0_9
def Dr (x0:IV) (h6:Hp) (x192 x3:IV) (j0_9:Hp→OH):OH :=
 AC x0 fun x193=>Ac 2 x193 fun x194=>Bj x194 x192 h6 fun h195 _ _=>AC x0 fun x198=>Ac 3 x198 fun x199=>Dl h195 x199 x0 x3 j0_9
def S72 (ih:Aa) (n:Nat) (x0 x1 x2 x3:IV) (h4:Hp):OH :=
 AK 75497472 (.row [.fv (.int .i64 0),.fv (.int .i64 0),.nils] false) (.ptr (.own 75497472) 0) h4 fun x5 h6 _ _=>(fun (j0_9:Hp→OH)=>AC x0 fun x188=>Ac 2 x188 fun x189=>Ae x189 h6 fun x190 _=>Bz EE 3 x190 (.fv (.int .i64 1)) fun x192=>Dr x0 h6 x192 x3 j0_9) fun h10=>EP ih h10 x0 x5 x1 x2 h4 x3 n
theorem Ai3 (ih:Aa) (n:Nat) (x0 x1 x2 x3:IV) (h4:Hp):AD EE ih ft.get n 72 [x0,x1,x2,x3] h4=S72 ih n x0 x1 x2 x3 h4:=by kernel_rfl
def S73 (ih:Aa) (n:Nat) (x0 x1:IV) (h2:Hp):OH :=
 Ak [] false false ih 104 [x0,x1] h2 fun x3 h4 _ _=>geS EE 3 x3 (.fv (.int .i64 0)) fun x7=>An [x7] h4
theorem AiO (ih:Aa) (n:Nat) (x0 x1:IV) (h2:Hp):AD EE ih ft.get n 73 [x0,x1] h2=S73 ih n x0 x1 h2:=by kernel_rfl
def S74 (ih:Aa) (n:Nat) (x0 x1:IV) (h2:Hp):OH :=
 Bg 77594624 x0 h2 fun x3 h4 _ _=>Ae x1 h4 fun x7 _=>Ai 3 x3 h4 fun x9 _=>Fh EE ih x7 [x9] h4 fun x11 h12 _ _=>DP (N8 .not x11) fun x15=>An [x15] h12
theorem AkU (ih:Aa) (n:Nat) (x0 x1:IV) (h2:Hp):AD EE ih ft.get n 74 [x0,x1] h2=S74 ih n x0 x1 h2:=by kernel_rfl
def Pa (x29:IV) (h65:Hp) (x64 x30:IV) (h1:Hp) (x27 x28:IV) (q24:List IV→Hp→OH):OH :=
 Ac 2 x29 fun x68=>Bj x68 x64 h65 fun h69 _ _=>Bz EE 3 x30 (.fv (.int .i64 1)) fun x72=>Bs (h1.own.map (·.1)) [90182662,90185732] [x27,x28,x29,x72] h69 fun h73=>q24 [x27,x28,x29,x72] h73
def Si (x29:IV) (h54:Hp) (x46 x30:IV) (h1:Hp) (x27 x28:IV) (q24:List IV→Hp→OH):OH :=
 Ac 2 x29 fun x55=>Ae x55 h54 fun x56 _=>Ai 3 x46 h54 fun x58 _=>Aw (Af EE 28 1 [(0,x58)]) 90185731 h54 fun x60 h61 _ _=>Aw (AS EE 90185732 false .append [28,28] [x56,x60]) 90185732 h61 fun x64 h65 _ _=>Pa x29 h65 x64 x30 h1 x27 x28 q24
def Qz (h126:Hp) (x46 x125:IV) (j0_53:Hp→OH):OH :=
 Al 3 x46 x125 h126 fun h129 _ _=>j0_53 h129
def Se (h115:Hp) (x74 x95 x114:IV) (ih:Aa) (x46:IV) (j0_53:Hp→OH):OH :=
 Ab x74 true h115 (fun k118=>AF x95 (.fv (.bool true)) x114 fun x119=>k118 x119 h115 [] []) fun x120 h121 _ _=>AF x74 x120 (.fv (.bool false)) fun x124=>Aj x124 (Ak [] false false ih 24 [.fv (.int .i64 11),.nils] h121 fun x125 h126 _ _=>Qz h126 x46 x125 j0_53) (j0_53 h121)
def Qu (h85:Hp) (x74 x84 x27:IV) (ih:Aa) (x46:IV) (j0_53:Hp→OH):OH :=
 Ab x74 true h85 (fun k88=>AZ EE 3 x84 (.fv (.int .i64 4)) fun x89=>k88 x89 h85 [] []) fun x90 h91 _ _=>Ab x74 true h91 (fun k94=>k94 x90 h91 [] []) fun x95 h96 _ _=>Ab x95 false h96 (fun k99=>Ac 0 x27 fun x100=>k99 x100 h96 [] []) fun x101 h102 _ _=>Ab x95 false h102 (fun k105=>Ae x101 h102 fun x106 r107=>k105 x106 h102 r107 []) fun x108 h109 _ _=>Ab x95 false h109 (fun k112=>AZ EE 3 x108 (.fv (.int .i64 7)) fun x113=>k112 x113 h109 [] []) fun x114 h115 _ _=>Se h115 x74 x95 x114 ih x46 j0_53
def Rs (h47:Hp) (x46 x42 x29 x30:IV) (h1:Hp) (x27 x28:IV) (q24:List IV→Hp→OH) (ih:Aa):OH :=
 Al 3 x46 x42 h47 fun h50 _ _=>(fun (j0_53:Hp→OH)=>AZ EE 3 x30 (.fv (.int .i64 0)) fun x74=>Ab x74 true h50 (fun k75=>Ac 0 x27 fun x76=>k75 x76 h50 [] []) fun x77 h78 _ _=>Ab x74 true h78 (fun k81=>Ae x77 h78 fun x82 r83=>k81 x82 h78 r83 []) fun x84 h85 _ _=>Qu h85 x74 x84 x27 ih x46 j0_53) fun h54=>Si x29 h54 x46 x30 h1 x27 x28 q24
def RY (h26:Hp) (x36 x30:IV) (ih:Aa) (x29:IV) (h1:Hp) (x27 x28:IV) (q24:List IV→Hp→OH):OH :=
 Ae x36 h26 fun x37 _=>Bf 3 x37 x30 fun x39=>Ai 3 x39 h26 fun x40 _=>Ak [] false false ih 86 [x40] h26 fun x42 h43 _ _=>AK 90182662 (.row [.fv (.int .i64 0),.fv (.int .i64 0),.nils] false) (.ptr (.own 90182662) 0) h43 fun x46 h47 _ _=>Rs h47 x46 x42 x29 x30 h1 x27 x28 q24 ih
def Qb (ih:Aa) (h299:Hp) (x296 x298 x28:IV):OH :=
 Ak [] false false ih 67 [x296,.fv (.int .i64 0),x298] h299 fun x302 h303 r304 w305=>Ad [] r304 w305 (Al 3 x28 x302 h303 fun h306 r307 w308=>Ad [] r307 w308 (AE true 3 x28 h306 fun x309=>An [x309] h306))
def PC (x293:IV) (h284:Hp) (ih:Aa) (r294 r290:AH) (x28:IV):OH :=
 Bf 3 x293 (.fv (.int .i64 0)) fun x295=>Ai 3 x295 h284 fun x296 r297=>Ad [] r297 [] (Ak [] false false ih 24 [.fv (.int .i64 11),.nils] h284 fun x298 h299 r300 w301=>Ad [(r297,[]),(r294,[]),(r290,[])] r300 w301 (Qb ih h299 x296 x298 x28))
def QK (r290:AH) (x289:IV) (h284:Hp) (ih:Aa) (x28:IV):OH :=
 Ad [] r290 [] (Bf 3 x289 (.fv (.int .i64 1)) fun x291=>Ac 2 x291 fun x292=>Ae x292 h284 fun x293 r294=>Ad [] r294 [] (PC x293 h284 ih r294 r290 x28))
def Pf (h484:Hp) (x495 x28:IV):OH :=
 Ai 3 x495 h484 fun x496 _=>Al 3 x28 x496 h484 fun h498 _ _=>AE true 3 x28 h498 fun x501=>An [x501] h498
def QH (h484:Hp) (x488 x28:IV):OH :=
 Ae x488 h484 fun x489 _=>Bf 3 x489 (.fv (.int .i64 1)) fun x491=>Ac 2 x491 fun x492=>Ae x492 h484 fun x493 _=>Bf 3 x493 (.fv (.int .i64 0)) fun x495=>Pf h484 x495 x28
def Qo (h484:Hp) (x28 x502:IV):OH :=
 Al 3 x28 x502 h484 fun h504 _ _=>AE true 3 x28 h504 fun x507=>An [x507] h504
def Qr (h479:Hp) (x391:IV) (ih:Aa) (x433 x478 x29 x28:IV):OH :=
 Ab x391 true h479 (fun k482=>Ak [] false false ih 17 [x433,x478] h479 k482) fun x483 h484 r485 w486=>Ad [] r485 w486 (AF x391 x483 (.fv (.bool false)) fun x487=>Aj x487 (Ac 2 x29 fun x488=>QH h484 x488 x28) (Ai 3 x29 h484 fun x502 _=>Qo h484 x28 x502))
def Ru (h459:Hp) (x391 x458:IV) (r435 w436 r422 w423 r403 w404:AH) (ih:Aa) (x433 x29 x28:IV):OH :=
 Ab x391 true h459 (fun k462=>Ae x458 h459 fun x463 r464=>k462 x463 h459 r464 []) fun x465 h466 r467 w468=>Ad [(r435,w436),(r422,w423),(r403,w404)] r467 w468 (Ab x391 true h466 (fun k469=>Bf 3 x465 (.fv (.int .i64 0)) fun x470=>k469 x470 h466 [] []) fun x471 h472 _ _=>Ab x391 true h472 (fun k475=>Ai 3 x471 h472 fun x476 r477=>k475 x476 h472 r477 []) fun x478 h479 r480 w481=>Ad [(r435,w436),(r422,w423),(r403,w404)] r480 w481 (Qr h479 x391 ih x433 x478 x29 x28))
def Rj (h434:Hp) (x391 x29:IV) (r435 w436 r422 w423 r403 w404:AH) (ih:Aa) (x433 x28:IV):OH :=
 Ab x391 true h434 (fun k437=>Ac 2 x29 fun x438=>k437 x438 h434 [] []) fun x439 h440 _ _=>Ab x391 true h440 (fun k443=>Ae x439 h440 fun x444 r445=>k443 x444 h440 r445 []) fun x446 h447 r448 w449=>Ad [(r435,w436),(r422,w423),(r403,w404)] r448 w449 (Ab x391 true h447 (fun k450=>Bf 3 x446 (.fv (.int .i64 2)) fun x451=>k450 x451 h447 [] []) fun x452 h453 _ _=>Ab x391 true h453 (fun k456=>Ac 2 x452 fun x457=>k456 x457 h453 [] []) fun x458 h459 _ _=>Ru h459 x391 x458 r435 w436 r422 w423 r403 w404 ih x433 x29 x28)
def Rh (h414:Hp) (x391 x413 x29:IV) (r403 w404:AH) (ih:Aa) (x28:IV):OH :=
 Ab x391 true h414 (fun k417=>Ae x413 h414 fun x418 r419=>k417 x418 h414 r419 []) fun x420 h421 r422 w423=>Ad [] r422 w423 (Ab x391 true h421 (fun k424=>Bf 3 x420 (.fv (.int .i64 0)) fun x425=>k424 x425 h421 [] []) fun x426 h427 _ _=>Ab x391 true h427 (fun k430=>Ai 3 x426 h427 fun x431 r432=>k430 x431 h427 r432 []) fun x433 h434 r435 w436=>Ad [] r435 w436 (Rj h434 x391 x29 r435 w436 r422 w423 r403 w404 ih x433 x28))
def RZ (h388:Hp) (x391 x29:IV) (ih:Aa) (x28:IV):OH :=
 Ab x391 true h388 (fun k392=>Ac 2 x29 fun x393=>k392 x393 h388 [] []) fun x394 h395 _ _=>Ab x391 true h395 (fun k398=>Ae x394 h395 fun x399 r400=>k398 x399 h395 r400 []) fun x401 h402 r403 w404=>Ad [] r403 w404 (Ab x391 true h402 (fun k405=>Bf 3 x401 (.fv (.int .i64 1)) fun x406=>k405 x406 h402 [] []) fun x407 h408 _ _=>Ab x391 true h408 (fun k411=>Ac 2 x407 fun x412=>k411 x412 h408 [] []) fun x413 h414 _ _=>Rh h414 x391 x413 x29 r403 w404 ih x28)
def R3 (h369:Hp) (x352 x368 x29:IV) (ih:Aa) (x28:IV):OH :=
 Ab x352 true h369 (fun k372=>Ac 0 x368 fun x373=>k372 x373 h369 [] []) fun x374 h375 _ _=>Ab x352 true h375 (fun k378=>Ae x374 h375 fun x379 r380=>k378 x379 h375 r380 []) fun x381 h382 r383 w384=>Ad [] r383 w384 (Ab x352 true h382 (fun k385=>AZ EE 3 x381 (.fv (.int .i64 9)) fun x386=>k385 x386 h382 [] []) fun x387 h388 _ _=>AF x352 x387 (.fv (.bool false)) fun x391=>RZ h388 x391 x29 ih x28)
def Q2 (x313 x348:IV) (h349:Hp) (x29:IV) (ih:Aa) (x28:IV):OH :=
 AF x313 x348 (.fv (.bool false)) fun x352=>Ab x352 true h349 (fun k353=>Ac 2 x29 fun x354=>k353 x354 h349 [] []) fun x355 h356 _ _=>Ab x352 true h356 (fun k359=>Ae x355 h356 fun x360 r361=>k359 x360 h356 r361 []) fun x362 h363 r364 w365=>Ad [] r364 w365 (Ab x352 true h363 (fun k366=>Bf 3 x362 (.fv (.int .i64 2)) fun x367=>k366 x367 h363 [] []) fun x368 h369 _ _=>R3 h369 x352 x368 x29 ih x28)
def R8 (h324:Hp) (x313 x323 x29:IV) (ih:Aa) (x28:IV):OH :=
 Ab x313 true h324 (fun k327=>Bf 3 x323 (.fv (.int .i64 1)) fun x328=>k327 x328 h324 [] []) fun x329 h330 _ _=>Ab x313 true h330 (fun k333=>Ac 0 x329 fun x334=>k333 x334 h330 [] []) fun x335 h336 _ _=>Ab x313 true h336 (fun k339=>Ae x335 h336 fun x340 r341=>k339 x340 h336 r341 []) fun x342 h343 r344 w345=>Ad [] r344 w345 (Ab x313 true h343 (fun k346=>AZ EE 3 x342 (.fv (.int .i64 8)) fun x347=>k346 x347 h343 [] []) fun x348 h349 _ _=>Q2 x313 x348 h349 x29 ih x28)
def R6 (r312:AH) (x311:IV) (h284:Hp) (x29:IV) (ih:Aa) (x28:IV):OH :=
 Ad [] r312 [] (AZ EE 3 x311 (.fv (.int .i64 7)) fun x313=>Ab x313 true h284 (fun k314=>Ac 2 x29 fun x315=>k314 x315 h284 [] []) fun x316 h317 _ _=>Ab x313 true h317 (fun k320=>Ae x316 h317 fun x321 r322=>k320 x321 h317 r322 []) fun x323 h324 r325 w326=>Ad [] r325 w326 (R8 h324 x313 x323 x29 ih x28))
def PT (x230 x283 x29:IV) (h284:Hp) (ih:Aa) (x28 x27:IV):OH :=
 AF x230 x283 (.fv (.bool false)) fun x287=>Aj x287 (Ac 2 x29 fun x288=>Ae x288 h284 fun x289 r290=>QK r290 x289 h284 ih x28) (Ac 0 x27 fun x310=>Ae x310 h284 fun x311 r312=>R6 r312 x311 h284 x29 ih x28)
def QZ (h266:Hp) (x230 x265:IV) (ih:Aa) (x29 x28 x27:IV):OH :=
 Ab x230 true h266 (fun k269=>Ai 3 x265 h266 fun x270 r271=>k269 x270 h266 r271 []) fun x272 h273 r274 w275=>Ad [] r274 w275 (Ab x230 true h273 (fun k276=>Ak [] false false ih 107 [x272,.fv (.int .i64 0)] h273 k276) fun x277 h278 r279 w280=>Ad [] r279 w280 (Ab x230 true h278 (fun k281=>DP (N8 .not x277) fun x282=>k281 x282 h278 [] []) fun x283 h284 _ _=>PT x230 x283 x29 h284 ih x28 x27))
def Rm (h241:Hp) (x230 x240:IV) (ih:Aa) (x29 x28 x27:IV):OH :=
 Ab x230 true h241 (fun k244=>Bf 3 x240 (.fv (.int .i64 1)) fun x245=>k244 x245 h241 [] []) fun x246 h247 _ _=>Ab x230 true h247 (fun k250=>Ac 2 x246 fun x251=>k250 x251 h247 [] []) fun x252 h253 _ _=>Ab x230 true h253 (fun k256=>Ae x252 h253 fun x257 r258=>k256 x257 h253 r258 []) fun x259 h260 r261 w262=>Ad [] r261 w262 (Ab x230 true h260 (fun k263=>Bf 3 x259 (.fv (.int .i64 0)) fun x264=>k263 x264 h260 [] []) fun x265 h266 _ _=>QZ h266 x230 x265 ih x29 x28 x27)
def Qi (r228 w229:AH) (x174 x226:IV) (h227:Hp) (x29:IV) (ih:Aa) (x28 x27:IV):OH :=
 Ad [] r228 w229 (AF x174 x226 (.fv (.bool false)) fun x230=>Ab x230 true h227 (fun k231=>Ac 2 x29 fun x232=>k231 x232 h227 [] []) fun x233 h234 _ _=>Ab x230 true h234 (fun k237=>Ae x233 h234 fun x238 r239=>k237 x238 h234 r239 []) fun x240 h241 r242 w243=>Ad [] r242 w243 (Rm h241 x230 x240 ih x29 x28 x27))
def Sf (h210:Hp) (x174 x209:IV) (ih:Aa) (r205 w206 r186 w187:AH) (x29 x28 x27:IV):OH :=
 Ab x174 true h210 (fun k213=>Ai 3 x209 h210 fun x214 r215=>k213 x214 h210 r215 []) fun x216 h217 r218 w219=>Ad [] r218 w219 (Ab x174 true h217 (fun k220=>Ak [] false false ih 25 [.fv (.int .i64 0)] h217 k220) fun x221 h222 r223 w224=>Ad [(r218,w219),(r205,w206),(r186,w187)] r223 w224 (Ab x174 true h222 (fun k225=>Ak [] false false ih 17 [x216,x221] h222 k225) fun x226 h227 r228 w229=>Qi r228 w229 x174 x226 h227 x29 ih x28 x27))
def Qa (h185:Hp) (x174 x184:IV) (ih:Aa) (r186 w187:AH) (x29 x28 x27:IV):OH :=
 Ab x174 true h185 (fun k188=>Bf 3 x184 (.fv (.int .i64 1)) fun x189=>k188 x189 h185 [] []) fun x190 h191 _ _=>Ab x174 true h191 (fun k194=>Ac 2 x190 fun x195=>k194 x195 h191 [] []) fun x196 h197 _ _=>Ab x174 true h197 (fun k200=>Ae x196 h197 fun x201 r202=>k200 x201 h197 r202 []) fun x203 h204 r205 w206=>Ad [] r205 w206 (Ab x174 true h204 (fun k207=>Bf 3 x203 (.fv (.int .i64 1)) fun x208=>k207 x208 h204 [] []) fun x209 h210 _ _=>Sf h210 x174 x209 ih r205 w206 r186 w187 x29 x28 x27)
def P1 (h165:Hp) (x135 x164 x29:IV) (ih:Aa) (x28 x27:IV):OH :=
 Ab x135 true h165 (fun k168=>AZ EE 3 x164 (.fv (.int .i64 5)) fun x169=>k168 x169 h165 [] []) fun x170 h171 _ _=>AF x135 x170 (.fv (.bool false)) fun x174=>Ab x174 true h171 (fun k175=>Ac 2 x29 fun x176=>k175 x176 h171 [] []) fun x177 h178 _ _=>Ab x174 true h178 (fun k181=>Ae x177 h178 fun x182 r183=>k181 x182 h178 r183 []) fun x184 h185 r186 w187=>Ad [] r186 w187 (Qa h185 x174 x184 ih r186 w187 x29 x28 x27)
def Po (r147 w148:AH) (h146:Hp) (x135 x145 x29:IV) (ih:Aa) (x28 x27:IV):OH :=
 Ad [] r147 w148 (Ab x135 true h146 (fun k149=>Bf 3 x145 (.fv (.int .i64 1)) fun x150=>k149 x150 h146 [] []) fun x151 h152 _ _=>Ab x135 true h152 (fun k155=>Ac 0 x151 fun x156=>k155 x156 h152 [] []) fun x157 h158 _ _=>Ab x135 true h158 (fun k161=>Ae x157 h158 fun x162 r163=>k161 x162 h158 r163 []) fun x164 h165 r166 w167=>Ad [] r166 w167 (P1 h165 x135 x164 x29 ih x28 x27))
def Pz (h26:Hp) (x132 x29:IV) (ih:Aa) (x28 x27:IV):OH :=
 Ae x132 h26 fun x133 r134=>Ad [] r134 [] (AZ EE 3 x133 (.fv (.int .i64 4)) fun x135=>Ab x135 true h26 (fun k136=>Ac 2 x29 fun x137=>k136 x137 h26 [] []) fun x138 h139 _ _=>Ab x135 true h139 (fun k142=>Ae x138 h139 fun x143 r144=>k142 x143 h139 r144 []) fun x145 h146 r147 w148=>Po r147 w148 h146 x135 x145 x29 ih x28 x27)
def PQ (h26:Hp) (x31 x30 x27:IV) (ih:Aa) (x29:IV) (h1:Hp) (x28:IV) (q24:List IV→Hp→OH):OH :=
 Ae x31 h26 fun x32 _=>Ca x32 fun x34=>G6 EE 3 x30 x34 fun x35=>Aj x35 (Ac 2 x27 fun x36=>RY h26 x36 x30 ih x29 h1 x27 x28 q24) (Ac 0 x27 fun x132=>Pz h26 x132 x29 ih x28 x27)
def Il (l25:List IV) (h26:Hp) (ih:Aa) (h1:Hp) (q24:List IV→Hp→OH):OH :=
 AA l25 fun x27 l508=>AA l508 fun x28 l509=>AA l509 fun x29 l510=>AA l510 fun x30 _=>Ac 2 x27 fun x31=>PQ h26 x31 x30 x27 ih x29 h1 x28 q24
def Qc (x11 x14:IV) (h7 h1:Hp) (x2 x6:IV) (n:Nat) (ih:Aa):OH :=
 Bw [.fv (.int .i64 0),.fv (.int .i64 0),.nils] [(0,1,x11),(1,1,x14)] fun x16=>AK 90178565 (.row [.fv (.int .i64 0),.fv (.int .i64 0),.nils] false) (.ptr (.own 90178565) 0) h7 fun x17 h18 _ _=>Al 3 x17 x16 h18 fun h21 _ _=>Bs (h1.own.map (·.1)) [90182662,90185732] [x2,x6,x17,.fv (.int .i64 0)] h21 fun h512=>BD n (fun q24 l25 h26=>Il l25 h26 ih h1 q24) [x2,x6,x17,.fv (.int .i64 0)] h512
def S86 (ih:Aa) (n:Nat) (x0:IV) (h1:Hp):OH :=
 Bg 90177536 x0 h1 fun x2 h3 _ _=>AK 90177537 (.row [.fv (.int .i64 0),.fv (.int .i64 0),.nils] false) (.ptr (.own 90177537) 0) h3 fun x6 h7 _ _=>Ac 0 x2 fun x10=>Ae x10 h7 fun x11 _=>Ac 1 x2 fun x13=>Ae x13 h7 fun x14 _=>Qc x11 x14 h7 h1 x2 x6 n ih
theorem Ajf (ih:Aa) (n:Nat) (x0:IV) (h1:Hp):AD EE ih ft.get n 86 [x0] h1=S86 ih n x0 h1:=by kernel_rfl
def S87 (ih:Aa) (n:Nat) (x0 x1:IV) (h2:Hp):OH :=
 Aw (Af EE 114 0 []) 91227136 h2 fun x3 h4 _ _=>Aw (AS EE 91227138 false .append [114,114] [x3,x0]) 91227138 h4 fun x7 h8 _ _=>Aw (AS EE 91227140 false .append [114,114] [x7,x1]) 91227140 h8 fun x11 h12 _ _=>An [x11] h12
theorem Akk (ih:Aa) (n:Nat) (x0 x1:IV) (h2:Hp):AD EE ih ft.get n 87 [x0,x1] h2=S87 ih n x0 x1 h2:=by kernel_rfl
def ZB (r121 w122:AH) (h120:Hp) (x119:IV):OH :=
 Ad [] r121 w122 (An [x119] h120)
def Vw (h79:Hp) (x109:IV) (r103 r99:AH) (ih:Aa) (x102 x0 x98:IV):OH :=
 Aw (Af EE 114 1 [(0,x109)]) 92280847 h79 fun x111 h112 r113 w114=>Ad [(r103,[]),(r99,[])] r113 w114 (Ak [] false false ih 87 [x102,x111] h112 fun x115 h116 r117 w118=>Ad [(r99,[])] r117 w118 (Ak [true,false,false] false false ih 62 [x0,x98,x115] h116 fun x119 h120 r121 w122=>ZB r121 w122 h120 x119))
def YH (h79:Hp) (x105:IV) (r103 r99:AH) (ih:Aa) (x102 x0 x98:IV):OH :=
 Ae x105 h79 fun x106 r107=>Ad [(r103,[]),(r99,[])] r107 [] (Bf 1 x106 (.fv (.int .i64 1)) fun x108=>Ae x108 h79 fun x109 r110=>Ad [(r103,[]),(r99,[])] r110 [] (Vw h79 x109 r103 r99 ih x102 x0 x98))
def Y4 (x100:IV) (h79:Hp) (r99:AH) (x1:IV) (ih:Aa) (x0 x98:IV):OH :=
 Ac 3 x100 fun x101=>Ae x101 h79 fun x102 r103=>Ad [(r99,[])] r103 [] (AC x1 fun x104=>Ac 2 x104 fun x105=>YH h79 x105 r103 r99 ih x102 x0 x98)
def Abc (x94:IV) (h79:Hp) (x1:IV) (ih:Aa) (x0:IV):OH :=
 AC x94 fun x96=>Ac 4 x96 fun x97=>Ai 3 x97 h79 fun x98 r99=>Ad [] r99 [] (AC x94 fun x100=>Y4 x100 h79 r99 x1 ih x0 x98)
def Zc (x87:IV) (h79:Hp) (x1:IV) (ih:Aa) (x0:IV):OH :=
 AC x87 fun x89=>Ac 2 x89 fun x90=>Ae x90 h79 fun x91 _=>Bf 1 x91 (.fv (.int .i64 1)) fun x93=>Ae x93 h79 fun x94 _=>Abc x94 h79 x1 ih x0
def Y1 (x1:IV) (h79:Hp) (ih:Aa) (x0:IV):OH :=
 AC x1 fun x82=>Ac 2 x82 fun x83=>Ae x83 h79 fun x84 _=>Bf 1 x84 (.fv (.int .i64 0)) fun x86=>Ae x86 h79 fun x87 _=>Zc x87 h79 x1 ih x0
def Aah (x235 x242:IV) (h223:Hp):OH :=
 Bf 1 x235 x242 fun x243=>Ae x243 h223 fun x244 r245=>Ad [] r245 [] (An [x244] h223)
def Aak (x237:IV) (h223:Hp) (r236 r232 r229:AH) (x235:IV):OH :=
 Ac 0 x237 fun x238=>Ae x238 h223 fun x239 r240=>Ad [(r236,[]),(r232,[]),(r229,[])] r240 [] (Bz EE 3 (.fv (.int .i64 1)) x239 fun x241=>Ba EE 3 x241 (.fv (.int .i64 8)) fun x242=>Aah x235 x242 h223)
def Yo (x231:IV) (h223:Hp) (x1:IV) (r232 r229:AH):OH :=
 AC x231 fun x233=>Ac 2 x233 fun x234=>Ae x234 h223 fun x235 r236=>Ad [] r236 [] (AC x1 fun x237=>Aak x237 h223 r236 r232 r229 x235)
def Abn (h223:Hp) (x227 x1:IV):OH :=
 Ae x227 h223 fun x228 r229=>Ad [] r229 [] (Bf 1 x228 (.fv (.int .i64 0)) fun x230=>Ae x230 h223 fun x231 r232=>Ad [] r232 [] (Yo x231 h223 x1 r232 r229))
def AaN (ih:Aa) (h218:Hp) (x0 x1:IV) (j0_3:Hp→OH):OH :=
 Ak [true] false false ih 108 [x0] h218 fun x222 h223 _ _=>Aj x222 (AC x1 fun x226=>Ac 2 x226 fun x227=>Abn h223 x227 x1) (j0_3 h223)
def XS (x258:IV) (h250:Hp):OH :=
 AC x258 fun x260=>Ac 2 x260 fun x261=>Ae x261 h250 fun x262 _=>Bf 1 x262 (.fv (.int .i64 0)) fun x264=>Ae x264 h250 fun x265 _=>An [x265] h250
def Aa6 (x1:IV) (h250:Hp):OH :=
 AC x1 fun x253=>Ac 2 x253 fun x254=>Ae x254 h250 fun x255 _=>Bf 1 x255 (.fv (.int .i64 0)) fun x257=>Ae x257 h250 fun x258 _=>XS x258 h250
def Wo (h336:Hp) (x340:IV):OH :=
 Ae x340 h336 fun x341 _=>Bf 1 x341 (.fv (.int .i64 1)) fun x343=>Ae x343 h336 fun x344 _=>An [x344] h336
def VQ (x335 x1:IV) (h336:Hp) (j0_3:Hp→OH):OH :=
 Aj x335 (AC x1 fun x339=>Ac 2 x339 fun x340=>Wo h336 x340) (j0_3 h336)
def Xy (r483 w484 r480 r476:AH) (ih:Aa) (h482:Hp) (x479 x481 x0 x475:IV):OH :=
 Ad [(r480,[]),(r476,[])] r483 w484 (Ak [] false false ih 87 [x479,x481] h482 fun x485 h486 r487 w488=>Ad [(r476,[])] r487 w488 (Ak [true,false,false] false false ih 62 [x0,x475,x485] h486 fun x489 h490 r491 w492=>Ad [] r491 w492 (An [x489] h490)))
def YG (x471:IV) (h463:Hp) (r476:AH) (x430 x462:IV) (ih:Aa) (x0 x475:IV):OH :=
 AC x471 fun x477=>Ac 3 x477 fun x478=>Ae x478 h463 fun x479 r480=>Ad [(r476,[])] r480 [] (Aw (Af EE 114 2 [(0,x430),(1,x462)]) 92297227 h463 fun x481 h482 r483 w484=>Xy r483 w484 r480 r476 ih h482 x479 x481 x0 x475)
def Vz (h463:Hp) (x470 x430 x462:IV) (ih:Aa) (x0:IV):OH :=
 Ae x470 h463 fun x471 _=>AC x471 fun x473=>Ac 4 x473 fun x474=>Ai 3 x474 h463 fun x475 r476=>Ad [] r476 [] (YG x471 h463 r476 x430 x462 ih x0 x475)
def V3 (r464 w465:AH) (x1:IV) (h463:Hp) (x430 x462:IV) (ih:Aa) (x0:IV):OH :=
 Ad [] r464 w465 (AC x1 fun x466=>Ac 2 x466 fun x467=>Ae x467 h463 fun x468 _=>Bf 1 x468 (.fv (.int .i64 2)) fun x470=>Vz h463 x470 x430 x462 ih x0)
def VZ (r455 w456:AH) (x453:IV) (h454:Hp) (ih:Aa) (x0 x1 x430:IV):OH :=
 Ad [] r455 w456 (Bw [.fv (.int .i64 0),.fv (.int .i64 0),.nils,.nils,.fv (.int .i64 0),.fv (.int .i64 0),.nils] [(0,1,.fv (.int .i64 13)),(2,1,x453)] fun x457=>Bg 92295190 x457 h454 fun x458 h459 r460 w461=>Ad [] r460 w461 (Ak [true,false] false false ih 88 [x0,x458] h459 fun x462 h463 r464 w465=>V3 r464 w465 x1 h463 x430 x462 ih x0))
def XA (r449 r445 r442 r438 r435:AH) (x448:IV) (h415:Hp) (x437 x444 x430:IV) (ih:Aa) (x0 x1:IV):OH :=
 Ad [(r445,[]),(r442,[]),(r438,[]),(r435,[])] r449 [] (Bf 1 x448 (.fv (.int .i64 2)) fun x450=>Ae x450 h415 fun x451 r452=>Ad [(r445,[]),(r442,[]),(r438,[]),(r435,[])] r452 [] (Aw (Af EE 114 4 [(0,x437),(1,x444),(2,x451),(3,x430)]) 92295188 h415 fun x453 h454 r455 w456=>VZ r455 w456 x453 h454 ih x0 x1 x430))
def YW (h415:Hp) (x443:IV) (r438 r435:AH) (x1:IV) (r442:AH) (x437 x430:IV) (ih:Aa) (x0:IV):OH :=
 Ae x443 h415 fun x444 r445=>Ad [(r438,[]),(r435,[])] r445 [] (AC x1 fun x446=>Ac 2 x446 fun x447=>Ae x447 h415 fun x448 r449=>XA r449 r445 r442 r438 r435 x448 h415 x437 x444 x430 ih x0 x1)
def Zu (x1:IV) (h415:Hp) (r438 r435:AH) (x437 x430:IV) (ih:Aa) (x0:IV):OH :=
 AC x1 fun x439=>Ac 2 x439 fun x440=>Ae x440 h415 fun x441 r442=>Ad [(r438,[]),(r435,[])] r442 [] (Bf 1 x441 (.fv (.int .i64 1)) fun x443=>YW h415 x443 r438 r435 x1 r442 x437 x430 ih x0)
def Yz (h415:Hp) (x433 x1 x430:IV) (ih:Aa) (x0:IV):OH :=
 Ae x433 h415 fun x434 r435=>Ad [] r435 [] (Bf 1 x434 (.fv (.int .i64 0)) fun x436=>Ae x436 h415 fun x437 r438=>Ad [] r438 [] (Zu x1 h415 r438 r435 x437 x430 ih x0))
def YU (h415:Hp) (x426 x1:IV) (ih:Aa) (x0:IV):OH :=
 Ae x426 h415 fun x427 _=>Bf 1 x427 (.fv (.int .i64 0)) fun x429=>Ae x429 h415 fun x430 _=>AC x1 fun x432=>Ac 2 x432 fun x433=>Yz h415 x433 x1 x430 ih x0
def WG (h415:Hp) (x419 x1:IV) (ih:Aa) (x0:IV):OH :=
 Ae x419 h415 fun x420 _=>Bf 1 x420 (.fv (.int .i64 3)) fun x422=>Ae x422 h415 fun x423 _=>AC x423 fun x425=>Ac 2 x425 fun x426=>YU h415 x426 x1 ih x0
def Aap (ih:Aa) (h410:Hp) (x0 x1:IV) (j0_3:Hp→OH):OH :=
 Ak [true] false false ih 108 [x0] h410 fun x414 h415 _ _=>Aj x414 (AC x1 fun x418=>Ac 2 x418 fun x419=>WG h415 x419 x1 ih x0) (j0_3 h415)
def Zw (h391:Hp) (x350 x390:IV) (ih:Aa) (x0 x1:IV) (j0_3:Hp→OH):OH :=
 Ab x350 true h391 (fun k394=>Ac 0 x390 fun x395=>k394 x395 h391 [] []) fun x396 h397 _ _=>Ab x350 true h397 (fun k400=>Ae x396 h397 fun x401 r402=>k400 x401 h397 r402 []) fun x403 h404 _ _=>Ab x350 true h404 (fun k407=>AZ EE 3 x403 (.fv (.int .i64 12)) fun x408=>k407 x408 h404 [] []) fun x409 h410 _ _=>AF x350 x409 (.fv (.bool false)) fun x413=>Aj x413 (Aap ih h410 x0 x1 j0_3) (j0_3 h410)
def Xw (h359:Hp) (x350 x358:IV) (ih:Aa) (x0 x1:IV) (j0_3:Hp→OH):OH :=
 Ab x350 true h359 (fun k362=>Ac 2 x358 fun x363=>k362 x363 h359 [] []) fun x364 h365 _ _=>Ab x350 true h365 (fun k368=>Ae x364 h365 fun x369 r370=>k368 x369 h365 r370 []) fun x371 h372 _ _=>Ab x350 true h372 (fun k375=>Bf 1 x371 (.fv (.int .i64 3)) fun x376=>k375 x376 h372 [] []) fun x377 h378 _ _=>Ab x350 true h378 (fun k381=>Ae x377 h378 fun x382 r383=>k381 x382 h378 r383 []) fun x384 h385 _ _=>Ab x350 true h385 (fun k388=>AC x384 fun x389=>k388 x389 h385 [] []) fun x390 h391 _ _=>Zw h391 x350 x390 ih x0 x1 j0_3
def YA (x346:IV) (h331:Hp) (x1:IV) (ih:Aa) (x0:IV) (j0_3:Hp→OH):OH :=
 Ac 0 x346 fun x347=>Ae x347 h331 fun x348 _=>AZ EE 3 x348 (.fv (.int .i64 13)) fun x350=>Ab x350 true h331 (fun k351=>k351 x1 h331 [] []) fun x352 h353 _ _=>Ab x350 true h353 (fun k356=>AC x352 fun x357=>k356 x357 h353 [] []) fun x358 h359 _ _=>Xw h359 x350 x358 ih x0 x1 j0_3
def Yb (h318:Hp) (x271 x317:IV) (ih:Aa) (x0 x1:IV) (j0_3:Hp→OH):OH :=
 Ab x271 true h318 (fun k321=>Ae x317 h318 fun x322 r323=>k321 x322 h318 r323 []) fun x324 h325 _ _=>Ab x271 true h325 (fun k328=>AZ EE 3 x324 (.fv (.int .i64 11)) fun x329=>k328 x329 h325 [] []) fun x330 h331 _ _=>AF x271 x330 (.fv (.bool false)) fun x334=>Aj x334 (Ak [true] false false ih 108 [x0] h331 fun x335 h336 _ _=>VQ x335 x1 h336 j0_3) (AC x1 fun x346=>YA x346 h331 x1 ih x0 j0_3)
def WK (h286:Hp) (x271 x285:IV) (ih:Aa) (x0 x1:IV) (j0_3:Hp→OH):OH :=
 Ab x271 true h286 (fun k289=>Ae x285 h286 fun x290 r291=>k289 x290 h286 r291 []) fun x292 h293 _ _=>Ab x271 true h293 (fun k296=>Bf 1 x292 (.fv (.int .i64 3)) fun x297=>k296 x297 h293 [] []) fun x298 h299 _ _=>Ab x271 true h299 (fun k302=>Ae x298 h299 fun x303 r304=>k302 x303 h299 r304 []) fun x305 h306 _ _=>Ab x271 true h306 (fun k309=>AC x305 fun x310=>k309 x310 h306 [] []) fun x311 h312 _ _=>Ab x271 true h312 (fun k315=>Ac 0 x311 fun x316=>k315 x316 h312 [] []) fun x317 h318 _ _=>Yb h318 x271 x317 ih x0 x1 j0_3
def Aau (h248:Hp) (x268 x1:IV) (ih:Aa) (x0:IV) (j0_3:Hp→OH):OH :=
 Ae x268 h248 fun x269 _=>AZ EE 3 x269 (.fv (.int .i64 13)) fun x271=>Ab x271 true h248 (fun k272=>k272 x1 h248 [] []) fun x273 h274 _ _=>Ab x271 true h274 (fun k277=>AC x273 fun x278=>k277 x278 h274 [] []) fun x279 h280 _ _=>Ab x271 true h280 (fun k283=>Ac 2 x279 fun x284=>k283 x284 h280 [] []) fun x285 h286 _ _=>WK h286 x271 x285 ih x0 x1 j0_3
def W2 (x247:IV) (ih:Aa) (h248:Hp) (x0 x1:IV) (j0_3:Hp→OH):OH :=
 Aj x247 (Ak [true] false false ih 108 [x0] h248 fun x249 h250 _ _=>Aj x249 (Aa6 x1 h250) (j0_3 h250)) (AC x1 fun x267=>Ac 0 x267 fun x268=>Aau h248 x268 x1 ih x0 j0_3)
def Ws (h612:Hp) (x565 x611:IV) (j1_246:IV→Hp→OH):OH :=
 Ab x565 true h612 (fun k615=>Ae x611 h612 fun x616 r617=>k615 x616 h612 r617 []) fun x618 h619 _ _=>Ab x565 true h619 (fun k622=>AZ EE 3 x618 (.fv (.int .i64 30)) fun x623=>k622 x623 h619 [] []) fun x624 h625 _ _=>AF x565 x624 (.fv (.bool false)) fun x628=>j1_246 x628 h625
def ZN (h580:Hp) (x565 x579:IV) (j1_246:IV→Hp→OH):OH :=
 Ab x565 true h580 (fun k583=>Ae x579 h580 fun x584 r585=>k583 x584 h580 r585 []) fun x586 h587 _ _=>Ab x565 true h587 (fun k590=>Bf 1 x586 (.fv (.int .i64 0)) fun x591=>k590 x591 h587 [] []) fun x592 h593 _ _=>Ab x565 true h593 (fun k596=>Ae x592 h593 fun x597 r598=>k596 x597 h593 r598 []) fun x599 h600 _ _=>Ab x565 true h600 (fun k603=>AC x599 fun x604=>k603 x604 h600 [] []) fun x605 h606 _ _=>Ab x565 true h606 (fun k609=>Ac 0 x605 fun x610=>k609 x610 h606 [] []) fun x611 h612 _ _=>Ws h612 x565 x611 j1_246
def Aae (h557:Hp) (x562 x1:IV) (j1_246:IV→Hp→OH):OH :=
 Ae x562 h557 fun x563 _=>AZ EE 3 x563 (.fv (.int .i64 19)) fun x565=>Ab x565 true h557 (fun k566=>k566 x1 h557 [] []) fun x567 h568 _ _=>Ab x565 true h568 (fun k571=>AC x567 fun x572=>k571 x572 h568 [] []) fun x573 h574 _ _=>Ab x565 true h574 (fun k577=>Ac 2 x573 fun x578=>k577 x578 h574 [] []) fun x579 h580 _ _=>ZN h580 x565 x579 j1_246
def Aa4 (x497 x556:IV) (j1_246:IV→Hp→OH) (h557:Hp) (x1:IV):OH :=
 AF x497 x556 (.fv (.bool false)) fun x560=>Aj x560 (j1_246 x560 h557) (AC x1 fun x561=>Ac 0 x561 fun x562=>Aae h557 x562 x1 j1_246)
def Ze (h525:Hp) (x497 x524:IV) (j1_246:IV→Hp→OH) (x1:IV):OH :=
 Ab x497 true h525 (fun k528=>Ae x524 h525 fun x529 r530=>k528 x529 h525 r530 []) fun x531 h532 _ _=>Ab x497 true h532 (fun k535=>AC x531 fun x536=>k535 x536 h532 [] []) fun x537 h538 _ _=>Ab x497 true h538 (fun k541=>Ac 0 x537 fun x542=>k541 x542 h538 [] []) fun x543 h544 _ _=>Ab x497 true h544 (fun k547=>Ae x543 h544 fun x548 r549=>k547 x548 h544 r549 []) fun x550 h551 _ _=>Ab x497 true h551 (fun k554=>AZ EE 3 x550 (.fv (.int .i64 19)) fun x555=>k554 x555 h551 [] []) fun x556 h557 _ _=>Aa4 x497 x556 j1_246 h557 x1
def YI (h218:Hp) (x497 x1:IV) (j1_246:IV→Hp→OH):OH :=
 Ab x497 true h218 (fun k498=>k498 x1 h218 [] []) fun x499 h500 _ _=>Ab x497 true h500 (fun k503=>AC x499 fun x504=>k503 x504 h500 [] []) fun x505 h506 _ _=>Ab x497 true h506 (fun k509=>Ac 2 x505 fun x510=>k509 x510 h506 [] []) fun x511 h512 _ _=>Ab x497 true h512 (fun k515=>Ae x511 h512 fun x516 r517=>k515 x516 h512 r517 []) fun x518 h519 _ _=>Ab x497 true h519 (fun k522=>Bf 1 x518 (.fv (.int .i64 0)) fun x523=>k522 x523 h519 [] []) fun x524 h525 _ _=>Ze h525 x497 x524 j1_246 x1
def Zm (ih:Aa) (x0 x1:IV) (j0_3:Hp→OH) (h218:Hp):OH :=
 (fun (j1_246:IV→Hp→OH)=>AC x1 fun x493=>Ac 0 x493 fun x494=>Ae x494 h218 fun x495 _=>AZ EE 3 x495 (.fv (.int .i64 30)) fun x497=>YI h218 x497 x1 j1_246) fun x247 h248=>W2 x247 ih h248 x0 x1 j0_3
def Xo (h199:Hp) (x158 x198:IV) (ih:Aa) (x0 x1:IV) (j0_3:Hp→OH):OH :=
 Ab x158 true h199 (fun k202=>Ac 0 x198 fun x203=>k202 x203 h199 [] []) fun x204 h205 _ _=>Ab x158 true h205 (fun k208=>Ae x204 h205 fun x209 r210=>k208 x209 h205 r210 []) fun x211 h212 _ _=>Ab x158 true h212 (fun k215=>AZ EE 3 x211 (.fv (.int .i64 7)) fun x216=>k215 x216 h212 [] []) fun x217 h218 _ _=>AF x158 x217 (.fv (.bool false)) fun x221=>Aj x221 (AaN ih h218 x0 x1 j0_3) (Zm ih x0 x1 j0_3 h218)
def Aa3 (h167:Hp) (x158 x166:IV) (ih:Aa) (x0 x1:IV) (j0_3:Hp→OH):OH :=
 Ab x158 true h167 (fun k170=>Ac 2 x166 fun x171=>k170 x171 h167 [] []) fun x172 h173 _ _=>Ab x158 true h173 (fun k176=>Ae x172 h173 fun x177 r178=>k176 x177 h173 r178 []) fun x179 h180 _ _=>Ab x158 true h180 (fun k183=>Bf 1 x179 (.fv (.int .i64 0)) fun x184=>k183 x184 h180 [] []) fun x185 h186 _ _=>Ab x158 true h186 (fun k189=>Ae x185 h186 fun x190 r191=>k189 x190 h186 r191 []) fun x192 h193 _ _=>Ab x158 true h193 (fun k196=>AC x192 fun x197=>k196 x197 h193 [] []) fun x198 h199 _ _=>Xo h199 x158 x198 ih x0 x1 j0_3
def VG (h142:Hp) (x127 x141 x1:IV) (ih:Aa) (x0:IV) (j0_3:Hp→OH):OH :=
 Ab x127 false h142 (fun k145=>Ae x141 h142 fun x146 r147=>k145 x146 h142 r147 []) fun x148 h149 _ _=>Ab x127 false h149 (fun k152=>AZ EE 3 x148 (.fv (.int .i64 9)) fun x153=>k152 x153 h149 [] []) fun x154 h155 _ _=>AF x127 (.fv (.bool true)) x154 fun x158=>Ab x158 true h155 (fun k159=>k159 x1 h155 [] []) fun x160 h161 _ _=>Ab x158 true h161 (fun k164=>AC x160 fun x165=>k164 x165 h161 [] []) fun x166 h167 _ _=>Aa3 h167 x158 x166 ih x0 x1 j0_3
def Xn (h74:Hp) (x124 x1:IV) (ih:Aa) (x0:IV) (j0_3:Hp→OH):OH :=
 Ae x124 h74 fun x125 _=>AZ EE 3 x125 (.fv (.int .i64 8)) fun x127=>Ab x127 false h74 (fun k128=>k128 x1 h74 [] []) fun x129 h130 _ _=>Ab x127 false h130 (fun k133=>AC x129 fun x134=>k133 x134 h130 [] []) fun x135 h136 _ _=>Ab x127 false h136 (fun k139=>Ac 0 x135 fun x140=>k139 x140 h136 [] []) fun x141 h142 _ _=>VG h142 x127 x141 x1 ih x0 j0_3
def ZZ (x77:IV) (ih:Aa) (h74:Hp) (x0 x1:IV) (j0_3:Hp→OH):OH :=
 Aj x77 (Ak [true] false false ih 108 [x0] h74 fun x78 h79 _ _=>Aj x78 (Y1 x1 h79 ih x0) (j0_3 h79)) (AC x1 fun x123=>Ac 0 x123 fun x124=>Xn h74 x124 x1 ih x0 j0_3)
def Aaa (h49:Hp) (x14 x48:IV) (ih:Aa) (x0 x1:IV) (j0_3:Hp→OH):OH :=
 Ab x14 true h49 (fun k52=>AC x48 fun x53=>k52 x53 h49 [] []) fun x54 h55 _ _=>Ab x14 true h55 (fun k58=>Ac 0 x54 fun x59=>k58 x59 h55 [] []) fun x60 h61 _ _=>Ab x14 true h61 (fun k64=>Ae x60 h61 fun x65 r66=>k64 x65 h61 r66 []) fun x67 h68 _ _=>Ab x14 true h68 (fun k71=>AZ EE 3 x67 (.fv (.int .i64 4)) fun x72=>k71 x72 h68 [] []) fun x73 h74 _ _=>AF x14 x73 (.fv (.bool false)) fun x77=>ZZ x77 ih h74 x0 x1 j0_3
def YQ (h17:Hp) (x14 x16:IV) (ih:Aa) (x0 x1:IV) (j0_3:Hp→OH):OH :=
 Ab x14 true h17 (fun k20=>AC x16 fun x21=>k20 x21 h17 [] []) fun x22 h23 _ _=>Ab x14 true h23 (fun k26=>Ac 2 x22 fun x27=>k26 x27 h23 [] []) fun x28 h29 _ _=>Ab x14 true h29 (fun k32=>Ae x28 h29 fun x33 r34=>k32 x33 h29 r34 []) fun x35 h36 _ _=>Ab x14 true h36 (fun k39=>Bf 1 x35 (.fv (.int .i64 0)) fun x40=>k39 x40 h36 [] []) fun x41 h42 _ _=>Ab x14 true h42 (fun k45=>Ae x41 h42 fun x46 r47=>k45 x46 h42 r47 []) fun x48 h49 _ _=>Aaa h49 x14 x48 ih x0 x1 j0_3
def Aa1 (x1:IV) (h2:Hp) (ih:Aa) (x0:IV) (j0_3:Hp→OH):OH :=
 AC x1 fun x10=>Ac 0 x10 fun x11=>Ae x11 h2 fun x12 _=>AZ EE 3 x12 (.fv (.int .i64 5)) fun x14=>Ab x14 true h2 (fun k15=>k15 x1 h2 [] []) fun x16 h17 _ _=>YQ h17 x14 x16 ih x0 x1 j0_3
def S88 (ih:Aa) (n:Nat) (x0 x1:IV) (h2:Hp):OH :=
 (fun (j0_3:Hp→OH)=>AC x0 fun x5=>Ac 2 x5 fun x6=>Ae x6 h2 fun x7 _=>Ig EE 3 x7 (.fv (.int .i64 0)) fun x9=>Aj x9 (An [x1] h2) (Aa1 x1 h2 ih x0 j0_3)) fun h4=>An [x1] h4
theorem Ak2 (ih:Aa) (n:Nat) (x0 x1:IV) (h2:Hp):AD EE ih ft.get n 88 [x0,x1] h2=S88 ih n x0 x1 h2:=by kernel_rfl
def Ad5 (h7:Hp) (x4 x6:IV):OH :=
 Ab x4 true h7 (fun k10=>leS EE 3 x6 (.fv (.int .i64 3000)) fun x11=>k10 x11 h7 [] []) fun x12 h13 _ _=>AF x4 x12 (.fv (.bool false)) fun x16=>An [x16] h13
def AdZ (x1:IV) (h2:Hp):OH :=
 geS EE 3 x1 (.fv (.int .i64 0)) fun x18=>Ab x18 true h2 (fun k19=>k19 x1 h2 [] []) fun x20 h21 _ _=>Ab x18 true h21 (fun k24=>leS EE 3 x20 (.fv (.int .i64 2)) fun x25=>k24 x25 h21 [] []) fun x26 h27 _ _=>AF x18 x26 (.fv (.bool false)) fun x30=>An [x30] h27
def AdF (h35:Hp) (x32 x34:IV):OH :=
 Ab x32 true h35 (fun k38=>leS EE 3 x34 (.fv (.int .i64 4)) fun x39=>k38 x39 h35 [] []) fun x40 h41 _ _=>AF x32 x40 (.fv (.bool false)) fun x44=>An [x44] h41
def Ad6 (x1:IV) (h2:Hp):OH :=
 AZ EE 3 x1 (.fv (.int .i64 0)) fun x46=>An [x46] h2
def Ae7 (x0 x1:IV) (h2:Hp):OH :=
 AZ EE 3 x0 (.fv (.int .i64 26)) fun x31=>Aj x31 (geS EE 3 x1 (.fv (.int .i64 0)) fun x32=>Ab x32 true h2 (fun k33=>k33 x1 h2 [] []) fun x34 h35 _ _=>AdF h35 x32 x34) (AZ EE 3 x0 (.fv (.int .i64 25)) fun x45=>Aj x45 (An [.fv (.bool true)] h2) (Ad6 x1 h2))
def S89 (ih:Aa) (n:Nat) (x0 x1:IV) (h2:Hp):OH :=
 AZ EE 3 x0 (.fv (.int .i64 1)) fun x3=>Aj x3 (geS EE 3 x1 (.fv (.int .i64 0)) fun x4=>Ab x4 true h2 (fun k5=>k5 x1 h2 [] []) fun x6 h7 _ _=>Ad5 h7 x4 x6) (AZ EE 3 x0 (.fv (.int .i64 2)) fun x17=>Aj x17 (AdZ x1 h2) (Ae7 x0 x1 h2))
theorem Aj8 (ih:Aa) (n:Nat) (x0 x1:IV) (h2:Hp):AD EE ih ft.get n 89 [x0,x1] h2=S89 ih n x0 x1 h2:=by kernel_rfl
def Ia (h28:Hp) (x13 x27:IV):OH :=
 Al 3 x13 x27 h28 fun h31 _ _=>AE true 3 x13 h31 fun x34=>An [x34] h31
def Is (x40:IV) (h14:Hp) (x13:IV):OH :=
 Ba EE 3 x40 (.fv (.int .i64 1)) fun x42=>Bw [.fv (.int .i64 0),.fv (.int .i64 0),.nils] [(0,1,.fv (.int .i64 1)),(1,1,x42)] fun x43=>Al 3 x13 x43 h14 fun h44 _ _=>AE true 3 x13 h44 fun x47=>An [x47] h44
def Ik (h50:Hp) (x13:IV):OH :=
 AE true 3 x13 h50 fun x53=>An [x53] h50
def Iz (x36 x1 x5:IV) (h14:Hp) (x13:IV):OH :=
 Kx EE 3 x36 x1 fun x38=>Aj x38 (Ac 1 x5 fun x39=>Ae x39 h14 fun x40 _=>Is x40 h14 x13) (Ai 3 x5 h14 fun x48 _=>Al 3 x13 x48 h14 fun h50 _ _=>Ik h50 x13)
def HG (x22 x1:IV) (h14:Hp) (x9:IV) (ih:Aa) (x2 x13 x5:IV):OH :=
 AZ EE 3 x22 x1 fun x24=>Aj x24 (Ai 3 x9 h14 fun x25 _=>Ak [] false false ih 45 [x25,x2,.fv (.int .i64 0)] h14 fun x27 h28 _ _=>Ia h28 x13 x27) (Ac 1 x5 fun x35=>Ae x35 h14 fun x36 _=>Iz x36 x1 x5 h14 x13)
def Im (x76:IV) (h112:Hp) (x111 x77:IV) (h4:Hp) (x71 x72 x73 x74 x75:IV) (q68:List IV→Hp→OH):OH :=
 Ac 2 x76 fun x115=>Bj x115 x111 h112 fun h116 r117 w118=>Ad [] r117 w118 (Bz EE 3 x77 (.fv (.int .i64 1)) fun x119=>Bs (h4.own.map (·.1)) [94384144] [x71,x72,x73,x74,x75,x76,x119] h116 fun h120=>q68 [x71,x72,x73,x74,x75,x76,x119] h120)
def HH (r105 w106 r92:AH) (h104:Hp) (x103 x91 x76 x77:IV) (h4:Hp) (x71 x72 x73 x74 x75:IV) (q68:List IV→Hp→OH):OH :=
 Ad [(r92,[])] r105 w106 (Aw (Af EE 28 1 [(0,x103)]) 94384143 h104 fun x107 h108 r109 w110=>Ad [(r92,[])] r109 w110 (Aw (AS EE 94384144 false .append [28,28] [x91,x107]) 94384144 h108 fun x111 h112 r113 w114=>Ad [] r113 w114 (Im x76 h112 x111 x77 h4 x71 x72 x73 x74 x75 q68)))
def IB (x71 x86 x72:IV) (h87:Hp) (x74:IV) (r98 r95 r92:AH) (ih:Aa) (x97 x91 x76 x77:IV) (h4:Hp) (x73 x75:IV) (q68:List IV→Hp→OH):OH :=
 Bz EE 3 x71 x86 fun x99=>Bz EE 3 x72 x86 fun x100=>Ai 3 x74 h87 fun x101 r102=>Ad [(r98,[]),(r95,[]),(r92,[])] r102 [] (Ak [] false false ih 90 [x97,x99,x100,x101] h87 fun x103 h104 r105 w106=>HH r105 w106 r92 h104 x103 x91 x76 x77 h4 x71 x72 x73 x74 x75 q68)
def Ie (h87:Hp) (x93:IV) (r92:AH) (x77 x71 x86 x72 x74:IV) (ih:Aa) (x91 x76:IV) (h4:Hp) (x73 x75:IV) (q68:List IV→Hp→OH):OH :=
 Ae x93 h87 fun x94 r95=>Ad [(r92,[])] r95 [] (Bf 3 x94 x77 fun x96=>Ai 3 x96 h87 fun x97 r98=>Ad [(r92,[])] r98 [] (IB x71 x86 x72 h87 x74 r98 r95 r92 ih x97 x91 x76 x77 h4 x73 x75 q68))
def Ip (ih:Aa) (h70:Hp) (x84 x77 x76 x73 x71 x72 x74:IV) (h4:Hp) (x75:IV) (q68:List IV→Hp→OH):OH :=
 Ak [] false false ih 54 [x84,x77] h70 fun x86 h87 _ _=>Ac 2 x76 fun x90=>Ae x90 h87 fun x91 r92=>Ad [] r92 [] (Ac 2 x73 fun x93=>Ie h87 x93 r92 x77 x71 x86 x72 x74 ih x91 x76 h4 x73 x75 q68)
def In (h123:Hp) (x75:IV):OH :=
 AE true 3 x75 h123 fun x126=>An [x126] h123
def HN (x77 x81 x73:IV) (h70:Hp) (ih:Aa) (x76 x71 x72 x74:IV) (h4:Hp) (x75:IV) (q68:List IV→Hp→OH):OH :=
 G6 EE 3 x77 x81 fun x82=>Aj x82 (Ac 0 x73 fun x83=>Ae x83 h70 fun x84 _=>Ip ih h70 x84 x77 x76 x73 x71 x72 x74 h4 x75 q68) (Ai 3 x76 h70 fun x121 _=>Al 3 x75 x121 h70 fun h123 _ _=>In h123 x75)
def HM (l131:List IV) (x73:IV) (h70:Hp) (ih:Aa) (x71 x72 x74:IV) (h4:Hp) (x75:IV) (q68:List IV→Hp→OH):OH :=
 AA l131 fun x76 l132=>AA l132 fun x77 _=>Ac 2 x73 fun x78=>Ae x78 h70 fun x79 _=>Ca x79 fun x81=>HN x77 x81 x73 h70 ih x76 x71 x72 x74 h4 x75 q68
def H8 (l69:List IV) (h70:Hp) (ih:Aa) (h4:Hp) (q68:List IV→Hp→OH):OH :=
 AA l69 fun x71 l127=>AA l127 fun x72 l128=>AA l128 fun x73 l129=>AA l129 fun x74 l130=>AA l130 fun x75 l131=>HM l131 x73 h70 ih x71 x72 x74 h4 x75 q68
def If (h4 h65:Hp) (x1 x2 x5 x9 x13 x61:IV) (n:Nat) (ih:Aa):OH :=
 Bs (h4.own.map (·.1)) [94384144] [x1,x2,x5,x9,x13,x61,.fv (.int .i64 0)] h65 fun h134=>BD n (fun q68 l69 h70=>H8 l69 h70 ih h4 q68) [x1,x2,x5,x9,x13,x61,.fv (.int .i64 0)] h134
def Ij (x5:IV) (h14:Hp) (x55:IV) (h4:Hp) (x1 x2 x9 x13:IV) (n:Nat) (ih:Aa):OH :=
 Ac 1 x5 fun x57=>Ae x57 h14 fun x58 _=>Bw [.fv (.int .i64 0),.fv (.int .i64 0),.nils] [(0,1,x55),(1,1,x58)] fun x60=>AK 94379013 (.row [.fv (.int .i64 0),.fv (.int .i64 0),.nils] false) (.ptr (.own 94379013) 0) h14 fun x61 h62 _ _=>Al 3 x61 x60 h62 fun h65 _ _=>If h4 h65 x1 x2 x5 x9 x13 x61 n ih
def HE (x20 x5:IV) (h14:Hp) (x1 x9:IV) (ih:Aa) (x2 x13:IV) (h4:Hp) (n:Nat):OH :=
 Aj x20 (Ac 1 x5 fun x21=>Ae x21 h14 fun x22 _=>HG x22 x1 h14 x9 ih x2 x13 x5) (Ac 0 x5 fun x54=>Ae x54 h14 fun x55 _=>Ij x5 h14 x55 h4 x1 x2 x9 x13 n ih)
def S90 (ih:Aa) (n:Nat) (x0 x1 x2 x3:IV) (h4:Hp):OH :=
 Bg 94371840 x0 h4 fun x5 h6 _ _=>Bg 94371841 x3 h6 fun x9 h10 _ _=>AK 94371842 (.row [.fv (.int .i64 0),.fv (.int .i64 0),.nils] false) (.ptr (.own 94371842) 0) h10 fun x13 h14 _ _=>Ac 0 x5 fun x17=>Ae x17 h14 fun x18 _=>AZ EE 3 x18 (.fv (.int .i64 1)) fun x20=>HE x20 x5 h14 x1 x9 ih x2 x13 h4 n
theorem AiC (ih:Aa) (n:Nat) (x0 x1 x2 x3:IV) (h4:Hp):AD EE ih ft.get n 90 [x0,x1,x2,x3] h4=S90 ih n x0 x1 x2 x3 h4:=by kernel_rfl
def U9 (x13 x21:IV) (h22:Hp) (x6 x0:IV):OH :=
 AF x13 (.fv (.bool true)) x21 fun x25=>Aj x25 (An [.fv (.int .i64 (-1))] h22) (ixA 31 1 x6 x0 fun x26=>Ae x26 h22 fun x27 _=>An [x27] h22)
def S91 (ih:Aa) (n:Nat) (x0:IV) (h1:Hp):OH :=
 Aw (L0 EE 132 [(0,.fv (.int .i64 (-1))),(1,.fv (.int .i64 0)),(2,.fv (.int .i64 0)),(3,.fv (.int .i64 2)),(4,.fv (.int .i64 2)),(5,.fv (.int .i64 2)),(6,.fv (.int .i64 2)),(7,.fv (.int .i64 3)),(8,.fv (.int .i64 1)),(9,.fv (.int .i64 1)),(10,.fv (.int .i64 0)),(11,.fv (.int .i64 0)),(12,.fv (.int .i64 1)),(13,.fv (.int .i64 4)),(14,.fv (.int .i64 0)),(15,.fv (.int .i64 0)),(16,.fv (.int .i64 2)),(17,.fv (.int .i64 2)),(18,.fv (.int .i64 1)),(19,.fv (.int .i64 1)),(20,.fv (.int .i64 2)),(21,.fv (.int .i64 2)),(22,.fv (.int .i64 2)),(23,.fv (.int .i64 1)),(24,.fv (.int .i64 1)),(25,.fv (.int .i64 0)),(26,.fv (.int .i64 2)),(27,.fv (.int .i64 3)),(28,.fv (.int .i64 2)),(29,.fv (.int .i64 2)),(30,.fv (.int .i64 1))]) 95421440 h1 fun x2 h3 _ _=>AK 95421441 (.row [.fv (.int .i64 0),.fv (.int .i64 0),.fv (.int .i64 0),.fv (.int .i64 0),.fv (.int .i64 0),.fv (.int .i64 0),.fv (.int .i64 0),.fv (.int .i64 0),.fv (.int .i64 0),.fv (.int .i64 0),.fv (.int .i64 0),.fv (.int .i64 0),.fv (.int .i64 0),.fv (.int .i64 0),.fv (.int .i64 0),.fv (.int .i64 0),.fv (.int .i64 0),.fv (.int .i64 0),.fv (.int .i64 0),.fv (.int .i64 0),.fv (.int .i64 0),.fv (.int .i64 0),.fv (.int .i64 0),.fv (.int .i64 0),.fv (.int .i64 0),.fv (.int .i64 0),.fv (.int .i64 0),.fv (.int .i64 0),.fv (.int .i64 0),.fv (.int .i64 0),.fv (.int .i64 0)] false) (.ptr (.own 95421441) 0) h3 fun x6 h7 _ _=>Al 31 x6 x2 h7 fun h10 _ _=>G6 EE 120 x0 (.fv (.int .i64 0)) fun x13=>Ab x13 false h10 (fun k14=>k14 x0 h10 [] []) fun x15 h16 _ _=>Ab x13 false h16 (fun k19=>geS EE 3 x15 (.fv (.int .i64 31)) fun x20=>k19 x20 h16 [] []) fun x21 h22 _ _=>U9 x13 x21 h22 x6 x0
theorem AjX (ih:Aa) (n:Nat) (x0:IV) (h1:Hp):AD EE ih ft.get n 91 [x0] h1=S91 ih n x0 h1:=by kernel_rfl
def AcS (h7:Hp) (x4 x6:IV):OH :=
 Ab x4 true h7 (fun k10=>leS EE 3 x6 (.fv (.int .i64 3000)) fun x11=>k10 x11 h7 [] []) fun x12 h13 _ _=>AF x4 x12 (.fv (.bool false)) fun x16=>An [x16] h13
def AeS (x1:IV) (h2:Hp):OH :=
 geS EE 3 x1 (.fv (.int .i64 0)) fun x18=>Ab x18 true h2 (fun k19=>k19 x1 h2 [] []) fun x20 h21 _ _=>Ab x18 true h21 (fun k24=>leS EE 3 x20 (.fv (.int .i64 2)) fun x25=>k24 x25 h21 [] []) fun x26 h27 _ _=>AF x18 x26 (.fv (.bool false)) fun x30=>An [x30] h27
def Adn (h35:Hp) (x32 x34:IV):OH :=
 Ab x32 true h35 (fun k38=>leS EE 3 x34 (.fv (.int .i64 4)) fun x39=>k38 x39 h35 [] []) fun x40 h41 _ _=>AF x32 x40 (.fv (.bool false)) fun x44=>An [x44] h41
def AcF (x1:IV) (h2:Hp):OH :=
 AZ EE 3 x1 (.fv (.int .i64 0)) fun x46=>An [x46] h2
def AeA (x0 x1:IV) (h2:Hp):OH :=
 AZ EE 3 x0 (.fv (.int .i64 26)) fun x31=>Aj x31 (geS EE 3 x1 (.fv (.int .i64 0)) fun x32=>Ab x32 true h2 (fun k33=>k33 x1 h2 [] []) fun x34 h35 _ _=>Adn h35 x32 x34) (AZ EE 3 x0 (.fv (.int .i64 25)) fun x45=>Aj x45 (An [.fv (.bool true)] h2) (AcF x1 h2))
def S92 (ih:Aa) (n:Nat) (x0 x1:IV) (h2:Hp):OH :=
 AZ EE 3 x0 (.fv (.int .i64 1)) fun x3=>Aj x3 (geS EE 3 x1 (.fv (.int .i64 0)) fun x4=>Ab x4 true h2 (fun k5=>k5 x1 h2 [] []) fun x6 h7 _ _=>AcS h7 x4 x6) (AZ EE 3 x0 (.fv (.int .i64 2)) fun x17=>Aj x17 (AeS x1 h2) (AeA x0 x1 h2))
theorem AjB (ih:Aa) (n:Nat) (x0 x1:IV) (h2:Hp):AD EE ih ft.get n 92 [x0,x1] h2=S92 ih n x0 x1 h2:=by kernel_rfl
def Aec (x0:IV) (h7:Hp):OH :=
 AZ EE 3 x0 (.fv (.int .i64 13)) fun x9=>Aj x9 (An [.fv (.int .i64 4)] h7) (An [.fv (.int .i64 (-1))] h7)
def AfD (x6:IV) (h7:Hp) (x0:IV):OH :=
 Aj x6 (An [.fv (.int .i64 2)] h7) (AZ EE 3 x0 (.fv (.int .i64 7)) fun x8=>Aj x8 (An [.fv (.int .i64 3)] h7) (Aec x0 h7))
def Aeo (x10:IV) (j1_5:IV→Hp→OH) (h4:Hp) (x0:IV):OH :=
 Aj x10 (j1_5 x10 h4) (AZ EE 3 x0 (.fv (.int .i64 5)) fun x11=>j1_5 x11 h4)
def AdJ (x3:IV) (h4:Hp) (x0:IV):OH :=
 Aj x3 (An [.fv (.int .i64 1)] h4) ((fun (j1_5:IV→Hp→OH)=>AZ EE 3 x0 (.fv (.int .i64 4)) fun x10=>Aeo x10 j1_5 h4 x0) fun x6 h7=>AfD x6 h7 x0)
def Aes (x0:IV) (j1_2:IV→Hp→OH) (h1:Hp):OH :=
 AZ EE 3 x0 (.fv (.int .i64 30)) fun x16=>j1_2 x16 h1
def AcB (x0:IV) (j1_2:IV→Hp→OH) (h1:Hp):OH :=
 AZ EE 3 x0 (.fv (.int .i64 12)) fun x14=>Aj x14 (j1_2 x14 h1) (AZ EE 3 x0 (.fv (.int .i64 19)) fun x15=>Aj x15 (j1_2 x15 h1) (Aes x0 j1_2 h1))
def S93 (ih:Aa) (n:Nat) (x0:IV) (h1:Hp):OH :=
 (fun (j1_2:IV→Hp→OH)=>AZ EE 3 x0 (.fv (.int .i64 8)) fun x12=>Aj x12 (j1_2 x12 h1) (AZ EE 3 x0 (.fv (.int .i64 9)) fun x13=>Aj x13 (j1_2 x13 h1) (AcB x0 j1_2 h1))) fun x3 h4=>AdJ x3 h4 x0
theorem AkV (ih:Aa) (n:Nat) (x0:IV) (h1:Hp):AD EE ih ft.get n 93 [x0] h1=S93 ih n x0 h1:=by kernel_rfl
def Ur (ih:Aa) (h23:Hp) (x0 x8 x22:IV):OH :=
 Ak [true,false,false,false] false false ih 103 [x0,x8,.fv (.int .i64 1),x22] h23 fun x26 h27 _ _=>An [x26] h27
def UH (x15:IV) (h2:Hp) (ih:Aa) (x0 x8:IV):OH :=
 Ac 2 x15 fun x16=>Ae x16 h2 fun x17 _=>Bf 1 x17 (.fv (.int .i64 1)) fun x19=>Ae x19 h2 fun x20 _=>Aw (Af EE 127 1 [(0,x20)]) 98569224 h2 fun x22 h23 _ _=>Ur ih h23 x0 x8 x22
def Ug (x10:IV) (h2:Hp) (x1:IV) (ih:Aa) (x0 x8:IV):OH :=
 Ac 0 x10 fun x11=>Ae x11 h2 fun x12 _=>AZ EE 3 x12 (.fv (.int .i64 4)) fun x14=>Aj x14 (AC x1 fun x15=>UH x15 h2 ih x0 x8) (An [.fv .nilp] h2)
def S94 (ih:Aa) (n:Nat) (x0 x1:IV) (h2:Hp):OH :=
 AC x1 fun x3=>Ac 2 x3 fun x4=>Ae x4 h2 fun x5 _=>Bf 1 x5 (.fv (.int .i64 0)) fun x7=>Ae x7 h2 fun x8 _=>AC x8 fun x10=>Ug x10 h2 x1 ih x0 x8
theorem Air (ih:Aa) (n:Nat) (x0 x1:IV) (h2:Hp):AD EE ih ft.get n 94 [x0,x1] h2=S94 ih n x0 x1 h2:=by kernel_rfl
def PJ (x20:IV) (h2:Hp):OH :=
 Ac 2 x20 fun x21=>Ae x21 h2 fun x22 _=>Bf 1 x22 (.fv (.int .i64 1)) fun x24=>Ae x24 h2 fun x25 _=>An [x25] h2
def PK (x27:IV) (h2:Hp):OH :=
 Ac 2 x27 fun x28=>Ae x28 h2 fun x29 _=>Bf 1 x29 (.fv (.int .i64 2)) fun x31=>Ae x31 h2 fun x32 _=>An [x32] h2
def RT (x15:IV) (h2:Hp) (x8:IV):OH :=
 Ac 0 x15 fun x16=>Ae x16 h2 fun x17 _=>AZ EE 3 x17 (.fv (.int .i64 8)) fun x19=>Aj x19 (AC x8 fun x20=>PJ x20 h2) (AC x8 fun x27=>PK x27 h2)
def RK (x10:IV) (h2:Hp) (x1 x8:IV):OH :=
 Ac 0 x10 fun x11=>Ae x11 h2 fun x12 _=>Ig EE 3 x12 (.fv (.int .i64 7)) fun x14=>Aj x14 (An [.fv .nilp] h2) (AC x1 fun x15=>RT x15 h2 x8)
def S95 (ih:Aa) (n:Nat) (x0 x1:IV) (h2:Hp):OH :=
 AC x1 fun x3=>Ac 2 x3 fun x4=>Ae x4 h2 fun x5 _=>Bf 1 x5 (.fv (.int .i64 0)) fun x7=>Ae x7 h2 fun x8 _=>AC x8 fun x10=>RK x10 h2 x1 x8
theorem Akg (ih:Aa) (n:Nat) (x0 x1:IV) (h2:Hp):AD EE ih ft.get n 95 [x0,x1] h2=S95 ih n x0 x1 h2:=by kernel_rfl
def Q4 (x15:IV) (h2:Hp):OH :=
 Ac 2 x15 fun x16=>Ae x16 h2 fun x17 _=>Bf 1 x17 (.fv (.int .i64 1)) fun x19=>Ae x19 h2 fun x20 _=>An [x20] h2
def QQ (h63:Hp) (x60 x62:IV) (ih:Aa) (x0 x1:IV):OH :=
 Aw (Af EE 127 2 [(0,x60),(1,x62)]) 100671498 h63 fun x66 h67 r68 w69=>Ad [] r68 w69 (Ak [true,false,false,false] false false ih 103 [x0,x1,.fv (.int .i64 2),x66] h67 fun x70 h71 r72 w73=>Ad [] r72 w73 (An [x70] h71))
def Pl (x57:IV) (h52:Hp) (ih:Aa) (x0 x26:IV) (r58:AH) (x1:IV):OH :=
 Bf 1 x57 (.fv (.int .i64 0)) fun x59=>Ae x59 h52 fun x60 r61=>Ad [] r61 [] (Ak [true,false] false false ih 102 [x0,x26] h52 fun x62 h63 r64 w65=>Ad [(r61,[]),(r58,[])] r64 w65 (QQ h63 x60 x62 ih x0 x1))
def RG (r53 w54:AH) (x8:IV) (h52:Hp) (ih:Aa) (x0 x26 x1:IV):OH :=
 Ad [] r53 w54 (AC x8 fun x55=>Ac 2 x55 fun x56=>Ae x56 h52 fun x57 r58=>Ad [] r58 [] (Pl x57 h52 ih x0 x26 r58 x1))
def P8 (r46 r39 r36:AH) (h30:Hp) (x38 x45 x26 x8:IV) (ih:Aa) (x0 x1:IV):OH :=
 Ad [(r39,[]),(r36,[])] r46 [] (Aw (Af EE 127 4 [(0,.fv .nilp),(1,x38),(2,.fv .nilp),(3,x45)]) 100670476 h30 fun x47 h48 r49 w50=>Ad [] r49 w50 (Ac 2 x26 fun x51=>Bj x51 x47 h48 fun h52 r53 w54=>RG r53 w54 x8 h52 ih x0 x26 x1))
def PP (x40:IV) (h30:Hp) (r39 r36:AH) (x38 x26 x8:IV) (ih:Aa) (x0 x1:IV):OH :=
 Ac 2 x40 fun x41=>Ae x41 h30 fun x42 r43=>Ad [(r39,[]),(r36,[])] r43 [] (Bf 1 x42 (.fv (.int .i64 0)) fun x44=>Ae x44 h30 fun x45 r46=>P8 r46 r39 r36 h30 x38 x45 x26 x8 ih x0 x1)
def QN (r36:AH) (x35:IV) (h30:Hp) (x8 x26:IV) (ih:Aa) (x0 x1:IV):OH :=
 Ad [] r36 [] (Bf 1 x35 (.fv (.int .i64 1)) fun x37=>Ae x37 h30 fun x38 r39=>Ad [] r39 [] (AC x8 fun x40=>PP x40 h30 r39 r36 x38 x26 x8 ih x0 x1))
def QU (h2:Hp) (x24 x1 x8:IV) (ih:Aa) (x0:IV):OH :=
 AK 100669443 (.row [.fv (.int .i64 0),.fv (.int .i64 0),.nils,.fv (.int .i64 0),.fv (.int .i64 0),.nils,.fv (.nilp)] false) (.ptr (.own 100669443) 0) h2 fun x26 h27 _ _=>Al 7 x26 x24 h27 fun h30 _ _=>AC x1 fun x33=>Ac 2 x33 fun x34=>Ae x34 h30 fun x35 r36=>QN r36 x35 h30 x8 x26 ih x0 x1
def Qx (x22 x1:IV) (h2:Hp) (x8:IV) (ih:Aa) (x0:IV):OH :=
 Aj x22 (AC x1 fun x23=>Ai 7 x23 h2 fun x24 _=>QU h2 x24 x1 x8 ih x0) (An [.fv .nilp] h2)
def R5 (x10:IV) (h2:Hp) (x1 x8:IV) (ih:Aa) (x0:IV):OH :=
 Ac 0 x10 fun x11=>Ae x11 h2 fun x12 _=>AZ EE 3 x12 (.fv (.int .i64 11)) fun x14=>Aj x14 (AC x1 fun x15=>Q4 x15 h2) (AZ EE 3 x12 (.fv (.int .i64 12)) fun x22=>Qx x22 x1 h2 x8 ih x0)
def S96 (ih:Aa) (n:Nat) (x0 x1:IV) (h2:Hp):OH :=
 AC x1 fun x3=>Ac 2 x3 fun x4=>Ae x4 h2 fun x5 _=>Bf 1 x5 (.fv (.int .i64 3)) fun x7=>Ae x7 h2 fun x8 _=>AC x8 fun x10=>R5 x10 h2 x1 x8 ih x0
theorem AjI (ih:Aa) (n:Nat) (x0 x1:IV) (h2:Hp):AD EE ih ft.get n 96 [x0,x1] h2=S96 ih n x0 x1 h2:=by kernel_rfl
def S97 (ih:Aa) (n:Nat) (x0 x1:IV) (h2:Hp):OH :=
 Ak [] false false ih 109 [x1,.fv (.int .i64 19)] h2 fun x3 h4 _ _=>An [x3] h4
theorem Ak5 (ih:Aa) (n:Nat) (x0 x1:IV) (h2:Hp):AD EE ih ft.get n 97 [x0,x1] h2=S97 ih n x0 x1 h2:=by kernel_rfl
def S98 (ih:Aa) (n:Nat) (x0 x1:IV) (h2:Hp):OH :=
 Ak [] false false ih 109 [x1,.fv (.int .i64 30)] h2 fun x3 h4 _ _=>An [x3] h4
theorem AjH (ih:Aa) (n:Nat) (x0 x1:IV) (h2:Hp):AD EE ih ft.get n 98 [x0,x1] h2=S98 ih n x0 x1 h2:=by kernel_rfl
def Qk (h44:Hp) (x49:IV):OH :=
 Bj x49 (.fv (.int .i64 17)) h44 fun h50 _ _=>An [] h50
def RS (x16 x43 x0:IV) (h44:Hp):OH :=
 AF x16 x43 (.fv (.bool false)) fun x47=>Aj x47 (AC x0 fun x48=>Ac 3 x48 fun x49=>Qk h44 x49) (An [] h44)
def Rl (h9:Hp) (x16 x0:IV):OH :=
 Ab x16 true h9 (fun k17=>k17 x0 h9 [] []) fun x18 h19 _ _=>Ab x16 true h19 (fun k22=>AC x18 fun x23=>k22 x23 h19 [] []) fun x24 h25 _ _=>Ab x16 true h25 (fun k28=>Ac 3 x24 fun x29=>k28 x29 h25 [] []) fun x30 h31 _ _=>Ab x16 true h31 (fun k34=>Ae x30 h31 fun x35 r36=>k34 x35 h31 r36 []) fun x37 h38 _ _=>Ab x16 true h38 (fun k41=>AZ EE 36 x37 (.fv (.int .i64 0)) fun x42=>k41 x42 h38 [] []) fun x43 h44 _ _=>RS x16 x43 x0 h44
def Qd (h1:Hp) (x8 x6 x0:IV):OH :=
 Bj x8 x6 h1 fun h9 _ _=>AC x0 fun x12=>Ac 1 x12 fun x13=>Ae x13 h9 fun x14 _=>G6 EE 3 x14 (.fv (.int .i64 0)) fun x16=>Rl h9 x16 x0
def S99 (ih:Aa) (n:Nat) (x0:IV) (h1:Hp):OH :=
 AC x0 fun x2=>Ac 1 x2 fun x3=>Ae x3 h1 fun x4 _=>Ba EE 3 x4 (.fv (.int .i64 1)) fun x6=>AC x0 fun x7=>Ac 1 x7 fun x8=>Qd h1 x8 x6 x0
theorem AiI (ih:Aa) (n:Nat) (x0:IV) (h1:Hp):AD EE ih ft.get n 99 [x0] h1=S99 ih n x0 h1:=by kernel_rfl
def LF (h5:Hp) (x11:IV):OH :=
 Ae x11 h5 fun x12 _=>An [x12] h5
def L1 (x15:IV) (h5:Hp) (q3:List IV→Hp→OH) (x14:IV):OH :=
 Ac 1 x15 fun x16=>Ae x16 h5 fun x17 _=>q3 [x17,x14] h5
def LK (x9 x6:IV) (h5:Hp) (x7:IV) (q3:List IV→Hp→OH):OH :=
 Aj x9 (AC x6 fun x10=>Ac 0 x10 fun x11=>LF h5 x11) (Ba EE 3 x7 (.fv (.int .i64 1)) fun x14=>AC x6 fun x15=>L1 x15 h5 q3 x14)
def Lr (x19:IV) (h5:Hp):OH :=
 Bw [.fv (.int .i64 0),.fv (.int .i64 0),.nils,.fv (.int .i64 0),.fv (.int .i64 0),.nils,.fv (.nilp)] [(0,1,.fv (.int .i64 1)),(1,1,x19)] fun x20=>Bg 104863747 x20 h5 fun x21 h22 _ _=>An [x21] h22
def Jh (l4:List IV) (h5:Hp) (q3:List IV→Hp→OH):OH :=
 AA l4 fun x6 l25=>AA l25 fun x7 _=>Ig EE 125 x6 (.fv .nilp) fun x8=>Aj x8 (AZ EE 3 x7 (.fv (.int .i64 0)) fun x9=>LK x9 x6 h5 x7 q3) (Ba EE 3 (.fv (.int .i64 (-1))) x7 fun x19=>Lr x19 h5)
def Vi (ih:Aa) (n:Nat) (x0 x1:IV) (h2:Hp):OH :=
 BD n (fun q3 l4 h5=>Jh l4 h5 q3) [x0,x1] h2
theorem Ahl (ih:Aa) (n:Nat) (x0 x1:IV) (h2:Hp):AD EE ih ft.get n 100 [x0,x1] h2=Vi ih n x0 x1 h2:=by kernel_rfl
def Aft (ih:Aa) (n:Nat) (x0 x1:IV) (h2:Hp):OH :=
 Fh EE ih (.fv (.func (.func 110) [] [])) [x0,x1] h2 fun x3 h4 _ _=>An [x3] h4
theorem AgU (ih:Aa) (n:Nat) (x0 x1:IV) (h2:Hp):AD EE ih ft.get n 101 [x0,x1] h2=Aft ih n x0 x1 h2:=by kernel_rfl
def Tk (h113:Hp) (x122:IV) (j0_104:Hp→OH):OH :=
 Bj x122 (.fv (.int .i64 17)) h113 fun h123 _ _=>j0_104 h123
def TC (x120 x0:IV) (h113:Hp) (j0_104:Hp→OH):OH :=
 Aj x120 (AC x0 fun x121=>Ac 3 x121 fun x122=>Tk h113 x122 j0_104) (j0_104 h113)
def Sv (h100:Hp) (x112 x110 x0:IV) (j0_104:Hp→OH):OH :=
 Bj x112 x110 h100 fun h113 _ _=>AC x0 fun x116=>Ac 0 x116 fun x117=>Ae x117 h113 fun x118 _=>G6 EE 3 x118 (.fv (.int .i64 0)) fun x120=>TC x120 x0 h113 j0_104
def S7 (x106:IV) (h100:Hp) (x0:IV) (j0_104:Hp→OH):OH :=
 Ac 0 x106 fun x107=>Ae x107 h100 fun x108 _=>Ba EE 3 x108 (.fv (.int .i64 1)) fun x110=>AC x0 fun x111=>Ac 0 x111 fun x112=>Sv h100 x112 x110 x0 j0_104
def Ti (x103:IV) (h100:Hp) (x1 x68 x0:IV):OH :=
 Aj x103 (An [x1] h100) ((fun (j0_104:Hp→OH)=>AC x0 fun x106=>S7 x106 h100 x0 j0_104) fun h105=>An [x68] h105)
def TR (h75:Hp) (x72 x74 x1 x68 x0:IV):OH :=
 Ab x72 false h75 (fun k78=>AC x74 fun x79=>k78 x79 h75 [] []) fun x80 h81 _ _=>Ab x72 false h81 (fun k84=>Ac 3 x80 fun x85=>k84 x85 h81 [] []) fun x86 h87 _ _=>Ab x72 false h87 (fun k90=>Ae x86 h87 fun x91 r92=>k90 x91 h87 r92 []) fun x93 h94 _ _=>Ab x72 false h94 (fun k97=>Ig EE 36 x93 (.fv (.int .i64 0)) fun x98=>k97 x98 h94 [] []) fun x99 h100 _ _=>AF x72 (.fv (.bool true)) x99 fun x103=>Ti x103 h100 x1 x68 x0
def S5 (x17:IV) (h57:Hp) (ih:Aa) (x1 x0:IV):OH :=
 Ac 0 x17 fun x65=>Ae x65 h57 fun x66 _=>Fh EE ih x66 [x1] h57 fun x68 h69 _ _=>AZ EE 96 x68 (.fv .nilp) fun x72=>Ab x72 false h69 (fun k73=>k73 x0 h69 [] []) fun x74 h75 _ _=>TR h75 x72 x74 x1 x68 x0
def TE (x0:IV) (h57:Hp) (x1 x17:IV) (ih:Aa):OH :=
 AC x0 fun x60=>Ac 3 x60 fun x61=>Ae x61 h57 fun x62 _=>Ig EE 36 x62 (.fv (.int .i64 0)) fun x64=>Aj x64 (An [x1] h57) (S5 x17 h57 ih x1 x0)
def SL (h46:Hp) (x24 x45 x1:IV) (ih:Aa) (x0 x17:IV):OH :=
 Ab x24 false h46 (fun k49=>Ig EE 36 x45 (.fv (.int .i64 0)) fun x50=>k49 x50 h46 [] []) fun x51 h52 _ _=>AF x24 (.fv (.bool true)) x51 fun x55=>Aj x55 (An [x1] h52) (Ak [true] false false ih 99 [x0] h52 fun _ h57 _ _=>TE x0 h57 x1 x17 ih)
def SX (x16:IV) (h21:Hp) (x0 x1:IV) (ih:Aa) (x17:IV):OH :=
 DP (N8 .not x16) fun x24=>Ab x24 false h21 (fun k25=>k25 x0 h21 [] []) fun x26 h27 _ _=>Ab x24 false h27 (fun k30=>AC x26 fun x31=>k30 x31 h27 [] []) fun x32 h33 _ _=>Ab x24 false h33 (fun k36=>Ac 3 x32 fun x37=>k36 x37 h33 [] []) fun x38 h39 _ _=>Ab x24 false h39 (fun k42=>Ae x38 h39 fun x43 r44=>k42 x43 h39 r44 []) fun x45 h46 _ _=>SL h46 x24 x45 x1 ih x0 x17
def Tv (x11:IV) (h12:Hp) (r13 w14 r10 r6:AH) (x15 x0 x1:IV) (ih:Aa):OH :=
 AN 1 x11 fun x16=>AK 106955788 (.row [.fv (.nilf)] false) (.ptr (.own 106955788) 0) h12 fun x17 h18 r19 w20=>Ad [(r13,w14),(r10,[]),(r6,[])] r19 w20 (Bj x17 x15 h18 fun h21 r22 w23=>Ad [] r22 w23 (SX x16 h21 x0 x1 ih x17))
def T6 (h2:Hp) (x8:IV) (r6:AH) (x5 x0 x1:IV) (ih:Aa):OH :=
 Ae x8 h2 fun x9 r10=>Ad [(r6,[])] r10 [] (Aw (Gs EE 98 x5 x9 true) 106955784 h2 fun x11 h12 r13 w14=>Ad [] r13 w14 (AN 0 x11 fun x15=>Tv x11 h12 r13 w14 r10 r6 x15 x0 x1 ih))
def S102 (ih:Aa) (n:Nat) (x0 x1:IV) (h2:Hp):OH :=
 AC x0 fun x3=>Ac 4 x3 fun x4=>Ae x4 h2 fun x5 r6=>Ad [] r6 [] (AC x1 fun x7=>Ac 0 x7 fun x8=>T6 h2 x8 r6 x5 x0 x1 ih)
theorem Agh (ih:Aa) (n:Nat) (x0 x1:IV) (h2:Hp):AD EE ih ft.get n 102 [x0,x1] h2=S102 ih n x0 x1 h2:=by kernel_rfl
def AaA (x16 x2:IV) (h10:Hp) (r11 w12 r8:AH) (ih:Aa) (x0 x9:IV):OH :=
 Bf 3 x16 x2 fun x18=>Ai 3 x18 h10 fun x19 r20=>Ad [(r11,w12),(r8,[])] r20 [] (Ak [true,false,false] false false ih 71 [x0,x9,x19] h10 fun x21 h22 r23 w24=>Ad [] r23 w24 (An [x21] h22))
def Zn (x1:IV) (h10:Hp) (r11 w12 r8:AH) (x2:IV) (ih:Aa) (x0 x9:IV):OH :=
 AC x1 fun x13=>Ac 3 x13 fun x14=>Ac 2 x14 fun x15=>Ae x15 h10 fun x16 r17=>Ad [(r11,w12),(r8,[])] r17 [] (AaA x16 x2 h10 r11 w12 r8 ih x0 x9)
def AcT (ih:Aa) (n:Nat) (x0 x1 x2 x3:IV) (h4:Hp):OH :=
 AC x1 fun x5=>Ac 6 x5 fun x6=>Ae x6 h4 fun x7 r8=>Ad [] r8 [] (Ak [] false false ih 111 [x7,x3] h4 fun x9 h10 r11 w12=>Ad [] r11 w12 (Zn x1 h10 r11 w12 r8 x2 ih x0 x9))
theorem Agv (ih:Aa) (n:Nat) (x0 x1 x2 x3:IV) (h4:Hp):AD EE ih ft.get n 103 [x0,x1,x2,x3] h4=AcT ih n x0 x1 x2 x3 h4:=by kernel_rfl
def Jj (ih:Aa) (h6:Hp) (x8 x13 x10:IV) (q4:List IV→Hp→OH) (x7 x9:IV):OH :=
 Fh EE ih x8 [x13] h6 fun x15 h16 _ _=>Aj x15 (An [x10] h16) (Bz EE 3 x10 (.fv (.int .i64 1)) fun x19=>q4 [x7,x8,x9,x19] h16)
def J9 (x11 x7 x10:IV) (h6:Hp) (ih:Aa) (x8:IV) (q4:List IV→Hp→OH) (x9:IV):OH :=
 Aj x11 (Bf 3 x7 x10 fun x12=>Ai 3 x12 h6 fun x13 _=>Jj ih h6 x8 x13 x10 q4 x7 x9) (An [.fv (.int .i64 (-1))] h6)
def LP (l5:List IV) (h6:Hp) (ih:Aa) (q4:List IV→Hp→OH):OH :=
 AA l5 fun x7 l20=>AA l20 fun x8 l21=>AA l21 fun x9 l22=>AA l22 fun x10 _=>G6 EE 3 x10 x9 fun x11=>J9 x11 x7 x10 h6 ih x8 q4 x9
def Sw (ih:Aa) (n:Nat) (x0 x1:IV) (h2:Hp):OH :=
 Ca x0 fun x3=>BD n (fun q4 l5 h6=>LP l5 h6 ih q4) [x0,x1,x3,.fv (.int .i64 0)] h2
theorem Aht (ih:Aa) (n:Nat) (x0 x1:IV) (h2:Hp):AD EE ih ft.get n 104 [x0,x1] h2=Sw ih n x0 x1 h2:=by kernel_rfl
def Ir (h4:Hp) (x11 x1:IV):OH :=
 Ae x11 h4 fun x12 _=>AZ EE 3 x12 x1 fun x14=>An [x14] h4
def HX (x18 x35:IV) (ih:Aa) (h36:Hp) (x30 x20:IV) (q15:List IV→Hp→OH) (x19:IV):OH :=
 Bz EE 3 x18 x35 fun x39=>Ak [] false false ih 107 [x30,x39] h36 fun x40 h41 r42 w43=>Ad [] r42 w43 (Aj x40 (An [.fv (.bool true)] h41) (Bz EE 3 x20 (.fv (.int .i64 1)) fun x44=>q15 [x18,x19,x44] h41))
def HD (x19:IV) (h17:Hp) (r31 r28:AH) (ih:Aa) (x20 x18 x30:IV) (q15:List IV→Hp→OH):OH :=
 Ac 0 x19 fun x32=>Ae x32 h17 fun x33 r34=>Ad [(r31,[]),(r28,[])] r34 [] (Ak [] false false ih 54 [x33,x20] h17 fun x35 h36 r37 w38=>Ad [(r31,[]),(r28,[])] r37 w38 (HX x18 x35 ih h36 x30 x20 q15 x19))
def HO (h17:Hp) (x26 x20 x19:IV) (ih:Aa) (x18:IV) (q15:List IV→Hp→OH):OH :=
 Ae x26 h17 fun x27 r28=>Ad [] r28 [] (Bf 3 x27 x20 fun x29=>Ai 3 x29 h17 fun x30 r31=>Ad [] r31 [] (HD x19 h17 r31 r28 ih x20 x18 x30 q15))
def IF (x22 x20 x19:IV) (h17:Hp) (ih:Aa) (x18:IV) (q15:List IV→Hp→OH):OH :=
 Ca x22 fun x24=>G6 EE 3 x20 x24 fun x25=>Aj x25 (Ac 2 x19 fun x26=>HO h17 x26 x20 x19 ih x18 q15) (An [.fv (.bool false)] h17)
def Ly (l16:List IV) (h17:Hp) (ih:Aa) (q15:List IV→Hp→OH):OH :=
 AA l16 fun x18 l45=>AA l45 fun x19 l46=>AA l46 fun x20 _=>Ac 2 x19 fun x21=>Ae x21 h17 fun x22 _=>IF x22 x20 x19 h17 ih x18 q15
def PU (ih:Aa) (n:Nat) (x0 x1:IV) (h2:Hp):OH :=
 Bg 112197632 x0 h2 fun x3 h4 _ _=>Ac 0 x3 fun x7=>Ae x7 h4 fun x8 _=>AZ EE 3 x8 (.fv (.int .i64 1)) fun x10=>Aj x10 (Ac 1 x3 fun x11=>Ir h4 x11 x1) (BD n (fun q15 l16 h17=>Ly l16 h17 ih q15) [x1,x3,.fv (.int .i64 0)] h4)
theorem AgC (ih:Aa) (n:Nat) (x0 x1:IV) (h2:Hp):AD EE ih ft.get n 107 [x0,x1] h2=PU ih n x0 x1 h2:=by kernel_rfl
def RJ (x0:IV) (h13:Hp):OH :=
 AC x0 fun x14=>Ac 2 x14 fun x15=>Ae x15 h13 fun x16 _=>AZ EE 3 x16 (.fv (.int .i64 0)) fun x18=>An [x18] h13
def Pt (h9:Hp) (x25:IV) (j0_12:Hp→OH):OH :=
 Bj x25 (.fv (.int .i64 17)) h9 fun h26 _ _=>j0_12 h26
def RB (x21 x0:IV) (h9:Hp) (j0_12:Hp→OH):OH :=
 Kx EE 3 x21 (.fv (.int .i64 1000)) fun x23=>Aj x23 (AC x0 fun x24=>Ac 2 x24 fun x25=>Pt h9 x25 j0_12) (j0_12 h9)
def Rz (h1:Hp) (x8 x6 x0:IV):OH :=
 Bj x8 x6 h1 fun h9 _ _=>(fun (j0_12:Hp→OH)=>AC x0 fun x19=>Ac 0 x19 fun x20=>Ae x20 h9 fun x21 _=>RB x21 x0 h9 j0_12) fun h13=>RJ x0 h13
def AbS (ih:Aa) (n:Nat) (x0:IV) (h1:Hp):OH :=
 AC x0 fun x2=>Ac 0 x2 fun x3=>Ae x3 h1 fun x4 _=>Bz EE 3 x4 (.fv (.int .i64 1)) fun x6=>AC x0 fun x7=>Ac 0 x7 fun x8=>Rz h1 x8 x6 x0
theorem AfQ (ih:Aa) (n:Nat) (x0:IV) (h1:Hp):AD EE ih ft.get n 108 [x0] h1=AbS ih n x0 h1:=by kernel_rfl
def Pj (x22:IV) (h2:Hp):OH :=
 Ac 2 x22 fun x23=>Ae x23 h2 fun x24 _=>Bf 1 x24 (.fv (.int .i64 0)) fun x26=>Ae x26 h2 fun x27 _=>An [x27] h2
def Qg (x15:IV) (h2:Hp):OH :=
 Ac 2 x15 fun x16=>Ae x16 h2 fun x17 _=>Bf 1 x17 (.fv (.int .i64 0)) fun x19=>Ae x19 h2 fun x20 _=>AC x20 fun x22=>Pj x22 h2
def PI (x10:IV) (h2:Hp) (x1 x0:IV):OH :=
 Ac 0 x10 fun x11=>Ae x11 h2 fun x12 _=>Ig EE 3 x12 x1 fun x14=>Aj x14 (An [.fv .nilp] h2) (AC x0 fun x15=>Qg x15 h2)
def Ab9 (ih:Aa) (n:Nat) (x0 x1:IV) (h2:Hp):OH :=
 AC x0 fun x3=>Ac 2 x3 fun x4=>Ae x4 h2 fun x5 _=>Bf 1 x5 (.fv (.int .i64 0)) fun x7=>Ae x7 h2 fun x8 _=>AC x8 fun x10=>PI x10 h2 x1 x0
theorem AfR (ih:Aa) (n:Nat) (x0 x1:IV) (h2:Hp):AD EE ih ft.get n 109 [x0,x1] h2=Ab9 ih n x0 x1 h2:=by kernel_rfl
def Zv (x1:IV) (h7:Hp) (j0_3:Hp→OH):OH :=
 AZ EE 3 x1 (.fv (.int .i64 0)) fun x10=>Aj x10 (An [.fv (.int .i64 1)] h7) (AZ EE 3 x1 (.fv (.int .i64 2)) fun x11=>Aj x11 (An [.fv (.int .i64 2)] h7) (j0_3 h7))
def Aal (x6 x1:IV) (h7:Hp) (j0_3:Hp→OH) (x0:IV):OH :=
 Aj x6 (AZ EE 3 x1 (.fv (.int .i64 1)) fun x8=>Aj x8 (An [.fv (.int .i64 1)] h7) (j0_3 h7)) (AZ EE 3 x0 (.fv (.int .i64 13)) fun x9=>Aj x9 (Zv x1 h7 j0_3) (j0_3 h7))
def YN (x0:IV) (j1_5:IV→Hp→OH) (h2:Hp):OH :=
 AZ EE 3 x0 (.fv (.int .i64 29)) fun x17=>j1_5 x17 h2
def Abs (x0:IV) (j1_5:IV→Hp→OH) (h2:Hp):OH :=
 AZ EE 3 x0 (.fv (.int .i64 20)) fun x15=>Aj x15 (j1_5 x15 h2) (AZ EE 3 x0 (.fv (.int .i64 28)) fun x16=>Aj x16 (j1_5 x16 h2) (YN x0 j1_5 h2))
def AaU (x13:IV) (j1_5:IV→Hp→OH) (h2:Hp) (x0:IV):OH :=
 Aj x13 (j1_5 x13 h2) (AZ EE 3 x0 (.fv (.int .i64 6)) fun x14=>Aj x14 (j1_5 x14 h2) (Abs x0 j1_5 h2))
def S110 (ih:Aa) (n:Nat) (x0 x1:IV) (h2:Hp):OH :=
 (fun (j0_3:Hp→OH)=>(fun (j1_5:IV→Hp→OH)=>AZ EE 3 x0 (.fv (.int .i64 3)) fun x12=>Aj x12 (j1_5 x12 h2) (AZ EE 3 x0 (.fv (.int .i64 4)) fun x13=>AaU x13 j1_5 h2 x0)) fun x6 h7=>Aal x6 x1 h7 j0_3 x0) fun h4=>An [.fv (.int .i64 0)] h4
theorem Af7 (ih:Aa) (n:Nat) (x0 x1:IV) (h2:Hp):AD EE ih ft.get n 110 [x0,x1] h2=S110 ih n x0 x1 h2:=by kernel_rfl
def L5 (x13 x7:IV) (h6:Hp) (x10:IV) (h2:Hp) (x8 x9:IV) (q4:List IV→Hp→OH):OH :=
 Bw [.fv (.nilp),.fv (.nilp)] [(0,1,x13),(1,1,x7)] fun x15=>fzS (Jy true 116396035 x15) 116396035 x15 h6 fun x16 h17 _ _=>Bz EE 3 x10 (.fv (.int .i64 1)) fun x20=>Bs (h2.own.map (·.1)) [116396035] [x16,x8,x9,x20] h17 fun h21=>q4 [x16,x8,x9,x20] h21
def Lx (x11 x8 x10:IV) (h6:Hp) (x7:IV) (h2:Hp) (x9:IV) (q4:List IV→Hp→OH):OH :=
 Aj x11 (Bf 1 x8 x10 fun x12=>Ae x12 h6 fun x13 _=>L5 x13 x7 h6 x10 h2 x8 x9 q4) (An [x7] h6)
def QG (l5:List IV) (h6 h2:Hp) (q4:List IV→Hp→OH):OH :=
 AA l5 fun x7 l22=>AA l22 fun x8 l23=>AA l23 fun x9 l24=>AA l24 fun x10 _=>G6 EE 3 x10 x9 fun x11=>Lx x11 x8 x10 h6 x7 h2 x9 q4
def T9 (ih:Aa) (n:Nat) (x0 x1:IV) (h2:Hp):OH :=
 Ca x1 fun x3=>Bs (h2.own.map (·.1)) [116396035] [x0,x1,x3,.fv (.int .i64 0)] h2 fun h26=>BD n (fun q4 l5 h6=>QG l5 h6 h2 q4) [x0,x1,x3,.fv (.int .i64 0)] h26
theorem Ag0 (ih:Aa) (n:Nat) (x0 x1:IV) (h2:Hp):AD EE ih ft.get n 111 [x0,x1] h2=T9 ih n x0 x1 h2:=by kernel_rfl
end
noncomputable section
def dt:DT :=
 .node 64 (.node 38 (.node 24 (.node 16 (.node 12 (.node 11 (.leaf 9 (fun ih n=>OP (S9 ih n)))
 (.leaf 11 (fun ih n=>ar0 (S11 ih n))))
 (.node 15 (.leaf 12 (fun ih n=>GE (S12 ih n)))
 (.leaf 15 (fun ih n=>GE (S15 ih n)))))
 (.node 18 (.node 17 (.leaf 16 (fun ih n=>GE (S16 ih n)))
 (.leaf 17 (fun ih n=>DL (S17 ih n))))
 (.node 23 (.leaf 18 (fun ih n=>GE (S18 ih n)))
 (.leaf 23 (fun ih n=>DL (S23 ih n))))))
 (.node 28 (.node 26 (.node 25 (.leaf 24 (fun ih n=>DL (S24 ih n)))
 (.leaf 25 (fun ih n=>GE (S25 ih n))))
 (.node 27 (.leaf 26 (fun ih n=>GE (S26 ih n)))
 (.leaf 27 (fun ih n=>GE (S27 ih n)))))
 (.node 34 (.node 33 (.leaf 28 (fun ih n=>DL (S28 ih n)))
 (.leaf 33 (fun ih n=>N9 (S33 ih n))))
 (.node 35 (.leaf 34 (fun ih n=>GE (S34 ih n)))
 (.node 36 (.leaf 35 (fun ih n=>GE (S35 ih n)))
 (.leaf 36 (fun ih n=>DL (S36 ih n))))))))
 (.node 54 (.node 42 (.node 40 (.node 39 (.leaf 38 (fun ih n=>OP (S38 ih n)))
 (.leaf 39 (fun ih n=>N9 (S39 ih n))))
 (.node 41 (.leaf 40 (fun ih n=>GE (S40 ih n)))
 (.leaf 41 (fun ih n=>GE (S41 ih n)))))
 (.node 47 (.node 45 (.leaf 42 (fun ih n=>DL (S42 ih n)))
 (.leaf 45 (fun ih n=>OP (S45 ih n))))
 (.node 52 (.leaf 47 (fun ih n=>GE (S47 ih n)))
 (.leaf 52 (fun ih n=>GE (S52 ih n))))))
 (.node 59 (.node 56 (.node 55 (.leaf 54 (fun ih n=>DL (S54 ih n)))
 (.leaf 55 (fun ih n=>DL (S55 ih n))))
 (.node 58 (.leaf 56 (fun ih n=>DL (S56 ih n)))
 (.leaf 58 (fun ih n=>N9 (S58 ih n)))))
 (.node 61 (.node 60 (.leaf 59 (fun ih n=>N9 (S59 ih n)))
 (.leaf 60 (fun ih n=>OP (S60 ih n))))
 (.node 62 (.leaf 61 (fun ih n=>N9 (S61 ih n)))
 (.node 63 (.leaf 62 (fun ih n=>OP (S62 ih n)))
 (.leaf 63 (fun ih n=>OP (S63 ih n)))))))))
 (.node 92 (.node 72 (.node 68 (.node 66 (.node 65 (.leaf 64 (fun ih n=>ar0 (S64 ih n)))
 (.leaf 65 (fun ih n=>N9 (S65 ih n))))
 (.node 67 (.leaf 66 (fun ih n=>N9 (S66 ih n)))
 (.leaf 67 (fun ih n=>OP (S67 ih n)))))
 (.node 70 (.node 69 (.leaf 68 (fun ih n=>OP (S68 ih n)))
 (.leaf 69 (fun ih n=>GE (S69 ih n))))
 (.node 71 (.leaf 70 (fun ih n=>ar0 (S70 ih n)))
 (.leaf 71 (fun ih n=>OP (S71 ih n))))))
 (.node 87 (.node 74 (.node 73 (.leaf 72 (fun ih n=>N9 (S72 ih n)))
 (.leaf 73 (fun ih n=>DL (S73 ih n))))
 (.node 86 (.leaf 74 (fun ih n=>DL (S74 ih n)))
 (.leaf 86 (fun ih n=>GE (S86 ih n)))))
 (.node 89 (.node 88 (.leaf 87 (fun ih n=>DL (S87 ih n)))
 (.leaf 88 (fun ih n=>DL (S88 ih n))))
 (.node 90 (.leaf 89 (fun ih n=>DL (S89 ih n)))
 (.node 91 (.leaf 90 (fun ih n=>N9 (S90 ih n)))
 (.leaf 91 (fun ih n=>GE (S91 ih n))))))))
 (.node 101 (.node 96 (.node 94 (.node 93 (.leaf 92 (fun ih n=>DL (S92 ih n)))
 (.leaf 93 (fun ih n=>GE (S93 ih n))))
 (.node 95 (.leaf 94 (fun ih n=>DL (S94 ih n)))
 (.leaf 95 (fun ih n=>DL (S95 ih n)))))
 (.node 98 (.node 97 (.leaf 96 (fun ih n=>DL (S96 ih n)))
 (.leaf 97 (fun ih n=>DL (S97 ih n))))
 (.node 99 (.leaf 98 (fun ih n=>DL (S98 ih n)))
 (.node 100 (.leaf 99 (fun ih n=>GE (S99 ih n)))
 (.leaf 100 (fun ih n=>DL (Vi ih n)))))))
 (.node 107 (.node 103 (.node 102 (.leaf 101 (fun ih n=>DL (Aft ih n)))
 (.leaf 102 (fun ih n=>DL (S102 ih n))))
 (.node 104 (.leaf 103 (fun ih n=>N9 (AcT ih n)))
 (.leaf 104 (fun ih n=>DL (Sw ih n)))))
 (.node 109 (.node 108 (.leaf 107 (fun ih n=>DL (PU ih n)))
 (.leaf 108 (fun ih n=>GE (AbS ih n))))
 (.node 110 (.leaf 109 (fun ih n=>DL (Ab9 ih n)))
 (.node 111 (.leaf 110 (fun ih n=>DL (S110 ih n)))
 (.leaf 111 (fun ih n=>DL (T9 ih n)))))))))
theorem AlW:dt.Ok EE ft.get :=
 ⟨⟨⟨⟨⟨⟨(fun ih n _ _ _ e=>GY (F:=AD EE ih ft.get n 9) (AlR ih n) e),
 (fun ih n _ _ _ e=>Vo (F:=AD EE ih ft.get n 11) (AiA ih n) e)⟩,
 ⟨(fun ih n _ _ _ e=>Cb (F:=AD EE ih ft.get n 12) (AkC ih n) e),
 (fun ih n _ _ _ e=>Cb (F:=AD EE ih ft.get n 15) (Ai8 ih n) e)⟩⟩,
 ⟨⟨(fun ih n _ _ _ e=>Cb (F:=AD EE ih ft.get n 16) (Akm ih n) e),
 (fun ih n _ _ _ e=>Bo (F:=AD EE ih ft.get n 17) (AjU ih n) e)⟩,
 ⟨(fun ih n _ _ _ e=>Cb (F:=AD EE ih ft.get n 18) (Aj1 ih n) e),
 (fun ih n _ _ _ e=>Bo (F:=AD EE ih ft.get n 23) (Ako ih n) e)⟩⟩⟩,
 ⟨⟨⟨(fun ih n _ _ _ e=>Bo (F:=AD EE ih ft.get n 24) (AiF ih n) e),
 (fun ih n _ _ _ e=>Cb (F:=AD EE ih ft.get n 25) (AiP ih n) e)⟩,
 ⟨(fun ih n _ _ _ e=>Cb (F:=AD EE ih ft.get n 26) (AkA ih n) e),
 (fun ih n _ _ _ e=>Cb (F:=AD EE ih ft.get n 27) (AkH ih n) e)⟩⟩,
 ⟨⟨(fun ih n _ _ _ e=>Bo (F:=AD EE ih ft.get n 28) (Aiz ih n) e),
 (fun ih n _ _ _ e=>Gd (F:=AD EE ih ft.get n 33) (AkQ ih n) e)⟩,
 ⟨(fun ih n _ _ _ e=>Cb (F:=AD EE ih ft.get n 34) (AjV ih n) e),
 ⟨(fun ih n _ _ _ e=>Cb (F:=AD EE ih ft.get n 35) (Ajz ih n) e),
 (fun ih n _ _ _ e=>Bo (F:=AD EE ih ft.get n 36) (Alh ih n) e)⟩⟩⟩⟩⟩,
 ⟨⟨⟨⟨(fun ih n _ _ _ e=>GY (F:=AD EE ih ft.get n 38) (Aj0 ih n) e),
 (fun ih n _ _ _ e=>Gd (F:=AD EE ih ft.get n 39) (Ajj ih n) e)⟩,
 ⟨(fun ih n _ _ _ e=>Cb (F:=AD EE ih ft.get n 40) (AjD ih n) e),
 (fun ih n _ _ _ e=>Cb (F:=AD EE ih ft.get n 41) (Ajt ih n) e)⟩⟩,
 ⟨⟨(fun ih n _ _ _ e=>Bo (F:=AD EE ih ft.get n 42) (Alg ih n) e),
 (fun ih n _ _ _ e=>GY (F:=AD EE ih ft.get n 45) (Ajd ih n) e)⟩,
 ⟨(fun ih n _ _ _ e=>Cb (F:=AD EE ih ft.get n 47) (Akw ih n) e),
 (fun ih n _ _ _ e=>Cb (F:=AD EE ih ft.get n 52) (Aiu ih n) e)⟩⟩⟩,
 ⟨⟨⟨(fun ih n _ _ _ e=>Bo (F:=AD EE ih ft.get n 54) (AiK ih n) e),
 (fun ih n _ _ _ e=>Bo (F:=AD EE ih ft.get n 55) (AiY ih n) e)⟩,
 ⟨(fun ih n _ _ _ e=>Bo (F:=AD EE ih ft.get n 56) (AjG ih n) e),
 (fun ih n _ _ _ e=>Gd (F:=AD EE ih ft.get n 58) (AjP ih n) e)⟩⟩,
 ⟨⟨(fun ih n _ _ _ e=>Gd (F:=AD EE ih ft.get n 59) (Ajh ih n) e),
 (fun ih n _ _ _ e=>GY (F:=AD EE ih ft.get n 60) (AjY ih n) e)⟩,
 ⟨(fun ih n _ _ _ e=>Gd (F:=AD EE ih ft.get n 61) (Akt ih n) e),
 ⟨(fun ih n _ _ _ e=>GY (F:=AD EE ih ft.get n 62) (AiQ ih n) e),
 (fun ih n _ _ _ e=>GY (F:=AD EE ih ft.get n 63) (Akz ih n) e)⟩⟩⟩⟩⟩⟩,
 ⟨⟨⟨⟨⟨(fun ih n _ _ _ e=>Vo (F:=AD EE ih ft.get n 64) (AiL ih n) e),
 (fun ih n _ _ _ e=>Gd (F:=AD EE ih ft.get n 65) (Ajp ih n) e)⟩,
 ⟨(fun ih n _ _ _ e=>Gd (F:=AD EE ih ft.get n 66) (Akb ih n) e),
 (fun ih n _ _ _ e=>GY (F:=AD EE ih ft.get n 67) (Aky ih n) e)⟩⟩,
 ⟨⟨(fun ih n _ _ _ e=>GY (F:=AD EE ih ft.get n 68) (Ak7 ih n) e),
 (fun ih n _ _ _ e=>Cb (F:=AD EE ih ft.get n 69) (AiH ih n) e)⟩,
 ⟨(fun ih n _ _ _ e=>Vo (F:=AD EE ih ft.get n 70) (Akl ih n) e),
 (fun ih n _ _ _ e=>GY (F:=AD EE ih ft.get n 71) (AiM ih n) e)⟩⟩⟩,
 ⟨⟨⟨(fun ih n _ _ _ e=>Gd (F:=AD EE ih ft.get n 72) (Ai3 ih n) e),
 (fun ih n _ _ _ e=>Bo (F:=AD EE ih ft.get n 73) (AiO ih n) e)⟩,
 ⟨(fun ih n _ _ _ e=>Bo (F:=AD EE ih ft.get n 74) (AkU ih n) e),
 (fun ih n _ _ _ e=>Cb (F:=AD EE ih ft.get n 86) (Ajf ih n) e)⟩⟩,
 ⟨⟨(fun ih n _ _ _ e=>Bo (F:=AD EE ih ft.get n 87) (Akk ih n) e),
 (fun ih n _ _ _ e=>Bo (F:=AD EE ih ft.get n 88) (Ak2 ih n) e)⟩,
 ⟨(fun ih n _ _ _ e=>Bo (F:=AD EE ih ft.get n 89) (Aj8 ih n) e),
 ⟨(fun ih n _ _ _ e=>Gd (F:=AD EE ih ft.get n 90) (AiC ih n) e),
 (fun ih n _ _ _ e=>Cb (F:=AD EE ih ft.get n 91) (AjX ih n) e)⟩⟩⟩⟩⟩,
 ⟨⟨⟨⟨(fun ih n _ _ _ e=>Bo (F:=AD EE ih ft.get n 92) (AjB ih n) e),
 (fun ih n _ _ _ e=>Cb (F:=AD EE ih ft.get n 93) (AkV ih n) e)⟩,
 ⟨(fun ih n _ _ _ e=>Bo (F:=AD EE ih ft.get n 94) (Air ih n) e),
 (fun ih n _ _ _ e=>Bo (F:=AD EE ih ft.get n 95) (Akg ih n) e)⟩⟩,
 ⟨⟨(fun ih n _ _ _ e=>Bo (F:=AD EE ih ft.get n 96) (AjI ih n) e),
 (fun ih n _ _ _ e=>Bo (F:=AD EE ih ft.get n 97) (Ak5 ih n) e)⟩,
 ⟨(fun ih n _ _ _ e=>Bo (F:=AD EE ih ft.get n 98) (AjH ih n) e),
 ⟨(fun ih n _ _ _ e=>Cb (F:=AD EE ih ft.get n 99) (AiI ih n) e),
 (fun ih n _ _ _ e=>Bo (F:=AD EE ih ft.get n 100) (Ahl ih n) e)⟩⟩⟩⟩,
 ⟨⟨⟨(fun ih n _ _ _ e=>Bo (F:=AD EE ih ft.get n 101) (AgU ih n) e),
 (fun ih n _ _ _ e=>Bo (F:=AD EE ih ft.get n 102) (Agh ih n) e)⟩,
 ⟨(fun ih n _ _ _ e=>Gd (F:=AD EE ih ft.get n 103) (Agv ih n) e),
 (fun ih n _ _ _ e=>Bo (F:=AD EE ih ft.get n 104) (Aht ih n) e)⟩⟩,
 ⟨⟨(fun ih n _ _ _ e=>Bo (F:=AD EE ih ft.get n 107) (AgC ih n) e),
 (fun ih n _ _ _ e=>Cb (F:=AD EE ih ft.get n 108) (AfQ ih n) e)⟩,
 ⟨(fun ih n _ _ _ e=>Bo (F:=AD EE ih ft.get n 109) (AfR ih n) e),
 ⟨(fun ih n _ _ _ e=>Bo (F:=AD EE ih ft.get n 110) (Af7 ih n) e),
 (fun ih n _ _ _ e=>Bo (F:=AD EE ih ft.get n 111) (Ag0 ih n) e)⟩⟩⟩⟩⟩⟩⟩
theorem AiR:∀n f args h x,SS dt n f args h=some x→run EE n f args h=some x:=AmF Anq AlW
end
end Idl
end Go.Proofs.Ytkfecngimlcfoaa
